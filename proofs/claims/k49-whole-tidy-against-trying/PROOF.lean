import PyProof.Rows.All
import Wide.All
import OpenK.AllK
import Wide.FinOn
import HandS.Base
import HandS.Call
import HandS.List
import HandS.Comp
import HandS.Ends
import HandS.Dict
import HandS.Iter
import HandS.Words
import HandS.WordsList
import HandS.Flow
import HandS.Style
import HandS.Walk
import HandS.Defaults
import HandS.Codes
import KE.KeyNested
import KE.KDictKeyed
import KE.KDictPairs
import KE.KDictList
import KE.KEqDict
import KE.GoesNew
import HandS.Zip
import KE.KDictCopyH
import HandS.Conv
import HandS.SetFor
import HandS.Strs
import KE.DataMinMax
import KE.SortData
import HandS.TupMul
import HandS.More
import HandS.Star
import HandS.Deep
import KE.KStateDown
import HandS.WordsExc
import HandS.Head0
import HandS.Head1
import HandS.Head2
import HandS.HeadEnd
import HandS.HeadHook1
import HandS.HeadHook2
import HandS.HeadHook4
import PySem.Challenge.RW_fragweave_k49_whole_tidy_against_trying
section PartMat
set_option autoImplicit false
namespace FW
abbrev Ent := Bool × Nat
abbrev Tab := List (List Ent)
abbrev Let := Nat × Nat × Nat
/-- a sort: for each run its state, the rank of its owner's begin, that of its end -/
abbrev Ty := List (Nat × Nat × Nat)

def sgn (a b : Int) : Nat := if a < b then 0 else if b < a then 2 else 1

def insI (x : Int) : List Int → List Int
  | [] => [x]
  | y :: ys => if x < y then x :: y :: ys else if x = y then y :: ys else y :: insI x ys
def ordI : List Int → List Int
  | [] => []
  | x :: xs => insI x (ordI xs)

theorem mem_insI (x y : Int) : ∀ l, y ∈ insI x l ↔ y = x ∨ y ∈ l
  | [] => by simp [insI]
  | z :: zs => by
    unfold insI
    split
    · simp
    · split
      · rename_i h; subst h; simp
      · simp [mem_insI x y zs]; grind
theorem asc_insI (x : Int) : ∀ l : List Int, l.Pairwise (· < ·) → (insI x l).Pairwise (· < ·)
  | [], _ => by simp [insI]
  | z :: zs, h => by
    unfold insI
    have h1 := List.pairwise_cons.mp h
    split
    · rename_i hx
      refine List.pairwise_cons.mpr ⟨fun y hy => ?_, h⟩
      rcases List.mem_cons.mp hy with e | e
      · omega
      · have := h1.1 y e; omega
    · split
      · exact h
      · refine List.pairwise_cons.mpr ⟨fun y hy => ?_, asc_insI x zs h1.2⟩
        rcases (mem_insI x y zs).mp hy with e | e
        · omega
        · exact h1.1 y e
theorem mem_ordI (y : Int) : ∀ l, y ∈ ordI l ↔ y ∈ l
  | [] => by simp [ordI]
  | x :: xs => by rw [ordI, mem_insI, mem_ordI y xs]; simp
theorem asc_ordI : ∀ l, (ordI l).Pairwise (· < ·)
  | [] => by simp [ordI]
  | x :: xs => asc_insI x _ (asc_ordI xs)
/-- two ascending lists of the same members are one -/
theorem asc_ext : ∀ {a b : List Int}, a.Pairwise (· < ·) → b.Pairwise (· < ·) → (∀ x, x ∈ a ↔ x ∈ b) → a = b
  | [], [], _, _, _ => rfl
  | [], y :: _, _, _, h => by have := (h y).mpr (by simp); simp at this
  | x :: _, [], _, _, h => by have := (h x).mp (by simp); simp at this
  | x :: a, y :: b, ha, hb, h => by
    have h1 := List.pairwise_cons.mp ha
    have h2 := List.pairwise_cons.mp hb
    have e : x = y := by
      have q1 := (h x).mp (by simp)
      have q2 := (h y).mpr (by simp)
      rcases List.mem_cons.mp q1 with e | e
      · exact e
      · rcases List.mem_cons.mp q2 with e' | e'
        · exact e'.symm
        · have := h2.1 x e; have := h1.1 y e'; omega
    subst e
    rw [asc_ext h1.2 h2.2 fun z => ?_]
    constructor
    · intro hz
      have := h1.1 z hz
      rcases List.mem_cons.mp ((h z).mp (List.mem_cons_of_mem _ hz)) with e | e
      · omega
      · exact e
    · intro hz
      have := h2.1 z hz
      rcases List.mem_cons.mp ((h z).mpr (List.mem_cons_of_mem _ hz)) with e | e
      · omega
      · exact e
theorem ordI_eq {l o : List Int} (h : o.Pairwise (· < ·)) (m : ∀ x, x ∈ o ↔ x ∈ l) : o = ordI l :=
  asc_ext h (asc_ordI l) fun x => (m x).trans (mem_ordI x l).symm

def rank (xs : List Int) (x : Int) : Nat := ((ordI xs).filter (fun y => decide (y < x))).length
def ranksOf (xs : List Int) : List Nat := xs.map (rank xs)

/-- in an ascending list the number of lesser ones is the place -/
theorem count_lt : ∀ (o : List Int) (i : Nat) (x : Int), o.Pairwise (· < ·) → o[i]? = some x → (o.filter (fun y => decide (y < x))).length = i
  | [], i, x, _, h => by simp at h
  | z :: o, 0, x, ho, h => by
    simp at h; subst h
    have h1 := List.pairwise_cons.mp ho
    rw [List.filter_cons, if_neg (by simp)]
    rw [List.length_eq_zero_iff, List.filter_eq_nil_iff]
    intro y hy
    have := h1.1 y hy
    simp; omega
  | z :: o, i + 1, x, ho, h => by
    have h1 := List.pairwise_cons.mp ho
    have h2 : o[i]? = some x := by simpa using h
    have := h1.1 x (List.mem_of_getElem? h2)
    rw [List.filter_cons, if_pos (by simpa using this), List.length_cons, count_lt o i x h1.2 h2]
theorem rank_get {xs : List Int} {x : Int} (h : x ∈ xs) : (ordI xs)[rank xs x]? = some x := by
  obtain ⟨i, hi⟩ := List.mem_iff_getElem?.mp ((mem_ordI x xs).mpr h)
  have := count_lt _ i x (asc_ordI xs) hi
  unfold rank
  rw [this]; exact hi
theorem rank_lt {xs : List Int} {x : Int} (h : x ∈ xs) : rank xs x < (ordI xs).length := (List.getElem?_eq_some_iff.mp (rank_get h)).1
theorem asc_get {o : List Int} (ho : o.Pairwise (· < ·)) {i j : Nat} {x y : Int} (hi : o[i]? = some x) (hj : o[j]? = some y) : (i < j ↔ x < y) := by
  have key : ∀ {i j : Nat} {x y : Int}, o[i]? = some x → o[j]? = some y → i < j → x < y := by
    intro i j x y hi hj h
    obtain ⟨h1, e1⟩ := List.getElem?_eq_some_iff.mp hi
    obtain ⟨h2, e2⟩ := List.getElem?_eq_some_iff.mp hj
    have := List.pairwise_iff_getElem.mp ho i j h1 h2 h
    omega
  constructor
  · exact key hi hj
  · intro h
    rcases Nat.lt_trichotomy i j with q | q | q
    · exact q
    · subst q; rw [hi] at hj; cases hj; omega
    · have := key hj hi q; omega
theorem rank_iff {xs : List Int} {x y : Int} (hx : x ∈ xs) (hy : y ∈ xs) : (rank xs x < rank xs y ↔ x < y) := asc_get (asc_ordI xs) (rank_get hx) (rank_get hy)

/-- order-alike lists have the same ranks -/
theorem ord_zip : ∀ (zs : List (Int × Int)), (∀ p ∈ zs, ∀ q ∈ zs, (p.1 < q.1 ↔ p.2 < q.2)) → ∃ os : List (Int × Int), (∀ p ∈ os, p ∈ zs) ∧ os.map (·.1) = ordI (zs.map (·.1)) ∧ os.map (·.2) = ordI (zs.map (·.2))
  | [], _ => ⟨[], by simp, rfl, rfl⟩
  | z :: zs, h => by
    obtain ⟨os, h1, h2, h3⟩ := ord_zip zs fun p hp q hq => h p (List.mem_cons_of_mem _ hp) q (List.mem_cons_of_mem _ hq)
    have ins : ∀ os : List (Int × Int), (∀ p ∈ os, p ∈ zs) → ∃ os' : List (Int × Int), (∀ p ∈ os', p ∈ z :: zs) ∧ os'.map (·.1) = insI z.1 (os.map (·.1)) ∧ os'.map (·.2) = insI z.2 (os.map (·.2)) := by
      intro os
      induction os with
      | nil => intro _; exact ⟨[z], by simp, rfl, rfl⟩
      | cons o os ih =>
        intro hm
        obtain ⟨os', k1, k2, k3⟩ := ih fun p hp => hm p (List.mem_cons_of_mem _ hp)
        have ho : o ∈ zs := hm o List.mem_cons_self
        have a := h z List.mem_cons_self o (List.mem_cons_of_mem _ ho)
        have b := h o (List.mem_cons_of_mem _ ho) z List.mem_cons_self
        simp only [List.map_cons, insI]
        by_cases c1 : z.1 < o.1
        · rw [if_pos c1, if_pos (a.mp c1)]
          exact ⟨z :: o :: os, fun p hp => by
            rcases List.mem_cons.mp hp with e | e
            · subst e; simp
            · exact List.mem_cons_of_mem _ (hm p e), rfl, rfl⟩
        · rw [if_neg c1, if_neg (fun q => c1 (a.mpr q))]
          by_cases c2 : z.1 = o.1
          · have c3 : z.2 = o.2 := by
              have n1 : ¬ z.2 < o.2 := fun q => c1 (a.mpr q)
              have n2 : ¬ o.2 < z.2 := fun q => by have := b.mpr q; omega
              omega
            rw [if_pos c2, if_pos c3]
            exact ⟨o :: os, fun p hp => List.mem_cons_of_mem _ (hm p hp), rfl, rfl⟩
          · have c3 : ¬ z.2 = o.2 := by
              have : o.1 < z.1 := by omega
              have := b.mp this; omega
            rw [if_neg c2, if_neg c3]
            exact ⟨o :: os', fun p hp => by
              rcases List.mem_cons.mp hp with e | e
              · subst e; exact List.mem_cons_of_mem _ ho
              · exact k1 p e, by rw [List.map_cons, k2], by rw [List.map_cons, k3]⟩
    obtain ⟨os', k1, k2, k3⟩ := ins os h1
    refine ⟨os', k1, ?_, ?_⟩
    · rw [List.map_cons, ordI, ← h2, k2]
    · rw [List.map_cons, ordI, ← h3, k3]
theorem rank_zip {zs : List (Int × Int)} (h : ∀ p ∈ zs, ∀ q ∈ zs, (p.1 < q.1 ↔ p.2 < q.2)) {p : Int × Int} (hp : p ∈ zs) : rank (zs.map (·.1)) p.1 = rank (zs.map (·.2)) p.2 := by
  obtain ⟨os, h1, h2, h3⟩ := ord_zip zs h
  unfold rank
  rw [← h2, ← h3, List.filter_map, List.filter_map, List.length_map, List.length_map]
  congr 1
  refine List.filter_congr fun q hq => ?_
  have := h q (h1 q hq) p hp
  simp only [Function.comp]
  rw [decide_eq_decide]
  exact this
theorem ranks_zip {zs : List (Int × Int)} (h : ∀ p ∈ zs, ∀ q ∈ zs, (p.1 < q.1 ↔ p.2 < q.2)) : ranksOf (zs.map (·.1)) = ranksOf (zs.map (·.2)) := by
  unfold ranksOf
  rw [List.map_map, List.map_map]
  exact List.map_congr_left fun p hp => rank_zip h hp

/-! ### numbers that lie so among others -/
def far : Int := 2 ^ 60 * 2 ^ 60
def numAt (xs : List Int) (spot : Nat) : Int :=
  let o := ordI xs
  if spot % 2 = 1 then o.getD (spot / 2) 0
  else if spot = 0 then o.getD 0 0 - far
  else if spot = 2 * o.length then o.getD (o.length - 1) 0 + far
  else (o.getD (spot / 2 - 1) 0 + o.getD (spot / 2) 0) / 2
/-- two different ones lie g apart at least -/
def Gap (g : Int) (xs : List Int) : Prop := ∀ x ∈ xs, ∀ y ∈ xs, x < y → x + g ≤ y
theorem getD_of {o : List Int} {i : Nat} {x d : Int} (h : o[i]? = some x) : o.getD i d = x := by
  rw [List.getD_eq_getElem?_getD, h]; rfl
theorem asc_le {o : List Int} (ho : o.Pairwise (· < ·)) {i j : Nat} {x y : Int} (hi : o[i]? = some x) (hj : o[j]? = some y) (h : i ≤ j) : x ≤ y := by
  rcases Nat.lt_or_ge i j with q | q
  · have := (asc_get ho hi hj).mp q; omega
  · have e : i = j := by omega
    subst e; rw [hi] at hj; cases hj; omega
theorem numAt_sgn {xs : List Int} {g : Int} (hg : 2 ≤ g) (hf : g ≤ far) (G : Gap g xs) {spot : Nat} (hs : spot ≤ 2 * (ordI xs).length) (h0 : 0 < (ordI xs).length) :
    ∀ x ∈ xs, sgn (numAt xs spot) x = sgn spot (2 * (rank xs x : Int) + 1) ∧ (numAt xs spot < x → numAt xs spot + g / 2 ≤ x) ∧ (x < numAt xs spot → x + g / 2 ≤ numAt xs spot) := by
  intro x hx
  have ho := asc_ordI xs
  have hr := rank_get hx
  have hl := rank_lt hx
  have mem : ∀ {i : Nat} {y : Int}, (ordI xs)[i]? = some y → y ∈ xs := fun h => (mem_ordI _ xs).mp (List.mem_of_getElem? h)
  have get : ∀ i, i < (ordI xs).length → ∃ y, (ordI xs)[i]? = some y := fun i h => ⟨_, List.getElem?_eq_getElem h⟩
  have hpos := h0
  unfold numAt
  simp only
  have hg2 : g / 2 ≤ far := by unfold far at *; omega
  by_cases h1 : spot % 2 = 1
  · rw [if_pos h1]
    have hi : spot / 2 < (ordI xs).length := by omega
    obtain ⟨y, hy⟩ := get _ hi
    rw [getD_of hy]
    have a := asc_get ho hy hr
    have b := asc_get ho hr hy
    have G1 := G y (mem hy) x hx
    have G2 := G x hx y (mem hy)
    refine ⟨?_, fun q => ?_, fun q => ?_⟩
    · unfold sgn
      by_cases c1 : y < x
      · have := a.mpr c1
        rw [if_pos c1, if_pos (by omega)]
      · by_cases c2 : x < y
        · have := b.mpr c2
          rw [if_neg c1, if_pos c2, if_neg (by omega), if_pos (by omega)]
        · have n1 : ¬ spot / 2 < rank xs x := fun q => c1 (a.mp q)
          have n2 : ¬ rank xs x < spot / 2 := fun q => c2 (b.mp q)
          rw [if_neg c1, if_neg c2, if_neg (by omega), if_neg (by omega)]
    · have := G1 q; omega
    · have := G2 q; omega
  · rw [if_neg h1]
    by_cases h2 : spot = 0
    · rw [if_pos h2]
      obtain ⟨y, hy⟩ := get 0 hpos
      rw [getD_of hy]
      have := asc_le ho hy hr (Nat.zero_le _)
      refine ⟨?_, fun q => by omega, fun q => by unfold far at *; omega⟩
      unfold sgn
      rw [if_pos (by unfold far at *; omega), if_pos (by omega)]
    · rw [if_neg h2]
      by_cases h3 : spot = 2 * (ordI xs).length
      · rw [if_pos h3]
        obtain ⟨y, hy⟩ := get ((ordI xs).length - 1) (by omega)
        rw [getD_of hy]
        have := asc_le ho hr hy (by omega)
        refine ⟨?_, fun q => by unfold far at *; omega, fun q => by omega⟩
        unfold sgn
        rw [if_neg (by unfold far at *; omega), if_pos (by unfold far at *; omega), if_neg (by omega), if_pos (by omega)]
      · rw [if_neg h3]
        obtain ⟨y, hy⟩ := get (spot / 2 - 1) (by omega)
        obtain ⟨z, hz⟩ := get (spot / 2) (by omega)
        rw [getD_of hy, getD_of hz]
        have hyz : y < z := (asc_get ho hy hz).mp (by omega)
        have Gz := G y (mem hy) z (mem hz) hyz
        rcases Nat.lt_or_ge (rank xs x) (spot / 2) with q | q
        · have := asc_le ho hr hy (by omega)
          refine ⟨?_, fun q => by omega, fun q => by omega⟩
          unfold sgn
          rw [if_neg (by omega), if_pos (by omega), if_neg (by omega), if_pos (by omega)]
        · have := asc_le ho hz hr q
          refine ⟨?_, fun q => by omega, fun q => by omega⟩
          unfold sgn
          rw [if_pos (by omega), if_pos (by omega)]

/-! ### entries, letters, what comes behind -/
def ent (t : Tab) (s i : Nat) : Ent := (t.getD s []).getD i (false, 0)
def ansOf (tabs : List Tab) (ty : Ty) (l : Let) : List Ent :=
  List.zipWith (fun t r => ent t r.1 (9 * sgn l.1 (2 * (r.2.1 : Int) + 1) + 3 * sgn l.2.1 (2 * (r.2.2 : Int) + 1) + l.2.2)) tabs ty
def ansPass (tabs : List Tab) (ty : Ty) (l : Let) : List Ent := ansOf tabs ty l
def ansLeave (tabs : List Tab) (ty : Ty) (l : Let) : List Ent := ansOf (tabs.take 1) ty l ++ (ty.drop 1).map (fun r => (false, r.1))
def fails (v : Nat) (ans : List Ent) : Bool := decide (v ≠ 1) && ((ans.map (·.1)).contains true && (ans.map (·.1)).contains false)
def mkTy (st bg en : List Nat) : Ty := List.zip st (List.zip bg en)
def spB (l : Let) (a : Ent) (r : Nat × Nat × Nat) : Int := if a.1 then (l.1 : Int) else 2 * (r.2.1 : Int) + 1
def spE (l : Let) (a : Ent) (r : Nat × Nat × Nat) : Int := if a.1 then (l.2.1 : Int) else 2 * (r.2.2 : Int) + 1
def tyAfter (ty : Ty) (l : Let) (ans : List Ent) : Option Ty :=
  if fails l.2.2 ans then none
  else some (mkTy (ans.map (·.2)) (ranksOf (List.zipWith (spB l) ans ty)) (ranksOf (List.zipWith (spE l) ans ty)))
def afterP (tabs : List Tab) (ty : Ty) (l : Let) : Option Ty := tyAfter ty l (ansPass tabs ty l)
def afterL (tabs : List Tab) (ty : Ty) (l : Let) : Option Ty := tyAfter ty l (ansLeave tabs ty l)

/-! ### runs -/
abbrev Own := Int × Int × Int
abbrev Run := Nat × Own
def begs (rs : List Run) : List Int := rs.map (·.2.1)
def ends (rs : List Run) : List Int := rs.map (·.2.2.1)
def vals (rs : List Run) : List Int := rs.map (·.2.2.2)
def headOf (rs : List Run) : Ty := mkTy (rs.map (·.1)) (ranksOf (begs rs)) (ranksOf (ends rs))
def entBy (t : Tab) (r : Run) (p : Own) : Ent := ent t r.1 (9 * sgn p.1 r.2.1 + 3 * sgn p.2.1 r.2.2.1 + sgn p.2.2 r.2.2.2)
def app (p : Own) (a : Ent) (r : Run) : Run := (a.2, if a.1 then p else r.2)
def goneOn (t : Tab) (r : Run) (p : Own) : Run := app p (entBy t r p) r
def moved (tabs : List Tab) (rs : List Run) (p : Own) (pass : Bool) : List Run :=
  match tabs, rs with
  | t :: ts, r :: rs => goneOn t r p :: (if pass then List.zipWith (fun t r => goneOn t r p) ts rs else rs)
  | _, _ => []
def unlike (rs : List Run) : Bool := decide (1 < (ordI (vals rs)).length)
def pieceBy (rs : List Run) (l : Let) : Own := (numAt (begs rs) l.1, numAt (ends rs) l.2.1, (vals rs).getD 0 0 + l.2.2 - 1)
def movedA (ans : List Ent) (rs : List Run) (p : Own) : List Run := List.zipWith (app p) ans rs

theorem headOf_eq (rs : List Run) : headOf rs = rs.map fun r => (r.1, rank (begs rs) r.2.1, rank (ends rs) r.2.2.1) := by
  unfold headOf mkTy ranksOf begs ends
  rw [List.map_map, List.map_map, List.zip_map', List.zip_map']
  rfl
theorem headOf_length (rs : List Run) : (headOf rs).length = rs.length := by rw [headOf_eq, List.length_map]
theorem mkTy_map {α : Type} (xs : List α) (f g h : α → Nat) : mkTy (xs.map f) (xs.map g) (xs.map h) = xs.map fun x => (f x, g x, h x) := by
  unfold mkTy
  rw [List.zip_map', List.zip_map']

theorem like_iff (rs : List Run) : unlike rs = false ↔ ∀ a ∈ vals rs, ∀ b ∈ vals rs, a = b := by
  unfold unlike
  rw [decide_eq_false_iff_not]
  have ho := asc_ordI (vals rs)
  constructor
  · intro h a ha b hb
    have ha' := (mem_ordI a _).mpr ha
    have hb' := (mem_ordI b _).mpr hb
    generalize ordI (vals rs) = o at *
    match o, h with
    | [], _ => simp at ha'
    | [z], _ => simp at ha' hb'; omega
    | _ :: _ :: _, h => exact absurd (by simp) h
  · intro h
    have mem : ∀ a, a ∈ ordI (vals rs) → a ∈ vals rs := fun a ha => (mem_ordI a _).mp ha
    generalize ordI (vals rs) = o at *
    match o, ho with
    | [], _ => simp
    | [z], _ => simp
    | x :: y :: r, ho =>
      have := (List.pairwise_cons.mp ho).1 y (by simp)
      have := h x (mem x (by simp)) y (mem y (by simp))
      omega
/-- the entries by letters are those by places -/
theorem ans_eq {rs : List Run} {l : Let} {p : Own} {v : Int} (hb : ∀ r ∈ rs, sgn p.1 r.2.1 = sgn l.1 (2 * (rank (begs rs) r.2.1 : Int) + 1)) (he : ∀ r ∈ rs, sgn p.2.1 r.2.2.1 = sgn l.2.1 (2 * (rank (ends rs) r.2.2.1 : Int) + 1))
    (hv : ∀ r ∈ rs, r.2.2.2 = v) (hp : p.2.2 = v + l.2.2 - 1) (hl : l.2.2 < 3) : ∀ (tabs : List Tab), ansOf tabs (headOf rs) l = List.zipWith (fun t r => entBy t r p) tabs rs := by
  intro tabs
  unfold ansOf
  rw [headOf_eq, List.zipWith_map_right]
  have key : ∀ (ts : List Tab) (qs : List Run), (∀ r ∈ qs, r ∈ rs) → List.zipWith (fun t r => ent t (r.1, rank (begs rs) r.2.1, rank (ends rs) r.2.2.1).1 (9 * sgn l.1 (2 * ((r.1, rank (begs rs) r.2.1, rank (ends rs) r.2.2.1).2.1 : Int) + 1) + 3 * sgn l.2.1 (2 * ((r.1, rank (begs rs) r.2.1, rank (ends rs) r.2.2.1).2.2 : Int) + 1) + l.2.2)) ts qs = List.zipWith (fun t r => entBy t r p) ts qs := by
    intro ts
    induction ts with
    | nil => intro qs _; rfl
    | cons t ts ih =>
      intro qs hq
      cases qs with
      | nil => rfl
      | cons q qs =>
        have hq0 : q ∈ rs := hq q List.mem_cons_self
        rw [List.zipWith_cons_cons, List.zipWith_cons_cons, ih qs fun r h => hq r (List.mem_cons_of_mem _ h)]
        congr 1
        unfold entBy
        rw [hb q hq0, he q hq0]
        have : sgn p.2.2 q.2.2.2 = l.2.2 := by
          rw [hv q hq0, hp]
          unfold sgn
          have : l.2.2 = 0 ∨ l.2.2 = 1 ∨ l.2.2 = 2 := by omega
          rcases this with e | e | e <;> rw [e] <;> (repeat' split) <;> omega
        rw [this]
  exact key tabs rs fun _ h => h

theorem moved_pass {tabs : List Tab} {rs : List Run} {p : Own} (hl : tabs.length = rs.length) (h0 : 0 < rs.length) : moved tabs rs p true = movedA (List.zipWith (fun t r => entBy t r p) tabs rs) rs p := by
  have key : ∀ (ts : List Tab) (qs : List Run), ts.length = qs.length → List.zipWith (fun t r => goneOn t r p) ts qs = List.zipWith (app p) (List.zipWith (fun t r => entBy t r p) ts qs) qs := by
    intro ts
    induction ts with
    | nil => intro qs _; rfl
    | cons t ts ih =>
      intro qs h
      cases qs with
      | nil => rfl
      | cons q qs => 
        rw [List.zipWith_cons_cons, List.zipWith_cons_cons, List.zipWith_cons_cons, ih qs (by simpa using h)]
        rfl
  cases tabs with
  | nil => simp at hl; omega
  | cons t ts =>
    cases rs with
    | nil => simp at h0
    | cons r rs =>
      show goneOn t r p :: List.zipWith (fun t r => goneOn t r p) ts rs = _
      unfold movedA
      rw [List.zipWith_cons_cons, List.zipWith_cons_cons, key ts rs (by simpa using hl)]
      rfl
theorem moved_leave {tabs : List Tab} {rs : List Run} {p : Own} (hl : tabs.length = rs.length) (h0 : 0 < rs.length) :
    moved tabs rs p false = movedA (List.zipWith (fun t r => entBy t r p) (tabs.take 1) rs ++ ((headOf rs).drop 1).map (fun r => (false, r.1))) rs p := by
  cases tabs with
  | nil => simp at hl; omega
  | cons t ts =>
    cases rs with
    | nil => simp at h0
    | cons r rs =>
      have e : ((headOf (r :: rs)).drop 1).map (fun r => ((false, r.1) : Ent)) = rs.map fun r => (false, r.1) := by
        rw [headOf_eq, List.map_cons]
        show List.map _ (List.map _ rs) = _
        rw [List.map_map]
        rfl
      rw [e]
      show goneOn t r p :: rs = movedA (entBy t r p :: List.map (fun r => (false, r.1)) rs) (r :: rs) p
      unfold movedA
      rw [List.zipWith_cons_cons]
      congr 1
      clear e h0 hl
      induction rs with
      | nil => rfl
      | cons q qs ih =>
        rw [List.map_cons, List.zipWith_cons_cons, ← ih]
        rfl

theorem zipWith_zip {α β γ : Type} (f : α → β → γ) (as : List α) (bs : List β) : List.zipWith f as bs = (List.zip as bs).map fun x => f x.1 x.2 := by
  rw [List.zip, List.map_zipWith]
theorem movedA_zip (ans : List Ent) (rs : List Run) (p : Own) : movedA ans rs p = (List.zip ans rs).map fun x => app p x.1 x.2 := zipWith_zip _ _ _
theorem mem_movedA {ans : List Ent} {rs : List Run} {p : Own} {q : Run} (h : q ∈ movedA ans rs p) : ∃ a ∈ ans, ∃ r ∈ rs, q = app p a r := by
  rw [movedA_zip] at h
  obtain ⟨x, hx, rfl⟩ := List.mem_map.mp h
  exact ⟨x.1, (List.of_mem_zip hx).1, x.2, (List.of_mem_zip hx).2, rfl⟩
theorem zip_left {α β : Type} {as : List α} {bs : List β} (h : as.length = bs.length) {a : α} (ha : a ∈ as) : ∃ b, (a, b) ∈ List.zip as bs := by
  obtain ⟨i, hi, e⟩ := List.mem_iff_getElem.mp ha
  exact ⟨bs[i]'(h ▸ hi), List.mem_iff_getElem.mpr ⟨i, by rw [List.length_zip]; omega, by rw [List.getElem_zip, e]⟩⟩
theorem app_val (p : Own) (a : Ent) (r : Run) : (app p a r).2.2.2 = if a.1 then p.2.2 else r.2.2.2 := by
  unfold app; cases a.1 <;> rfl
theorem app_beg (p : Own) (a : Ent) (r : Run) : (app p a r).2.1 = if a.1 then p.1 else r.2.1 := by
  unfold app; cases a.1 <;> rfl
theorem app_end (p : Own) (a : Ent) (r : Run) : (app p a r).2.2.1 = if a.1 then p.2.1 else r.2.2.1 := by
  unfold app; cases a.1 <;> rfl

/-- a piece by a letter: what the runs read behind it, their sort -/
theorem step_like {ans : List Ent} {rs : List Run} {p : Own} {l : Let} {v : Int} (hlen : ans.length = rs.length) (hv : ∀ r ∈ rs, r.2.2.2 = v) (hp : p.2.2 = v + l.2.2 - 1) :
    unlike (movedA ans rs p) = fails l.2.2 ans := by
  cases hf : fails l.2.2 ans with
  | true =>
    unfold fails at hf
    simp only [Bool.and_eq_true, decide_eq_true_eq, List.contains_iff_mem, List.mem_map] at hf
    obtain ⟨h1, ⟨a, ha, ea⟩, ⟨b, hb, eb⟩⟩ := hf
    obtain ⟨r, hr⟩ := zip_left hlen ha
    obtain ⟨q, hq⟩ := zip_left hlen hb
    cases hu : unlike (movedA ans rs p) with
    | true => rfl
    | false =>
      have ma : app p a r ∈ movedA ans rs p := by rw [movedA_zip]; exact List.mem_map.mpr ⟨_, hr, rfl⟩
      have mb : app p b q ∈ movedA ans rs p := by rw [movedA_zip]; exact List.mem_map.mpr ⟨_, hq, rfl⟩
      have := (like_iff _).mp hu _ (List.mem_map.mpr ⟨_, ma, rfl⟩) _ (List.mem_map.mpr ⟨_, mb, rfl⟩)
      rw [app_val, app_val, ea, eb] at this
      have e2 := hv q (List.of_mem_zip hq).2
      simp at this
      omega
  | false =>
    refine (like_iff _).mpr fun x hx y hy => ?_
    obtain ⟨qx, hqx, rfl⟩ := List.mem_map.mp hx
    obtain ⟨qy, hqy, rfl⟩ := List.mem_map.mp hy
    obtain ⟨a, ha, r, hr, rfl⟩ := mem_movedA hqx
    obtain ⟨b, hb, q, hq, rfl⟩ := mem_movedA hqy
    have e1 := hv r hr
    have e2 := hv q hq
    rw [app_val, app_val]
    by_cases h1 : l.2.2 = 1
    · rw [hp, e1, e2, h1]
      split <;> split <;> omega
    · unfold fails at hf
      rw [decide_eq_true h1, Bool.true_and, Bool.and_eq_false_iff] at hf
      have n1 : ∀ c : Bool, (ans.map (·.1)).contains c = false → c ∉ ans.map (·.1) := fun c h hm => by
        rw [List.contains_iff_mem.mpr hm] at h; cases h
      cases ea : a.1 <;> cases eb : b.1 <;> simp only [if_true, Bool.false_eq_true, if_false]
      · omega
      · rcases hf with h | h
        · exact absurd (List.mem_map.mpr ⟨b, hb, eb⟩) (n1 _ h)
        · exact absurd (List.mem_map.mpr ⟨a, ha, ea⟩) (n1 _ h)
      · rcases hf with h | h
        · exact absurd (List.mem_map.mpr ⟨a, ha, ea⟩) (n1 _ h)
        · exact absurd (List.mem_map.mpr ⟨b, hb, eb⟩) (n1 _ h)
theorem sgn_lt {a b c d : Int} (h : sgn a b = sgn c d) : (a < b ↔ c < d) ∧ (b < a ↔ d < c) := by
  unfold sgn at h
  repeat' split at h
  all_goals first | (exfalso; omega) | (constructor <;> constructor <;> intro _ <;> omega)
/-- the ranks behind: by letters, by places -/
theorem ranks_moved {α : Type} {xs : List Int} {y : Int} {s : Nat} (zs : List (Bool × α)) (f : α → Int) (hx : ∀ z ∈ zs, f z.2 ∈ xs) (hs : ∀ x ∈ xs, sgn y x = sgn s (2 * (rank xs x : Int) + 1)) :
    ranksOf (zs.map fun z => if z.1 then (s : Int) else 2 * (rank xs (f z.2) : Int) + 1) = ranksOf (zs.map fun z => if z.1 then y else f z.2) := by
  have h := ranks_zip (zs := zs.map fun z => (if z.1 then (s : Int) else 2 * (rank xs (f z.2) : Int) + 1, if z.1 then y else f z.2)) ?_
  · rw [List.map_map, List.map_map] at h
    exact h
  · intro p hp q hq
    obtain ⟨z, hz, rfl⟩ := List.mem_map.mp hp
    obtain ⟨w, hw, rfl⟩ := List.mem_map.mp hq
    have a := hx z hz
    have b := hx w hw
    have sa := sgn_lt (hs _ a)
    have sb := sgn_lt (hs _ b)
    have r := rank_iff a b
    cases z.1 <;> cases w.1 <;> simp <;> omega
theorem zip_map_r {α β γ : Type} (f : β → γ) (as : List α) (bs : List β) : List.zip as (bs.map f) = (List.zip as bs).map fun x => (x.1, f x.2) := by
  rw [List.zip_map_right]; rfl
theorem step_ty {ans : List Ent} {rs : List Run} {p : Own} {l : Let} (hlen : ans.length = rs.length) (hb : ∀ r ∈ rs, sgn p.1 r.2.1 = sgn l.1 (2 * (rank (begs rs) r.2.1 : Int) + 1)) (he : ∀ r ∈ rs, sgn p.2.1 r.2.2.1 = sgn l.2.1 (2 * (rank (ends rs) r.2.2.1 : Int) + 1))
    (hf : fails l.2.2 ans = false) : tyAfter (headOf rs) l ans = some (headOf (movedA ans rs p)) := by
  unfold tyAfter
  rw [hf, if_neg (by decide)]
  congr 1
  have e0 : ans.map (·.2) = (movedA ans rs p).map (·.1) := by
    rw [movedA_zip, List.map_map]
    show _ = (List.zip ans rs).map (fun x => x.1.2)
    have := List.map_fst_zip (l₁ := ans) (l₂ := rs) (by omega)
    conv => lhs; rw [← this, List.map_map]
    rfl
  have e1 : ranksOf (List.zipWith (spB l) ans (headOf rs)) = ranksOf (begs (movedA ans rs p)) := by
    rw [zipWith_zip, headOf_eq, zip_map_r, List.map_map, movedA_zip]
    unfold begs
    rw [List.map_map]
    have h := ranks_moved (xs := rs.map (·.2.1)) (y := p.1) (s := l.1) ((List.zip ans rs).map fun x => (x.1.1, x.2)) (fun r : Run => r.2.1) ?_ ?_
    · rw [List.map_map, List.map_map] at h
      refine Eq.trans (Eq.trans ?_ h) ?_
      · rfl
      · congr 1
        exact List.map_congr_left fun x _ => (app_beg p x.1 x.2).symm
    · intro z hz
      obtain ⟨x, hx, rfl⟩ := List.mem_map.mp hz
      exact List.mem_map.mpr ⟨_, (List.of_mem_zip hx).2, rfl⟩
    · intro x hx
      obtain ⟨r, hr, rfl⟩ := List.mem_map.mp hx
      exact hb r hr
  have e2 : ranksOf (List.zipWith (spE l) ans (headOf rs)) = ranksOf (ends (movedA ans rs p)) := by
    rw [zipWith_zip, headOf_eq, zip_map_r, List.map_map, movedA_zip]
    unfold ends
    rw [List.map_map]
    have h := ranks_moved (xs := rs.map (·.2.2.1)) (y := p.2.1) (s := l.2.1) ((List.zip ans rs).map fun x => (x.1.1, x.2)) (fun r : Run => r.2.2.1) ?_ ?_
    · rw [List.map_map, List.map_map] at h
      refine Eq.trans (Eq.trans ?_ h) ?_
      · rfl
      · congr 1
        exact List.map_congr_left fun x _ => (app_end p x.1 x.2).symm
    · intro z hz
      obtain ⟨x, hx, rfl⟩ := List.mem_map.mp hz
      exact List.mem_map.mpr ⟨_, (List.of_mem_zip hx).2, rfl⟩
    · intro x hx
      obtain ⟨r, hr, rfl⟩ := List.mem_map.mp hx
      exact he r hr
  rw [e0, e1, e2]
  rfl

/-! ### letters -/
def maxN : List Nat → Nat
  | [] => 0
  | x :: xs => max x (maxN xs)
theorem le_maxN : ∀ {xs : List Nat} {x : Nat}, x ∈ xs → x ≤ maxN xs
  | y :: ys, x, h => by
    unfold maxN
    rcases List.mem_cons.mp h with e | e
    · omega
    · have := le_maxN e; omega
theorem maxN_mem : ∀ {xs : List Nat}, xs ≠ [] → maxN xs ∈ xs
  | [x], _ => by simp [maxN]
  | x :: y :: r, _ => by
    have h := maxN_mem (xs := y :: r) (by simp)
    unfold maxN
    rcases Nat.le_total x (maxN (y :: r)) with q | q
    · rw [Nat.max_eq_right q]; exact List.mem_cons_of_mem _ h
    · rw [Nat.max_eq_left q]; exact List.mem_cons_self
def bgs (ty : Ty) : List Nat := ty.map (·.2.1)
def ens (ty : Ty) : List Nat := ty.map (·.2.2)
def sts (ty : Ty) : List Nat := ty.map (·.1)
def nB (ty : Ty) : Nat := 2 * maxN (bgs ty) + 3
def nE (ty : Ty) : Nat := 2 * maxN (ens ty) + 3
def lettersOf (ty : Ty) : List Let := (List.range (nB ty)).flatMap fun b => (List.range (nE ty)).flatMap fun e => (List.range 3).map fun v => (b, e, v)
theorem mem_letters {ty : Ty} {l : Let} : l ∈ lettersOf ty ↔ l.1 < nB ty ∧ l.2.1 < nE ty ∧ l.2.2 < 3 := by
  unfold lettersOf
  simp only [List.mem_flatMap, List.mem_range, List.mem_map]
  constructor
  · rintro ⟨b, hb, e, he, v, hv, rfl⟩
    exact ⟨hb, he, hv⟩
  · rintro ⟨hb, he, hv⟩
    exact ⟨l.1, hb, l.2.1, he, l.2.2, hv, rfl⟩
/-- a list of blocks of one length, read by block and place -/
theorem flat_get {α : Type} {m : Nat} (f : Nat → List α) (hf : ∀ b, (f b).length = m) : ∀ (n : Nat) (b i : Nat), b < n → i < m → ((List.range n).flatMap f)[b * m + i]? = (f b)[i]?
  | 0, b, i, hb, _ => by omega
  | n + 1, b, i, hb, hi => by
    rw [List.range_succ, List.flatMap_append, List.flatMap_singleton]
    have hl : ((List.range n).flatMap f).length = n * m := by
      have : ∀ k, ((List.range k).flatMap f).length = k * m := by
        intro k
        induction k with
        | zero => simp
        | succ k ih => rw [List.range_succ, List.flatMap_append, List.length_append, ih, List.flatMap_singleton, hf, Nat.succ_mul]
      exact this n
    by_cases h : b < n
    · rw [List.getElem?_append_left]
      · exact flat_get f hf n b i h hi
      · rw [hl]
        calc b * m + i < b * m + m := by omega
          _ = (b + 1) * m := by rw [Nat.succ_mul]
          _ ≤ n * m := Nat.mul_le_mul_right _ h
    · have e : b = n := by omega
      subst e
      rw [List.getElem?_append_right (by rw [hl]; omega), hl]
      congr 1
      omega
theorem flat_len {α : Type} {m : Nat} (f : Nat → List α) (hf : ∀ b, (f b).length = m) (n : Nat) : ((List.range n).flatMap f).length = n * m := by
  induction n with
  | zero => simp
  | succ k ih => rw [List.range_succ, List.flatMap_append, List.length_append, ih, List.flatMap_singleton, hf, Nat.succ_mul]
theorem letters_len (ty : Ty) : (lettersOf ty).length = nB ty * (nE ty * 3) :=
  flat_len _ (fun b => flat_len _ (fun e => by simp) _) _
theorem letters_get {ty : Ty} {b e v : Nat} (hb : b < nB ty) (he : e < nE ty) (hv : v < 3) : (lettersOf ty)[3 * (b * nE ty + e) + v]? = some (b, e, v) := by
  unfold lettersOf
  have e1 : 3 * (b * nE ty + e) + v = b * (nE ty * 3) + (e * 3 + v) := by
    rw [Nat.mul_add, Nat.mul_comm 3 (b * nE ty), Nat.mul_assoc, Nat.mul_comm 3 e, Nat.add_assoc]
  rw [e1, flat_get _ (fun b => flat_len _ (fun e => by simp) _) _ _ _ hb (by omega), flat_get _ (fun e => by simp) _ _ _ he hv]
  rw [List.getElem?_map, List.getElem?_range hv]
  rfl

/-! ### a play: runs that lie as a sort says -/
structure Play (n : Nat) (g : Int) (rs : List Run) (ty : Ty) : Prop where
  len : rs.length = n
  pos : 0 < n
  head : headOf rs = ty
  same : ∀ a ∈ rs, ∀ b ∈ rs, a.2.2.2 = b.2.2.2
  gb : Gap g (begs rs)
  ge : Gap g (ends rs)
theorem bgs_head (rs : List Run) : bgs (headOf rs) = ranksOf (begs rs) := by
  rw [headOf_eq]; unfold bgs ranksOf begs; rw [List.map_map, List.map_map]; rfl
theorem ens_head (rs : List Run) : ens (headOf rs) = ranksOf (ends rs) := by
  rw [headOf_eq]; unfold ens ranksOf ends; rw [List.map_map, List.map_map]; rfl
theorem max_rank {xs : List Int} (h : xs ≠ []) : maxN (ranksOf xs) < (ordI xs).length := by
  have hm := maxN_mem (xs := ranksOf xs) (by unfold ranksOf; simpa using h)
  obtain ⟨x, hx, e⟩ := List.mem_map.mp hm
  rw [← e]; exact rank_lt hx
theorem gap_app {g : Int} (hg : 0 ≤ g) {xs : List Int} {y : Int} (G : Gap g xs) (h : ∀ x ∈ xs, (y < x → y + g / 2 ≤ x) ∧ (x < y → x + g / 2 ≤ y)) {zs : List Int} (hz : ∀ z ∈ zs, z = y ∨ z ∈ xs) : Gap (g / 2) zs := by
  intro a ha b hb hab
  rcases hz a ha with e | e <;> rcases hz b hb with e' | e'
  · omega
  · subst e; exact (h b e').1 hab
  · subst e'; exact (h a e).2 hab
  · have := G a e b e' hab; omega
theorem play_step {tabs : List Tab} {g : Int} {rs : List Run} {ty : Ty} (P : Play tabs.length g rs ty) (h2 : 2 ≤ g) (hf : g ≤ far) {l : Let} (hl : l ∈ lettersOf ty) (pass : Bool) :
    (if pass then afterP tabs ty l else afterL tabs ty l) = none ∧ unlike (moved tabs rs (pieceBy rs l) pass) = true ∨
    ∃ ty', (if pass then afterP tabs ty l else afterL tabs ty l) = some ty' ∧ unlike (moved tabs rs (pieceBy rs l) pass) = false ∧ Play tabs.length (g / 2) (moved tabs rs (pieceBy rs l) pass) ty' := by
  obtain ⟨hlen, hpos, hh, hsame, gb, ge⟩ := P
  subst hh
  have hne : rs ≠ [] := by rintro rfl; simp at hlen; omega
  obtain ⟨h1, h3, h4⟩ := mem_letters.mp hl
  have hB : begs rs ≠ [] := by unfold begs; simpa using hne
  have hE : ends rs ≠ [] := by unfold ends; simpa using hne
  have mb := max_rank hB
  have me := max_rank hE
  have nb := numAt_sgn h2 hf gb (spot := l.1) (by unfold nB at h1; rw [bgs_head] at h1; omega) (by omega)
  have nen := numAt_sgn h2 hf ge (spot := l.2.1) (by unfold nE at h3; rw [ens_head] at h3; omega) (by omega)
  generalize hp : pieceBy rs l = p
  have p1 : p.1 = numAt (begs rs) l.1 := by rw [← hp]; rfl
  have p2 : p.2.1 = numAt (ends rs) l.2.1 := by rw [← hp]; rfl
  obtain ⟨r0, rt, hr⟩ : ∃ r0 rt, rs = r0 :: rt := by cases rs with | nil => exact absurd rfl hne | cons a b => exact ⟨a, b, rfl⟩
  have p3 : p.2.2 = r0.2.2.2 + l.2.2 - 1 := by rw [← hp, hr]; rfl
  have hv : ∀ r ∈ rs, r.2.2.2 = r0.2.2.2 := fun r h => hsame r h r0 (by rw [hr]; exact List.mem_cons_self)
  have hb : ∀ r ∈ rs, sgn p.1 r.2.1 = sgn l.1 (2 * (rank (begs rs) r.2.1 : Int) + 1) := fun r h => by
    rw [p1]; exact (nb _ (List.mem_map.mpr ⟨r, h, rfl⟩)).1
  have he : ∀ r ∈ rs, sgn p.2.1 r.2.2.1 = sgn l.2.1 (2 * (rank (ends rs) r.2.2.1 : Int) + 1) := fun r h => by
    rw [p2]; exact (nen _ (List.mem_map.mpr ⟨r, h, rfl⟩)).1
  have ae := ans_eq hb he hv p3 h4
  have key : ∃ ans : List Ent, ans.length = rs.length ∧ moved tabs rs p pass = movedA ans rs p ∧ (if pass then afterP tabs (headOf rs) l else afterL tabs (headOf rs) l) = tyAfter (headOf rs) l ans := by
    cases pass with
    | true =>
      refine ⟨ansPass tabs (headOf rs) l, ?_, ?_, rfl⟩
      · unfold ansPass; rw [ae, List.length_zipWith]; omega
      · rw [moved_pass (by omega) (by omega)]; unfold ansPass; rw [ae]
    | false =>
      refine ⟨ansLeave tabs (headOf rs) l, ?_, ?_, rfl⟩
      · unfold ansLeave; rw [ae, List.length_append, List.length_zipWith, List.length_map, List.length_drop, headOf_length, List.length_take]; omega
      · rw [moved_leave (by omega) (by omega)]; unfold ansLeave; rw [ae]
  obtain ⟨ans, k1, k2, k3⟩ := key
  rw [k2, k3, step_like k1 hv p3]
  cases hfl : fails l.2.2 ans with
  | true => exact .inl ⟨by unfold tyAfter; rw [hfl]; rfl, rfl⟩
  | false =>
    refine .inr ⟨_, step_ty k1 hb he hfl, rfl, ?_, hpos, rfl, ?_, ?_, ?_⟩
    · unfold movedA; rw [List.length_zipWith]; omega
    · have q := step_like k1 hv p3
      rw [hfl] at q
      intro a ha b hb'
      exact (like_iff _).mp q _ (List.mem_map.mpr ⟨a, ha, rfl⟩) _ (List.mem_map.mpr ⟨b, hb', rfl⟩)
    · refine gap_app (by omega) gb (y := p.1) (fun x hx => by rw [p1]; exact (nb x hx).2) fun z hz => ?_
      obtain ⟨q, hq, rfl⟩ := List.mem_map.mp hz
      obtain ⟨a, ha, r, hr', rfl⟩ := mem_movedA hq
      rw [app_beg]
      split
      · exact .inl rfl
      · exact .inr (List.mem_map.mpr ⟨r, hr', rfl⟩)
    · refine gap_app (by omega) ge (y := p.2.1) (fun x hx => by rw [p2]; exact (nen x hx).2) fun z hz => ?_
      obtain ⟨q, hq, rfl⟩ := List.mem_map.mp hz
      obtain ⟨a, ha, r, hr', rfl⟩ := mem_movedA hq
      rw [app_end]
      split
      · exact .inl rfl
      · exact .inr (List.mem_map.mpr ⟨r, hr', rfl⟩)
def firstTy (n : Nat) : Ty := List.replicate n (0, 0, 0)
def firstRuns (n : Nat) : List Run := List.replicate n (0, 0, 0, 0)
theorem play_first {n : Nat} (h : 0 < n) (g : Int) : Play n g (firstRuns n) (firstTy n) := by
  have hb : begs (firstRuns n) = List.replicate n 0 := by unfold begs firstRuns; rw [List.map_replicate]
  have he : ends (firstRuns n) = List.replicate n 0 := by unfold ends firstRuns; rw [List.map_replicate]
  refine ⟨by simp [firstRuns], h, ?_, fun a ha b hb => ?_, fun x hx y hy => ?_, fun x hx y hy => ?_⟩
  · rw [headOf_eq, hb, he]
    unfold firstRuns firstTy
    rw [List.map_replicate]
    have : rank (List.replicate n 0) 0 = 0 := by
      unfold rank
      rw [List.length_eq_zero_iff, List.filter_eq_nil_iff]
      intro y hy
      have := List.eq_of_mem_replicate ((mem_ordI y _).mp hy)
      simp; omega
    rw [this]
  · rw [List.eq_of_mem_replicate ha, List.eq_of_mem_replicate hb]
  · rw [hb] at hx hy
    have := List.eq_of_mem_replicate hx
    have := List.eq_of_mem_replicate hy
    omega
  · rw [he] at hx hy
    have := List.eq_of_mem_replicate hx
    have := List.eq_of_mem_replicate hy
    omega

/-! ### the tables; the sorts that come about -/
structure TabOk (t : Tab) : Prop where
  pos : 0 < t.length
  most : t.length ≤ 6
  line : ∀ s ∈ t, s.length = 27
  to : ∀ s ∈ t, ∀ e ∈ s, e.2 < t.length
theorem ent_ok {t : Tab} (ok : TabOk t) {s i : Nat} (hs : s < t.length) (hi : i < 27) : ∃ q e, t[s]? = some q ∧ q[i]? = some e ∧ ent t s i = e ∧ q ∈ t ∧ e.2 < t.length := by
  have h1 : t[s]? = some t[s] := List.getElem?_eq_getElem hs
  have hl := ok.line t[s] (List.getElem_mem hs)
  have h2 : t[s][i]? = some (t[s][i]'(by omega)) := List.getElem?_eq_getElem (by omega)
  refine ⟨_, _, h1, h2, ?_, List.getElem_mem hs, ok.to _ (List.getElem_mem hs) _ (List.getElem_mem _)⟩
  unfold ent
  simp [List.getD_eq_getElem?_getD, h1, h2]
theorem ent_to {t : Tab} (ok : TabOk t) {s i : Nat} (hs : s < t.length) (hi : i < 27) : (ent t s i).2 < t.length := by
  obtain ⟨_, _, _, _, e, _, h⟩ := ent_ok ok hs hi
  rw [e]; exact h
theorem sgn_le (a b : Int) : sgn a b ≤ 2 := by unfold sgn; repeat' split
                                               all_goals omega
def twos : List (Nat × Nat) := [(0, 0), (0, 1), (1, 0)]
def U2 (n0 n1 : Nat) : List Ty := (List.range n0).flatMap fun s0 => (List.range n1).flatMap fun s1 => twos.flatMap fun b => twos.map fun e => [(s0, b.1, e.1), (s1, b.2, e.2)]
def U3 (n0 n1 n2 : Nat) : List Ty := (List.range n0).flatMap fun s0 => (List.range n1).flatMap fun s1 => (List.range n2).flatMap fun s2 => twos.flatMap fun b => twos.map fun e => [(s0, b.1, e.1), (s1, b.2, e.2), (s2, b.2, e.2)]
theorem mem_U2 {n0 n1 : Nat} {ty : Ty} : ty ∈ U2 n0 n1 ↔ ∃ s0 s1 b e, s0 < n0 ∧ s1 < n1 ∧ b ∈ twos ∧ e ∈ twos ∧ ty = [(s0, b.1, e.1), (s1, b.2, e.2)] := by
  unfold U2
  simp only [List.mem_flatMap, List.mem_range, List.mem_map]
  constructor
  · rintro ⟨s0, h0, s1, h1, b, hb, e, he, rfl⟩; exact ⟨s0, s1, b, e, h0, h1, hb, he, rfl⟩
  · rintro ⟨s0, s1, b, e, h0, h1, hb, he, rfl⟩; exact ⟨s0, h0, s1, h1, b, hb, e, he, rfl⟩
theorem mem_U3 {n0 n1 n2 : Nat} {ty : Ty} : ty ∈ U3 n0 n1 n2 ↔ ∃ s0 s1 s2 b e, s0 < n0 ∧ s1 < n1 ∧ s2 < n2 ∧ b ∈ twos ∧ e ∈ twos ∧ ty = [(s0, b.1, e.1), (s1, b.2, e.2), (s2, b.2, e.2)] := by
  unfold U3
  simp only [List.mem_flatMap, List.mem_range, List.mem_map]
  constructor
  · rintro ⟨s0, h0, s1, h1, s2, h2, b, hb, e, he, rfl⟩; exact ⟨s0, s1, s2, b, e, h0, h1, h2, hb, he, rfl⟩
  · rintro ⟨s0, s1, s2, b, e, h0, h1, h2, hb, he, rfl⟩; exact ⟨s0, h0, s1, h1, s2, h2, b, hb, e, he, rfl⟩
theorem ranks2 (x y : Int) : ∃ p ∈ twos, ranksOf [x, y] = [p.1, p.2] := by
  unfold ranksOf rank
  simp only [List.map_cons, List.map_nil, ordI, insI]
  rcases Int.lt_trichotomy x y with h | h | h
  · refine ⟨(0, 1), by simp [twos], ?_⟩
    have h' : ¬ y < x := by omega
    rw [if_pos h]
    simp [List.filter_cons, h, h']
  · subst h
    refine ⟨(0, 0), by simp [twos], ?_⟩
    simp
  · refine ⟨(1, 0), by simp [twos], ?_⟩
    have h' : ¬ x < y := by omega
    rw [if_neg (by omega), if_neg (by omega)]
    simp [List.filter_cons, h, h']
theorem ranks3 (x y : Int) : ∃ p ∈ twos, ranksOf [x, y, y] = [p.1, p.2, p.2] := by
  unfold ranksOf rank
  simp only [List.map_cons, List.map_nil, ordI, insI, Int.lt_irrefl, if_false, if_true]
  rcases Int.lt_trichotomy x y with h | h | h
  · refine ⟨(0, 1), by simp [twos], ?_⟩
    have h' : ¬ y < x := by omega
    rw [if_pos h]
    simp [List.filter_cons, h, h']
  · subst h
    refine ⟨(0, 0), by simp [twos], ?_⟩
    simp
  · refine ⟨(1, 0), by simp [twos], ?_⟩
    have h' : ¬ x < y := by omega
    rw [if_neg (by omega), if_neg (by omega)]
    simp [List.filter_cons, h, h']
def Closed (tabs : List Tab) (U : List Ty) : Prop := firstTy tabs.length ∈ U ∧ ∀ ty ∈ U, ∀ l ∈ lettersOf ty, ∀ ty', (afterP tabs ty l = some ty' ∨ afterL tabs ty l = some ty') → ty' ∈ U
theorem closed2 {t0 t1 : Tab} (h0 : TabOk t0) (h1 : TabOk t1) : Closed [t0, t1] (U2 t0.length t1.length) := by
  refine ⟨mem_U2.mpr ⟨0, 0, (0, 0), (0, 0), h0.pos, h1.pos, by simp [twos], by simp [twos], rfl⟩, ?_⟩
  intro ty hty l hl ty' h
  obtain ⟨s0, s1, b, e, g0, g1, hb, he, rfl⟩ := mem_U2.mp hty
  obtain ⟨l1, l2, l3⟩ := mem_letters.mp hl
  have key : ∀ ans : List Ent, (∃ a0 a1, ans = [a0, a1] ∧ a0.2 < t0.length ∧ a1.2 < t1.length) → tyAfter [(s0, b.1, e.1), (s1, b.2, e.2)] l ans = some ty' → ty' ∈ U2 t0.length t1.length := by
    rintro ans ⟨a0, a1, rfl, q0, q1⟩ h
    unfold tyAfter at h
    split at h
    · cases h
    · cases h
      obtain ⟨p, hp, ep⟩ := ranks2 (spB l a0 (s0, b.1, e.1)) (spB l a1 (s1, b.2, e.2))
      obtain ⟨q, hq, eq⟩ := ranks2 (spE l a0 (s0, b.1, e.1)) (spE l a1 (s1, b.2, e.2))
      refine mem_U2.mpr ⟨a0.2, a1.2, p, q, q0, q1, hp, hq, ?_⟩
      simp only [List.zipWith_cons_cons, List.zipWith_nil_left]
      rw [ep, eq]
      rfl
  have k0 := ent_to h0 g0 (i := 9 * sgn l.1 (2 * (b.1 : Int) + 1) + 3 * sgn l.2.1 (2 * (e.1 : Int) + 1) + l.2.2) (by have := sgn_le l.1 (2 * (b.1 : Int) + 1); have := sgn_le l.2.1 (2 * (e.1 : Int) + 1); omega)
  have k1 := ent_to h1 g1 (i := 9 * sgn l.1 (2 * (b.2 : Int) + 1) + 3 * sgn l.2.1 (2 * (e.2 : Int) + 1) + l.2.2) (by have := sgn_le l.1 (2 * (b.2 : Int) + 1); have := sgn_le l.2.1 (2 * (e.2 : Int) + 1); omega)
  rcases h with h | h
  · exact key _ ⟨_, _, rfl, k0, k1⟩ h
  · exact key _ ⟨_, _, rfl, k0, g1⟩ h
/-- old at alike values -/
def Calm (t : Tab) : Prop := ∀ s, s < t.length → ∀ b e, b ≤ 2 → e ≤ 2 → (ent t s (9 * b + 3 * e + 1)).1 = false
theorem fails_not {v : Nat} {a0 a1 a2 : Ent} (h : fails v [a0, a1, a2] = false) (hv : v ≠ 1) : a1.1 = a2.1 := by
  unfold fails at h
  rw [decide_eq_true hv, Bool.true_and] at h
  simp only [List.map_cons, List.map_nil] at h
  revert h
  cases a0.1 <;> cases a1.1 <;> cases a2.1 <;> simp
theorem closed3 {t0 t1 t2 : Tab} (h0 : TabOk t0) (h1 : TabOk t1) (h2 : TabOk t2) (hc : Calm t1 ∧ Calm t2 ∨ t1 = t2) : ∃ U, Closed [t0, t1, t2] U ∧ ∀ ty ∈ U, ty ∈ U3 t0.length t1.length t2.length := by
  -- the second and the third run have owners that lie alike; where the tables are one, the states too
  refine ⟨(U3 t0.length t1.length t2.length).filter fun ty => decide (t1 = t2 → (ty.map (·.1))[1]? = (ty.map (·.1))[2]?), ⟨?_, ?_⟩, fun ty h => (List.mem_filter.mp h).1⟩
  · refine List.mem_filter.mpr ⟨mem_U3.mpr ⟨0, 0, 0, (0, 0), (0, 0), h0.pos, h1.pos, h2.pos, by simp [twos], by simp [twos], rfl⟩, ?_⟩
    simp [firstTy]
  intro ty hty l hl ty' h
  obtain ⟨hu, hss⟩ := List.mem_filter.mp hty
  obtain ⟨s0, s1, s2, b, e, g0, g1, g2, hb, he, rfl⟩ := mem_U3.mp hu
  have hss : t1 = t2 → s1 = s2 := fun q => by simpa [q] using hss
  obtain ⟨l1, l2, l3⟩ := mem_letters.mp hl
  have key : ∀ ans : List Ent, (∃ a0 a1 a2, ans = [a0, a1, a2] ∧ a0.2 < t0.length ∧ a1.2 < t1.length ∧ a2.2 < t2.length ∧ (fails l.2.2 ans = false → a1.1 = a2.1) ∧ (t1 = t2 → a1.2 = a2.2)) → tyAfter [(s0, b.1, e.1), (s1, b.2, e.2), (s2, b.2, e.2)] l ans = some ty' →
      ty' ∈ (U3 t0.length t1.length t2.length).filter fun ty => decide (t1 = t2 → (ty.map (·.1))[1]? = (ty.map (·.1))[2]?) := by
    rintro ans ⟨a0, a1, a2, rfl, q0, q1, q2, hw, hst⟩ h
    unfold tyAfter at h
    split at h
    · cases h
    · rename_i hf
      have hw := hw (by simpa using hf)
      cases h
      have eb : spB l a2 (s2, b.2, e.2) = spB l a1 (s1, b.2, e.2) := by unfold spB; rw [hw]
      have ee : spE l a2 (s2, b.2, e.2) = spE l a1 (s1, b.2, e.2) := by unfold spE; rw [hw]
      obtain ⟨p, hp, ep⟩ := ranks3 (spB l a0 (s0, b.1, e.1)) (spB l a1 (s1, b.2, e.2))
      obtain ⟨q, hq, eq⟩ := ranks3 (spE l a0 (s0, b.1, e.1)) (spE l a1 (s1, b.2, e.2))
      simp only [List.zipWith_cons_cons, List.zipWith_nil_left]
      rw [eb, ee, ep, eq]
      refine List.mem_filter.mpr ⟨mem_U3.mpr ⟨a0.2, a1.2, a2.2, p, q, q0, q1, q2, hp, hq, rfl⟩, ?_⟩
      refine decide_eq_true fun z => ?_
      have := hst z
      simp [mkTy, this]
  have sb := sgn_le l.1 (2 * (b.1 : Int) + 1)
  have se := sgn_le l.2.1 (2 * (e.1 : Int) + 1)
  have sb2 := sgn_le l.1 (2 * (b.2 : Int) + 1)
  have se2 := sgn_le l.2.1 (2 * (e.2 : Int) + 1)
  have k0 := ent_to h0 g0 (i := 9 * sgn l.1 (2 * (b.1 : Int) + 1) + 3 * sgn l.2.1 (2 * (e.1 : Int) + 1) + l.2.2) (by omega)
  have k1 := ent_to h1 g1 (i := 9 * sgn l.1 (2 * (b.2 : Int) + 1) + 3 * sgn l.2.1 (2 * (e.2 : Int) + 1) + l.2.2) (by omega)
  have k2 := ent_to h2 g2 (i := 9 * sgn l.1 (2 * (b.2 : Int) + 1) + 3 * sgn l.2.1 (2 * (e.2 : Int) + 1) + l.2.2) (by omega)
  rcases h with h | h
  · refine key _ ⟨_, _, _, rfl, k0, k1, k2, fun hf => ?_, fun q => ?_⟩ h
    · rcases hc with ⟨c1, c2⟩ | q
      · by_cases hv : l.2.2 = 1
        · have a := c1 s1 g1 _ _ sb2 se2
          have b := c2 s2 g2 _ _ sb2 se2
          show (ent t1 s1 _).1 = (ent t2 s2 _).1
          rw [hv, a, b]
        · exact fails_not hf hv
      · subst q
        have := hss rfl
        subst this
        rfl
    · subst q
      have := hss rfl
      subst this
      rfl
  · exact key _ ⟨_, (false, s1), (false, s2), rfl, k0, g1, g2, fun _ => rfl, hss⟩ h
end FW
end PartMat
section PartLay1
set_option Elab.async false
set_option linter.all false
set_option maxRecDepth 100000
set_option maxHeartbeats 2000000
/-! THE DATA LAYER: what a value stands for (data), what changes and what does not (Fm, Xt), what a reading evaluates to, by data alone. -/
namespace FW
open PySem PySem.Spec PyProof.Rows L2
abbrev D := PyData

/-- what may change beside what is new (M), and what holds of it (J) -/
structure Fm (w : World) where
  M : Addr → Prop
  J : Hp → Prop
  mono : ∀ H H', (∀ x o, M x → H x = some o → H' x = some o) → (∀ x xs, Rd H x (.tup xs) → Rd H' x (.tup xs)) → J H → J H'
  live : ∀ H x, J H → M x → ∃ o, H x = some o
  /-- what is handed about without being looked into -/
  own : Addr → Int → Prop
/-- nothing changes -/
def Fm.none (w : World) : Fm w := ⟨fun _ => False, fun _ => True, fun _ _ _ _ _ => trivial, fun _ _ _ h => h.elim, fun _ _ => False⟩
structure Xt {w : World} (F : Fm w) (H H' : Hp) : Prop where
  keep : ∀ x o, ¬ F.M x → H x = some o → H' x = some o
  tups : ∀ x xs, Rd H x (.tup xs) → Rd H' x (.tup xs)
  inv : F.J H → F.J H'
section
variable {w : World} {F : Fm w} {H H1 H2 H' : Hp} {K : PySem.W.Frag}
theorem Xt.refl (H : Hp) : Xt F H H := ⟨fun _ _ _ h => h, fun _ _ h => h, fun h => h⟩
theorem Xt.trans (a : Xt F H H1) (b : Xt F H1 H2) : Xt F H H2 := ⟨fun x o n h => b.keep x o n (a.keep x o n h), fun x xs h => b.tups x xs (a.tups x xs h), fun h => b.inv (a.inv h)⟩
theorem Xt.of (h : ∀ x o, H x = some o → H' x = some o) : Xt F H H' := by
  have t : ∀ x xs, Rd H x (.tup xs) → Rd H' x (.tup xs) := fun x xs r => by
    rcases r with r | ⟨o, r⟩
    · exact .inl (h _ _ r)
    · exact .inr ⟨o, h _ _ r⟩
  exact ⟨fun x o _ e => h x o e, t, F.mono _ _ (fun x o _ e => h x o e) t⟩
theorem same_new {p : Addr} {o : HO} (h : H p = Option.none) : ∀ x u, H x = some u → upd H p o x = some u := fun x u e => by
  rw [upd_ne (ne_of_none e h)]; exact e
theorem Xt.new {p : Addr} {o : HO} (h : H p = Option.none) : Xt F H (upd H p o) := .of (same_new h)
theorem Xt.fresh (J : F.J H) (e : Xt F H H') {p : Addr} (h : H' p = Option.none) : H p = Option.none ∧ ¬ F.M p := by
  have hm : ¬ F.M p := fun m => by
    obtain ⟨o, q⟩ := F.live H' p (e.inv J) m
    rw [q] at h; cases h
  refine ⟨?_, hm⟩
  cases q : H p with
  | none => rfl
  | some o => rw [e.keep p o hm q] at h; cases h
/-- what is behind M stays where M's objects are kept -/
theorem Xt.upd_J (J : F.J H) {p : Addr} {o : HO} (n : ¬ F.M p) (t : ∀ x xs, Rd H x (.tup xs) → Rd (upd H p o) x (.tup xs)) : F.J (upd H p o) := F.mono _ _ (fun x u m e => by
  rw [upd_ne (fun z : x = p => n (by rw [← z]; exact m))]; exact e) t J
/-- a list that H does not know may change -/
theorem Xt.mut (J : F.J H) (e : Xt F H H1) {p : Addr} {o : HO} (h : H p = Option.none) (n : ¬ F.M p) (t : ∀ x xs, Rd H1 x (.tup xs) → Rd (upd H1 p o) x (.tup xs)) : Xt F H (upd H1 p o) := by
  refine ⟨fun x u nx hx => ?_, fun x ys hx => ?_, fun _ => Xt.upd_J (e.inv J) n t⟩
  · rw [upd_ne (ne_of_none hx h)]; exact e.keep x u nx hx
  · have q := e.tups x ys hx
    have ne : x ≠ p := by
      rintro rfl
      rcases hx with hx | ⟨o, hx⟩ <;> rw [h] at hx <;> cases hx
    rcases q with q | ⟨o', q⟩
    · exact .inl (by rw [upd_ne ne]; exact q)
    · exact .inr ⟨o', by rw [upd_ne ne]; exact q⟩
/-- .. and what is known of the rest stands -/
theorem Xt.but {p : Addr} {o : HO} (J : F.J H) (n : ¬ F.M p) (hl : ∀ xs, ¬ Rd H p (.tup xs)) : (∀ x xs, Rd H x (.tup xs) → Rd (upd H p o) x (.tup xs)) ∧ F.J (upd H p o) := by
  refine (fun t : ∀ x xs, Rd H x (.tup xs) → Rd (upd H p o) x (.tup xs) => ⟨t, Xt.upd_J J n t⟩) fun x ys hx => ?_
  have ne : x ≠ p := fun z => hl ys (by rw [← z]; exact hx)
  rcases hx with q | ⟨o', q⟩
  · exact .inl (by rw [upd_ne ne]; exact q)
  · exact .inr ⟨o', by rw [upd_ne ne]; exact q⟩
/-- what is kept, without what holds of M -/
structure Xm {w : World} (F : Fm w) (H H' : Hp) : Prop where
  keep : ∀ x o, ¬ F.M x → H x = some o → H' x = some o
  tups : ∀ x xs, Rd H x (.tup xs) → Rd H' x (.tup xs)
theorem Xt.m (e : Xt F H H') : Xm F H H' := ⟨e.keep, e.tups⟩
theorem Xm.refl (H : Hp) : Xm F H H := ⟨fun _ _ _ h => h, fun _ _ h => h⟩
theorem Xm.trans (a : Xm F H H1) (b : Xm F H1 H2) : Xm F H H2 := ⟨fun x o n h => b.keep x o n (a.keep x o n h), fun x xs h => b.tups x xs (a.tups x xs h)⟩
theorem sqT_m (e : Xm F H H') {a : Addr} {xs : List V} (h : SqT K H a xs) : SqT K H' a xs := by
  rcases h with h | h
  · exact .inl (e.tups _ _ h)
  · exact .inr h
theorem sqL_m (e : Xm F H H') {a : Addr} {xs : List V} (n : ¬ F.M a) (h : SqL K H a xs) : SqL K H' a xs := by
  rcases h with (h | ⟨o, h⟩) | h
  · exact .inl (.inl (e.keep _ _ n h))
  · exact .inl (.inr ⟨o, e.keep _ _ n h⟩)
  · exact .inr h
theorem sqT_x (e : Xt F H H') {a : Addr} {xs : List V} (h : SqT K H a xs) : SqT K H' a xs := by
  rcases h with h | h
  · exact .inl (e.tups _ _ h)
  · exact .inr h
theorem sqL_x (e : Xt F H H') {a : Addr} {xs : List V} (n : ¬ F.M a) (h : SqL K H a xs) : SqL K H' a xs := by
  rcases h with (h | ⟨o, h⟩) | h
  · exact .inl (.inl (e.keep _ _ n h))
  · exact .inl (.inr ⟨o, e.keep _ _ n h⟩)
  · exact .inr h
end

/-! ### data -/
/-- what stands for such a thing -/
abbrev ownK (k : Int) : List (D × D) := [(.list [], .int k)]
abbrev ownD (k : Int) : D := .dict (ownK k)
/-! data without lists, dicts -/
mutual
def tonly : D → Bool
  | .none | .bool _ | .int _ | .str _ => true
  | .tuple ds => tonlyAll ds
  | .list _ | .dict _ => false
def tonlyAll : List D → Bool
  | [] => true
  | d :: ds => tonly d && tonlyAll ds
end
/-! data without dicts -/
mutual
def ndict : D → Bool
  | .none | .bool _ | .int _ | .str _ => true
  | .tuple ds | .list ds => ndictAll ds
  | .dict _ => false
def ndictAll : List D → Bool
  | [] => true
  | d :: ds => ndict d && ndictAll ds
end
/-! a tuple as a key -/
mutual
def nk : D → NestedKey
  | .none => .none
  | .bool b => .num (if b = true then 1 else 0)
  | .int i => .num i
  | .str x => .text x
  | .tuple ds => .tup (nks ds)
  | .list _ | .dict _ => .none
def nks : List D → List NestedKey
  | [] => []
  | d :: ds => nk d :: nks ds
end
/-- a dict with nested tuples as keys: key, its address, value -/
def DtO (w : World) (a : Addr) (xs : List (NestedKey × Addr × V)) : HO := .ext fun h => xs.length ≤ sizeLine ∧ (a == sysModules) = false ∧
  ∃ ys : List (NestedKey × Addr × Value), Paired (fun (p : NestedKey × Addr × V) (q : NestedKey × Addr × Value) => p.1 = q.1 ∧ p.2.1 = q.2.1 ∧ RelV p.2.2 q.2.2) xs ys ∧
  ∃ o es ep, h.get? a = some o ∧ o.ExactDict ∧ o.data = .dict es ep ∧ es.toList = ys.map (fun y => (⟨y.1.hash w, .ref y.2.1, y.2.2⟩ : DictEntry)) ∧ (ys.map (·.1)).Nodup
mutual
inductive Dq {w : World} (F : Fm w) (K : PySem.W.Frag) (H : Hp) : V → D → Prop
  | non : Dq F K H .non .none
  | bl (b : Bool) : Dq F K H (.bl b) (.bool b)
  | int (i : Int) : Dq F K H (.int i) (.int i)
  | str (x : Str) : Dq F K H (.str x) (.str x)
  | lst {a : Addr} {xs : List V} {ds : List D} : ¬ F.M a → H a = some (.lst xs) → DqAll F K H xs ds → Dq F K H (.ref a) (.list ds)
  | tup {a : Addr} {xs : List V} {ds : List D} : SqT K H a xs → DqAll F K H xs ds → Dq F K H (.ref a) (.tuple ds)
  | dict {a : Addr} {xs : List (NestedKey × Addr × V)} {kvs : List (D × D)} : ¬ F.M a → H a = some (DtO w a xs) → DqE F K H xs kvs → Dq F K H (.ref a) (.dict kvs)
  | own {a : Addr} {k : Int} : F.own a k → Dq F K H (.ref a) (ownD k)
inductive DqAll {w : World} (F : Fm w) (K : PySem.W.Frag) (H : Hp) : List V → List D → Prop
  | nil : DqAll F K H [] []
  | cons {v : V} {vs : List V} {d : D} {ds : List D} : Dq F K H v d → DqAll F K H vs ds → DqAll F K H (v :: vs) (d :: ds)
inductive DqE {w : World} (F : Fm w) (K : PySem.W.Frag) (H : Hp) : List (NestedKey × Addr × V) → List (D × D) → Prop
  | nil : DqE F K H [] []
  | cons {b : Addr} {v : V} {xs : List (NestedKey × Addr × V)} {k d : D} {kvs : List (D × D)} : Dq F K H (.ref b) k → tonly k = true → (nk k).depth ≤ 8 → Dq F K H v d → DqE F K H xs kvs → DqE F K H ((nk k, b, v) :: xs) ((k, d) :: kvs)
end
section
variable {w : World} {F F' : Fm w} {H H' : Hp} {K : PySem.W.Frag}
mutual
theorem Dq.mono (e : Xt F H H') : ∀ {v : V} {d : D}, Dq F K H v d → Dq F K H' v d
  | _, _, .non => .non
  | _, _, .bl b => .bl b
  | _, _, .int i => .int i
  | _, _, .str x => .str x
  | _, _, .lst n h a => .lst n (e.keep _ _ n h) (DqAll.mono e a)
  | _, _, .tup h a => .tup (sqT_x e h) (DqAll.mono e a)
  | _, _, .dict n h a => .dict n (e.keep _ _ n h) (DqE.mono e a)
  | _, _, .own h => .own h
theorem DqE.mono (e : Xt F H H') : ∀ {xs : List (NestedKey × Addr × V)} {kvs : List (D × D)}, DqE F K H xs kvs → DqE F K H' xs kvs
  | _, _, .nil => .nil
  | _, _, .cons h1 t z h2 r => .cons (Dq.mono e h1) t z (Dq.mono e h2) (DqE.mono e r)
theorem DqAll.mono (e : Xt F H H') : ∀ {vs : List V} {ds : List D}, DqAll F K H vs ds → DqAll F K H' vs ds
  | _, _, .nil => .nil
  | _, _, .cons h t => .cons (Dq.mono e h) (DqAll.mono e t)
end
mutual
theorem Dq.dp : ∀ {v : V} (d : D), d.canLay0 = true → Dq F K H v d → Dp K H v d
  | _, .none, _, h => by cases h; exact .non
  | _, .bool b, _, h => by cases h; exact .bl b
  | _, .int i, _, h => by cases h; exact .int i
  | _, .str x, _, h => by cases h; exact .str x
  | _, .list ds, c, h => by
    cases h with
    | lst n h a => exact .lst (.of h) (DqAll.dp ds (by simpa [PyData.canLay0] using c) a)
  | _, .tuple ds, c, h => by
    cases h with
    | tup h a => exact .tup h (DqAll.dp ds (by simpa [PyData.canLay0] using c) a)
  | _, .dict _, c, _ => by simp [PyData.canLay0] at c
theorem DqAll.dp : ∀ {vs : List V} (ds : List D), PyData.canLayAll0 ds = true → DqAll F K H vs ds → DpAll K H vs ds
  | _, [], _, h => by cases h; exact .nil
  | _, d :: ds, c, h => by
    have c' : d.canLay0 = true ∧ PyData.canLayAll0 ds = true := by simpa [PyData.canLayAll0] using c
    cases h with
    | cons h t => exact .cons (Dq.dp d c'.1 h) (DqAll.dp ds c'.2 t)
end
mutual
/-- data of tuples alone, for the kit's own relation -/
theorem Dq.dpt : ∀ {v : V} (d : D), tonly d = true → Dq F K H v d → Dp K H v d
  | _, .none, _, h => by cases h; exact .non
  | _, .bool b, _, h => by cases h; exact .bl b
  | _, .int i, _, h => by cases h; exact .int i
  | _, .str x, _, h => by cases h; exact .str x
  | _, .list ds, c, h => by simp [tonly] at c
  | _, .tuple ds, c, h => by
    cases h with
    | tup h a => exact .tup h (DqAll.dpt ds (by simpa [tonly] using c) a)
  | _, .dict _, c, _ => by simp [tonly] at c
theorem DqAll.dpt : ∀ {vs : List V} (ds : List D), tonlyAll ds = true → DqAll F K H vs ds → DpAll K H vs ds
  | _, [], _, h => by cases h; exact .nil
  | _, d :: ds, c, h => by
    rw [tonlyAll, Bool.and_eq_true] at c
    cases h with
    | cons h t => exact .cons (Dq.dpt d c.1 h) (DqAll.dpt ds c.2 t)
end
mutual
/-- the frame may be another, where it has the same of what is read -/
theorem Dq.kf (k : ∀ x xs, Rd H x (.tup xs) → Rd H' x (.tup xs)) (ow : ∀ x k, F.own x k → F'.own x k) (l : ∀ x o, H x = some o → ¬ F.M x → H' x = some o ∧ ¬ F'.M x) : ∀ {v : V} {d : D}, Dq F K H v d → Dq F' K H' v d
  | _, _, .non => .non
  | _, _, .bl b => .bl b
  | _, _, .int i => .int i
  | _, _, .str x => .str x
  | _, _, .lst n h a => .lst (l _ _ h n).2 (l _ _ h n).1 (DqAll.kf k ow l a)
  | _, _, .tup h a => .tup (h.elim (fun h => .inl (k _ _ h)) .inr) (DqAll.kf k ow l a)
  | _, _, .dict n h a => .dict (l _ _ h n).2 (l _ _ h n).1 (DqE.kf k ow l a)
  | _, _, .own h => .own (ow _ _ h)
theorem DqE.kf (k : ∀ x xs, Rd H x (.tup xs) → Rd H' x (.tup xs)) (ow : ∀ x k, F.own x k → F'.own x k) (l : ∀ x o, H x = some o → ¬ F.M x → H' x = some o ∧ ¬ F'.M x) : ∀ {xs : List (NestedKey × Addr × V)} {kvs : List (D × D)}, DqE F K H xs kvs → DqE F' K H' xs kvs
  | _, _, .nil => .nil
  | _, _, .cons h1 t z h2 r => .cons (Dq.kf k ow l h1) t z (Dq.kf k ow l h2) (DqE.kf k ow l r)
theorem DqAll.kf (k : ∀ x xs, Rd H x (.tup xs) → Rd H' x (.tup xs)) (ow : ∀ x k, F.own x k → F'.own x k) (l : ∀ x o, H x = some o → ¬ F.M x → H' x = some o ∧ ¬ F'.M x) : ∀ {vs : List V} {ds : List D}, DqAll F K H vs ds → DqAll F' K H' vs ds
  | _, _, .nil => .nil
  | _, _, .cons h t => .cons (Dq.kf k ow l h) (DqAll.kf k ow l t)
end
theorem Dq.mm (e : Xm F H H') {v : V} {d : D} (h : Dq F K H v d) : Dq F K H' v d := Dq.kf e.tups (fun _ _ z => z) (fun x o q n => ⟨e.keep x o n q, n⟩) h
theorem DqAll.mm (e : Xm F H H') {vs : List V} {ds : List D} (h : DqAll F K H vs ds) : DqAll F K H' vs ds := DqAll.kf e.tups (fun _ _ z => z) (fun x o q n => ⟨e.keep x o n q, n⟩) h
abbrev Tk (H H' : Hp) : Prop := ∀ x xs, Rd H x (.tup xs) → Rd H' x (.tup xs)
theorem sqT_k (e : Tk H H') {a : Addr} {xs : List V} (h : SqT K H a xs) : SqT K H' a xs := by
  rcases h with h | h
  · exact .inl (e _ _ h)
  · exact .inr h
mutual
/-- data of tuples alone stand whatever else changes -/
theorem Dq.tk (k : Tk H H') : ∀ (d : D) {v : V}, tonly d = true → Dq F K H v d → Dq F' K H' v d
  | .none, _, _, h => by cases h; exact .non
  | .bool b, _, _, h => by cases h; exact .bl b
  | .int i, _, _, h => by cases h; exact .int i
  | .str x, _, _, h => by cases h; exact .str x
  | .list _, _, t, h => by simp [tonly] at t
  | .dict _, _, t, h => by simp [tonly] at t
  | .tuple ds, _, t, h => by
    cases h with
    | tup hs ha => exact .tup (sqT_k k hs) (DqAll.tk k ds (by simpa [tonly] using t) ha)
theorem DqAll.tk (k : Tk H H') : ∀ (ds : List D) {vs : List V}, tonlyAll ds = true → DqAll F K H vs ds → DqAll F' K H' vs ds
  | [], _, _, h => by cases h; exact .nil
  | d :: ds, _, t, h => by
    rw [tonlyAll, Bool.and_eq_true] at t
    cases h with
    | cons h1 h2 => exact .cons (Dq.tk k d t.1 h1) (DqAll.tk k ds t.2 h2)
end
mutual
/-- data without dicts stand where lists and tuples stand; the frame may be another with the same things -/
theorem Dq.ku (k : Tk H H') (l : ∀ x xs, H x = some (.lst xs) → ¬ F.M x → H' x = some (.lst xs) ∧ ¬ F'.M x) : ∀ (d : D) {v : V}, ndict d = true → Dq F K H v d → Dq F' K H' v d
  | .none, _, _, h => by cases h; exact .non
  | .bool b, _, _, h => by cases h; exact .bl b
  | .int i, _, _, h => by cases h; exact .int i
  | .str x, _, _, h => by cases h; exact .str x
  | .list ds, _, t, h => by
    cases h with
    | lst n hs ha => exact .lst (l _ _ hs n).2 (l _ _ hs n).1 (DqAll.ku k l ds (by simpa [ndict] using t) ha)
  | .dict _, _, t, h => by simp [ndict] at t
  | .tuple ds, _, t, h => by
    cases h with
    | tup hs ha => exact .tup (sqT_k k hs) (DqAll.ku k l ds (by simpa [ndict] using t) ha)
theorem DqAll.ku (k : Tk H H') (l : ∀ x xs, H x = some (.lst xs) → ¬ F.M x → H' x = some (.lst xs) ∧ ¬ F'.M x) : ∀ (ds : List D) {vs : List V}, ndictAll ds = true → DqAll F K H vs ds → DqAll F' K H' vs ds
  | [], _, _, h => by cases h; exact .nil
  | d :: ds, _, t, h => by
    rw [ndictAll, Bool.and_eq_true] at t
    cases h with
    | cons h1 h2 => exact .cons (Dq.ku k l d t.1 h1) (DqAll.ku k l ds t.2 h2)
end
mutual
theorem ndict_of : ∀ (d : D), tonly d = true → ndict d = true
  | .none, _ | .bool _, _ | .int _, _ | .str _, _ => rfl
  | .list _, t | .dict _, t => by simp [tonly] at t
  | .tuple ds, t => by rw [ndict]; exact ndictAll_of ds (by simpa [tonly] using t)
theorem ndictAll_of : ∀ (ds : List D), tonlyAll ds = true → ndictAll ds = true
  | [], _ => rfl
  | d :: ds, t => by
    rw [tonlyAll, Bool.and_eq_true] at t
    rw [ndictAll, ndict_of d t.1, ndictAll_of ds t.2]; rfl
end
theorem Dq.to {d : D} {v : V} (t : tonly d = true) (h : Dq F K H v d) : Dq F' K H v d := Dq.tk (fun _ _ q => q) d t h
theorem DqAll.to {ds : List D} {vs : List V} (t : tonlyAll ds = true) (h : DqAll F K H vs ds) : DqAll F' K H vs ds := DqAll.tk (fun _ _ q => q) ds t h
theorem tonlyAll_map {α : Type} {f : α → D} {xs : List α} (h : ∀ x ∈ xs, tonly (f x) = true) : tonlyAll (xs.map f) = true := by
  induction xs with
  | nil => rfl
  | cons x xs ih =>
    rw [List.map_cons, tonlyAll, h x List.mem_cons_self, ih fun y hy => h y (List.mem_cons_of_mem _ hy)]
    rfl
/-- a list's own address keeps the tuples -/
theorem Tk.lst {p : Addr} {xs : List V} {o : HO} (h : H p = some (.lst xs)) : Tk H (upd H p o) := fun x ys hx => by
  have ne : x ≠ p := by
    rintro rfl
    rcases hx with q | ⟨o', q⟩ <;> rw [h] at q <;> cases q
  rcases hx with q | ⟨o', q⟩
  · exact .inl (by rw [upd_ne ne]; exact q)
  · exact .inr ⟨o', by rw [upd_ne ne]; exact q⟩
theorem DqAll.len : ∀ {vs : List V} {ds : List D}, DqAll F K H vs ds → vs.length = ds.length
  | _, _, .nil => rfl
  | _, _, .cons _ t => congrArg (· + 1) (DqAll.len t)
theorem DqAll.get : ∀ {vs : List V} {ds : List D} {i : Nat} {d : D}, DqAll F K H vs ds → ds[i]? = some d → ∃ v, vs[i]? = some v ∧ Dq F K H v d
  | _, _, _, _, .nil, e => by simp at e
  | _, _, 0, d, .cons h _, e => by simp at e; subst e; exact ⟨_, rfl, h⟩
  | _, _, i + 1, d, .cons _ t, e => by
    obtain ⟨v, h1, h2⟩ := DqAll.get (i := i) (d := d) t (by simpa using e)
    exact ⟨v, by simpa using h1, h2⟩
theorem DqAll.app : ∀ {vs us : List V} {ds es : List D}, DqAll F K H vs ds → DqAll F K H us es → DqAll F K H (vs ++ us) (ds ++ es)
  | _, _, _, _, .nil, h => h
  | _, _, _, _, .cons h t, q => .cons h (DqAll.app t q)
theorem DqAll.one {v : V} {d : D} (h : Dq F K H v d) : DqAll F K H [v] [d] := .cons h .nil
theorem DqAll.take : ∀ {vs : List V} {ds : List D} (n : Nat), DqAll F K H vs ds → DqAll F K H (vs.take n) (ds.take n)
  | _, _, 0, _ => .nil
  | _, _, _ + 1, .nil => .nil
  | _, _, n + 1, .cons h t => .cons h (DqAll.take n t)
theorem DqAll.drop : ∀ {vs : List V} {ds : List D} (n : Nat), DqAll F K H vs ds → DqAll F K H (vs.drop n) (ds.drop n)
  | _, _, 0, h => h
  | _, _, _ + 1, .nil => .nil
  | _, _, n + 1, .cons _ t => DqAll.drop n t
theorem DqAll.dropLast : ∀ {vs : List V} {ds : List D}, DqAll F K H vs ds → DqAll F K H vs.dropLast ds.dropLast
  | _, _, .nil => .nil
  | _, _, .cons h .nil => .nil
  | _, _, .cons h (.cons h2 t) => .cons h (DqAll.dropLast (.cons h2 t))
theorem DqAll.inv {ds : List D} : ∀ {vs : List V}, DqAll F K H vs ds → (ds = [] ∧ vs = []) ∨ ∃ v vr d dr, vs = v :: vr ∧ ds = d :: dr ∧ Dq F K H v d ∧ DqAll F K H vr dr
  | _, .nil => .inl ⟨rfl, rfl⟩
  | _, .cons h t => .inr ⟨_, _, _, _, rfl, rfl, h, t⟩
theorem Dq.int_inv {v : V} {i : Int} (h : Dq F K H v (.int i)) : v = .int i := by cases h; rfl
theorem Dq.str_inv {v : V} {x : Str} (h : Dq F K H v (.str x)) : v = .str x := by cases h; rfl
theorem Dq.bl_inv {v : V} {b : Bool} (h : Dq F K H v (.bool b)) : v = .bl b := by cases h; rfl
theorem Dq.non_inv {v : V} (h : Dq F K H v .none) : v = .non := by cases h; rfl
theorem Dq.tup_inv {v : V} {ds : List D} (h : Dq F K H v (.tuple ds)) : ∃ a xs, v = .ref a ∧ SqT K H a xs ∧ DqAll F K H xs ds := by
  cases h with
  | tup h a => exact ⟨_, _, rfl, h, a⟩
theorem Dq.lst_inv {v : V} {ds : List D} (h : Dq F K H v (.list ds)) : ∃ a xs, v = .ref a ∧ ¬ F.M a ∧ SqL K H a xs ∧ DqAll F K H xs ds := by
  cases h with
  | lst n h a => exact ⟨_, _, rfl, n, .of h, a⟩
theorem Dq.lst_get {v : V} {ds : List D} (h : Dq F K H v (.list ds)) : ∃ a xs, v = .ref a ∧ ¬ F.M a ∧ H a = some (.lst xs) ∧ DqAll F K H xs ds := by
  cases h with
  | lst n h a => exact ⟨_, _, rfl, n, h, a⟩
theorem ints_inv : ∀ {ns : List Int} {vs : List V}, DqAll F K H vs (ns.map .int) → vs = ns.map V.int
  | [], _, h => by cases h; rfl
  | n :: ns, _, h => by
    have h' : DqAll F K H _ (.int n :: ns.map .int) := h
    cases h' with
    | cons h1 h2 => rw [h1.int_inv, ints_inv h2]; rfl
theorem strs_inv : ∀ {ns : List Str} {vs : List V}, DqAll F K H vs (ns.map .str) → vs = ns.map V.str
  | [], _, h => by cases h; rfl
  | n :: ns, _, h => by
    have h' : DqAll F K H _ (.str n :: ns.map .str) := h
    cases h' with
    | cons h1 h2 => rw [h1.str_inv, strs_inv h2]; rfl
theorem bls_inv : ∀ {ns : List Bool} {vs : List V}, DqAll F K H vs (ns.map .bool) → vs = ns.map V.bl
  | [], _, h => by cases h; rfl
  | n :: ns, _, h => by
    have h' : DqAll F K H _ (.bool n :: ns.map .bool) := h
    cases h' with
    | cons h1 h2 => rw [h1.bl_inv, bls_inv h2]; rfl
theorem ints_dq : ∀ (ns : List Int), DqAll F K H (ns.map V.int) (ns.map .int)
  | [] => .nil
  | n :: ns => .cons (.int n) (ints_dq ns)
theorem strs_dq : ∀ (ns : List Str), DqAll F K H (ns.map V.str) (ns.map .str)
  | [] => .nil
  | n :: ns => .cons (.str n) (strs_dq ns)
/-- a new tuple, a new list -/
theorem Dq.newT {p : Addr} {xs : List V} {ds : List D} (hp : H p = Option.none) (h : DqAll F K H xs ds) : Dq F K (upd H p (.tup xs)) (.ref p) (.tuple ds) := .tup (.inl (.inl upd_same)) (h.mono (.new hp))
theorem Dq.newL {p : Addr} {xs : List V} {ds : List D} (J : F.J H) (hp : H p = Option.none) (h : DqAll F K H xs ds) : Dq F K (upd H p (.lst xs)) (.ref p) (.list ds) := .lst (Xt.fresh J (.refl H) hp).2 upd_same (h.mono (.new hp))
end

/-! ### slots by data -/
abbrev Ro := List (Option D)
structure Env {w : World} (F : Fm w) (K : PySem.W.Frag) (H : Hp) (σ : L2.St) (ρ : Ro) : Prop where
  len : σ.length = ρ.length
  at_ : ∀ (i : Nat) (d : D), ρ[i]? = some (some d) → ∃ v, σ[i]? = some (some v) ∧ Dq F K H v d
section
variable {w : World} {F : Fm w} {H H' : Hp} {K : PySem.W.Frag} {σ : L2.St} {ρ : Ro}
theorem Env.mono (h : Env F K H σ ρ) (e : Xt F H H') : Env F K H' σ ρ := ⟨h.len, fun i d q => let ⟨v, a, b⟩ := h.at_ i d q; ⟨v, a, b.mono e⟩⟩
theorem Env.set (h : Env F K H σ ρ) {v : V} {d : D} (i : Nat) (q : Dq F K H v d) : Env F K H (σ.set i (some v)) (ρ.set i (some d)) := by
  refine ⟨by rw [List.length_set, List.length_set, h.len], fun j e r => ?_⟩
  by_cases hj : i = j
  · subst hj
    have hi : i < ρ.length := by
      have := (List.getElem?_eq_some_iff.mp r).1
      simpa using this
    rw [List.getElem?_set_self hi] at r
    cases r
    exact ⟨v, by rw [List.getElem?_set_self (by rw [h.len]; exact hi)], q⟩
  · rw [List.getElem?_set_ne hj] at r ⊢
    exact h.at_ j e r
/-- a slot forgotten, or of something else -/
theorem Env.unset (h : Env F K H σ ρ) (i : Nat) (v : Option V) : Env F K H (σ.set i v) (ρ.set i none) := by
  refine ⟨by rw [List.length_set, List.length_set, h.len], fun j e r => ?_⟩
  by_cases hj : i = j
  · subst hj
    have hi : i < ρ.length := by
      have := (List.getElem?_eq_some_iff.mp r).1
      simpa using this
    rw [List.getElem?_set_self hi] at r
    cases r
  · rw [List.getElem?_set_ne hj] at r ⊢
    exact h.at_ j e r
theorem Env.weak {ρ' : Ro} (h : Env F K H σ ρ) (hl : ρ'.length = ρ.length) (w : ∀ (i : Nat) d, ρ'[i]? = some (some d) → ρ[i]? = some (some d)) : Env F K H σ ρ' := ⟨h.len.trans hl.symm, fun i d q => h.at_ i d (w i d q)⟩
def wipeR (ρ : Ro) : List Nat → Ro
  | [] => ρ
  | v :: vs => (wipeR ρ vs).set v none
theorem Env.wipe (h : Env F K H σ ρ) : ∀ vs : List Nat, Env F K H (wipe σ vs) (wipeR ρ vs)
  | [] => h
  | v :: vs => (Env.wipe h vs).unset v none
theorem wipe_eq : ∀ {vs : List Nat} {σ σ' : L2.St}, σ'.length = σ.length → (∀ k, k ∉ vs → σ'[k]? = σ[k]?) → wipe σ' vs = wipe σ vs
  | [], σ, σ', hl, h => List.ext_getElem? fun k => h k (by simp)
  | v :: vs, σ, σ', hl, h => by
    refine List.ext_getElem? fun k => ?_
    unfold L2.wipe
    by_cases hk : v = k
    · subst hk
      by_cases hv : v < σ.length
      · rw [List.getElem?_set_self (by rw [wipe_length, hl]; exact hv), List.getElem?_set_self (by rw [wipe_length]; exact hv)]
      · rw [List.getElem?_eq_none (by rw [List.length_set, wipe_length, hl]; omega), List.getElem?_eq_none (by rw [List.length_set, wipe_length]; omega)]
    · rw [List.getElem?_set_ne hk, List.getElem?_set_ne hk]
      have key : ∀ (ws : List Nat) (τ : L2.St), (L2.wipe τ ws)[k]? = if k ∈ ws ∧ k < τ.length then some none else τ[k]? := by
        intro ws τ
        induction ws with
        | nil => simp [L2.wipe]
        | cons u us ih =>
          unfold L2.wipe
          by_cases hu : u = k
          · subst hu
            by_cases hlt : u < τ.length
            · rw [List.getElem?_set_self (by rw [wipe_length]; exact hlt), if_pos ⟨List.mem_cons_self, hlt⟩]
            · rw [List.getElem?_eq_none (by rw [List.length_set, wipe_length]; omega), if_neg (fun q => hlt q.2), List.getElem?_eq_none (by omega)]
          · rw [List.getElem?_set_ne hu, ih]
            have : (k ∈ u :: us) ↔ k ∈ us := by
              constructor
              · intro q
                rcases List.mem_cons.mp q with e | e
                · exact absurd e.symm hu
                · exact e
              · exact List.mem_cons_of_mem _
            simp only [this]
      rw [key, key, hl]
      by_cases hm : k ∈ vs
      · by_cases hlt : k < σ.length
        · rw [if_pos ⟨hm, hlt⟩, if_pos ⟨hm, hlt⟩]
        · rw [if_neg (fun q => hlt q.2), if_neg (fun q => hlt q.2), List.getElem?_eq_none (by omega), List.getElem?_eq_none (by omega)]
      · rw [if_neg (fun q => hm q.1), if_neg (fun q => hm q.1)]
        exact h k (fun q => by
          rcases List.mem_cons.mp q with e | e
          · exact hk e.symm
          · exact hm e)
theorem wipe_wipe (σ : L2.St) (vs : List Nat) : wipe (wipe σ vs) vs = wipe σ vs := by
  refine wipe_eq (wipe_length _ _) fun k hk => ?_
  induction vs generalizing σ with
  | nil => rfl
  | cons u us ih =>
    unfold L2.wipe
    rw [List.getElem?_set_ne (fun e => hk (by rw [e]; exact List.mem_cons_self))]
    exact ih σ fun q => hk (List.mem_cons_of_mem _ q)
end

/-! ### what a reading evaluates to, by data -/
def ED {w : World} (F : Fm w) (K : PySem.W.Frag) (te : TE) (ρ : Ro) (d : D) : Prop := ∀ (σ : L2.St) (H : Hp), F.J H → Env F K H σ ρ → ∀ Q : VK, (∀ v H', Xt F H H' → Dq F K H' v d → Q v H') → te σ H Q
def ET {w : World} (F : Fm w) (K : PySem.W.Frag) (tt : TT) (ρ : Ro) (b : Bool) : Prop := ∀ (σ : L2.St) (H : Hp), F.J H → Env F K H σ ρ → ∀ Q : Bool → Hp → Prop, (∀ H', Xt F H H' → Q b H') → tt σ H Q
def EA {w : World} (F : Fm w) (K : PySem.W.Frag) (ta : TA) (ρ : Ro) (ds : List D) : Prop := ∀ (σ : L2.St) (H : Hp), F.J H → Env F K H σ ρ → ∀ Q : List V → Hp → Prop, (∀ vs H', Xt F H H' → DqAll F K H' vs ds → Q vs H') → ta σ H Q
/-- a promise by data: arguments ds, answer d -/
def spR (w : World) (K : PySem.W.Frag) (R : List D → D → Prop) : Sp := fun vs H Q _ => ∃ F : Fm w, F.J H ∧ ∃ ds d, DqAll F K H vs ds ∧ R ds d ∧ ∀ v H', Xt F H H' → Dq F K H' v d → Q v H'
section
variable {w : World} {F : Fm w} {K : PySem.W.Frag} {ρ : Ro} {te ta tb tc : TE} {tt tu : TT} {tas : TA} {d d1 d2 : D} {r : R2}
theorem ed_is {d' : D} (h : ED F K te ρ d) (e : d = d') : ED F K te ρ d' := e ▸ h
theorem et_is {b b' : Bool} (h : ET F K tt ρ b) (e : b = b') : ET F K tt ρ b' := e ▸ h
theorem ed_var {i : Nat} (h : ρ[i]? = some (some d)) : ED F K (tVar i) ρ d := fun σ H J E Q q => by
  obtain ⟨v, e, r⟩ := E.at_ i d h
  exact ⟨v, e, q v H (.refl H) r⟩
theorem ed_int {i : Int} : ED F K (tC (.int i)) ρ (.int i) := fun _ H _ _ _ q => q _ H (.refl H) (.int i)
theorem ed_bl {b : Bool} : ED F K (tC (.bl b)) ρ (.bool b) := fun _ H _ _ _ q => q _ H (.refl H) (.bl b)
theorem ed_str {x : Str} : ED F K (tC (.str x)) ρ (.str x) := fun _ H _ _ _ q => q _ H (.refl H) (.str x)
theorem ed_non : ED F K (tC .non) ρ .none := fun _ H _ _ _ q => q _ H (.refl H) .non
/-- a tuple of texts of the module -/
theorem ed_gt {a : Addr} {xs : List Str} (h : ∀ H, SqT K H a (xs.map V.str)) : ED F K (tC (.ref a)) ρ (.tuple (xs.map .str)) := fun _ H _ _ _ q => q _ H (.refl H) (.tup (h H) (strs_dq xs))
/-- two operands, then a rule by values -/
theorem ed_op (ha : ED F K ta ρ d1) (hb : ED F K tb ρ d2) (hr : ∀ x y H, F.J H → Dq F K H x d1 → Dq F K H y d2 → ∀ Q : VK, (∀ v H', Xt F H H' → Dq F K H' v d → Q v H') → r x y H Q) : ED F K (tOp r ta tb) ρ d := fun σ H J E Q q =>
  ha σ H J E _ fun x H1 e1 q1 => hb σ H1 (e1.inv J) (E.mono e1) _ fun y H2 e2 q2 => hr x y H2 (e2.inv (e1.inv J)) (q1.mono e2) q2 Q fun v H3 e3 q3 => q v H3 ((e1.trans e2).trans e3) q3
theorem ed_un {f : V → Hp → VK → Prop} (ha : ED F K ta ρ d1) (hr : ∀ x H, F.J H → Dq F K H x d1 → ∀ Q : VK, (∀ v H', Xt F H H' → Dq F K H' v d → Q v H') → f x H Q) : ED F K (tUn f ta) ρ d := fun σ H J E Q q =>
  ha σ H J E _ fun x H1 e1 q1 => hr x H1 (e1.inv J) q1 Q fun v H2 e2 q2 => q v H2 (e1.trans e2) q2
theorem ed_i0 {f : Int → Int → Int} {i j : Int} (ha : ED F K ta ρ (.int i)) (hb : ED F K tb ρ (.int j)) : ED F K (tOp (rI0 fun i j => .int (f i j)) ta tb) ρ (.int (f i j)) :=
  ed_op ha hb fun x y H _ hx hy Q q => ⟨i, j, hx.int_inv, hy.int_inv, q _ H (.refl H) (.int _)⟩
theorem ed_iI {C : Int → Int → Prop} {f : Int → Int → Int} {i j : Int} (ha : ED F K ta ρ (.int i)) (hb : ED F K tb ρ (.int j)) (hc : C i j) : ED F K (tOp (rI C fun i j => .int (f i j)) ta tb) ρ (.int (f i j)) :=
  ed_op ha hb fun x y H _ hx hy Q q => ⟨i, j, hx.int_inv, hy.int_inv, hc, q _ H (.refl H) (.int _)⟩
theorem ed_b0 {f : Int → Int → Bool} {i j : Int} (ha : ED F K ta ρ (.int i)) (hb : ED F K tb ρ (.int j)) : ED F K (tOp (rI0 fun i j => .bl (f i j)) ta tb) ρ (.bool (f i j)) :=
  ed_op ha hb fun x y H _ hx hy Q q => ⟨i, j, hx.int_inv, hy.int_inv, q _ H (.refl H) (.bl _)⟩
theorem ed_neg {i : Int} (ha : ED F K ta ρ (.int i)) : ED F K (tUn (rU fun i => .int (-i)) ta) ρ (.int (-i)) := ed_un ha fun x H _ hx Q q => ⟨i, hx.int_inv, q _ H (.refl H) (.int _)⟩
theorem ed_eqI {i j : Int} (ha : ED F K ta ρ (.int i)) (hb : ED F K tb ρ (.int j)) : ED F K (tOp rEq ta tb) ρ (.bool (decide (i = j))) :=
  ed_op ha hb fun x y H _ hx hy Q q => by
    rw [hx.int_inv, hy.int_inv]
    refine ⟨rfl, ?_⟩
    rw [dec_int, Bool.beq_eq_decide_eq]
    exact q _ H (.refl H) (.bl _)
theorem ed_neI {i j : Int} (ha : ED F K ta ρ (.int i)) (hb : ED F K tb ρ (.int j)) : ED F K (tOp rNe ta tb) ρ (.bool (!decide (i = j))) :=
  ed_op ha hb fun x y H _ hx hy Q q => by
    rw [hx.int_inv, hy.int_inv]
    refine ⟨rfl, ?_⟩
    rw [dec_int, Bool.beq_eq_decide_eq]
    exact q _ H (.refl H) (.bl _)
theorem ed_eqS {i j : Str} (ha : ED F K ta ρ (.str i)) (hb : ED F K tb ρ (.str j)) : ED F K (tOp rEq ta tb) ρ (.bool (decide (i = j))) :=
  ed_op ha hb fun x y H _ hx hy Q q => by
    rw [hx.str_inv, hy.str_inv]
    refine ⟨rfl, ?_⟩
    rw [dec_str, Bool.beq_eq_decide_eq]
    exact q _ H (.refl H) (.bl _)
/-- is None, is not None -/
def isN : D → Bool
  | .none => true
  | _ => false
theorem Dq.isN {H : Hp} {v : V} {d : D} (h : Dq F K H v d) : decide (v = .non) = isN d := by cases h <;> rfl
theorem ed_isN (ha : ED F K ta ρ d) : ED F K (tOp (fun x y H Q => y = .non ∧ Q (.bl (decide (x = .non))) H) ta (tC .non)) ρ (.bool (isN d)) :=
  ed_op (d2 := .none) ha ed_non fun x y H _ hx hy Q q => ⟨hy.non_inv, by rw [hx.isN]; exact q _ H (.refl H) (.bl _)⟩
theorem ed_notN (ha : ED F K ta ρ d) : ED F K (tOp (fun x y H Q => y = .non ∧ Q (.bl (!decide (x = .non))) H) ta (tC .non)) ρ (.bool (!isN d)) :=
  ed_op (d2 := .none) ha ed_non fun x y H _ hx hy Q q => ⟨hy.non_inv, by rw [hx.isN]; exact q _ H (.refl H) (.bl _)⟩
theorem atI_len {α β : Type} {xs : List α} {ys : List β} (h : xs.length = ys.length) (i : Int) {y : β} (e : atI ys i = some y) : ∃ j : Nat, ys[j]? = some y ∧ ∀ x, xs[j]? = some x → atI xs i = some x := by
  unfold atI at e ⊢
  rw [h]
  cases q : ixN ys.length i with
  | none => rw [q] at e; cases e
  | some j => rw [q] at e; exact ⟨j, e, fun x hx => hx⟩
theorem ed_ixT {ds : List D} {i : Int} (ha : ED F K ta ρ (.tuple ds)) (hb : ED F K tb ρ (.int i)) (h : atI ds i = some d) : ED F K (tOp (rIx K) ta tb) ρ d :=
  ed_op ha hb fun x y H _ hx hy Q q => by
    obtain ⟨a, xs, rfl, hs, hd⟩ := hx.tup_inv
    obtain ⟨j, h1, h2⟩ := atI_len hd.len i h
    obtain ⟨v, h3, h4⟩ := hd.get h1
    exact .inr (.inl ⟨a, xs, i, v, rfl, hy.int_inv, hs, h2 v h3, q v H (.refl H) h4⟩)
theorem ed_ixL {ds : List D} {i : Int} (ha : ED F K ta ρ (.list ds)) (hb : ED F K tb ρ (.int i)) (h : atI ds i = some d) : ED F K (tOp (rIx K) ta tb) ρ d :=
  ed_op ha hb fun x y H _ hx hy Q q => by
    obtain ⟨a, xs, rfl, _, hs, hd⟩ := hx.lst_inv
    obtain ⟨j, h1, h2⟩ := atI_len hd.len i h
    obtain ⟨v, h3, h4⟩ := hd.get h1
    exact .inl ⟨a, xs, i, v, rfl, hy.int_inv, hs, h2 v h3, q v H (.refl H) h4⟩
/-- x in (a, b), texts -/
theorem inV_strs (x : Str) : ∀ ys : List Str, inV (.str x) (ys.map V.str) = decide (x ∈ ys)
  | [] => rfl
  | y :: ys => by
    have ih := inV_strs x ys
    unfold inV at ih ⊢
    rw [List.map_cons, List.any_cons, ih]
    show (eqV (.str y) (.str x) || _) = _
    have e : eqV (.str y) (.str x) = decide (x = y) := by
      show decide (y = x) = decide (x = y)
      exact decide_eq_decide.mpr eq_comm
    rw [e]
    by_cases h : x = y <;> simp [h]
theorem flat_str (ys : List Str) : (ys.map V.str).all flatV = true := by
  rw [List.all_eq_true]; intro v hv
  obtain ⟨y, _, rfl⟩ := List.mem_map.mp hv
  rfl
theorem flat_bl (ys : List Bool) : (ys.map V.bl).all flatV = true := by
  rw [List.all_eq_true]; intro v hv
  obtain ⟨y, _, rfl⟩ := List.mem_map.mp hv
  rfl
theorem inV_bls (x : Bool) : ∀ ys : List Bool, inV (.bl x) (ys.map V.bl) = ys.contains x
  | [] => rfl
  | y :: ys => by
    have ih := inV_bls x ys
    unfold inV at ih ⊢
    rw [List.map_cons, List.any_cons, ih, List.contains_cons]
    show (eqV (.bl y) (.bl x) || _) = _
    cases x <;> cases y <;> rfl
theorem ed_inT {x : Str} {ys : List Str} (ha : ED F K ta ρ (.str x)) (hb : ED F K tb ρ (.tuple (ys.map .str))) : ED F K (tOp (rIn K false) ta tb) ρ (.bool (decide (x ∈ ys))) :=
  ed_op ha hb fun v y H _ hx hy Q q => by
    obtain ⟨a, xs, rfl, hs, hd⟩ := hy.tup_inv
    have e := strs_inv hd
    subst e
    rw [hx.str_inv]
    refine ⟨a, _, rfl, .inr hs, rfl, flat_str ys, ?_⟩
    rw [inV_strs]
    exact q _ H (.refl H) (.bl _)
theorem ed_niT {x : Str} {ys : List Str} (ha : ED F K ta ρ (.str x)) (hb : ED F K tb ρ (.tuple (ys.map .str))) : ED F K (tOp (rIn K true) ta tb) ρ (.bool (!decide (x ∈ ys))) :=
  ed_op ha hb fun v y H _ hx hy Q q => by
    obtain ⟨a, xs, rfl, hs, hd⟩ := hy.tup_inv
    have e := strs_inv hd
    subst e
    rw [hx.str_inv]
    refine ⟨a, _, rfl, .inr hs, rfl, flat_str ys, ?_⟩
    rw [inV_strs]
    exact q _ H (.refl H) (.bl _)
theorem ed_inLs {x : Str} {ys : List Str} (ha : ED F K ta ρ (.str x)) (hb : ED F K tb ρ (.list (ys.map .str))) : ED F K (tOp (rIn K false) ta tb) ρ (.bool (decide (x ∈ ys))) :=
  ed_op ha hb fun v y H _ hx hy Q q => by
    obtain ⟨a, xs, rfl, _, hs, hd⟩ := hy.lst_inv
    have e := strs_inv hd
    subst e
    rw [hx.str_inv]
    refine ⟨a, _, rfl, .inl hs, rfl, flat_str ys, ?_⟩
    rw [inV_strs]
    exact q _ H (.refl H) (.bl _)
theorem ed_inLb {x : Bool} {ys : List Bool} (ha : ED F K ta ρ (.bool x)) (hb : ED F K tb ρ (.list (ys.map .bool))) : ED F K (tOp (rIn K false) ta tb) ρ (.bool (ys.contains x)) :=
  ed_op ha hb fun v y H _ hx hy Q q => by
    obtain ⟨a, xs, rfl, _, hs, hd⟩ := hy.lst_inv
    have e := bls_inv hd
    subst e
    rw [hx.bl_inv]
    refine ⟨a, _, rfl, .inl hs, rfl, flat_bl ys, ?_⟩
    rw [inV_bls]
    exact q _ H (.refl H) (.bl _)
theorem ea_nil : EA F K tNil ρ [] := fun _ H _ _ _ q => q [] H (.refl H) .nil
theorem ea_cons {tr : TA} {ds : List D} (h : ED F K te ρ d) (hr : EA F K tr ρ ds) : EA F K (tCons te tr) ρ (d :: ds) := fun σ H J E Q q =>
  h σ H J E _ fun x H1 e1 q1 => hr σ H1 (e1.inv J) (E.mono e1) _ fun xs H2 e2 q2 => q (x :: xs) H2 (e1.trans e2) (.cons (q1.mono e2) q2)
theorem sz_le {n : Nat} (h : n ≤ 100000) : n ≤ sizeLine := Nat.le_trans h (by decide)
theorem sz_lt {n : Nat} (h : n < 100000) : n < sizeLine := Nat.lt_of_lt_of_le h (by decide)
theorem ed_tup {ds : List D} (h : EA F K tas ρ ds) (hl : ds.length ≤ 100000 := by exact Nat.le_of_ble_eq_true rfl) : ED F K (tTup tas) ρ (.tuple ds) := fun σ H J E Q q =>
  h σ H J E _ fun vs H1 e1 q1 => ⟨sz_le (by rw [q1.len]; exact hl), fun p hp => q _ _ (e1.trans (.new hp)) (.newT hp q1)⟩
theorem ed_lst {ds : List D} (h : EA F K tas ρ ds) (hl : ds.length ≤ 100000 := by exact Nat.le_of_ble_eq_true rfl) : ED F K (tLst tas) ρ (.list ds) := fun σ H J E Q q =>
  h σ H J E _ fun vs H1 e1 q1 => ⟨sz_le (by rw [q1.len]; exact hl), fun p hp => q _ _ (e1.trans (.new hp)) (.newL (e1.inv J) hp q1)⟩
theorem ed_call {R : List D → D → Prop} {ds : List D} {E : XK} (h : EA F K tas ρ ds) (hR : R ds d) : ED F K (tCall (spR w K R) [] E tas) ρ d := fun σ H J En Q q =>
  h σ H J En _ fun vs H1 e1 q1 => by
    show spR w K R (vs ++ []) H1 Q E
    rw [List.append_nil]
    exact ⟨F, e1.inv J, ds, d, q1, hR, fun v H2 e2 q2 => q v H2 (e1.trans e2) q2⟩
/-- a call with the defaults dvs -/
theorem ed_callD {R : List D → D → Prop} {ds dd : List D} {dvs : List V} {E : XK} (h : EA F K tas ρ ds) (hd : ∀ H, DqAll F K H dvs dd) (hR : R (ds ++ dd) d) : ED F K (tCall (spR w K R) dvs E tas) ρ d := fun σ H J En Q q =>
  h σ H J En _ fun vs H1 e1 q1 => ⟨F, e1.inv J, ds ++ dd, d, q1.app (hd H1), hR, fun v H2 e2 q2 => q v H2 (e1.trans e2) q2⟩
theorem ed_if {b : Bool} (h : ET F K tt ρ b) (h1 : b = true → ED F K ta ρ d) (h2 : b = false → ED F K tb ρ d) : ED F K (tIf tt ta tb) ρ d := fun σ H J E Q q => h σ H J E _ fun H1 e1 => by
  cases b with
  | true => exact h1 rfl σ H1 (e1.inv J) (E.mono e1) Q fun v H2 e2 q2 => q v H2 (e1.trans e2) q2
  | false => exact h2 rfl σ H1 (e1.inv J) (E.mono e1) Q fun v H2 e2 q2 => q v H2 (e1.trans e2) q2
theorem ed_andV {a b : Bool} (h1 : ED F K ta ρ (.bool a)) (h2 : a = true → ED F K tb ρ (.bool b)) : ED F K (tAndV ta tb) ρ (.bool (a && b)) := fun σ H J E Q q => h1 σ H J E _ fun x H1 e1 q1 => ⟨a, q1.bl_inv, by
  cases a with
  | true => exact h2 rfl σ H1 (e1.inv J) (E.mono e1) Q fun v H2 e2 q2 => q v H2 (e1.trans e2) q2
  | false => exact q _ H1 e1 (.bl false)⟩
theorem ed_orV {a b : Bool} (h1 : ED F K ta ρ (.bool a)) (h2 : a = false → ED F K tb ρ (.bool b)) : ED F K (tOrV ta tb) ρ (.bool (a || b)) := fun σ H J E Q q => h1 σ H J E _ fun x H1 e1 q1 => ⟨a, q1.bl_inv, by
  cases a with
  | false => exact h2 rfl σ H1 (e1.inv J) (E.mono e1) Q fun v H2 e2 q2 => q v H2 (e1.trans e2) q2
  | true => exact q _ H1 e1 (.bl true)⟩
theorem ed_notV {a : Bool} (h1 : ED F K ta ρ (.bool a)) : ED F K (tNotV ta) ρ (.bool (!a)) := fun σ H J E Q q => h1 σ H J E _ fun x H1 e1 q1 => ⟨a, q1.bl_inv, q _ H1 e1 (.bl _)⟩
/-- a == b == c of ints -/
theorem ed_chainEq {i j k : Int} (h1 : ED F K ta ρ (.int i)) (h2 : ED F K tb ρ (.int j)) (h3 : ED F K tc ρ (.int k)) : ED F K (tChain rEq rEq ta tb tc) ρ (.bool (decide (i = j) && decide (j = k))) := fun σ H J E Q q =>
  h1 σ H J E _ fun x H1 e1 q1 => h2 σ H1 (e1.inv J) (E.mono e1) _ fun y H2 e2 q2 => by
    rw [q1.int_inv, q2.int_inv]
    refine ⟨rfl, ?_⟩
    rw [dec_int, Bool.beq_eq_decide_eq]
    refine ⟨_, rfl, ?_⟩
    by_cases hij : i = j
    · have ez : (decide (i = j) && decide (j = k)) = decide (j = k) := by rw [decide_eq_true hij]; rfl
      rw [ez] at q
      rw [decide_eq_true hij]
      refine iteT (h3 σ H2 (e2.inv (e1.inv J)) (E.mono (e1.trans e2)) _ fun z H3 e3 q3 => ?_)
      rw [q3.int_inv]
      refine ⟨rfl, ?_⟩
      rw [dec_int, Bool.beq_eq_decide_eq]
      exact q _ H3 ((e1.trans e2).trans e3) (.bl _)
    · have ez : (decide (i = j) && decide (j = k)) = false := by rw [decide_eq_false hij]; rfl
      rw [ez] at q
      rw [decide_eq_false hij]
      exact iteF (q _ H2 (e1.trans e2) (.bl _))
theorem et_val {b : Bool} (h : ED F K te ρ (.bool b)) : ET F K (tB te) ρ b := fun σ H J E Q q => h σ H J E _ fun x H1 e1 q1 => ⟨b, q1.bl_inv, q H1 e1⟩
theorem et_test {b : Bool} (h : ED F K te ρ (.bool b)) : ET F K (tTest te) ρ b := fun σ H J E Q q => h σ H J E _ fun x H1 e1 q1 => ⟨b, q1.bl_inv, q H1 e1⟩
theorem et_and {a b : Bool} (h1 : ET F K tt ρ a) (h2 : a = true → ET F K tu ρ b) : ET F K (tAnd tt tu) ρ (a && b) := fun σ H J E Q q => h1 σ H J E _ fun H1 e1 => by
  cases a with
  | true => exact h2 rfl σ H1 (e1.inv J) (E.mono e1) Q fun H2 e2 => q H2 (e1.trans e2)
  | false => exact q H1 e1
theorem et_or {a b : Bool} (h1 : ET F K tt ρ a) (h2 : a = false → ET F K tu ρ b) : ET F K (tOr tt tu) ρ (a || b) := fun σ H J E Q q => h1 σ H J E _ fun H1 e1 => by
  cases a with
  | false => exact h2 rfl σ H1 (e1.inv J) (E.mono e1) Q fun H2 e2 => q H2 (e1.trans e2)
  | true => exact q H1 e1
theorem et_not {a : Bool} (h1 : ET F K tt ρ a) : ET F K (tNot tt) ρ (!a) := fun σ H J E Q q => h1 σ H J E _ fun H1 e1 => q H1 e1
/-! built-ins by values -/
theorem ed_cb {f : List V → Hp → VK → Prop} {ds : List D} (h : EA F K tas ρ ds) (hr : ∀ vs H, F.J H → DqAll F K H vs ds → ∀ Q : VK, (∀ v H', Xt F H H' → Dq F K H' v d → Q v H') → f vs H Q) : ED F K (tCB f tas) ρ d := fun σ H J E Q q =>
  h σ H J E _ fun vs H1 e1 q1 => hr vs H1 (e1.inv J) q1 Q fun v H2 e2 q2 => q v H2 (e1.trans e2) q2
theorem dq1 {vs : List V} {H : Hp} (h : DqAll F K H vs [d]) : ∃ v, vs = [v] ∧ Dq F K H v d := by
  cases h with
  | cons h t => cases t; exact ⟨_, rfl, h⟩
theorem dq2 {vs : List V} {H : Hp} (h : DqAll F K H vs [d1, d2]) : ∃ v u, vs = [v, u] ∧ Dq F K H v d1 ∧ Dq F K H u d2 := by
  cases h with
  | cons h t =>
    obtain ⟨u, rfl, q⟩ := dq1 t
    exact ⟨_, _, rfl, h, q⟩
abbrev rLenSeq (K : PySem.W.Frag) : List V → Hp → VK → Prop := fun xs H Q => ∃ p ys, xs = [.ref p] ∧ (SqL K H p ys ∨ SqT K H p ys) ∧ Q (.int ys.length) H
theorem ed_lenT {ds : List D} (h : EA F K tas ρ [.tuple ds]) : ED F K (tCB (rLenSeq K) tas) ρ (.int (ds.length : Int)) := ed_cb h fun vs H _ q Q k => by
  obtain ⟨v, rfl, q1⟩ := dq1 q
  obtain ⟨a, xs, rfl, hs, hd⟩ := q1.tup_inv
  refine ⟨a, xs, rfl, .inr hs, ?_⟩
  rw [hd.len]
  exact k _ H (.refl H) (.int _)
theorem ed_lenL {ds : List D} (h : EA F K tas ρ [.list ds]) : ED F K (tCB (rLenSeq K) tas) ρ (.int (ds.length : Int)) := ed_cb h fun vs H _ q Q k => by
  obtain ⟨v, rfl, q1⟩ := dq1 q
  obtain ⟨a, xs, rfl, _, hs, hd⟩ := q1.lst_inv
  refine ⟨a, xs, rfl, .inl hs, ?_⟩
  rw [hd.len]
  exact k _ H (.refl H) (.int _)
abbrev rListOf (K : PySem.W.Frag) : List V → Hp → VK → Prop := fun xs H Q => ∃ p ys, xs = [.ref p] ∧ (SqL K H p ys ∨ SqT K H p ys) ∧ ∀ l, H l = none → Q (.ref l) (upd H l (.lst ys))
abbrev rTupleOf (K : PySem.W.Frag) : List V → Hp → VK → Prop := fun xs H Q => ∃ p ys, xs = [.ref p] ∧ ((SqL K H p ys ∧ ∀ l, H l = none → Q (.ref l) (upd H l (.tup ys))) ∨ (SqT K H p ys ∧ Q (.ref p) H))
theorem ed_listT {ds : List D} (h : EA F K tas ρ [.tuple ds]) : ED F K (tCB (rListOf K) tas) ρ (.list ds) := ed_cb h fun vs H J q Q k => by
  obtain ⟨v, rfl, q1⟩ := dq1 q
  obtain ⟨a, xs, rfl, hs, hd⟩ := q1.tup_inv
  exact ⟨a, xs, rfl, .inr hs, fun l hl => k _ _ (.new hl) (.newL J hl hd)⟩
theorem ed_tupL {ds : List D} (h : EA F K tas ρ [.list ds]) : ED F K (tCB (rTupleOf K) tas) ρ (.tuple ds) := ed_cb h fun vs H J q Q k => by
  obtain ⟨v, rfl, q1⟩ := dq1 q
  obtain ⟨a, xs, rfl, _, hs, hd⟩ := q1.lst_inv
  exact ⟨a, xs, rfl, .inl ⟨hs, fun l hl => k _ _ (.new hl) (.newT hl hd)⟩⟩
abbrev rInt1 : List V → Hp → VK → Prop := fun xs H Q => (∃ i, xs = [.int i] ∧ Q (.int i) H) ∨ ∃ k, xs = [.bl k] ∧ Q (.int (if k then 1 else 0)) H
theorem ed_intB {b : Bool} (h : EA F K tas ρ [.bool b]) : ED F K (tCB rInt1 tas) ρ (.int (if b then 1 else 0)) := ed_cb h fun vs H _ q Q k => by
  obtain ⟨v, rfl, q1⟩ := dq1 q
  rw [q1.bl_inv]
  exact .inr ⟨b, rfl, k _ H (.refl H) (.int _)⟩
abbrev rAbs : List V → Hp → VK → Prop := fun xs H Q => ∃ i, xs = [.int i] ∧ Q (.int (if i < 0 then -i else i)) H
theorem ed_abs {i : Int} (h : EA F K tas ρ [.int i]) : ED F K (tCB rAbs tas) ρ (.int (if i < 0 then -i else i)) := ed_cb h fun vs H _ q Q k => by
  obtain ⟨v, rfl, q1⟩ := dq1 q
  rw [q1.int_inv]
  exact ⟨i, rfl, k _ H (.refl H) (.int _)⟩
theorem ed_maxL {ns : List Int} {m : Int} (h : EA F K tas ρ [.list (ns.map .int)]) (h0 : 0 < ns.length) (hm : ∀ z, z ∈ ns → (∀ y, y ∈ ns → y ≤ z) → z = m) : ED F K (tCB (rMax K) tas) ρ (.int m) := ed_cb h fun vs H _ q Q k => by
  obtain ⟨v, rfl, q1⟩ := dq1 q
  obtain ⟨a, xs, rfl, _, hs, hd⟩ := q1.lst_inv
  have e := ints_inv hd
  subst e
  refine ⟨a, ns, rfl, hs, h0, fun z hz hle => ?_⟩
  rw [hm z hz hle]
  exact k _ H (.refl H) (.int _)
theorem ed_allL {bs : List Bool} (h : EA F K tas ρ [.list (bs.map .bool)]) : ED F K (tCB (rAll K) tas) ρ (.bool (bs.all id)) := ed_cb h fun vs H _ q Q k => by
  obtain ⟨v, rfl, q1⟩ := dq1 q
  obtain ⟨a, xs, rfl, _, hs, hd⟩ := q1.lst_inv
  have e := bls_inv hd
  subst e
  exact ⟨a, bs, rfl, hs, k _ H (.refl H) (.bl _)⟩
/-! == of data -/
theorem ed_eqD (ha : ED F K ta ρ d1) (hb : ED F K tb ρ d2) (h1 : SeqAt.shaped d1 = true) (h2 : SeqAt.shaped d2 = true) : ED F K (tOp (rEqD K) ta tb) ρ (.bool (PyData.eqv d1 d2)) :=
  ed_op ha hb fun x y H _ hx hy Q q => ⟨d1, d2, hx.dp _ (SeqAt.canLay_of_shaped h1), hy.dp _ (SeqAt.canLay_of_shaped h2), h1, h2, q _ H (.refl H) (.bl _)⟩
/-! slices -/
theorem cutV_from {xs : List V} {k : Nat} : cutV xs (some (k : Int)) none = xs.drop k := by
  unfold cutV
  rw [HT.sIx_nat, HT.sIx_none]
  rcases Nat.le_total k xs.length with h | h
  · rw [Nat.min_eq_left h, List.take_of_length_le (by rw [List.length_drop]; omega)]
  · rw [Nat.min_eq_right h, List.drop_eq_nil_of_le (Nat.le_refl _), List.drop_eq_nil_of_le h]; simp
theorem cutV_to {xs : List V} {k : Nat} : cutV xs none (some (k : Int)) = xs.take k := by
  unfold cutV
  rw [HT.sIx_nat, HT.sIx_none]
  rcases Nat.le_total k xs.length with h | h
  · rw [Nat.min_eq_left h]; simp
  · rw [Nat.min_eq_right h, List.take_of_length_le h]; simp [List.take_of_length_le]
theorem ed_slL_from {ds : List D} {k : Nat} (h : ED F K te ρ (.list ds)) : ED F K (tSl (rSlL K) te (tPart (tC (.int (k : Int)))) tNoPart) ρ (.list (ds.drop k)) := fun σ H J E Q q =>
  h σ H J E _ fun v H1 e1 q1 => by
    obtain ⟨a, xs, rfl, _, hs, hd⟩ := q1.lst_inv
    refine ⟨k, rfl, a, xs, rfl, hs, fun p hp => ?_⟩
    rw [cutV_from]
    exact q _ _ (e1.trans (.new hp)) (.newL (e1.inv J) hp (hd.drop k))
theorem ed_slL_to {ds : List D} {k : Nat} (h : ED F K te ρ (.list ds)) : ED F K (tSl (rSlL K) te tNoPart (tPart (tC (.int (k : Int))))) ρ (.list (ds.take k)) := fun σ H J E Q q =>
  h σ H J E _ fun v H1 e1 q1 => by
    obtain ⟨a, xs, rfl, _, hs, hd⟩ := q1.lst_inv
    refine ⟨k, rfl, a, xs, rfl, hs, fun p hp => ?_⟩
    rw [cutV_to]
    exact q _ _ (e1.trans (.new hp)) (.newL (e1.inv J) hp (hd.take k))
end
end FW
end PartLay1
section PartLay2
set_option Elab.async false
set_option linter.all false
set_option maxRecDepth 100000
set_option maxHeartbeats 2000000
/-! THE DATA LAYER, second part: enumerate of a tuple, zip of a list and a tuple in any mix. -/
namespace FW
open PySem PySem.Spec PyProof.Rows L2

/-! ### a list or a tuple -/
def SqX (K : PySem.W.Frag) (k : Bool) (H : Hp) (a : Addr) (xs : List V) : Prop := if k = true then SqT K H a xs else SqL K H a xs
/-- an iterator over it -/
def IterX (k : Bool) (h : Heap) (it a : Addr) (i : Nat) : Prop := if k = true then h.IsTupleIter it a i else h.IsListIter it a i
def ObX (k : Bool) (h : Heap) (a : Addr) (its : Array Value) : Prop := if k = true then h.IsTuple a its else h.IsList a its
def itO (k : Bool) (a : Addr) : Obj := if k = true then { cls := .type "tuple_iterator", data := .fields #[.ref a, .int 0 0] } else { cls := .type "list_iterator", data := .fields #[.ref a, .int 0 0] }
section
variable {X : Cx} {pins : List (Addr × Obj)} {σ : L2.St} {H : Hp} {s : Shared} {a : Addr} {xs ys : List V} {k : Bool}
theorem sqX (I : Inv X pins σ H s) (h : SqX X.K k H a xs) : ∃ its : List Value, Vals xs its ∧ ObX k s.heap a its.toArray ∧ a < s.heap.objs.size := by
  cases k with
  | true =>
    obtain ⟨its, r, p, _⟩ := I.tuple (show SqT X.K H a xs from h)
    obtain ⟨o, e, _⟩ := id p
    exact ⟨its, r, p, Heap.lt_size e⟩
  | false =>
    obtain ⟨its, r, p, _⟩ := I.list (show SqL X.K H a xs from h)
    exact ⟨its, r, p.isList, p.lt⟩
theorem sqX_inj (I : Inv X pins σ H s) (h : SqX X.K k H a xs) (h' : SqX X.K k H a ys) : xs = ys := by
  cases k with
  | true => exact I.tuple_inj (show SqT X.K H a xs from h) h'
  | false => exact I.list_inj (show SqL X.K H a xs from h) h'
theorem IterX.at {h h' : Heap} {it a : Addr} {i : Nat} (x : IterX k h it a i) (e : ∀ o, h.get? it = some o → h'.get? it = some o) : IterX k h' it a i := by
  cases k with
  | true => exact Heap.IsTupleIter.at (show h.IsTupleIter it a i from x) e
  | false => exact Heap.IsListIter.at (show h.IsListIter it a i from x) e
theorem IterX.ob {h : Heap} {it a : Addr} {i : Nat} (x : IterX k h it a i) : ∃ o, h.get? it = some o ∧ ∀ v, o.data ≠ .cell v := by
  cases k with
  | true =>
    obtain ⟨o, e, _, d⟩ := (show h.IsTupleIter it a i from x)
    exact ⟨o, e, fun v z => by rw [d] at z; cases z⟩
  | false =>
    obtain ⟨o, e, _, d⟩ := (show h.IsListIter it a i from x)
    exact ⟨o, e, fun v z => by rw [d] at z; cases z⟩
theorem IterX.new {h : Heap} {it a : Addr} (e : h.get? it = some (itO k a)) : IterX k h it a 0 := by
  cases k with
  | true => exact ⟨_, e, rfl, rfl⟩
  | false => exact ⟨_, e, rfl, rfl⟩
theorem drawsX {P : Program} {w : World} {A : Around} (hh : A.handled = none) (it a : Addr) (hne : a ≠ it) (items : Array Value) :
    Draws P w A it [it, a] items.size (fun i v => items[i]? = some v) (fun i h => IterX k h it a i ∧ ObX k h a items) := by
  cases k with
  | true => exact Draws.tuple hh it a hne items
  | false => exact Draws.list hh it a hne items
theorem beginsX (a : Addr) (items : Array Value) : Begins (.ref a) (itO k a) (fun h => ObX k h a items) := by
  cases k with
  | true => exact begins_tuple a items
  | false => exact begins_list a items
end

/-! ### zip -/
def ItzX (K : PySem.W.Frag) (k1 k2 : Bool) (a b : Addr) : It :=
  ⟨fun i H => ∃ (xs ys : List V) (x y : V), SqX K k1 H a xs ∧ SqX K k2 H b ys ∧ xs[i]? = some x ∧ ys[i]? = some y,
    fun i H v H' => ∃ T x y, v = .ref T ∧ H T = none ∧ H' = upd H T (.tup [x, y]) ∧ (∀ xs, SqX K k1 H a xs → xs[i]? = some x) ∧ ∀ ys, SqX K k2 H b ys → ys[i]? = some y,
    fun i H => ∃ xs ys : List V, SqX K k1 H a xs ∧ SqX K k2 H b ys ∧ min xs.length ys.length = i⟩
theorem turn_zipX {P : Program} {w : World} {K : PySem.W.Frag} {elts : List Expr} {kk : Nat} {tpos : Pos} {k1 k2 : Bool} {a b z TI TO i1 i2 : Addr} (D : ZipSep2 z TI TO i1 i2 [i1, a] [i2, b]) (ha : a ≠ i1) (hb : b ≠ i2) :
    Turn P w K (.Tuple elts kk tpos) (ItzX K k1 k2 a b) [z, TI, TO, i1, i2] z (fun i h => IsZip h z TI TO .none ∧ IsTupOf2 h TI (.ref i1) (.ref i2) ∧ (∃ x y, IsTupOf2 h TO x y) ∧ IterX k1 h i1 a i ∧ IterX k2 h i2 b i) where
  mem := by simp
  obj := fun i h st c hc => by
    obtain ⟨hz, hTI, ⟨x, y, hTO⟩, h1, h2⟩ := st
    have e' : c = z ∨ c = TI ∨ c = TO ∨ c = i1 ∨ c = i2 := by simpa using hc
    rcases e' with q | q | q | q | q
    · rw [q]; exact ⟨_, hz, fun v q => nomatch q⟩
    · rw [q]; exact ⟨_, hTI, fun v q => nomatch q⟩
    · rw [q]; exact ⟨_, hTO, fun v q => nomatch q⟩
    · rw [q]; exact h1.ob
    · rw [q]; exact h2.ob
  keep := fun i h h' st k => by
    obtain ⟨hz, hTI, ⟨x, y, hTO⟩, h1, h2⟩ := st
    exact ⟨k z (by simp) _ hz, k TI (by simp) _ hTI, ⟨x, y, k TO (by simp) _ hTO⟩, h1.at fun o q => k i1 (by simp) o q, h2.at fun o q => k i2 (by simp) o q⟩
  item := by
    intro X hP hw hK hc i pins s σ H E I hf st hg
    subst hP hw hK
    obtain ⟨hz, hTI, hTO, h1, h2⟩ := st
    obtain ⟨xs, ys, x, y, hqx, hqy, hx, hy⟩ := hg
    obtain ⟨its, rv, p, la⟩ := sqX I hqx
    obtain ⟨its2, rv2, p2, lb⟩ := sqX I hqy
    have l1 := rv.length
    have l2 := rv2.length
    have hi1 : i < xs.length := (List.getElem?_eq_some_iff.mp hx).1
    have hi2 : i < ys.length := (List.getElem?_eq_some_iff.mp hy).1
    have G := GoesN.zip2 (prog := X.prog) (w := X.w) (A := X.A) (elts := elts) (x1 := kk) (pos := tpos) D (drawsX (k := k1) (A := X.A.in1) (I.ok.hd hc) i1 a ha its.toArray) (drawsX (k := k2) (A := X.A.in1) (I.ok.hd hc) i2 b hb its2.toArray)
    refine wpAny_mono (G.goes i s _ E (by simp; omega) ⟨hz, hTI, hTO, ⟨h1, p⟩, ⟨h2, p2⟩⟩ fun v h' tk hY hS hk htk => ?_) (fun _ _ q => q) fun _ _ e => e
    obtain ⟨T, u, u2, rfl, hn, hu, hu2, hT⟩ := hY
    obtain ⟨hz', hTI', hTO', ⟨h1', _⟩, ⟨h2', _⟩⟩ := hS
    obtain ⟨u', e1, ru⟩ := rv.get hx
    obtain ⟨u2', e2, ru2⟩ := rv2.get hy
    have q1 : u = u' := by
      have : its[i]? = some u := by simpa using hu
      rw [e1] at this; exact (Option.some.inj this).symm
    have q2 : u2 = u2' := by
      have : its2[i]? = some u2 := by simpa using hu2
      rw [e2] at this; exact (Option.some.inj this).symm
    subst q1 q2
    have new : ObjOk X.prog X.w (upd H T (.tup [x, y])) h' T (.tup [x, y]) := ⟨by show 2 ≤ sizeLine; decide, [u, u2], .cons ru (.cons ru2 .nil), hT⟩
    have I1 : Inv X pins σ (upd H T (.tup [x, y])) { s with heap := h', toks := tk } :=
      I.turnedNew (ch := [z, TI, TO, i1, i2]) (fun c o hb q => hk c o (fun q' => hb (by
        have e' : c = z ∨ c = TO ∨ c = i1 ∨ c = i2 := by simpa using q'
        rcases e' with e | e | e | e <;> simp [e])) q) hf hn new
    refine ⟨.ref T, _, I1, rfl, ⟨T, x, y, rfl, I.hok.fresh hn, rfl, fun l hl => by rw [sqX_inj I hl hqx]; exact hx, fun l hl => by rw [sqX_inj I hl hqy]; exact hy⟩, ⟨hz', hTI', hTO', h1', h2'⟩, fun c hcm => ?_⟩
    have hlt : c < s.heap.objs.size := by
      have e' : c = z ∨ c = TI ∨ c = TO ∨ c = i1 ∨ c = i2 := by simpa using hcm
      rcases e' with q | q | q | q | q
      · rw [q]; exact Heap.lt_size hz
      · rw [q]; exact Heap.lt_size hTI
      · rw [q]; obtain ⟨_, _, e⟩ := hTO; exact Heap.lt_size e
      · rw [q]; obtain ⟨_, e1, _⟩ := h1.ob; exact Heap.lt_size e1
      · rw [q]; obtain ⟨_, e2, _⟩ := h2.ob; exact Heap.lt_size e2
    rw [upd_ne (Nat.ne_of_lt (Nat.lt_of_lt_of_le hlt hn))]
    exact (hf c hcm).1
  done := by
    intro X hP hw hK hc i pins s σ H E I hf st hg
    subst hP hw hK
    obtain ⟨hz, hTI, hTO, h1, h2⟩ := st
    obtain ⟨xs, ys, hqx, hqy, hend⟩ := hg
    obtain ⟨its, rv, p, la⟩ := sqX I hqx
    obtain ⟨its2, rv2, p2, lb⟩ := sqX I hqy
    have l1 := rv.length
    have l2 := rv2.length
    have G := GoesN.zip2 (prog := X.prog) (w := X.w) (A := X.A) (elts := elts) (x1 := kk) (pos := tpos) D (drawsX (k := k1) (A := X.A.in1) (I.ok.hd hc) i1 a ha its.toArray) (drawsX (k := k2) (A := X.A.in1) (I.ok.hd hc) i2 b hb its2.toArray)
    have e : min its.toArray.size its2.toArray.size = i := by simp; omega
    rw [e] at G
    exact G.stops s (fun s1 => Inv X pins σ H s1) E ⟨hz, hTI, hTO, ⟨h1, p⟩, ⟨h2, p2⟩⟩ fun h' tk hk htk =>
      I.turnedL (ch := [z, TI, TO, i1, i2]) (fun c o hb q => hk c o (fun q' => hb (by
        have e' : c = z ∨ c = TO ∨ c = i1 ∨ c = i2 := by simpa using q'
        rcases e' with e | e | e | e <;> simp [e])) q) hf
  self := fun A i s Q E st h => wpAny_pyIter_zip st.1 h
def iZipX (K : PySem.W.Frag) (k1 k2 : Bool) (ta : TA) : TI := fun σ H R => ta σ H fun vs H1 => ∃ a b xs ys, vs = [.ref a, .ref b] ∧ SqX K k1 H1 a xs ∧ SqX K k2 H1 b ys ∧ R (ItzX K k1 k2 a b) H1
theorem pi_zipX (k1 k2 : Bool) {X : Cx} {e e2 : Expr} {ta : TA} {p pos tpos : Pos} {elts : List Expr} {kk : Nat} (hg : Gl X "zip") (hm : X.mg "zip" = none) (ha : PA X [e, e2] ta)
    (hs : starEach [e, e2] X.env = (false, eval e X.env) :: starEach [e2] X.env := by rfl) (hpl : (backTo pos (starEach [e2] X.env)).any (·.1) = false := by rfl) :
    PI X (.Tuple elts kk tpos) (.Call (.Name "zip" p) [e, e2] [] pos) (iZipX X.K k1 k2 ta) := by
  refine ⟨fun pins s σ H R I h => ?_⟩
  refine Call_ (ld_blt I hg hm PyProof.Rows.boot_zip (PyProof.Rows.callWith_type1 (thn (ha.run pos pins s σ H _ I h) fun us s1 ⟨vs, H1, I1, r1, q1⟩ => ?_) hs hpl))
  obtain ⟨a, b, xs, ys, ex, hqx, hqy, q⟩ := q1
  subst ex
  cases r1 with
  | cons r rr =>
    cases rr with
    | cons r' rr =>
      cases rr
      cases r
      cases r'
      obtain ⟨its, rv, p1, la⟩ := sqX I1 hqx
      obtain ⟨its2, rv2, p2, lb⟩ := sqX I1 hqy
      refine zip_begins2 (beginsX (k := k1) a its.toArray) (beginsX (k := k2) b its2.toArray) p1 p2 fun h' hz hTI hTO h1 h2 hsz hk => wpAny_pyIter_zip hz ?_
      have I2 : Inv X pins σ H1 { s1 with heap := h' } := I1.kept (t' := s1.toks) hk
      refine ⟨s1.heap.objs.size + 4, [s1.heap.objs.size + 4, s1.heap.objs.size + 2, s1.heap.objs.size + 3, s1.heap.objs.size, s1.heap.objs.size + 1], _, _, H1, rfl, I2,
        turn_zipX (zip_sep2 (N := s1.heap.objs.size) (fp1 := [a]) (fp2 := [b]) (fun c hc => by rw [List.mem_singleton.mp hc]; exact la) (fun c hc => by rw [List.mem_singleton.mp hc]; exact lb)) (Nat.ne_of_lt la) (Nat.ne_of_lt (Nat.lt_succ_of_lt lb)),
        ⟨hz, hTI, ⟨_, _, hTO⟩, .new h1, .new h2⟩, fun c hcm => ?_, q⟩
      have e' : c = s1.heap.objs.size + 4 ∨ c = s1.heap.objs.size + 2 ∨ c = s1.heap.objs.size + 3 ∨ c = s1.heap.objs.size ∨ c = s1.heap.objs.size + 1 := by simpa using hcm
      have hle : s1.heap.objs.size ≤ c := by
        rcases e' with z | z | z | z | z
        · rw [z]; exact Nat.le_add_right _ _
        · rw [z]; exact Nat.le_add_right _ _
        · rw [z]; exact Nat.le_add_right _ _
        · rw [z]; exact Nat.le_refl _
        · rw [z]; exact Nat.le_add_right _ _
      exact I1.fpOk hle (I1.hok.fresh hle)

/-! ### enumerate -/
set_option maxHeartbeats 4000000 in
theorem meets_enumB1 {v : Value} {o : Obj} {H : Heap → Prop} (B : Begins v o H) :
    Meets (Builtin.«enumerate.__new__» ⟨[.type "enumerate", v], []⟩) (fun _ R s => H s.heap ∧
      R (.ok (.ret (.ref (s.heap.push o).objs.size))) { s with heap := (s.heap.push o).push { cls := .type "enumerate", data := .fields #[.none, .bool false, .ref s.heap.objs.size, rawInt 0, .none, .none] } }) :=
  .of_wp fun prog w A R s h => by
    obtain ⟨hp, g, d, tk, os⟩ := s; obtain ⟨h1, h⟩ := h
    have hsub := sub_enumerate
    have q1 : ∀ {A' : Around} {E : Value → Shared → Prop} {Q : Value → Shared → Prop}, Q (.ref hp.objs.size) ⟨hp.push o, g, d, tk, os⟩ → wpAny (model prog w) A' (pyIter v) Q E ⟨hp, g, d, tk, os⟩ :=
      fun q => B.iter prog w _ _ ⟨hp, g, d, tk, os⟩ _ h1 q
    wp_walk using q1
    refine wpAny_stack_any fun st => wpAny_pure ?_
    split
    · rename_i c _ _ _ _ _
      cases (c == Value.type "enumerate")
      · wp_walk using q1
        exact ⟨_, rfl, h⟩
      · wp_walk using q1
        exact ⟨_, rfl, h⟩
    · wp_walk using q1
      exact ⟨_, rfl, h⟩
theorem enum_begins1 {prog : Program} {w : World} {A : Around} {E : Value → Shared → Prop} {s : Shared} {v : Value} {o : Obj} {H : Heap → Prop} {Q : Value → Shared → Prop} (B : Begins v o H) (h1 : H s.heap)
    (h : ∀ h', IsEnum h' (s.heap.objs.size + 1) s.heap.objs.size 0 .none → h'.get? s.heap.objs.size = some o → h'.objs.size = s.heap.objs.size + 2 →
      (∀ b o, s.heap.get? b = some o → h'.get? b = some o) → Q (.ref (s.heap.objs.size + 1)) { s with heap := h' }) :
    wpAny (model prog w) A (call (.type "enumerate") [v]) Q E s := by
  refine callType_new F.called_enumerate (by decide) (F.typeCall_enumerate_1 _) (F.newCall_enumerate_1 _) (fun obj => F.args_object_init_2 obj _) F.entry_enumerate_new
    (meets_enumB1 B) ⟨h1, ?_⟩
  have hz : (s.heap.push o).objs.size = s.heap.objs.size + 1 := Heap.size_push ..
  show _ ∧ _
  rw [hz]
  have he : IsEnum ((s.heap.push o).push { cls := .type "enumerate", data := .fields #[.none, .bool false, .ref s.heap.objs.size, rawInt 0, .none, .none] }) (s.heap.objs.size + 1) s.heap.objs.size 0 .none := by
    have := Heap.get?_push_size (s.heap.push o) (o := { cls := .type "enumerate", data := .fields #[.none, .bool false, .ref s.heap.objs.size, rawInt 0, .none, .none] }) rfl
    rw [hz] at this; exact this
  refine ⟨⟨_, he, rfl⟩, h _ he (Heap.get?_push_of_some _ (Heap.get?_push_size _ B.free)) (by rw [Heap.size_push, hz]) fun b o x => Heap.get?_push_of_some _ (Heap.get?_push_of_some _ x)⟩
def IteX (K : PySem.W.Frag) (k : Bool) (a : Addr) : It :=
  ⟨fun i H => ∃ (xs : List V) (x : V), SqX K k H a xs ∧ xs[i]? = some x, fun i H v H' => ∃ T x, v = .ref T ∧ H T = none ∧ H' = upd H T (.tup [.int (i : Nat), x]) ∧ ∀ xs, SqX K k H a xs → xs[i]? = some x, fun i H => ∃ xs : List V, SqX K k H a xs ∧ xs.length = i⟩
theorem turn_enumX {P : Program} {w : World} {K : PySem.W.Frag} {elts : List Expr} {kk : Nat} {tpos : Pos} {k : Bool} {a e it : Addr} (hei : e ≠ it) (hea : e ≠ a) (hai : a ≠ it) :
    Turn P w K (.Tuple elts kk tpos) (IteX K k a) [e, it] e (fun i h => (∃ old, IsEnum h e it ((i : Nat) : Int) old) ∧ IterX k h it a i) where
  mem := by simp
  obj := fun i h st b hb => by
    obtain ⟨⟨old, he⟩, h1⟩ := st
    have e' : b = e ∨ b = it := by simpa using hb
    rcases e' with z | z
    · rw [z]; exact ⟨_, he, fun v q => nomatch q⟩
    · rw [z]; exact h1.ob
  keep := fun i h h' st k => let ⟨⟨old, he⟩, hi⟩ := st; ⟨⟨old, k e (by simp) _ he⟩, hi.at fun o q => k it (by simp) o q⟩
  item := by
    intro X hP hw hK hc i pins s σ H E I hf st hg
    subst hP hw hK
    obtain ⟨⟨old, he⟩, h1⟩ := st
    obtain ⟨xs, x, hqx, hx⟩ := hg
    obtain ⟨its, rv, p, la⟩ := sqX I hqx
    have l1 := rv.length
    have hi1 : i < xs.length := (List.getElem?_eq_some_iff.mp hx).1
    have G := GoesN.enumFrom (prog := X.prog) (w := X.w) (A := X.A) (elts := elts) (x1 := kk) (pos := tpos) 0 (drawsX (k := k) (A := X.A.in1) (I.ok.hd hc) it a hai its.toArray) e hei (by simp [hei, hea]) (by simp)
    have ez : ∀ j : Nat, (0 : Int) + (j : Int) = (j : Int) := fun j => Int.zero_add _
    refine wpAny_mono (G.goes i s _ E (by simp; omega) ⟨⟨old, by rw [ez]; exact he⟩, h1, p⟩ fun v h' tk hY hS hk htk => ?_) (fun _ _ q => q) fun _ _ e => e
    obtain ⟨T, t, u, rfl, hn, hu, hT⟩ := hY
    obtain ⟨⟨old', he'⟩, h1', _⟩ := hS
    rw [ez] at he' hT
    obtain ⟨u', e1, ru⟩ := rv.get hx
    have q1 : u = u' := by
      have : its[i]? = some u := by simpa using hu
      rw [e1] at this; exact (Option.some.inj this).symm
    subst q1
    have new : ObjOk X.prog X.w (upd H T (.tup [.int (i : Nat), x])) h' T (.tup [.int (i : Nat), x]) := ⟨by show 2 ≤ sizeLine; decide, [.int i t, u], .cons ⟨_, rfl⟩ (.cons ru .nil), hT⟩
    have I1 : Inv X pins σ (upd H T (.tup [.int (i : Nat), x])) { s with heap := h', toks := tk } := I.turnedNew (ch := [e, it]) hk hf hn new
    refine ⟨.ref T, _, I1, rfl, ⟨T, x, rfl, I.hok.fresh hn, rfl, fun l hl => by rw [sqX_inj I hl hqx]; exact hx⟩, ⟨⟨old', he'⟩, h1'⟩, fun c hcm => ?_⟩
    have hlt : c < s.heap.objs.size := by
      have e' : c = e ∨ c = it := by simpa using hcm
      rcases e' with q | q
      · rw [q]; exact Heap.lt_size he
      · rw [q]; obtain ⟨_, e1, _⟩ := h1.ob; exact Heap.lt_size e1
    rw [upd_ne (Nat.ne_of_lt (Nat.lt_of_lt_of_le hlt hn))]
    exact (hf c hcm).1
  done := by
    intro X hP hw hK hc i pins s σ H E I hf st hg
    subst hP hw hK
    obtain ⟨⟨old, he⟩, h1⟩ := st
    obtain ⟨xs, hqx, hend⟩ := hg
    obtain ⟨its, rv, p, la⟩ := sqX I hqx
    have l1 := rv.length
    have G := GoesN.enumFrom (prog := X.prog) (w := X.w) (A := X.A) (elts := elts) (x1 := kk) (pos := tpos) 0 (drawsX (k := k) (A := X.A.in1) (I.ok.hd hc) it a hai its.toArray) e hei (by simp [hei, hea]) (by simp)
    have e0 : its.toArray.size = i := by simp; omega
    rw [e0] at G
    exact G.stops s (fun s1 => Inv X pins σ H s1) E ⟨⟨old, by rw [Int.zero_add]; exact he⟩, h1, p⟩ fun h' tk hk htk => I.turnedL (ch := [e, it]) hk hf
  self := fun A i s Q E st h => let ⟨⟨_, he⟩, _⟩ := st; wpAny_pyIter_enum he h
def iEnumX (K : PySem.W.Frag) (k : Bool) (ta : TA) : TI := fun σ H R => ta σ H fun vs H1 => ∃ a xs, vs = [.ref a] ∧ SqX K k H1 a xs ∧ R (IteX K k a) H1
theorem pi_enumX (k : Bool) {X : Cx} {e : Expr} {ta : TA} {p pos tpos : Pos} {elts : List Expr} {kk : Nat} (hg : Gl X "enumerate") (hm : X.mg "enumerate" = none) (ha : PA X [e] ta) (hs : starEach [e] X.env = [(false, eval e X.env)] := by rfl) :
    PI X (.Tuple elts kk tpos) (.Call (.Name "enumerate" p) [e] [] pos) (iEnumX X.K k ta) := by
  refine ⟨fun pins s σ H R I h => ?_⟩
  refine Call_ (ld_blt I hg hm boot_enumerate (PyProof.Rows.callWith_type1 (thn (ha.run pos pins s σ H _ I h) fun us s1 ⟨vs, H1, I1, r1, q1⟩ => ?_) hs rfl))
  obtain ⟨a, xs, ex, hq, q⟩ := q1
  subst ex
  cases r1 with
  | cons r rr =>
    cases rr
    cases r
    obtain ⟨its, rv, p', la⟩ := sqX I1 hq
    refine enum_begins1 (beginsX (k := k) a its.toArray) p' fun h' he hit hsz hk => wpAny_pyIter_enum he ?_
    have I2 : Inv X pins σ H1 { s1 with heap := h' } := I1.kept (t' := s1.toks) hk
    refine ⟨s1.heap.objs.size + 1, [s1.heap.objs.size + 1, s1.heap.objs.size], _, _, H1, rfl, I2, turn_enumX (Nat.succ_ne_self _) (Nat.ne_of_gt (Nat.lt_succ_of_lt la)) (Nat.ne_of_lt la), ⟨⟨.none, he⟩, .new hit⟩, fun b hb => ?_, q⟩
    have e' : b = s1.heap.objs.size + 1 ∨ b = s1.heap.objs.size := by simpa using hb
    have hle : s1.heap.objs.size ≤ b := by
      rcases e' with z | z
      · rw [z]; exact Nat.le_add_right _ _
      · rw [z]; exact Nat.le_refl _
    exact I1.fpOk hle (I1.hok.fresh hle)
end FW
end PartLay2
section PartLay3
set_option Elab.async false
set_option linter.all false
set_option maxRecDepth 100000
set_option maxHeartbeats 2000000
/-! THE DATA LAYER, third part: what is walked, targets, comprehensions, statements, the rule for a def. -/
namespace FW
open PySem PySem.Spec PyProof.Rows L2

/-! ### what a for walks, by data -/
/-- from H1 on the walk gives the data ds, one a turn -/
def WalkD {w : World} (F : Fm w) (K : PySem.W.Frag) (J : It) (H1 : Hp) (ds : List D) : Prop := ∀ H2, Xm F H1 H2 →
  (∀ i d, ds[i]? = some d → J.go i H2 ∧ ∀ x H3, J.yld i H2 x H3 → (∀ y o, H2 y = some o → H3 y = some o) ∧ Dq F K H3 x d) ∧ J.stop ds.length H2
def ID {w : World} (F : Fm w) (K : PySem.W.Frag) (wi : TI) (ρ : Ro) (ds : List D) : Prop := ∀ (σ : L2.St) (H : Hp), F.J H → Env F K H σ ρ → ∀ R : It → Hp → Prop, (∀ J H1, Xt F H H1 → WalkD F K J H1 ds → R J H1) → wi σ H R
section
variable {w : World} {F : Fm w} {K : PySem.W.Frag} {ρ : Ro} {te ta : TE} {tas : TA} {ds es : List D}
theorem Dq.getX {H : Hp} {xs : List V} (h : DqAll F K H xs ds) {i : Nat} {d : D} (e : ds[i]? = some d) {x : V} (hx : xs[i]? = some x) : Dq F K H x d := by
  obtain ⟨v, h1, h2⟩ := h.get e
  rw [h1] at hx; cases hx; exact h2
theorem id_list (h : ED F K te ρ (.list ds)) : ID F K (iList K te) ρ ds := fun σ H J E R q => h σ H J E _ fun v H1 e1 q1 => by
  obtain ⟨a, xs, rfl, n, hs, hd⟩ := q1.lst_inv
  refine ⟨a, rfl, ⟨xs, hs⟩, q _ H1 e1 fun H2 e2 => ⟨fun i d hi => ?_, ⟨xs, sqL_m e2 n hs, by rw [hd.len]; exact Nat.le_refl _⟩⟩⟩
  obtain ⟨x, h1, h2⟩ := hd.get hi
  refine ⟨⟨xs, x, sqL_m e2 n hs, h1⟩, fun y H3 hy => ?_⟩
  obtain ⟨rfl, hy⟩ := hy
  exact ⟨fun _ _ q => q, Dq.getX (hd.mm e2) hi (hy xs (sqL_m e2 n hs))⟩
theorem id_tup (h : ED F K te ρ (.tuple ds)) : ID F K (iTup K te) ρ ds := fun σ H J E R q => h σ H J E _ fun v H1 e1 q1 => by
  obtain ⟨a, xs, rfl, hs, hd⟩ := q1.tup_inv
  refine ⟨a, rfl, ⟨xs, hs⟩, q _ H1 e1 fun H2 e2 => ⟨fun i d hi => ?_, ⟨xs, sqT_m e2 hs, by rw [hd.len]; exact Nat.le_refl _⟩⟩⟩
  obtain ⟨x, h1, h2⟩ := hd.get hi
  refine ⟨⟨xs, x, sqT_m e2 hs, h1⟩, fun y H3 hy => ?_⟩
  obtain ⟨rfl, hy⟩ := hy
  exact ⟨fun _ _ q => q, Dq.getX (hd.mm e2) hi (hy xs (sqT_m e2 hs))⟩
theorem id_rng1 {n : Nat} (h : EA F K tas ρ [.int (n : Int)]) (hn : n ≤ 1000000) : ID F K (iRng1 tas) ρ ((List.range n).map fun i => .int (i : Nat)) := fun σ H J E R q => h σ H J E _ fun vs H1 e1 q1 => by
  obtain ⟨v, rfl, qv⟩ := dq1 q1
  rw [qv.int_inv]
  refine ⟨n, rfl, by omega, by omega, q _ H1 e1 fun H2 e2 => ⟨fun i d hi => ?_, by show (n : Int).toNat ≤ _; simp⟩⟩
  rw [List.getElem?_map] at hi
  have hlt : i < n := by
    have : i < ((List.range n).map fun i => (PyData.int (i : Nat))).length := by
      rw [← List.getElem?_map] at hi
      exact (List.getElem?_eq_some_iff.mp hi).1
    simpa using this
  rw [List.getElem?_range hlt] at hi
  have ed : d = .int (i : Nat) := (Option.some.inj hi).symm
  subst ed
  refine ⟨by show i < (n : Int).toNat; simpa using hlt, fun y H3 hy => ?_⟩
  obtain ⟨rfl, rfl⟩ := hy
  rw [Int.zero_add]
  exact ⟨fun _ _ q => q, .int _⟩
theorem id_rng2 {lo hi : Nat} (h : EA F K tas ρ [.int (lo : Int), .int (hi : Int)]) (hn : lo ≤ 1000000 ∧ hi ≤ 1000000) : ID F K (iRng2 tas) ρ ((List.range (hi - lo)).map fun i => .int ((lo + i : Nat))) := fun σ H J E R q => h σ H J E _ fun vs H1 e1 q1 => by
  obtain ⟨v, u, rfl, qv, qu⟩ := dq2 q1
  rw [qv.int_inv, qu.int_inv]
  have et : ((hi : Int) - (lo : Int)).toNat = hi - lo := by omega
  refine ⟨lo, hi, rfl, ⟨by omega, by omega, by omega, by omega⟩, q _ H1 e1 fun H2 e2 => ⟨fun i d hi' => ?_, by show ((hi : Int) - (lo : Int)).toNat ≤ _; rw [et]; simp⟩⟩
  rw [List.getElem?_map] at hi'
  have hlt : i < hi - lo := by
    have : i < ((List.range (hi - lo)).map fun i => (PyData.int ((lo + i : Nat)))).length := by
      rw [← List.getElem?_map] at hi'
      exact (List.getElem?_eq_some_iff.mp hi').1
    simpa using this
  rw [List.getElem?_range hlt] at hi'
  have ed : d = .int ((lo + i : Nat)) := (Option.some.inj hi').symm
  subst ed
  refine ⟨by show i < ((hi : Int) - (lo : Int)).toNat; rw [et]; exact hlt, fun y H3 hy => ?_⟩
  obtain ⟨rfl, rfl⟩ := hy
  exact ⟨fun _ _ q => q, .int _⟩
theorem sqX_of {k : Bool} {H : Hp} {v : V} (h : Dq F K H v (if k = true then .tuple ds else .list ds)) : ∃ a xs, v = .ref a ∧ (∀ H', Xm F H H' → SqX K k H' a xs) ∧ DqAll F K H xs ds := by
  cases k with
  | true =>
    obtain ⟨a, xs, e, hs, hd⟩ := Dq.tup_inv (show Dq F K H v (.tuple ds) from h)
    exact ⟨a, xs, e, fun H' x => sqT_m x hs, hd⟩
  | false =>
    obtain ⟨a, xs, e, n, hs, hd⟩ := Dq.lst_inv (show Dq F K H v (.list ds) from h)
    exact ⟨a, xs, e, fun H' x => sqL_m x n hs, hd⟩
theorem id_zip {k1 k2 : Bool} (h : EA F K tas ρ [if k1 = true then .tuple ds else .list ds, if k2 = true then .tuple es else .list es]) :
    ID F K (iZipX K k1 k2 tas) ρ (List.zipWith (fun d e => .tuple [d, e]) ds es) := fun σ H J E R q => h σ H J E _ fun vs H1 e1 q1 => by
  obtain ⟨v, u, rfl, qv, qu⟩ := dq2 q1
  obtain ⟨a, xs, rfl, hs, hd⟩ := sqX_of qv
  obtain ⟨b, ys, rfl, ht, he⟩ := sqX_of qu
  refine ⟨a, b, xs, ys, rfl, hs H1 (.refl _), ht H1 (.refl _), q _ H1 e1 fun H2 e2 => ⟨fun i d hi => ?_, ⟨xs, ys, hs H2 e2, ht H2 e2, by rw [List.length_zipWith, hd.len, he.len]⟩⟩⟩
  rw [List.getElem?_zipWith] at hi
  cases c1 : ds[i]? with
  | none => rw [c1] at hi; cases hi
  | some d1 =>
    cases c2 : es[i]? with
    | none => rw [c1, c2] at hi; cases hi
    | some d2 =>
      rw [c1, c2] at hi
      have ed : d = .tuple [d1, d2] := (Option.some.inj hi).symm
      subst ed
      obtain ⟨x, x1, x2⟩ := hd.get c1
      obtain ⟨y, y1, y2⟩ := he.get c2
      refine ⟨⟨xs, ys, x, y, hs H2 e2, ht H2 e2, x1, y1⟩, fun z H3 hz => ?_⟩
      obtain ⟨T, x', y', rfl, hT, rfl, g1, g2⟩ := hz
      have ex : x' = x := Option.some.inj ((g1 xs (hs H2 e2)).symm.trans x1)
      have ey : y' = y := Option.some.inj ((g2 ys (ht H2 e2)).symm.trans y1)
      subst ex ey
      exact ⟨same_new hT, .newT hT (.cons (x2.mm e2) (.cons (y2.mm e2) .nil))⟩
theorem id_enum {k : Bool} (h : EA F K tas ρ [if k = true then .tuple ds else .list ds]) :
    ID F K (iEnumX K k tas) ρ (ds.zipIdx.map fun p => .tuple [.int (p.2 : Nat), p.1]) := fun σ H J E R q => h σ H J E _ fun vs H1 e1 q1 => by
  obtain ⟨v, rfl, qv⟩ := dq1 q1
  obtain ⟨a, xs, rfl, hs, hd⟩ := sqX_of qv
  refine ⟨a, xs, rfl, hs H1 (.refl _), q _ H1 e1 fun H2 e2 => ⟨fun i d hi => ?_, ⟨xs, hs H2 e2, by rw [hd.len]; simp⟩⟩⟩
  rw [List.getElem?_map, List.getElem?_zipIdx] at hi
  cases c1 : ds[i]? with
  | none => rw [c1] at hi; cases hi
  | some d1 =>
    rw [c1] at hi
    have ed : d = .tuple [.int (i : Nat), d1] := by
      have := (Option.some.inj hi).symm
      simpa using this
    subst ed
    obtain ⟨x, x1, x2⟩ := hd.get c1
    refine ⟨⟨xs, x, hs H2 e2, x1⟩, fun z H3 hz => ?_⟩
    obtain ⟨T, x', rfl, hT, rfl, g1⟩ := hz
    have ex : x' = x := Option.some.inj ((g1 xs (hs H2 e2)).symm.trans x1)
    subst ex
    exact ⟨same_new hT, .newT hT (.cons (.int _) (.cons (x2.mm e2) .nil))⟩
end

/-! ### targets -/
/-- the target g takes data d: from ρ to ρ', only the slots in `is` change -/
def GD {w : World} (F : Fm w) (K : PySem.W.Frag) (g : TG) (is : List Nat) (d : D) (ρ ρ' : Ro) : Prop := ∀ (σ : L2.St) (H : Hp) (v : V), F.J H → Env F K H σ ρ → Dq F K H v d →
  ∀ Q : L2.St → Hp → Prop, (∀ σ', Env F K H σ' ρ' → σ'.length = σ.length → (∀ k, k ∉ is → σ'[k]? = σ[k]?) → Q σ' H) → g v σ H Q
section
variable {w : World} {F : Fm w} {K : PySem.W.Frag} {ρ ρ1 ρ2 : Ro} {d d1 d2 d3 : D} {g1 g2 g3 : TG} {is1 is2 is3 : List Nat}
theorem gd_name {i : Nat} : GD F K (gName i) [i] d ρ (ρ.set i (some d)) := fun σ H v J E q Q k =>
  k _ (E.set i q) (List.length_set ..) fun j hj => by rw [List.getElem?_set_ne (fun e => hj (by simp [e]))]
theorem gd_tup2 {i j : Nat} : GD F K (gTup K 2 (gCons (gName i) (gCons (gName j) gNil))) [i, j] (.tuple [d1, d2]) ρ ((ρ.set i (some d1)).set j (some d2)) := fun σ H v J E q Q k => by
  obtain ⟨a, xs, rfl, hs, hd⟩ := q.tup_inv
  obtain ⟨v1, v2, rfl, q1, q2⟩ := dq2 hd
  refine ⟨a, _, rfl, hs, rfl, v1, [v2], rfl, v2, [], rfl, rfl, k _ ((E.set i q1).set j q2) (by simp) fun k' hk => ?_⟩
  rw [List.getElem?_set_ne (fun e => hk (by simp [e])), List.getElem?_set_ne (fun e => hk (by simp [e]))]
theorem gd_tup3 {i j l : Nat} : GD F K (gTup K 3 (gCons (gName i) (gCons (gName j) (gCons (gName l) gNil)))) [i, j, l] (.tuple [d1, d2, d3]) ρ (((ρ.set i (some d1)).set j (some d2)).set l (some d3)) := fun σ H v J E q Q k => by
  obtain ⟨a, xs, rfl, hs, hd⟩ := q.tup_inv
  cases hd with
  | cons q1 t =>
    obtain ⟨v2, v3, rfl, q2, q3⟩ := dq2 t
    refine ⟨a, _, rfl, hs, rfl, _, _, rfl, v2, [v3], rfl, v3, [], rfl, rfl, k _ (((E.set i q1).set j q2).set l q3) (by simp) fun k' hk => ?_⟩
    rw [List.getElem?_set_ne (fun e => hk (by simp [e])), List.getElem?_set_ne (fun e => hk (by simp [e])), List.getElem?_set_ne (fun e => hk (by simp [e]))]
end

/-! ### comprehensions -/
section
variable {w : World} {F : Fm w} {K : PySem.W.Frag} {ρ : Ro} {te : TE} {tt : TT} {wi : TI} {g : TG}
theorem et_yes : ET F K tYes ρ true := fun σ H J E Q q => q H (.refl H)
/-- [te for g in wi if tt] -/
theorem ed_lc {α : Type} (xs : List α) (enc : α → D) (p : α → Bool) (f : α → D) (ρ' : α → Ro) (is : List Nat) {vs : List Nat} (hi : ID F K wi ρ (xs.map enc)) (hz : xs.length ≤ 100000) (his : ∀ i ∈ is, i ∈ vs)
    (hg : ∀ x ∈ xs, GD F K g is (enc x) (wipeR ρ vs) (ρ' x)) (ht : ∀ x ∈ xs, ET F K tt (ρ' x) (p x)) (he : ∀ x ∈ xs, p x = true → ED F K te (ρ' x) (f x)) (htn : ∀ x ∈ xs, tonly (f x) = true) :
    ED F K (tLc wi g tt te vs) ρ (.list ((xs.filter p).map f)) := fun σ H0 J0 E Q q => hi σ H0 J0 E _ fun Jt H1 e1 w1 => fun Dl hD => by
  have J1 := e1.inv J0
  have nD : ¬ F.M Dl := (Xt.fresh J1 (.refl H1) hD).2
  -- the list so far
  let Pv : Nat → Hp → Prop := fun i H => Xt F H1 H ∧ F.J H ∧ ∃ vs, H Dl = some (.lst vs) ∧ DqAll F K H vs (((xs.take i).filter p).map f)
  refine ⟨fun i m H => m = xs.length - i ∧ i ≤ xs.length ∧ Pv i H, ⟨_, rfl, Nat.zero_le _, .new hD, (Xt.new (F := F) hD).inv J1, [], upd_same, .nil⟩, ?_⟩
  rintro i m H ⟨rfl, hil, eH, JH, acc, hacc, dacc⟩
  obtain ⟨go, stop⟩ := w1 H eH.m
  by_cases hlt : i < xs.length
  · have hx : xs[i]? = some xs[i] := List.getElem?_eq_getElem hlt
    have hm : xs[i] ∈ xs := List.getElem_mem hlt
    generalize hxe : xs[i] = x at hx hm
    obtain ⟨g1, g2⟩ := go i (enc x) (by rw [List.getElem?_map, hx]; rfl)
    refine .inr ⟨g1, Pv (i + 1), fun H' p' => ⟨xs.length - (i + 1), by omega, rfl, hlt, p'⟩, fun y H' hy => ?_⟩
    obtain ⟨e2', qy⟩ := g2 y H' hy
    have e2 : Xt F H H' := .of e2'
    have J2 := e2.inv JH
    have E2 : Env F K H' (L2.wipe σ vs) (wipeR ρ vs) := ((E.mono e1).mono (eH.trans e2)).wipe vs
    refine hg x hm _ H' y J2 E2 qy _ fun σ' E3 hl hk => ⟨?_, ?_⟩
    · rw [← wipe_wipe σ vs]
      exact wipe_eq hl fun k hkv => hk k fun hm => hkv (his k hm)
    · refine ht x hm σ' H' J2 E3 _ fun H3 e3 => ?_
      have J3 := e3.inv J2
      have hD3 : H3 Dl = some (.lst acc) := e3.keep _ _ nD (e2.keep _ _ nD hacc)
      have tk : xs.take (i + 1) = xs.take i ++ [x] := by rw [List.take_add_one, hx]; rfl
      cases hp : p x with
      | false =>
        refine iteF ⟨(eH.trans e2).trans e3, J3, acc, hD3, ?_⟩
        rw [tk, List.filter_append, List.map_append, show [x].filter p = [] by rw [List.filter_cons, if_neg (by rw [hp]; decide)]; rfl, List.map_nil, List.append_nil]
        exact (dacc.mono e2).mono e3
      | true =>
        refine iteT (he x hm hp σ' H3 J3 (E3.mono e3) _ fun v H4 e4 q4 => ?_)
        have J4 := e4.inv J3
        have hD4 := e4.keep _ _ nD hD3
        have ext := ((eH.trans e2).trans e3).trans e4
        have hn1 : H1 Dl = none := hD
        refine ⟨acc, hD4, sz_lt (by
          have h1 := dacc.len
          have h2 := List.length_filter_le p (xs.take i)
          rw [List.length_map] at h1
          rw [List.length_take] at h2
          omega), .mut J1 ext hn1 nD (Tk.lst hD4), Xt.upd_J J4 nD (Tk.lst hD4), acc ++ [v], upd_same, ?_⟩
        rw [tk, List.filter_append, List.map_append, show [x].filter p = [x] by rw [List.filter_cons, if_pos hp]; rfl]
        have k5 := Tk.lst (o := .lst (acc ++ [v])) hD4
        refine .app (DqAll.tk k5 _ (tonlyAll_map fun z hz => htn z (List.mem_of_mem_take (List.mem_filter.mp hz).1)) (((dacc.mono e2).mono e3).mono e4)) (.one (Dq.tk k5 _ (htn x hm) q4))
  · have ei : i = xs.length := by omega
    subst ei
    refine .inl ⟨by simpa using stop, ?_⟩
    rw [List.take_length] at dacc
    exact q _ H (e1.trans eH) (.lst nD hacc dacc)
end
end FW
end PartLay3
section PartLay4
set_option Elab.async false
set_option linter.all false
set_option maxRecDepth 100000
set_option maxHeartbeats 2000000
/-! THE DATA LAYER, fourth part: statements, loops, the rule for a def. -/
namespace FW
open PySem PySem.Spec PyProof.Rows L2

/-- from ρ the block hands back d -/
def SD {w : World} (F : Fm w) (K : PySem.W.Frag) (ts : TS) (ρ : Ro) (d : D) : Prop := ∀ (σ : L2.St) (H : Hp) (De : Ends), F.J H → Env F K H σ ρ → (∀ v H', Xt F H H' → Dq F K H' v d → De.rt v H') → ts De σ H
/-- from ρ the block goes on with ρ' -/
def SN {w : World} (F : Fm w) (K : PySem.W.Frag) (ts : TS) (ρ ρ' : Ro) : Prop := ∀ (σ : L2.St) (H : Hp) (De : Ends), F.J H → Env F K H σ ρ → (∀ σ' H', Xt F H H' → Env F K H' σ' ρ' → De.nx σ' H') → ts De σ H
/-- ρ' knows no more than ρ -/
structure Wk (ρ ρ' : Ro) : Prop where
  len : ρ'.length = ρ.length
  le : ∀ (i : Nat) d, ρ'[i]? = some (some d) → ρ[i]? = some (some d)
section
variable {w : World} {F : Fm w} {K : PySem.W.Frag} {ρ ρ1 ρ2 ρ' : Ro} {te : TE} {tas : TA} {tt : TT} {t u : TS} {g : TG} {d d1 d2 : D} {wi : TI}
theorem Wk.refl (ρ : Ro) : Wk ρ ρ := ⟨rfl, fun _ _ h => h⟩
theorem Wk.trans (a : Wk ρ ρ1) (b : Wk ρ1 ρ2) : Wk ρ ρ2 := ⟨b.len.trans a.len, fun i d h => a.le i d (b.le i d h)⟩
theorem Wk.env {H : Hp} {σ : L2.St} (w : Wk ρ ρ') (E : Env F K H σ ρ) : Env F K H σ ρ' := E.weak w.len w.le
theorem sd_ret (h : ED F K te ρ d) : SD F K (tRet te) ρ d := fun σ H De J E q => h σ H J E _ fun v H1 e1 q1 => q v H1 e1 q1
theorem sd_retN : SD F K tRetN ρ .none := fun σ H De J E q => q _ H (.refl H) .non
theorem sn_next : SN F K tNext ρ ρ := fun σ H De J E q => q σ H (.refl H) E
theorem sn_asg {i : Nat} (h : ED F K te ρ d) : SN F K (tAsg te (gName i)) ρ (ρ.set i (some d)) := fun σ H De J E q => h σ H J E _ fun v H1 e1 q1 => q _ H1 e1 ((E.mono e1).set i q1)
theorem sn_asgG {is : List Nat} (h : ED F K te ρ d) (hg : GD F K g is d ρ ρ') : SN F K (tAsg te g) ρ ρ' := fun σ H De J E q => h σ H J E _ fun v H1 e1 q1 => hg σ H1 v (e1.inv J) (E.mono e1) q1 _ fun σ' E' _ _ => q σ' H1 e1 E'
theorem sn_par {i j : Nat} (h : EA F K tas ρ [d1, d2]) : SN F K (tPar i j tas) ρ ((ρ.set i (some d1)).set j (some d2)) := fun σ H De J E q => h σ H J E _ fun vs H1 e1 q1 => by
  obtain ⟨v, u, rfl, qv, qu⟩ := dq2 q1
  exact ⟨v, u, rfl, q _ H1 e1 (((E.mono e1).set i qv).set j qu)⟩
theorem sn_drop (h : ED F K te ρ d) : SN F K (tDrop te) ρ ρ := fun σ H De J E q => h σ H J E _ fun v H1 e1 q1 => q σ H1 e1 (E.mono e1)
theorem sd_seq (h1 : SN F K t ρ ρ1) (h2 : SD F K u ρ1 d) : SD F K (tSeq t u) ρ d := fun σ H De J E q => h1 σ H { De with nx := u De } J E fun σ' H1 e1 E1 => h2 σ' H1 De (e1.inv J) E1 fun v H2 e2 q2 => q v H2 (e1.trans e2) q2
theorem sn_seq (h1 : SN F K t ρ ρ1) (h2 : SN F K u ρ1 ρ2) : SN F K (tSeq t u) ρ ρ2 := fun σ H De J E q => h1 σ H { De with nx := u De } J E fun σ' H1 e1 E1 => h2 σ' H1 De (e1.inv J) E1 fun σ2 H2 e2 q2 => q σ2 H2 (e1.trans e2) q2
theorem sd_seqR (h1 : SD F K t ρ d) : SD F K (tSeq t u) ρ d := fun σ H De J E q => h1 σ H { De with nx := u De } J E q
theorem sn_wk (h : SN F K t ρ ρ1) (w : Wk ρ1 ρ2) : SN F K t ρ ρ2 := fun σ H De J E q => h σ H De J E fun σ' H' e E' => q σ' H' e (w.env E')
theorem sd_wk (w : Wk ρ ρ1) (h : SD F K t ρ1 d) : SD F K t ρ d := fun σ H De J E q => h σ H De J (w.env E) q
theorem sd_if {b : Bool} (h : ET F K tt ρ b) (h1 : b = true → SD F K t ρ d) (h2 : b = false → SD F K u ρ d) : SD F K (tIfS tt t u) ρ d := fun σ H De J E q => h σ H J E _ fun H1 e1 => by
  cases b with
  | true => exact h1 rfl σ H1 De (e1.inv J) (E.mono e1) fun v H2 e2 q2 => q v H2 (e1.trans e2) q2
  | false => exact h2 rfl σ H1 De (e1.inv J) (E.mono e1) fun v H2 e2 q2 => q v H2 (e1.trans e2) q2
theorem sn_if {b : Bool} (h : ET F K tt ρ b) (h1 : b = true → SN F K t ρ ρ') (h2 : b = false → SN F K u ρ ρ') : SN F K (tIfS tt t u) ρ ρ' := fun σ H De J E q => h σ H J E _ fun H1 e1 => by
  cases b with
  | true => exact h1 rfl σ H1 De (e1.inv J) (E.mono e1) fun σ2 H2 e2 q2 => q σ2 H2 (e1.trans e2) q2
  | false => exact h2 rfl σ H1 De (e1.inv J) (E.mono e1) fun σ2 H2 e2 q2 => q σ2 H2 (e1.trans e2) q2
/-- if c: return .. -/
theorem sd_when {b : Bool} (h : ET F K tt ρ b) (h1 : b = true → SD F K t ρ d) (h2 : b = false → SD F K u ρ d) : SD F K (tSeq (tIfS tt t tNext) u) ρ d := fun σ H De J E q => h σ H J E _ fun H1 e1 => by
  cases b with
  | true => exact h1 rfl σ H1 { De with nx := u De } (e1.inv J) (E.mono e1) fun v H2 e2 q2 => q v H2 (e1.trans e2) q2
  | false => exact h2 rfl σ H1 De (e1.inv J) (E.mono e1) fun v H2 e2 q2 => q v H2 (e1.trans e2) q2
theorem sn_whenF (h : ET F K tt ρ false) : SN F K (tIfS tt t tNext) ρ ρ := sn_if h (fun q => by cases q) fun _ => sn_next

/-! ### for -/
/-- a loop that carries ρL i from turn to turn -/
theorem sn_for {α : Type} (xs : List α) (enc : α → D) (ρL : Nat → Ro) (hi : ID F K wi ρ (xs.map enc)) (h0 : Wk ρ (ρL 0))
    (hs : ∀ i x, xs[i]? = some x → ∃ is ρ1 ρ2, GD F K g is (enc x) (ρL i) ρ1 ∧ SN F K t ρ1 ρ2 ∧ Wk ρ2 (ρL (i + 1))) : SN F K (tFor wi g t) ρ (ρL xs.length) := fun σ H De J E q => hi σ H J E _ fun Jt H1 e1 w1 => by
  have J1 := e1.inv J
  refine ⟨fun i m σ H' => m = xs.length - i ∧ i ≤ xs.length ∧ Xt F H1 H' ∧ F.J H' ∧ Env F K H' σ (ρL i), ⟨_, rfl, Nat.zero_le _, .refl _, J1, h0.env (E.mono e1)⟩, ?_⟩
  rintro i m σ' H' ⟨rfl, hil, eH, JH, EH⟩
  obtain ⟨go, stop⟩ := w1 H' eH.m
  by_cases hlt : i < xs.length
  · have hx : xs[i]? = some xs[i] := List.getElem?_eq_getElem hlt
    obtain ⟨is, ρ1, ρ2, hg, hb, hw⟩ := hs i _ hx
    obtain ⟨g1, g2⟩ := go i (enc xs[i]) (by rw [List.getElem?_map, hx]; rfl)
    refine .inr ⟨g1, fun σ' H' => Xt F H1 H' ∧ F.J H' ∧ Env F K H' σ' (ρL (i + 1)), fun σ2 H2 p => ⟨xs.length - (i + 1), by omega, rfl, hlt, p⟩, fun y H2 hy => ?_⟩
    obtain ⟨e2', qy⟩ := g2 y H2 hy
    have e2 : Xt F H' H2 := .of e2'
    refine hg σ' H2 y (e2.inv JH) (EH.mono e2) qy _ fun σ3 E3 _ _ => ?_
    exact hb σ3 H2 _ (e2.inv JH) E3 fun σ4 H4 e4 E4 => ⟨(eH.trans e2).trans e4, e4.inv (e2.inv JH), hw.env E4⟩
  · have ei : i = xs.length := by omega
    subst ei
    exact .inl ⟨by simpa using stop, q σ' H' (e1.trans eH) EH⟩
/-- a loop that hands back d at turn k, and carries ρL i up to there -/
theorem sd_for {α : Type} (xs : List α) (enc : α → D) (ρL : Nat → Ro) (k : Nat) (hk : k < xs.length) (hi : ID F K wi ρ (xs.map enc)) (h0 : Wk ρ (ρL 0))
    (hs : ∀ i x, i < k → xs[i]? = some x → ∃ is ρ1 ρ2, GD F K g is (enc x) (ρL i) ρ1 ∧ SN F K t ρ1 ρ2 ∧ Wk ρ2 (ρL (i + 1)))
    (he : ∀ x, xs[k]? = some x → ∃ is ρ1, GD F K g is (enc x) (ρL k) ρ1 ∧ SD F K t ρ1 d) : SD F K (tFor wi g t) ρ d := fun σ H De J E q => hi σ H J E _ fun Jt H1 e1 w1 => by
  have J1 := e1.inv J
  refine ⟨fun i m σ H' => m = xs.length - i ∧ i ≤ k ∧ Xt F H1 H' ∧ F.J H' ∧ Env F K H' σ (ρL i), ⟨_, rfl, Nat.zero_le _, .refl _, J1, h0.env (E.mono e1)⟩, ?_⟩
  rintro i m σ' H' ⟨rfl, hil, eH, JH, EH⟩
  obtain ⟨go, stop⟩ := w1 H' eH.m
  have hlt : i < xs.length := by omega
  have hx : xs[i]? = some xs[i] := List.getElem?_eq_getElem hlt
  obtain ⟨g1, g2⟩ := go i (enc xs[i]) (by rw [List.getElem?_map, hx]; rfl)
  by_cases hik : i < k
  · obtain ⟨is, ρ1, ρ2, hg, hb, hw⟩ := hs i _ hik hx
    refine .inr ⟨g1, fun σ' H' => Xt F H1 H' ∧ F.J H' ∧ Env F K H' σ' (ρL (i + 1)), fun σ2 H2 p => ⟨xs.length - (i + 1), by omega, rfl, hik, p⟩, fun y H2 hy => ?_⟩
    obtain ⟨e2', qy⟩ := g2 y H2 hy
    have e2 : Xt F H' H2 := .of e2'
    refine hg σ' H2 y (e2.inv JH) (EH.mono e2) qy _ fun σ3 E3 _ _ => ?_
    exact hb σ3 H2 _ (e2.inv JH) E3 fun σ4 H4 e4 E4 => ⟨(eH.trans e2).trans e4, e4.inv (e2.inv JH), hw.env E4⟩
  · have ei : i = k := by omega
    subst ei
    obtain ⟨is, ρ1, hg, hb⟩ := he _ hx
    refine .inr ⟨g1, fun σ' H' => False, fun σ2 H2 p => p.elim, fun y H2 hy => ?_⟩
    obtain ⟨e2', qy⟩ := g2 y H2 hy
    have e2 : Xt F H' H2 := .of e2'
    refine hg σ' H2 y (e2.inv JH) (EH.mono e2) qy _ fun σ3 E3 _ _ => ?_
    exact hb σ3 H2 _ (e2.inv JH) E3 fun v H4 e4 q4 => q v H4 (((e1.trans eH).trans e2).trans e4) q4
end

/-! ### the rule for a def -/
def ro0 (N : List Str) (ds : List D) : Ro := ds.map some ++ List.replicate (N.length - ds.length) none
theorem env0 {w : World} {F : Fm w} {K : PySem.W.Frag} {H : Hp} {N : List Str} {vs : List V} {ds : List D} (h : DqAll F K H vs ds) : Env F K H (L2.start N vs) (ro0 N ds) := by
  have hl := h.len
  refine ⟨by unfold L2.start ro0; simp [hl], fun i d e => ?_⟩
  unfold ro0 at e
  unfold L2.start
  by_cases hi : i < ds.length
  · rw [List.getElem?_append_left (by simpa using hi), List.getElem?_map] at e
    rw [List.getElem?_append_left (by simpa [hl] using hi), List.getElem?_map]
    cases c : ds[i]? with
    | none => rw [c] at e; cases e
    | some d' =>
      rw [c] at e
      cases e
      obtain ⟨v, h1, h2⟩ := h.get c
      exact ⟨v, by rw [h1]; rfl, h2⟩
  · rw [List.getElem?_append_right (by simpa using hi)] at e
    have := List.mem_of_getElem? e
    have := List.eq_of_mem_replicate this
    cases this
section
variable {P : Program} {w : World} {K : PySem.W.Frag} {mg : Str → Option Value} {base : Heap} {x : Str} {params : Arguments} {body : List Stmt} {scope : Scope} {dvs : List V} {kws : List (Str × V)} {f : Addr} {fd : FuncData} {N ps : List Str} {k : Nat}
/-- a def keeps a promise by data -/
theorem ok_pure {R : List D → D → Prop} (FD : FunD K x x params body scope dvs kws f fd) (S : FnScope N ps scope) (hl : ∀ ds d, R ds d → ds.length = ps.length)
    (h : ∀ (cdv : Value) (A : Around) (outer : List PySem.Env) (s : Shared) (H : Hp) (E : XK), Room k (A.deeper (envOfC x scope s.heap.objs.size f cdv)) → ∀ (F : Fm w) ds d, R ds d →
      ∃ t, PSs (cxOf CX0 P w K mg base N x scope f cdv A outer s H E).nox body t ∧ (SD F K t (ro0 N ds) d ∨ (d = .none ∧ ∃ ρ', SN F K t (ro0 N ds) ρ'))) : FnOk P w K mg base CX0 (k + 1) f fd ps (spR w K R) := by
  refine FD.ok S (fun vs H Q E hs => ?_) (fun cdv A outer s H vs Q E hr hs => ?_)
  · obtain ⟨_, _, ds, d, q, r, _⟩ := hs
    rw [q.len]; exact hl ds d r
  · obtain ⟨F, J, ds, d, q, r, kq⟩ := hs
    obtain ⟨t, ht, hd⟩ := h cdv A outer s H E hr F ds d r
    refine ⟨t, ht.nox, ?_⟩
    rcases hd with hd | ⟨rfl, ρ', hd⟩
    · exact hd _ H _ J (env0 q) kq
    · exact hd _ H _ J (env0 q) fun σ' H' e _ => kq .non H' e .non
theorem cal_mk {sp : Sp} (F : FnOk P w K mg base CX0 k f fd ps sp) (hm : mg x = some (.ref f)) (kp : PySem.W.keepIn K (.ref f) = true) (b : Binds K fd ps []) : C8.Cal P w K mg base k x sp [] := ⟨f, fd, ps, [], F, hm, kp, b, .nil⟩
end
end FW
end PartLay4
section PartLay5
set_option Elab.async false
set_option linter.all false
set_option maxRecDepth 100000
set_option maxHeartbeats 2000000
/-! THE DATA LAYER, fifth part: dicts whose keys are nested tuples. -/
namespace FW
open PySem PySem.Spec PyProof.Rows L2

abbrev Rw := List (NestedKey × Addr × V)
/-- the tuple at b is the key k -/
def KeyAt (K : PySem.W.Frag) (H : Hp) (b : Addr) (k : NestedKey) : Prop := ∃ d, Dp K H (.ref b) d ∧ tonly d = true ∧ nk d = k ∧ k.depth ≤ 8
abbrev KeysAt (K : PySem.W.Frag) (H : Hp) (xs : Rw) : Prop := ∀ x ∈ xs, KeyAt K H x.2.1 x.1
def valK (xs : Rw) (k : NestedKey) : Option V := (xs.find? fun x => decide (x.1 = k)).map (·.2.2)
abbrev DtP : Rw → List (NestedKey × Addr × Value) → Prop := Paired (fun (p : NestedKey × Addr × V) (q : NestedKey × Addr × Value) => p.1 = q.1 ∧ p.2.1 = q.2.1 ∧ RelV p.2.2 q.2.2)
theorem DtP.keys {xs : Rw} {ys : List (NestedKey × Addr × Value)} (h : DtP xs ys) : xs.map (·.1) = ys.map (·.1) := by
  induction h with
  | nil => rfl
  | cons h t ih => rw [List.map_cons, List.map_cons, ih, h.1]
theorem DtP.val {xs : Rw} {ys : List (NestedKey × Addr × Value)} (h : DtP xs ys) (k : NestedKey) : RelO (valK xs k) ((atKey ys k).map (·.2)) := by
  induction h with
  | nil => exact True.intro
  | @cons p q ps qs h t ih =>
    by_cases e : p.1 = k
    · have e' : q.1 = k := h.1.symm.trans e
      have a : valK (p :: ps) k = some p.2.2 := by simp [valK, List.find?_cons, e]
      have b : atKey (q :: qs) k = some q.2 := by simp [atKey, List.find?_cons, e']
      rw [a, b]; exact h.2.2
    · have e' : ¬ q.1 = k := fun z => e (h.1.trans z)
      have a : valK (p :: ps) k = valK ps k := by simp [valK, List.find?_cons, e]
      have b : atKey (q :: qs) k = atKey qs k := by simp [atKey, List.find?_cons, e']
      rw [a, b]; exact ih
theorem DtP.len {xs : Rw} {ys : List (NestedKey × Addr × Value)} (h : DtP xs ys) : xs.length = ys.length := Paired.length h
theorem DtP.refs {xs : Rw} {ys : List (NestedKey × Addr × Value)} (h : DtP xs ys) : Vals (xs.map fun x => V.ref x.2.1) (ys.map fun y => Value.ref y.2.1) := by
  induction h with
  | nil => exact .nil
  | @cons p q ps qs h t ih =>
    rw [List.map_cons, List.map_cons]
    exact .cons (by show Value.ref q.2.1 = Value.ref p.2.1; rw [h.2.1]) ih
theorem DtP.app {xs xs' : Rw} {ys ys' : List (NestedKey × Addr × Value)} (h : DtP xs ys) (h' : DtP xs' ys') : DtP (xs ++ xs') (ys ++ ys') := by
  induction h with
  | nil => exact h'
  | cons h t ih => exact .cons h ih
section
variable {X : Cx} {pins : List (Addr × Obj)} {σ : L2.St} {H : Hp} {s : Shared} {a b : Addr} {xs : Rw} {k : NestedKey}
mutual
theorem nested_of (I : Inv X pins σ H s) : ∀ (d : D) (v : V) (u : Value), tonly d = true → Dp X.K H v d → RelV v u → NestedIs s.heap (nk d) u
  | .none, _, _, _, h, r => by cases h; cases r; exact .none
  | .bool b, _, _, _, h, r => by cases h; cases r; exact .bool rfl
  | .int i, _, _, _, h, r => by cases h; obtain ⟨t, rfl⟩ := r; exact .int i t
  | .str x, _, _, _, h, r => by cases h; obtain ⟨t, rfl⟩ := r; exact .text x t
  | .list ds, _, _, t, h, r => by simp [tonly] at t
  | .dict ds, _, _, t, h, r => by simp [tonly] at t
  | .tuple ds, _, _, t, h, r => by
    cases h with
    | tup hs ha =>
      cases r
      obtain ⟨its, rv, ⟨o, ho, hc, n, hd⟩, _⟩ := I.tuple hs
      exact .tup ho hc hd (nestedAll_of I ds _ its (by simpa [tonly] using t) ha rv)
theorem nestedAll_of (I : Inv X pins σ H s) : ∀ (ds : List D) (vs : List V) (us : List Value), tonlyAll ds = true → DpAll X.K H vs ds → Vals vs us → NestedAll s.heap (nks ds) us
  | [], _, _, _, h, r => by cases h; cases r; exact .nil
  | d :: ds, _, _, t, h, r => by
    rw [tonlyAll, Bool.and_eq_true] at t
    cases h with
    | cons h1 h2 =>
      cases r with
      | cons r1 r2 => exact .cons (nested_of I d _ _ t.1 h1 r1) (nestedAll_of I ds _ _ t.2 h2 r2)
end
theorem KeyAt.is (I : Inv X pins σ H s) (h : KeyAt X.K H b k) : (nestedKind X.prog X.w).is s.heap k b := by
  obtain ⟨d, h1, h2, rfl, h3⟩ := h
  exact ⟨nested_of I d _ _ h2 h1 rfl, h3⟩
theorem nroom {A : Around} (hu : A.units + 64 < cLine) : (nestedKind X.prog X.w).room A.in1 := by
  show A.in1.units + 8 < cLine
  rw [Around.in1_units]; omega
theorem dtO_of (I : Inv X pins σ H s) (e : H a = some (DtO X.w a xs)) (ks : KeysAt X.K H xs) :
    xs.length ≤ sizeLine ∧ (a == sysModules) = false ∧ ∃ ys, DtP xs ys ∧ s.heap.DictOfH (nestedKind X.prog X.w) a ys := by
  obtain ⟨⟨z, hd, ys, r, o, es, ep, h1, h2, h3, h4, h5⟩, _⟩ := (show ObjOk X.prog X.w H s.heap a (DtO X.w a xs) from I.hok a _ e)
  refine ⟨z, hd, ys, r, o, es, ep, h1, h2, h3, h4, fun y hy => ?_, h5⟩
  have all : ∀ {l : Rw} {m : List (NestedKey × Addr × Value)}, DtP l m → KeysAt X.K H l → ∀ y ∈ m, (nestedKind X.prog X.w).is s.heap y.1 y.2.1 := by
    intro l m q
    induction q with
    | nil => intro _ y hy; exact nomatch hy
    | @cons p q ps qs hq t ih =>
      intro hk y hy
      rcases List.mem_cons.mp hy with e | hy
      · subst e
        rw [← hq.1, ← hq.2.1]
        exact (hk p List.mem_cons_self).is I
      · exact ih (fun x hx => hk x (List.mem_cons_of_mem _ hx)) y hy
  exact all r ks y hy
theorem dtO_new {P : Program} {w : World} {H' : Hp} {h' : Heap} {ys : List (NestedKey × Addr × Value)} (z : xs.length ≤ sizeLine) (hd : (a == sysModules) = false) (r : DtP xs ys) (dd : h'.DictOfH (nestedKind P w) a ys) :
    ObjOk P w H' h' a (DtO w a xs) := by
  obtain ⟨o, es, ep, h1, h2, h3, h4, _, h5⟩ := dd
  refine ⟨⟨z, hd, ys, r, o, es, ep, h1, h2, h3, h4, h5⟩, ⟨o, h1⟩, ?_⟩
  rintro g1 g2 ⟨z', hd', ys', r', o', es', ep', k1, k2, k3, k4, k5⟩ st
  exact ⟨z', hd', ys', r', o', es', ep', st _ k1, k2, k3, k4, k5⟩
end

/-! ### the rules -/
def rInDt (w : World) (K : PySem.W.Frag) (neg : Bool) : R2 := fun x y H Q => ∃ b a xs k, x = .ref b ∧ y = .ref a ∧ H a = some (DtO w a xs) ∧ KeysAt K H xs ∧ KeyAt K H b k ∧ Q (.bl (if neg then !(valK xs k).isSome else (valK xs k).isSome)) H
def rIxDt (w : World) (K : PySem.W.Frag) : R2 := fun x y H Q => ∃ a b xs k v, x = .ref a ∧ y = .ref b ∧ H a = some (DtO w a xs) ∧ KeysAt K H xs ∧ KeyAt K H b k ∧ valK xs k = some v ∧ Q v H
def rSetDt (w : World) (K : PySem.W.Frag) : TSet := fun o i v H Q => ∃ a b xs k, o = .ref a ∧ i = .ref b ∧ H a = some (DtO w a xs) ∧ KeysAt K H xs ∧ KeyAt K H b k ∧ valK xs k = none ∧ xs.length < sizeLine ∧ Q (upd H a (DtO w a (xs ++ [(k, b, v)])))
def rListDt (w : World) : List V → Hp → VK → Prop := fun vs H Q => ∃ a xs, vs = [.ref a] ∧ H a = some (DtO w a xs) ∧ ∀ l, H l = none → Q (.ref l) (upd H l (.lst (xs.map fun x => .ref x.2.1)))
def rUpdDt (w : World) (K : PySem.W.Frag) : V → List V → Hp → VK → Prop := fun x vs H Q => ∃ a b xs ys, x = .ref a ∧ vs = [.ref b] ∧ a ≠ b ∧ H a = some (DtO w a xs) ∧ H b = some (DtO w b ys) ∧ KeysAt K H xs ∧ KeysAt K H ys ∧ (∀ y ∈ ys, valK xs y.1 = none) ∧
  xs.length + ys.length ≤ sizeLine ∧ (xs ≠ [] ∨ (ys.map fun y => y.1.hash w).Nodup) ∧ Q .non (upd H a (DtO w a (xs ++ ys)))
def rNeDt (w : World) : R2 := fun x y H Q => ∃ a b xs, x = .ref a ∧ y = .ref b ∧ H a = some (DtO w a xs) ∧ H b = some (DtO w b []) ∧ Q (.bl (!xs.isEmpty)) H
/-- the tuple's object is known: it has no dict of its own -/
def PlT (H : Hp) (a : Addr) (xs : List V) : Prop := ∃ o : Obj, o.dict = none ∧ H a = some (.frz o (.tup xs))
def rDictT (w : World) (K : PySem.W.Frag) : List V → Hp → VK → Prop := fun vs H Q => ∃ (a : Addr) (Ts : List Addr) (ps : Rw), vs = [.ref a] ∧ PlT H a (Ts.map .ref) ∧ Paired (fun (T : Addr) (p : NestedKey × Addr × V) => SqT K H T [.ref p.2.1, p.2.2]) Ts ps ∧
  KeysAt K H ps ∧ (ps.map (·.1)).Nodup ∧ ∀ p, H p = none → Q (.ref p) (upd H p (DtO w p ps))
def rTupleP (K : PySem.W.Frag) : List V → Hp → VK → Prop := fun xs H Q => ∃ p ys, xs = [.ref p] ∧ SqL K H p ys ∧ ∀ l o, H l = none → o.dict = none → Q (.ref l) (upd H l (.frz o (.tup ys)))
section
variable {X : Cx}
theorem op_in_dt (hu : X.A.units + 64 < cLine) : OpR X (compareOp .In) (rInDt X.w X.K false) := by
  intro pins s σ H x y v u Q I rx ry h
  obtain ⟨b, a, xs, k, rfl, rfl, ha, ks, kb, q⟩ := h
  cases rx; cases ry
  obtain ⟨_, hd, ys, r, dd⟩ := dtO_of I ha ks
  refine wpAny_in_heap (nroom (X := X) hu) (kb.is I) hd dd ⟨.bl _, H, I.tok _, rfl, ?_⟩
  have e := (r.val k).isSome_eq
  rw [Option.isSome_map] at e
  rw [← e]; exact q
theorem op_notin_dt (hu : X.A.units + 64 < cLine) : OpR X (compareOp .NotIn) (rInDt X.w X.K true) := by
  intro pins s σ H x y v u Q I rx ry h
  obtain ⟨b, a, xs, k, rfl, rfl, ha, ks, kb, q⟩ := h
  cases rx; cases ry
  obtain ⟨_, hd, ys, r, dd⟩ := dtO_of I ha ks
  refine wpAny_notIn_heap (nroom (X := X) hu) (kb.is I) hd dd ⟨.bl _, H, I.tok _, rfl, ?_⟩
  have e := (r.val k).isSome_eq
  rw [Option.isSome_map] at e
  rw [← e]; exact q
theorem ix_dt (hu : X.A.units + 64 < cLine) : IxR X (rIxDt X.w X.K) := by
  intro value slice pins s σ H x y v u Q I rx ry h hs
  obtain ⟨a, b, xs, k, z, rfl, rfl, ha, ks, kb, hv, q⟩ := h
  cases rx; cases ry
  obtain ⟨_, hd, ys, r, dd⟩ := dtO_of I ha ks
  obtain ⟨w', hw, rw'⟩ := RelO.some_of (v := z) (o := (atKey ys k).map (·.2)) (by rw [← hv]; exact r.val k)
  obtain ⟨p, hp, hp2⟩ := Option.map_eq_some_iff.mp hw
  refine tail_any dd.typeIs PySem.F.slot_dict_getitem.lookup (wpAny_getItem_heap (nroom (X := X) hu) (kb.is I) dd hp ?_) hs
  rw [hp2]
  exact ⟨z, H, I.tok _, rw', q⟩
theorem set_dt (hu : X.A.units + 64 < cLine) : PSet X (rSetDt X.w X.K) := by
  intro pins s σ H o i v ov iv u Q I ro ri rv h
  obtain ⟨a, b, xs, k, rfl, rfl, ha, ks, kb, hn, hz, q⟩ := h
  cases ro; cases ri
  obtain ⟨z, hd, ys, r, dd⟩ := dtO_of I ha ks
  have hk : atKey ys k = none := Option.map_eq_none_iff.mp (RelO.none_of (by rw [← hn]; exact r.val k))
  refine wpAny_setItem_heap (hsz := by rw [← r.len]; exact z) (nroom (X := X) hu) (kb.is I) dd fun h' dd' hs => ?_
  rw [storedH_new hk] at dd'
  have he : ∃ q, h'.get? a = some q := let ⟨q, _, _, hq, _⟩ := dd'; ⟨q, hq⟩
  refine ⟨_, d_write I (by rw [ha]; exact True.intro) hs he (dtO_new ?_ hd (r.app (.cons ⟨rfl, rfl, rv⟩ .nil)) dd'), q⟩
  rw [List.length_append, List.length_singleton]; omega
theorem pe_dnew {pos : Pos} : PE X (.Dict [] [] pos) (fun _ H Q => ∀ p, H p = none → Q (.ref p) (upd H p (DtO X.w p []))) := ⟨fun pins s σ H Q I h =>
  wpAny_Dict_empty ⟨.ref s.heap.objs.size, _, I.laid (a := s.heap.objs.size) (o := DtO X.w s.heap.objs.size []) (t' := s.toks) (fun _ _ q => Heap.get?_push_of_some _ q) (Nat.le_refl _)
    (dtO_new (P := X.prog) (Nat.zero_le _) (beq_eq_false_iff_ne.mpr (Ne.symm (Nat.ne_of_lt I.big))) .nil (Heap.DictOfH.new s.heap)), rfl, h _ (I.hok.fresh (Nat.le_refl _))⟩⟩
theorem call_list_dt (hc : X.calm = true) : CallR X (.type "list") (rListDt X.w) := by
  intro pins s σ H vs us Q I r h
  obtain ⟨a, xs, rfl, ha, q⟩ := h
  rw [Vals.ref1 r]
  obtain ⟨⟨z, hd, ys, rp, o, es, ep, h1, h2, h3, h4, h5⟩, _⟩ := (show ObjOk X.prog X.w H s.heap a (DtO X.w a xs) from I.hok a _ ha)
  have hes : es.size = ys.length := by rw [← Array.length_toList, h4, List.length_map]
  refine PySem.W.kdl_call (KdlSrc.rawDict (es := es) (ep := ep) hd) (I.ok.hd hc) ⟨o, h1, h2, h3⟩ (by rw [hes, ← (DtP.len rp)]; exact z) fun h' tk acc c' hk hg hi => ?_
  have hacc : Vals (xs.map fun x => V.ref x.2.1) acc.toList := by
    have e : acc.toList = ys.map fun y => Value.ref y.2.1 := by
      refine List.ext_getElem? fun j => ?_
      rw [Array.getElem?_toList, List.getElem?_map]
      cases c : acc[j]? with
      | none =>
        have : acc.size ≤ j := Array.getElem?_eq_none_iff.mp c
        rw [hi.1, hes] at this
        rw [List.getElem?_eq_none_iff.mpr this]; rfl
      | some v =>
        obtain ⟨hj, rfl⟩ := hi.2 j v c
        have g : es.toList[j]? = some es[j] := by rw [Array.getElem?_toList]; exact Array.getElem?_eq_getElem hj
        rw [h4, List.getElem?_map] at g
        cases c2 : ys[j]? with
        | none => rw [c2] at g; cases g
        | some y =>
          rw [c2] at g
          have g' := Option.some.inj g
          rw [← g']; rfl
    rw [e]
    exact DtP.refs rp
  refine ⟨.ref s.heap.objs.size, _, I.laid (t' := tk) hk (Nat.le_refl _) (show ObjOk X.prog X.w _ h' _ (.lst (xs.map fun x => V.ref x.2.1)) from ⟨by rw [List.length_map]; exact z, acc.toList, c', hacc, by simpa using hg⟩), rfl, q _ (I.hok.fresh (Nat.le_refl _))⟩
theorem storedAll_app : ∀ (ys xs : List (NestedKey × Addr × Value)), (∀ y ∈ ys, atKey xs y.1 = none) → (ys.map (·.1)).Nodup → storedAllH xs ys = xs ++ ys
  | [], xs, _, _ => by show xs = xs ++ []; simp
  | y :: ys, xs, h, n => by
    show storedAllH (storedH xs y.1 y.2.1 y.2.2) ys = _
    rw [storedH_new (h y List.mem_cons_self)]
    rw [List.map_cons, List.nodup_cons] at n
    rw [storedAll_app ys _ (fun z hz => ?_) n.2]
    · simp
    · have e := h z (List.mem_cons_of_mem _ hz)
      unfold atKey at e ⊢
      rw [Option.map_eq_none_iff] at e ⊢
      rw [List.find?_append, e]
      have hne : ¬ y.1 = z.1 := fun q => n.1 (q ▸ List.mem_map.mpr ⟨z, hz, rfl⟩)
      simp [List.find?_cons, hne]
theorem DtP.mem {xs : Rw} {ys : List (NestedKey × Addr × Value)} (h : DtP xs ys) : ∀ y ∈ ys, ∃ x ∈ xs, x.1 = y.1 := by
  induction h with
  | nil => intro y hy; exact nomatch hy
  | @cons p q ps qs h t ih =>
    intro y hy
    rcases List.mem_cons.mp hy with rfl | hy
    · exact ⟨p, List.mem_cons_self, h.1⟩
    · obtain ⟨x, hx, e⟩ := ih y hy
      exact ⟨x, List.mem_cons_of_mem _ hx, e⟩
theorem mt_dupdate (hu : X.A.units + 64 < cLine) : MtM X "dict.update" (rUpdDt X.w X.K) := by
  intro pins s σ H x vs v us Q I rx rv h
  obtain ⟨a, b, xs, zs, rfl, rfl, hab, ha, hb, kx, kz, hdis, hz, hap, q⟩ := h
  cases rx
  obtain ⟨u, rfl, ru⟩ := rv.one
  cases ru
  obtain ⟨z1, hd1, ys, r1, dd1⟩ := dtO_of I ha kx
  obtain ⟨z2, hd2, ws, r2, dd2⟩ := dtO_of I hb kz
  have hn : (ws.map (·.1)).Nodup := by obtain ⟨_, _, _, _, _, _, _, _, n⟩ := dd2; exact n
  have hsto : storedAllH ys ws = ys ++ ws := storedAll_app ws ys (fun y hy => by
    obtain ⟨x, hx, e⟩ := r2.mem y hy
    have := hdis x hx
    rw [e] at this
    exact Option.map_eq_none_iff.mp (RelO.none_of (by rw [← this]; exact r1.val y.1))) hn
  refine call_update_dictH (nroom (X := X) hu) hab hd2 dd1 dd2 ?_ (by rw [← r1.len, ← r2.len]; exact hz) fun h' dd' _ hs => ?_
  · rcases hap with q | q
    · refine .inl fun e => q ?_
      have := r1.len
      rw [e] at this
      exact List.eq_nil_of_length_eq_zero this
    · refine .inr ⟨fun y hy => ?_, ?_⟩
      · obtain ⟨_, _, _, _, _, _, _, his, _⟩ := dd2
        exact nestedKind_stays.tuple (his y hy)
      · have e : (ws.map fun x => (nestedKind X.prog X.w).hash x.1) = zs.map fun y => y.1.hash X.w := by
          have e1 : (ws.map fun x => (nestedKind X.prog X.w).hash x.1) = (ws.map (·.1)).map fun k => k.hash X.w := by rw [List.map_map]; rfl
          have e2 : (zs.map fun y => y.1.hash X.w) = (zs.map (·.1)).map fun k => k.hash X.w := by rw [List.map_map]; rfl
          rw [e1, e2, r2.keys]
        rw [e]; exact q
  · rw [hsto] at dd'
    have he : ∃ q, h'.get? a = some q := let ⟨q, _, _, hq, _⟩ := dd'; ⟨q, hq⟩
    exact ⟨.non, _, d_write I (by rw [ha]; exact True.intro) hs he (dtO_new (by rw [List.length_append]; exact hz) hd1 (r1.app r2) dd'), rfl, q⟩
theorem samePairs0 {prog : Program} {w : World} {A : Around} {E : Value → Shared → Prop} {s : Shared} {nm : String} {a b : Addr} {o o' : Obj} {es es' : Array DictEntry} {ep ep' : Nat} {Q : Bool → Shared → Prop} (ha : (a == sysModules) = false) (hb : (b == sysModules) = false)
    (h1 : s.heap.get? a = some o) (h2 : o.data = .dict es ep) (k1 : s.heap.get? b = some o') (k2 : o'.data = .dict es' ep') (h0 : es'.size = 0) (h : Q (es.size == 0) s) :
    wpAny (model prog w) A (Builtin.Dict.samePairs nm a b) Q E s := by
  unfold Builtin.Dict.samePairs Builtin.Dict.showsAll
  rw [if_neg (show ¬ (a == sysModules) = true by rw [ha]; exact Bool.false_ne_true), if_neg (show ¬ (b == sysModules) = true by rw [hb]; exact Bool.false_ne_true)]
  refine wpAny_bind (wpAny_pure (wpAny_bind (wpAny_pure ?_)))
  refine wpAny_bind (wpAny_dictEntries h1 h2 ?_)
  dsimp only
  refine wpAny_bind (wpAny_dictEntries k1 k2 ?_)
  by_cases hsz : es.size = 0
  · rw [if_neg (by rw [hsz, h0]; simp)]
    refine wpAny_bind (wpAny_dictEpoch h1 h2 ?_)
    refine wpAny_bind ?_
    rw [Std.Legacy.Range.forIn_eq_forIn_range']
    simp only [Std.Legacy.Range.size, Nat.sub_zero, Nat.add_sub_cancel, Nat.div_one, hsz]
    refine wpAny_pure ?_
    refine wpAny_pure ?_
    rw [hsz] at h; exact h
  · rw [if_pos (by rw [h0]; simpa using hsz)]
    have hbf : (es.size == 0) = false := by simpa using hsz
    rw [hbf] at h
    exact wpAny_bind (wpAny_rule (wpAny_pure h))
theorem op_ne_dt (hu : X.A.units + 64 < cLine) : OpR X (compareOp .NotEq) (rNeDt X.w) := by
  intro pins s σ H x y v u Q I rx ry h
  obtain ⟨a, b, xs, rfl, rfl, ha, hb, q⟩ := h
  cases rx; cases ry
  obtain ⟨⟨z, hd, ys, rp, o, es, ep, h1, h2, h3, h4, h5⟩, _⟩ := (show ObjOk X.prog X.w H s.heap a (DtO X.w a xs) from I.hok a _ ha)
  obtain ⟨⟨z', hd', ys', rp', o', es', ep', k1, k2, k3, k4, k5⟩, _⟩ := (show ObjOk X.prog X.w H s.heap b (DtO X.w b []) from I.hok b _ hb)
  have ta : s.TypeIs (.ref a) "dict" := ⟨o, h1, h2.1⟩
  have tb : s.TypeIs (.ref b) "dict" := ⟨o', k1, k2.1⟩
  have hes : es.size = xs.length := by rw [← Array.length_toList, h4, List.length_map, (DtP.len rp)]
  have hes' : es'.size = 0 := by rw [← Array.length_toList, k4, List.length_map, ← (DtP.len rp')]; rfl
  refine wpAny_richCompare_same_room (op := .NotEq) ta tb PySem.F.slot_dict_ne (wpAny_call_entry PySem.F.slot_dict_ne ta PySem.F.entry_dict_ne ?_ (PySem.F.args_dict_ne_2 _ _)) (by omega)
  show wpAny _ _ (Builtin.Dict.dictSlotArgs "__ne__" ⟨[.ref a, .ref b], []⟩ >>= _) _ _ s
  refine wpAny_bind ?_
  unfold Builtin.Dict.dictSlotArgs
  refine wpAny_bind (wpAny_notOrdered_dict ta ?_)
  show wpAny _ _ (pure (Value.ref a, Value.ref b)) _ _ s
  refine wpAny_pure ?_
  refine wpAny_bind (wpAny_isInstance (T := "dict") tb PySem.F.sub_dict_dict ?_)
  simp only [Bool.not_true, Bool.false_eq_true, if_false]
  refine wpAny_bind (wpAny_pure (wpAny_bind (wpAny_pure ?_)))
  refine wpAny_bind (samePairs0 hd hd' h1 h3 k1 k3 hes' ?_)
  refine wpAny_pure ⟨_, rfl, ?_, ?_⟩
  · exact fun x => nomatch x
  · refine ⟨.bl (!xs.isEmpty), H, I, ?_, q⟩
    show Value.bool _ = Value.bool _
    rw [hes]
    cases xs <;> rfl
end
end FW
end PartLay5
section PartLay6
set_option Elab.async false
set_option linter.all false
set_option maxRecDepth 100000
set_option maxHeartbeats 3200000
/-! THE DATA LAYER, sixth part: set of a list of ints; dict.update as a statement; tuple and dict of known objects. -/
namespace FW
open PySem PySem.Spec PyProof.Rows L2
open PySem.Sem (wp)
section
variable {P : Program} {w : World} {A : Around} {E : Value → Shared → Prop} {s : Shared}
/-- an empty set's object -/
abbrev so (w : World) : Obj := { cls := .type "set", dict := none, data := .set #[] 0 (.fresh 0 0 (!w.params.followText "set-order")) }
abbrev hp1 (w : World) (s : Shared) : Heap := s.heap.push (so w)
theorem set_of_list {l : Addr} {items : Array Value} (ns : List Int) {Q : Value → Shared → Prop} (hh : A.handled = none) (hl : s.heap.IsList l items) (hit : IntsAre items.toList ns) (hb : ns.length + 1 < scanBound)
    (h : ∀ (h' : Heap) (tk c : Nat), SetR w h' s.heap.objs.size (fun j => decide (j ∈ ns)) c → c ≤ ns.length → (∀ b o, s.heap.get? b = some o → h'.get? b = some o) → Q (.ref s.heap.objs.size) { s with heap := h', toks := tk }) :
    wpAny (model P w) A (call (.type "set") [.ref l]) Q E s := by
  have hz : items.size = ns.length := by have q := IntsAre.length hit; rwa [Array.length_toList] at q
  obtain ⟨c0, tl0, h0⟩ := F.called_set.mro
  have a1 := F.called_set.made
  have a2 := F.called_set.sub
  refine wpAny_call (codeAny_of_tree ?_)
  show wpAny _ _ (callAny (.type "set") _) _ _ _
  refine wpAny_pure ⟨Code.quiet_builtin _ (by decide +kernel), codeAny_builtin F.entry_type_call ?_⟩
  rw [Around.under_plain (weight_type_call_type "set" [.ref l] []) rfl]
  have a3 := F.called_set.notType
  have a4 := F.called_set.canCreate
  have a5 := F.typeCall_set_1 (.ref l)
  repeat (any_goals (first | assumption | wp_step))
  refine codeAny_mono (code_set_led1 (.ref l) (E := E) (Q₁ := fun ob t => ob = .ref s.heap.objs.size ∧ t = { s with heap := hp1 w s }) ⟨rfl, rfl⟩) fun r t hr => ?_
  rcases r with e | fl
  · exact hr
  cases fl with
  | ret ob =>
    obtain ⟨rfl, rfl⟩ := hr
    have g1 : (hp1 w s).get? s.heap.objs.size = some (so w) := Heap.get?_push_size _ rfl
    have g2 : Shared.TypeIs { s with heap := hp1 w s } (.ref s.heap.objs.size) "set" := ⟨_, g1, rfl⟩
    have b1 := F.called_set.init.lookup
    have b2 := F.called_set.init.bind (.ref s.heap.objs.size)
    repeat (any_goals (first | assumption | wp_step))
    refine codeAny_mono (codeAny_call_builtin (R := wants (fun v t => v = .none ∧ ∃ h' tk c, t = { s with heap := h', toks := tk } ∧ SetR w h' s.heap.objs.size (fun j => decide (j ∈ ns)) c ∧ c ≤ ns.length ∧ ∀ b o, s.heap.get? b = some o → h'.get? b = some o) E)
      F.called_set.init.plain F.entry_set_init (check_set_init_1 g2 ?_)) fun v t hv => ?_
    · obtain ⟨⟨cl, di, da, sl⟩, ho, hcl, nl, hda⟩ := hl
      simp only at hcl hda
      subst hcl; subst hda
      have k1 : (hp1 w s).get? l = some { cls := .type "list", dict := di, data := .seq items nl, slots := sl } := Heap.get?_push_of_some _ ho
      have k2 := F.sub_list_set
      have k3 := F.sub_list_frozenset
      have k4 : (Value.type "list" == Value.type "dict") = false := by decide
      have k5 : (hp1 w s).IsList l items := ⟨_, k1, rfl, nl, rfl⟩
      unfold Builtin.«set.__init__» noKeywords Builtin.Frozenset.updateFrom
      generalize hPI : pyIter = PI
      wp_walk
      subst hPI
      refine wpAny_pyIter_list k5 ?_
      refine wpAny_bind (wpAny_runValue ?_)
      have m1 : l < s.heap.objs.size := Heap.lt_size ho
      have m2 : A.in1.in1.in1.handled = none := by simp [hh]
      have m3 : (hp1 w s).objs.size = s.heap.objs.size + 1 := Heap.size_push ..
      have m4 : l ≠ (hp1 w s).objs.size := by rw [m3]; exact Nat.ne_of_lt (Nat.lt_succ_of_lt m1)
      have m5 : s.heap.objs.size ∉ [(hp1 w s).objs.size, l] := by
        rw [m3]; simp only [List.mem_cons, List.not_mem_nil, or_false, not_or]; exact ⟨Nat.ne_of_lt (Nat.lt_succ_self _), Nat.ne_of_gt m1⟩
      have m6 : ∀ (i : Nat) (v : Value), items[i]? = some v → ∃ k t, ns[i]? = some k ∧ v = .int k t := fun i v hv => by
        have hi : i < ns.length := by rw [← hz]; exact (Array.getElem?_eq_some_iff.mp hv).1
        obtain ⟨t, e⟩ := IntsAre.int_at hit i v (by rw [Array.getElem?_toList]; exact hv)
        exact ⟨ns[i], t, List.getElem?_eq_getElem hi, by rw [e, List.getD_eq_getElem?_getD, List.getElem?_eq_getElem hi] <;> rfl⟩
      refine set_update_ints ((Walks.list m2 _ l m4 items).toS) s.heap.objs.size m5 ns hz hb m6 (items.size - 0) 0 _ (by omega) (Nat.zero_le _)
        ⟨⟨_, Heap.get?_push_size _ rfl, rfl, rfl⟩, k5.push _⟩ ⟨0, Nat.le_refl 0, setR_new_at (Heap.get?_push_of_some _ g1)⟩ ?_
      rintro ⟨h', ge, dr, tk, os⟩ c hm hc hS
      have e1 : ge = s.gens := hm.gens
      have e2 : dr = s.drawn := hm.drawn
      have e3 : os = s.os := hm.os
      subst e1 e2 e3
      show wpAny _ _ _ _ _ _
      refine wpAny_pure ?_
      show wpAny _ _ (ret Value.none) _ _ _
      rw [hz] at hc
      refine wpAny_pure ⟨rfl, h', tk, c, rfl, hS, hc, fun b o e => ?_⟩
      have hb0 := Heap.lt_size e
      exact hm.heap b o (by rw [m3]; simp only [List.mem_cons, List.not_mem_nil, or_false, not_or]; exact ⟨Nat.ne_of_lt hb0, Nat.ne_of_lt (Nat.lt_succ_of_lt hb0)⟩) (Heap.get?_push_of_some _ (Heap.get?_push_of_some _ e))
    · rcases v with e | fl
      · exact hv
      cases fl with
      | ret u =>
        obtain ⟨rfl, h', tk, c, rfl, q1, q2, q3⟩ := hv
        repeat (any_goals (first | assumption | wp_step))
        exact h _ _ _ q1 q2 q3
      | _ => exact hv.elim
  | _ => exact hr.elim
end
/-- set(xs), xs a list of ints: its members; its size by what is known -/
def rSetL1 (w : World) (K : PySem.W.Frag) : List V → Hp → VK → Prop := fun vs H Q => ∃ (a : Addr) (ns : List Int), vs = [.ref a] ∧ SqL K H a (ns.map V.int) ∧ ns.length ≤ 1000 ∧ ∀ p c, H p = none → c ≤ ns.length → Q (.ref p) (upd H p (SetO w p (fun j => decide (j ∈ ns)) c))
section
variable {X : Cx}
theorem cr_setL (hc : X.calm = true) : CallR X (.type "set") (rSetL1 X.w X.K) := by
  intro pins s σ H vs us Q I r h
  obtain ⟨a, ns, rfl, hs, hz, q⟩ := h
  obtain ⟨its, rv, hl, _⟩ := I.list hs
  rw [Vals.ref1 r]
  refine set_of_list ns (I.ok.hd hc) hl.isList (by simpa using rv.ints) (by unfold scanBound; omega) fun h' tk c R hc' k => ?_
  exact ⟨.ref _, _, I.laid (t' := tk) k (Nat.le_refl _) (setO_new R), rfl, q _ c (I.hok.fresh (Nat.le_refl _)) hc'⟩
/-- len(set), by the members: the number of members is what any list of them without twins says -/
def rLenSet (w : World) : List V → Hp → VK → Prop := fun vs H Q => ∃ (a : Addr) (S : Int → Bool) (n : Nat), vs = [V.ref a] ∧ H a = some (SetO w a S n) ∧ n ≤ 1000 ∧
  ∀ ms : List Int, ms.Nodup → (∀ k : Int, k ∈ ms ↔ S k = true) → ms.length = n → Q (.int (n : Nat)) H
theorem cr_lenSet : CallR X (.builtin "len") (rLenSet X.w) := by
  intro pins s σ H vs us Q I r h
  obtain ⟨a, S, n, rfl, ha, hz, q⟩ := h
  obtain ⟨o, es, ep, t, ho, hex, hd, g, nd, hm, hb, hf, hn, hr, hl⟩ := setO_get I ha
  rw [Vals.ref1 r]
  refine call_len_set ho hex hd hf (by rw [hn] <;> omega) ⟨.int n, H, I.tok _, ⟨_, by rw [hn]⟩, ?_⟩
  exact q (es.toList.map keyOf) nd (fun k => (hm k).symm) (by rw [List.length_map, Array.length_toList]; exact hn)
/-- d.update(d2) -/
def tDUpd (w : World) (K : PySem.W.Frag) (to : TE) (t : TA) : TE := fun σ H Q => to σ H fun x H1 => (∃ a xs, x = V.ref a ∧ H1 a = some (DtO w a xs)) ∧ t σ H1 fun vs H2 => rUpdDt w K x vs H2 Q
variable {o e : Expr} {es : List Expr} {to : TE} {t : TA} {apos cpos : Pos}
theorem pe_dupd (hu : X.A.units + 64 < cLine) (ho : PE X o to) (ha : PA X (e :: es) t)
    (hbase : attributeBase o "update" X.env (eval o X.env) = eval o X.env := by rfl)
    (hfew : ((backTo cpos (starEach (e :: es) X.env)).all (fun x => !x.1) && (backToKw cpos (keywordEach [] X.env)).all (fun x => x.1.isSome)
      && decide ((e :: es).length + ([] : List Keyword).length + (if ([] : List Keyword).isEmpty then 0 else 1) < 30)) = true := by rfl)
    (hline : (apos.endLine == cpos.line) = true := by rfl) (hs : starEach (e :: es) X.env = (false, eval e X.env) :: starEach es X.env := by rfl) (hplain : (backTo cpos (starEach es X.env)).any (·.1) = false := by rfl) :
    PE X (.Call (.Attribute o "update" apos) (e :: es) [] cpos) (tDUpd X.w X.K to t) := by
  refine ⟨fun pins s σ H Q I h => ?_⟩
  refine wpAny_Call_method_late hbase hfew hline rfl (thn (ho.run pins s σ H _ I h) fun v s1 ⟨x, H1, I1, r1, ty, q1⟩ => ?_)
  obtain ⟨a, xs, rfl, hka⟩ := ty
  obtain ⟨⟨z, hd, ys, rp, o, es', ep, h1, h2, h3, h4, h5⟩, _⟩ := (show ObjOk X.prog X.w H1 s1.heap a (DtO X.w a xs) from I1.hok a _ hka)
  cases r1
  refine ⟨"dict", "dict.update", F.plainAttrs_dict, F.slot_dict_update, F.type_dict_update, ⟨o, h1, h2.1⟩, fun b e => by cases e; exact ⟨o, h1, h2.2.1⟩, ?_⟩
  have hA := ha.run cpos pins s1 σ H1 _ I1 q1
  rw [hs] at hA ⊢
  refine Calls.callWith_builtin (by show (false || (backTo cpos (starEach es X.env)).any (·.1)) = false; rw [hplain] <;> rfl) (Calls.evalArgs_plain ?_)
  exact thn hA fun us s2 ⟨vs, H2, I2, r2, q2⟩ => mt_dupdate hu pins s2 σ H2 (.ref a) vs (.ref a) us Q I2 rfl r2 q2
/-- tuple(xs) of a list, its object known -/
theorem call_tupleP : CallR X (.type "tuple") (rTupleP X.K) := by
  intro pins s σ H xs us Q I r h
  obtain ⟨p, ys, rfl, hq, q⟩ := h
  rw [Vals.ref1 r]
  obtain ⟨its, rv, pl, hz⟩ := I.list hq
  have hlen := rv.length
  refine call_tuple_list pl.isList (fun h' kp => ?_) (by simp only [List.size_toArray] <;> omega)
  have I1 : Inv X pins σ H { s with heap := h' } := I.kept (t' := s.toks) kp
  have new : (h'.push { cls := .type "tuple", data := .seq its.toArray }).get? h'.objs.size = some { cls := .type "tuple", data := .seq its.toArray } := Heap.get?_push_size _ rfl
  refine ⟨.ref h'.objs.size, _, I1.laid (t' := s.toks) (o := .frz { cls := .type "tuple", data := .seq its.toArray } (.tup ys)) (fun b o e => Heap.get?_push_of_some _ e) (Nat.le_refl _) ⟨new, hz, its, rv, IsTup.new _ _⟩, rfl, q _ _ (I1.hok.fresh (Nat.le_refl _)) rfl⟩
/-- dict(t), t a known tuple of pairs (tuple, value) with different keys -/
theorem cr_dictT (hc : X.calm = true) (hu : X.A.units + 64 < cLine) : CallR X (.type "dict") (rDictT X.w X.K) := by
  intro pins s σ H vs us Q I r h
  obtain ⟨a, Ts, ps, rfl, ⟨o, hod, ha⟩, hT, hk, hn, q⟩ := h
  rw [Vals.ref1 r]
  obtain ⟨g0, hz, its, rv, o', g1, hcl, n, hd⟩ := (show ObjOk X.prog X.w H s.heap a (.frz o (.tup (Ts.map .ref))) from I.hok a _ ha)
  rw [g0] at g1; cases g1
  have hits : its = Ts.map Value.ref := by
    clear hT hd g0 ha hz q hk hn
    induction Ts generalizing its with
    | nil => cases rv; rfl
    | cons T Ts ih =>
      have rv' : Vals (V.ref T :: Ts.map V.ref) its := rv
      cases rv' with
      | cons h t => cases h; rw [ih _ t]; rfl
  -- the pairs, with their values
  have hps : ∃ ys : List (NestedKey × Addr × Value), DtP ps ys ∧ Paired (fun (T : Addr) (y : NestedKey × Addr × Value) => PairAt s.heap T (.ref y.2.1) y.2.2) Ts ys := by
    clear hd hits rv ha hz q hk hn
    induction hT with
    | nil => exact ⟨[], .nil, .nil⟩
    | @cons T p Ts ps h t ih =>
      obtain ⟨ys, y1, y2⟩ := ih
      obtain ⟨us, ru, pt, _⟩ := I.tuple h
      cases ru with
      | @cons _ u1 _ us r1 r' =>
        cases r' with
        | @cons _ u2 _ us r2 r'' =>
          cases r''
          cases r1
          exact ⟨(p.1, p.2.1, u2) :: ys, .cons ⟨rfl, rfl, r2⟩ y1, .cons (.inl pt) y2⟩
  obtain ⟨ys, y1, y2⟩ := hps
  have lT : Ts.length = ys.length := Paired.length y2
  have his : ∀ y ∈ ys, (nestedKind X.prog X.w).is s.heap y.1 y.2.1 := by
    clear y2 lT hd hits rv ha hz q hT hn
    induction y1 with
    | nil => intro y hy; exact nomatch hy
    | @cons p y ps ys h t ih =>
      intro z hz
      rcases List.mem_cons.mp hz with rfl | hz
      · rw [← h.1, ← h.2.1]; exact (hk p List.mem_cons_self).is I
      · exact ih (fun x hx => hk x (List.mem_cons_of_mem _ hx)) z hz
  have hpi : PairItems s.heap its.toArray (fun j => Ts.getD j 0) (ys.map fun y => (.ref y.2.1, y.2.2)) := by
    refine ⟨by rw [hits]; simp [lT], fun j k v e => ?_⟩
    rw [List.getElem?_map] at e
    cases c : ys[j]? with
    | none => rw [c] at e; cases e
    | some y =>
      rw [c] at e
      cases e
      have hj : j < Ts.length := by rw [lT]; exact (List.getElem?_eq_some_iff.mp c).1
      have hTj : Ts[j]? = some Ts[j] := List.getElem?_eq_getElem hj
      refine ⟨by rw [hits, List.getElem?_toArray, List.getElem?_map, hTj]; simp [List.getD_eq_getElem?_getD, hTj], ?_⟩
      have aux : ∀ {l : List Addr} {m : List (NestedKey × Addr × Value)}, Paired (fun (T : Addr) (y : NestedKey × Addr × Value) => PairAt s.heap T (.ref y.2.1) y.2.2) l m → ∀ (j : Nat) T y, l[j]? = some T → m[j]? = some y → PairAt s.heap T (.ref y.2.1) y.2.2 := by
        intro l m q
        induction q with
        | nil => intro j T y e; simp at e
        | cons h t ih =>
          intro j T y e1 e2
          cases j with
          | zero => simp at e1 e2; subst e1 e2; exact h
          | succ j => exact ih j T y (by simpa using e1) (by simpa using e2)
      have := aux y2 j _ y hTj c
      simpa [List.getD_eq_getElem?_getD, hTj] using this
  have hu' : (nestedKind X.prog X.w).room X.A.in1.in1 := by
    show X.A.in1.in1.units + 8 < cLine
    rw [Around.in1_units, Around.in1_units]; omega
  have hlen : (ys.map fun y => ((.ref y.2.1 : Value), y.2.2)).length = ys.length := List.length_map ..
  refine call_dict_pairsH (knd := nestedKind X.prog X.w) (ps := ys) (PairArg.tuple a its.toArray (fun j => Ts.getD j 0) (ys.map fun y => (.ref y.2.1, y.2.2))) (I.ok.hd hc) hu' ⟨⟨o, n, g0, hcl, hod, hd⟩, hpi⟩
    ⟨hlen.symm, fun i key v e => ?_⟩ (fun h' hk' y hy => nestedKind_stays.all h' ?_ _ _ (his y hy)) (by rw [hlen, ← lT]; simpa using hz) fun h' tk hd' hk' => ?_
  · have e' : (ys.map fun y => ((.ref y.2.1 : Value), y.2.2))[i]? = some (key, v) := e
    rw [List.getElem?_map] at e'
    cases c : ys[i]? with
    | none => rw [c] at e'; cases e'
    | some y => rw [c] at e'; cases e'; exact ⟨y.1, y.2.1, rfl, rfl⟩
  · exact fun b o' hb e => hk' b o' (Nat.ne_of_lt (Heap.lt_size e)) hb e
  · have hsto : storedAllH [] ys = ys := by
      have := storedAll_app ys [] (fun _ _ => rfl) (by rw [← y1.keys]; exact hn)
      simpa using this
    rw [hsto] at hd'
    refine ⟨.ref _, _, I.laid (t' := tk) (fun b o' e => hk' b o' (fun z => nomatch z) e) (Nat.le_refl _) (dtO_new ?_ (beq_eq_false_iff_ne.mpr (Ne.symm (Nat.ne_of_lt I.big))) y1 hd'), rfl, q _ (I.hok.fresh (Nat.le_refl _))⟩
    rw [y1.len, ← lT]; simpa using hz
end
end FW
end PartLay6
section PartLay7
set_option Elab.async false
set_option linter.all false
set_option maxRecDepth 100000
set_option maxHeartbeats 3200000
/-! THE DATA LAYER, seventh part: comprehensions of many clauses without tests. -/
namespace FW
open PySem PySem.Spec PyProof.Rows L2
open PySem.Sem (wp)
abbrev TRr := L2.St → Hp → (Hp → Prop) → Prop
/-- what a clause does with its item, from the slots σ; then the slots know what wipe σ vs knows -/
structure PR (X : Cx) (c : Code) (rest : Sem Fin) (tr : TRr) (vs : List Nat) : Prop where
  run : ∀ (pins : List (Addr × Obj)) (s : Shared) (σ : L2.St) (H : Hp) (Q : Hp → Prop), Inv X pins σ H s → tr σ H Q →
    wpAny (model X.prog X.w) X.A rest (fun fin s' => fin = .again c ∧ ∃ H', Inv X pins (wipe σ vs) H' s' ∧ Q H') (fun _ _ => False) s
theorem no {α : Type} {t : Sem α} {Q Q' : α → Shared → Prop} {M : Model} {A : Around} {E : Value → Shared → Prop} {s : Shared} (h : wpAny M A t Q (fun _ _ => False) s) (hQ : ∀ a s, Q a s → Q' a s) : wpAny M A t Q' E s := wpAny_mono h hQ fun _ _ z => z.elim
theorem noX {X : Cx} (hx : ∀ e s, X.xe e s → False) {α : Type} {t : Sem α} {Q Q' : α → Shared → Prop} {M : Model} {A : Around} {E : Value → Shared → Prop} {s : Shared} (h : wpAny M A t Q X.xe s) (hQ : ∀ a s, Q a s → Q' a s) : wpAny M A t Q' E s := wpAny_mono h hQ fun e s z => (hx e s z).elim
section
variable {prog : Program} {w : World} {A : Around} {R : Result → Shared → Prop} {s : Shared} {elt t i : Expr} {gens : List Comprehension} {sc : Scope} {ps : Pos} {j : Nat} {it acc : Value} {env : PySem.Env} {rest : Sem Fin}
/-- the loop of one clause -/
theorem clauseLoop (heq : compTurn (.ListComp elt gens sc ps) j it acc env = (do
      standAt i.pos
      match ← pyNext it with
      | none => pure (.done .next)
      | some v =>
        letOwnedTupleGo t it v
        assign t env v
        rest)) (I : Nat → Shared → Prop)
    (turn : ∀ n s, I n s → wpAny (model prog w) A (pyNext it) (fun r s1 => match r with
      | none => R (.ok .next) s1
      | some v => wpAny (model prog w) A (letOwnedTupleGo t it v) (fun _ s2 => wpAny (model prog w) A (assign t env v) (fun _ s3 => wpAny (model prog w) A rest (fun fin s4 => fin = .again (.compLoop (.ListComp elt gens sc ps) j it acc env) ∧ ∃ m, m < n ∧ I m s4) (fun _ _ => False) s3) (fun _ _ => False) s2) (fun _ _ => False) s1) (fun _ _ => False) s)
    (n : Nat) (h : I n s) : codeAny (model prog w) A (.compLoop (.ListComp elt gens sc ps) j it acc env) R s := by
  refine codeAny_loop rfl I (fun n s hI => ?_) n h
  show wpAny _ A ((compTurn (.ListComp elt gens sc ps) j it acc env).onRaise (fun x => do noteFrame x env; theTreesLotGoes x)) _ _ s
  refine wpAny_noted ?_
  rw [heq]
  refine wpAny_bind (wpAny_standAt (wpAny_bind (no (turn n s hI) fun r s1 h1 => ?_)))
  cases r with
  | none => exact wpAny_pure h1
  | some v => exact wpAny_bind (no h1 fun _ s2 h2 => wpAny_bind (no h2 fun _ s3 h3 => no h3 fun fin s4 h4 => by obtain ⟨rfl, h4⟩ := h4; exact ⟨rfl, h4⟩))
/-- the start of a clause -/
theorem clauseStart {g : Comprehension} (hg : (clausesOf (.ListComp elt gens sc ps))[j]? = some g) (h0 : (g.is_async != 0) = false) (hl : codeAny (model prog w) A (.compLoop (.ListComp elt gens sc ps) j it acc env) R s)
    (h : wpAny (model prog w) A (pyIter it) (fun it' s' => codeAny (model prog w) A (.compLoop (.ListComp elt gens sc ps) j it' acc env) R s') (notedBy (model prog w) A env fun x s' => R (.error x) s') s) : codeAny (model prog w) A (.compStart (.ListComp elt gens sc ps) j it acc env) R s := by
  refine codeAny_of_tree ?_
  show wpAny _ _ ((compStart (.ListComp elt gens sc ps) j it acc env).onRaise (fun x => do noteFrame x env; standAt theWindowsPlace)) _ _ s
  refine wpAny_notedAt ?_
  unfold compStart
  rw [hg]
  simp only [Option.elim, h0, Bool.false_eq_true, if_false]
  refine wpAny_bind (wpAny_askSetting (wpAny_ite ?_))
  split
  · first
      | exact wpAny_bind (wpAny_pure (wpAny_pure (And.intro rfl hl)))
      | exact wpAny_pure (And.intro rfl hl)
  · exact wpAny_bind (wpAny_rule (wpAny_bind (wpAny_standAt (wpAny_bind (wpAny_mono h (fun it' s' h' => wpAny_pure (And.intro rfl h')) fun _ _ x => x)))))
end

/-- a clause's own loop, from the item of the clause before it -/
def tCl (wi : TI) (g : TG) (tr : TRr) (vs : List Nat) : TRr := fun σ H Q => wi σ H fun J H1 => ∃ W : Nat → Nat → Hp → Prop, (∃ m, W 0 m H1) ∧ ∀ i m H, W i m H →
  (J.stop i H ∧ Q H) ∨ (J.go i H ∧ ∃ Nx : Hp → Prop, (∀ H', Nx H' → ∃ m', m' < m ∧ W (i + 1) m' H') ∧ ∀ x H', J.yld i H x H' → g x (wipe σ vs) H' fun σ2 H2 => wipe σ2 vs = wipe σ vs ∧ tr σ2 H2 Nx)
def tApp (te : TE) (Dl : Addr) : TRr := fun σ H Q => te σ H fun y H4 => ∃ acc, H4 Dl = some (.lst acc) ∧ acc.length < sizeLine ∧ Q (upd H4 Dl (.lst (acc ++ [y])))
/-- [.. for g in wi ..], tr what is done with an item -/
def tLcR (wi : TI) (g : TG) (tr : Addr → TRr) (vs : List Nat) : TE := fun σ H Q => wi σ H fun J H1 => ∀ Dl, H1 Dl = none → ∃ W : Nat → Nat → Hp → Prop, (∃ m, W 0 m (upd H1 Dl (.lst []))) ∧ ∀ i m H, W i m H →
  (J.stop i H ∧ Q (.ref Dl) H) ∨ (J.go i H ∧ ∃ Nx : Hp → Prop, (∀ H', Nx H' → ∃ m', m' < m ∧ W (i + 1) m' H') ∧ ∀ x H', J.yld i H x H' → g x (wipe σ vs) H' fun σ2 H2 => wipe σ2 vs = wipe σ vs ∧ tr Dl σ2 H2 Nx)
/-- what stands between the item's store and the turn's end, of a clause with another behind it -/
def inner (C : Expr) (j : Nat) (i : Expr) (acc : Value) (env : PySem.Env) (c : Code) : Sem Fin := do
  let x ← eval i env
  standAt i.pos
  let x ← foldedSetIterable i env x
  let _ ← runOwn (.compStart C j (← holding [x] (pyIter x)) acc env) env
  again c
/-- .. of the last clause -/
def last (elt : Expr) (acc : Value) (env : PySem.Env) (c : Code) : Sem Fin := do
  (do let _ ← call (.builtin "list.append") [acc, ← eval elt env])
  again c

/-- what a loop in a block carries -/
def Bw (X : Cx) (pins : List (Addr × Obj)) (σ : L2.St) (tn : Nat → Heap → Prop) (fp : List Addr) (W : Nat → Nat → Hp → Prop) (n : Nat) (s : Shared) : Prop :=
  ∃ i H, Inv X pins σ H s ∧ tn i s.heap ∧ (∀ b ∈ fp, H b = none) ∧ W i n H
section
variable {X : Cx} {pins : List (Addr × Obj)} {σ : L2.St} {H : Hp} {s : Shared}
/-- a turn of a loop in a block -/
theorem oneTurn {tg : Expr} {J : It} {fp : List Addr} {it : Addr} {tn : Nat → Heap → Prop} {g : TG} {tr : TRr} {rest : Sem Fin} {c : Code} {vs vs' : List Nat} {i n : Nat} {W : Nat → Nat → Hp → Prop} {Nx : Hp → Prop} {σ0 : L2.St} (T : Turn X.prog X.w X.K tg J fp it tn) (hc : X.calm = true) (hx : ∀ e s, X.xe e s → False)
    (I : Inv X pins (wipe σ0 vs) H s) (st : tn i s.heap) (hn : ∀ b ∈ fp, H b = none) (stat : ∀ {H' : Hp}, (∀ b ∈ fp, H' b = none) → ∀ b ∈ fp, FpOk X pins H' b) (pg : PG X tg g) (pr : PR X c rest tr vs') (hsub : ∀ k ∈ vs', k ∈ vs)
    (go : J.go i H) (hNx : ∀ H', Nx H' → ∃ m', m' < n ∧ W (i + 1) m' H') (step : ∀ x H', J.yld i H x H' → g x (wipe σ0 vs) H' fun σ2 H2 => wipe σ2 vs = wipe σ0 vs ∧ tr σ2 H2 Nx) {P : Value → Prop} :
    wpAny (model X.prog X.w) X.A (pyNext (.ref it)) (fun r s1 => ∃ v, r = some v ∧
      wpAny (model X.prog X.w) X.A (letOwnedTupleGo tg (.ref it) v) (fun _ s2 => wpAny (model X.prog X.w) X.A (assign tg X.env v) (fun _ s3 => wpAny (model X.prog X.w) X.A rest (fun fin s4 => fin = .again c ∧ ∃ m, m < n ∧ Bw X pins (wipe σ0 vs) tn fp W m s4) (fun _ _ => False) s3) (fun _ _ => False) s2) (fun _ _ => False) s1) (fun _ _ => False) s := by
  refine no (T.item X rfl rfl rfl hc i _ s _ H (fun _ _ => False) I (stat hn) st go) fun r s1 ⟨u, hr, h1⟩ => ⟨u, hr, ?_⟩
  refine no h1 fun _ s2 ⟨x, H2, I2, r2, y2, st2, n2⟩ => ?_
  have I2' := I2.pinned (stat n2) (T.obj _ _ st2)
  refine noX hx (pg.run _ s2 _ H2 x u _ I2' r2 (step x H2 y2)) fun _ s3 ⟨σ3, H3, I3, hw, q3⟩ => ?_
  refine no (pr.run _ s3 σ3 H3 _ I3 q3) fun fin s4 ⟨hfin, H4, I4, q4⟩ => ⟨hfin, ?_⟩
  obtain ⟨m', hm, w'⟩ := hNx H4 q4
  have pin' : ∀ b ∈ fp, ∀ o, s2.heap.get? b = some o → s4.heap.get? b = some o ∧ H4 b = none := fun b hb o e =>
    let z := I4.pin (b, o) (List.mem_append_right _ (List.mem_append_right _ (mem_pinsAt hb e)))
    ⟨z.1, z.2.1⟩
  refine ⟨m', hm, i + 1, H4, (I4.unpinned).weak (by rw [wipe_length σ3 vs', ← hw, wipe_length]) (fun k v e => ?_), T.keep _ _ _ st2 fun b hb o e => (pin' b hb o e).1, fun b hb => ?_, w'⟩
  · rw [← hw] at e
    obtain ⟨e1, e2⟩ := wipe_some e
    rw [wipe_out fun z => e2 (hsub k z)]
    exact e1
  · obtain ⟨o, e, _⟩ := T.obj _ _ st2 b hb
    exact (pin' b hb o e).2
/-- an inner clause -/
theorem PR.clause {elt t i : Expr} {gens : List Comprehension} {sc : Scope} {ps : Pos} {j : Nat} {acc : Value} {wi : TI} {g : TG} {tr : TRr} {rest : Value → Sem Fin} {c : Code} {vs vs' : List Nat} {gc : Comprehension} (hc : X.calm = true) (hx : ∀ e s, X.xe e s → False)
    (heq : ∀ it, compTurn (.ListComp elt gens sc ps) j it acc X.env = (do
      standAt i.pos
      match ← pyNext it with
      | none => pure (.done .next)
      | some v =>
        letOwnedTupleGo t it v
        assign t X.env v
        rest it))
    (hcl : (clausesOf (.ListComp elt gens sc ps))[j]? = some gc) (h0 : (gc.is_async != 0) = false) (hs : ∀ x, foldedSetIterable i X.env x = pure x) (hi : PI X t i wi) (hg : PG X t g) (hr : ∀ it, PR X (.compLoop (.ListComp elt gens sc ps) j it acc X.env) (rest it) tr vs') (hsub : ∀ k ∈ vs', k ∈ vs) : PR X c (inner (.ListComp elt gens sc ps) j i acc X.env c) (tCl wi g tr vs) vs := by
  refine ⟨fun pins s σ H Q I h => ?_⟩
  unfold inner
  refine wpAny_bind (noX hx (hi.run pins s σ H _ I h) fun xv s1 hxv => ?_)
  refine wpAny_bind (wpAny_standAt (wpAny_bind (wpAny_of_eq (hs xv) (wpAny_bind (wpAny_holding (noX hx hxv fun itv s2 h2 => ?_))))))
  obtain ⟨it, fp, tn, J, H2, e, I2, T, st2, f2, W, ⟨m0, w0⟩, turn⟩ := h2
  subst e
  refine wpAny_bind (wpAny_runOwn ?_)
  rw [Around.mark_none]
  have stat : ∀ {H' : Hp}, (∀ b ∈ fp, H' b = none) → ∀ b ∈ fp, FpOk X pins H' b := fun hn b hb => ⟨hn b hb, (f2 b hb).2⟩
  have loop : codeAny (model X.prog X.w) X.A (.compLoop (.ListComp elt gens sc ps) j (.ref it) acc X.env) (fun r s' => match r with
      | .ok _ => ∃ H', Inv X pins (wipe σ vs) H' s' ∧ Q H'
      | .error _ => False) s2 := by
    refine clauseLoop (heq _) (Bw X pins (wipe σ vs) tn fp W) ?_ m0 ⟨0, H2, I2.weak (wipe_length _ _) (fun k v e => (wipe_some e).1), st2, fun b hb => (f2 b hb).1, w0⟩
    rintro n s3 ⟨k, H3, I3, st3, n3, w3⟩
    rcases turn k n H3 w3 with ⟨stop, nx⟩ | ⟨go, Nx, hNx, step⟩
    · refine no (T.done X rfl rfl rfl hc k _ s3 (wipe σ vs) H3 (fun _ _ => False) I3 (stat n3) st3 stop) fun r s4 ⟨hr, I4⟩ => ?_
      subst hr
      exact ⟨H3, I4, nx⟩
    · refine no (oneTurn (P := fun _ => True) T hc hx I3 st3 n3 stat hg (hr (.ref it)) hsub go hNx step) fun r s4 ⟨v, e4, h4⟩ => ?_
      subst e4
      exact h4
  refine codeAny_mono (clauseStart hcl h0 loop (T.self X.A 0 _ _ _ st2 loop)) fun r s' hr => ?_
  cases r with
  | ok f =>
    first
      | exact wpAny_pure ⟨rfl, hr⟩
      | exact wpAny_bind (wpAny_pure (wpAny_pure ⟨rfl, hr⟩))
  | error e => exact hr.elim
/-- the last clause's item goes to the list -/
theorem PR.app {elt : Expr} {Dl : Addr} {te : TE} {c : Code} (he : PE X elt te) (hx : ∀ e s, X.xe e s → False) : PR X c (last elt (.ref Dl) X.env c) (tApp te Dl) [] := by
  refine ⟨fun pins s σ H Q I h => ?_⟩
  unfold last
  refine wpAny_bind (wpAny_bind (wpAny_mono (he.run pins s σ H _ I h) (fun z s1 ⟨y, H1, I1, r1, acc, hD, hz, nx⟩ => ?_) hx))
  refine wpAny_bind (wpAny_mono (app_ok I1 hD hz r1 fun s2 I2 => ?_) (fun _ _ q => q) hx)
  exact wpAny_pure (wpAny_pure ⟨rfl, _, I2, nx⟩)
end

/-- over all blocks of a comprehension -/
abbrev inBlk (X : Cx) (scope : Scope) (P : Cx → Prop) : Prop := ∀ (s : Shared) (H : Hp) (C : Addr) (cl : List (Str × Addr)) (fp : List Addr), P (X.blk s H scope (compEnvC scope cl C X.env) fp)
section
variable {X : Cx}
theorem lcR_core {pins : List (Addr × Obj)} {s : Shared} {σ : L2.St} {H : Hp} {Q : VK} {elt tg iter : Expr} {more : List Comprehension} {scope : Scope} {own : List (Str × Nat)} {pos pos' : Pos} {wi : TI} {g : TG} {tr : Addr → TRr} {vs' : List Nat} {restOf : Value → PySem.Env → Code → Sem Fin}
    {use : Option (Value → Sem Unit)} {Qf : Value → Shared → Prop}
    (hc : X.calm = true) (hN : X.N.Nodup) (I : Inv X pins σ H s) (hi : PI X tg iter wi) (ok : BlkOk X.N X.env.scope scope own)
    (hg : inBlk X scope fun Y => PG Y tg g) (hr : ∀ Dl c, inBlk X scope fun Y => PR Y c (restOf (.ref Dl) Y.env c) (tr Dl) vs') (hsub : ∀ k ∈ vs', k ∈ own.map (·.2)) (hs : ∀ x, foldedSetIterable iter X.env x = pure x)
    (heq : ∀ it acc env, compTurn (.ListComp elt (⟨tg, iter, [], 0⟩ :: more) scope pos) 0 it acc env = (do
      standAt iter.pos
      match ← pyNext it with
      | none => pure (.done .next)
      | some v =>
        letOwnedTupleGo tg it v
        assign tg env v
        restOf acc env (.compLoop (.ListComp elt (⟨tg, iter, [], 0⟩ :: more) scope pos) 0 it acc env)))
    (h : tLcR wi g tr (own.map (·.2)) σ H Q)
    (hRR : ∀ Dl C s' m H', Inv X pins σ H' s' → Q (.ref Dl) H' → s'.heap.Ns C m → FpOk X pins H' C → compPost (model X.prog X.w) X.A X.xe use Qf (.ref Dl) C (.ok .next) s') :
    wpAny (model X.prog X.w) X.A (comprehension (.ListComp elt (⟨tg, iter, [], 0⟩ :: more) scope pos) scope X.env pos' (newList []) false (eval iter X.env) use) Qf X.xe s := by
  have hfree : ∀ y ∈ scope.names, y.2 = .free → ∃ c, X.env.cells.lookup y.1 = some c := fun y hy e => (ok.free y hy e).elim (fun k => I.ok.has _ (.inl k)) fun k => I.ok.has _ (.inr k)
  refine wpAny_comprehension_free (use := use) rfl hs (closure_ok hfree) ok.kind (fun y hy e => by rw [ok.uniq y hy, e]) (thn (hi.run pins s σ H _ I h) fun xv s1 hx => thn hx fun itv s2 h2 => ?_)
  obtain ⟨it, fp, tn, J, H2, e, I2, T, st2, f2, q⟩ := h2
  subst e
  refine wpAny_newObj_type (newEnv_comp ?_) (by show 0 ≤ sizeLine; decide)
  generalize hD : s2.heap.objs.size = Dl
  obtain ⟨W, ⟨m0, w0⟩, turn⟩ := q Dl (I2.hok.fresh (Nat.le_of_eq hD))
  generalize hs3 : ({ s2 with heap := s2.heap.push { cls := .type "list", data := .seq ([] : List Value).toArray } } : Shared) = s3
  have h3 : s3.heap = s2.heap.push { cls := .type "list", data := .seq ([] : List Value).toArray } := by rw [← hs3]
  have I3 : Inv X pins σ (upd H2 Dl (.lst [])) s3 := by
    rw [← hs3]
    exact I2.laid (t' := s2.toks) (fun b o e => Heap.get?_push_of_some _ e) (Nat.le_of_eq hD) ⟨Nat.zero_le _, [], 0, .nil, by rw [← hD]; exact Heap.get?_push_size _ rfl⟩
  have lt2 : ∀ b ∈ fp, b < s2.heap.objs.size := fun b hb => let ⟨_, e, _⟩ := T.obj _ _ st2 b hb; Heap.lt_size e
  have f3 : ∀ b ∈ fp, FpOk X pins (upd H2 Dl (.lst [])) b ∧ b < s3.heap.objs.size := fun b hb =>
    ⟨⟨by rw [upd_ne (by rw [← hD]; exact Nat.ne_of_lt (lt2 b hb))]; exact (f2 b hb).1, (f2 b hb).2⟩, by rw [h3, Heap.size_push]; exact Nat.lt_succ_of_lt (lt2 b hb)⟩
  have st3 : tn 0 s3.heap := T.keep _ _ _ st2 fun b _ o e => by rw [h3]; exact Heap.get?_push_of_some _ e
  have I4 := block_start I3 ok hN f3
  have pg := hg s3 (upd H2 Dl (.lst [])) s3.heap.objs.size (cellsFrom (s3.heap.objs.size + 1) scope.names (cloFrom X.env.cells scope.names [])) fp
  have pr := fun c => hr Dl c s3 (upd H2 Dl (.lst [])) s3.heap.objs.size (cellsFrom (s3.heap.objs.size + 1) scope.names (cloFrom X.env.cells scope.names [])) fp
  have hq := heq (.ref it) (.ref Dl) (compEnvC scope (cellsFrom (s3.heap.objs.size + 1) scope.names (cloFrom X.env.cells scope.names [])) s3.heap.objs.size X.env)
  show codeAny _ _ (.compStart (.ListComp elt (⟨tg, iter, [], 0⟩ :: more) scope pos) 0 (.ref it) (.ref Dl) (compEnvC scope (cellsFrom (s3.heap.objs.size + 1) scope.names (cloFrom X.env.cells scope.names [])) s3.heap.objs.size X.env)) (compPost (model X.prog X.w) X.A X.xe use Qf (.ref Dl) s3.heap.objs.size) { s3 with heap := pushCells (s3.heap.push { cls := .type "dict", data := .dict #[] }) scope.names }
  have nfp : ∀ b ∈ fp, (upd H2 Dl (.lst [])) b = none := fun b hb => (f3 b hb).1.1
  have pr : ∀ c, PR (X.blk s3 (upd H2 Dl (.lst [])) scope (compEnvC scope (cellsFrom (s3.heap.objs.size + 1) scope.names (cloFrom X.env.cells scope.names [])) s3.heap.objs.size X.env) fp) c (restOf (.ref Dl) (compEnvC scope (cellsFrom (s3.heap.objs.size + 1) scope.names (cloFrom X.env.cells scope.names [])) s3.heap.objs.size X.env) c) (tr Dl) vs' := pr
  generalize hce : compEnvC scope (cellsFrom (s3.heap.objs.size + 1) scope.names (cloFrom X.env.cells scope.names [])) s3.heap.objs.size X.env = ce at I4 pg pr hq ⊢
  have cL : ce.locals = s3.heap.objs.size := by subst hce; rfl
  generalize hH3 : upd H2 Dl (.lst []) = H3 at I3 I4 pg pr w0 nfp f3
  generalize hs4 : ({ s3 with heap := pushCells (s3.heap.push { cls := .type "dict", data := .dict #[] }) scope.names } : Shared) = s4 at I4 ⊢
  have st4 : tn 0 s4.heap := T.keep _ _ _ st3 fun b _ o e => by rw [← hs4]; exact pushCells_keeps _ _ _ _ (Heap.get?_push_of_some _ e)
  have stat : ∀ {σ' : L2.St} {H' : Hp} {s' : Shared}, Inv (X.blk s3 H3 scope ce fp) [] σ' H' s' → ∀ {H'' : Hp}, (∀ b ∈ fp, H'' b = none) → ∀ b ∈ fp, FpOk (X.blk s3 H3 scope ce fp) [] H'' b := fun {σ' H' s'} I' {H''} hn b hb =>
    ⟨hn b hb, (I'.ok.exf b hb).1, I'.ok.exfs b hb, .inl hb, fun x c e => (I'.ok.exf b hb).2 x c e, fun p hp => absurd (show p ∈ ([] : List (Addr × Obj)) ++ [] from hp) (by simp)⟩
  have loop : codeAny (model X.prog X.w) X.A (.compLoop (.ListComp elt (⟨tg, iter, [], 0⟩ :: more) scope pos) 0 (.ref it) (.ref Dl) ce) (compPost (model X.prog X.w) X.A X.xe use Qf (.ref Dl) s3.heap.objs.size) s4 := by
    refine clauseLoop hq (Bw (X.blk s3 H3 scope ce fp) [] (wipe σ (own.map (·.2))) tn fp W) ?_ m0 ⟨0, H3, I4, st4, nfp, w0⟩
    rintro n s5 ⟨i, H5, I5, st5, n5, w5⟩
    rcases turn i n H5 w5 with ⟨stop, qq⟩ | ⟨go, Nx, hNx, step⟩
    · refine no (T.done (X.blk s3 H3 scope ce fp) rfl rfl rfl hc i [] s5 _ H5 (fun _ _ => False) I5 (stat I5 n5) st5 stop) fun r s6 ⟨hr', I6⟩ => ?_
      subst hr'
      have I7 : Inv X pins σ H5 s6 := I3.call' (ch := fp) I6.os I6.base I6.hok I6.bare fun b hb => ⟨(f3 b hb).1.2.2.2.1, (f3 b hb).1.2.1, (f3 b hb).1.2.2.2.2.1, (f3 b hb).1.2.2.2.2.2⟩
      have nC : H5 s3.heap.objs.size = none := by
        have z : H5 ce.locals = none := I6.free
        rwa [cL] at z
      obtain ⟨m, hn, _⟩ := I6.loc
      have hn : s6.heap.Ns ce.locals m := hn
      rw [cL] at hn
      exact hRR Dl s3.heap.objs.size s6 m H5 I7 qq hn (I3.fpOk (Nat.le_refl _) nC)
    · refine no (oneTurn (X := X.blk s3 H3 scope ce fp) (P := fun _ => True) T hc (fun _ _ z => z) I5 st5 n5 (stat I5) pg (pr (.compLoop (.ListComp elt (⟨tg, iter, [], 0⟩ :: more) scope pos) 0 (.ref it) (.ref Dl) ce)) hsub go hNx step) fun r s6 ⟨v, hr', h6⟩ => ?_
      subst hr'
      exact h6
  exact codeAny_compStart_list loop (T.self X.A 0 _ _ _ st4 loop)
/-- name = [elt for .. for .. for ..] on one line, the name a local -/
theorem ps_setLc3 {i : Nat} {y : Str} {py : Pos} {elt tg iter tg1 iter1 tg2 iter2 : Expr} {scope : Scope} {own : List (Str × Nat)} {vs1 vs2 : List Nat} {pos spos : Pos} {wi wi1 wi2 : TI} {g g1 g2 : TG} {te : TE}
    (hc : X.calm = true) (hN : X.N.Nodup) (hy : X.N[i]? = some y) (hyl : X.env.scope.names.lookup y = some .local)
    (hsw : swapsWith (.ListComp elt [⟨tg, iter, [], 0⟩, ⟨tg1, iter1, [], 0⟩, ⟨tg2, iter2, [], 0⟩] scope pos) (some (.Name y py)) spos.line X.env = pure true) (hi : PI X tg iter wi) (ok : BlkOk X.N X.env.scope scope own)
    (h1 : ∀ k ∈ vs1, k ∈ own.map (·.2)) (h2 : ∀ k ∈ vs2, k ∈ vs1)
    (hg : ∀ (s : Shared) (H : Hp) (C : Addr) (cl : List (Str × Addr)) (fp : List Addr), PG (X.blk s H scope (compEnvC scope cl C X.env) fp) tg g) (hi1 : ∀ (s : Shared) (H : Hp) (C : Addr) (cl : List (Str × Addr)) (fp : List Addr), PI (X.blk s H scope (compEnvC scope cl C X.env) fp) tg1 iter1 wi1) (hg1 : ∀ (s : Shared) (H : Hp) (C : Addr) (cl : List (Str × Addr)) (fp : List Addr), PG (X.blk s H scope (compEnvC scope cl C X.env) fp) tg1 g1) (hi2 : ∀ (s : Shared) (H : Hp) (C : Addr) (cl : List (Str × Addr)) (fp : List Addr), PI (X.blk s H scope (compEnvC scope cl C X.env) fp) tg2 iter2 wi2) (hg2 : ∀ (s : Shared) (H : Hp) (C : Addr) (cl : List (Str × Addr)) (fp : List Addr), PG (X.blk s H scope (compEnvC scope cl C X.env) fp) tg2 g2) (he : ∀ (s : Shared) (H : Hp) (C : Addr) (cl : List (Str × Addr)) (fp : List Addr), PE (X.blk s H scope (compEnvC scope cl C X.env) fp) elt te)
    (hs : ∀ x, foldedSetIterable iter X.env x = pure x := by intro _; rfl) (hs1 : ∀ env x, foldedSetIterable iter1 env x = pure x := by intro _ _; rfl) (hs2 : ∀ env x, foldedSetIterable iter2 env x = pure x := by intro _ _; rfl) :
    PS X (.Assign [.Name y py] (.ListComp elt [⟨tg, iter, [], 0⟩, ⟨tg1, iter1, [], 0⟩, ⟨tg2, iter2, [], 0⟩] scope pos) spos) (tAsg (tLcR wi g (fun Dl => tCl wi1 g1 (tCl wi2 g2 (tApp te Dl) vs2) vs1) (own.map (·.2))) (gName i)) := by
  refine ⟨fun pins s σ H De I h => ?_⟩
  rw [exec_Assign_Name_used _ _ _ _ hsw]
  refine wpAny_bind (wpAny_standAt (wpAny_bind ?_))
  show wpAny _ X.A (do let _ ← comprehension (.ListComp elt [⟨tg, iter, [], 0⟩, ⟨tg1, iter1, [], 0⟩, ⟨tg2, iter2, [], 0⟩] scope pos) scope X.env (firstIterPos [⟨tg, iter, [], 0⟩, ⟨tg1, iter1, [], 0⟩, ⟨tg2, iter2, [], 0⟩] pos) (newList []) false (eval iter X.env) (some (assign (.Name y py) X.env))) _ _ s
  have h : tLcR wi g (fun Dl => tCl wi1 g1 (tCl wi2 g2 (tApp te Dl) vs2) vs1) (own.map (·.2)) σ H (fun x H1 => gName i x σ H1 De.nx) := h
  refine wpAny_bind (thn (lcR_core (Qf := fun _ s' => SP X pins De .next s') (restOf := inner (.ListComp elt [⟨tg, iter, [], 0⟩, ⟨tg1, iter1, [], 0⟩, ⟨tg2, iter2, [], 0⟩] scope pos) 1 iter1) hc hN I hi ok hg (fun Dl c s H C cl fp => ?_) h1 hs ?_ h fun L C s' m H' I' q hn f => ?_) fun _ s' hq => wpAny_pure (wpAny_pure hq))
  · refine PR.clause (X := X.blk s H scope (compEnvC scope cl C X.env) fp) (rest := fun it => inner _ 2 iter2 (.ref Dl) _ (.compLoop _ 1 it (.ref Dl) _)) hc (fun _ _ z => z) (fun it => by rfl) rfl rfl (hs1 _) (hi1 s H C cl fp) (hg1 s H C cl fp) (fun it => ?_) h2
    refine PR.clause (X := X.blk s H scope (compEnvC scope cl C X.env) fp) (rest := fun it => last elt (.ref Dl) _ (.compLoop _ 2 it (.ref Dl) _)) hc (fun _ _ z => z) (fun it => by rfl) rfl rfl (hs2 _) (hi2 s H C cl fp) (hg2 s H C cl fp) (fun it => PR.app (he s H C cl fp) fun _ _ z => z) (fun k hk => nomatch hk)
  · intro it acc env; rfl
  · show wpAny _ _ (assign (.Name y py) X.env (.ref L)) _ _ _
    refine wpAny_assign_Name (store_ok2 (v := V.ref L) I' hN hy (.inl hyl) rfl (fun s2 I2 ⟨a, sb, ha⟩ => ?_) (.inr hyl))
    obtain ⟨f0, f1, f2, f3, f4, f5⟩ := f
    have haC : C ≠ a := by
      rcases ha with z | z
      · rw [z]; exact f1
      · exact fun e => f4 y a z e.symm
    refine ⟨m, hn.sameBut sb haC, fun h3 sb3 => ?_⟩
    exact ⟨_, H', I2.turned (t' := s2.toks) (fun b o hb e => (sb3.2 b hb).trans e) f0 f1 f3 f4 f5, q⟩
end
end FW
end PartLay7
section PartLay8
set_option Elab.async false
set_option linter.all false
set_option maxRecDepth 100000
set_option maxHeartbeats 2000000
/-! THE DATA LAYER, eighth part: what is left of the rules, by data. -/
namespace FW
open PySem PySem.Spec PyProof.Rows L2

/-! ### what is never reached -/
theorem pe_never {X : Cx} {e : Expr} : PE X e (fun _ _ _ => False) := ⟨fun _ _ _ _ _ _ h => h.elim⟩
theorem pt_never {X : Cx} {e : Expr} : PT X e (fun _ _ _ => False) := ⟨fun _ _ _ _ _ _ h => h.elim⟩

/-! ### max of a tuple of ints -/
def rMaxT (K : PySem.W.Frag) : List V → Hp → VK → Prop := fun vs H Q => ∃ (a : Addr) (ns : List Int), vs = [V.ref a] ∧ SqT K H a (ns.map V.int) ∧ 0 < ns.length ∧ ∀ m, m ∈ ns → (∀ y, y ∈ ns → y ≤ m) → Q (.int m) H
theorem maxD_int : ∀ (ns : List Int) (n : Int), ∃ m, PySem.W.maxD (.int n) (ns.map .int) = .int m ∧ m ∈ n :: ns ∧ ∀ y ∈ n :: ns, y ≤ m
  | [], n => ⟨n, rfl, by simp, by simp⟩
  | k :: ns, n => by
    have e : PySem.W.maxD (.int n) (.int k :: ns.map .int) = PySem.W.maxD (if PySem.W.dataLt (.int n) (.int k) = true then .int k else .int n) (ns.map .int) := rfl
    have lt : PySem.W.dataLt (.int n) (.int k) = decide (n < k) := by
      rw [PySem.W.dataLt_int]
    rw [List.map_cons, e, lt]
    by_cases h : n < k
    · obtain ⟨m, h1, h2, h3⟩ := maxD_int ns k
      refine ⟨m, by simp only [h, decide_true, if_true]; exact h1, List.mem_cons_of_mem _ h2, fun y hy => ?_⟩
      rcases List.mem_cons.mp hy with rfl | hy
      · have := h3 k List.mem_cons_self; omega
      · exact h3 y hy
    · obtain ⟨m, h1, h2, h3⟩ := maxD_int ns n
      refine ⟨m, by simp only [h, decide_false, Bool.false_eq_true, if_false]; exact h1, ?_, fun y hy => ?_⟩
      · rcases List.mem_cons.mp h2 with rfl | h2
        · exact List.mem_cons_self
        · exact List.mem_cons_of_mem _ (List.mem_cons_of_mem _ h2)
      · rcases List.mem_cons.mp hy with rfl | hy
        · exact h3 _ List.mem_cons_self
        · rcases List.mem_cons.mp hy with rfl | hy
          · have := h3 n List.mem_cons_self; omega
          · exact h3 y (List.mem_cons_of_mem _ hy)
theorem dp_ints {K : PySem.W.Frag} {H : Hp} : ∀ ns : List Int, DpAll K H (ns.map V.int) (ns.map .int)
  | [] => .nil
  | n :: ns => .cons (.int n) (dp_ints ns)
theorem cr_maxT {X : Cx} (hc : X.calm = true) (hu : X.A.units + 64 < cLine) : CallR X (.builtin "max") (rMaxT X.K) := by
  intro pins s σ H vs us Q I r h
  obtain ⟨a, ns, rfl, hs, hne, q⟩ := h
  cases ns with
  | nil => simp at hne
  | cons n ns =>
    obtain ⟨its, rv, hl, _⟩ := I.tuple hs
    rw [Vals.ref1 r]
    obtain ⟨as, hr⟩ := Dp.readsAll I ((n :: ns).map .int) _ its (dp_ints _) rv
    refine PySem.W.max_tuple_data (vs := its.toArray) (x := .int n) (xs := ns.map .int) (I.ok.hd hc) hl (by simpa using hr) ?_ ?_ fun i v h' tk bs hi hv hk => ?_
    · show PySem.W.AlikeAll ((n :: ns).map PyData.int)
      refine ⟨fun x hx y hy => ?_, fun x hx => ?_⟩
      · obtain ⟨i, _, rfl⟩ := List.mem_map.mp hx
        obtain ⟨j, _, rfl⟩ := List.mem_map.mp hy
        rfl
      · obtain ⟨i, _, rfl⟩ := List.mem_map.mp hx
        exact fun e => nomatch e
    · have := PySem.W.depth_ints (n :: ns)
      have e : PyData.depthAll (.int n :: ns.map .int) = 0 := this
      rw [e]; omega
    · obtain ⟨m, h1, h2, h3⟩ := maxD_int ns n
      rw [h1] at hv
      have : ∃ t, v = .int m t := by
        cases hv
        exact ⟨_, rfl⟩
      obtain ⟨t, rfl⟩ := this
      exact ⟨.int m, H, I.kept hk, ⟨t, rfl⟩, q m h2 h3⟩

/-! ### sorted of data -/
def rSortedD (K : PySem.W.Frag) : List V → Hp → VK → Prop := fun vs H Q => ∃ (a : Addr) (xs : List V) (ds : List D), vs = [V.ref a] ∧ SqL K H a xs ∧ DpAll K H xs ds ∧ PySem.W.AllAlike ds ∧ (∀ d ∈ ds, ∃ x r, d = .tuple (x :: r)) ∧ (∀ d ∈ ds, d.depth ≤ 20) ∧
  ∀ xs' ds' p, ds'.Perm ds → DpAll K H xs' ds' → H p = none → Q (.ref p) (upd H p (.lst xs'))
theorem dpAll_len {K : PySem.W.Frag} {H : Hp} : ∀ {xs : List V} {ds : List D}, DpAll K H xs ds → xs.length = ds.length
  | _, _, .nil => rfl
  | _, _, .cons _ t => congrArg (· + 1) (dpAll_len t)
theorem each_of {K : PySem.W.Frag} {H : Hp} : ∀ {xs : List V} {us : List Value} {ds : List D}, Vals xs us → DpAll K H xs ds → PySem.W.EachIs (fun v d => ∃ x, RelV x v ∧ Dp K H x d) us ds
  | _, _, _, .nil, .nil => .nil
  | _, _, _, .cons r t, .cons h k => .cons ⟨_, r, h⟩ (each_of t k)
theorem of_each {K : PySem.W.Frag} {H : Hp} : ∀ {us : List Value} {ds : List D}, PySem.W.EachIs (fun v d => ∃ x, RelV x v ∧ Dp K H x d) us ds → ∃ xs, Vals xs us ∧ DpAll K H xs ds
  | _, _, .nil => ⟨[], .nil, .nil⟩
  | _, _, .cons ⟨x, r, h⟩ t => let ⟨xs, a, b⟩ := of_each t; ⟨x :: xs, .cons r a, .cons h b⟩
theorem cr_sortedData {X : Cx} (hu : X.A.units + 64 < cLine) : CallR X (.builtin "sorted") (rSortedD X.K) := by
  intro pins s σ H vs us Q I r h
  obtain ⟨a, xs, ds, rfl, hs, hd, hal, htu, hde, q⟩ := h
  obtain ⟨its, rv, hl, hz⟩ := I.list hs
  rw [Vals.ref1 r]
  have e := each_of rv hd
  have er : PySem.W.EachIs (fun v d => ∃ as, Reads s.heap v (id d) as) its ds := e.mono fun v d ⟨x, rx, hx⟩ => Dp.reads I d x v hx rx
  have hlen : ds.length = xs.length := (dpAll_len hd).symm
  refine PySem.W.sorted_data (enc := id) hl.isList e er (by rw [List.map_id]; exact hal) (by rw [List.map_id]; exact .inl htu) (by rw [hlen]; exact hz) (fun d hd' => ?_) fun out h1 h2 => ?_
  · have := hde d hd'
    show X.A.units + 2 + d.depth < cLine
    omega
  · obtain ⟨xs', r1, r2⟩ := of_each h2
    obtain ⟨ep, he'⟩ := PyProof.Rows.sortedAll_at s.heap its out.toArray
    have hl' : xs'.length ≤ sizeLine := by rw [r1.length, h1, hlen]; exact hz
    exact ⟨.ref _, upd H (s.heap.objs.size + 1) (.lst xs'), I.laid (t' := s.toks) (fun _ _ => PyProof.Rows.sortedAll_old) (Nat.le_succ _) ⟨hl', out, ep, r1, he'⟩, rfl, q xs' _ _ (List.mergeSort_perm _ _) r2 (I.hok.fresh (Nat.le_succ _))⟩

/-! ### readings by data -/
section
variable {w : World} {F : Fm w} {K : PySem.W.Frag} {ρ ρ1 ρ2 : Ro} {te ta tb tc : TE} {tt tu : TT} {tas : TA} {d d1 d2 : D} {wi : TI} {g : TG}
theorem DqAll.rep {H : Hp} {vs : List V} {ds : List D} (h : DqAll F K H vs ds) : ∀ k : Nat, DqAll F K H (List.replicate k vs).flatten (List.replicate k ds).flatten
  | 0 => .nil
  | k + 1 => by
    rw [List.replicate_succ, List.replicate_succ, List.flatten_cons, List.flatten_cons]
    exact .app h (DqAll.rep h k)
theorem DqAll.ne {H : Hp} {vs : List V} {ds : List D} (h : DqAll F K H vs ds) (n : ds ≠ []) : vs ≠ [] := fun e => by
  subst e; cases h; exact n rfl
theorem ed_repT {ds : List D} {k : Nat} (ha : ED F K ta ρ (.tuple ds)) (hb : ED F K tb ρ (.int (k : Int))) (hn : ds ≠ []) (h2 : 2 ≤ k) (h3 : k ≤ 1000) (h4 : ds.length ≤ 1000) : ED F K (tOp (rRepT K) ta tb) ρ (.tuple (List.replicate k ds).flatten) :=
  ed_op ha hb fun x y H _ hx hy Q q => by
    obtain ⟨a, xs, rfl, hs, hd⟩ := hx.tup_inv
    refine ⟨a, k, xs, rfl, hy.int_inv, hs, hd.ne hn, by omega, by omega, by rw [hd.len]; exact h4, fun p hp => ?_⟩
    rw [Int.toNat_natCast]
    exact q _ _ (.new hp) (.newT hp (hd.rep k))
theorem ed_catT {ds es : List D} (ha : ED F K ta ρ (.tuple ds)) (hb : ED F K tb ρ (.tuple es)) (hn : ds ≠ []) (hm : es ≠ []) (hl : ds.length + es.length ≤ 100000) : ED F K (tOp (rCatT K) ta tb) ρ (.tuple (ds ++ es)) :=
  ed_op ha hb fun x y H _ hx hy Q q => by
    obtain ⟨a, xs, rfl, hs, hd⟩ := hx.tup_inv
    obtain ⟨b, ys, rfl, ht, he⟩ := hy.tup_inv
    exact ⟨a, b, xs, ys, rfl, rfl, hs, ht, hd.ne hn, sz_le (by rw [hd.len, he.len]; exact hl), fun e => absurd e (he.ne hm), fun _ p hp => q _ _ (.new hp) (.newT hp (hd.app he))⟩
theorem ed_cat {ds es : List D} (ha : ED F K ta ρ (.list ds)) (hb : ED F K tb ρ (.list es)) (hl : ds.length + es.length ≤ 100000) : ED F K (tOp rCat ta tb) ρ (.list (ds ++ es)) :=
  ed_op ha hb fun x y H J hx hy Q q => by
    obtain ⟨a, xs, rfl, _, hs, hd⟩ := hx.lst_get
    obtain ⟨b, ys, rfl, _, ht, he⟩ := hy.lst_get
    exact ⟨a, b, xs, ys, rfl, rfl, hs, ht, sz_le (by rw [hd.len, he.len]; exact hl), fun p hp => q _ _ (.new hp) (.newL J hp (hd.app he))⟩
theorem ed_rep {ds : List D} {k : Nat} (ha : ED F K ta ρ (.list ds)) (hb : ED F K tb ρ (.int (k : Int))) (h3 : k ≤ 1000) (h4 : ds.length ≤ 100) : ED F K (tOp rRep ta tb) ρ (.list (List.replicate k ds).flatten) :=
  ed_op ha hb fun x y H J hx hy Q q => by
    obtain ⟨a, xs, rfl, _, hs, hd⟩ := hx.lst_get
    have hz : xs.length * (k : Int).toNat ≤ sizeLine := by
      rw [Int.toNat_natCast, hd.len]
      exact sz_le (Nat.le_trans (Nat.mul_le_mul h4 h3) (by decide))
    refine ⟨a, k, xs, rfl, hy.int_inv, hs, by omega, by omega, hz, fun p hp => ?_⟩
    rw [Int.toNat_natCast]
    exact q _ _ (.new hp) (.newL J hp (hd.rep k))
theorem ed_slT_from {ds : List D} {k : Nat} (h : ED F K te ρ (.tuple ds)) (hk : 1 ≤ k) (hn : ds ≠ []) : ED F K (tSl (rSlT K) te (tPart (tC (.int (k : Int)))) tNoPart) ρ (.tuple (ds.drop k)) := fun σ H J E Q q =>
  h σ H J E _ fun v H1 e1 q1 => by
    obtain ⟨a, xs, rfl, hs, hd⟩ := q1.tup_inv
    refine ⟨k, rfl, a, xs, rfl, hs, fun ⟨z, _⟩ => ?_, fun p hp => ?_⟩
    · rw [HT.sIx_nat] at z
      have : 0 < xs.length := List.length_pos_iff.mpr (hd.ne hn)
      omega
    · rw [cutV_from]
      exact q _ _ (e1.trans (.new hp)) (.newT hp (hd.drop k))
theorem ed_slT_to {ds : List D} {k : Nat} (h : ED F K te ρ (.tuple ds)) (hk : k < ds.length) : ED F K (tSl (rSlT K) te tNoPart (tPart (tC (.int (k : Int))))) ρ (.tuple (ds.take k)) := fun σ H J E Q q =>
  h σ H J E _ fun v H1 e1 q1 => by
    obtain ⟨a, xs, rfl, hs, hd⟩ := q1.tup_inv
    refine ⟨k, rfl, a, xs, rfl, hs, fun ⟨_, z⟩ => ?_, fun p hp => ?_⟩
    · rw [HT.sIx_nat, hd.len] at z
      omega
    · rw [cutV_to]
      exact q _ _ (e1.trans (.new hp)) (.newT hp (hd.take k))
/-- list(range(n)) -/
theorem ed_listRg {n : Nat} (h : ED F K te ρ (.int (n : Int))) (hn : n ≤ 100000) : ED F K (tLstRg (tRg1 te)) ρ (.list ((List.range n).map fun i => .int (i : Nat))) := fun σ H J E Q q =>
  h σ H J E _ fun v H1 e1 q1 => by
    refine ⟨n, q1.int_inv, .of_le (by omega) (by omega) (by omega) (by omega), fun p hp => ?_⟩
    refine q _ _ (e1.trans (.new hp)) (.newL (e1.inv J) hp ?_)
    unfold rgV
    have e : ((n : Int) - 0).toNat = n := by omega
    rw [e]
    have : ∀ l : List Nat, DqAll F K H1 (l.map fun i => V.int (0 + (i : Nat))) (l.map fun i => .int (i : Nat)) := fun l => by
      induction l with
      | nil => exact .nil
      | cons x l ih => exact .cons (by show Dq F K H1 (V.int (0 + (x : Nat))) (.int (x : Nat)); rw [Int.zero_add]; exact .int _) ih
    exact this _
/-- isinstance(x, str) of a text -/
theorem ed_isStr {x : Str} (h : ED F K te ρ (.str x)) : ED F K (tCB RZ.rIsTy (tCons te (tCons (tC (.ty "str")) tNil))) ρ (.bool true) := fun σ H J E Q q =>
  h σ H J E _ fun v H1 e1 q1 => by
    rw [q1.str_inv]
    exact ⟨.str x, "str", rfl, .str x, q _ H1 e1 (.bl true)⟩
theorem ed_maxT {ns : List Int} {m : Int} (h : EA F K tas ρ [.tuple (ns.map .int)]) (h0 : 0 < ns.length) (hm : ∀ z, z ∈ ns → (∀ y, y ∈ ns → y ≤ z) → z = m) : ED F K (tCB (rMaxT K) tas) ρ (.int m) := ed_cb h fun vs H _ q Q k => by
  obtain ⟨v, rfl, q1⟩ := dq1 q
  obtain ⟨a, xs, rfl, hs, hd⟩ := q1.tup_inv
  have e := ints_inv hd
  subst e
  refine ⟨a, ns, rfl, hs, h0, fun z hz hle => ?_⟩
  rw [hm z hz hle]
  exact k _ H (.refl H) (.int _)
/-- sorted(set(xs)) -/
theorem ed_sortSet {ns : List Int} (h : EA F K tas ρ [.list (ns.map .int)]) (hz : ns.length < 64) : ED F K (tCB (rSortedSet w) (tCons (tCB (rSetL1 w K) tas) tNil)) ρ (.list ((ordI ns).map .int)) := fun σ H J E Q q =>
  h σ H J E _ fun vs H1 e1 q1 => by
    obtain ⟨v, rfl, q2⟩ := dq1 q1
    obtain ⟨a, xs, rfl, _, hs, hd⟩ := q2.lst_inv
    have e := ints_inv hd
    subst e
    refine ⟨a, ns, rfl, hs, by omega, fun p c hp hc => ⟨p, _, c, rfl, upd_same, by omega, fun ms l h1 h2 h3 hl => ?_⟩⟩
    have em : ms = ordI ns := ordI_eq h1 fun k => by rw [h2 k, decide_eq_true_eq]
    subst em
    have e2 := e1.trans (Xt.new (F := F) (o := SetO w p (fun j => decide (j ∈ ns)) c) hp)
    refine q _ _ (e2.trans (.new hl)) (.newL (e2.inv J) hl (ints_dq _))
/-- len(set(xs)) -/
theorem ed_lenSet {ns : List Int} (h : EA F K tas ρ [.list (ns.map .int)]) (hz : ns.length < 64) : ED F K (tCB (rLenSet w) (tCons (tCB (rSetL1 w K) tas) tNil)) ρ (.int ((ordI ns).length : Nat)) := fun σ H J E Q q =>
  h σ H J E _ fun vs H1 e1 q1 => by
    obtain ⟨v, rfl, q2⟩ := dq1 q1
    obtain ⟨a, xs, rfl, _, hs, hd⟩ := q2.lst_inv
    have e := ints_inv hd
    subst e
    refine ⟨a, ns, rfl, hs, by omega, fun p c hp hc => ⟨p, _, c, rfl, upd_same, by omega, fun ms h1 h2 h3 => ?_⟩⟩
    have e2 := e1.trans (Xt.new (F := F) (o := SetO w p (fun j => decide (j ∈ ns)) c) hp)
    have em : c = (ordI ns).length := by
      have hp : ms.Perm (ordI ns) := (List.perm_ext_iff_of_nodup h1 ((asc_ordI ns).imp fun h e => by subst e; omega)).mpr fun k => by rw [h2 k, mem_ordI, decide_eq_true_eq]
      rw [← h3, hp.length_eq]
    rw [em]
    exact q _ _ (by rw [← em]; exact e2) (.int _)
/-- order.index(x) of ints -/
theorem ed_index {ns : List Int} {j : Nat} {x : Int} (ha : ED F K ta ρ (.list (ns.map .int))) (hb : ED F K tb ρ (.int x)) (hj : ns[j]? = some x) (hno : ∀ m, m < j → ns[m]? ≠ some x) : ED F K (tBM K "list" (rIndex K) ta (tCons tb tNil)) ρ (.int (j : Nat)) := fun σ H J E Q q =>
  ha σ H J E _ fun v H1 e1 q1 => by
    obtain ⟨a, xs, rfl, n, hs, hd⟩ := q1.lst_inv
    have e := ints_inv hd
    subst e
    refine ⟨.inl ⟨rfl, _, hs⟩, hb σ H1 (e1.inv J) (E.mono e1) _ fun y H2 e2 q2 => ?_⟩
    rw [q2.int_inv]
    refine ⟨a, _, .int x, j, .int x, rfl, rfl, sqL_x e2 n hs, rfl, ?_, by rw [List.getElem?_map, hj]; rfl, ?_, fun m z' hm hz' => ?_, q _ H2 (e1.trans e2) (.int _)⟩
    · rw [List.all_eq_true]; intro v hv
      obtain ⟨y, _, rfl⟩ := List.mem_map.mp hv
      rfl
    · show decide (x = x) = true
      simp
    · rw [List.getElem?_map] at hz'
      cases c : ns[m]? with
      | none => rw [c] at hz'; cases hz'
      | some z =>
        rw [c] at hz'
        have := Option.some.inj hz'
        subst this
        show decide (z = x) = false
        exact decide_eq_false fun e => hno m hm (by rw [c, e])
/-! sets of three -/
theorem dq3 {vs : List V} {H : Hp} {d3 : D} (h : DqAll F K H vs [d1, d2, d3]) : ∃ v u x, vs = [v, u, x] ∧ Dq F K H v d1 ∧ Dq F K H u d2 ∧ Dq F K H x d3 := by
  cases h with
  | cons h t =>
    obtain ⟨u, x, rfl, q, r⟩ := dq2 t
    exact ⟨_, _, _, rfl, h, q, r⟩
theorem sn_par3 {i j l : Nat} {d3 : D} (h : EA F K tas ρ [d1, d2, d3]) : SN F K (tPar3 i j l tas) ρ (((ρ.set i (some d1)).set j (some d2)).set l (some d3)) := fun σ H De J E q => h σ H J E _ fun vs H1 e1 q1 => by
  obtain ⟨v, u, x, rfl, qv, qu, qx⟩ := dq3 q1
  exact ⟨v, u, x, rfl, q _ H1 e1 ((((E.mono e1).set i qv).set j qu).set l qx)⟩
theorem id_rng3 {lo hi c : Int} {n : Nat} (h : EA F K tas ρ [.int lo, .int hi, .int c]) (hr : RgC lo hi c n) : ID F K (iRng3 tas) ρ ((List.range n).map fun i => .int (lo + (i : Nat) * c)) := fun σ H J E R q => h σ H J E _ fun vs H1 e1 q1 => by
  obtain ⟨v, u, x, rfl, qv, qu, qx⟩ := dq3 q1
  rw [qv.int_inv, qu.int_inv, qx.int_inv]
  refine ⟨lo, hi, c, n, rfl, hr, q _ H1 e1 fun H2 e2 => ⟨fun i d hi' => ?_, ?_⟩⟩
  · have hlt : i < n := by
      have := (List.getElem?_eq_some_iff.mp hi').1
      simpa using this
    rw [List.getElem?_map, List.getElem?_range hlt] at hi'
    have ed : d = .int (lo + (i : Nat) * c) := (Option.some.inj hi').symm
    subst ed
    refine ⟨hlt, fun y H3 hy => ?_⟩
    obtain ⟨rfl, rfl⟩ := hy
    exact ⟨fun _ _ q => q, .int _⟩
  · show n ≤ _
    simp
end
end FW
end PartLay8
section PartLay9
set_option Elab.async false
set_option linter.all false
set_option maxRecDepth 100000
set_option maxHeartbeats 2000000
/-! THE DATA LAYER, ninth part: dicts by data; lists that grow; what is handed back by what is known of it. -/
namespace FW
open PySem PySem.Spec PyProof.Rows L2

/-! ### dicts -/
def getD (kvs : List (D × D)) (k : D) : Option D := (kvs.find? fun p => decide (nk p.1 = nk k)).map (·.2)
section
variable {w : World} {F : Fm w} {K : PySem.W.Frag} {H : Hp}
theorem DqE.val {xs : Rw} {kvs : List (D × D)} (h : DqE F K H xs kvs) (k : D) : (getD kvs k = none → valK xs (nk k) = none) ∧ ∀ d, getD kvs k = some d → ∃ v, valK xs (nk k) = some v ∧ Dq F K H v d := by
  cases h with
  | nil => exact ⟨fun _ => rfl, fun d e => by simp [getD] at e⟩
  | @cons b v xs k' d' kvs h1 t z h2 r =>
    have ih := DqE.val r k
    by_cases e : nk k' = nk k
    · have a : valK ((nk k', b, v) :: xs) (nk k) = some v := by simp [valK, List.find?_cons, e]
      have c : getD ((k', d') :: kvs) k = some d' := by simp [getD, List.find?_cons, e]
      rw [a, c]
      exact ⟨(fun q => nomatch q), fun d q => by cases q; exact ⟨v, rfl, h2⟩⟩
    · have a : valK ((nk k', b, v) :: xs) (nk k) = valK xs (nk k) := by simp [valK, List.find?_cons, e]
      have c : getD ((k', d') :: kvs) k = getD kvs k := by simp [getD, List.find?_cons, e]
      rw [a, c]
      exact ih
theorem DqE.len {xs : Rw} {kvs : List (D × D)} (h : DqE F K H xs kvs) : xs.length = kvs.length := by
  cases h with
  | nil => rfl
  | cons h1 t z h2 r => exact congrArg (· + 1) (DqE.len r)
theorem keyAt_of {b : Addr} {k : D} (h : Dq F K H (.ref b) k) (t : tonly k = true) (z : (nk k).depth ≤ 8) : KeyAt K H b (nk k) := ⟨k, h.dpt k t, t, rfl, z⟩
theorem DqE.keys {xs : Rw} {kvs : List (D × D)} (h : DqE F K H xs kvs) : KeysAt K H xs := by
  cases h with
  | nil => exact fun x hx => nomatch hx
  | @cons b v xs k' d' kvs h1 t z h2 r =>
    intro x hx
    rcases List.mem_cons.mp hx with rfl | hx
    · exact keyAt_of h1 t z
    · exact DqE.keys r x hx
theorem DqE.refs {xs : Rw} {kvs : List (D × D)} (h : DqE F K H xs kvs) : DqAll F K H (xs.map fun x => .ref x.2.1) (kvs.map (·.1)) := by
  cases h with
  | nil => exact .nil
  | cons h1 t z h2 r => exact .cons h1 (DqE.refs r)
theorem DqE.nks {xs : Rw} {kvs : List (D × D)} (h : DqE F K H xs kvs) : xs.map (·.1) = kvs.map fun p => nk p.1 := by
  cases h with
  | nil => rfl
  | cons h1 t z h2 r => rw [List.map_cons, List.map_cons, DqE.nks r]
theorem DqE.app {xs xs' : Rw} {kvs kvs' : List (D × D)} (h : DqE F K H xs kvs) (h' : DqE F K H xs' kvs') : DqE F K H (xs ++ xs') (kvs ++ kvs') := by
  cases h with
  | nil => exact h'
  | cons h1 t z h2 r => exact .cons h1 t z h2 (DqE.app r h')
theorem Dq.dict_inv {v : V} {kvs : List (D × D)} (h : Dq F K H v (.dict kvs)) (no : ∀ k, kvs ≠ ownK k) : ∃ a xs, v = .ref a ∧ ¬ F.M a ∧ H a = some (DtO w a xs) ∧ DqE F K H xs kvs := by
  cases h with
  | dict n h a => exact ⟨_, _, rfl, n, h, a⟩
  | own h => exact absurd rfl (no _)
theorem Dq.ref_of {v : V} {ds : List D} (h : Dq F K H v (.tuple ds)) : ∃ b, v = .ref b := by
  obtain ⟨a, _, e, _⟩ := h.tup_inv
  exact ⟨a, e⟩
/-- a new dict -/
theorem Dq.newD {p : Addr} (J : F.J H) (hp : H p = none) : Dq F K (upd H p (DtO w p [])) (.ref p) (.dict []) := .dict (Xt.fresh J (.refl H) hp).2 upd_same .nil
section
variable {ρ : Ro} {ta tb te : TE} {tas : TA} {kvs : List (D × D)} {ks : List D} {d : D}
theorem ed_inDt {neg : Bool} (ha : ED F K ta ρ (.tuple ks)) (hb : ED F K tb ρ (.dict kvs)) (t : tonly (.tuple ks) = true) (z : (nk (.tuple ks)).depth ≤ 8) (no : ∀ k, kvs ≠ ownK k) :
    ED F K (tOp (rInDt w K neg) ta tb) ρ (.bool (if neg then !(getD kvs (.tuple ks)).isSome else (getD kvs (.tuple ks)).isSome)) := ed_op ha hb fun x y H _ hx hy Q q => by
  obtain ⟨b, rfl⟩ := hx.ref_of
  obtain ⟨a, xs, rfl, n, h, he⟩ := hy.dict_inv no
  refine ⟨b, a, xs, nk (.tuple ks), rfl, rfl, h, he.keys, keyAt_of hx t z, ?_⟩
  have e : (valK xs (nk (.tuple ks))).isSome = (getD kvs (.tuple ks)).isSome := by
    obtain ⟨h1, h2⟩ := he.val (.tuple ks)
    cases c : getD kvs (.tuple ks) with
    | none => rw [h1 c]; rfl
    | some d => obtain ⟨v, hv, _⟩ := h2 d c; rw [hv]; rfl
  rw [e]
  exact q _ H (.refl H) (.bl _)
theorem ed_ixDt (ha : ED F K ta ρ (.dict kvs)) (hb : ED F K tb ρ (.tuple ks)) (t : tonly (.tuple ks) = true) (z : (nk (.tuple ks)).depth ≤ 8) (no : ∀ k, kvs ≠ ownK k) (hg : getD kvs (.tuple ks) = some d) :
    ED F K (tOp (rIxDt w K) ta tb) ρ d := ed_op ha hb fun x y H _ hx hy Q q => by
  obtain ⟨b, rfl⟩ := hy.ref_of
  obtain ⟨a, xs, rfl, n, h, he⟩ := hx.dict_inv no
  obtain ⟨v, hv, hd⟩ := (he.val (.tuple ks)).2 d hg
  exact ⟨a, b, xs, nk (.tuple ks), v, rfl, rfl, h, he.keys, keyAt_of hy t z, hv, q v H (.refl H) hd⟩
theorem ed_listDt (h : EA F K tas ρ [.dict kvs]) (no : ∀ k, kvs ≠ ownK k) : ED F K (tCB (rListDt w) tas) ρ (.list (kvs.map (·.1))) := ed_cb h fun vs H J q Q k => by
  obtain ⟨v, rfl, q1⟩ := dq1 q
  obtain ⟨a, xs, rfl, n, hs, he⟩ := q1.dict_inv no
  exact ⟨a, xs, rfl, hs, fun l hl => k _ _ (.new hl) (.newL J hl he.refs)⟩
theorem ed_dnew : ED F K (fun _ H Q => ∀ p, H p = none → Q (.ref p) (upd H p (DtO w p []))) ρ (.dict []) := fun σ H J E Q q p hp => q _ _ (.new hp) (.newD J hp)
end
end

/-! ### a block that hands back one of P -/
def SDQ {w : World} (F : Fm w) (K : PySem.W.Frag) (ts : TS) (ρ : Ro) (P : D → Prop) : Prop := ∀ (σ : L2.St) (H : Hp) (De : Ends), F.J H → Env F K H σ ρ → (∀ v H' d, P d → Xt F H H' → Dq F K H' v d → De.rt v H') → ts De σ H
/-- the promise of a def that hands back one of what Post allows -/
def spQ (w : World) (K : PySem.W.Frag) (R : List D → D → Prop) (ok : List D → Prop) : Sp := fun vs H Q _ => ∃ F : Fm w, F.J H ∧ ∃ ds, DqAll F K H vs ds ∧ ok ds ∧ ∀ d v H', R ds d → Xt F H H' → Dq F K H' v d → Q v H'
section
variable {w : World} {F : Fm w} {K : PySem.W.Frag} {ρ ρ1 ρ' : Ro} {te : TE} {tas : TA} {tt : TT} {t u : TS} {d : D} {P : D → Prop}
theorem sdq_of (h : SD F K t ρ d) (hp : P d) : SDQ F K t ρ P := fun σ H De J E q => h σ H De J E fun v H' e hd => q v H' d hp e hd
theorem sdq_seq (h1 : SN F K t ρ ρ1) (h2 : SDQ F K u ρ1 P) : SDQ F K (tSeq t u) ρ P := fun σ H De J E q => h1 σ H { De with nx := u De } J E fun σ' H1 e1 E1 => h2 σ' H1 De (e1.inv J) E1 fun v H2 d p e2 q2 => q v H2 d p (e1.trans e2) q2
theorem sdq_when {b : Bool} (h : ET F K tt ρ b) (h1 : b = true → SDQ F K t ρ P) (h2 : b = false → SDQ F K u ρ P) : SDQ F K (tSeq (tIfS tt t tNext) u) ρ P := fun σ H De J E q => h σ H J E _ fun H1 e1 => by
  cases b with
  | true => exact h1 rfl σ H1 { De with nx := u De } (e1.inv J) (E.mono e1) fun v H2 d p e2 q2 => q v H2 d p (e1.trans e2) q2
  | false => exact h2 rfl σ H1 De (e1.inv J) (E.mono e1) fun v H2 d p e2 q2 => q v H2 d p (e1.trans e2) q2
/-- a reading that gives one of P -/
def EQ {w : World} (F : Fm w) (K : PySem.W.Frag) (te : TE) (ρ : Ro) (P : D → Prop) : Prop := ∀ (σ : L2.St) (H : Hp), F.J H → Env F K H σ ρ → ∀ Q : VK, (∀ d v H', P d → Xt F H H' → Dq F K H' v d → Q v H') → te σ H Q
theorem eq_call {R : List D → D → Prop} {ok : List D → Prop} {ds : List D} {E : XK} (h : EA F K tas ρ ds) (hR : ok ds) : EQ F K (tCall (spQ w K R ok) [] E tas) ρ (R ds) := fun σ H J En Q q =>
  h σ H J En _ fun vs H1 e1 q1 => by
    show spQ w K R ok (vs ++ []) H1 Q E
    rw [List.append_nil]
    exact ⟨F, e1.inv J, ds, q1, hR, fun d v H2 r e2 q2 => q d v H2 r (e1.trans e2) q2⟩
theorem eq_of (h : ED F K te ρ d) (hp : P d) : EQ F K te ρ P := fun σ H J E Q q => h σ H J E Q fun v H' e hd => q d v H' hp e hd
theorem sdq_ret (h : EQ F K te ρ P) : SDQ F K (tRet te) ρ P := fun σ H De J E q => h σ H J E _ fun d v H1 p e1 q1 => q v H1 d p e1 q1
theorem sdq_bind {i : Nat} {P1 : D → Prop} (h : EQ F K te ρ P1) (hu : ∀ d, P1 d → SDQ F K u (ρ.set i (some d)) P) : SDQ F K (tSeq (tAsg te (gName i)) u) ρ P := fun σ H De J E q => h σ H J E _ fun d v H1 p e1 q1 =>
  hu d p _ H1 De (e1.inv J) ((E.mono e1).set i q1) fun v2 H2 d2 p2 e2 q2 => q v2 H2 d2 p2 (e1.trans e2) q2
end

/-! ### a list that grows, while the rest is read -/
/-- with the list at p set apart -/
def Fm.add {w : World} (F : Fm w) (p : Addr) : Fm w := ⟨fun x => F.M x ∨ x = p, fun H => F.J H ∧ ∃ vs, H p = some (.lst vs), fun H H' h t J => ⟨F.mono H H' (fun x o m => h x o (.inl m)) t J.1, let ⟨vs, e⟩ := J.2; ⟨vs, h p _ (.inr rfl) e⟩⟩,
  fun H x J m => m.elim (F.live H x J.1) fun e => by subst e; obtain ⟨vs, q⟩ := J.2; exact ⟨_, q⟩, F.own⟩
/-- .. as it is -/
def Fm.at_ {w : World} (F : Fm w) (p : Addr) (vs : List V) : Fm w := ⟨fun x => F.M x ∨ x = p, fun H => F.J H ∧ H p = some (.lst vs), fun H H' h t J => ⟨F.mono H H' (fun x o m => h x o (.inl m)) t J.1, h p _ (.inr rfl) J.2⟩,
  fun H x J m => m.elim (F.live H x J.1) fun e => by subst e; exact ⟨_, J.2⟩, F.own⟩
section
variable {w : World} {F : Fm w} {K : PySem.W.Frag} {H H' H0 : Hp} {p : Addr} {vs us : List V} {v : V} {d : D} {ds : List D}
theorem at_add (h : Dq (F.at_ p vs) K H v d) : Dq (F.add p) K H v d := Dq.kf (F := F.at_ p vs) (F' := F.add p) (fun _ _ q => q) (fun _ _ z => z) (fun x o q n => ⟨q, n⟩) h
theorem add_at (h : Dq (F.add p) K H v d) : Dq (F.at_ p vs) K H v d := Dq.kf (F := F.add p) (F' := F.at_ p vs) (fun _ _ q => q) (fun _ _ z => z) (fun x o q n => ⟨q, n⟩) h
theorem add_out (h : Dq (F.add p) K H v d) : Dq F K H v d := Dq.kf (F := F.add p) (F' := F) (fun _ _ q => q) (fun _ _ z => z) (fun x o q n => ⟨q, fun m => n (.inl m)⟩) h
theorem at_addA (h : DqAll (F.at_ p vs) K H us ds) : DqAll (F.add p) K H us ds := DqAll.kf (F := F.at_ p vs) (F' := F.add p) (fun _ _ q => q) (fun _ _ z => z) (fun x o q n => ⟨q, n⟩) h
theorem add_atA (h : DqAll (F.add p) K H us ds) : DqAll (F.at_ p vs) K H us ds := DqAll.kf (F := F.add p) (F' := F.at_ p vs) (fun _ _ q => q) (fun _ _ z => z) (fun x o q n => ⟨q, n⟩) h
theorem add_outA (h : DqAll (F.add p) K H us ds) : DqAll F K H us ds := DqAll.kf (F := F.add p) (F' := F) (fun _ _ q => q) (fun _ _ z => z) (fun x o q n => ⟨q, fun m => n (.inl m)⟩) h
/-- what is known before p comes stands apart from p -/
theorem in_add (hp : H p = none) (h : Dq F K H v d) (e : Xt F H H') : Dq (F.add p) K H' v d := Dq.kf (F := F) (F' := F.add p) e.tups (fun _ _ z => z) (fun x o q n => ⟨e.keep x o n q, fun m => m.elim n fun z => by subst z; rw [hp] at q; cases q⟩) h
theorem in_addA (hp : H p = none) (h : DqAll F K H us ds) (e : Xt F H H') : DqAll (F.add p) K H' us ds := DqAll.kf (F := F) (F' := F.add p) e.tups (fun _ _ z => z) (fun x o q n => ⟨e.keep x o n q, fun m => m.elim n fun z => by subst z; rw [hp] at q; cases q⟩) h
/-- what is set apart from p stands where p's list changes -/
theorem add_upd {xs : List V} (hp : H p = some (.lst us)) (h : Dq (F.add p) K H v d) : Dq (F.add p) K (upd H p (.lst xs)) v d := Dq.kf (F := F.add p) (F' := F.add p) (Tk.lst hp) (fun _ _ z => z) (fun x o q n => ⟨by rw [upd_ne fun z => n (.inr z)]; exact q, n⟩) h
theorem add_updA {xs : List V} (hp : H p = some (.lst us)) (h : DqAll (F.add p) K H vs ds) : DqAll (F.add p) K (upd H p (.lst xs)) vs ds := DqAll.kf (F := F.add p) (F' := F.add p) (Tk.lst hp) (fun _ _ z => z) (fun x o q n => ⟨by rw [upd_ne fun z => n (.inr z)]; exact q, n⟩) h
/-- the same of Env -/
theorem Env.kf {F' : Fm w} {σ : L2.St} {ρ : Ro} (E : Env F K H σ ρ) (k : ∀ x xs, Rd H x (.tup xs) → Rd H' x (.tup xs)) (ow : ∀ x k, F.own x k → F'.own x k) (l : ∀ x o, H x = some o → ¬ F.M x → H' x = some o ∧ ¬ F'.M x) : Env F' K H' σ ρ := ⟨E.len, fun i d e => let ⟨v, a, b⟩ := E.at_ i d e; ⟨v, a, Dq.kf k ow l b⟩⟩
theorem Env.in_add {σ : L2.St} {ρ : Ro} (hp : H p = none) (E : Env F K H σ ρ) (e : Xt F H H') : Env (F.add p) K H' σ ρ := E.kf (F' := F.add p) e.tups (fun _ _ z => z) fun x o q n => ⟨e.keep x o n q, fun m => m.elim n fun z => by subst z; rw [hp] at q; cases q⟩
theorem Env.add_upd {σ : L2.St} {ρ : Ro} {xs : List V} (hp : H p = some (.lst us)) (E : Env (F.add p) K H σ ρ) : Env (F.add p) K (upd H p (.lst xs)) σ ρ := E.kf (F' := F.add p) (Tk.lst hp) (fun _ _ z => z) fun x o q n => ⟨by rw [upd_ne fun z => n (.inr z)]; exact q, n⟩
theorem Env.add_at {σ : L2.St} {ρ : Ro} (E : Env (F.add p) K H σ ρ) : Env (F.at_ p vs) K H σ ρ := E.kf (F' := F.at_ p vs) (fun _ _ q => q) (fun _ _ z => z) fun x o q n => ⟨q, n⟩
theorem Env.at_add {σ : L2.St} {ρ : Ro} (E : Env (F.at_ p vs) K H σ ρ) : Env (F.add p) K H σ ρ := E.kf (F' := F.add p) (fun _ _ q => q) (fun _ _ z => z) fun x o q n => ⟨q, n⟩
theorem Env.add_out {σ : L2.St} {ρ : Ro} (E : Env (F.add p) K H σ ρ) : Env F K H σ ρ := E.kf (F' := F) (fun _ _ q => q) (fun _ _ z => z) fun x o q n => ⟨q, fun m => n (.inl m)⟩
/-- from a base where p is not there -/
theorem Xt.of_at (h0 : H0 p = none) (J : F.J H0) (a : Xt F H0 H) (b : Xt (F.at_ p vs) H H') (hp : H p = some (.lst vs)) : Xt F H0 H' ∧ H' p = some (.lst vs) := by
  refine ⟨⟨fun x o n q => ?_, fun x xs q => b.tups _ _ (a.tups _ _ q), fun J => (b.inv ⟨a.inv J, hp⟩).1⟩, (b.inv ⟨a.inv J, hp⟩).2⟩
  refine b.keep x o (fun m => m.elim n fun z => ?_) (a.keep x o n q)
  subst z; rw [h0] at q; cases q
end
end FW
end PartLay9
section PartLay10
set_option Elab.async false
set_option linter.all false
set_option maxRecDepth 100000
set_option maxHeartbeats 2000000
/-! THE DATA LAYER, tenth part: a list that grows in a loop; many clauses by data. -/
namespace FW
open PySem PySem.Spec PyProof.Rows L2

/-- slot i holds the list at p, one's own, with ds so far -/
def LS {w : World} (F : Fm w) (K : PySem.W.Frag) (H0 : Hp) (p : Addr) (H : Hp) (σ : L2.St) (ρ : Ro) (i : Nat) (ds : List D) : Prop :=
  ∃ vs, Xt F H0 H ∧ σ[i]? = some (some (.ref p)) ∧ H p = some (.lst vs) ∧ DqAll (F.add p) K H vs ds ∧ Env (F.add p) K H σ ρ
def SL {w : World} (F : Fm w) (K : PySem.W.Frag) (ts : TS) (i : Nat) (ρ : Ro) (ds : List D) (ρ' : Ro) (ds' : List D) : Prop :=
  ∀ (H0 : Hp) (p : Addr), F.J H0 → H0 p = none → ∀ (σ : L2.St) (H : Hp) (De : Ends), LS F K H0 p H σ ρ i ds → (∀ σ' H', LS F K H0 p H' σ' ρ' i ds' → Xm (F.add p) H H' → De.nx σ' H') → ts De σ H
section
variable {w : World} {F : Fm w} {K : PySem.W.Frag} {ρ ρ1 ρ2 ρ' : Ro} {te : TE} {tas : TA} {t u : TS} {g : TG} {wi : TI} {d : D} {i : Nat} {ds ds1 ds2 : List D}
theorem at_m {p : Addr} {vs : List V} {H H' : Hp} (e : Xt (F.at_ p vs) H H') : Xm (F.add p) H H' := ⟨e.keep, e.tups⟩
theorem add_m {p : Addr} {us xs : List V} {H : Hp} (hp : H p = some (.lst us)) : Xm (F.add p) H (upd H p (.lst xs)) := ⟨fun x o n q => by rw [upd_ne fun z => n (.inr z)]; exact q, Tk.lst hp⟩
theorem sl_seq (h1 : SL F K t i ρ ds ρ1 ds1) (h2 : SL F K u i ρ1 ds1 ρ2 ds2) : SL F K (tSeq t u) i ρ ds ρ2 ds2 := fun H0 p J hn σ H De L q => h1 H0 p J hn σ H { De with nx := u De } L fun σ' H1 L1 m1 => h2 H0 p J hn σ' H1 De L1 fun σ2 H2 L2 m2 => q σ2 H2 L2 (m1.trans m2)
theorem sl_wk (h : SL F K t i ρ ds ρ1 ds1) (w : Wk ρ1 ρ2) : SL F K t i ρ ds ρ2 ds1 := fun H0 p J hn σ H De L q => h H0 p J hn σ H De L fun σ' H' ⟨vs, b, c, e, f, E⟩ m => q σ' H' ⟨vs, b, c, e, f, w.env E⟩ m
theorem sl_app (h : ∀ F' : Fm w, ED F' K te ρ d) (hz : ds.length < 100000) : SL F K (tDrop (tBM K "list" rAppend (tVar i) (tCons te tNil))) i ρ ds ρ (ds ++ [d]) := fun H0 p J hn σ H De ⟨vs, x, hi, hp, hd, E⟩ q => by
  have Ja : (F.at_ p vs).J H := ⟨x.inv J, hp⟩
  refine ⟨_, hi, .inl ⟨rfl, vs, .of hp⟩, ?_⟩
  refine h (F.at_ p vs) σ H Ja E.add_at _ fun v H1 e1 q1 => ?_
  obtain ⟨x1, hp1⟩ := Xt.of_at hn J x e1 hp
  have hd1 : DqAll (F.add p) K H1 vs ds := at_addA (vs := vs) (DqAll.mono e1 (add_atA hd))
  refine ⟨p, vs, v, rfl, rfl, hp1, sz_lt (by rw [hd.len]; exact hz), q σ _ ⟨vs ++ [v], .mut J x1 hn (Xt.fresh J (.refl H0) hn).2 (Tk.lst hp1), hi, upd_same, .app (add_updA hp1 hd1) (.one (add_upd hp1 (at_add q1))), ?_⟩ ((at_m e1).trans (add_m hp1))⟩
  exact (Env.at_add (vs := vs) (E.add_at.mono e1)).add_upd hp1
theorem sl_asgG {is : List Nat} (h : ∀ F' : Fm w, ED F' K te ρ d) (hg : ∀ F' : Fm w, GD F' K g is d ρ ρ') (hi : i ∉ is) : SL F K (tAsg te g) i ρ ds ρ' ds := fun H0 p J hn σ H De ⟨vs, x, hi', hp, hd, E⟩ q => by
  refine h (F.at_ p vs) σ H ⟨x.inv J, hp⟩ E.add_at _ fun v H1 e1 q1 => ?_
  obtain ⟨x1, hp1⟩ := Xt.of_at hn J x e1 hp
  refine hg (F.at_ p vs) σ H1 v (e1.inv ⟨x.inv J, hp⟩) (E.add_at.mono e1) q1 _ fun σ' E' _ hk => q σ' H1 ⟨vs, x1, by rw [hk i hi]; exact hi', hp1, at_addA (vs := vs) (DqAll.mono e1 (add_atA hd)), E'.at_add⟩ (at_m e1)
theorem sl_for {α : Type} (xs : List α) (enc : α → D) (ρL : Nat → Ro) (acc : Nat → List D) (hi : ∀ F' : Fm w, ID F' K wi ρ (xs.map enc)) (h0 : Wk ρ (ρL 0)) (ha : acc 0 = ds)
    (hs : ∀ k x, xs[k]? = some x → ∃ is ρ1 ρ2, i ∉ is ∧ (∀ F' : Fm w, GD F' K g is (enc x) (ρL k) ρ1) ∧ SL F K t i ρ1 (acc k) ρ2 (acc (k + 1)) ∧ Wk ρ2 (ρL (k + 1))) : SL F K (tFor wi g t) i ρ ds (ρL xs.length) (acc xs.length) := fun H0 p J hn σ H De ⟨vs, x, hi', hp, hd, E⟩ q => by
  refine hi (F.at_ p vs) σ H ⟨x.inv J, hp⟩ E.add_at _ fun Jt H1 e1 w1 => ?_
  obtain ⟨x1, hp1⟩ := Xt.of_at hn J x e1 hp
  refine ⟨fun k m σ' H' => m = xs.length - k ∧ k ≤ xs.length ∧ Xm (F.add p) H1 H' ∧ LS F K H0 p H' σ' (ρL k) i (acc k),
    ⟨_, rfl, Nat.zero_le _, .refl _, vs, x1, hi', hp1, by rw [ha]; exact at_addA (vs := vs) (DqAll.mono e1 (add_atA hd)), h0.env (Env.at_add (vs := vs) (E.add_at.mono e1))⟩, ?_⟩
  rintro k m σ' H' ⟨rfl, hil, eH, L2⟩
  obtain ⟨go, stop⟩ := w1 H' ⟨eH.keep, eH.tups⟩
  by_cases hlt : k < xs.length
  · have hx : xs[k]? = some xs[k] := List.getElem?_eq_getElem hlt
    obtain ⟨is, ρ1, ρ2, hni, hg, hb, hw⟩ := hs k _ hx
    obtain ⟨g1, g2⟩ := go k (enc xs[k]) (by rw [List.getElem?_map, hx]; rfl)
    refine .inr ⟨g1, fun σ' H' => Xm (F.add p) H1 H' ∧ LS F K H0 p H' σ' (ρL (k + 1)) i (acc (k + 1)), fun σ2 H2 pp => ⟨xs.length - (k + 1), by omega, rfl, hlt, pp⟩, fun y H2 hy => ?_⟩
    obtain ⟨e2', qy⟩ := g2 y H2 hy
    have e2 : Xt (F.add p) H' H2 := .of e2'
    have e2F : Xt F H' H2 := .of e2'
    obtain ⟨vs', x2, hs2, hp2, hd2, E2⟩ := L2
    refine hg (F.add p) σ' H2 y ⟨e2F.inv (x2.inv J), _, e2' _ _ hp2⟩ (E2.mono e2) (at_add (vs := vs) qy) _ fun σ3 E3 _ hk3 => ?_
    exact hb H0 p J hn σ3 H2 _ ⟨vs', x2.trans e2F, by rw [hk3 i hni]; exact hs2, e2' _ _ hp2, hd2.mono e2, E3⟩ fun σ4 H4 ⟨vs4, a4, b4, c4, d4, f4⟩ m4 => ⟨(eH.trans e2.m).trans m4, vs4, a4, b4, c4, d4, hw.env f4⟩
  · have ei : k = xs.length := by omega
    subst ei
    exact .inl ⟨by simpa using stop, q σ' H' L2 ((at_m e1).trans eH)⟩
/-- the whole: a new list, what makes it grow, the rest -/
theorem sd_grow {ds0 : List D} (ha : EA F K tas ρ ds0) (hz : ds0.length ≤ 100000) (hl : i < ρ.length) (h : SL F K t i (ρ.set i none) ds0 ρ' ds1) (hu : SD F K u (ρ'.set i (some (.list ds1))) d) : SD F K (tSeq (tAsg (tLst tas) (gName i)) (tSeq t u)) ρ d := fun σ H De J E q =>
  ha σ H J E _ fun vs H1 e1 q1 => ⟨sz_le (by rw [q1.len]; exact hz), fun p hp => by
    have J1 := e1.inv J
    have n1 := (Xt.fresh J1 (.refl H1) hp).2
    have xn : Xt F H1 (upd H1 p (.lst vs)) := .new hp
    have hi : i < σ.length := by rw [E.len]; exact hl
    refine h H1 p J1 hp (σ.set i (some (.ref p))) (upd H1 p (.lst vs)) _ ⟨vs, xn, by rw [List.getElem?_set_self hi], upd_same, in_addA hp q1 xn, ((E.mono e1).in_add hp xn).unset i _⟩ fun σ' H' ⟨us, x2, hs2, hp2, hd2, E2⟩ m2 => ?_
    have E3 : Env F K H' σ' (ρ'.set i (some (.list ds1))) := by
      have := E2.add_out.set i (v := .ref p) (.lst n1 hp2 (add_outA hd2))
      have e : σ'.set i (some (.ref p)) = σ' := by
        refine List.ext_getElem? fun j => ?_
        by_cases hj : i = j
        · subst hj
          rw [List.getElem?_set_self (List.getElem?_eq_some_iff.mp hs2).1, hs2]
        · rw [List.getElem?_set_ne hj]
      rwa [e] at this
    exact hu σ' H' De (x2.inv J1) E3 fun v H3 e3 q3 => q v H3 ((e1.trans x2).trans e3) q3⟩
end

/-! ### clauses -/
/-- an item's clause appends es -/
def RD {w : World} (F : Fm w) (K : PySem.W.Frag) (tr : Addr → TRr) (ρ : Ro) (es : List D) : Prop := ∀ (H1 : Hp) (Dl : Addr) (σ : L2.St) (H : Hp), H1 Dl = none → F.J H1 → Env F K H1 σ ρ → Xt F H1 H → ∀ vs ds, H Dl = some (.lst vs) → DqAll F K H vs ds → tonlyAll ds = true →
  ds.length + es.length ≤ 100000 → ∀ Q : Hp → Prop, (∀ H' vs', Xt F H1 H' → Xm (F.add Dl) H H' → H' Dl = some (.lst vs') → DqAll F K H' vs' (ds ++ es) → Q H') → tr Dl σ H Q
theorem tonlyAll_app : ∀ {ds es : List D}, tonlyAll ds = true → tonlyAll es = true → tonlyAll (ds ++ es) = true
  | [], _, _, h => h
  | d :: ds, es, h, h' => by
    rw [tonlyAll, Bool.and_eq_true] at h
    rw [List.cons_append, tonlyAll, h.1, tonlyAll_app h.2 h']; rfl
theorem tonlyAll_flat {α : Type} {f : α → List D} : ∀ {xs : List α}, (∀ x ∈ xs, tonlyAll (f x) = true) → tonlyAll (xs.flatMap f) = true
  | [], _ => rfl
  | x :: xs, h => by
    rw [List.flatMap_cons]
    exact tonlyAll_app (h x List.mem_cons_self) (tonlyAll_flat fun y hy => h y (List.mem_cons_of_mem _ hy))
section
variable {w : World} {F : Fm w} {K : PySem.W.Frag} {ρ : Ro} {te : TE} {wi : TI} {d : D} {tr : Addr → TRr}
theorem rd_app (h : ∀ F' : Fm w, ED F' K te ρ d) (t : tonly d = true) : RD F K (tApp te) ρ [d] := fun H1 Dl σ H hn J E x vs ds hp hd td hz Q q => by
  have E' : Env (F.at_ Dl vs) K H σ ρ := (E.in_add hn x).add_at
  refine h (F.at_ Dl vs) σ H ⟨x.inv J, hp⟩ E' _ fun v H2 e2 q2 => ?_
  obtain ⟨x2, hp2⟩ := Xt.of_at hn J x e2 hp
  have k2 := Tk.lst (o := .lst (vs ++ [v])) hp2
  refine ⟨vs, hp2, sz_lt (by rw [hd.len]; have h1 := hz; rw [List.length_singleton] at h1; omega), q _ _ (.mut J x2 hn (Xt.fresh J (.refl H1) hn).2 k2) ((at_m e2).trans (add_m hp2)) upd_same (.app (DqAll.tk (fun a b c => k2 a b (e2.tups a b c)) _ td hd) (.one (Dq.tk k2 _ t q2)))⟩
/-- a clause over ints -/
theorem rd_cl (ns : List Int) (es : Int → List D) {vs : List Nat} {i : Nat} (hi : ∀ F' : Fm w, ID F' K wi ρ (ns.map .int)) (his : i ∈ vs) (hr : ∀ n ∈ ns, RD F K tr ((wipeR ρ vs).set i (some (.int n))) (es n)) (ht : ∀ n ∈ ns, tonlyAll (es n) = true) :
    RD F K (fun Dl => tCl wi (gName i) (tr Dl) vs) ρ (ns.flatMap es) := fun H1 Dl σ H hn J E x us ds hp hd td hz Q q => by
  have E' : Env (F.at_ Dl us) K H σ ρ := (E.in_add hn x).add_at
  refine hi (F.at_ Dl us) σ H ⟨x.inv J, hp⟩ E' _ fun Jt H2 e2 w2 => ?_
  obtain ⟨x2, hp2⟩ := Xt.of_at hn J x e2 hp
  refine ⟨fun k m H' => m = ns.length - k ∧ k ≤ ns.length ∧ Xm (F.add Dl) H2 H' ∧ Xt F H1 H' ∧ ∃ vs', H' Dl = some (.lst vs') ∧ DqAll F K H' vs' (ds ++ (ns.take k).flatMap es),
    ⟨_, rfl, Nat.zero_le _, .refl _, x2, us, hp2, by simpa using DqAll.tk e2.tups _ td hd⟩, ?_⟩
  rintro k m H' ⟨rfl, hk, m2, x3, vs', hp3, hd3⟩
  obtain ⟨go, stop⟩ := w2 H' ⟨m2.keep, m2.tups⟩
  by_cases hlt : k < ns.length
  · have hx : ns[k]? = some ns[k] := List.getElem?_eq_getElem hlt
    generalize hxe : ns[k] = n at hx
    have hm : n ∈ ns := List.mem_of_getElem? hx
    obtain ⟨g1, g2⟩ := go k (.int n) (by rw [List.getElem?_map, hx]; rfl)
    have tk : ns.take (k + 1) = ns.take k ++ [n] := by rw [List.take_add_one, hx]; rfl
    refine .inr ⟨g1, fun H' => Xm (F.add Dl) H2 H' ∧ Xt F H1 H' ∧ ∃ vs', H' Dl = some (.lst vs') ∧ DqAll F K H' vs' (ds ++ (ns.take (k + 1)).flatMap es), fun H4 p4 => ⟨ns.length - (k + 1), by omega, rfl, hlt, p4⟩, fun y H4 hy => ?_⟩
    obtain ⟨e4, q4⟩ := g2 y H4 hy
    rw [q4.int_inv]
    have x4 : Xt F H' H4 := .of e4
    refine ⟨wipe_eq (List.length_set ..) (fun j hj => by rw [List.getElem?_set_ne (fun e : i = j => hj (by rw [← e]; exact his))]) |>.trans (wipe_wipe σ vs), ?_⟩
    refine hr n hm H1 Dl _ H4 hn J (((E.wipe vs).set i (.int n))) (x3.trans x4) vs' _ (e4 _ _ hp3) (hd3.mono x4) (tonlyAll_app td (tonlyAll_flat fun z hz' => ht z (List.mem_of_mem_take hz'))) ?_ _ fun H5 vs5 x5 m5 hp5 hd5 => ⟨(m2.trans ⟨fun a o _ z => e4 a o z, x4.tups⟩).trans m5, x5, vs5, hp5, ?_⟩
    · have : ((ns.take (k + 1)).flatMap es).length ≤ (ns.flatMap es).length := by
        conv => rhs; rw [← List.take_append_drop (k + 1) ns]
        rw [List.flatMap_append, List.length_append]; omega
      rw [tk, List.flatMap_append, List.length_append, List.flatMap_singleton] at this
      rw [List.length_append]; omega
    · rw [tk, List.flatMap_append, List.flatMap_singleton, ← List.append_assoc]; exact hd5
  · have ek : k = ns.length := by omega
    subst ek
    rw [List.take_length] at hd3
    exact .inl ⟨by simpa using stop, q H' vs' x3 ((at_m e2).trans m2) hp3 hd3⟩
/-- [.. for name in ints ..] -/
theorem ed_lcR (ns : List Int) (es : Int → List D) {vs : List Nat} {i : Nat} (hi : ID F K wi ρ (ns.map .int)) (his : i ∈ vs) (hr : ∀ n ∈ ns, RD F K tr ((wipeR ρ vs).set i (some (.int n))) (es n)) (ht : ∀ n ∈ ns, tonlyAll (es n) = true) (hz : (ns.flatMap es).length ≤ 100000) :
    ED F K (tLcR wi (gName i) tr vs) ρ (.list (ns.flatMap es)) := fun σ H J E Q q => hi σ H J E _ fun Jt H1 e1 w1 => fun Dl hD => by
  have J1 := e1.inv J
  have E1 := E.mono e1
  refine ⟨fun k m H' => m = ns.length - k ∧ k ≤ ns.length ∧ Xt F H1 H' ∧ ∃ vs', H' Dl = some (.lst vs') ∧ DqAll F K H' vs' ((ns.take k).flatMap es), ⟨_, rfl, Nat.zero_le _, .new hD, [], upd_same, .nil⟩, ?_⟩
  rintro k m H' ⟨rfl, hk, x3, vs', hp3, hd3⟩
  obtain ⟨go, stop⟩ := w1 H' x3.m
  by_cases hlt : k < ns.length
  · have hx : ns[k]? = some ns[k] := List.getElem?_eq_getElem hlt
    generalize hxe : ns[k] = n at hx
    have hm : n ∈ ns := List.mem_of_getElem? hx
    obtain ⟨g1, g2⟩ := go k (.int n) (by rw [List.getElem?_map, hx]; rfl)
    have tk : ns.take (k + 1) = ns.take k ++ [n] := by rw [List.take_add_one, hx]; rfl
    refine .inr ⟨g1, fun H' => Xt F H1 H' ∧ ∃ vs', H' Dl = some (.lst vs') ∧ DqAll F K H' vs' ((ns.take (k + 1)).flatMap es), fun H4 p4 => ⟨ns.length - (k + 1), by omega, rfl, hlt, p4⟩, fun y H4 hy => ?_⟩
    obtain ⟨e4, q4⟩ := g2 y H4 hy
    rw [q4.int_inv]
    have x4 : Xt F H' H4 := .of e4
    refine ⟨wipe_eq (List.length_set ..) (fun j hj => by rw [List.getElem?_set_ne (fun e : i = j => hj (by rw [← e]; exact his))]) |>.trans (wipe_wipe σ vs), ?_⟩
    refine hr n hm H1 Dl _ H4 hD J1 ((E1.wipe vs).set i (.int n)) (x3.trans x4) vs' _ (e4 _ _ hp3) (hd3.mono x4) (tonlyAll_flat fun z hz' => ht z (List.mem_of_mem_take hz')) ?_ _ fun H5 vs5 x5 m5 hp5 hd5 => ⟨x5, vs5, hp5, ?_⟩
    · have : ((ns.take (k + 1)).flatMap es).length ≤ (ns.flatMap es).length := by
        conv => rhs; rw [← List.take_append_drop (k + 1) ns]
        rw [List.flatMap_append, List.length_append]; omega
      rw [tk, List.flatMap_append, List.length_append, List.flatMap_singleton] at this
      omega
    · rw [tk, List.flatMap_append, List.flatMap_singleton]; exact hd5
  · have ek : k = ns.length := by omega
    subst ek
    rw [List.take_length] at hd3
    exact .inl ⟨by simpa using stop, q _ H' (e1.trans x3) (.lst (Xt.fresh J1 (.refl H1) hD).2 hp3 hd3)⟩
end
end FW
end PartLay10
section PartLayK
set_option Elab.async false
set_option linter.all false
/-! Rules that name K and w: for use within a comprehension. -/
namespace FW
open PySem PySem.Spec PyProof.Rows L2
section
variable {X : Cx} {K : PySem.W.Frag} {w : World} {e tg : Expr} {te to : TE}
theorem ixK (hK : X.K = K) : IxR X (rIx K) := hK ▸ ix_seq
theorem lenK (hK : X.K = K) : CallR X (.builtin "len") (rLenSeq K) := hK ▸ call_len_seq
theorem tupK (hK : X.K = K) : CallR X (.type "tuple") (rTupleOf K) := hK ▸ call_tuple_of
theorem listK (hK : X.K = K) : CallR X (.type "list") (rListOf K) := hK ▸ call_list_of
theorem inK (hK : X.K = K) : OpR X (compareOp .In) (rIn K false) := hK ▸ op_in_seq
theorem notInK (hK : X.K = K) : OpR X (compareOp .NotIn) (rIn K true) := hK ▸ op_notIn_seq
theorem allK (hc : X.calm = true) (hK : X.K = K) : CallR X (.builtin "all") (rAll K) := hK ▸ cr_all hc
theorem eqDK (hu : X.A.units + 64 < cLine) (hK : X.K = K) : OpR X (compareOp .Eq) (rEqD K) := hK ▸ op_eqD hu
theorem neDK (hu : X.A.units + 64 < cLine) (hK : X.K = K) : OpR X (compareOp .NotEq) (rNeD K) := hK ▸ op_neD hu
theorem pi_listK (hK : X.K = K) (h : PE X e te) : PI X tg e (iList K te) := hK ▸ pi_list h
theorem pi_tupK (hK : X.K = K) (h : PE X e te) : PI X tg e (iTup K te) := hK ▸ pi_tup h
theorem pg_tupK (hK : X.K = K) {es : List Expr} {k : Nat} {t : TGs} {n : Nat} {pos : Pos} (hc : X.calm = true) (h : PGs X es t)
    (hn : (assignEach es X.env).length = n := by rfl) (hst : (assignEach es X.env).findIdx? (·.1) = none := by rfl) : PG X (.Tuple es k pos) (gTup K n t) := hK ▸ pg_tup hc h hn hst
theorem in_dtK (hu : X.A.units + 64 < cLine) (hw : X.w = w) (hK : X.K = K) : OpR X (compareOp .In) (rInDt w K false) := hw ▸ hK ▸ op_in_dt hu
theorem notin_dtK (hu : X.A.units + 64 < cLine) (hw : X.w = w) (hK : X.K = K) : OpR X (compareOp .NotIn) (rInDt w K true) := hw ▸ hK ▸ op_notin_dt hu
theorem ix_dtK (hu : X.A.units + 64 < cLine) (hw : X.w = w) (hK : X.K = K) : IxR X (rIxDt w K) := hw ▸ hK ▸ ix_dt hu
theorem pe_bmK {T id : String} {name : Str} {r : PySem.W.Frag → V → List V → Hp → VK → Prop} {o e : Expr} {es : List Expr} {apos cpos : Pos} {t : TA} (hK : X.K = K) (pa : PlainAttrs T) (slot : Slot T name id) (hty : typeOf (.builtin id) = pure (.type "method_descriptor")) (hm : MtR X id (r X.K)) (ho : PE X o to) (ha : PA X (e :: es) t)
    (hbase : attributeBase o name X.env (eval o X.env) = eval o X.env := by rfl)
    (hfew : ((backTo cpos (starEach (e :: es) X.env)).all (fun x => !x.1) && (backToKw cpos (keywordEach [] X.env)).all (fun x => x.1.isSome)
      && decide ((e :: es).length + ([] : List Keyword).length + (if ([] : List Keyword).isEmpty then 0 else 1) < 30)) = true := by rfl)
    (hline : (apos.endLine == cpos.line) = true := by rfl) (hs : starEach (e :: es) X.env = (false, eval e X.env) :: starEach es X.env := by rfl) (hplain : (backTo cpos (starEach es X.env)).any (·.1) = false := by rfl) :
    PE X (.Call (.Attribute o name apos) (e :: es) [] cpos) (tBM K T (r K) to t) := hK ▸ pe_bm pa slot hty hm ho ha hbase hfew hline hs hplain
end
end FW
end PartLayK
section PartHeadA
set_option Elab.async false
set_option linter.all false
set_option maxRecDepth 100000
set_option maxHeartbeats 0
namespace FW
open PySem PySem.Spec PyProof.Rows L2
/-! ### the text -/
def topS (i : Nat) : Stmt := PySem.Challenge.pw_fragweave_k49_whole_tidy_against_trying.main.body.getD i (.Pass ⟨0, 0, 0, 0⟩)
abbrev s_entry_by : Stmt := topS 10
abbrev s_sign_between : Stmt := topS 11
abbrev s_is_taken : Stmt := topS 12
abbrev s_plain_state : Stmt := topS 13
abbrev s_value_state : Stmt := topS 14
abbrev s_told_table : Stmt := topS 15
abbrev s_need_rows : Stmt := topS 22
abbrev s_fits : Stmt := topS 23
abbrev s_first_type : Stmt := topS 25
abbrev s_signs_to : Stmt := topS 26
abbrev s_is_possible : Stmt := topS 27
abbrev s_spots : Stmt := topS 28
abbrev s_letters_of : Stmt := topS 29
abbrev s_ranks_of : Stmt := topS 30
abbrev s_answers_of : Stmt := topS 31
abbrev s_tops_after : Stmt := topS 32
abbrev s_type_after : Stmt := topS 33
abbrev s_need_small : Stmt := topS 38
abbrev s_after_pass : Stmt := topS 39
abbrev s_after_leave : Stmt := topS 40
abbrev s_laters_of : Stmt := topS 41
abbrev s_game_of : Stmt := topS 42
abbrev s_lost_letter : Stmt := topS 43
abbrev s_lost_types : Stmt := topS 44
abbrev s_is_kept : Stmt := topS 45
abbrev s_choices_at : Stmt := topS 46
abbrev s_plan_of : Stmt := topS 47
abbrev s_find_tidy : Stmt := topS 49
abbrev s_l_deck : Stmt := topS 51
abbrev s_l_draw : Stmt := topS 52
abbrev s_l_pick : Stmt := topS 53
abbrev s_l_table : Stmt := topS 54
abbrev s_l_twin : Stmt := topS 55
abbrev s_l_pair : Stmt := topS 56
abbrev s_l_sign : Stmt := topS 57
abbrev s_l_ranks : Stmt := topS 58
abbrev s_l_is_calm : Stmt := topS 59
abbrev s_l_head : Stmt := topS 60
abbrev s_l_number : Stmt := topS 61
abbrev s_l_piece_by : Stmt := topS 62
abbrev s_l_gone_on : Stmt := topS 63
abbrev s_l_moved : Stmt := topS 64
abbrev s_l_is_unlike : Stmt := topS 65
abbrev s_l_beaten : Stmt := topS 66
abbrev s_l_kept : Stmt := topS 67
abbrev s_law : Stmt := topS 68
/-! ### the facts of the top -/
def d_entry_by : He.DefD := ⟨("entry_by", none), "entry_by", "entry_by", defArgs s_entry_by, defBody s_entry_by, defScope s_entry_by, [], []⟩
def d_sign_between : He.DefD := ⟨("sign_between", none), "sign_between", "sign_between", defArgs s_sign_between, defBody s_sign_between, defScope s_sign_between, [], []⟩
def d_is_taken : He.DefD := ⟨("is_taken", none), "is_taken", "is_taken", defArgs s_is_taken, defBody s_is_taken, defScope s_is_taken, [], []⟩
def d_plain_state : He.DefD := ⟨("plain_state", none), "plain_state", "plain_state", defArgs s_plain_state, defBody s_plain_state, defScope s_plain_state, [], []⟩
def d_value_state : He.DefD := ⟨("value_state", none), "value_state", "value_state", defArgs s_value_state, defBody s_value_state, defScope s_value_state, [], []⟩
def d_told_table : He.DefD := ⟨("told_table", none), "told_table", "told_table", defArgs s_told_table, defBody s_told_table, defScope s_told_table, [], []⟩
def d_need_rows : He.DefD := ⟨("need_rows", none), "need_rows", "need_rows", defArgs s_need_rows, defBody s_need_rows, defScope s_need_rows, [.adr (He.dflAt ("need_rows", none) 0)], []⟩
def d_fits : He.DefD := ⟨("fits", none), "fits", "fits", defArgs s_fits, defBody s_fits, defScope s_fits, [], []⟩
def d_first_type : He.DefD := ⟨("first_type", none), "first_type", "first_type", defArgs s_first_type, defBody s_first_type, defScope s_first_type, [], [("rows", .str "all")]⟩
def d_signs_to : He.DefD := ⟨("signs_to", none), "signs_to", "signs_to", defArgs s_signs_to, defBody s_signs_to, defScope s_signs_to, [], []⟩
def d_is_possible : He.DefD := ⟨("is_possible", none), "is_possible", "is_possible", defArgs s_is_possible, defBody s_is_possible, defScope s_is_possible, [], []⟩
def d_spots : He.DefD := ⟨("spots", none), "spots", "spots", defArgs s_spots, defBody s_spots, defScope s_spots, [], []⟩
def d_letters_of : He.DefD := ⟨("letters_of", none), "letters_of", "letters_of", defArgs s_letters_of, defBody s_letters_of, defScope s_letters_of, [], [("rows", .str "all")]⟩
def d_ranks_of : He.DefD := ⟨("ranks_of", none), "ranks_of", "ranks_of", defArgs s_ranks_of, defBody s_ranks_of, defScope s_ranks_of, [], []⟩
def d_answers_of : He.DefD := ⟨("answers_of", none), "answers_of", "answers_of", defArgs s_answers_of, defBody s_answers_of, defScope s_answers_of, [], []⟩
def d_tops_after : He.DefD := ⟨("tops_after", none), "tops_after", "tops_after", defArgs s_tops_after, defBody s_tops_after, defScope s_tops_after, [], []⟩
def d_type_after : He.DefD := ⟨("type_after", none), "type_after", "type_after", defArgs s_type_after, defBody s_type_after, defScope s_type_after, [], []⟩
def d_need_small : He.DefD := ⟨("need_small", none), "need_small", "need_small", defArgs s_need_small, defBody s_need_small, defScope s_need_small, [], []⟩
def d_after_pass : He.DefD := ⟨("after_pass", none), "after_pass", "after_pass", defArgs s_after_pass, defBody s_after_pass, defScope s_after_pass, [], []⟩
def d_after_leave : He.DefD := ⟨("after_leave", none), "after_leave", "after_leave", defArgs s_after_leave, defBody s_after_leave, defScope s_after_leave, [], []⟩
def d_laters_of : He.DefD := ⟨("laters_of", none), "laters_of", "laters_of", defArgs s_laters_of, defBody s_laters_of, defScope s_laters_of, [], []⟩
def d_game_of : He.DefD := ⟨("game_of", none), "game_of", "game_of", defArgs s_game_of, defBody s_game_of, defScope s_game_of, [], []⟩
def d_lost_letter : He.DefD := ⟨("lost_letter", none), "lost_letter", "lost_letter", defArgs s_lost_letter, defBody s_lost_letter, defScope s_lost_letter, [], []⟩
def d_lost_types : He.DefD := ⟨("lost_types", none), "lost_types", "lost_types", defArgs s_lost_types, defBody s_lost_types, defScope s_lost_types, [], []⟩
def d_is_kept : He.DefD := ⟨("is_kept", none), "is_kept", "is_kept", defArgs s_is_kept, defBody s_is_kept, defScope s_is_kept, [], []⟩
def d_choices_at : He.DefD := ⟨("choices_at", none), "choices_at", "choices_at", defArgs s_choices_at, defBody s_choices_at, defScope s_choices_at, [], []⟩
def d_plan_of : He.DefD := ⟨("plan_of", none), "plan_of", "plan_of", defArgs s_plan_of, defBody s_plan_of, defScope s_plan_of, [], []⟩
def d_find_tidy : He.DefD := ⟨("find_tidy", none), "find_tidy", "find_tidy", defArgs s_find_tidy, defBody s_find_tidy, defScope s_find_tidy, [], []⟩
def d_l_deck : He.DefD := ⟨("_law_deck", none), "_law_deck", "_law_deck", defArgs s_l_deck, defBody s_l_deck, defScope s_l_deck, [], []⟩
def d_l_draw : He.DefD := ⟨("_law_draw", none), "_law_draw", "_law_draw", defArgs s_l_draw, defBody s_l_draw, defScope s_l_draw, [], []⟩
def d_l_pick : He.DefD := ⟨("_law_pick", none), "_law_pick", "_law_pick", defArgs s_l_pick, defBody s_l_pick, defScope s_l_pick, [], []⟩
def d_l_table : He.DefD := ⟨("_law_table", none), "_law_table", "_law_table", defArgs s_l_table, defBody s_l_table, defScope s_l_table, [], []⟩
def d_l_twin : He.DefD := ⟨("_law_twin", none), "_law_twin", "_law_twin", defArgs s_l_twin, defBody s_l_twin, defScope s_l_twin, [], []⟩
def d_l_pair : He.DefD := ⟨("_law_pair", none), "_law_pair", "_law_pair", defArgs s_l_pair, defBody s_l_pair, defScope s_l_pair, [], []⟩
def d_l_sign : He.DefD := ⟨("_law_sign", none), "_law_sign", "_law_sign", defArgs s_l_sign, defBody s_l_sign, defScope s_l_sign, [], []⟩
def d_l_ranks : He.DefD := ⟨("_law_ranks", none), "_law_ranks", "_law_ranks", defArgs s_l_ranks, defBody s_l_ranks, defScope s_l_ranks, [], []⟩
def d_l_is_calm : He.DefD := ⟨("_law_is_calm", none), "_law_is_calm", "_law_is_calm", defArgs s_l_is_calm, defBody s_l_is_calm, defScope s_l_is_calm, [], []⟩
def d_l_head : He.DefD := ⟨("_law_head", none), "_law_head", "_law_head", defArgs s_l_head, defBody s_l_head, defScope s_l_head, [], []⟩
def d_l_number : He.DefD := ⟨("_law_number", none), "_law_number", "_law_number", defArgs s_l_number, defBody s_l_number, defScope s_l_number, [], []⟩
def d_l_piece_by : He.DefD := ⟨("_law_piece_by", none), "_law_piece_by", "_law_piece_by", defArgs s_l_piece_by, defBody s_l_piece_by, defScope s_l_piece_by, [], []⟩
def d_l_gone_on : He.DefD := ⟨("_law_gone_on", none), "_law_gone_on", "_law_gone_on", defArgs s_l_gone_on, defBody s_l_gone_on, defScope s_l_gone_on, [], []⟩
def d_l_moved : He.DefD := ⟨("_law_moved", none), "_law_moved", "_law_moved", defArgs s_l_moved, defBody s_l_moved, defScope s_l_moved, [], []⟩
def d_l_is_unlike : He.DefD := ⟨("_law_is_unlike", none), "_law_is_unlike", "_law_is_unlike", defArgs s_l_is_unlike, defBody s_l_is_unlike, defScope s_l_is_unlike, [], []⟩
def d_l_beaten : He.DefD := ⟨("_law_beaten", none), "_law_beaten", "_law_beaten", defArgs s_l_beaten, defBody s_l_beaten, defScope s_l_beaten, [], []⟩
def d_l_kept : He.DefD := ⟨("_law_kept", none), "_law_kept", "_law_kept", defArgs s_l_kept, defBody s_l_kept, defScope s_l_kept, [], []⟩
def d_law : He.DefD := ⟨("law", none), "law", "law", defArgs s_law, defBody s_law, defScope s_law, [], []⟩
def fn : List He.DefD := [d_entry_by, d_sign_between, d_is_taken, d_plain_state, d_value_state, d_told_table, d_need_rows, d_fits, d_first_type, d_signs_to, d_is_possible, d_spots, d_letters_of, d_ranks_of, d_answers_of, d_tops_after, d_type_after, d_need_small, d_after_pass, d_after_leave, d_laters_of, d_game_of, d_lost_letter, d_lost_types, d_is_kept, d_choices_at, d_plan_of, d_find_tidy, d_l_deck, d_l_draw, d_l_pick, d_l_table, d_l_twin, d_l_pair, d_l_sign, d_l_ranks, d_l_is_calm, d_l_head, d_l_number, d_l_piece_by, d_l_gone_on, d_l_moved, d_l_is_unlike, d_l_beaten, d_l_kept, d_law]
def fa : List He.Fa := [.glo "entry_by",
  .glo "sign_between",
  .glo "is_taken",
  .glo "plain_state",
  .glo "value_state",
  .glo "told_table",
  .glo "need_rows",
  .glo "fits",
  .glo "first_type",
  .glo "signs_to",
  .glo "is_possible",
  .glo "spots",
  .glo "letters_of",
  .glo "ranks_of",
  .glo "answers_of",
  .glo "tops_after",
  .glo "type_after",
  .glo "need_small",
  .glo "after_pass",
  .glo "after_leave",
  .glo "laters_of",
  .glo "game_of",
  .glo "lost_letter",
  .glo "lost_types",
  .glo "is_kept",
  .glo "choices_at",
  .glo "plan_of",
  .glo "find_tidy",
  .glo "_law_deck",
  .glo "_law_draw",
  .glo "_law_pick",
  .glo "_law_table",
  .glo "_law_twin",
  .glo "_law_pair",
  .glo "_law_sign",
  .glo "_law_ranks",
  .glo "_law_is_calm",
  .glo "_law_head",
  .glo "_law_number",
  .glo "_law_piece_by",
  .glo "_law_gone_on",
  .glo "_law_moved",
  .glo "_law_is_unlike",
  .glo "_law_beaten",
  .glo "_law_kept",
  .glo "law",
  .str "OLD" "old",
  .str "NEW" "new",
  .str "NESTED" "nested",
  .str "STAIRS" "stairs",
  .str "BEGINS" "begins",
  .str "ENDS" "ends",
  .str "PASS" "pass",
  .str "LEAVE" "leave",
  .int "ENTRIES" 27,
  .int "MOST" 8,
  .free "isinstance",
  .free "str",
  .free "range",
  .free "list",
  .free "tuple",
  .free "sorted",
  .free "set",
  .free "len",
  .free "max",
  .free "enumerate",
  .free "zip",
  .free "int",
  .free "dict",
  .free "abs",
  .free "all",
  .glo "NAMES"]
def namesT : List He.Dv := (["first", "last", "begins", "ends", "cover", "inner", "least", "ranked", "vote", "most"] : List Str).map He.Dv.str
def wordsT : List He.Dv := (["all", "nested", "stairs", "begins", "ends"] : List Str).map He.Dv.str
/-- the tuple at an address -/
def tupAt (K : PySem.W.Frag) (a : Addr) (vs : List He.Dv) : Bool := match K.lookup a with
  | some ⟨.type c, _, .seq its _, _⟩ => decide (c = "tuple") && (decide (its.size ≤ sizeLine) && He.relAll (vs.map (He.Dv.v K)) its.toList)
  | _ => false
theorem tupAt_ok {K : PySem.W.Frag} {a : Addr} {vs : List He.Dv} (h : tupAt K a vs = true) (H : Hp) : SqT K H a (vs.map (He.Dv.v K)) := by
  unfold tupAt at h
  cases q : K.lookup a with
  | none => rw [q] at h; cases h
  | some o =>
    obtain ⟨oc, od, dt, osl⟩ := o
    rw [q] at h
    cases oc with
    | type c =>
      cases dt with
      | seq its n =>
        obtain ⟨h1, h2⟩ := He.ba (show (decide (c = "tuple") && (decide (its.size ≤ sizeLine) && He.relAll (vs.map (He.Dv.v K)) its.toList)) = true from h)
        obtain ⟨h3, h4⟩ := He.ba h2
        exact .inr ⟨_, its, n, q, congrArg Value.type (of_decide_eq_true h1), rfl, of_decide_eq_true h3, He.relAll_ok h4⟩
      | _ => cases h
    | _ => cases dt <;> cases h
def ex (K : PySem.W.Frag) : Bool := He.tupB K "NAMES" namesT && tupAt K (He.dflAt ("need_rows", none) 0 K) wordsT
/-! ### the hook: He.hookD's with one more Bool -/
abbrev AlE : Type := He.AlD × Bool
def obsE (n : Nat) (g : Addr → Option Obj) : AlE := (He.obsD fa fn (He.frG g (He.asD g n)), ex (He.frG g (He.asD g n)))
structure SaysE (K : PySem.W.Frag) : Prop where
  d : He.SaysD fa fn K
  x : ex K = true
def hookE (n : Nat) : PySem.W.Hook where
  α := AlE
  obs := fun s => obsE n s.heap.get?
  val := fun _ => (He.valD fn, true)
  says := fun _ h => ∃ K : PySem.W.Frag, K.In h ∧ SaysE K
  of := fun _ _ e => ⟨_, He.frG_in, congrArg (fun z : AlE => z.1) e, congrArg (fun z : AlE => z.2) e⟩
  keeps := fun _ _ _ ⟨K, hK, c⟩ k => ⟨K, PySem.W.Frag.In.keeps hK k, c⟩
theorem obsE_eq {n : Nat} {g : Addr → Option Obj} {s : Shared} (h : ∀ a, g a = s.heap.get? a) : obsE n g = (hookE n).obs s := by
  have e : g = s.heap.get? := funext h
  rw [e] <;> rfl
abbrev R : PySem.W.OpenRow := PySem.W.OpenLaw.row PySem.Challenge.rw_fragweave_k49_whole_tidy_against_trying
abbrev hk : PySem.W.Hook := hookE 4
def ob (s : PySem.W.SharedT) : AlE := obsE 4 (HandSHeadRun.getT s)
theorem ob_eq (s : PySem.W.SharedT) : ob s = hk.obs s.abs := obsE_eq (HandSHeadRun.getT_eq s)
def looseA : List Str := ["WeaveError", "BadRows", "TooMany", "NoTable", "ENTRIES", "OLD", "NEW", "NAMES", "entry_by", "sign_between", "is_taken", "plain_state", "value_state", "told_table", "ALL", "NESTED", "STAIRS", "BEGINS", "ENDS", "need_rows", "fits", "first_type", "signs_to", "is_possible", "spots", "letters_of", "ranks_of", "answers_of", "tops_after", "type_after", "PASS"]
def looseB : List Str := ["LEAVE", "MOST", "need_small", "after_pass", "after_leave", "laters_of", "game_of", "lost_letter", "lost_types", "is_kept", "choices_at", "plan_of", "find_tidy", "_law_deck", "_law_draw", "_law_pick", "_law_table", "_law_twin", "_law_pair", "_law_sign", "_law_ranks", "_law_is_calm", "_law_head", "_law_number", "_law_piece_by", "_law_gone_on", "_law_moved", "_law_is_unlike", "_law_beaten", "_law_kept"]
end FW
end PartHeadA
section PartHeadB
set_option Elab.async false
set_option linter.all false
set_option maxRecDepth 100000
set_option maxHeartbeats 0
namespace FW
open PySem PySem.Spec PyProof.Rows L2
theorem run (w : World) : HandSHeadRun.RunEq R (PySem.W.view R.prog [68]) hk ob 4000 (looseA ++ looseB) w := by
  intro os
  kernel_rfl
end FW
end PartHeadB
section PartFac
set_option Elab.async false
set_option linter.all false
set_option maxRecDepth 100000
set_option maxHeartbeats 2000000
namespace FW
open PySem PySem.Spec PyProof.Rows L2
/-- what the top's names are -/
structure TT (K : PySem.W.Frag) (mg : Str → Option Value) : Prop where
  at_ : ∃ h : Heap, K.In h ∧ h.Ns mainGlobals mg
  c : SaysE K
section
variable {K : PySem.W.Frag} {mg : Str → Option Value}
theorem TT.d_entry_by (T : TT K mg) : ∃ f fd, FunD K "entry_by" "entry_by" (defArgs s_entry_by) (defBody s_entry_by) (defScope s_entry_by) [] [] f fd ∧ mg "entry_by" = some (.ref f) := by
  obtain ⟨h, X, G⟩ := T.at_
  obtain ⟨fd, F⟩ := T.c.d.def_ 0 (d := FW.d_entry_by) rfl
  exact ⟨_, fd, F, He.glo_ok X G (T.c.d.fact 0 (f := .glo "entry_by") rfl)⟩
theorem TT.d_sign_between (T : TT K mg) : ∃ f fd, FunD K "sign_between" "sign_between" (defArgs s_sign_between) (defBody s_sign_between) (defScope s_sign_between) [] [] f fd ∧ mg "sign_between" = some (.ref f) := by
  obtain ⟨h, X, G⟩ := T.at_
  obtain ⟨fd, F⟩ := T.c.d.def_ 1 (d := FW.d_sign_between) rfl
  exact ⟨_, fd, F, He.glo_ok X G (T.c.d.fact 1 (f := .glo "sign_between") rfl)⟩
theorem TT.d_is_taken (T : TT K mg) : ∃ f fd, FunD K "is_taken" "is_taken" (defArgs s_is_taken) (defBody s_is_taken) (defScope s_is_taken) [] [] f fd ∧ mg "is_taken" = some (.ref f) := by
  obtain ⟨h, X, G⟩ := T.at_
  obtain ⟨fd, F⟩ := T.c.d.def_ 2 (d := FW.d_is_taken) rfl
  exact ⟨_, fd, F, He.glo_ok X G (T.c.d.fact 2 (f := .glo "is_taken") rfl)⟩
theorem TT.d_plain_state (T : TT K mg) : ∃ f fd, FunD K "plain_state" "plain_state" (defArgs s_plain_state) (defBody s_plain_state) (defScope s_plain_state) [] [] f fd ∧ mg "plain_state" = some (.ref f) := by
  obtain ⟨h, X, G⟩ := T.at_
  obtain ⟨fd, F⟩ := T.c.d.def_ 3 (d := FW.d_plain_state) rfl
  exact ⟨_, fd, F, He.glo_ok X G (T.c.d.fact 3 (f := .glo "plain_state") rfl)⟩
theorem TT.d_value_state (T : TT K mg) : ∃ f fd, FunD K "value_state" "value_state" (defArgs s_value_state) (defBody s_value_state) (defScope s_value_state) [] [] f fd ∧ mg "value_state" = some (.ref f) := by
  obtain ⟨h, X, G⟩ := T.at_
  obtain ⟨fd, F⟩ := T.c.d.def_ 4 (d := FW.d_value_state) rfl
  exact ⟨_, fd, F, He.glo_ok X G (T.c.d.fact 4 (f := .glo "value_state") rfl)⟩
theorem TT.d_told_table (T : TT K mg) : ∃ f fd, FunD K "told_table" "told_table" (defArgs s_told_table) (defBody s_told_table) (defScope s_told_table) [] [] f fd ∧ mg "told_table" = some (.ref f) := by
  obtain ⟨h, X, G⟩ := T.at_
  obtain ⟨fd, F⟩ := T.c.d.def_ 5 (d := FW.d_told_table) rfl
  exact ⟨_, fd, F, He.glo_ok X G (T.c.d.fact 5 (f := .glo "told_table") rfl)⟩
theorem TT.d_need_rows (T : TT K mg) : ∃ f fd, FunD K "need_rows" "need_rows" (defArgs s_need_rows) (defBody s_need_rows) (defScope s_need_rows) [.ref (He.dflAt ("need_rows", none) 0 K)] [] f fd ∧ mg "need_rows" = some (.ref f) := by
  obtain ⟨h, X, G⟩ := T.at_
  obtain ⟨fd, F⟩ := T.c.d.def_ 6 (d := FW.d_need_rows) rfl
  exact ⟨_, fd, F, He.glo_ok X G (T.c.d.fact 6 (f := .glo "need_rows") rfl)⟩
theorem TT.d_fits (T : TT K mg) : ∃ f fd, FunD K "fits" "fits" (defArgs s_fits) (defBody s_fits) (defScope s_fits) [] [] f fd ∧ mg "fits" = some (.ref f) := by
  obtain ⟨h, X, G⟩ := T.at_
  obtain ⟨fd, F⟩ := T.c.d.def_ 7 (d := FW.d_fits) rfl
  exact ⟨_, fd, F, He.glo_ok X G (T.c.d.fact 7 (f := .glo "fits") rfl)⟩
theorem TT.d_first_type (T : TT K mg) : ∃ f fd, FunD K "first_type" "first_type" (defArgs s_first_type) (defBody s_first_type) (defScope s_first_type) [] [("rows", .str "all")] f fd ∧ mg "first_type" = some (.ref f) := by
  obtain ⟨h, X, G⟩ := T.at_
  obtain ⟨fd, F⟩ := T.c.d.def_ 8 (d := FW.d_first_type) rfl
  exact ⟨_, fd, F, He.glo_ok X G (T.c.d.fact 8 (f := .glo "first_type") rfl)⟩
theorem TT.d_signs_to (T : TT K mg) : ∃ f fd, FunD K "signs_to" "signs_to" (defArgs s_signs_to) (defBody s_signs_to) (defScope s_signs_to) [] [] f fd ∧ mg "signs_to" = some (.ref f) := by
  obtain ⟨h, X, G⟩ := T.at_
  obtain ⟨fd, F⟩ := T.c.d.def_ 9 (d := FW.d_signs_to) rfl
  exact ⟨_, fd, F, He.glo_ok X G (T.c.d.fact 9 (f := .glo "signs_to") rfl)⟩
theorem TT.d_is_possible (T : TT K mg) : ∃ f fd, FunD K "is_possible" "is_possible" (defArgs s_is_possible) (defBody s_is_possible) (defScope s_is_possible) [] [] f fd ∧ mg "is_possible" = some (.ref f) := by
  obtain ⟨h, X, G⟩ := T.at_
  obtain ⟨fd, F⟩ := T.c.d.def_ 10 (d := FW.d_is_possible) rfl
  exact ⟨_, fd, F, He.glo_ok X G (T.c.d.fact 10 (f := .glo "is_possible") rfl)⟩
theorem TT.d_spots (T : TT K mg) : ∃ f fd, FunD K "spots" "spots" (defArgs s_spots) (defBody s_spots) (defScope s_spots) [] [] f fd ∧ mg "spots" = some (.ref f) := by
  obtain ⟨h, X, G⟩ := T.at_
  obtain ⟨fd, F⟩ := T.c.d.def_ 11 (d := FW.d_spots) rfl
  exact ⟨_, fd, F, He.glo_ok X G (T.c.d.fact 11 (f := .glo "spots") rfl)⟩
theorem TT.d_letters_of (T : TT K mg) : ∃ f fd, FunD K "letters_of" "letters_of" (defArgs s_letters_of) (defBody s_letters_of) (defScope s_letters_of) [] [("rows", .str "all")] f fd ∧ mg "letters_of" = some (.ref f) := by
  obtain ⟨h, X, G⟩ := T.at_
  obtain ⟨fd, F⟩ := T.c.d.def_ 12 (d := FW.d_letters_of) rfl
  exact ⟨_, fd, F, He.glo_ok X G (T.c.d.fact 12 (f := .glo "letters_of") rfl)⟩
theorem TT.d_ranks_of (T : TT K mg) : ∃ f fd, FunD K "ranks_of" "ranks_of" (defArgs s_ranks_of) (defBody s_ranks_of) (defScope s_ranks_of) [] [] f fd ∧ mg "ranks_of" = some (.ref f) := by
  obtain ⟨h, X, G⟩ := T.at_
  obtain ⟨fd, F⟩ := T.c.d.def_ 13 (d := FW.d_ranks_of) rfl
  exact ⟨_, fd, F, He.glo_ok X G (T.c.d.fact 13 (f := .glo "ranks_of") rfl)⟩
theorem TT.d_answers_of (T : TT K mg) : ∃ f fd, FunD K "answers_of" "answers_of" (defArgs s_answers_of) (defBody s_answers_of) (defScope s_answers_of) [] [] f fd ∧ mg "answers_of" = some (.ref f) := by
  obtain ⟨h, X, G⟩ := T.at_
  obtain ⟨fd, F⟩ := T.c.d.def_ 14 (d := FW.d_answers_of) rfl
  exact ⟨_, fd, F, He.glo_ok X G (T.c.d.fact 14 (f := .glo "answers_of") rfl)⟩
theorem TT.d_tops_after (T : TT K mg) : ∃ f fd, FunD K "tops_after" "tops_after" (defArgs s_tops_after) (defBody s_tops_after) (defScope s_tops_after) [] [] f fd ∧ mg "tops_after" = some (.ref f) := by
  obtain ⟨h, X, G⟩ := T.at_
  obtain ⟨fd, F⟩ := T.c.d.def_ 15 (d := FW.d_tops_after) rfl
  exact ⟨_, fd, F, He.glo_ok X G (T.c.d.fact 15 (f := .glo "tops_after") rfl)⟩
theorem TT.d_type_after (T : TT K mg) : ∃ f fd, FunD K "type_after" "type_after" (defArgs s_type_after) (defBody s_type_after) (defScope s_type_after) [] [] f fd ∧ mg "type_after" = some (.ref f) := by
  obtain ⟨h, X, G⟩ := T.at_
  obtain ⟨fd, F⟩ := T.c.d.def_ 16 (d := FW.d_type_after) rfl
  exact ⟨_, fd, F, He.glo_ok X G (T.c.d.fact 16 (f := .glo "type_after") rfl)⟩
theorem TT.d_need_small (T : TT K mg) : ∃ f fd, FunD K "need_small" "need_small" (defArgs s_need_small) (defBody s_need_small) (defScope s_need_small) [] [] f fd ∧ mg "need_small" = some (.ref f) := by
  obtain ⟨h, X, G⟩ := T.at_
  obtain ⟨fd, F⟩ := T.c.d.def_ 17 (d := FW.d_need_small) rfl
  exact ⟨_, fd, F, He.glo_ok X G (T.c.d.fact 17 (f := .glo "need_small") rfl)⟩
theorem TT.d_after_pass (T : TT K mg) : ∃ f fd, FunD K "after_pass" "after_pass" (defArgs s_after_pass) (defBody s_after_pass) (defScope s_after_pass) [] [] f fd ∧ mg "after_pass" = some (.ref f) := by
  obtain ⟨h, X, G⟩ := T.at_
  obtain ⟨fd, F⟩ := T.c.d.def_ 18 (d := FW.d_after_pass) rfl
  exact ⟨_, fd, F, He.glo_ok X G (T.c.d.fact 18 (f := .glo "after_pass") rfl)⟩
theorem TT.d_after_leave (T : TT K mg) : ∃ f fd, FunD K "after_leave" "after_leave" (defArgs s_after_leave) (defBody s_after_leave) (defScope s_after_leave) [] [] f fd ∧ mg "after_leave" = some (.ref f) := by
  obtain ⟨h, X, G⟩ := T.at_
  obtain ⟨fd, F⟩ := T.c.d.def_ 19 (d := FW.d_after_leave) rfl
  exact ⟨_, fd, F, He.glo_ok X G (T.c.d.fact 19 (f := .glo "after_leave") rfl)⟩
theorem TT.d_laters_of (T : TT K mg) : ∃ f fd, FunD K "laters_of" "laters_of" (defArgs s_laters_of) (defBody s_laters_of) (defScope s_laters_of) [] [] f fd ∧ mg "laters_of" = some (.ref f) := by
  obtain ⟨h, X, G⟩ := T.at_
  obtain ⟨fd, F⟩ := T.c.d.def_ 20 (d := FW.d_laters_of) rfl
  exact ⟨_, fd, F, He.glo_ok X G (T.c.d.fact 20 (f := .glo "laters_of") rfl)⟩
theorem TT.d_game_of (T : TT K mg) : ∃ f fd, FunD K "game_of" "game_of" (defArgs s_game_of) (defBody s_game_of) (defScope s_game_of) [] [] f fd ∧ mg "game_of" = some (.ref f) := by
  obtain ⟨h, X, G⟩ := T.at_
  obtain ⟨fd, F⟩ := T.c.d.def_ 21 (d := FW.d_game_of) rfl
  exact ⟨_, fd, F, He.glo_ok X G (T.c.d.fact 21 (f := .glo "game_of") rfl)⟩
theorem TT.d_lost_letter (T : TT K mg) : ∃ f fd, FunD K "lost_letter" "lost_letter" (defArgs s_lost_letter) (defBody s_lost_letter) (defScope s_lost_letter) [] [] f fd ∧ mg "lost_letter" = some (.ref f) := by
  obtain ⟨h, X, G⟩ := T.at_
  obtain ⟨fd, F⟩ := T.c.d.def_ 22 (d := FW.d_lost_letter) rfl
  exact ⟨_, fd, F, He.glo_ok X G (T.c.d.fact 22 (f := .glo "lost_letter") rfl)⟩
theorem TT.d_lost_types (T : TT K mg) : ∃ f fd, FunD K "lost_types" "lost_types" (defArgs s_lost_types) (defBody s_lost_types) (defScope s_lost_types) [] [] f fd ∧ mg "lost_types" = some (.ref f) := by
  obtain ⟨h, X, G⟩ := T.at_
  obtain ⟨fd, F⟩ := T.c.d.def_ 23 (d := FW.d_lost_types) rfl
  exact ⟨_, fd, F, He.glo_ok X G (T.c.d.fact 23 (f := .glo "lost_types") rfl)⟩
theorem TT.d_is_kept (T : TT K mg) : ∃ f fd, FunD K "is_kept" "is_kept" (defArgs s_is_kept) (defBody s_is_kept) (defScope s_is_kept) [] [] f fd ∧ mg "is_kept" = some (.ref f) := by
  obtain ⟨h, X, G⟩ := T.at_
  obtain ⟨fd, F⟩ := T.c.d.def_ 24 (d := FW.d_is_kept) rfl
  exact ⟨_, fd, F, He.glo_ok X G (T.c.d.fact 24 (f := .glo "is_kept") rfl)⟩
theorem TT.d_choices_at (T : TT K mg) : ∃ f fd, FunD K "choices_at" "choices_at" (defArgs s_choices_at) (defBody s_choices_at) (defScope s_choices_at) [] [] f fd ∧ mg "choices_at" = some (.ref f) := by
  obtain ⟨h, X, G⟩ := T.at_
  obtain ⟨fd, F⟩ := T.c.d.def_ 25 (d := FW.d_choices_at) rfl
  exact ⟨_, fd, F, He.glo_ok X G (T.c.d.fact 25 (f := .glo "choices_at") rfl)⟩
theorem TT.d_plan_of (T : TT K mg) : ∃ f fd, FunD K "plan_of" "plan_of" (defArgs s_plan_of) (defBody s_plan_of) (defScope s_plan_of) [] [] f fd ∧ mg "plan_of" = some (.ref f) := by
  obtain ⟨h, X, G⟩ := T.at_
  obtain ⟨fd, F⟩ := T.c.d.def_ 26 (d := FW.d_plan_of) rfl
  exact ⟨_, fd, F, He.glo_ok X G (T.c.d.fact 26 (f := .glo "plan_of") rfl)⟩
theorem TT.d_find_tidy (T : TT K mg) : ∃ f fd, FunD K "find_tidy" "find_tidy" (defArgs s_find_tidy) (defBody s_find_tidy) (defScope s_find_tidy) [] [] f fd ∧ mg "find_tidy" = some (.ref f) := by
  obtain ⟨h, X, G⟩ := T.at_
  obtain ⟨fd, F⟩ := T.c.d.def_ 27 (d := FW.d_find_tidy) rfl
  exact ⟨_, fd, F, He.glo_ok X G (T.c.d.fact 27 (f := .glo "find_tidy") rfl)⟩
theorem TT.d_l_deck (T : TT K mg) : ∃ f fd, FunD K "_law_deck" "_law_deck" (defArgs s_l_deck) (defBody s_l_deck) (defScope s_l_deck) [] [] f fd ∧ mg "_law_deck" = some (.ref f) := by
  obtain ⟨h, X, G⟩ := T.at_
  obtain ⟨fd, F⟩ := T.c.d.def_ 28 (d := FW.d_l_deck) rfl
  exact ⟨_, fd, F, He.glo_ok X G (T.c.d.fact 28 (f := .glo "_law_deck") rfl)⟩
theorem TT.d_l_draw (T : TT K mg) : ∃ f fd, FunD K "_law_draw" "_law_draw" (defArgs s_l_draw) (defBody s_l_draw) (defScope s_l_draw) [] [] f fd ∧ mg "_law_draw" = some (.ref f) := by
  obtain ⟨h, X, G⟩ := T.at_
  obtain ⟨fd, F⟩ := T.c.d.def_ 29 (d := FW.d_l_draw) rfl
  exact ⟨_, fd, F, He.glo_ok X G (T.c.d.fact 29 (f := .glo "_law_draw") rfl)⟩
theorem TT.d_l_pick (T : TT K mg) : ∃ f fd, FunD K "_law_pick" "_law_pick" (defArgs s_l_pick) (defBody s_l_pick) (defScope s_l_pick) [] [] f fd ∧ mg "_law_pick" = some (.ref f) := by
  obtain ⟨h, X, G⟩ := T.at_
  obtain ⟨fd, F⟩ := T.c.d.def_ 30 (d := FW.d_l_pick) rfl
  exact ⟨_, fd, F, He.glo_ok X G (T.c.d.fact 30 (f := .glo "_law_pick") rfl)⟩
theorem TT.d_l_table (T : TT K mg) : ∃ f fd, FunD K "_law_table" "_law_table" (defArgs s_l_table) (defBody s_l_table) (defScope s_l_table) [] [] f fd ∧ mg "_law_table" = some (.ref f) := by
  obtain ⟨h, X, G⟩ := T.at_
  obtain ⟨fd, F⟩ := T.c.d.def_ 31 (d := FW.d_l_table) rfl
  exact ⟨_, fd, F, He.glo_ok X G (T.c.d.fact 31 (f := .glo "_law_table") rfl)⟩
theorem TT.d_l_twin (T : TT K mg) : ∃ f fd, FunD K "_law_twin" "_law_twin" (defArgs s_l_twin) (defBody s_l_twin) (defScope s_l_twin) [] [] f fd ∧ mg "_law_twin" = some (.ref f) := by
  obtain ⟨h, X, G⟩ := T.at_
  obtain ⟨fd, F⟩ := T.c.d.def_ 32 (d := FW.d_l_twin) rfl
  exact ⟨_, fd, F, He.glo_ok X G (T.c.d.fact 32 (f := .glo "_law_twin") rfl)⟩
theorem TT.d_l_pair (T : TT K mg) : ∃ f fd, FunD K "_law_pair" "_law_pair" (defArgs s_l_pair) (defBody s_l_pair) (defScope s_l_pair) [] [] f fd ∧ mg "_law_pair" = some (.ref f) := by
  obtain ⟨h, X, G⟩ := T.at_
  obtain ⟨fd, F⟩ := T.c.d.def_ 33 (d := FW.d_l_pair) rfl
  exact ⟨_, fd, F, He.glo_ok X G (T.c.d.fact 33 (f := .glo "_law_pair") rfl)⟩
theorem TT.d_l_sign (T : TT K mg) : ∃ f fd, FunD K "_law_sign" "_law_sign" (defArgs s_l_sign) (defBody s_l_sign) (defScope s_l_sign) [] [] f fd ∧ mg "_law_sign" = some (.ref f) := by
  obtain ⟨h, X, G⟩ := T.at_
  obtain ⟨fd, F⟩ := T.c.d.def_ 34 (d := FW.d_l_sign) rfl
  exact ⟨_, fd, F, He.glo_ok X G (T.c.d.fact 34 (f := .glo "_law_sign") rfl)⟩
theorem TT.d_l_ranks (T : TT K mg) : ∃ f fd, FunD K "_law_ranks" "_law_ranks" (defArgs s_l_ranks) (defBody s_l_ranks) (defScope s_l_ranks) [] [] f fd ∧ mg "_law_ranks" = some (.ref f) := by
  obtain ⟨h, X, G⟩ := T.at_
  obtain ⟨fd, F⟩ := T.c.d.def_ 35 (d := FW.d_l_ranks) rfl
  exact ⟨_, fd, F, He.glo_ok X G (T.c.d.fact 35 (f := .glo "_law_ranks") rfl)⟩
theorem TT.d_l_is_calm (T : TT K mg) : ∃ f fd, FunD K "_law_is_calm" "_law_is_calm" (defArgs s_l_is_calm) (defBody s_l_is_calm) (defScope s_l_is_calm) [] [] f fd ∧ mg "_law_is_calm" = some (.ref f) := by
  obtain ⟨h, X, G⟩ := T.at_
  obtain ⟨fd, F⟩ := T.c.d.def_ 36 (d := FW.d_l_is_calm) rfl
  exact ⟨_, fd, F, He.glo_ok X G (T.c.d.fact 36 (f := .glo "_law_is_calm") rfl)⟩
theorem TT.d_l_head (T : TT K mg) : ∃ f fd, FunD K "_law_head" "_law_head" (defArgs s_l_head) (defBody s_l_head) (defScope s_l_head) [] [] f fd ∧ mg "_law_head" = some (.ref f) := by
  obtain ⟨h, X, G⟩ := T.at_
  obtain ⟨fd, F⟩ := T.c.d.def_ 37 (d := FW.d_l_head) rfl
  exact ⟨_, fd, F, He.glo_ok X G (T.c.d.fact 37 (f := .glo "_law_head") rfl)⟩
theorem TT.d_l_number (T : TT K mg) : ∃ f fd, FunD K "_law_number" "_law_number" (defArgs s_l_number) (defBody s_l_number) (defScope s_l_number) [] [] f fd ∧ mg "_law_number" = some (.ref f) := by
  obtain ⟨h, X, G⟩ := T.at_
  obtain ⟨fd, F⟩ := T.c.d.def_ 38 (d := FW.d_l_number) rfl
  exact ⟨_, fd, F, He.glo_ok X G (T.c.d.fact 38 (f := .glo "_law_number") rfl)⟩
theorem TT.d_l_piece_by (T : TT K mg) : ∃ f fd, FunD K "_law_piece_by" "_law_piece_by" (defArgs s_l_piece_by) (defBody s_l_piece_by) (defScope s_l_piece_by) [] [] f fd ∧ mg "_law_piece_by" = some (.ref f) := by
  obtain ⟨h, X, G⟩ := T.at_
  obtain ⟨fd, F⟩ := T.c.d.def_ 39 (d := FW.d_l_piece_by) rfl
  exact ⟨_, fd, F, He.glo_ok X G (T.c.d.fact 39 (f := .glo "_law_piece_by") rfl)⟩
theorem TT.d_l_gone_on (T : TT K mg) : ∃ f fd, FunD K "_law_gone_on" "_law_gone_on" (defArgs s_l_gone_on) (defBody s_l_gone_on) (defScope s_l_gone_on) [] [] f fd ∧ mg "_law_gone_on" = some (.ref f) := by
  obtain ⟨h, X, G⟩ := T.at_
  obtain ⟨fd, F⟩ := T.c.d.def_ 40 (d := FW.d_l_gone_on) rfl
  exact ⟨_, fd, F, He.glo_ok X G (T.c.d.fact 40 (f := .glo "_law_gone_on") rfl)⟩
theorem TT.d_l_moved (T : TT K mg) : ∃ f fd, FunD K "_law_moved" "_law_moved" (defArgs s_l_moved) (defBody s_l_moved) (defScope s_l_moved) [] [] f fd ∧ mg "_law_moved" = some (.ref f) := by
  obtain ⟨h, X, G⟩ := T.at_
  obtain ⟨fd, F⟩ := T.c.d.def_ 41 (d := FW.d_l_moved) rfl
  exact ⟨_, fd, F, He.glo_ok X G (T.c.d.fact 41 (f := .glo "_law_moved") rfl)⟩
theorem TT.d_l_is_unlike (T : TT K mg) : ∃ f fd, FunD K "_law_is_unlike" "_law_is_unlike" (defArgs s_l_is_unlike) (defBody s_l_is_unlike) (defScope s_l_is_unlike) [] [] f fd ∧ mg "_law_is_unlike" = some (.ref f) := by
  obtain ⟨h, X, G⟩ := T.at_
  obtain ⟨fd, F⟩ := T.c.d.def_ 42 (d := FW.d_l_is_unlike) rfl
  exact ⟨_, fd, F, He.glo_ok X G (T.c.d.fact 42 (f := .glo "_law_is_unlike") rfl)⟩
theorem TT.d_l_beaten (T : TT K mg) : ∃ f fd, FunD K "_law_beaten" "_law_beaten" (defArgs s_l_beaten) (defBody s_l_beaten) (defScope s_l_beaten) [] [] f fd ∧ mg "_law_beaten" = some (.ref f) := by
  obtain ⟨h, X, G⟩ := T.at_
  obtain ⟨fd, F⟩ := T.c.d.def_ 43 (d := FW.d_l_beaten) rfl
  exact ⟨_, fd, F, He.glo_ok X G (T.c.d.fact 43 (f := .glo "_law_beaten") rfl)⟩
theorem TT.d_l_kept (T : TT K mg) : ∃ f fd, FunD K "_law_kept" "_law_kept" (defArgs s_l_kept) (defBody s_l_kept) (defScope s_l_kept) [] [] f fd ∧ mg "_law_kept" = some (.ref f) := by
  obtain ⟨h, X, G⟩ := T.at_
  obtain ⟨fd, F⟩ := T.c.d.def_ 44 (d := FW.d_l_kept) rfl
  exact ⟨_, fd, F, He.glo_ok X G (T.c.d.fact 44 (f := .glo "_law_kept") rfl)⟩
theorem TT.d_law (T : TT K mg) : ∃ f fd, FunD K "law" "law" (defArgs s_law) (defBody s_law) (defScope s_law) [] [] f fd ∧ mg "law" = some (.ref f) := by
  obtain ⟨h, X, G⟩ := T.at_
  obtain ⟨fd, F⟩ := T.c.d.def_ 45 (d := FW.d_law) rfl
  exact ⟨_, fd, F, He.glo_ok X G (T.c.d.fact 45 (f := .glo "law") rfl)⟩
theorem TT.g_OLD (T : TT K mg) : ∃ u, mg "OLD" = some u ∧ RelV (.str "old") u := by
  obtain ⟨h, X, G⟩ := T.at_
  obtain ⟨t, e⟩ := He.str_ok X G (T.c.d.fact 46 (f := .str "OLD" "old") rfl)
  exact ⟨_, e, t, rfl⟩
theorem TT.g_NEW (T : TT K mg) : ∃ u, mg "NEW" = some u ∧ RelV (.str "new") u := by
  obtain ⟨h, X, G⟩ := T.at_
  obtain ⟨t, e⟩ := He.str_ok X G (T.c.d.fact 47 (f := .str "NEW" "new") rfl)
  exact ⟨_, e, t, rfl⟩
theorem TT.g_NESTED (T : TT K mg) : ∃ u, mg "NESTED" = some u ∧ RelV (.str "nested") u := by
  obtain ⟨h, X, G⟩ := T.at_
  obtain ⟨t, e⟩ := He.str_ok X G (T.c.d.fact 48 (f := .str "NESTED" "nested") rfl)
  exact ⟨_, e, t, rfl⟩
theorem TT.g_STAIRS (T : TT K mg) : ∃ u, mg "STAIRS" = some u ∧ RelV (.str "stairs") u := by
  obtain ⟨h, X, G⟩ := T.at_
  obtain ⟨t, e⟩ := He.str_ok X G (T.c.d.fact 49 (f := .str "STAIRS" "stairs") rfl)
  exact ⟨_, e, t, rfl⟩
theorem TT.g_BEGINS (T : TT K mg) : ∃ u, mg "BEGINS" = some u ∧ RelV (.str "begins") u := by
  obtain ⟨h, X, G⟩ := T.at_
  obtain ⟨t, e⟩ := He.str_ok X G (T.c.d.fact 50 (f := .str "BEGINS" "begins") rfl)
  exact ⟨_, e, t, rfl⟩
theorem TT.g_ENDS (T : TT K mg) : ∃ u, mg "ENDS" = some u ∧ RelV (.str "ends") u := by
  obtain ⟨h, X, G⟩ := T.at_
  obtain ⟨t, e⟩ := He.str_ok X G (T.c.d.fact 51 (f := .str "ENDS" "ends") rfl)
  exact ⟨_, e, t, rfl⟩
theorem TT.g_PASS (T : TT K mg) : ∃ u, mg "PASS" = some u ∧ RelV (.str "pass") u := by
  obtain ⟨h, X, G⟩ := T.at_
  obtain ⟨t, e⟩ := He.str_ok X G (T.c.d.fact 52 (f := .str "PASS" "pass") rfl)
  exact ⟨_, e, t, rfl⟩
theorem TT.g_LEAVE (T : TT K mg) : ∃ u, mg "LEAVE" = some u ∧ RelV (.str "leave") u := by
  obtain ⟨h, X, G⟩ := T.at_
  obtain ⟨t, e⟩ := He.str_ok X G (T.c.d.fact 53 (f := .str "LEAVE" "leave") rfl)
  exact ⟨_, e, t, rfl⟩
theorem TT.g_ENTRIES (T : TT K mg) : ∃ u, mg "ENTRIES" = some u ∧ RelV (.int 27) u := by
  obtain ⟨h, X, G⟩ := T.at_
  obtain ⟨t, e⟩ := He.int_ok X G (T.c.d.fact 54 (f := .int "ENTRIES" 27) rfl)
  exact ⟨_, e, t, rfl⟩
theorem TT.g_MOST (T : TT K mg) : ∃ u, mg "MOST" = some u ∧ RelV (.int 8) u := by
  obtain ⟨h, X, G⟩ := T.at_
  obtain ⟨t, e⟩ := He.int_ok X G (T.c.d.fact 55 (f := .int "MOST" 8) rfl)
  exact ⟨_, e, t, rfl⟩
theorem TT.n_isinstance (T : TT K mg) : mg "isinstance" = none := by
  obtain ⟨h, X, G⟩ := T.at_
  exact He.free_ok X G (T.c.d.fact 56 (f := .free "isinstance") rfl)
theorem TT.n_str (T : TT K mg) : mg "str" = none := by
  obtain ⟨h, X, G⟩ := T.at_
  exact He.free_ok X G (T.c.d.fact 57 (f := .free "str") rfl)
theorem TT.n_range (T : TT K mg) : mg "range" = none := by
  obtain ⟨h, X, G⟩ := T.at_
  exact He.free_ok X G (T.c.d.fact 58 (f := .free "range") rfl)
theorem TT.n_list (T : TT K mg) : mg "list" = none := by
  obtain ⟨h, X, G⟩ := T.at_
  exact He.free_ok X G (T.c.d.fact 59 (f := .free "list") rfl)
theorem TT.n_tuple (T : TT K mg) : mg "tuple" = none := by
  obtain ⟨h, X, G⟩ := T.at_
  exact He.free_ok X G (T.c.d.fact 60 (f := .free "tuple") rfl)
theorem TT.n_sorted (T : TT K mg) : mg "sorted" = none := by
  obtain ⟨h, X, G⟩ := T.at_
  exact He.free_ok X G (T.c.d.fact 61 (f := .free "sorted") rfl)
theorem TT.n_set (T : TT K mg) : mg "set" = none := by
  obtain ⟨h, X, G⟩ := T.at_
  exact He.free_ok X G (T.c.d.fact 62 (f := .free "set") rfl)
theorem TT.n_len (T : TT K mg) : mg "len" = none := by
  obtain ⟨h, X, G⟩ := T.at_
  exact He.free_ok X G (T.c.d.fact 63 (f := .free "len") rfl)
theorem TT.n_max (T : TT K mg) : mg "max" = none := by
  obtain ⟨h, X, G⟩ := T.at_
  exact He.free_ok X G (T.c.d.fact 64 (f := .free "max") rfl)
theorem TT.n_enumerate (T : TT K mg) : mg "enumerate" = none := by
  obtain ⟨h, X, G⟩ := T.at_
  exact He.free_ok X G (T.c.d.fact 65 (f := .free "enumerate") rfl)
theorem TT.n_zip (T : TT K mg) : mg "zip" = none := by
  obtain ⟨h, X, G⟩ := T.at_
  exact He.free_ok X G (T.c.d.fact 66 (f := .free "zip") rfl)
theorem TT.n_int (T : TT K mg) : mg "int" = none := by
  obtain ⟨h, X, G⟩ := T.at_
  exact He.free_ok X G (T.c.d.fact 67 (f := .free "int") rfl)
theorem TT.n_dict (T : TT K mg) : mg "dict" = none := by
  obtain ⟨h, X, G⟩ := T.at_
  exact He.free_ok X G (T.c.d.fact 68 (f := .free "dict") rfl)
theorem TT.n_abs (T : TT K mg) : mg "abs" = none := by
  obtain ⟨h, X, G⟩ := T.at_
  exact He.free_ok X G (T.c.d.fact 69 (f := .free "abs") rfl)
theorem TT.n_all (T : TT K mg) : mg "all" = none := by
  obtain ⟨h, X, G⟩ := T.at_
  exact He.free_ok X G (T.c.d.fact 70 (f := .free "all") rfl)
theorem TT.g_NAMES (T : TT K mg) : ∃ u, mg "NAMES" = some u ∧ RelV (.ref (He.ga K "NAMES")) u := by
  obtain ⟨h, X, G⟩ := T.at_
  exact ⟨_, He.glo_ok X G (T.c.d.fact 71 (f := .glo "NAMES") rfl), rfl⟩
theorem TT.namesT (T : TT K mg) (H : Hp) : SqT K H (He.ga K "NAMES") ((["first", "last", "begins", "ends", "cover", "inner", "least", "ranked", "vote", "most"] : List Str).map V.str) := He.tupB_ok (He.ba T.c.x).1 H
theorem TT.wordsT (T : TT K mg) (H : Hp) : SqT K H (He.dflAt ("need_rows", none) 0 K) ((["all", "nested", "stairs", "begins", "ends"] : List Str).map V.str) := tupAt_ok (He.ba T.c.x).2 H
end
end FW
end PartFac
section PartEnc
set_option Elab.async false
set_option linter.all false
/-! What the program's values stand for. -/
namespace FW
open PySem PySem.Spec PyProof.Rows L2
abbrev eN (n : Nat) : D := .int (n : Int)
abbrev eNs (l : List Nat) : D := .tuple (l.map eN)
abbrev eWho (b : Bool) : Str := if b then "new" else "old"
abbrev eEnt (e : Ent) : D := .tuple [.str (eWho e.1), eN e.2]
abbrev eSt (q : List Ent) : D := .tuple (q.map eEnt)
abbrev eTab (t : Tab) : D := .tuple (t.map eSt)
abbrev eTabs (ts : List Tab) : D := .tuple (ts.map eTab)
abbrev eLet (l : Let) : D := .tuple [eN l.1, eN l.2.1, eN l.2.2]
abbrev eTy (ty : Ty) : D := .tuple [eNs (sts ty), eNs (bgs ty), eNs (ens ty), .tuple []]
abbrev eOpt (o : Option Ty) : D := match o with | none => .none | some t => eTy t
abbrev ePair (p : Option Ty × Option Ty) : D := .tuple [eOpt p.1, eOpt p.2]
abbrev eOwn (p : Own) : D := .tuple [.int p.1, .int p.2.1, .int p.2.2]
abbrev eRun (r : Run) : D := .tuple [eN r.1, eOwn r.2]
theorem no_ty {α : Type} {L : List α} {f : α → Ty} {g : α → D} (k : Int) : (L.map fun e => (eTy (f e), g e)) ≠ ownK k := by
  intro h
  cases L with
  | nil => cases h
  | cons a l => rw [List.map_cons] at h; exact nomatch congrArg (fun x : D × D => x.1) (List.cons.inj h).1
theorem ed_mul {w : World} {F : Fm w} {K : PySem.W.Frag} {ρ : Ro} {ta tb : TE} {i j : Int} (ha : ED F K ta ρ (.int i)) (hb : ED F K tb ρ (.int j)) (h0 : 0 ≤ i) (h : i ≤ 1000000) : ED F K (tOp (rI CMul fun i j => .int (i * j)) ta tb) ρ (.int (i * j)) :=
  ed_iI ha hb (Or.inl ⟨by omega, by omega⟩)
theorem sgn_def (i j : Int) : 1 + (if (decide (i > j)) = true then (1 : Int) else 0) - (if (decide (i < j)) = true then (1 : Int) else 0) = (sgn i j : Nat) := by
  unfold sgn
  by_cases h1 : i < j
  · have h2 : ¬ i > j := by omega
    simp [h1, h2]
  · by_cases h2 : j < i
    · simp [h1, h2]
    · simp [h1, h2]
theorem atI_nat {α : Type} {xs : List α} {j : Nat} {v : α} (h : xs[j]? = some v) : atI xs (j : Int) = some v := L2.atI_nat h
theorem tonlyAll_map' {α : Type} {f : α → D} {xs : List α} (h : ∀ x, tonly (f x) = true) : tonlyAll (xs.map f) = true := tonlyAll_map fun x _ => h x
theorem ed_lcA {w : World} {F : Fm w} {K : PySem.W.Frag} {ρ : Ro} {te : TE} {wi : TI} {g : TG} {α : Type} (xs : List α) (enc : α → D) (f : α → D) (ρ' : α → Ro) (is : List Nat) {vs : List Nat} (hi : ID F K wi ρ (xs.map enc)) (hz : xs.length ≤ 100000) (his : ∀ i ∈ is, i ∈ vs)
    (hg : ∀ x ∈ xs, GD F K g is (enc x) (wipeR ρ vs) (ρ' x)) (he : ∀ x ∈ xs, ED F K te (ρ' x) (f x)) (htn : ∀ x ∈ xs, tonly (f x) = true) : ED F K (tLc wi g tYes te vs) ρ (.list (xs.map f)) :=
  ed_is (ed_lc xs enc (fun _ => true) f ρ' is hi hz his hg (fun _ _ => et_yes) (fun x hx _ => he x hx) htn) (by rw [List.filter_eq_self.mpr (fun _ _ => rfl)])
theorem to_ns (l : List Nat) : tonly (eNs l) = true := by rw [eNs, tonly]; exact tonlyAll_map' fun _ => rfl
theorem to_ty (t : Ty) : tonly (eTy t) = true := by
  simp only [tonly, tonlyAll, Bool.and_true, Bool.and_eq_true]
  refine ⟨?_, ?_, ?_⟩ <;> exact tonlyAll_map' fun _ => rfl
theorem to_opt (o : Option Ty) : tonly (eOpt o) = true := by cases o with | none => rfl | some t => exact to_ty t
theorem to_let (l : Let) : tonly (eLet l) = true := rfl
theorem to_pair (p : Option Ty × Option Ty) : tonly (ePair p) = true := by
  simp only [ePair, tonly, tonlyAll, to_opt, Bool.and_self]
theorem to_ent (e : Ent) : tonly (eEnt e) = true := rfl
theorem to_st (q : List Ent) : tonly (eSt q) = true := by rw [eSt, tonly]; exact tonlyAll_map' to_ent
theorem to_tab (t : Tab) : tonly (eTab t) = true := by rw [eTab, tonly]; exact tonlyAll_map' to_st
theorem to_tabs (t : List Tab) : tonly (eTabs t) = true := by rw [eTabs, tonly]; exact tonlyAll_map' to_tab
theorem cal_mkD {P : Program} {w : World} {K : PySem.W.Frag} {mg : Str → Option Value} {base : Heap} {x : Str} {f : Addr} {fd : FuncData} {ps : List Str} {k : Nat} {sp : Sp} {dvs : List V} (F : FnOk P w K mg base CX0 k f fd ps sp) (hm : mg x = some (.ref f)) (kp : PySem.W.keepIn K (.ref f) = true) (b : ∃ ds, Vals dvs ds ∧ Binds K fd ps ds) : C8.Cal P w K mg base k x sp dvs :=
  let ⟨ds, v, b⟩ := b; ⟨f, fd, ps, ds, F, hm, kp, b, v⟩
theorem ed_if1 {w : World} {F : Fm w} {K : PySem.W.Frag} {ρ : Ro} {ta tb : TE} {tt : L2.TT} {d : D} (h : ET F K tt ρ true) (h1 : ED F K ta ρ d) : ED F K (tIf tt ta tb) ρ d := ed_if h (fun _ => h1) fun q => nomatch q
theorem ed_if0 {w : World} {F : Fm w} {K : PySem.W.Frag} {ρ : Ro} {ta tb : TE} {tt : L2.TT} {d : D} (h : ET F K tt ρ false) (h1 : ED F K tb ρ d) : ED F K (tIf tt ta tb) ρ d := ed_if h (fun q => nomatch q) fun _ => h1
theorem sn_whenN {w : World} {F : Fm w} {K : PySem.W.Frag} {ρ : Ro} {tt : L2.TT} {t : TS} {b : Bool} (h : ET F K tt ρ b) (e : b = false) : SN F K (tIfS tt t tNext) ρ ρ := sn_whenF (et_is h e)
theorem wk_set {ρ ρ' : Ro} {i : Nat} {x : Option D} (w : Wk ρ ρ') (h : ρ'[i]? = some none) : Wk (ρ.set i x) ρ' := by
  refine ⟨by rw [List.length_set]; exact w.len, fun j d e => ?_⟩
  by_cases hj : i = j
  · subst hj; rw [h] at e; cases e
  · rw [List.getElem?_set_ne hj]; exact w.le j d e
theorem insI_len (x : Int) : ∀ l, (insI x l).length ≤ l.length + 1
  | [] => by simp [insI]
  | y :: ys => by
    have := insI_len x ys
    unfold insI
    repeat' split
    all_goals (simp only [List.length_cons]; omega)
theorem ordI_len : ∀ l, (ordI l).length ≤ l.length
  | [] => by simp [ordI]
  | x :: xs => by
    have h1 := ordI_len xs
    have h2 := insI_len x (ordI xs)
    rw [ordI, List.length_cons]; omega
theorem id_is {w : World} {F : Fm w} {K : PySem.W.Frag} {ρ : Ro} {wi : TI} {ds es : List D} (h : ID F K wi ρ ds) (e : ds = es) : ID F K wi ρ es := e ▸ h
theorem id_zipLT {w : World} {F : Fm w} {K : PySem.W.Frag} {ρ : Ro} {tas : TA} {ds es : List D} (h : EA F K tas ρ [.list ds, .tuple es]) : ID F K (iZipX K false true tas) ρ (List.zipWith (fun d e => .tuple [d, e]) ds es) := id_zip (k1 := false) (k2 := true) h
theorem id_zipTL {w : World} {F : Fm w} {K : PySem.W.Frag} {ρ : Ro} {tas : TA} {ds es : List D} (h : EA F K tas ρ [.tuple ds, .list es]) : ID F K (iZipX K true false tas) ρ (List.zipWith (fun d e => .tuple [d, e]) ds es) := id_zip (k1 := true) (k2 := false) h
theorem id_enumT {w : World} {F : Fm w} {K : PySem.W.Frag} {ρ : Ro} {tas : TA} {ds : List D} (h : EA F K tas ρ [.tuple ds]) : ID F K (iEnumX K true tas) ρ (ds.zipIdx.map fun p => .tuple [.int (p.2 : Nat), p.1]) := id_enum (k := true) h
theorem id_enumL {w : World} {F : Fm w} {K : PySem.W.Frag} {ρ : Ro} {tas : TA} {ds : List D} (h : EA F K tas ρ [.list ds]) : ID F K (iEnumX K false tas) ρ (ds.zipIdx.map fun p => .tuple [.int (p.2 : Nat), p.1]) := id_enum (k := false) h
/-! tables -/
def tk (name : Str) (b e v : Int) : Bool :=
  if name = "begins" then decide (b = 0) else if name = "ends" then decide (e = 2)
  else if name = "cover" then decide (b < 2) && (decide (e > 0) && !(decide (b = e) && decide (e = 1)))
  else if name = "inner" then decide (b > 0) && (decide (e < 2) && !(decide (b = e) && decide (e = 1)))
  else if name = "least" then decide (v = 0)
  else if name = "ranked" then decide (b = 0) || ((decide (b = 1) && decide (e = 2)) || ((decide (b = e) && decide (e = 1)) && decide (v = 0)))
  else decide (name = "last")
def sg : List (Int × Int × Int) := ([0, 1, 2] : List Int).flatMap fun b => ([0, 1, 2] : List Int).flatMap fun e => ([0, 1, 2] : List Int).map fun v => (b, e, v)
def plainSt (name : Str) : List Ent := sg.map fun t => (tk name t.1 t.2.1 t.2.2, 0)
def valSt (eq ot : Ent) : List Ent := (List.replicate 9 [ot, eq, ot]).flatten
def namesL : List Str := ["first", "last", "begins", "ends", "cover", "inner", "least", "ranked", "vote", "most"]
def told (name : Str) : Tab := if name = "vote" then [valSt (false, 0) (false, 1), valSt (false, 0) (true, 0)]
  else if name = "most" then [valSt (false, 1) (false, 2), (List.replicate 27 (false, 1)), valSt (false, 1) (true, 1)] else [plainSt name]
end FW
end PartEnc
section PartFun1
set_option Elab.async false
set_option linter.all false
set_option maxRecDepth 100000
set_option maxHeartbeats 2000000
namespace FW
open PySem PySem.Spec PyProof.Rows L2
def R_sign_between : List D → D → Prop := fun ds d => ∃ i j : Int, ds = [.int i, .int j] ∧ d = eN (sgn i j)
theorem sc_sign_between : FnScope ["one", "other"] ["one", "other"] (defScope s_sign_between) := ⟨rfl, rfl, rfl, by decide +kernel, rfl, by decide +kernel, by decide +kernel⟩
theorem c_sign_between {P : Program} {w : World} {K : PySem.W.Frag} {mg : Str → Option Value} {base : Heap} (T : TT K mg) : C8.Cal P w K mg base 1 "sign_between" (spR w K R_sign_between) [] := by
  obtain ⟨f, fd, FD, hm⟩ := T.d_sign_between
  refine cal_mk (ok_pure FD sc_sign_between (fun ds d h => by obtain ⟨_, _, rfl, _⟩ := h; rfl) fun cdv A outer s H E hr F ds d h => ?_) hm FD.kp (FD.bindsN fun _ _ _ _ _ _ us hl => match us, hl with | [_, _], _ => rfl)
  obtain ⟨i, j, rfl, rfl⟩ := h
  refine ⟨_, (pss_one (ps_ret (pe_op op_sub (pe_op op_add pe_int (pe_callTy call_int1 (by rfl) T.n_int (by decide +kernel) (pa_cons (pe_cmpR op_gt (pv 0) (pv 1) (nomark _)) pa_nil))) (pe_callTy call_int1 (by rfl) T.n_int (by decide +kernel) (pa_cons (pe_cmpR op_lt (pv 0) (pv 1) (nomark _)) pa_nil))))), .inl ?_⟩
  refine sd_ret (ed_is (ed_i0 (ed_i0 ed_int (ed_intB (ea_cons (ed_b0 (ed_var rfl) (ed_var rfl)) ea_nil))) (ed_intB (ea_cons (ed_b0 (ed_var rfl) (ed_var rfl)) ea_nil))) (congrArg PyData.int (sgn_def i j)))
def R_entry_by : List D → D → Prop := fun ds d => ∃ (t : Tab) (s b e v : Nat), ds = [eTab t, eN s, eN b, eN e, eN v] ∧ (∃ q a, t[s]? = some q ∧ q[9 * b + 3 * e + v]? = some a ∧ d = eEnt a)
theorem sc_entry_by : FnScope ["table", "state", "b", "e", "v"] ["table", "state", "b", "e", "v"] (defScope s_entry_by) := ⟨rfl, rfl, rfl, by decide +kernel, rfl, by decide +kernel, by decide +kernel⟩
theorem c_entry_by {P : Program} {w : World} {K : PySem.W.Frag} {mg : Str → Option Value} {base : Heap} (T : TT K mg) : C8.Cal P w K mg base 1 "entry_by" (spR w K R_entry_by) [] := by
  obtain ⟨f, fd, FD, hm⟩ := T.d_entry_by
  refine cal_mk (ok_pure FD sc_entry_by (fun ds d h => by obtain ⟨_, _, _, _, _, rfl, _⟩ := h; rfl) fun cdv A outer s H E hr F ds d h => ?_) hm FD.kp (FD.bindsN fun _ _ _ _ _ _ us hl => match us, hl with | [_, _, _, _, _], _ => rfl)
  obtain ⟨t, s, b, e, v, rfl, q, a, h1, h2, rfl⟩ := h
  refine ⟨_, (pss_one (ps_ret (pe_ix (ixK (K := K) rfl) (pe_ix (ixK (K := K) rfl) (pv 0) (pv 1) (fun _ _ => rfl)) (pe_op op_add (pe_op op_add (pe_op op_mul pe_int (pv 2)) (pe_op op_mul pe_int (pv 3))) (pv 4)) (fun _ _ => rfl)))), .inl ?_⟩
  refine sd_ret (ed_ixT (i := ((9 * b + 3 * e + v : Nat) : Int)) (ed_ixT (d := eSt q) (ed_var rfl) (ed_var rfl) (atI_nat (by rw [List.getElem?_map, h1]; rfl))) (ed_is (ed_i0 (ed_i0 (ed_mul ed_int (ed_var rfl) (by decide) (by decide)) (ed_mul ed_int (ed_var rfl) (by decide) (by decide))) (ed_var rfl)) ?_) (atI_nat (by rw [List.getElem?_map, h2]; rfl)))
  congr 1
def R_is_taken : List D → D → Prop := fun ds d => ∃ (name : Str) (b e v : Int), ds = [.str name, .int b, .int e, .int v] ∧ d = .bool (tk name b e v)
theorem sc_is_taken : FnScope ["name", "b", "e", "v"] ["name", "b", "e", "v"] (defScope s_is_taken) := ⟨rfl, rfl, rfl, by decide +kernel, rfl, by decide +kernel, by decide +kernel⟩
theorem c_is_taken {P : Program} {w : World} {K : PySem.W.Frag} {mg : Str → Option Value} {base : Heap} (T : TT K mg) : C8.Cal P w K mg base 1 "is_taken" (spR w K R_is_taken) [] := by
  obtain ⟨f, fd, FD, hm⟩ := T.d_is_taken
  refine cal_mk (ok_pure FD sc_is_taken (fun ds d h => by obtain ⟨_, _, _, _, rfl, _⟩ := h; rfl) fun cdv A outer s H E hr F ds d h => ?_) hm FD.kp (FD.bindsN fun _ _ _ _ _ _ us hl => match us, hl with | [_, _, _, _], _ => rfl)
  obtain ⟨name, b, e, v, rfl, rfl⟩ := h
  refine ⟨_, (pss_cons (ps_if (pt_cmpR op_eq (pv 0) pe_str (nomark _)) (pss_one (ps_ret (pe_cmpR op_eq (pv 1) pe_int (nomark _)))) pss_nil)
    (pss_cons (ps_if (pt_cmpR op_eq (pv 0) pe_str (nomark _)) (pss_one (ps_ret (pe_cmpR op_eq (pv 2) pe_int (nomark _)))) pss_nil)
    (pss_cons (ps_if (pt_cmpR op_eq (pv 0) pe_str (nomark _)) (pss_one (ps_ret (pe_and (pe_cmpR op_lt (pv 1) pe_int (nomark _)) (pe_and (pe_cmpR op_gt (pv 2) pe_int (nomark _)) (pe_one (pe_not (pe_chain op_eq op_eq (pv 1) (pv 2) pe_int))))))) pss_nil)
    (pss_cons (ps_if (pt_cmpR op_eq (pv 0) pe_str (nomark _)) (pss_one (ps_ret (pe_and (pe_cmpR op_gt (pv 1) pe_int (nomark _)) (pe_and (pe_cmpR op_lt (pv 2) pe_int (nomark _)) (pe_one (pe_not (pe_chain op_eq op_eq (pv 1) (pv 2) pe_int))))))) pss_nil)
    (pss_cons (ps_if (pt_cmpR op_eq (pv 0) pe_str (nomark _)) (pss_one (ps_ret (pe_cmpR op_eq (pv 3) pe_int (nomark _)))) pss_nil)
    (pss_cons (ps_if (pt_cmpR op_eq (pv 0) pe_str (nomark _)) (pss_one (ps_ret (pe_or (pe_cmpR op_eq (pv 1) pe_int (nomark _)) (pe_or (pe_and (pe_cmpR op_eq (pv 1) pe_int (nomark _)) (pe_one (pe_cmpR op_eq (pv 2) pe_int (nomark _)))) (pe_one (pe_and (pe_chain op_eq op_eq (pv 1) (pv 2) pe_int) (pe_one (pe_cmpR op_eq (pv 3) pe_int (nomark _))))))))) pss_nil)
    (pss_one (ps_ret (pe_cmpR op_eq (pv 0) pe_str (nomark _)))))))))), .inl ?_⟩
  have no : ∀ x : Str, decide (name = x) = false → ¬ name = x := fun x q => of_decide_eq_false q
  refine sd_when (et_test (ed_eqS (ed_var rfl) ed_str)) (fun h1 => sd_ret (ed_is (ed_eqI (ed_var rfl) ed_int) ?_)) fun h1 => ?_
  · rw [tk, if_pos (of_decide_eq_true h1)]
  refine sd_when (et_test (ed_eqS (ed_var rfl) ed_str)) (fun h2 => sd_ret (ed_is (ed_eqI (ed_var rfl) ed_int) ?_)) fun h2 => ?_
  · rw [tk, if_neg (no _ h1), if_pos (of_decide_eq_true h2)]
  refine sd_when (et_test (ed_eqS (ed_var rfl) ed_str)) (fun h3 => sd_ret (ed_is (ed_andV (ed_b0 (ed_var rfl) ed_int) fun _ => ed_andV (ed_b0 (ed_var rfl) ed_int) fun _ => ed_notV (ed_chainEq (ed_var rfl) (ed_var rfl) ed_int)) ?_)) fun h3 => ?_
  · rw [tk, if_neg (no _ h1), if_neg (no _ h2), if_pos (of_decide_eq_true h3)]
  refine sd_when (et_test (ed_eqS (ed_var rfl) ed_str)) (fun h4 => sd_ret (ed_is (ed_andV (ed_b0 (ed_var rfl) ed_int) fun _ => ed_andV (ed_b0 (ed_var rfl) ed_int) fun _ => ed_notV (ed_chainEq (ed_var rfl) (ed_var rfl) ed_int)) ?_)) fun h4 => ?_
  · rw [tk, if_neg (no _ h1), if_neg (no _ h2), if_neg (no _ h3), if_pos (of_decide_eq_true h4)]
  refine sd_when (et_test (ed_eqS (ed_var rfl) ed_str)) (fun h5 => sd_ret (ed_is (ed_eqI (ed_var rfl) ed_int) ?_)) fun h5 => ?_
  · rw [tk, if_neg (no _ h1), if_neg (no _ h2), if_neg (no _ h3), if_neg (no _ h4), if_pos (of_decide_eq_true h5)]
  refine sd_when (et_test (ed_eqS (ed_var rfl) ed_str)) (fun h6 => sd_ret (ed_is (ed_orV (ed_eqI (ed_var rfl) ed_int) fun _ => ed_orV (ed_andV (ed_eqI (ed_var rfl) ed_int) fun _ => ed_eqI (ed_var rfl) ed_int) fun _ => ed_andV (ed_chainEq (ed_var rfl) (ed_var rfl) ed_int) fun _ => ed_eqI (ed_var rfl) ed_int) ?_)) fun h6 => ?_
  · rw [tk, if_neg (no _ h1), if_neg (no _ h2), if_neg (no _ h3), if_neg (no _ h4), if_neg (no _ h5), if_pos (of_decide_eq_true h6)]
  refine sd_ret (ed_is (ed_eqS (ed_var rfl) ed_str) ?_)
  rw [tk, if_neg (no _ h1), if_neg (no _ h2), if_neg (no _ h3), if_neg (no _ h4), if_neg (no _ h5), if_neg (no _ h6)]
def R_plain_state : List D → D → Prop := fun ds d => ∃ (name : Str), ds = [.str name] ∧ d = eSt (plainSt name)
theorem sc_plain_state : FnScope ["name", "signs", "b", "e", "v"] ["name"] (defScope s_plain_state) := ⟨rfl, rfl, rfl, by decide +kernel, rfl, by decide +kernel, by decide +kernel⟩
theorem c_plain_state {P : Program} {w : World} {K : PySem.W.Frag} {mg : Str → Option Value} {base : Heap} (T : TT K mg) : C8.Cal P w K mg base 2 "plain_state" (spR w K R_plain_state) [] := by
  have c_is_taken := c_is_taken (P := P) (w := w) (base := base) T
  obtain ⟨f, fd, FD, hm⟩ := T.d_plain_state
  refine cal_mk (ok_pure FD sc_plain_state (fun ds d h => by obtain ⟨_, rfl, _⟩ := h; rfl) fun cdv A outer s H E hr F ds d h => ?_) hm FD.kp (FD.bindsN fun _ _ _ _ _ _ us hl => match us, hl with | [_], _ => rfl)
  obtain ⟨name, rfl, rfl⟩ := h
  refine ⟨_, (pss_cons (ps_setLc3 (i := 1) (own := [("b", 2), ("e", 3), ("v", 4)]) (g := gName 2) (g1 := gName 3) (g2 := gName 4) (vs1 := [3, 4]) (vs2 := [4]) rfl sc_plain_state.nd rfl rfl (sw_true rfl rfl rfl (by decide +kernel)) (pi_range1 (by rfl) T.n_range (pa_cons pe_int pa_nil)) (blkOk_by (by kernel_rfl)) (by decide) (by decide) (fun _ _ _ _ _ => (pg_name (i := 2) sc_plain_state.nd rfl (Or.inl rfl))) (fun _ _ _ _ _ => (pi_range1 (by rfl) T.n_range (pa_cons pe_int pa_nil))) (fun _ _ _ _ _ => (pg_name (i := 3) sc_plain_state.nd rfl (Or.inl rfl))) (fun _ _ _ _ _ => (pi_range1 (by rfl) T.n_range (pa_cons pe_int pa_nil))) (fun _ _ _ _ _ => (pg_name (i := 4) sc_plain_state.nd rfl (Or.inl rfl))) (fun _ _ _ _ _ => (pe_tup (pa_cons (pv 2) (pa_cons (pv 3) (pa_cons (pv 4) pa_nil))))))
    (pss_one (ps_ret (pe_callTy (tupK (K := K) rfl) (by rfl) T.n_tuple (by decide +kernel) (pa_cons (pe_lc (own := [("b", 2), ("e", 3), ("v", 4)]) (g := gTup K 3 (gCons (gName 2) (gCons (gName 3) (gCons (gName 4) gNil)))) rfl sc_plain_state.nd (pi_listK (K := K) rfl (pv 1)) (blkOk_by (by kernel_rfl)) (fun _ _ _ _ _ => (pg_tupK (K := K) rfl rfl (pgs_cons (pg_name (i := 2) sc_plain_state.nd rfl (Or.inl rfl)) (pgs_cons (pg_name (i := 3) sc_plain_state.nd rfl (Or.inl rfl)) (pgs_cons (pg_name (i := 4) sc_plain_state.nd rfl (Or.inl rfl)) pgs_nil))))) (fun _ _ _ _ _ => pts_nil) (fun _ _ _ _ _ => (pe_tup (pa_cons (pe_ifExp (pt_val (C8.pe_c c_is_taken hr (by decide) (by rfl) (pa_cons (pv 0) (pa_cons (pv 2) (pa_cons (pv 3) (pa_cons (pv 4) pa_nil)))))) (C8.pe_gc (by rfl) T.g_NEW) (C8.pe_gc (by rfl) T.g_OLD)) (pa_cons pe_int pa_nil))))) pa_nil))))), .inl ?_⟩
  have hr3 : ∀ (F : Fm w) ρ, ID F K (iRng1 (tCons (tC (.int 3)) tNil)) ρ (([0, 1, 2] : List Int).map .int) := fun F ρ => id_rng1 (n := 3) (ea_cons ed_int ea_nil) (by decide)
  refine sd_seq (sn_asg (d := .list (sg.map fun t => .tuple [.int t.1, .int t.2.1, .int t.2.2])) ?_) (sd_ret (ed_tupL (ea_cons (ed_lcA sg (fun t => .tuple [.int t.1, .int t.2.1, .int t.2.2]) (fun t => eEnt (tk name t.1 t.2.1 t.2.2, 0)) _ [2, 3, 4] (id_list (ed_var rfl)) (by decide) (by decide) (fun x _ => gd_tup3) (fun x _ => ?_) fun _ _ => rfl) ea_nil)))
  · refine ed_is (ed_lcR [0, 1, 2] (fun b => ([0, 1, 2] : List Int).flatMap fun e => ([0, 1, 2] : List Int).flatMap fun v => [.tuple [.int b, .int e, .int v]]) (hr3 _ _) (by decide) (fun b _ => ?_) (fun _ _ => rfl) (by decide)) rfl
    refine rd_cl [0, 1, 2] (fun e => ([0, 1, 2] : List Int).flatMap fun v => [.tuple [.int b, .int e, .int v]]) (fun F' => hr3 _ _) (by decide) (fun e _ => ?_) (fun _ _ => rfl)
    exact rd_cl [0, 1, 2] (fun v => [.tuple [.int b, .int e, .int v]]) (fun F' => hr3 _ _) (by decide) (fun v _ => rd_app (fun F' => ed_tup (ea_cons (ed_var rfl) (ea_cons (ed_var rfl) (ea_cons (ed_var rfl) ea_nil)))) rfl) (fun _ _ => rfl)
  · refine ed_tup (ea_cons (ed_if (et_val (ed_call (ea_cons (ed_var rfl) (ea_cons (ed_var rfl) (ea_cons (ed_var rfl) (ea_cons (ed_var rfl) ea_nil)))) ⟨_, _, _, _, rfl, rfl⟩)) (fun h => ed_is ed_str (by rw [h]; rfl)) (fun h => ed_is ed_str (by rw [h]; rfl))) (ea_cons ed_int ea_nil))
def R_value_state : List D → D → Prop := fun ds d => ∃ (eq ot : Ent), ds = [eEnt eq, eEnt ot] ∧ d = eSt (valSt eq ot)
theorem sc_value_state : FnScope ["equal", "other"] ["equal", "other"] (defScope s_value_state) := ⟨rfl, rfl, rfl, by decide +kernel, rfl, by decide +kernel, by decide +kernel⟩
theorem c_value_state {P : Program} {w : World} {K : PySem.W.Frag} {mg : Str → Option Value} {base : Heap} (T : TT K mg) : C8.Cal P w K mg base 1 "value_state" (spR w K R_value_state) [] := by
  obtain ⟨f, fd, FD, hm⟩ := T.d_value_state
  refine cal_mk (ok_pure FD sc_value_state (fun ds d h => by obtain ⟨_, _, rfl, _⟩ := h; rfl) fun cdv A outer s H E hr F ds d h => ?_) hm FD.kp (FD.bindsN fun _ _ _ _ _ _ us hl => match us, hl with | [_, _], _ => rfl)
  obtain ⟨eq, ot, rfl, rfl⟩ := h
  refine ⟨_, (pss_one (ps_ret (pe_op op_repT (pe_tup (pa_cons (pv 1) (pa_cons (pv 0) (pa_cons (pv 1) pa_nil)))) pe_int))), .inl ?_⟩
  exact sd_ret (ed_is (ed_repT (k := 9) (ed_tup (ea_cons (ed_var rfl) (ea_cons (ed_var rfl) (ea_cons (ed_var rfl) ea_nil)))) ed_int (fun h => nomatch h) (by decide) (by decide) (by show 3 ≤ 1000; decide)) rfl)
end FW
end PartFun1
section PartFun2
set_option Elab.async false
set_option linter.all false
set_option maxRecDepth 100000
set_option maxHeartbeats 2000000
namespace FW
open PySem PySem.Spec PyProof.Rows L2
def R_told_table : List D → D → Prop := fun ds d => ∃ name : Str, ds = [.str name] ∧ name ∈ namesL ∧ d = eTab (told name)
theorem sc_told_table : FnScope ["name"] ["name"] (defScope s_told_table) := ⟨rfl, rfl, rfl, by decide +kernel, rfl, by decide +kernel, by decide +kernel⟩
theorem c_told_table {P : Program} {w : World} {K : PySem.W.Frag} {mg : Str → Option Value} {base : Heap} (T : TT K mg) : C8.Cal P w K mg base 3 "told_table" (spR w K R_told_table) [] := by
  have c_value_state := c_value_state (P := P) (w := w) (base := base) T
  have c_plain_state := c_plain_state (P := P) (w := w) (base := base) T
  obtain ⟨f, fd, FD, hm⟩ := T.d_told_table
  refine cal_mk (ok_pure FD sc_told_table (fun ds d h => by obtain ⟨_, rfl, _⟩ := h; rfl) fun cdv A outer s H E hr F ds d h => ?_) hm FD.kp (FD.bindsN fun _ _ _ _ _ _ us hl => match us, hl with | [_], _ => rfl)
  obtain ⟨name, rfl, hn, rfl⟩ := h
  refine ⟨_, (pss_cons (ps_if (PW.pt (pw_or (pt_not (pt_val (pe_callB RZ.call_isTy (by rfl) T.n_isinstance (by decide +kernel) (pa_cons (pv 0) (pa_cons (pe_bltn (v := .ty "str") (by rfl) T.n_str (by decide +kernel) rfl) pa_nil))))) (pw_or1 (pt_cmpR (notInK (K := K) rfl) (pv 0) (C8.pe_gc (by rfl) T.g_NAMES) rfl)))) (pss_one ps_never) pss_nil)
    (pss_cons (ps_if (pt_cmpR op_eq (pv 0) pe_str (nomark _)) (pss_one (ps_ret (pe_tup (pa_cons (C8.pe_c c_value_state hr (by decide) (by rfl) (pa_cons (pe_tup (pa_cons (C8.pe_gc (by rfl) T.g_OLD) (pa_cons pe_int pa_nil))) (pa_cons (pe_tup (pa_cons (C8.pe_gc (by rfl) T.g_OLD) (pa_cons pe_int pa_nil))) pa_nil))) (pa_cons (C8.pe_c c_value_state hr (by decide) (by rfl) (pa_cons (pe_tup (pa_cons (C8.pe_gc (by rfl) T.g_OLD) (pa_cons pe_int pa_nil))) (pa_cons (pe_tup (pa_cons (C8.pe_gc (by rfl) T.g_NEW) (pa_cons pe_int pa_nil))) pa_nil))) pa_nil))))) pss_nil)
    (pss_cons (ps_if (pt_cmpR op_eq (pv 0) pe_str (nomark _)) (pss_one (ps_ret (pe_tup (pa_cons (C8.pe_c c_value_state hr (by decide) (by rfl) (pa_cons (pe_tup (pa_cons (C8.pe_gc (by rfl) T.g_OLD) (pa_cons pe_int pa_nil))) (pa_cons (pe_tup (pa_cons (C8.pe_gc (by rfl) T.g_OLD) (pa_cons pe_int pa_nil))) pa_nil))) (pa_cons (pe_op op_repT (pe_tup (pa_cons (pe_tup (pa_cons (C8.pe_gc (by rfl) T.g_OLD) (pa_cons pe_int pa_nil))) pa_nil)) (C8.pe_gc (by rfl) T.g_ENTRIES)) (pa_cons (C8.pe_c c_value_state hr (by decide) (by rfl) (pa_cons (pe_tup (pa_cons (C8.pe_gc (by rfl) T.g_OLD) (pa_cons pe_int pa_nil))) (pa_cons (pe_tup (pa_cons (C8.pe_gc (by rfl) T.g_NEW) (pa_cons pe_int pa_nil))) pa_nil))) pa_nil)))))) pss_nil)
    (pss_one (ps_ret (pe_tup (pa_cons (C8.pe_c c_plain_state hr (by decide) (by rfl) (pa_cons (pv 0) pa_nil)) pa_nil))))))), .inl ?_⟩
  have ent : ∀ (ρ : Ro) (a : Str) (n : Nat), ED F K (tTup (tCons (tC (.str a)) (tCons (tC (.int (n : Int))) tNil))) ρ (.tuple [.str a, .int n]) := fun ρ a n => ed_tup (ea_cons ed_str (ea_cons ed_int ea_nil))
  refine sd_seq (sn_whenN (et_or (et_not (et_val (ed_isStr (ed_var rfl)))) fun _ => et_test (ed_niT (ys := namesL) (ed_var rfl) (ed_gt T.namesT))) (by rw [decide_eq_true hn]; rfl)) ?_
  refine sd_when (et_test (ed_eqS (ed_var rfl) ed_str)) (fun h1 => ?_) fun h1 => ?_
  · rw [told, if_pos (of_decide_eq_true h1)]
    exact sd_ret (ed_tup (ea_cons (ed_call (ea_cons (ent _ _ 0) (ea_cons (ent _ _ 1) ea_nil)) ⟨(false, 0), (false, 1), rfl, rfl⟩) (ea_cons (ed_call (ea_cons (ent _ _ 0) (ea_cons (ent _ _ 0) ea_nil)) ⟨(false, 0), (true, 0), rfl, rfl⟩) ea_nil)))
  refine sd_when (et_test (ed_eqS (ed_var rfl) ed_str)) (fun h2 => ?_) fun h2 => ?_
  · rw [told, if_neg (of_decide_eq_false h1), if_pos (of_decide_eq_true h2)]
    refine sd_ret (ed_tup (ea_cons (ed_call (ea_cons (ent _ _ 1) (ea_cons (ent _ _ 2) ea_nil)) ⟨(false, 1), (false, 2), rfl, rfl⟩) (ea_cons (ed_is (ed_repT (k := 27) (ed_tup (ea_cons (ent _ _ 1) ea_nil)) ed_int (fun h => nomatch h) (by decide) (by decide) (by show 1 ≤ 1000; decide)) rfl) (ea_cons (ed_call (ea_cons (ent _ _ 1) (ea_cons (ent _ _ 1) ea_nil)) ⟨(false, 1), (true, 1), rfl, rfl⟩) ea_nil))))
  rw [told, if_neg (of_decide_eq_false h1), if_neg (of_decide_eq_false h2)]
  exact sd_ret (ed_tup (ea_cons (ed_call (ea_cons (ed_var rfl) ea_nil) ⟨name, rfl, rfl⟩) ea_nil))
def wordsL : List Str := ["all", "nested", "stairs", "begins", "ends"]
def R_need_rows : List D → D → Prop := fun ds d => ds = [.str "all", .tuple (wordsL.map .str)] ∧ d = .none
theorem sc_need_rows : FnScope ["rows", "words"] ["rows", "words"] (defScope s_need_rows) := ⟨rfl, rfl, rfl, by decide +kernel, rfl, by decide +kernel, by decide +kernel⟩
theorem c_need_rows {P : Program} {w : World} {K : PySem.W.Frag} {mg : Str → Option Value} {base : Heap} (T : TT K mg) : C8.Cal P w K mg base 1 "need_rows" (spR w K R_need_rows) [.ref (He.dflAt ("need_rows", none) 0 K)] := by
  obtain ⟨f, fd, FD, hm⟩ := T.d_need_rows
  refine cal_mkD (ok_pure FD sc_need_rows (fun ds d h => by obtain ⟨rfl, _⟩ := h; rfl) fun cdv A outer s H E hr F ds d h => ?_) hm FD.kp (FD.binds1 1 0 (fun h => nomatch h) rfl fun T kV doc pm an cdv ct us its h1 h2 => match us, its, h1, h2 with | [_], [_], _, _ => ⟨_, rfl, rfl⟩)
  obtain ⟨rfl, rfl⟩ := h
  exact ⟨_, (pss_one (ps_if (PW.pt (pw_or (pt_not (pt_val (pe_callB RZ.call_isTy (by rfl) T.n_isinstance (by decide +kernel) (pa_cons (pv 0) (pa_cons (pe_bltn (v := .ty "str") (by rfl) T.n_str (by decide +kernel) rfl) pa_nil))))) (pw_or1 (pt_cmpR (notInK (K := K) rfl) (pv 0) (pv 1) rfl)))) pss_never pss_nil)), .inr ⟨rfl, _, sn_whenN (et_or (et_not (et_val (ed_isStr (ed_var rfl)))) fun _ => et_test (ed_niT (ys := wordsL) (ed_var rfl) (ed_var rfl))) (by decide)⟩⟩
theorem words_dq {w : World} {F : Fm w} {K : PySem.W.Frag} {mg : Str → Option Value} (T : TT K mg) (H : Hp) : DqAll F K H [.ref (He.dflAt ("need_rows", none) 0 K)] [.tuple (wordsL.map .str)] := .one (.tup (T.wordsT H) (strs_dq wordsL))
def R_first_type : List D → D → Prop := fun ds d => ∃ n : Nat, ds = [eN n, .str "all"] ∧ (n = 2 ∨ n = 3) ∧ d = eTy (firstTy n)
theorem sc_first_type : FnScope ["many", "rows"] ["many", "rows"] (defScope s_first_type) := ⟨rfl, rfl, rfl, by decide +kernel, rfl, by decide +kernel, by decide +kernel⟩
theorem all_dq {w : World} {F : Fm w} {K : PySem.W.Frag} (H : Hp) : DqAll F K H [.str "all"] [.str "all"] := .one (.str _)
theorem c_first_type {P : Program} {w : World} {K : PySem.W.Frag} {mg : Str → Option Value} {base : Heap} (T : TT K mg) : C8.Cal P w K mg base 2 "first_type" (spR w K R_first_type) [.str "all"] := by
  have c_need_rows := c_need_rows (P := P) (w := w) (base := base) T
  obtain ⟨f, fd, FD, hm⟩ := T.d_first_type
  refine cal_mkD (ok_pure FD sc_first_type (fun ds d h => by obtain ⟨_, rfl, _⟩ := h; rfl) fun cdv A outer s H E hr F ds d h => ?_) hm FD.kp (FD.binds0 1 (fun h => nomatch h) rfl fun D doc pm an cdv ct us ks h1 h2 => match us, ks, h1, h2 with | [_], [_], _, _ => ⟨_, _, _, _, _, _, rfl, rfl, rfl⟩)
  obtain ⟨n, rfl, hn, rfl⟩ := h
  refine ⟨_, (pss_cons (ps_expr (C8.pe_c c_need_rows hr (by decide) (by rfl) (pa_cons (pv 1) pa_nil)))
    (pss_one (ps_ret (pe_tup (pa_cons (pe_op op_repT (pe_tup (pa_cons pe_int pa_nil)) (pv 0)) (pa_cons (pe_op op_repT (pe_tup (pa_cons pe_int pa_nil)) (pv 0)) (pa_cons (pe_op op_repT (pe_tup (pa_cons pe_int pa_nil)) (pv 0)) (pa_cons (pe_ifExp (pt_cmpR (inK (K := K) rfl) (pv 1) (pe_tup (pa_cons (C8.pe_gc (by rfl) T.g_BEGINS) (pa_cons (C8.pe_gc (by rfl) T.g_ENDS) pa_nil))) rfl) pe_never (pe_tup pa_nil)) pa_nil)))))))), .inl ?_⟩
  have rep : ∀ (ρ : Ro), ρ[0]? = some (some (eN n)) → ED F K (tOp (rRepT K) (tTup (tCons (tC (.int 0)) tNil)) (tVar 0)) ρ (.tuple (List.replicate n [.int 0]).flatten) := fun ρ e => ed_repT (ed_tup (ea_cons ed_int ea_nil)) (ed_var e) (fun h => nomatch h) (by omega) (by omega) (by show 1 ≤ 1000; decide)
  refine sd_seq (sn_drop (ed_callD (ea_cons (ed_var rfl) ea_nil) (words_dq T) ⟨rfl, rfl⟩)) (sd_ret (ed_is (ed_tup (ea_cons (rep _ rfl) (ea_cons (rep _ rfl) (ea_cons (rep _ rfl) (ea_cons (ed_if0 (et_is (et_test (ed_inT (ys := ["begins", "ends"]) (ed_var rfl) (ed_tup (ea_cons ed_str (ea_cons ed_str ea_nil))))) (by decide)) (ed_tup ea_nil)) ea_nil))))) ?_))
  rcases hn with rfl | rfl <;> rfl
def R_signs_to : List D → D → Prop := fun ds d => ∃ (l : Let) (ty : Ty) (r : Nat), ds = [eLet l, eTy ty, eN r] ∧ ∃ x, ty[r]? = some x ∧ d = .tuple [eN (sgn l.1 (2 * (x.2.1 : Int) + 1)), eN (sgn l.2.1 (2 * (x.2.2 : Int) + 1))]
theorem sc_signs_to : FnScope ["letter", "start", "run"] ["letter", "start", "run"] (defScope s_signs_to) := ⟨rfl, rfl, rfl, by decide +kernel, rfl, by decide +kernel, by decide +kernel⟩
theorem c_signs_to {P : Program} {w : World} {K : PySem.W.Frag} {mg : Str → Option Value} {base : Heap} (T : TT K mg) : C8.Cal P w K mg base 2 "signs_to" (spR w K R_signs_to) [] := by
  have c_sign_between := c_sign_between (P := P) (w := w) (base := base) T
  obtain ⟨f, fd, FD, hm⟩ := T.d_signs_to
  refine cal_mk (ok_pure FD sc_signs_to (fun ds d h => by obtain ⟨_, _, _, rfl, _⟩ := h; rfl) fun cdv A outer s H E hr F ds d h => ?_) hm FD.kp (FD.bindsN fun _ _ _ _ _ _ us hl => match us, hl with | [_, _, _], _ => rfl)
  obtain ⟨l, ty, r, rfl, x, hx, rfl⟩ := h
  refine ⟨_, (pss_one (ps_ret (pe_tup (pa_cons (C8.pe_c c_sign_between hr (by decide) (by rfl) (pa_cons (pe_ix (ixK (K := K) rfl) (pv 0) pe_int (fun _ _ => rfl)) (pa_cons (pe_op op_add (pe_op op_mul pe_int (pe_ix (ixK (K := K) rfl) (pe_ix (ixK (K := K) rfl) (pv 1) pe_int (fun _ _ => rfl)) (pv 2) (fun _ _ => rfl))) pe_int) pa_nil))) (pa_cons (C8.pe_c c_sign_between hr (by decide) (by rfl) (pa_cons (pe_ix (ixK (K := K) rfl) (pv 0) pe_int (fun _ _ => rfl)) (pa_cons (pe_op op_add (pe_op op_mul pe_int (pe_ix (ixK (K := K) rfl) (pe_ix (ixK (K := K) rfl) (pv 1) pe_int (fun _ _ => rfl)) (pv 2) (fun _ _ => rfl))) pe_int) pa_nil))) pa_nil))))), .inl ?_⟩
  have h1 : atI ((bgs ty).map eN) (r : Int) = some (eN x.2.1) := atI_nat (by rw [List.getElem?_map, bgs, List.getElem?_map, hx]; rfl)
  have h2 : atI ((ens ty).map eN) (r : Int) = some (eN x.2.2) := atI_nat (by rw [List.getElem?_map, ens, List.getElem?_map, hx]; rfl)
  exact sd_ret (ed_tup (ea_cons (ed_call (ea_cons (ed_ixT (ed_var rfl) ed_int rfl) (ea_cons (ed_i0 (ed_mul ed_int (ed_ixT (ed_ixT (ed_var rfl) ed_int rfl) (ed_var rfl) h1) (by decide) (by decide)) ed_int) ea_nil)) ⟨_, _, rfl, rfl⟩)
    (ea_cons (ed_call (ea_cons (ed_ixT (ed_var rfl) ed_int rfl) (ea_cons (ed_i0 (ed_mul ed_int (ed_ixT (ed_ixT (ed_var rfl) ed_int rfl) (ed_var rfl) h2) (by decide) (by decide)) ed_int) ea_nil)) ⟨_, _, rfl, rfl⟩) ea_nil)))
def R_is_possible : List D → D → Prop := fun ds d => ∃ (ty : Ty) (l : Let), ds = [eTy ty, eLet l, .str "all"] ∧ ty.length ≤ 100 ∧ d = .bool true
theorem sc_is_possible : FnScope ["start", "letter", "rows", "run", "b", "e", "sign"] ["start", "letter", "rows"] (defScope s_is_possible) := ⟨rfl, rfl, rfl, by decide +kernel, rfl, by decide +kernel, by decide +kernel⟩
theorem c_is_possible {P : Program} {w : World} {K : PySem.W.Frag} {mg : Str → Option Value} {base : Heap} (T : TT K mg) : C8.Cal P w K mg base 3 "is_possible" (spR w K R_is_possible) [] := by
  have c_signs_to := c_signs_to (P := P) (w := w) (base := base) T
  obtain ⟨f, fd, FD, hm⟩ := T.d_is_possible
  refine cal_mk (ok_pure FD sc_is_possible (fun ds d h => by obtain ⟨_, _, rfl, _⟩ := h; rfl) fun cdv A outer s H E hr F ds d h => ?_) hm FD.kp (FD.bindsN fun _ _ _ _ _ _ us hl => match us, hl with | [_, _, _], _ => rfl)
  obtain ⟨ty, l, rfl, hz, rfl⟩ := h
  refine ⟨_, (pss_cons (ps_for PassesOwn.never rfl (pi_range1 (by rfl) T.n_range (pa_cons (pe_callB (lenK (K := K) rfl) (by rfl) T.n_len (by decide +kernel) (pa_cons (pe_ix (ixK (K := K) rfl) (pv 0) pe_int (fun _ _ => rfl)) pa_nil)) pa_nil)) (pg_name (i := 3) sc_is_possible.nd rfl (Or.inl rfl)) (pss_cons (ps_asg (C8.pe_c c_signs_to hr (by decide) (by rfl) (pa_cons (pv 1) (pa_cons (pv 0) (pa_cons (pv 3) pa_nil)))) (pg_tupK (K := K) rfl rfl (pgs_cons (pg_name (i := 4) sc_is_possible.nd rfl (Or.inl rfl)) (pgs_cons (pg_name (i := 5) sc_is_possible.nd rfl (Or.inl rfl)) pgs_nil))))
    (pss_cons (ps_if (PW.pt (pw_and (pt_cmpR (inK (K := K) rfl) (pv 2) (pe_tup (pa_cons (C8.pe_gc (by rfl) T.g_NESTED) (pa_cons (C8.pe_gc (by rfl) T.g_STAIRS) pa_nil))) rfl) (pw_and1 pt_never))) pss_never pss_nil)
    (pss_one (ps_if (pt_cmpR (inK (K := K) rfl) (pv 2) (pe_tup (pa_cons (C8.pe_gc (by rfl) T.g_BEGINS) (pa_cons (C8.pe_gc (by rfl) T.g_ENDS) pa_nil))) rfl) pss_never pss_nil)))))
    (pss_one (ps_ret pe_bl))), .inl ?_⟩
  have hl : ((sts ty).map eN).length = ty.length := by rw [List.length_map, sts, List.length_map]
  refine sd_seq (sn_for (List.range ty.length) eN (fun _ => ro0 ["start", "letter", "rows", "run", "b", "e", "sign"] [eTy ty, eLet l, .str "all"]) (id_rng1 (ea_cons (ed_is (ed_lenT (ea_cons (ed_ixT (ed_var rfl) ed_int rfl) ea_nil)) (by rw [hl])) ea_nil) (by omega)) (.refl _) (fun i r hr => ?_)) (sd_ret ed_bl)
  have hri : r < ty.length := by
    have := List.mem_of_getElem? hr
    simpa using this
  refine ⟨[3], _, _, gd_name, sn_seq (sn_asgG (ed_call (ea_cons (ed_var rfl) (ea_cons (ed_var rfl) (ea_cons (ed_var rfl) ea_nil))) ⟨l, ty, r, rfl, ty[r], List.getElem?_eq_getElem hri, rfl⟩) gd_tup2) (sn_seq (sn_whenN (et_and (et_test (ed_inT (ys := ["nested", "stairs"]) (ed_var rfl) (ed_tup (ea_cons ed_str (ea_cons ed_str ea_nil))))) (b := false) fun h => ?_) (by decide)) (sn_whenN (et_test (ed_inT (ys := ["begins", "ends"]) (ed_var rfl) (ed_tup (ea_cons ed_str (ea_cons ed_str ea_nil))))) (by decide))), ?_⟩
  · exact absurd h (by decide)
  · exact wk_set (wk_set (wk_set (.refl _) rfl) rfl) rfl
end FW
end PartFun2
section PartFun3
set_option Elab.async false
set_option linter.all false
set_option maxRecDepth 100000
set_option maxHeartbeats 2000000
namespace FW
open PySem PySem.Spec PyProof.Rows L2
theorem int_map (l : List Nat) : l.map eN = (l.map fun n : Nat => (n : Int)).map PyData.int := by rw [List.map_map]; rfl
theorem maxN_int {l : List Nat} {z : Int} (hz : z ∈ l.map fun n : Nat => (n : Int)) (hle : ∀ y, y ∈ (l.map fun n : Nat => (n : Int)) → y ≤ z) : z = (maxN l : Nat) := by
  obtain ⟨n, hn, rfl⟩ := List.mem_map.mp hz
  have h1 := le_maxN hn
  have h2 := hle (maxN l : Nat) (List.mem_map.mpr ⟨_, maxN_mem (fun e => by rw [e] at hn; cases hn), rfl⟩)
  omega
def R_spots : List D → D → Prop := fun ds d => ∃ l : List Nat, ds = [eNs l] ∧ l ≠ [] ∧ maxN l ≤ 100 ∧ d = .list ((List.range (2 * maxN l + 3)).map eN)
theorem sc_spots : FnScope ["ranks"] ["ranks"] (defScope s_spots) := ⟨rfl, rfl, rfl, by decide +kernel, rfl, by decide +kernel, by decide +kernel⟩
theorem c_spots {P : Program} {w : World} {K : PySem.W.Frag} {mg : Str → Option Value} {base : Heap} (T : TT K mg) : C8.Cal P w K mg base 1 "spots" (spR w K R_spots) [] := by
  obtain ⟨f, fd, FD, hm⟩ := T.d_spots
  refine cal_mk (ok_pure FD sc_spots (fun ds d h => by obtain ⟨_, rfl, _⟩ := h; rfl) fun cdv A outer s H E hr F ds d h => ?_) hm FD.kp (FD.bindsN fun _ _ _ _ _ _ us hl => match us, hl with | [_], _ => rfl)
  obtain ⟨l, rfl, hl, hm100, rfl⟩ := h
  refine ⟨_, (pss_one (ps_ret (pe_listRg rfl (by rfl) T.n_list (prg_1 (by rfl) T.n_range (pe_op op_add (pe_op op_mul pe_int (pe_callB (cr_maxT rfl hr.units) (by rfl) T.n_max (by decide +kernel) (pa_cons (pv 0) pa_nil))) pe_int))))), .inl ?_⟩
  refine sd_ret (ed_listRg (n := 2 * maxN l + 3) (ed_is (ed_i0 (ed_mul ed_int (ed_maxT (ns := l.map fun n : Nat => (n : Int)) (m := (maxN l : Nat)) (ea_cons (ed_is (ed_var rfl) (by rw [eNs, int_map])) ea_nil) ?_ fun z hz hle => maxN_int hz hle) (by decide) (by decide)) ed_int) (congrArg PyData.int (by omega))) (by omega))
  rw [List.length_map]; exact List.length_pos_iff.mpr hl
structure TyR (ty : Ty) : Prop where
  pos : ty ≠ []
  few : ty.length ≤ 3
  rk : ∀ x ∈ ty, x.2.1 ≤ 3 ∧ x.2.2 ≤ 3
theorem TyR.b {ty : Ty} (h : TyR ty) : maxN (bgs ty) ≤ 3 := by
  obtain ⟨x, hx, e⟩ := List.mem_map.mp (maxN_mem (xs := bgs ty) (by unfold bgs; intro e; exact h.pos (List.map_eq_nil_iff.mp e)))
  rw [← e]; exact (h.rk x hx).1
theorem TyR.e {ty : Ty} (h : TyR ty) : maxN (ens ty) ≤ 3 := by
  obtain ⟨x, hx, e⟩ := List.mem_map.mp (maxN_mem (xs := ens ty) (by unfold ens; intro e; exact h.pos (List.map_eq_nil_iff.mp e)))
  rw [← e]; exact (h.rk x hx).2
theorem TyR.bn {ty : Ty} (h : TyR ty) : bgs ty ≠ [] := by unfold bgs; intro e; exact h.pos (List.map_eq_nil_iff.mp e)
theorem TyR.en {ty : Ty} (h : TyR ty) : ens ty ≠ [] := by unfold ens; intro e; exact h.pos (List.map_eq_nil_iff.mp e)
def lettersD (ty : Ty) : List D := ((List.range (nB ty)).map fun n : Nat => (n : Int)).flatMap fun b => ((List.range (nE ty)).map fun n : Nat => (n : Int)).flatMap fun e => ([0, 1, 2] : List Int).flatMap fun v => [.tuple [.int b, .int e, .int v]]
theorem lettersD_eq (ty : Ty) : lettersD ty = (lettersOf ty).map eLet := by
  unfold lettersD lettersOf
  rw [List.flatMap_map, List.map_flatMap]
  congr 1; funext b
  rw [List.flatMap_map, List.map_flatMap]
  congr 1
theorem letters_le {ty : Ty} (h : TyR ty) : (lettersOf ty).length ≤ 1000 := by
  rw [letters_len]
  have h1 : nB ty ≤ 9 := by have := h.b; unfold nB; omega
  have h2 : nE ty ≤ 9 := by have := h.e; unfold nE; omega
  calc nB ty * (nE ty * 3) ≤ 9 * (9 * 3) := Nat.mul_le_mul h1 (Nat.mul_le_mul_right _ h2)
    _ ≤ 1000 := by decide
def R_letters_of : List D → D → Prop := fun ds d => ∃ ty : Ty, ds = [eTy ty, .str "all"] ∧ TyR ty ∧ d = .tuple ((lettersOf ty).map eLet)
theorem sc_letters_of : FnScope ["start", "rows", "found", "b", "e", "v", "letter"] ["start", "rows"] (defScope s_letters_of) := ⟨rfl, rfl, rfl, by decide +kernel, rfl, by decide +kernel, by decide +kernel⟩
theorem c_letters_of {P : Program} {w : World} {K : PySem.W.Frag} {mg : Str → Option Value} {base : Heap} (T : TT K mg) : C8.Cal P w K mg base 4 "letters_of" (spR w K R_letters_of) [.str "all"] := by
  have c_need_rows := c_need_rows (P := P) (w := w) (base := base) T
  have c_spots := c_spots (P := P) (w := w) (base := base) T
  have c_is_possible := c_is_possible (P := P) (w := w) (base := base) T
  obtain ⟨f, fd, FD, hm⟩ := T.d_letters_of
  refine cal_mkD (ok_pure FD sc_letters_of (fun ds d h => by obtain ⟨_, rfl, _⟩ := h; rfl) fun cdv A outer s H E hr F ds d h => ?_) hm FD.kp (FD.binds0 1 (fun h => nomatch h) rfl fun D doc pm an cdv ct us ks h1 h2 => match us, ks, h1, h2 with | [_], [_], _, _ => ⟨_, _, _, _, _, _, rfl, rfl, rfl⟩)
  obtain ⟨ty, rfl, ht, rfl⟩ := h
  refine ⟨_, (pss_cons (ps_expr (C8.pe_c c_need_rows hr (by decide) (by rfl) (pa_cons (pv 1) pa_nil)))
    (pss_cons (ps_setLc3 (i := 2) (own := [("b", 3), ("e", 4), ("v", 5)]) (g := gName 3) (g1 := gName 4) (g2 := gName 5) (vs1 := [4, 5]) (vs2 := [5]) rfl sc_letters_of.nd rfl rfl (sw_true rfl rfl rfl (by decide +kernel)) (pi_listK (K := K) rfl (C8.pe_c c_spots hr (by decide) (by rfl) (pa_cons (pe_ix (ixK (K := K) rfl) (pv 0) pe_int (fun _ _ => rfl)) pa_nil))) (blkOk_by (by kernel_rfl)) (by decide) (by decide) (fun _ _ _ _ _ => (pg_name (i := 3) sc_letters_of.nd rfl (Or.inl rfl))) (fun _ _ _ _ _ => (pi_listK (K := K) rfl (C8.pe_c c_spots hr (by decide) (by rfl) (pa_cons (pe_ix (ixK (K := K) rfl) (pv 0) pe_int (fun _ _ => rfl)) pa_nil)))) (fun _ _ _ _ _ => (pg_name (i := 4) sc_letters_of.nd rfl (Or.inl rfl))) (fun _ _ _ _ _ => (pi_range1 (by rfl) T.n_range (pa_cons pe_int pa_nil))) (fun _ _ _ _ _ => (pg_name (i := 5) sc_letters_of.nd rfl (Or.inl rfl))) (fun _ _ _ _ _ => (pe_tup (pa_cons (pv 3) (pa_cons (pv 4) (pa_cons (pv 5) pa_nil))))))
    (pss_one (ps_ret (pe_callTy (tupK (K := K) rfl) (by rfl) T.n_tuple (by decide +kernel) (pa_cons (pe_lc (own := [("letter", 6)]) (g := gName 6) rfl sc_letters_of.nd (pi_listK (K := K) rfl (pv 2)) (blkOk_by (by kernel_rfl)) (fun _ _ _ _ _ => (pg_name (i := 6) sc_letters_of.nd rfl (Or.inl rfl))) (fun _ _ _ _ _ => (pts_one (pt_val (C8.pe_c c_is_possible hr (by decide) (by rfl) (pa_cons (pv 0) (pa_cons (pv 6) (pa_cons (pv 1) pa_nil))))))) (fun _ _ _ _ _ => (pv 6))) pa_nil)))))), .inl ?_⟩
  have hb := ht.b
  have he := ht.e
  have sp1 : ∀ (F : Fm w) (ρ : Ro), ρ[0]? = some (some (eTy ty)) → ID F K (iList K (tCall (spR w K R_spots) [] E0 (tCons (tOp (rIx K) (tVar 0) (tC (.int 1))) tNil))) ρ (((List.range (nB ty)).map fun n : Nat => (n : Int)).map .int) := fun F ρ e =>
    id_list (ed_is (ed_call (ea_cons (ed_ixT (ed_var e) ed_int rfl) ea_nil) ⟨bgs ty, rfl, ht.bn, by omega, rfl⟩) (by rw [int_map]; rfl))
  have sp2 : ∀ (F : Fm w) (ρ : Ro), ρ[0]? = some (some (eTy ty)) → ID F K (iList K (tCall (spR w K R_spots) [] E0 (tCons (tOp (rIx K) (tVar 0) (tC (.int 2))) tNil))) ρ (((List.range (nE ty)).map fun n : Nat => (n : Int)).map .int) := fun F ρ e =>
    id_list (ed_is (ed_call (ea_cons (ed_ixT (ed_var e) ed_int rfl) ea_nil) ⟨ens ty, rfl, ht.en, by omega, rfl⟩) (by rw [int_map]; rfl))
  have hr3 : ∀ (F : Fm w) ρ, ID F K (iRng1 (tCons (tC (.int 3)) tNil)) ρ (([0, 1, 2] : List Int).map .int) := fun F ρ => id_rng1 (n := 3) (ea_cons ed_int ea_nil) (by decide)
  have hlen : (lettersD ty).length ≤ 100000 := by rw [lettersD_eq, List.length_map]; have := letters_le ht; omega
  refine sd_seq (sn_drop (ed_callD (ea_cons (ed_var rfl) ea_nil) (words_dq T) ⟨rfl, rfl⟩)) (sd_seq (sn_asg (d := .list ((lettersOf ty).map eLet)) ?_) (sd_ret (ed_tupL (ea_cons (ed_is (ed_lc (lettersOf ty) eLet (fun _ => true) eLet _ [6] (id_list (ed_var rfl)) (by have := letters_le ht; omega) (by decide) (fun x _ => gd_name) (fun x _ => ?_) (fun x _ _ => ed_var rfl) fun _ _ => rfl) (by rw [List.filter_eq_self.mpr (fun _ _ => rfl)])) ea_nil))))
  · refine ed_is (ed_lcR _ (fun b => ((List.range (nE ty)).map fun n : Nat => (n : Int)).flatMap fun e => ([0, 1, 2] : List Int).flatMap fun v => [.tuple [.int b, .int e, .int v]]) (sp1 _ _ rfl) (by decide) (fun b _ => ?_) (fun b _ => tonlyAll_flat fun _ _ => rfl) hlen) (by rw [← lettersD_eq]; rfl)
    refine rd_cl _ (fun e => ([0, 1, 2] : List Int).flatMap fun v => [.tuple [.int b, .int e, .int v]]) (fun F' => sp2 _ _ rfl) (by decide) (fun e _ => ?_) (fun _ _ => rfl)
    exact rd_cl [0, 1, 2] (fun v => [.tuple [.int b, .int e, .int v]]) (fun F' => hr3 _ _) (by decide) (fun v _ => rd_app (fun F' => ed_tup (ea_cons (ed_var rfl) (ea_cons (ed_var rfl) (ea_cons (ed_var rfl) ea_nil)))) rfl) (fun _ _ => rfl)
  · exact et_val (ed_call (ea_cons (ed_var rfl) (ea_cons (ed_var rfl) (ea_cons (ed_var rfl) ea_nil))) ⟨ty, x, rfl, by have := ht.few; omega, rfl⟩)
def R_ranks_of : List D → D → Prop := fun ds d => ∃ xs : List Int, ds = [.list (xs.map .int)] ∧ xs.length < 64 ∧ d = eNs (ranksOf xs)
theorem sc_ranks_of : FnScope ["spots_taken", "order", "spot", "one"] ["spots_taken"] (defScope s_ranks_of) := ⟨rfl, rfl, rfl, by decide +kernel, rfl, by decide +kernel, by decide +kernel⟩
theorem c_ranks_of {P : Program} {w : World} {K : PySem.W.Frag} {mg : Str → Option Value} {base : Heap} (T : TT K mg) : C8.Cal P w K mg base 1 "ranks_of" (spR w K R_ranks_of) [] := by
  obtain ⟨f, fd, FD, hm⟩ := T.d_ranks_of
  refine cal_mk (ok_pure FD sc_ranks_of (fun ds d h => by obtain ⟨_, rfl, _⟩ := h; rfl) fun cdv A outer s H E hr F ds d h => ?_) hm FD.kp (FD.bindsN fun _ _ _ _ _ _ us hl => match us, hl with | [_], _ => rfl)
  obtain ⟨xs, rfl, hz, rfl⟩ := h
  refine ⟨_, (pss_cons (ps_set (i := 1) sc_ranks_of.nd rfl (Or.inr rfl) (pe_callB (cr_sortedSet rfl) (by rfl) T.n_sorted (by decide +kernel) (pa_cons (pe_callTy (cr_setL rfl) (by rfl) T.n_set (by decide +kernel) (pa_cons (pv 0) pa_nil)) pa_nil)))
    (pss_one (ps_ret (pe_callTy (tupK (K := K) rfl) (by rfl) T.n_tuple (by decide +kernel) (pa_cons (pe_lc (own := [("spot", 2)]) (g := gName 2) rfl sc_ranks_of.nd (pi_listK (K := K) rfl (pv 0)) (blkOk_by (by kernel_rfl)) (fun _ _ _ _ _ => (pg_name (i := 2) sc_ranks_of.nd rfl (Or.inr rfl))) (fun _ _ _ _ _ => pts_nil) (fun _ _ _ _ _ => (pe_callB (lenK (K := K) rfl) (by rfl) T.n_len (by decide +kernel) (pa_cons (pe_lc (own := [("one", 3)]) (g := gName 3) rfl sc_ranks_of.nd (pi_listK (K := K) rfl (pv 1)) (blkOk_by (by kernel_rfl)) (fun _ _ _ _ _ => (pg_name (i := 3) sc_ranks_of.nd rfl (Or.inl rfl))) (fun _ _ _ _ _ => (pts_one (pt_cmpR op_lt (pv 3) (pv 2) (nomark _)))) (fun _ _ _ _ _ => (pv 3))) pa_nil)))) pa_nil))))), .inl ?_⟩
  have ho : (ordI xs).length ≤ 100000 := by
    have h1 : (ordI xs).length ≤ xs.length := ordI_len xs
    omega
  refine sd_seq (sn_asg (ed_sortSet (ea_cons (ed_var rfl) ea_nil) hz)) (sd_ret (ed_is (ed_tupL (ea_cons (ed_lcA xs .int (fun x => eN (rank xs x)) _ [2] (id_list (ed_var rfl)) (by omega) (by decide) (fun x _ => gd_name) (fun x _ => ?_) fun _ _ => rfl) ea_nil)) (by unfold eNs ranksOf; rw [List.map_map]; rfl)))
  refine ed_is (ed_lenL (ea_cons (ed_lc (ordI xs) .int (fun y => decide (y < x)) .int _ [3] (id_list (ed_var rfl)) ho (by decide) (fun y _ => gd_name) (fun y _ => et_test (ed_b0 (ed_var rfl) (ed_var rfl))) (fun y _ _ => ed_var rfl) fun _ _ => rfl) ea_nil)) (by rw [List.length_map]; rfl)
end FW
end PartFun3
section PartFun4
set_option Elab.async false
set_option linter.all false
set_option maxRecDepth 100000
set_option maxHeartbeats 2000000
namespace FW
open PySem PySem.Spec PyProof.Rows L2
/-- the tables can go on from the type -/
structure Fits (tabs : List Tab) (ty : Ty) : Prop where
  le : tabs.length ≤ ty.length
  few : ty.length ≤ 3
  ok : ∀ (i : Nat) t x, tabs[i]? = some t → ty[i]? = some x → TabOk t ∧ x.1 < t.length
def ansAt (t : Tab) (x : Nat × Nat × Nat) (l : Let) : Ent := ent t x.1 (9 * sgn l.1 (2 * (x.2.1 : Int) + 1) + 3 * sgn l.2.1 (2 * (x.2.2 : Int) + 1) + l.2.2)
theorem ansOf_len {tabs : List Tab} {ty : Ty} (l : Let) (h : tabs.length ≤ ty.length) : (ansOf tabs ty l).length = tabs.length := by
  unfold ansOf; rw [List.length_zipWith]; omega
theorem ansOf_get {tabs : List Tab} {ty : Ty} {l : Let} {i : Nat} {t : Tab} {x : Nat × Nat × Nat} (h1 : tabs[i]? = some t) (h2 : ty[i]? = some x) : (ansOf tabs ty l)[i]? = some (ansAt t x l) := by
  unfold ansOf; rw [List.getElem?_zipWith, h1, h2]; rfl
def R_answers_of : List D → D → Prop := fun ds d => ∃ (tabs : List Tab) (ty : Ty) (l : Let), ds = [eTabs tabs, eTy ty, eLet l] ∧ Fits tabs ty ∧ l.2.2 < 3 ∧ d = .list ((ansOf tabs ty l).map eEnt)
theorem sc_answers_of : FnScope ["tables", "start", "letter", "found", "run", "table", "b", "e"] ["tables", "start", "letter"] (defScope s_answers_of) := ⟨rfl, rfl, rfl, by decide +kernel, rfl, by decide +kernel, by decide +kernel⟩
theorem c_answers_of {P : Program} {w : World} {K : PySem.W.Frag} {mg : Str → Option Value} {base : Heap} (T : TT K mg) : C8.Cal P w K mg base 3 "answers_of" (spR w K R_answers_of) [] := by
  have c_signs_to := c_signs_to (P := P) (w := w) (base := base) T
  have c_entry_by := c_entry_by (P := P) (w := w) (base := base) T
  obtain ⟨f, fd, FD, hm⟩ := T.d_answers_of
  refine cal_mk (ok_pure FD sc_answers_of (fun ds d h => by obtain ⟨_, _, _, rfl, _⟩ := h; rfl) fun cdv A outer s H E hr F ds d h => ?_) hm FD.kp (FD.bindsN fun _ _ _ _ _ _ us hl => match us, hl with | [_, _, _], _ => rfl)
  obtain ⟨tabs, ty, l, rfl, hf, hv, rfl⟩ := h
  refine ⟨_, (pss_cons (ps_set (i := 3) sc_answers_of.nd rfl (Or.inl rfl) (pe_lst pa_nil))
    (pss_cons (ps_for PassesOwn.never rfl (pi_enumX true (by rfl) T.n_enumerate (pa_cons (pv 0) pa_nil)) (pg_tupK (K := K) rfl rfl (pgs_cons (pg_name (i := 4) sc_answers_of.nd rfl (Or.inl rfl)) (pgs_cons (pg_name (i := 5) sc_answers_of.nd rfl (Or.inl rfl)) pgs_nil))) (pss_cons (ps_asg (C8.pe_c c_signs_to hr (by decide) (by rfl) (pa_cons (pv 2) (pa_cons (pv 1) (pa_cons (pv 4) pa_nil)))) (pg_tupK (K := K) rfl rfl (pgs_cons (pg_name (i := 6) sc_answers_of.nd rfl (Or.inl rfl)) (pgs_cons (pg_name (i := 7) sc_answers_of.nd rfl (Or.inl rfl)) pgs_nil))))
    (pss_one (ps_expr (pe_bm PySem.F.plainAttrs_list PySem.F.slot_list_append PySem.F.type_list_append mt_append (pv 3) (pa_cons (C8.pe_c c_entry_by hr (by decide) (by rfl) (pa_cons (pv 5) (pa_cons (pe_ix (ixK (K := K) rfl) (pe_ix (ixK (K := K) rfl) (pv 1) pe_int (fun _ _ => rfl)) (pv 4) (fun _ _ => rfl)) (pa_cons (pv 6) (pa_cons (pv 7) (pa_cons (pe_ix (ixK (K := K) rfl) (pv 2) pe_int (fun _ _ => rfl)) pa_nil)))))) pa_nil))))))
    (pss_one (ps_ret (pv 3))))), .inl ?_⟩
  have hle := hf.le
  have hfew := hf.few
  have hal := ansOf_len l hf.le
  have hwalk : (tabs.map eTab).zipIdx.map (fun p => PyData.tuple [.int (p.2 : Nat), p.1]) = tabs.zipIdx.map fun p => .tuple [.int (p.2 : Nat), eTab p.1] := by
    rw [List.zipIdx_map, List.map_map]; rfl
  have hacc : ∀ k, ((ansOf tabs ty l).take k).map eEnt = ((ansOf tabs ty l).map eEnt).take k := fun k => List.map_take ..
  have hfin : (((ansOf tabs ty l).take tabs.zipIdx.length).map eEnt) = (ansOf tabs ty l).map eEnt := by rw [List.length_zipIdx, ← hal, List.take_length]
  refine sd_grow (ds1 := (ansOf tabs ty l).map eEnt) ea_nil (by decide) (by exact Nat.le_of_ble_eq_true rfl) (ρ' := ro0 ["tables", "start", "letter", "found", "run", "table", "b", "e"] [eTabs tabs, eTy ty, eLet l]) ?_ (sd_ret (ed_var rfl))
  rw [← hfin]
  refine sl_for tabs.zipIdx (fun p => .tuple [.int (p.2 : Nat), eTab p.1]) (fun _ => ro0 ["tables", "start", "letter", "found", "run", "table", "b", "e"] [eTabs tabs, eTy ty, eLet l]) (fun k => ((ansOf tabs ty l).take k).map eEnt) (fun F' => by rw [← hwalk]; exact id_enumT (ea_cons (ed_var rfl) ea_nil)) (.refl _) rfl fun k p hp => ?_
  rw [List.getElem?_zipIdx] at hp
  obtain ⟨t, ht, rfl⟩ := Option.map_eq_some_iff.mp hp
  have hk : k < tabs.length := (List.getElem?_eq_some_iff.mp ht).1
  have hx : ty[k]? = some ty[k] := List.getElem?_eq_getElem (by omega)
  generalize ty[k] = x at hx
  obtain ⟨tok, hst⟩ := hf.ok k t x ht hx
  have hga := ansOf_get (l := l) ht hx
  have htk : ((ansOf tabs ty l).take (k + 1)).map eEnt = ((ansOf tabs ty l).take k).map eEnt ++ [eEnt (ansAt t x l)] := by rw [List.take_add_one, hga, List.map_append]; rfl
  have i1 := sgn_le l.1 (2 * (x.2.1 : Int) + 1)
  have i2 := sgn_le l.2.1 (2 * (x.2.2 : Int) + 1)
  obtain ⟨q, a, q1, q2, q3, _, _⟩ := ent_ok tok hst (i := 9 * sgn l.1 (2 * (x.2.1 : Int) + 1) + 3 * sgn l.2.1 (2 * (x.2.2 : Int) + 1) + l.2.2) (by omega)
  have qa : eEnt (ansAt t x l) = eEnt a := by unfold ansAt; rw [q3]
  have hs : atI ((sts ty).map eN) ((k : Nat) : Int) = some (eN x.1) := atI_nat (by rw [List.getElem?_map, sts, List.getElem?_map, hx]; rfl)
  rw [htk]
  refine ⟨[4, 5], _, _, by decide, fun F' => gd_tup2, sl_seq (sl_asgG (fun F' => ed_call (ea_cons (ed_var rfl) (ea_cons (ed_var rfl) (ea_cons (ed_is (ed_var rfl) (by simp)) ea_nil))) ⟨l, ty, k, rfl, x, hx, rfl⟩) (fun F' => gd_tup2) (by decide))
    (sl_app (fun F' => ed_call (ea_cons (ed_var rfl) (ea_cons (ed_ixT (ed_ixT (ed_var rfl) ed_int rfl) (ed_is (ed_var rfl) (by simp)) hs) (ea_cons (ed_var rfl) (ea_cons (ed_var rfl) (ea_cons (ed_ixT (ed_var rfl) ed_int rfl) ea_nil))))) ⟨t, x.1, sgn l.1 (2 * (x.2.1 : Int) + 1), sgn l.2.1 (2 * (x.2.2 : Int) + 1), l.2.2, rfl, q, a, q1, q2, qa⟩) (by rw [List.length_map, List.length_take]; omega)), ?_⟩
  exact wk_set (wk_set (wk_set (wk_set (.refl _) rfl) rfl) rfl) rfl
def R_tops_after : List D → D → Prop := fun ds d => ∃ d1 d2 d3 : D, ds = [d1, d2, d3, .str "all"] ∧ d = .tuple []
theorem sc_tops_after : FnScope ["start", "letter", "news", "rows", "found", "run", "is_new", "sign"] ["start", "letter", "news", "rows"] (defScope s_tops_after) := ⟨rfl, rfl, rfl, by decide +kernel, rfl, by decide +kernel, by decide +kernel⟩
theorem c_tops_after {P : Program} {w : World} {K : PySem.W.Frag} {mg : Str → Option Value} {base : Heap} (T : TT K mg) : C8.Cal P w K mg base 1 "tops_after" (spR w K R_tops_after) [] := by
  obtain ⟨f, fd, FD, hm⟩ := T.d_tops_after
  refine cal_mk (ok_pure FD sc_tops_after (fun ds d h => by obtain ⟨_, _, _, rfl, _⟩ := h; rfl) fun cdv A outer s H E hr F ds d h => ?_) hm FD.kp (FD.bindsN fun _ _ _ _ _ _ us hl => match us, hl with | [_, _, _, _], _ => rfl)
  obtain ⟨d1, d2, d3, rfl, rfl⟩ := h
  refine ⟨_, (pss_cons (ps_if (pt_cmpR (notInK (K := K) rfl) (pv 3) (pe_tup (pa_cons (C8.pe_gc (by rfl) T.g_BEGINS) (pa_cons (C8.pe_gc (by rfl) T.g_ENDS) pa_nil))) rfl) (pss_one (ps_ret (pe_tup pa_nil))) pss_nil)
    pss_never), .inl ?_⟩
  refine sd_when (b := true) (et_is (et_test (ed_niT (ys := ["begins", "ends"]) (ed_var rfl) (ed_tup (ea_cons ed_str (ea_cons ed_str ea_nil))))) (by decide)) (fun _ => sd_ret (ed_tup ea_nil)) fun h => nomatch h
theorem who_new (a : Ent) : decide (eWho a.1 = "new") = a.1 := by cases a.1 <;> decide
theorem sts_mk {a b c : List Nat} (h1 : a.length = b.length) (h2 : b.length = c.length) : sts (mkTy a b c) = a ∧ bgs (mkTy a b c) = b ∧ ens (mkTy a b c) = c := by
  unfold sts bgs ens mkTy
  refine ⟨List.map_fst_zip (by rw [List.length_zip]; omega), ?_, ?_⟩
  · have e : List.map (fun x : Nat × Nat × Nat => x.2.1) (List.zip a (List.zip b c)) = ((List.zip a (List.zip b c)).map Prod.snd).map Prod.fst := by rw [List.map_map]; rfl
    rw [e, List.map_snd_zip (by rw [List.length_zip]; omega), List.map_fst_zip (by omega)]
  · have e : List.map (fun x : Nat × Nat × Nat => x.2.2) (List.zip a (List.zip b c)) = ((List.zip a (List.zip b c)).map Prod.snd).map Prod.snd := by rw [List.map_map]; rfl
    rw [e, List.map_snd_zip (by rw [List.length_zip]; omega), List.map_snd_zip (by omega)]
theorem zipD {α β γ : Type} (f : α → D) (g : β → D) (h : α → β → γ) : ∀ (as : List α) (bs : List β), List.zipWith (fun d e => PyData.tuple [d, e]) (as.map f) (bs.map g) = (List.zip as bs).map fun p => .tuple [f p.1, g p.2]
  | [], _ => by simp
  | _ :: _, [] => by simp
  | a :: as, b :: bs => by simp [zipD f g h as bs]
def R_type_after : List D → D → Prop := fun ds d => ∃ (ty : Ty) (l : Let) (ans : List Ent), ds = [eTy ty, eLet l, .list (ans.map eEnt), .str "all"] ∧ ans.length = ty.length ∧ ty.length ≤ 3 ∧ d = eOpt (tyAfter ty l ans)
theorem sc_type_after : FnScope ["start", "letter", "answers", "rows", "news", "begins", "ends", "states", "who", "later", "is_new", "rank"] ["start", "letter", "answers", "rows"] (defScope s_type_after) := ⟨rfl, rfl, rfl, by decide +kernel, rfl, by decide +kernel, by decide +kernel⟩
theorem c_type_after {P : Program} {w : World} {K : PySem.W.Frag} {mg : Str → Option Value} {base : Heap} (T : TT K mg) : C8.Cal P w K mg base 2 "type_after" (spR w K R_type_after) [] := by
  have c_ranks_of := c_ranks_of (P := P) (w := w) (base := base) T
  have c_tops_after := c_tops_after (P := P) (w := w) (base := base) T
  obtain ⟨f, fd, FD, hm⟩ := T.d_type_after
  refine cal_mk (ok_pure FD sc_type_after (fun ds d h => by obtain ⟨_, _, _, rfl, _⟩ := h; rfl) fun cdv A outer s H E hr F ds d h => ?_) hm FD.kp (FD.bindsN fun _ _ _ _ _ _ us hl => match us, hl with | [_, _, _, _], _ => rfl)
  obtain ⟨ty, l, ans, rfl, hl, hz, rfl⟩ := h
  refine ⟨_, (pss_cons (ps_setLc (i := 4) (own := [("who", 8), ("later", 9)]) (g := gTup K 2 (gCons (gName 8) (gCons (gName 9) gNil))) rfl sc_type_after.nd rfl rfl (sw_true rfl rfl rfl (by decide +kernel)) (pi_listK (K := K) rfl (pv 2)) (blkOk_by (by kernel_rfl)) (fun _ _ _ _ _ => (pg_tupK (K := K) rfl rfl (pgs_cons (pg_name (i := 8) sc_type_after.nd rfl (Or.inl rfl)) (pgs_cons (pg_name (i := 9) sc_type_after.nd rfl (Or.inl rfl)) pgs_nil)))) (fun _ _ _ _ _ => pts_nil) (fun _ _ _ _ _ => (pe_cmpR op_eq (pv 8) (C8.pe_gc (by rfl) T.g_NEW) (nomark _))))
    (pss_cons (ps_if (PW.pt (pw_and (pt_cmpR op_ne (pe_ix (ixK (K := K) rfl) (pv 1) pe_int (fun _ _ => rfl)) pe_int (nomark _)) (pw_and (pt_cmpR (inK (K := K) rfl) pe_bl (pv 4) rfl) (pw_and1 (pt_cmpR (inK (K := K) rfl) pe_bl (pv 4) rfl))))) (pss_one (ps_ret pe_non)) pss_nil)
    (pss_cons (ps_setLc (i := 5) (own := [("is_new", 10), ("rank", 11)]) (g := gTup K 2 (gCons (gName 10) (gCons (gName 11) gNil))) rfl sc_type_after.nd rfl rfl (sw_true rfl rfl rfl (by decide +kernel)) (pi_zipX false true (by rfl) T.n_zip (pa_cons (pv 4) (pa_cons (pe_ix (ixK (K := K) rfl) (pv 0) pe_int (fun _ _ => rfl)) pa_nil))) (blkOk_by (by kernel_rfl)) (fun _ _ _ _ _ => (pg_tupK (K := K) rfl rfl (pgs_cons (pg_name (i := 10) sc_type_after.nd rfl (Or.inl rfl)) (pgs_cons (pg_name (i := 11) sc_type_after.nd rfl (Or.inl rfl)) pgs_nil)))) (fun _ _ _ _ _ => pts_nil) (fun _ _ _ _ _ => (pe_ifExp (pt_val (pv 10)) (pe_ix (ixK (K := K) rfl) (pv 1) pe_int (fun _ _ => rfl)) (pe_op op_add (pe_op op_mul pe_int (pv 11)) pe_int))))
    (pss_cons (ps_setLc (i := 6) (own := [("is_new", 10), ("rank", 11)]) (g := gTup K 2 (gCons (gName 10) (gCons (gName 11) gNil))) rfl sc_type_after.nd rfl rfl (sw_true rfl rfl rfl (by decide +kernel)) (pi_zipX false true (by rfl) T.n_zip (pa_cons (pv 4) (pa_cons (pe_ix (ixK (K := K) rfl) (pv 0) pe_int (fun _ _ => rfl)) pa_nil))) (blkOk_by (by kernel_rfl)) (fun _ _ _ _ _ => (pg_tupK (K := K) rfl rfl (pgs_cons (pg_name (i := 10) sc_type_after.nd rfl (Or.inl rfl)) (pgs_cons (pg_name (i := 11) sc_type_after.nd rfl (Or.inl rfl)) pgs_nil)))) (fun _ _ _ _ _ => pts_nil) (fun _ _ _ _ _ => (pe_ifExp (pt_val (pv 10)) (pe_ix (ixK (K := K) rfl) (pv 1) pe_int (fun _ _ => rfl)) (pe_op op_add (pe_op op_mul pe_int (pv 11)) pe_int))))
    (pss_cons (ps_set (i := 7) sc_type_after.nd rfl (Or.inl rfl) (pe_callTy (tupK (K := K) rfl) (by rfl) T.n_tuple (by decide +kernel) (pa_cons (pe_lc (own := [("who", 8), ("later", 9)]) (g := gTup K 2 (gCons (gName 8) (gCons (gName 9) gNil))) rfl sc_type_after.nd (pi_listK (K := K) rfl (pv 2)) (blkOk_by (by kernel_rfl)) (fun _ _ _ _ _ => (pg_tupK (K := K) rfl rfl (pgs_cons (pg_name (i := 8) sc_type_after.nd rfl (Or.inl rfl)) (pgs_cons (pg_name (i := 9) sc_type_after.nd rfl (Or.inl rfl)) pgs_nil)))) (fun _ _ _ _ _ => pts_nil) (fun _ _ _ _ _ => (pv 9))) pa_nil)))
    (pss_one (ps_ret (pe_tup (pa_cons (pv 7) (pa_cons (C8.pe_c c_ranks_of hr (by decide) (by rfl) (pa_cons (pv 5) pa_nil)) (pa_cons (C8.pe_c c_ranks_of hr (by decide) (by rfl) (pa_cons (pv 6) pa_nil)) (pa_cons (C8.pe_c c_tops_after hr (by decide) (by rfl) (pa_cons (pv 0) (pa_cons (pv 1) (pa_cons (pv 4) (pa_cons (pv 3) pa_nil))))) pa_nil)))))))))))), .inl ?_⟩
  have ha : ans.length ≤ 3 := by omega
  refine sd_seq (sn_asg (d := .list ((ans.map (·.1)).map .bool)) ?_) ?_
  · refine ed_is (ed_lcA ans eEnt (fun a => .bool a.1) _ [8, 9] (id_list (ed_var rfl)) (by omega) (by decide) (fun a _ => gd_tup2) (fun a _ => ed_is (ed_eqS (ed_var rfl) ed_str) (by rw [who_new])) fun _ _ => rfl) (by rw [List.map_map]; rfl)
  have ef : (!decide ((l.2.2 : Int) = 1) && ((ans.map (·.1)).contains true && (ans.map (·.1)).contains false)) = fails l.2.2 ans := by
    unfold fails
    congr 1
    by_cases h1 : l.2.2 = 1
    · simp [h1]
    · have : ¬ ((l.2.2 : Int) = 1) := by omega
      simp [h1, this]
  refine sd_when (b := fails l.2.2 ans) (et_is (et_and (et_test (ed_neI (ed_ixT (ed_var rfl) ed_int rfl) ed_int)) fun _ => et_and (et_test (ed_inLb (ed_bl) (ed_var rfl))) fun _ => et_test (ed_inLb ed_bl (ed_var rfl))) ef) (fun h => ?_) fun h => ?_
  · rw [tyAfter, h, if_pos rfl]
    exact sd_ret ed_non
  rw [tyAfter, h, if_neg (by decide)]
  have zb := zipD (fun b : Bool => PyData.bool b) eN (fun _ _ => ()) (ans.map (·.1)) (bgs ty)
  have ze := zipD (fun b : Bool => PyData.bool b) eN (fun _ _ => ()) (ans.map (·.1)) (ens ty)
  have lb : (List.zip (ans.map (·.1)) (bgs ty)).length ≤ 100000 := by rw [List.length_zip, List.length_map]; omega
  have le : (List.zip (ans.map (·.1)) (ens ty)).length ≤ 100000 := by rw [List.length_zip, List.length_map]; omega
  have eb : (List.zip (ans.map (·.1)) (bgs ty)).map (fun p => if p.1 then (l.1 : Int) else 2 * (p.2 : Int) + 1) = List.zipWith (spB l) ans ty := by
    rw [zipWith_zip, bgs, List.zip_map, List.map_map]; rfl
  have ee : (List.zip (ans.map (·.1)) (ens ty)).map (fun p => if p.1 then (l.2.1 : Int) else 2 * (p.2 : Int) + 1) = List.zipWith (spE l) ans ty := by
    rw [zipWith_zip, ens, List.zip_map, List.map_map]; rfl
  refine sd_seq (sn_asg (d := .list ((List.zipWith (spB l) ans ty).map .int)) ?_) (sd_seq (sn_asg (d := .list ((List.zipWith (spE l) ans ty).map .int)) ?_) (sd_seq (sn_asg (d := eNs (ans.map (·.2))) ?_) ?_))
  · refine ed_is (ed_lcA (List.zip (ans.map (·.1)) (bgs ty)) (fun p => .tuple [.bool p.1, eN p.2]) (fun p => .int (if p.1 then (l.1 : Int) else 2 * (p.2 : Int) + 1)) _ [10, 11] (id_is (id_zipLT (ea_cons (ed_var rfl) (ea_cons (ed_ixT (ed_var rfl) ed_int rfl) ea_nil))) zb) lb (by decide) (fun p _ => gd_tup2) (fun p _ => ?_) fun _ _ => rfl) (by rw [← eb, List.map_map]; rfl)
    exact ed_if (et_val (ed_var rfl)) (fun h => ed_is (ed_ixT (ed_var rfl) ed_int rfl) (by rw [if_pos h])) (fun h => ed_is (ed_i0 (ed_mul ed_int (ed_var rfl) (by decide) (by decide)) ed_int) (by rw [if_neg (by rw [h]; decide)]))
  · refine ed_is (ed_lcA (List.zip (ans.map (·.1)) (ens ty)) (fun p => .tuple [.bool p.1, eN p.2]) (fun p => .int (if p.1 then (l.2.1 : Int) else 2 * (p.2 : Int) + 1)) _ [10, 11] (id_is (id_zipLT (ea_cons (ed_var rfl) (ea_cons (ed_ixT (ed_var rfl) ed_int rfl) ea_nil))) ze) le (by decide) (fun p _ => gd_tup2) (fun p _ => ?_) fun _ _ => rfl) (by rw [← ee, List.map_map]; rfl)
    exact ed_if (et_val (ed_var rfl)) (fun h => ed_is (ed_ixT (ed_var rfl) ed_int rfl) (by rw [if_pos h])) (fun h => ed_is (ed_i0 (ed_mul ed_int (ed_var rfl) (by decide) (by decide)) ed_int) (by rw [if_neg (by rw [h]; decide)]))
  · refine ed_is (ed_tupL (ea_cons (ed_lcA ans eEnt (fun a => eN a.2) _ [8, 9] (id_list (ed_var rfl)) (by omega) (by decide) (fun a _ => gd_tup2) (fun a _ => ed_var rfl) fun _ _ => rfl) ea_nil)) (by unfold eNs; rw [List.map_map]; rfl)
  have l1 : (List.zipWith (spB l) ans ty).length = ans.length := by rw [List.length_zipWith]; omega
  have l2 : (List.zipWith (spE l) ans ty).length = ans.length := by rw [List.length_zipWith]; omega
  obtain ⟨m1, m2, m3⟩ := sts_mk (a := ans.map (·.2)) (b := ranksOf (List.zipWith (spB l) ans ty)) (c := ranksOf (List.zipWith (spE l) ans ty)) (by unfold ranksOf; rw [List.length_map, List.length_map, l1]) (by unfold ranksOf; rw [List.length_map, List.length_map, l1, l2])
  refine sd_ret (ed_is (ed_tup (ea_cons (ed_var rfl) (ea_cons (ed_call (ea_cons (ed_var rfl) ea_nil) ⟨_, rfl, by omega, rfl⟩) (ea_cons (ed_call (ea_cons (ed_var rfl) ea_nil) ⟨_, rfl, by omega, rfl⟩) (ea_cons (ed_call (ea_cons (ed_var rfl) (ea_cons (ed_var rfl) (ea_cons (ed_var rfl) (ea_cons (ed_var rfl) ea_nil)))) ⟨_, _, _, rfl, rfl⟩) ea_nil))))) ?_)
  show _ = eTy _
  unfold eTy
  rw [m1, m2, m3]
end FW
end PartFun4
section PartFun5
set_option Elab.async false
set_option linter.all false
set_option maxRecDepth 100000
set_option maxHeartbeats 2000000
namespace FW
open PySem PySem.Spec PyProof.Rows L2
def R_need_small : List D → D → Prop := fun ds d => ∃ tabs : List Tab, ds = [eTabs tabs] ∧ (tabs.length = 2 ∨ ∃ a b c : Tab, tabs = [a, b, c] ∧ a.length ≤ 100 ∧ b.length ≤ 100 ∧ a.length * b.length * c.length ≤ 8) ∧ d = .none
theorem sc_need_small : FnScope ["tables"] ["tables"] (defScope s_need_small) := ⟨rfl, rfl, rfl, by decide +kernel, rfl, by decide +kernel, by decide +kernel⟩
theorem c_need_small {P : Program} {w : World} {K : PySem.W.Frag} {mg : Str → Option Value} {base : Heap} (T : TT K mg) : C8.Cal P w K mg base 1 "need_small" (spR w K R_need_small) [] := by
  obtain ⟨f, fd, FD, hm⟩ := T.d_need_small
  refine cal_mk (ok_pure FD sc_need_small (fun ds d h => by obtain ⟨_, rfl, _⟩ := h; rfl) fun cdv A outer s H E hr F ds d h => ?_) hm FD.kp (FD.bindsN fun _ _ _ _ _ _ us hl => match us, hl with | [_], _ => rfl)
  obtain ⟨tabs, rfl, hn, rfl⟩ := h
  have len : ∀ (F : Fm w) (ρ : Ro) (t : Tab) (te : TE), ED F K te ρ (eTab t) → ED F K (tCB (rLenSeq K) (tCons te tNil)) ρ (.int (t.length : Int)) := fun F ρ t te h => ed_is (ed_lenT (ea_cons h ea_nil)) (by rw [List.length_map])
  rcases hn with hn | ⟨a, b, c, rfl, ha, hb, hm⟩
  · exact ⟨_, (pss_one (ps_if (PW.pt (pw_and (pt_cmpR op_eq (pe_callB (lenK (K := K) rfl) (by rfl) T.n_len (by decide +kernel) (pa_cons (pv 0) pa_nil)) pe_int (nomark _)) (pw_and1 (pt_cmpR op_gt (pe_op op_mul (pe_op op_mul (pe_callB (lenK (K := K) rfl) (by rfl) T.n_len (by decide +kernel) (pa_cons (pe_ix (ixK (K := K) rfl) (pv 0) pe_int (fun _ _ => rfl)) pa_nil)) (pe_callB (lenK (K := K) rfl) (by rfl) T.n_len (by decide +kernel) (pa_cons (pe_ix (ixK (K := K) rfl) (pv 0) pe_int (fun _ _ => rfl)) pa_nil))) (pe_callB (lenK (K := K) rfl) (by rfl) T.n_len (by decide +kernel) (pa_cons (pe_ix (ixK (K := K) rfl) (pv 0) pe_int (fun _ _ => rfl)) pa_nil))) (C8.pe_gc (by rfl) T.g_MOST) (nomark _))))) (pss_one ps_never) pss_nil)), .inr ⟨rfl, _, sn_whenN (et_and (b := false) (et_test (ed_eqI (ed_lenT (ea_cons (ed_var rfl) ea_nil)) ed_int)) fun h => by rw [List.length_map, hn] at h; exact absurd h (by decide)) (by rw [List.length_map, hn]; rfl)⟩⟩
  · refine ⟨_, (pss_one (ps_if (PW.pt (pw_and (pt_cmpR op_eq (pe_callB (lenK (K := K) rfl) (by rfl) T.n_len (by decide +kernel) (pa_cons (pv 0) pa_nil)) pe_int (nomark _)) (pw_and1 (pt_cmpR op_gt (pe_op op_mul (pe_op op_mul (pe_callB (lenK (K := K) rfl) (by rfl) T.n_len (by decide +kernel) (pa_cons (pe_ix (ixK (K := K) rfl) (pv 0) pe_int (fun _ _ => rfl)) pa_nil)) (pe_callB (lenK (K := K) rfl) (by rfl) T.n_len (by decide +kernel) (pa_cons (pe_ix (ixK (K := K) rfl) (pv 0) pe_int (fun _ _ => rfl)) pa_nil))) (pe_callB (lenK (K := K) rfl) (by rfl) T.n_len (by decide +kernel) (pa_cons (pe_ix (ixK (K := K) rfl) (pv 0) pe_int (fun _ _ => rfl)) pa_nil))) (C8.pe_gc (by rfl) T.g_MOST) (nomark _))))) (pss_one ps_never) pss_nil)), .inr ⟨rfl, _, sn_whenN (et_and (et_test (ed_eqI (ed_lenT (ea_cons (ed_var rfl) ea_nil)) ed_int)) fun h => et_test (ed_b0 (ed_mul (ed_mul (len _ _ a _ (ed_ixT (ed_var rfl) ed_int rfl)) (len _ _ b _ (ed_ixT (ed_var rfl) ed_int rfl)) (by omega) (by omega)) (len _ _ c _ (ed_ixT (ed_var rfl) ed_int rfl)) ?_ ?_) ed_int)) ?_⟩⟩
    · exact Int.mul_nonneg (by omega) (by omega)
    · have : a.length * b.length ≤ 100 * 100 := Nat.mul_le_mul ha hb
      have e : (a.length : Int) * (b.length : Int) = ((a.length * b.length : Nat) : Int) := by rw [Int.natCast_mul]
      rw [e]; omega
    · have e : (a.length : Int) * (b.length : Int) * (c.length : Int) = ((a.length * b.length * c.length : Nat) : Int) := by rw [Int.natCast_mul, Int.natCast_mul]
      rw [e, Bool.and_eq_false_iff]
      exact .inr (decide_eq_false (by omega))
def R_after_pass : List D → D → Prop := fun ds d => ∃ (tabs : List Tab) (ty : Ty) (l : Let), ds = [eTabs tabs, eTy ty, eLet l] ∧ Fits tabs ty ∧ tabs.length = ty.length ∧ l.2.2 < 3 ∧ d = eOpt (afterP tabs ty l)
theorem sc_after_pass : FnScope ["tables", "start", "letter"] ["tables", "start", "letter"] (defScope s_after_pass) := ⟨rfl, rfl, rfl, by decide +kernel, rfl, by decide +kernel, by decide +kernel⟩
theorem c_after_pass {P : Program} {w : World} {K : PySem.W.Frag} {mg : Str → Option Value} {base : Heap} (T : TT K mg) : C8.Cal P w K mg base 4 "after_pass" (spR w K R_after_pass) [] := by
  have c_type_after := c_type_after (P := P) (w := w) (base := base) T
  have c_answers_of := c_answers_of (P := P) (w := w) (base := base) T
  obtain ⟨f, fd, FD, hm⟩ := T.d_after_pass
  refine cal_mk (ok_pure FD sc_after_pass (fun ds d h => by obtain ⟨_, _, _, rfl, _⟩ := h; rfl) fun cdv A outer s H E hr F ds d h => ?_) hm FD.kp (FD.bindsN fun _ _ _ _ _ _ us hl => match us, hl with | [_, _, _], _ => rfl)
  obtain ⟨tabs, ty, l, rfl, hf, hl, hv, rfl⟩ := h
  refine ⟨_, (pss_one (ps_ret (C8.pe_c c_type_after hr (by decide) (by rfl) (pa_cons (pv 1) (pa_cons (pv 2) (pa_cons (C8.pe_c c_answers_of hr (by decide) (by rfl) (pa_cons (pv 0) (pa_cons (pv 1) (pa_cons (pv 2) pa_nil)))) (pa_cons pe_str pa_nil))))))), .inl ?_⟩
  exact sd_ret (ed_call (ea_cons (ed_var rfl) (ea_cons (ed_var rfl) (ea_cons (ed_call (ea_cons (ed_var rfl) (ea_cons (ed_var rfl) (ea_cons (ed_var rfl) ea_nil))) ⟨tabs, ty, l, rfl, hf, hv, rfl⟩) (ea_cons ed_str ea_nil)))) ⟨ty, l, ansPass tabs ty l, rfl, by unfold ansPass; rw [ansOf_len l hf.le, hl], hf.few, rfl⟩)
theorem Fits.take1 {tabs : List Tab} {ty : Ty} (h : Fits tabs ty) : Fits (tabs.take 1) ty := ⟨by have := h.le; rw [List.length_take]; omega, h.few, fun i t x h1 h2 => h.ok i t x (by
  rw [List.getElem?_take] at h1
  split at h1
  · exact h1
  · cases h1) h2⟩
def R_after_leave : List D → D → Prop := fun ds d => ∃ (tabs : List Tab) (ty : Ty) (l : Let), ds = [eTabs tabs, eTy ty, eLet l] ∧ Fits tabs ty ∧ tabs.length = ty.length ∧ 2 ≤ tabs.length ∧ l.2.2 < 3 ∧ d = eOpt (afterL tabs ty l)
theorem sc_after_leave : FnScope ["tables", "start", "letter", "answers", "state"] ["tables", "start", "letter"] (defScope s_after_leave) := ⟨rfl, rfl, rfl, by decide +kernel, rfl, by decide +kernel, by decide +kernel⟩
theorem c_after_leave {P : Program} {w : World} {K : PySem.W.Frag} {mg : Str → Option Value} {base : Heap} (T : TT K mg) : C8.Cal P w K mg base 4 "after_leave" (spR w K R_after_leave) [] := by
  have c_type_after := c_type_after (P := P) (w := w) (base := base) T
  have c_answers_of := c_answers_of (P := P) (w := w) (base := base) T
  obtain ⟨f, fd, FD, hm⟩ := T.d_after_leave
  refine cal_mk (ok_pure FD sc_after_leave (fun ds d h => by obtain ⟨_, _, _, rfl, _⟩ := h; rfl) fun cdv A outer s H E hr F ds d h => ?_) hm FD.kp (FD.bindsN fun _ _ _ _ _ _ us hl => match us, hl with | [_, _, _], _ => rfl)
  obtain ⟨tabs, ty, l, rfl, hf, hl, h2, hv, rfl⟩ := h
  refine ⟨_, (pss_cons (ps_set (i := 3) sc_after_leave.nd rfl (Or.inl rfl) (pe_op op_cat (C8.pe_c c_answers_of hr (by decide) (by rfl) (pa_cons (pe_slice sl_tup (pv 0) po_none (po_some pe_int)) (pa_cons (pv 1) (pa_cons (pv 2) pa_nil)))) (pe_lc (own := [("state", 4)]) (g := gName 4) rfl sc_after_leave.nd (pi_tupK (K := K) rfl (pe_slice sl_tup (pe_ix (ixK (K := K) rfl) (pv 1) pe_int (fun _ _ => rfl)) (po_some pe_int) po_none)) (blkOk_by (by kernel_rfl)) (fun _ _ _ _ _ => (pg_name (i := 4) sc_after_leave.nd rfl (Or.inl rfl))) (fun _ _ _ _ _ => pts_nil) (fun _ _ _ _ _ => (pe_tup (pa_cons (C8.pe_gc (by rfl) T.g_OLD) (pa_cons (pv 4) pa_nil)))))))
    (pss_one (ps_ret (C8.pe_c c_type_after hr (by decide) (by rfl) (pa_cons (pv 1) (pa_cons (pv 2) (pa_cons (pv 3) (pa_cons pe_str pa_nil)))))))), .inl ?_⟩
  have hfew := hf.few
  have la : (ansLeave tabs ty l).length = ty.length := by
    unfold ansLeave
    rw [List.length_append, ansOf_len l hf.take1.le, List.length_map, List.length_drop, List.length_take]; omega
  have ns : (sts ty).map eN ≠ [] := by
    intro e
    have := congrArg List.length e
    rw [List.length_map, sts, List.length_map, List.length_nil] at this
    omega
  refine sd_seq (sn_asg (d := .list ((ansLeave tabs ty l).map eEnt)) (ed_is (ed_cat (ed_call (ea_cons (ed_is (ed_slT_to (k := 1) (ed_var rfl) (by rw [List.length_map]; omega)) (by rw [← List.map_take])) (ea_cons (ed_var rfl) (ea_cons (ed_var rfl) ea_nil))) ⟨tabs.take 1, ty, l, rfl, hf.take1, hv, rfl⟩)
    (ed_lcA ((sts ty).drop 1) eN (fun s => eEnt (false, s)) _ [4] (id_is (id_tup (ed_slT_from (k := 1) (ed_ixT (ed_var rfl) ed_int rfl) (by decide) ns)) (by rw [← List.map_drop])) ?_ (by decide) (fun s _ => gd_name) (fun s _ => ed_tup (ea_cons ed_str (ea_cons (ed_var rfl) ea_nil))) fun _ _ => rfl) ?_) ?_)) (sd_ret (ed_call (ea_cons (ed_var rfl) (ea_cons (ed_var rfl) (ea_cons (ed_var rfl) (ea_cons ed_str ea_nil)))) ⟨ty, l, ansLeave tabs ty l, rfl, la, hf.few, rfl⟩))
  · rw [List.length_drop, sts, List.length_map]; omega
  · rw [List.length_map, List.length_map, List.length_drop, ansOf_len l hf.take1.le, sts, List.length_map, List.length_take]; omega
  · unfold ansLeave sts
    rw [List.map_append, ← List.map_drop, List.map_map, List.map_map]; rfl
def laters (tabs : List Tab) (ty : Ty) : List (Option Ty × Option Ty) := (lettersOf ty).map fun l => (afterP tabs ty l, afterL tabs ty l)
def R_laters_of : List D → D → Prop := fun ds d => ∃ (tabs : List Tab) (ty : Ty), ds = [eTabs tabs, eTy ty] ∧ Fits tabs ty ∧ tabs.length = ty.length ∧ 2 ≤ tabs.length ∧ TyR ty ∧ d = .list ((laters tabs ty).map ePair)
theorem sc_laters_of : FnScope ["tables", "start", "letter"] ["tables", "start"] (defScope s_laters_of) := ⟨rfl, rfl, rfl, by decide +kernel, rfl, by decide +kernel, by decide +kernel⟩
theorem c_laters_of {P : Program} {w : World} {K : PySem.W.Frag} {mg : Str → Option Value} {base : Heap} (T : TT K mg) : C8.Cal P w K mg base 5 "laters_of" (spR w K R_laters_of) [] := by
  have c_after_pass := c_after_pass (P := P) (w := w) (base := base) T
  have c_after_leave := c_after_leave (P := P) (w := w) (base := base) T
  have c_letters_of := c_letters_of (P := P) (w := w) (base := base) T
  obtain ⟨f, fd, FD, hm⟩ := T.d_laters_of
  refine cal_mk (ok_pure FD sc_laters_of (fun ds d h => by obtain ⟨_, _, rfl, _⟩ := h; rfl) fun cdv A outer s H E hr F ds d h => ?_) hm FD.kp (FD.bindsN fun _ _ _ _ _ _ us hl => match us, hl with | [_, _], _ => rfl)
  obtain ⟨tabs, ty, rfl, hf, hl, h2, ht, rfl⟩ := h
  refine ⟨_, (pss_one (ps_ret (pe_lc (own := [("letter", 2)]) (g := gName 2) rfl sc_laters_of.nd (pi_tupK (K := K) rfl (C8.pe_c c_letters_of hr (by decide) (by rfl) (pa_cons (pv 1) pa_nil))) (blkOk_by (by kernel_rfl)) (fun _ _ _ _ _ => (pg_name (i := 2) sc_laters_of.nd rfl (Or.inl rfl))) (fun _ _ _ _ _ => pts_nil) (fun _ _ _ _ _ => (pe_tup (pa_cons (C8.pe_c c_after_pass hr (by decide) (by rfl) (pa_cons (pv 0) (pa_cons (pv 1) (pa_cons (pv 2) pa_nil)))) (pa_cons (C8.pe_c c_after_leave hr (by decide) (by rfl) (pa_cons (pv 0) (pa_cons (pv 1) (pa_cons (pv 2) pa_nil)))) pa_nil))))))), .inl ?_⟩
  refine sd_ret (ed_is (ed_lcA (lettersOf ty) eLet (fun l => ePair (afterP tabs ty l, afterL tabs ty l)) _ [2] (id_tup (ed_callD (ea_cons (ed_var rfl) ea_nil) all_dq ⟨ty, rfl, ht, rfl⟩)) (by have := letters_le ht; omega) (by decide) (fun l _ => gd_name) (fun l hlm => ?_) fun _ _ => to_pair _) (by unfold laters; rw [List.map_map]; rfl))
  have hv := (mem_letters.mp hlm).2.2
  exact ed_tup (ea_cons (ed_call (ea_cons (ed_var rfl) (ea_cons (ed_var rfl) (ea_cons (ed_var rfl) ea_nil))) ⟨tabs, ty, l, rfl, hf, hl, hv, rfl⟩) (ea_cons (ed_call (ea_cons (ed_var rfl) (ea_cons (ed_var rfl) (ea_cons (ed_var rfl) ea_nil))) ⟨tabs, ty, l, rfl, hf, hl, h2, hv, rfl⟩) ea_nil))
/-! ### tables by types -/
def get {α : Type} (L : List (Ty × α)) (t : Ty) : Option α := (L.find? fun e => decide (e.1 = t)).map (·.2)
abbrev eDict {α : Type} (ev : α → D) (L : List (Ty × α)) : D := .dict (L.map fun e => (eTy e.1, ev e.2))
theorem nks_ns : ∀ {a b : List Nat}, nks (a.map eN) = nks (b.map eN) → a = b
  | [], [], _ => rfl
  | [], _ :: _, h => by simp [nks] at h
  | _ :: _, [], h => by simp [nks] at h
  | x :: xs, y :: ys, h => by
    rw [List.map_cons, List.map_cons, nks, nks] at h
    injection h with h1 h2
    have : (x : Int) = y := by injection h1
    rw [nks_ns h2]; congr 1; omega
theorem ty_ext {a b : Ty} (h1 : sts a = sts b) (h2 : bgs a = bgs b) (h3 : ens a = ens b) : a = b := by
  have e : ∀ t : Ty, t = List.zip (sts t) (List.zip (bgs t) (ens t)) := fun t => by
    unfold sts bgs ens
    rw [List.zip_map', List.zip_map']
    simp
  rw [e a, e b, h1, h2, h3]
theorem nk_ty {a b : Ty} : nk (eTy a) = nk (eTy b) ↔ a = b := by
  refine ⟨fun h => ?_, fun h => by rw [h]⟩
  simp only [eTy, nk, nks, NestedKey.tup.injEq, List.cons.injEq, and_true] at h
  exact ty_ext (nks_ns h.1) (nks_ns h.2.1) (nks_ns h.2.2)
theorem getD_ty {α : Type} {ev : α → D} (L : List (Ty × α)) (t : Ty) : getD (L.map fun e => (eTy e.1, ev e.2)) (eTy t) = (get L t).map ev := by
  unfold getD get
  induction L with
  | nil => rfl
  | cons e L ih =>
    rw [List.map_cons]
    by_cases h : e.1 = t
    · have h' : nk (eTy e.1) = nk (eTy t) := by rw [h]
      simp [List.find?_cons, h, h']
    · have h' : ¬ nk (eTy e.1) = nk (eTy t) := fun q => h (nk_ty.mp q)
      simp only [List.find?_cons, h, h', decide_false]
      exact ih
theorem dep_ns : ∀ a : List Nat, NestedKey.depthAll (nks (a.map eN)) = 0
  | [] => rfl
  | x :: xs => by
    rw [List.map_cons, nks, NestedKey.depthAll, dep_ns xs]; rfl
theorem dep_ty (t : Ty) : (nk (eTy t)).depth ≤ 8 := by
  simp only [eTy, nk, nks, NestedKey.depth, NestedKey.depthAll, dep_ns]
  decide
section
variable {w : World} {F : Fm w} {K : PySem.W.Frag} {ρ : Ro} {ta tb : TE} {α : Type} {ev : α → D} {L : List (Ty × α)} {t : Ty}
theorem ed_inTy (ha : ED F K ta ρ (eTy t)) (hb : ED F K tb ρ (eDict ev L)) : ED F K (tOp (rInDt w K false) ta tb) ρ (.bool (get L t).isSome) := ed_is (ed_inDt (neg := false) ha hb (to_ty t) (dep_ty t) no_ty) (by rw [getD_ty, Option.isSome_map]; rfl)
theorem ed_niTy (ha : ED F K ta ρ (eTy t)) (hb : ED F K tb ρ (eDict ev L)) : ED F K (tOp (rInDt w K true) ta tb) ρ (.bool (!(get L t).isSome)) := ed_is (ed_inDt (neg := true) ha hb (to_ty t) (dep_ty t) no_ty) (by rw [getD_ty, Option.isSome_map]; rfl)
theorem ed_ixTy {v : α} (ha : ED F K ta ρ (eDict ev L)) (hb : ED F K tb ρ (eTy t)) (h : get L t = some v) : ED F K (tOp (rIxDt w K) ta tb) ρ (ev v) := ed_ixDt ha hb (to_ty t) (dep_ty t) no_ty (by rw [getD_ty, h]; rfl)
end
abbrev Lost := List (Ty × (Nat × Nat))
abbrev eRank (r : Nat × Nat) : D := .tuple [eN r.1, eN r.2]
def gone (L : Lost) : Option Ty → Bool
  | none => true
  | some t => (get L t).isSome
def kept (L : Lost) : Option Ty → Bool
  | none => false
  | some t => !(get L t).isSome
def R_is_kept : List D → D → Prop := fun ds d => ∃ (o : Option Ty) (L : Lost), ds = [eOpt o, eDict eRank L] ∧ d = .bool (kept L o)
theorem sc_is_kept : FnScope ["later", "lost"] ["later", "lost"] (defScope s_is_kept) := ⟨rfl, rfl, rfl, by decide +kernel, rfl, by decide +kernel, by decide +kernel⟩
theorem c_is_kept {P : Program} {w : World} {K : PySem.W.Frag} {mg : Str → Option Value} {base : Heap} (T : TT K mg) : C8.Cal P w K mg base 1 "is_kept" (spR w K R_is_kept) [] := by
  obtain ⟨f, fd, FD, hm⟩ := T.d_is_kept
  refine cal_mk (ok_pure FD sc_is_kept (fun ds d h => by obtain ⟨_, _, rfl, _⟩ := h; rfl) fun cdv A outer s H E hr F ds d h => ?_) hm FD.kp (FD.bindsN fun _ _ _ _ _ _ us hl => match us, hl with | [_, _], _ => rfl)
  obtain ⟨o, L, rfl, rfl⟩ := h
  refine ⟨_, (pss_one (ps_ret (pe_and (pe_cmpR op_notN (pv 0) pe_non (nomark _)) (pe_one (pe_cmpR (notin_dtK (w := w) (K := K) hr.units rfl rfl) (pv 0) (pv 1) rfl))))), .inl ?_⟩
  cases o with
  | none => exact sd_ret (ed_is (ed_andV (b := false) (ed_notN (ed_var rfl)) fun h => nomatch h) rfl)
  | some t => exact sd_ret (ed_is (ed_andV (ed_notN (ed_var rfl)) fun _ => ed_niTy (ed_var rfl) (ed_var rfl)) (by simp [isN, kept]))
def bad (L : Lost) (p : Option Ty × Option Ty) : Bool := gone L p.1 && gone L p.2
def R_lost_letter : List D → D → Prop := fun ds d => ∃ (ps : List (Option Ty × Option Ty)) (L : Lost), ds = [.list (ps.map ePair), eDict eRank L] ∧ d = (match ps.findIdx? (bad L) with | none => .none | some k => eN k)
theorem sc_lost_letter : FnScope ["pairs", "lost", "number", "pair", "later"] ["pairs", "lost"] (defScope s_lost_letter) := ⟨rfl, rfl, rfl, by decide +kernel, rfl, by decide +kernel, by decide +kernel⟩
theorem c_lost_letter {P : Program} {w : World} {K : PySem.W.Frag} {mg : Str → Option Value} {base : Heap} (T : TT K mg) : C8.Cal P w K mg base 1 "lost_letter" (spR w K R_lost_letter) [] := by
  obtain ⟨f, fd, FD, hm⟩ := T.d_lost_letter
  refine cal_mk (ok_pure FD sc_lost_letter (fun ds d h => by obtain ⟨_, _, rfl, _⟩ := h; rfl) fun cdv A outer s H E hr F ds d h => ?_) hm FD.kp (FD.bindsN fun _ _ _ _ _ _ us hl => match us, hl with | [_, _], _ => rfl)
  obtain ⟨ps, L, rfl, rfl⟩ := h
  refine ⟨_, (pss_cons (ps_for PassesOwn.never rfl (pi_enumX false (by rfl) T.n_enumerate (pa_cons (pv 0) pa_nil)) (pg_tupK (K := K) rfl rfl (pgs_cons (pg_name (i := 2) sc_lost_letter.nd rfl (Or.inl rfl)) (pgs_cons (pg_name (i := 3) sc_lost_letter.nd rfl (Or.inl rfl)) pgs_nil))) (pss_one (ps_if (pt_val (pe_callB (allK (K := K) rfl rfl) (by rfl) T.n_all (by decide +kernel) (pa_cons (pe_lc (own := [("later", 4)]) (g := gName 4) rfl sc_lost_letter.nd (pi_tupK (K := K) rfl (pv 3)) (blkOk_by (by kernel_rfl)) (fun _ _ _ _ _ => (pg_name (i := 4) sc_lost_letter.nd rfl (Or.inl rfl))) (fun _ _ _ _ _ => pts_nil) (fun _ _ _ _ _ => (pe_or (pe_cmpR op_isN (pv 4) pe_non (nomark _)) (pe_one (pe_cmpR (in_dtK (w := w) (K := K) hr.units rfl rfl) (pv 4) (pv 1) rfl))))) pa_nil))) (pss_one (ps_ret (pv 2))) pss_nil)))
    (pss_one (ps_ret pe_non))), .inl ?_⟩
  let ρ0 : Ro := ro0 ["pairs", "lost", "number", "pair", "later"] [.list (ps.map ePair), eDict eRank L]
  have tst : ∀ (i : Nat) (p : Option Ty × Option Ty), ET F K (tB (tCB (rAll K) (tCons (tLc (iTup K (tVar 3)) (gName 4) tYes (tOrV (tOp (fun x y H Q => y = .non ∧ Q (.bl (decide (x = .non))) H) (tVar 4) (tC .non)) (tOp (rInDt w K false) (tVar 4) (tVar 1))) [4]) tNil))) ((ρ0.set 2 (some (eN i))).set 3 (some (ePair p))) (bad L p) := fun i p => by
    refine et_is (et_val (ed_allL (bs := [gone L p.1, gone L p.2]) (ea_cons (ed_is (ed_lcA [p.1, p.2] eOpt (fun o => .bool (gone L o)) (fun o => (wipeR ((ρ0.set 2 (some (eN i))).set 3 (some (ePair p))) [4]).set 4 (some (eOpt o))) [4] (id_tup (ed_var rfl)) (by show 2 ≤ 100000; decide) (by decide) (fun o _ => gd_name) (fun o _ => ?_) fun _ _ => rfl) rfl) ea_nil))) (by simp [bad])
    cases o with
    | none => exact ed_is (ed_orV (b := false) (ed_isN (ed_var rfl)) fun h => nomatch h) rfl
    | some t => exact ed_is (ed_orV (ed_isN (ed_var rfl)) fun _ => ed_inTy (ed_var rfl) (ed_var rfl)) rfl
  have wk : ∀ (i : Nat) (p : Option Ty × Option Ty), Wk ((ρ0.set 2 (some (eN i))).set 3 (some (ePair p))) ρ0 := fun i p => wk_set (wk_set (.refl _) rfl) rfl
  have hid : ∀ (F : Fm w), ID F K (iEnumX K false (tCons (tVar 0) tNil)) ρ0 (ps.zipIdx.map fun q => .tuple [eN q.2, ePair q.1]) := fun F => id_is (id_enumL (ea_cons (ed_var rfl) ea_nil)) (by rw [List.zipIdx_map, List.map_map]; rfl)
  have at_ : ∀ (i : Nat) (q : (Option Ty × Option Ty) × Nat), ps.zipIdx[i]? = some q → ps[i]? = some q.1 ∧ q.2 = i := fun i q e => by
    rw [List.getElem?_zipIdx] at e
    obtain ⟨p, hp, rfl⟩ := Option.map_eq_some_iff.mp e
    exact ⟨hp, by simp⟩
  cases hc : ps.findIdx? (bad L) with
  | none =>
    have hno := List.findIdx?_eq_none_iff.mp hc
    refine sd_seq (sn_for ps.zipIdx (fun q => .tuple [eN q.2, ePair q.1]) (fun _ => ρ0) (hid F) (.refl _) fun i q hq => ?_) (sd_ret ed_non)
    obtain ⟨hp, _⟩ := at_ i q hq
    exact ⟨[2, 3], _, _, gd_tup2, sn_whenN (tst q.2 q.1) (by simpa using hno q.1 (List.mem_of_getElem? hp)), wk _ _⟩
  | some k =>
    obtain ⟨hk, hb, hno⟩ := List.findIdx?_eq_some_iff_getElem.mp hc
    refine sd_seqR (sd_for ps.zipIdx (fun q => .tuple [eN q.2, ePair q.1]) (fun _ => ρ0) k (by rw [List.length_zipIdx]; exact hk) (hid F) (.refl _) (fun i q hik hq => ?_) fun q hq => ?_)
    · obtain ⟨hp, _⟩ := at_ i q hq
      obtain ⟨hi, rfl'⟩ := List.getElem?_eq_some_iff.mp hp
      exact ⟨[2, 3], _, _, gd_tup2, sn_whenN (tst q.2 q.1) (by rw [← rfl']; simpa using hno i hik), wk _ _⟩
    · obtain ⟨hp, e⟩ := at_ k q hq
      obtain ⟨hi, e2⟩ := List.getElem?_eq_some_iff.mp hp
      exact ⟨[2, 3], _, gd_tup2, sd_if (b := true) (et_is (tst q.2 q.1) (by rw [← e2]; exact hb)) (fun _ => sd_ret (ed_is (ed_var rfl) (by rw [e]))) fun h => nomatch h⟩
def R_choices_at : List D → D → Prop := fun ds d => ∃ (ps : List (Option Ty × Option Ty)) (L : Lost), ds = [.list (ps.map ePair), eDict eRank L] ∧ ps.length ≤ 1000 ∧ d = .tuple (ps.map fun p => .str (if kept L p.1 then "pass" else "leave"))
theorem sc_choices_at : FnScope ["pairs", "lost", "pair"] ["pairs", "lost"] (defScope s_choices_at) := ⟨rfl, rfl, rfl, by decide +kernel, rfl, by decide +kernel, by decide +kernel⟩
theorem c_choices_at {P : Program} {w : World} {K : PySem.W.Frag} {mg : Str → Option Value} {base : Heap} (T : TT K mg) : C8.Cal P w K mg base 2 "choices_at" (spR w K R_choices_at) [] := by
  have c_is_kept := c_is_kept (P := P) (w := w) (base := base) T
  obtain ⟨f, fd, FD, hm⟩ := T.d_choices_at
  refine cal_mk (ok_pure FD sc_choices_at (fun ds d h => by obtain ⟨_, _, rfl, _⟩ := h; rfl) fun cdv A outer s H E hr F ds d h => ?_) hm FD.kp (FD.bindsN fun _ _ _ _ _ _ us hl => match us, hl with | [_, _], _ => rfl)
  obtain ⟨ps, L, rfl, hz, rfl⟩ := h
  refine ⟨_, (pss_one (ps_ret (pe_callTy (tupK (K := K) rfl) (by rfl) T.n_tuple (by decide +kernel) (pa_cons (pe_lc (own := [("pair", 2)]) (g := gName 2) rfl sc_choices_at.nd (pi_listK (K := K) rfl (pv 0)) (blkOk_by (by kernel_rfl)) (fun _ _ _ _ _ => (pg_name (i := 2) sc_choices_at.nd rfl (Or.inl rfl))) (fun _ _ _ _ _ => pts_nil) (fun _ _ _ _ _ => (pe_ifExp (pt_val (C8.pe_c c_is_kept hr (by decide) (by rfl) (pa_cons (pe_ix (ixK (K := K) rfl) (pv 2) pe_int (fun _ _ => rfl)) (pa_cons (pv 1) pa_nil)))) (C8.pe_gc (by rfl) T.g_PASS) (C8.pe_gc (by rfl) T.g_LEAVE)))) pa_nil)))), .inl ?_⟩
  refine sd_ret (ed_tupL (ea_cons (ed_lcA ps ePair (fun p => .str (if kept L p.1 then "pass" else "leave")) _ [2] (id_list (ed_var rfl)) (by omega) (by decide) (fun p _ => gd_name) (fun p _ => ?_) fun _ _ => rfl) ea_nil))
  exact ed_if (et_val (ed_call (ea_cons (ed_ixT (ed_var rfl) ed_int rfl) (ea_cons (ed_var rfl) ea_nil)) ⟨p.1, L, rfl, rfl⟩)) (fun h => ed_is ed_str (by rw [h]; rfl)) (fun h => ed_is ed_str (by rw [h]; rfl))
end FW
end PartFun5
section PartFun6
set_option Elab.async false
set_option linter.all false
set_option maxRecDepth 100000
set_option maxHeartbeats 2000000
namespace FW
open PySem PySem.Spec PyProof.Rows L2
theorem canLay_map {α : Type} {f : α → D} : ∀ {xs : List α}, (∀ x ∈ xs, (f x).canLay0 = true) → PyData.canLayAll0 (xs.map f) = true
  | [], _ => rfl
  | x :: xs, h => by
    rw [List.map_cons, PyData.canLayAll0, h x List.mem_cons_self, canLay_map fun y hy => h y (List.mem_cons_of_mem _ hy)]; rfl
theorem shaped_of {d : D} (h : d.canLay0 = true) (z : d.depth ≤ 64) : SeqAt.shaped d = true := by
  unfold SeqAt.shaped; rw [h, decide_eq_true z]; rfl
theorem str_who (b : Bool) : PyData.strOk (eWho b) = true := by cases b <;> decide +kernel
theorem lay_st (q : List Ent) : (eSt q).canLay0 = true := by
  rw [eSt, PyData.canLay0]
  refine canLay_map fun e _ => ?_
  simp only [eEnt, PyData.canLay0, PyData.canLayAll0, str_who, Bool.and_self]
theorem lay_ty (t : Ty) : (eTy t).canLay0 = true := by
  have h : ∀ l : List Nat, PyData.canLayAll0 (l.map eN) = true := fun l => canLay_map fun _ _ => rfl
  simp only [eTy, PyData.canLay0, PyData.canLayAll0, h, Bool.and_self]
theorem depthAll_le {n : Nat} : ∀ {ds : List D}, (∀ d ∈ ds, d.depth ≤ n) → PyData.depthAll ds ≤ n
  | [], _ => Nat.zero_le _
  | d :: ds, h => by
    rw [PyData.depthAll]
    exact Nat.max_le.mpr ⟨h d List.mem_cons_self, depthAll_le fun x hx => h x (List.mem_cons_of_mem _ hx)⟩
theorem eqv_nil {ds : List D} : PyData.eqv (.list ds) (.list []) = ds.isEmpty := by
  cases ds <;> simp [PyData.eqv, PyData.eqvAll]
def R_l_sign : List D → D → Prop := fun ds d => ∃ i j : Int, ds = [.int i, .int j] ∧ d = eN (sgn i j)
theorem sc_l_sign : FnScope ["_law_one", "_law_other"] ["_law_one", "_law_other"] (defScope s_l_sign) := ⟨rfl, rfl, rfl, by decide +kernel, rfl, by decide +kernel, by decide +kernel⟩
theorem c_l_sign {P : Program} {w : World} {K : PySem.W.Frag} {mg : Str → Option Value} {base : Heap} (T : TT K mg) : C8.Cal P w K mg base 1 "_law_sign" (spR w K R_l_sign) [] := by
  obtain ⟨f, fd, FD, hm⟩ := T.d_l_sign
  refine cal_mk (ok_pure FD sc_l_sign (fun ds d h => by obtain ⟨_, _, rfl, _⟩ := h; rfl) fun cdv A outer s H E hr F ds d h => ?_) hm FD.kp (FD.bindsN fun _ _ _ _ _ _ us hl => match us, hl with | [_, _], _ => rfl)
  obtain ⟨i, j, rfl, rfl⟩ := h
  refine ⟨_, (pss_one (ps_ret (pe_op op_sub (pe_op op_add pe_int (pe_callTy call_int1 (by rfl) T.n_int (by decide +kernel) (pa_cons (pe_cmpR op_gt (pv 0) (pv 1) (nomark _)) pa_nil))) (pe_callTy call_int1 (by rfl) T.n_int (by decide +kernel) (pa_cons (pe_cmpR op_lt (pv 0) (pv 1) (nomark _)) pa_nil))))), .inl ?_⟩
  refine sd_ret (ed_is (ed_i0 (ed_i0 ed_int (ed_intB (ea_cons (ed_b0 (ed_var rfl) (ed_var rfl)) ea_nil))) (ed_intB (ea_cons (ed_b0 (ed_var rfl) (ed_var rfl)) ea_nil))) (congrArg PyData.int (sgn_def i j)))
theorem rank_first {xs : List Int} {x : Int} (h : x ∈ xs) : ∀ m, m < rank xs x → (ordI xs)[m]? ≠ some x := fun m hm e => by
  have := (asc_get (asc_ordI xs) e (rank_get h)).mp hm
  omega
def R_l_ranks : List D → D → Prop := fun ds d => ∃ xs : List Int, ds = [.list (xs.map .int)] ∧ xs.length < 64 ∧ d = eNs (ranksOf xs)
theorem sc_l_ranks : FnScope ["_law_numbers", "_law_order", "_law_number_here"] ["_law_numbers"] (defScope s_l_ranks) := ⟨rfl, rfl, rfl, by decide +kernel, rfl, by decide +kernel, by decide +kernel⟩
theorem c_l_ranks {P : Program} {w : World} {K : PySem.W.Frag} {mg : Str → Option Value} {base : Heap} (T : TT K mg) : C8.Cal P w K mg base 1 "_law_ranks" (spR w K R_l_ranks) [] := by
  obtain ⟨f, fd, FD, hm⟩ := T.d_l_ranks
  refine cal_mk (ok_pure FD sc_l_ranks (fun ds d h => by obtain ⟨_, rfl, _⟩ := h; rfl) fun cdv A outer s H E hr F ds d h => ?_) hm FD.kp (FD.bindsN fun _ _ _ _ _ _ us hl => match us, hl with | [_], _ => rfl)
  obtain ⟨xs, rfl, hz, rfl⟩ := h
  refine ⟨_, (pss_cons (ps_set (i := 1) sc_l_ranks.nd rfl (Or.inr rfl) (pe_callB (cr_sortedSet rfl) (by rfl) T.n_sorted (by decide +kernel) (pa_cons (pe_callTy (cr_setL rfl) (by rfl) T.n_set (by decide +kernel) (pa_cons (pv 0) pa_nil)) pa_nil)))
    (pss_one (ps_ret (pe_callTy (tupK (K := K) rfl) (by rfl) T.n_tuple (by decide +kernel) (pa_cons (pe_lc (own := [("_law_number_here", 2)]) (g := gName 2) rfl sc_l_ranks.nd (pi_listK (K := K) rfl (pv 0)) (blkOk_by (by kernel_rfl)) (fun _ _ _ _ _ => (pg_name (i := 2) sc_l_ranks.nd rfl (Or.inl rfl))) (fun _ _ _ _ _ => pts_nil) (fun _ _ _ _ _ => (pe_bmK (K := K) (r := rIndex) rfl PySem.F.plainAttrs_list PySem.F.slot_list_index PySem.F.type_list_index mt_index (pv 1) (pa_cons (pv 2) pa_nil)))) pa_nil))))), .inl ?_⟩
  refine sd_seq (sn_asg (ed_sortSet (ea_cons (ed_var rfl) ea_nil) hz)) (sd_ret (ed_is (ed_tupL (ea_cons (ed_lcA xs .int (fun x => eN (rank xs x)) _ [2] (id_list (ed_var rfl)) (by omega) (by decide) (fun x _ => gd_name) (fun x hx => ?_) fun _ _ => rfl) ea_nil)) (by unfold eNs ranksOf; rw [List.map_map]; rfl)))
  exact ed_index (ed_var rfl) (ed_var rfl) (rank_get hx) (rank_first hx)
def calmAt (q : List Ent) : Bool := ((List.range 9).map fun i => (q.getD (1 + 3 * i) (false, 0)).1).contains true
def calmB (t : Tab) : Bool := (t.filter calmAt).isEmpty
theorem calmB_ok {t : Tab} (h : calmB t = true) : Calm t := by
  intro s hs b e hb he
  unfold calmB at h
  rw [List.isEmpty_iff, List.filter_eq_nil_iff] at h
  have h1 := h t[s] (List.getElem_mem hs)
  have hg : t.getD s [] = t[s] := by rw [List.getD_eq_getElem?_getD, List.getElem?_eq_getElem hs]; rfl
  unfold ent
  rw [hg]
  cases c : ((t[s]).getD (9 * b + 3 * e + 1) (false, 0)).1 with
  | false => rfl
  | true =>
    refine absurd ?_ h1
    unfold calmAt
    rw [List.contains_iff_mem, List.mem_map]
    refine ⟨3 * b + e, by simp; omega, ?_⟩
    rw [show 1 + 3 * (3 * b + e) = 9 * b + 3 * e + 1 by omega]; exact c
def R_l_is_calm : List D → D → Prop := fun ds d => ∃ t : Tab, ds = [eTab t] ∧ t.length ≤ 1000 ∧ (∀ q ∈ t, q.length = 27) ∧ d = .bool (calmB t)
theorem sc_l_is_calm : FnScope ["_law_table_here", "_law_state", "_law_k"] ["_law_table_here"] (defScope s_l_is_calm) := ⟨rfl, rfl, rfl, by decide +kernel, rfl, by decide +kernel, by decide +kernel⟩
theorem c_l_is_calm {P : Program} {w : World} {K : PySem.W.Frag} {mg : Str → Option Value} {base : Heap} (T : TT K mg) : C8.Cal P w K mg base 1 "_law_is_calm" (spR w K R_l_is_calm) [] := by
  obtain ⟨f, fd, FD, hm⟩ := T.d_l_is_calm
  refine cal_mk (ok_pure FD sc_l_is_calm (fun ds d h => by obtain ⟨_, rfl, _⟩ := h; rfl) fun cdv A outer s H E hr F ds d h => ?_) hm FD.kp (FD.bindsN fun _ _ _ _ _ _ us hl => match us, hl with | [_], _ => rfl)
  obtain ⟨t, rfl, hz, hl, rfl⟩ := h
  refine ⟨_, (pss_one (ps_ret (pe_cmpR (eqDK (K := K) hr.units rfl) (pe_lc (own := [("_law_state", 1)]) (g := gName 1) rfl sc_l_is_calm.nd (pi_tupK (K := K) rfl (pv 0)) (blkOk_by (by kernel_rfl)) (fun _ _ _ _ _ => (pg_name (i := 1) sc_l_is_calm.nd rfl (Or.inr rfl))) (fun _ _ _ _ _ => (pts_one (pt_cmpR (inK (K := K) rfl) pe_str (pe_lc (own := [("_law_k", 2)]) (g := gName 2) rfl sc_l_is_calm.nd (pi_range3 (by rfl) T.n_range (pa_cons pe_int (pa_cons pe_int (pa_cons pe_int pa_nil)))) (blkOk_by (by kernel_rfl)) (fun _ _ _ _ _ => (pg_name (i := 2) sc_l_is_calm.nd rfl (Or.inl rfl))) (fun _ _ _ _ _ => pts_nil) (fun _ _ _ _ _ => (pe_ix (ixK (K := K) rfl) (pe_ix (ixK (K := K) rfl) (pv 1) (pv 2) (fun _ _ => rfl)) pe_int (fun _ _ => rfl)))) rfl))) (fun _ _ _ _ _ => (pv 1))) (pe_lst pa_nil) (nomark _)))), .inl ?_⟩
  have em : ∀ b : Bool, decide (("new" : Str) = eWho b) = b := fun b => by cases b <;> decide
  refine sd_ret (ed_is (ed_eqD (d1 := .list ((t.filter calmAt).map eSt)) (ed_lc t eSt calmAt eSt _ [1] (id_tup (ed_var rfl)) (by omega) (by decide) (fun q _ => gd_name) (fun q hq => ?_) (fun q _ _ => ed_var rfl) fun q _ => to_st q) (ed_lst ea_nil) ?_ rfl) (by rw [eqv_nil, List.isEmpty_map]; rfl))
  · have hid : (List.range (9 : Nat)).map (fun i => PyData.int (1 + (i : Nat) * 3)) = (List.range 9).map fun i => .int (1 + (i : Nat) * 3) := rfl
    refine et_is (et_test (ed_inLs (x := "new") (ys := (List.range 9).map fun i => eWho (q.getD (1 + 3 * i) (false, 0)).1) ed_str (ed_is (ed_lcA (List.range 9) (fun i => .int (1 + (i : Nat) * 3)) (fun i => .str (eWho (q.getD (1 + 3 * i) (false, 0)).1)) _ [2] (id_rng3 (lo := 1) (hi := 27) (c := 3) (n := 9) (ea_cons ed_int (ea_cons ed_int (ea_cons ed_int ea_nil))) ⟨by decide, by decide, by decide, by decide⟩) (by decide) (by decide) (fun i _ => gd_name) (fun i hi => ?_) fun _ _ => rfl) (by rw [List.map_map]; rfl)))) ?_
    · have hi9 : i < 9 := by simpa using hi
      have hq27 := hl q hq
      have hget : q[1 + 3 * i]? = some (q[1 + 3 * i]'(by omega)) := List.getElem?_eq_getElem (by omega)
      refine ed_is (ed_ixT (d := .str (eWho (q[1 + 3 * i]'(by omega)).1)) (ed_ixT (d := eEnt (q[1 + 3 * i]'(by omega))) (ed_var rfl) (ed_var rfl) ?_) ed_int rfl) ?_
      · have : (1 + (i : Nat) * 3 : Int) = ((1 + 3 * i : Nat) : Int) := by omega
        rw [this]
        exact atI_nat (by rw [List.getElem?_map, hget]; rfl)
      · rw [List.getD_eq_getElem?_getD, hget]; rfl
    · unfold calmAt
      rw [Bool.eq_iff_iff, decide_eq_true_iff, List.contains_iff_mem, List.mem_map, List.mem_map]
      constructor
      · rintro ⟨i, hi, e⟩
        refine ⟨i, hi, ?_⟩
        cases c : (q.getD (1 + 3 * i) (false, 0)).1 with
        | true => rfl
        | false => rw [c] at e; exact absurd e (by decide)
      · rintro ⟨i, hi, e⟩
        exact ⟨i, hi, by rw [e]; rfl⟩
  · refine shaped_of ?_ ?_
    · rw [PyData.canLay0]; exact canLay_map fun q _ => lay_st q
    · show PyData.depthAll _ + 1 ≤ 64
      have := depthAll_le (n := 10) (ds := (t.filter calmAt).map eSt) fun d hd => by
        obtain ⟨q, _, rfl⟩ := List.mem_map.mp hd
        show PyData.depthAll _ + 1 ≤ 10
        have := depthAll_le (n := 5) (ds := q.map eEnt) fun d hd => by
          obtain ⟨a, _, rfl⟩ := List.mem_map.mp hd
          exact Nat.le_of_ble_eq_true rfl
        omega
      omega
theorem sts_mk' (a b c : List Nat) (h1 : a.length = b.length) (h2 : b.length = c.length) : sts (mkTy a b c) = a ∧ bgs (mkTy a b c) = b ∧ ens (mkTy a b c) = c := by
  unfold sts bgs ens mkTy
  refine ⟨List.map_fst_zip (by rw [List.length_zip]; omega), ?_, ?_⟩
  · have e : List.map (fun x : Nat × Nat × Nat => x.2.1) (List.zip a (List.zip b c)) = ((List.zip a (List.zip b c)).map Prod.snd).map Prod.fst := by rw [List.map_map]; rfl
    rw [e, List.map_snd_zip (by rw [List.length_zip]; omega), List.map_fst_zip (by omega)]
  · have e : List.map (fun x : Nat × Nat × Nat => x.2.2) (List.zip a (List.zip b c)) = ((List.zip a (List.zip b c)).map Prod.snd).map Prod.snd := by rw [List.map_map]; rfl
    rw [e, List.map_snd_zip (by rw [List.length_zip]; omega), List.map_snd_zip (by omega)]
def R_l_head : List D → D → Prop := fun ds d => ∃ rs : List Run, ds = [.list (rs.map eRun)] ∧ rs.length ≤ 3 ∧ d = eTy (headOf rs)
theorem sc_l_head : FnScope ["_law_runs", "_law_begins", "_law_ends", "_law_state", "_law_owner"] ["_law_runs"] (defScope s_l_head) := ⟨rfl, rfl, rfl, by decide +kernel, rfl, by decide +kernel, by decide +kernel⟩
theorem c_l_head {P : Program} {w : World} {K : PySem.W.Frag} {mg : Str → Option Value} {base : Heap} (T : TT K mg) : C8.Cal P w K mg base 2 "_law_head" (spR w K R_l_head) [] := by
  have c_l_ranks := c_l_ranks (P := P) (w := w) (base := base) T
  obtain ⟨f, fd, FD, hm⟩ := T.d_l_head
  refine cal_mk (ok_pure FD sc_l_head (fun ds d h => by obtain ⟨_, rfl, _⟩ := h; rfl) fun cdv A outer s H E hr F ds d h => ?_) hm FD.kp (FD.bindsN fun _ _ _ _ _ _ us hl => match us, hl with | [_], _ => rfl)
  obtain ⟨rs, rfl, hz, rfl⟩ := h
  refine ⟨_, (pss_cons (ps_par (i := 1) (j := 2) rfl sc_l_head.nd rfl rfl (by decide) rfl rfl (pa_cons (pe_lc (own := [("_law_state", 3), ("_law_owner", 4)]) (g := gTup K 2 (gCons (gName 3) (gCons (gName 4) gNil))) rfl sc_l_head.nd (pi_listK (K := K) rfl (pv 0)) (blkOk_by (by kernel_rfl)) (fun _ _ _ _ _ => (pg_tupK (K := K) rfl rfl (pgs_cons (pg_name (i := 3) sc_l_head.nd rfl (Or.inl rfl)) (pgs_cons (pg_name (i := 4) sc_l_head.nd rfl (Or.inl rfl)) pgs_nil)))) (fun _ _ _ _ _ => pts_nil) (fun _ _ _ _ _ => (pe_ix (ixK (K := K) rfl) (pv 4) pe_int (fun _ _ => rfl)))) (pa_cons (pe_lc (own := [("_law_state", 3), ("_law_owner", 4)]) (g := gTup K 2 (gCons (gName 3) (gCons (gName 4) gNil))) rfl sc_l_head.nd (pi_listK (K := K) rfl (pv 0)) (blkOk_by (by kernel_rfl)) (fun _ _ _ _ _ => (pg_tupK (K := K) rfl rfl (pgs_cons (pg_name (i := 3) sc_l_head.nd rfl (Or.inl rfl)) (pgs_cons (pg_name (i := 4) sc_l_head.nd rfl (Or.inl rfl)) pgs_nil)))) (fun _ _ _ _ _ => pts_nil) (fun _ _ _ _ _ => (pe_ix (ixK (K := K) rfl) (pv 4) pe_int (fun _ _ => rfl)))) pa_nil)) (by rfl))
    (pss_one (ps_ret (pe_tup (pa_cons (pe_callTy (tupK (K := K) rfl) (by rfl) T.n_tuple (by decide +kernel) (pa_cons (pe_lc (own := [("_law_state", 3), ("_law_owner", 4)]) (g := gTup K 2 (gCons (gName 3) (gCons (gName 4) gNil))) rfl sc_l_head.nd (pi_listK (K := K) rfl (pv 0)) (blkOk_by (by kernel_rfl)) (fun _ _ _ _ _ => (pg_tupK (K := K) rfl rfl (pgs_cons (pg_name (i := 3) sc_l_head.nd rfl (Or.inl rfl)) (pgs_cons (pg_name (i := 4) sc_l_head.nd rfl (Or.inl rfl)) pgs_nil)))) (fun _ _ _ _ _ => pts_nil) (fun _ _ _ _ _ => (pv 3))) pa_nil)) (pa_cons (C8.pe_c c_l_ranks hr (by decide) (by rfl) (pa_cons (pv 1) pa_nil)) (pa_cons (C8.pe_c c_l_ranks hr (by decide) (by rfl) (pa_cons (pv 2) pa_nil)) (pa_cons (pe_tup pa_nil) pa_nil)))))))), .inl ?_⟩
  have own : ∀ (F : Fm w) (ρ : Ro) (j : Nat) (f : Run → Int), ρ[0]? = some (some (.list (rs.map eRun))) → (∀ r : Run, atI [PyData.int r.2.1, .int r.2.2.1, .int r.2.2.2] (j : Int) = some (.int (f r))) → ρ.length = 5 →
      ED F K (tLc (iList K (tVar 0)) (gTup K 2 (gCons (gName 3) (gCons (gName 4) gNil))) tYes (tOp (rIx K) (tVar 4) (tC (.int (j : Int)))) [3, 4]) ρ (.list ((rs.map f).map .int)) := fun F ρ j f h0 hj hlen =>
    ed_is (ed_lcA rs eRun (fun r => .int (f r)) (fun r => ((wipeR ρ [3, 4]).set 3 (some (eN r.1))).set 4 (some (eOwn r.2))) [3, 4] (id_list (ed_var h0)) (by omega) (by decide) (fun r _ => gd_tup2) (fun r _ => ed_ixT (ed_var (d := eOwn r.2) (by rw [List.getElem?_set_self (by simp [wipeR, hlen])])) ed_int (hj r)) fun _ _ => rfl) (by rw [List.map_map]; rfl)
  obtain ⟨m1, m2, m3⟩ := sts_mk' (rs.map (·.1)) (ranksOf (begs rs)) (ranksOf (ends rs)) (by unfold ranksOf begs; simp) (by unfold ranksOf begs ends; simp)
  refine sd_seq (sn_par (ea_cons (own F _ 0 (fun r => r.2.1) rfl (fun _ => rfl) rfl) (ea_cons (own F _ 1 (fun r => r.2.2.1) rfl (fun _ => rfl) rfl) ea_nil))) (sd_ret (ed_is (ed_tup (ea_cons (ed_tupL (ea_cons (ed_lcA rs eRun (fun r => eN r.1) _ [3, 4] (id_list (ed_var rfl)) (by omega) (by decide) (fun r _ => gd_tup2) (fun r _ => ed_var rfl) fun _ _ => rfl) ea_nil)) (ea_cons (ed_call (ea_cons (ed_var rfl) ea_nil) ⟨_, rfl, by rw [List.length_map]; omega, rfl⟩) (ea_cons (ed_call (ea_cons (ed_var rfl) ea_nil) ⟨_, rfl, by rw [List.length_map]; omega, rfl⟩) (ea_cons (ed_tup ea_nil) ea_nil))))) ?_))
  show _ = eTy (mkTy _ _ _)
  unfold eTy
  rw [m1, m2, m3]
  unfold eNs begs ends
  rw [List.map_map]; rfl
theorem getD_nat {o : List Int} {i : Nat} (h : i < o.length) : o[i]? = some (o.getD i 0) := by
  rw [List.getD_eq_getElem?_getD, List.getElem?_eq_getElem h]; rfl
theorem far_pow : ((2 : Int) ^ (60 : Int).toNat) * ((2 : Int) ^ (60 : Int).toNat) = far := rfl
def R_l_number : List D → D → Prop := fun ds d => ∃ (xs : List Int) (spot : Nat), ds = [.list (xs.map .int), eN spot] ∧ xs.length < 64 ∧ 0 < (ordI xs).length ∧ spot ≤ 2 * (ordI xs).length ∧ d = .int (numAt xs spot)
theorem sc_l_number : FnScope ["_law_numbers", "_law_spot", "_law_order", "_law_far"] ["_law_numbers", "_law_spot"] (defScope s_l_number) := ⟨rfl, rfl, rfl, by decide +kernel, rfl, by decide +kernel, by decide +kernel⟩
theorem c_l_number {P : Program} {w : World} {K : PySem.W.Frag} {mg : Str → Option Value} {base : Heap} (T : TT K mg) : C8.Cal P w K mg base 1 "_law_number" (spR w K R_l_number) [] := by
  obtain ⟨f, fd, FD, hm⟩ := T.d_l_number
  refine cal_mk (ok_pure FD sc_l_number (fun ds d h => by obtain ⟨_, _, rfl, _⟩ := h; rfl) fun cdv A outer s H E hr F ds d h => ?_) hm FD.kp (FD.bindsN fun _ _ _ _ _ _ us hl => match us, hl with | [_, _], _ => rfl)
  obtain ⟨xs, spot, rfl, hz, h0, hs, rfl⟩ := h
  refine ⟨_, (pss_cons (ps_par (i := 2) (j := 3) rfl sc_l_number.nd rfl rfl (by decide) rfl rfl (pa_cons (pe_callB (cr_sortedSet rfl) (by rfl) T.n_sorted (by decide +kernel) (pa_cons (pe_callTy (cr_setL rfl) (by rfl) T.n_set (by decide +kernel) (pa_cons (pv 0) pa_nil)) pa_nil)) (pa_cons (pe_op op_mul (pe_op op_pow pe_int pe_int) (pe_op op_pow pe_int pe_int)) pa_nil)) (by rfl))
    (pss_cons (ps_if (pt_cmpR op_eq (pe_op op_mod (pv 1) pe_int) pe_int (nomark _)) (pss_one (ps_ret (pe_ix (ixK (K := K) rfl) (pv 2) (pe_op op_fdiv (pv 1) pe_int) (fun _ _ => rfl)))) pss_nil)
    (pss_cons (ps_if (pt_cmpR op_eq (pv 1) pe_int (nomark _)) (pss_one (ps_ret (pe_op op_sub (pe_ix (ixK (K := K) rfl) (pv 2) pe_int (fun _ _ => rfl)) (pv 3)))) pss_nil)
    (pss_cons (ps_if (pt_cmpR op_eq (pv 1) (pe_op op_mul pe_int (pe_callB (lenK (K := K) rfl) (by rfl) T.n_len (by decide +kernel) (pa_cons (pv 2) pa_nil))) (nomark _)) (pss_one (ps_ret (pe_op op_add (pe_ix (ixK (K := K) rfl) (pv 2) (pe_un un_neg pe_int) (fun _ _ => rfl)) (pv 3)))) pss_nil)
    (pss_one (ps_ret (pe_op op_fdiv (pe_op op_add (pe_ix (ixK (K := K) rfl) (pv 2) (pe_op op_sub (pe_op op_fdiv (pv 1) pe_int) pe_int) (fun _ _ => rfl)) (pe_ix (ixK (K := K) rfl) (pv 2) (pe_op op_fdiv (pv 1) pe_int) (fun _ _ => rfl))) pe_int))))))), .inl ?_⟩
  have ix : ∀ (F : Fm w) (ρ : Ro) (te : TE) (i : Nat), ρ[2]? = some (some (.list ((ordI xs).map .int))) → ED F K te ρ (.int (i : Int)) → i < (ordI xs).length → ED F K (tOp (rIx K) (tVar 2) te) ρ (.int ((ordI xs).getD i 0)) := fun F ρ te i e h hi =>
    ed_ixL (ed_var e) h (atI_nat (by rw [List.getElem?_map, getD_nat hi]; rfl))
  have dv : ∀ (F : Fm w) (ρ : Ro), ρ[1]? = some (some (eN spot)) → ED F K (tOp (rI CDiv fun i j => .int (i / j)) (tVar 1) (tC (.int 2))) ρ (.int ((spot / 2 : Nat) : Int)) := fun F ρ e => ed_is (ed_iI (ed_var e) ed_int ⟨by decide, by decide⟩) (by rw [Int.natCast_ediv]; rfl)
  have pw : ∀ (F : Fm w) (ρ : Ro), ED F K (tOp (rI CPow fun i j => .int (i ^ j.toNat)) (tC (.int 2)) (tC (.int 60))) ρ (.int (2 ^ (60 : Int).toNat)) := fun F ρ => ed_iI ed_int ed_int ⟨by decide, by decide, by decide⟩
  refine sd_seq (sn_par (ea_cons (ed_sortSet (ea_cons (ed_var rfl) ea_nil) hz) (ea_cons (ed_is (ed_iI (pw _ _) (pw _ _) (Or.inl ⟨by decide, by decide⟩)) (congrArg PyData.int far_pow)) ea_nil))) ?_
  unfold numAt
  simp only
  refine sd_when (b := decide (spot % 2 = 1)) (et_is (et_test (ed_eqI (ed_iI (ed_var rfl) ed_int (by decide)) ed_int)) (decide_eq_decide.mpr (by omega))) (fun h1 => ?_) fun h1 => ?_
  · rw [if_pos (of_decide_eq_true h1)]
    have := of_decide_eq_true h1
    exact sd_ret (ix _ _ _ _ rfl (dv _ _ rfl) (by omega))
  rw [if_neg (of_decide_eq_false h1)]
  have n1 := of_decide_eq_false h1
  refine sd_when (b := decide (spot = 0)) (et_is (et_test (ed_eqI (ed_var rfl) ed_int)) (decide_eq_decide.mpr (by omega))) (fun h2 => ?_) fun h2 => ?_
  · rw [if_pos (of_decide_eq_true h2)]
    exact sd_ret (ed_i0 (ix _ _ _ 0 rfl ed_int h0) (ed_var rfl))
  rw [if_neg (of_decide_eq_false h2)]
  have n2 := of_decide_eq_false h2
  refine sd_when (b := decide (spot = 2 * (ordI xs).length)) (et_is (et_test (ed_eqI (ed_var rfl) (ed_mul ed_int (ed_lenL (ea_cons (ed_var rfl) ea_nil)) (by decide) (by decide)))) (decide_eq_decide.mpr (by rw [List.length_map]; omega))) (fun h3 => ?_) fun h3 => ?_
  · rw [if_pos (of_decide_eq_true h3)]
    refine sd_ret (ed_i0 (ed_ixL (d := .int ((ordI xs).getD ((ordI xs).length - 1) 0)) (ed_var rfl) (ed_neg ed_int) ?_) (ed_var rfl))
    have e : (ordI xs).map PyData.int = ((ordI xs).map PyData.int).take ((ordI xs).length - 1) ++ [.int ((ordI xs).getD ((ordI xs).length - 1) 0)] := by
      refine List.ext_getElem? fun j => ?_
      rcases Nat.lt_trichotomy j ((ordI xs).length - 1) with q | q | q
      · rw [List.getElem?_append_left (by rw [List.length_take, List.length_map]; omega), List.getElem?_take, if_pos q]
      · subst q
        rw [List.getElem?_append_right (by rw [List.length_take, List.length_map]; omega), List.length_take, List.length_map, Nat.min_eq_left (by omega), Nat.sub_self, List.getElem?_map, getD_nat (by omega)]; rfl
      · rw [List.getElem?_eq_none (by rw [List.length_map]; omega), List.getElem?_eq_none (by rw [List.length_append, List.length_take, List.length_map, List.length_singleton]; omega)]
    rw [e]
    exact atI_last _ _
  rw [if_neg (of_decide_eq_false h3)]
  have n3 := of_decide_eq_false h3
  exact sd_ret (ed_iI (ed_i0 (ix _ _ _ (spot / 2 - 1) rfl (ed_is (ed_i0 (dv _ _ rfl) ed_int) (congrArg PyData.int (by omega))) (by omega)) (ix _ _ _ _ rfl (dv _ _ rfl) (by omega))) ed_int ⟨by decide, by decide⟩)
/-- a letter that may be written at these runs -/
structure LetOk (rs : List Run) (l : Let) : Prop where
  pos : rs ≠ []
  few : rs.length ≤ 3
  b : l.1 ≤ 2 * (ordI (begs rs)).length
  e : l.2.1 ≤ 2 * (ordI (ends rs)).length
theorem ordI_pos {xs : List Int} (h : xs ≠ []) : 0 < (ordI xs).length := by
  cases xs with
  | nil => exact absurd rfl h
  | cons x xs => exact List.length_pos_of_mem ((mem_ordI x (x :: xs)).mpr List.mem_cons_self)
def R_l_piece_by : List D → D → Prop := fun ds d => ∃ (rs : List Run) (l : Let), ds = [.list (rs.map eRun), eLet l] ∧ LetOk rs l ∧ d = eOwn (pieceBy rs l)
theorem sc_l_piece_by : FnScope ["_law_runs", "_law_letter", "_law_begin", "_law_end", "_law_state", "_law_owner"] ["_law_runs", "_law_letter"] (defScope s_l_piece_by) := ⟨rfl, rfl, rfl, by decide +kernel, rfl, by decide +kernel, by decide +kernel⟩
theorem c_l_piece_by {P : Program} {w : World} {K : PySem.W.Frag} {mg : Str → Option Value} {base : Heap} (T : TT K mg) : C8.Cal P w K mg base 2 "_law_piece_by" (spR w K R_l_piece_by) [] := by
  have c_l_number := c_l_number (P := P) (w := w) (base := base) T
  obtain ⟨f, fd, FD, hm⟩ := T.d_l_piece_by
  refine cal_mk (ok_pure FD sc_l_piece_by (fun ds d h => by obtain ⟨_, _, rfl, _⟩ := h; rfl) fun cdv A outer s H E hr F ds d h => ?_) hm FD.kp (FD.bindsN fun _ _ _ _ _ _ us hl => match us, hl with | [_, _], _ => rfl)
  obtain ⟨rs, l, rfl, ok, rfl⟩ := h
  refine ⟨_, (pss_cons (ps_set (i := 2) sc_l_piece_by.nd rfl (Or.inl rfl) (C8.pe_c c_l_number hr (by decide) (by rfl) (pa_cons (pe_lc (own := [("_law_state", 4), ("_law_owner", 5)]) (g := gTup K 2 (gCons (gName 4) (gCons (gName 5) gNil))) rfl sc_l_piece_by.nd (pi_listK (K := K) rfl (pv 0)) (blkOk_by (by kernel_rfl)) (fun _ _ _ _ _ => (pg_tupK (K := K) rfl rfl (pgs_cons (pg_name (i := 4) sc_l_piece_by.nd rfl (Or.inl rfl)) (pgs_cons (pg_name (i := 5) sc_l_piece_by.nd rfl (Or.inl rfl)) pgs_nil)))) (fun _ _ _ _ _ => pts_nil) (fun _ _ _ _ _ => (pe_ix (ixK (K := K) rfl) (pv 5) pe_int (fun _ _ => rfl)))) (pa_cons (pe_ix (ixK (K := K) rfl) (pv 1) pe_int (fun _ _ => rfl)) pa_nil))))
    (pss_cons (ps_set (i := 3) sc_l_piece_by.nd rfl (Or.inl rfl) (C8.pe_c c_l_number hr (by decide) (by rfl) (pa_cons (pe_lc (own := [("_law_state", 4), ("_law_owner", 5)]) (g := gTup K 2 (gCons (gName 4) (gCons (gName 5) gNil))) rfl sc_l_piece_by.nd (pi_listK (K := K) rfl (pv 0)) (blkOk_by (by kernel_rfl)) (fun _ _ _ _ _ => (pg_tupK (K := K) rfl rfl (pgs_cons (pg_name (i := 4) sc_l_piece_by.nd rfl (Or.inl rfl)) (pgs_cons (pg_name (i := 5) sc_l_piece_by.nd rfl (Or.inl rfl)) pgs_nil)))) (fun _ _ _ _ _ => pts_nil) (fun _ _ _ _ _ => (pe_ix (ixK (K := K) rfl) (pv 5) pe_int (fun _ _ => rfl)))) (pa_cons (pe_ix (ixK (K := K) rfl) (pv 1) pe_int (fun _ _ => rfl)) pa_nil))))
    (pss_one (ps_ret (pe_tup (pa_cons (pv 2) (pa_cons (pv 3) (pa_cons (pe_op op_sub (pe_op op_add (pe_ix (ixK (K := K) rfl) (pe_ix (ixK (K := K) rfl) (pe_ix (ixK (K := K) rfl) (pv 0) pe_int (fun _ _ => rfl)) pe_int (fun _ _ => rfl)) pe_int (fun _ _ => rfl)) (pe_ix (ixK (K := K) rfl) (pv 1) pe_int (fun _ _ => rfl))) pe_int) pa_nil)))))))), .inl ?_⟩
  have hz := ok.few
  have own : ∀ (F : Fm w) (ρ : Ro) (j : Nat) (f : Run → Int), ρ[0]? = some (some (.list (rs.map eRun))) → (∀ r : Run, atI [PyData.int r.2.1, .int r.2.2.1, .int r.2.2.2] (j : Int) = some (.int (f r))) → ρ.length = 6 →
      ED F K (tLc (iList K (tVar 0)) (gTup K 2 (gCons (gName 4) (gCons (gName 5) gNil))) tYes (tOp (rIx K) (tVar 5) (tC (.int (j : Int)))) [4, 5]) ρ (.list ((rs.map f).map .int)) := fun F ρ j f h0 hj hlen =>
    ed_is (ed_lcA rs eRun (fun r => .int (f r)) (fun r => ((wipeR ρ [4, 5]).set 4 (some (eN r.1))).set 5 (some (eOwn r.2))) [4, 5] (id_list (ed_var h0)) (by omega) (by decide) (fun r _ => gd_tup2) (fun r _ => ed_ixT (ed_var (d := eOwn r.2) (by rw [List.getElem?_set_self (by simp [wipeR, hlen])])) ed_int (hj r)) fun _ _ => rfl) (by rw [List.map_map]; rfl)
  have nb : begs rs ≠ [] := fun e => ok.pos (List.map_eq_nil_iff.mp e)
  have ne : ends rs ≠ [] := fun e => ok.pos (List.map_eq_nil_iff.mp e)
  have lb : (begs rs).length ≤ 3 := by rw [begs, List.length_map]; exact hz
  have le : (ends rs).length ≤ 3 := by rw [ends, List.length_map]; exact hz
  have hx : ∃ r rest, rs = r :: rest := by
    cases rs with
    | nil => exact absurd rfl ok.pos
    | cons r rest => exact ⟨r, rest, rfl⟩
  obtain ⟨r, rest, hrs⟩ := hx
  have hv : (vals rs).getD 0 0 = r.2.2.2 := by rw [hrs]; rfl
  have h0 : atI (rs.map eRun) 0 = some (eRun r) := by rw [hrs]; exact atI_nat (j := 0) rfl
  refine sd_seq (sn_asg (ed_call (ea_cons (own F _ 0 (fun r => r.2.1) rfl (fun _ => rfl) rfl) (ea_cons (ed_ixT (ed_var rfl) ed_int rfl) ea_nil)) ⟨begs rs, l.1, rfl, by omega, ordI_pos nb, ok.b, rfl⟩)) (sd_seq (sn_asg (ed_call (ea_cons (own F _ 1 (fun r => r.2.2.1) rfl (fun _ => rfl) rfl) (ea_cons (ed_ixT (ed_var rfl) ed_int rfl) ea_nil)) ⟨ends rs, l.2.1, rfl, by omega, ordI_pos ne, ok.e, rfl⟩))
    (sd_ret (ed_is (ed_tup (ea_cons (ed_var rfl) (ea_cons (ed_var rfl) (ea_cons (ed_i0 (ed_i0 (ed_ixT (ed_ixT (ed_ixL (ed_var rfl) ed_int h0) ed_int rfl) ed_int rfl) (ed_ixT (ed_var rfl) ed_int rfl)) ed_int) ea_nil)))) (by unfold pieceBy; rw [hv]))))
def R_l_is_unlike : List D → D → Prop := fun ds d => ∃ rs : List Run, ds = [.list (rs.map eRun)] ∧ rs.length ≤ 3 ∧ d = .bool (unlike rs)
theorem sc_l_is_unlike : FnScope ["_law_runs", "_law_state", "_law_owner"] ["_law_runs"] (defScope s_l_is_unlike) := ⟨rfl, rfl, rfl, by decide +kernel, rfl, by decide +kernel, by decide +kernel⟩
theorem c_l_is_unlike {P : Program} {w : World} {K : PySem.W.Frag} {mg : Str → Option Value} {base : Heap} (T : TT K mg) : C8.Cal P w K mg base 1 "_law_is_unlike" (spR w K R_l_is_unlike) [] := by
  obtain ⟨f, fd, FD, hm⟩ := T.d_l_is_unlike
  refine cal_mk (ok_pure FD sc_l_is_unlike (fun ds d h => by obtain ⟨_, rfl, _⟩ := h; rfl) fun cdv A outer s H E hr F ds d h => ?_) hm FD.kp (FD.bindsN fun _ _ _ _ _ _ us hl => match us, hl with | [_], _ => rfl)
  obtain ⟨rs, rfl, hz, rfl⟩ := h
  refine ⟨_, (pss_one (ps_ret (pe_cmpR op_gt (pe_callB cr_lenSet (by rfl) T.n_len (by decide +kernel) (pa_cons (pe_callTy (cr_setL rfl) (by rfl) T.n_set (by decide +kernel) (pa_cons (pe_lc (own := [("_law_state", 1), ("_law_owner", 2)]) (g := gTup K 2 (gCons (gName 1) (gCons (gName 2) gNil))) rfl sc_l_is_unlike.nd (pi_listK (K := K) rfl (pv 0)) (blkOk_by (by kernel_rfl)) (fun _ _ _ _ _ => (pg_tupK (K := K) rfl rfl (pgs_cons (pg_name (i := 1) sc_l_is_unlike.nd rfl (Or.inl rfl)) (pgs_cons (pg_name (i := 2) sc_l_is_unlike.nd rfl (Or.inl rfl)) pgs_nil)))) (fun _ _ _ _ _ => pts_nil) (fun _ _ _ _ _ => (pe_ix (ixK (K := K) rfl) (pv 2) pe_int (fun _ _ => rfl)))) pa_nil)) pa_nil)) pe_int (nomark _)))), .inl ?_⟩
  refine sd_ret (ed_is (ed_b0 (ed_lenSet (ns := vals rs) (ea_cons (ed_is (ed_lcA rs eRun (fun r => .int r.2.2.2) _ [1, 2] (id_list (ed_var rfl)) (by omega) (by decide) (fun r _ => gd_tup2) (fun r _ => ed_ixT (ed_var rfl) ed_int rfl) fun _ _ => rfl) (by unfold vals; rw [List.map_map]; rfl)) ea_nil) (by unfold vals; rw [List.length_map]; omega)) ed_int) ?_)
  unfold unlike
  congr 1
  exact decide_eq_decide.mpr (by omega)
def R_l_gone_on : List D → D → Prop := fun ds d => ∃ (t : Tab) (r : Run) (p : Own), ds = [eTab t, eRun r, eOwn p] ∧ TabOk t ∧ r.1 < t.length ∧ d = eRun (goneOn t r p)
theorem sc_l_gone_on : FnScope ["_law_table_here", "_law_run", "_law_piece", "_law_state", "_law_owner", "_law_signs", "_law_who", "_law_later"] ["_law_table_here", "_law_run", "_law_piece"] (defScope s_l_gone_on) := ⟨rfl, rfl, rfl, by decide +kernel, rfl, by decide +kernel, by decide +kernel⟩
theorem c_l_gone_on {P : Program} {w : World} {K : PySem.W.Frag} {mg : Str → Option Value} {base : Heap} (T : TT K mg) : C8.Cal P w K mg base 2 "_law_gone_on" (spR w K R_l_gone_on) [] := by
  have c_l_sign := c_l_sign (P := P) (w := w) (base := base) T
  obtain ⟨f, fd, FD, hm⟩ := T.d_l_gone_on
  refine cal_mk (ok_pure FD sc_l_gone_on (fun ds d h => by obtain ⟨_, _, _, rfl, _⟩ := h; rfl) fun cdv A outer s H E hr F ds d h => ?_) hm FD.kp (FD.bindsN fun _ _ _ _ _ _ us hl => match us, hl with | [_, _, _], _ => rfl)
  obtain ⟨t, r, p, rfl, ok, hr1, rfl⟩ := h
  refine ⟨_, (pss_cons (ps_asg (pv 1) (pg_tupK (K := K) rfl rfl (pgs_cons (pg_name (i := 3) sc_l_gone_on.nd rfl (Or.inl rfl)) (pgs_cons (pg_name (i := 4) sc_l_gone_on.nd rfl (Or.inl rfl)) pgs_nil))))
    (pss_cons (ps_set (i := 5) sc_l_gone_on.nd rfl (Or.inl rfl) (pe_op op_add (pe_op op_add (pe_op op_mul pe_int (C8.pe_c c_l_sign hr (by decide) (by rfl) (pa_cons (pe_ix (ixK (K := K) rfl) (pv 2) pe_int (fun _ _ => rfl)) (pa_cons (pe_ix (ixK (K := K) rfl) (pv 4) pe_int (fun _ _ => rfl)) pa_nil)))) (pe_op op_mul pe_int (C8.pe_c c_l_sign hr (by decide) (by rfl) (pa_cons (pe_ix (ixK (K := K) rfl) (pv 2) pe_int (fun _ _ => rfl)) (pa_cons (pe_ix (ixK (K := K) rfl) (pv 4) pe_int (fun _ _ => rfl)) pa_nil))))) (C8.pe_c c_l_sign hr (by decide) (by rfl) (pa_cons (pe_ix (ixK (K := K) rfl) (pv 2) pe_int (fun _ _ => rfl)) (pa_cons (pe_ix (ixK (K := K) rfl) (pv 4) pe_int (fun _ _ => rfl)) pa_nil)))))
    (pss_cons (ps_asg (pe_ix (ixK (K := K) rfl) (pe_ix (ixK (K := K) rfl) (pv 0) (pv 3) (fun _ _ => rfl)) (pv 5) (fun _ _ => rfl)) (pg_tupK (K := K) rfl rfl (pgs_cons (pg_name (i := 6) sc_l_gone_on.nd rfl (Or.inl rfl)) (pgs_cons (pg_name (i := 7) sc_l_gone_on.nd rfl (Or.inl rfl)) pgs_nil))))
    (pss_one (ps_ret (pe_tup (pa_cons (pv 7) (pa_cons (pe_ix (ixK (K := K) rfl) (pe_lst (pa_cons (pv 4) (pa_cons (pv 2) pa_nil))) (pe_callTy call_int1 (by rfl) T.n_int (by decide +kernel) (pa_cons (pe_cmpR op_eq (pv 6) pe_str (nomark _)) pa_nil)) (fun _ _ => rfl)) pa_nil)))))))), .inl ?_⟩
  have i1 := sgn_le p.1 r.2.1
  have i2 := sgn_le p.2.1 r.2.2.1
  have i3 := sgn_le p.2.2 r.2.2.2
  obtain ⟨q, a, q1, q2, q3, _, _⟩ := ent_ok ok hr1 (i := 9 * sgn p.1 r.2.1 + 3 * sgn p.2.1 r.2.2.1 + sgn p.2.2 r.2.2.2) (by omega)
  have qa : goneOn t r p = (a.2, if a.1 then p else r.2) := by unfold goneOn entBy app; rw [q3]
  have sg : ∀ (F : Fm w) (ρ : Ro) (j : Nat) (x y : Int), ρ[2]? = some (some (eOwn p)) → ρ[4]? = some (some (eOwn r.2)) → atI [PyData.int p.1, .int p.2.1, .int p.2.2] (j : Int) = some (.int x) → atI [PyData.int r.2.1, .int r.2.2.1, .int r.2.2.2] (j : Int) = some (.int y) →
      ED F K (tCall (spR w K R_l_sign) [] E0 (tCons (tOp (rIx K) (tVar 2) (tC (.int (j : Int)))) (tCons (tOp (rIx K) (tVar 4) (tC (.int (j : Int)))) tNil))) ρ (eN (sgn x y)) := fun F ρ j x y e1 e2 h1 h2 => ed_call (ea_cons (ed_ixT (ed_var e1) ed_int h1) (ea_cons (ed_ixT (ed_var e2) ed_int h2) ea_nil)) ⟨x, y, rfl, rfl⟩
  refine sd_seq (sn_asgG (ed_var rfl) gd_tup2) (sd_seq (sn_asg (d := eN (9 * sgn p.1 r.2.1 + 3 * sgn p.2.1 r.2.2.1 + sgn p.2.2 r.2.2.2)) (ed_is (ed_i0 (ed_i0 (ed_mul ed_int (sg _ _ 0 _ _ rfl rfl rfl rfl) (by decide) (by decide)) (ed_mul ed_int (sg _ _ 1 _ _ rfl rfl rfl rfl) (by decide) (by decide))) (sg _ _ 2 _ _ rfl rfl rfl rfl)) (congrArg PyData.int (by omega))))
    (sd_seq (sn_asgG (d := eEnt a) (ed_ixT (ed_ixT (d := eSt q) (ed_var rfl) (ed_var rfl) (atI_nat (by rw [List.getElem?_map, q1]; rfl))) (ed_var rfl) (atI_nat (by rw [List.getElem?_map, q2]; rfl))) gd_tup2) ?_))
  rw [qa]
  have who : decide (eWho a.1 = "new") = a.1 := by cases a.1 <;> decide
  refine sd_ret (ed_tup (ea_cons (ed_var rfl) (ea_cons (ed_ixL (d := eOwn (if a.1 then p else r.2)) (ed_lst (ea_cons (ed_var rfl) (ea_cons (ed_var rfl) ea_nil))) (ed_intB (ea_cons (ed_is (ed_eqS (ed_var rfl) ed_str) (by rw [who])) ea_nil)) ?_) ea_nil)))
  cases a.1 <;> rfl
theorem zipD2 {α β : Type} (f : α → D) (g : β → D) : ∀ (as : List α) (bs : List β), List.zipWith (fun d e => PyData.tuple [d, e]) (as.map f) (bs.map g) = (List.zip as bs).map fun p => .tuple [f p.1, g p.2]
  | [], _ => by simp
  | _ :: _, [] => by simp
  | a :: as, b :: bs => by simp [zipD2 f g as bs]
def R_l_moved : List D → D → Prop := fun ds d => ∃ (tabs : List Tab) (rs : List Run) (p : Own) (b : Bool), ds = [eTabs tabs, .list (rs.map eRun), eOwn p, .bool b] ∧ tabs.length = rs.length ∧ 2 ≤ tabs.length ∧ tabs.length ≤ 3 ∧ (∀ (i : Nat) t r, tabs[i]? = some t → rs[i]? = some r → TabOk t ∧ r.1 < t.length) ∧ d = .list ((moved tabs rs p b).map eRun)
theorem sc_l_moved : FnScope ["_law_tables", "_law_runs", "_law_piece", "_law_is_passed", "_law_found", "_law_table_here", "_law_run"] ["_law_tables", "_law_runs", "_law_piece", "_law_is_passed"] (defScope s_l_moved) := ⟨rfl, rfl, rfl, by decide +kernel, rfl, by decide +kernel, by decide +kernel⟩
theorem c_l_moved {P : Program} {w : World} {K : PySem.W.Frag} {mg : Str → Option Value} {base : Heap} (T : TT K mg) : C8.Cal P w K mg base 3 "_law_moved" (spR w K R_l_moved) [] := by
  have c_l_gone_on := c_l_gone_on (P := P) (w := w) (base := base) T
  obtain ⟨f, fd, FD, hm⟩ := T.d_l_moved
  refine cal_mk (ok_pure FD sc_l_moved (fun ds d h => by obtain ⟨_, _, _, _, rfl, _⟩ := h; rfl) fun cdv A outer s H E hr F ds d h => ?_) hm FD.kp (FD.bindsN fun _ _ _ _ _ _ us hl => match us, hl with | [_, _, _, _], _ => rfl)
  obtain ⟨tabs, rs, p, b, rfl, hl, h2, h3, ok, rfl⟩ := h
  refine ⟨_, (pss_cons (ps_set (i := 4) sc_l_moved.nd rfl (Or.inl rfl) (pe_lst (pa_cons (C8.pe_c c_l_gone_on hr (by decide) (by rfl) (pa_cons (pe_ix (ixK (K := K) rfl) (pv 0) pe_int (fun _ _ => rfl)) (pa_cons (pe_ix (ixK (K := K) rfl) (pv 1) pe_int (fun _ _ => rfl)) (pa_cons (pv 2) pa_nil)))) pa_nil)))
    (pss_cons (ps_for PassesOwn.never rfl (pi_zipX true false (by rfl) T.n_zip (pa_cons (pe_slice sl_tup (pv 0) (po_some pe_int) po_none) (pa_cons (pe_slice sl_list (pv 1) (po_some pe_int) po_none) pa_nil))) (pg_tupK (K := K) rfl rfl (pgs_cons (pg_name (i := 5) sc_l_moved.nd rfl (Or.inl rfl)) (pgs_cons (pg_name (i := 6) sc_l_moved.nd rfl (Or.inl rfl)) pgs_nil))) (pss_one (ps_expr (pe_bm PySem.F.plainAttrs_list PySem.F.slot_list_append PySem.F.type_list_append mt_append (pv 4) (pa_cons (pe_ifExp (pt_val (pv 3)) (C8.pe_c c_l_gone_on hr (by decide) (by rfl) (pa_cons (pv 5) (pa_cons (pv 6) (pa_cons (pv 2) pa_nil)))) (pv 6)) pa_nil)))))
    (pss_one (ps_ret (pv 4))))), .inl ?_⟩
  match tabs, rs, hl, h2, h3, ok with
  | t :: ts, r :: rs, hl, h2, h3, ok =>
  obtain ⟨k1, k2⟩ := ok 0 t r rfl rfl
  let ρ0 : Ro := ro0 ["_law_tables", "_law_runs", "_law_piece", "_law_is_passed", "_law_found", "_law_table_here", "_law_run"] [eTabs (t :: ts), .list ((r :: rs).map eRun), eOwn p, .bool b]
  have hlr : ts.length = rs.length := by simpa using hl
  have hts : ts.length ≤ 2 := by simpa using h3
  let f : Nat → List D := fun k => eRun (goneOn t r p) :: ((List.zip ts rs).take k).map fun q => if b then eRun (goneOn q.1 q.2 p) else eRun q.2
  have hfin : f (List.zip ts rs).length = (moved (t :: ts) (r :: rs) p b).map eRun := by
    show _ :: _ = _
    rw [List.take_length]
    have hm : moved (t :: ts) (r :: rs) p b = goneOn t r p :: (if b then List.zipWith (fun t r => goneOn t r p) ts rs else rs) := rfl
    rw [hm]
    cases b with
    | true => rw [if_pos rfl, List.map_cons, zipWith_zip, List.map_map]; rfl
    | false =>
      have e : (List.zip ts rs).map (fun q => q.2) = rs := List.map_snd_zip (by omega)
      rw [if_neg (by decide), List.map_cons]
      congr 1
      conv => rhs; rw [← e, List.map_map]
      rfl
  refine sd_grow (ds0 := f 0) (ds1 := (moved (t :: ts) (r :: rs) p b).map eRun) (ρ' := ρ0) (ea_cons (ed_call (ea_cons (ed_ixT (ed_var rfl) ed_int (atI_nat (j := 0) rfl)) (ea_cons (ed_ixL (ed_var rfl) ed_int (atI_nat (j := 0) rfl)) (ea_cons (ed_var rfl) ea_nil))) ⟨t, r, p, rfl, k1, k2, rfl⟩) ea_nil) (by show 1 ≤ 100000; decide) (by exact Nat.le_of_ble_eq_true rfl) ?_ (sd_ret (ed_var rfl))
  rw [← hfin]
  have zz := zipD2 eTab eRun ts rs
  refine sl_for (List.zip ts rs) (fun q => .tuple [eTab q.1, eRun q.2]) (fun _ => ρ0) f (fun F' => id_is (id_zipTL (ea_cons (ed_slT_from (k := 1) (ed_var rfl) (by decide) (fun h => nomatch h)) (ea_cons (ed_slL_from (k := 1) (ed_var rfl)) ea_nil))) zz) (.refl _) rfl fun k q hq => ?_
  have hk : k < (List.zip ts rs).length := (List.getElem?_eq_some_iff.mp hq).1
  rw [List.length_zip] at hk
  obtain ⟨g1, g2⟩ : ts[k]? = some q.1 ∧ rs[k]? = some q.2 := by
    rw [List.getElem?_zip_eq_some] at hq; exact hq
  obtain ⟨k3, k4⟩ := ok (k + 1) q.1 q.2 g1 g2
  have hf : f (k + 1) = f k ++ [if b then eRun (goneOn q.1 q.2 p) else eRun q.2] := by
    show _ :: _ = (_ :: _) ++ _
    rw [List.take_add_one, hq, List.map_append]; rfl
  rw [hf]
  refine ⟨[5, 6], _, _, by decide, fun F' => gd_tup2, sl_app (fun F' => ed_if (et_val (ed_var rfl)) (fun h => ?_) fun h => ?_) ?_, wk_set (wk_set (.refl _) rfl) rfl⟩
  · rw [if_pos h]; exact ed_call (ea_cons (ed_var rfl) (ea_cons (ed_var rfl) (ea_cons (ed_var rfl) ea_nil))) ⟨q.1, q.2, p, rfl, k3, k4, rfl⟩
  · rw [if_neg (by rw [h]; decide)]; exact ed_var rfl
  · show (_ :: _).length < 100000
    rw [List.length_cons, List.length_map, List.length_take, List.length_zip]; omega
end FW
end PartFun6
section PartLay11
set_option Elab.async false
set_option linter.all false
set_option maxRecDepth 100000
set_option maxHeartbeats 2000000
/-! THE DATA LAYER, eleventh part: a list of what waits, a dict of what is found. -/
namespace FW
open PySem PySem.Spec PyProof.Rows L2
/-- with the objects at p and q set apart -/
def Fm.off {w : World} (F : Fm w) (p q : Addr) : Fm w := ⟨fun x => F.M x ∨ x = p ∨ x = q, fun H => F.J H ∧ (∃ o, H p = some o) ∧ ∃ o, H q = some o,
  fun H H' h t J => ⟨F.mono H H' (fun x o m => h x o (.inl m)) t J.1, let ⟨o, e⟩ := J.2.1; ⟨o, h p _ (.inr (.inl rfl)) e⟩, let ⟨o, e⟩ := J.2.2; ⟨o, h q _ (.inr (.inr rfl)) e⟩⟩,
  fun H x J m => by
    rcases m with m | rfl | rfl
    · exact F.live H x J.1 m
    · exact J.2.1
    · exact J.2.2, F.own⟩
section
variable {α : Type}
/-- p: the list of what waits; q: the dict of what is found -/
structure WS {w : World} (F : Fm w) (K : PySem.W.Frag) (ev : α → D) (H0 : Hp) (p q : Addr) (iw iF : Nat) (H : Hp) (σ : L2.St) (ρ : Ro) (ws : List Ty) (L : List (Ty × α)) : Prop where
  x : Xt F H0 H
  sw : σ[iw]? = some (some (.ref p))
  sf : σ[iF]? = some (some (.ref q))
  lst : ∃ vs, H p = some (.lst vs) ∧ DqAll (F.off p q) K H vs (ws.map eTy)
  dct : ∃ xs, H q = some (DtO w q xs) ∧ DqE (F.off p q) K H xs (L.map fun e => (eTy e.1, ev e.2))
  env : Env (F.off p q) K H σ ρ
end
section
variable {α : Type} {w : World} {F : Fm w} {K : PySem.W.Frag} {ev : α → D} {H0 H H' : Hp} {p q : Addr} {iw iF : Nat} {σ : L2.St} {ρ ρ' ρ1 ρ2 : Ro} {ws ws1 ws2 : List Ty} {L L1 Lb : List (Ty × α)} {vs : List V}
/-- what is set apart from p and q, as seen from where q is read -/
theorem off_kf {F' : Fm w} (m : ∀ x, F'.M x → F.M x ∨ x = p ∨ x = q) {v : V} {d : D} (h : Dq (F.off p q) K H v d) (ow : ∀ x k, F.own x k → F'.own x k := by exact fun _ _ z => z) : Dq F' K H v d := Dq.kf (F := F.off p q) (F' := F') (fun _ _ q => q) ow (fun x o z n => ⟨z, fun k => n (m x k)⟩) h
theorem off_kfE {F' : Fm w} (m : ∀ x, F'.M x → F.M x ∨ x = p ∨ x = q) {xs : Rw} {kvs : List (D × D)} (h : DqE (F.off p q) K H xs kvs) (ow : ∀ x k, F.own x k → F'.own x k := by exact fun _ _ z => z) : DqE F' K H xs kvs := DqE.kf (F := F.off p q) (F' := F') (fun _ _ q => q) ow (fun x o z n => ⟨z, fun k => n (m x k)⟩) h
theorem off_env {F' : Fm w} (m : ∀ x, F'.M x → F.M x ∨ x = p ∨ x = q) (E : Env (F.off p q) K H σ ρ) (ow : ∀ x k, F.own x k → F'.own x k := by exact fun _ _ z => z) : Env F' K H σ ρ := E.kf (F' := F') (fun _ _ q => q) ow fun x o z n => ⟨z, fun k => n (m x k)⟩
theorem off_at {x : Addr} (h : (F.at_ p vs).M x) : F.M x ∨ x = p ∨ x = q := h.elim .inl fun h => .inr (.inl h)
theorem off_self {x : Addr} (h : (F.off p q).M x) : F.M x ∨ x = p ∨ x = q := h
/-- all slots, the dict among them, as read with p set apart -/
theorem WS.read (S : WS F K ev H0 p q iw iF H σ ρ ws L) (hn : q ≠ p) (hM : ¬ F.M q) : Env (F.at_ p vs) K H σ (ρ.set iF (some (eDict ev L))) := by
  obtain ⟨xs, h1, h2⟩ := S.dct
  have E := off_env (fun x => off_at (vs := vs)) S.env
  have d : Dq (F.at_ p vs) K H (.ref q) (eDict ev L) := .dict (fun m => m.elim hM hn) h1 (off_kfE (fun x => off_at (vs := vs)) h2)
  have e : σ.set iF (some (.ref q)) = σ := by
    refine List.ext_getElem? fun j => ?_
    by_cases hj : iF = j
    · subst hj
      rw [List.getElem?_set_self (List.getElem?_eq_some_iff.mp S.sf).1, S.sf]
    · rw [List.getElem?_set_ne hj]
  have := E.set iF d
  rwa [e] at this
/-- the state where more is new -/
theorem WS.mono (S : WS F K ev H0 p q iw iF H σ ρ ws L) (J : F.J H0) (h0 : H0 p = none) (e : Xt (F.at_ p vs) H H') (hp : H p = some (.lst vs)) (hn : q ≠ p) (hM : ¬ F.M q) : WS F K ev H0 p q iw iF H' σ ρ ws L ∧ H' p = some (.lst vs) ∧ Xm (F.off p q) H H' := by
  obtain ⟨x1, hp1⟩ := Xt.of_at h0 J S.x e hp
  have m : Xm (F.off p q) H H' := ⟨fun a o n z => e.keep a o (fun k => n (off_at k)) z, e.tups⟩
  obtain ⟨us, l1, l2⟩ := S.lst
  rw [hp] at l1
  cases l1
  obtain ⟨xs, d1, d2⟩ := S.dct
  have k : ∀ {v d}, Dq (F.off p q) K H v d → Dq (F.off p q) K H' v d := fun h => h.mm m
  exact ⟨⟨x1, S.sw, S.sf, ⟨vs, hp1, l2.mm m⟩, ⟨xs, e.keep q _ (fun z => z.elim hM hn) d1, DqE.kf (F := F.off p q) (F' := F.off p q) m.tups (fun _ _ z => z) (fun x o z n => ⟨m.keep x o n z, n⟩) d2⟩, S.env.kf (F' := F.off p q) m.tups (fun _ _ z => z) fun x o z n => ⟨m.keep x o n z, n⟩⟩, hp1, m⟩
/-- a reading from the state -/
theorem WS.ed {te : TE} {d : D} (S : WS F K ev H0 p q iw iF H σ ρ ws L) (J : F.J H0) (h0 : H0 p = none) (hn : q ≠ p) (hM : ¬ F.M q) (hp : H p = some (.lst vs)) (h : ∀ F' : Fm w, ED F' K te (ρ.set iF (some (eDict ev L))) d) {Q : VK}
    (k : ∀ v H', WS F K ev H0 p q iw iF H' σ ρ ws L → H' p = some (.lst vs) → Xm (F.off p q) H H' → Dq (F.at_ p vs) K H' v d → Q v H') : te σ H Q :=
  h (F.at_ p vs) σ H ⟨S.x.inv J, hp⟩ (S.read hn hM) Q fun v H' e qd => by
    obtain ⟨a, b, c⟩ := S.mono J h0 e hp hn hM
    exact k v H' a b c qd
/-- the list at p is another -/
theorem WS.lput (S : WS F K ev H0 p q iw iF H σ ρ ws L) (J : F.J H0) (h0 : H0 p = none) (hn : q ≠ p) (hp : H p = some (.lst vs)) {us : List V} (hd : DqAll (F.off p q) K H us (ws2.map eTy)) : WS F K ev H0 p q iw iF (upd H p (.lst us)) σ ρ ws2 L ∧ Xm (F.off p q) H (upd H p (.lst us)) := by
  have m : Xm (F.off p q) H (upd H p (.lst us)) := ⟨fun x o n z => by rw [upd_ne fun e => n (.inr (.inl e))]; exact z, Tk.lst hp⟩
  obtain ⟨xs, d1, d2⟩ := S.dct
  exact ⟨⟨.mut J S.x h0 (Xt.fresh J (.refl H0) h0).2 m.tups, S.sw, S.sf, ⟨us, upd_same, hd.mm m⟩, ⟨xs, by rw [upd_ne hn]; exact d1, DqE.kf (F := F.off p q) (F' := F.off p q) m.tups (fun _ _ z => z) (fun x o z n => ⟨m.keep x o n z, n⟩) d2⟩, S.env.kf (F' := F.off p q) m.tups (fun _ _ z => z) fun x o z n => ⟨m.keep x o n z, n⟩⟩, m⟩
/-- a dict's own address keeps the tuples -/
theorem Tk.dict {xs : Rw} {o : HO} (h : H q = some (DtO w q xs)) : Tk H (upd H q o) := fun x ys hx => by
  have ne : x ≠ q := by
    rintro rfl
    rcases hx with z | ⟨o', z⟩ <;> rw [h] at z <;> cases z
  rcases hx with z | ⟨o', z⟩
  · exact .inl (by rw [upd_ne ne]; exact z)
  · exact .inr ⟨o', by rw [upd_ne ne]; exact z⟩
/-- the dict at q is another -/
theorem WS.dput (S : WS F K ev H0 p q iw iF H σ ρ ws L) (J : F.J H0) (h0 : H0 q = none) (hn : q ≠ p) {xs ys : Rw} (hq : H q = some (DtO w q xs)) (hd : DqE (F.off p q) K H ys (Lb.map fun e => (eTy e.1, ev e.2))) : WS F K ev H0 p q iw iF (upd H q (DtO w q ys)) σ ρ ws Lb ∧ Xm (F.off p q) H (upd H q (DtO w q ys)) := by
  have m : Xm (F.off p q) H (upd H q (DtO w q ys)) := ⟨fun x o n z => by rw [upd_ne fun e => n (.inr (.inr e))]; exact z, Tk.dict hq⟩
  obtain ⟨vs, l1, l2⟩ := S.lst
  exact ⟨⟨.mut J S.x h0 (Xt.fresh J (.refl H0) h0).2 m.tups, S.sw, S.sf, ⟨vs, by rw [upd_ne (Ne.symm hn)]; exact l1, l2.mm m⟩, ⟨ys, upd_same, DqE.kf (F := F.off p q) (F' := F.off p q) m.tups (fun _ _ z => z) (fun x o z n => ⟨m.keep x o n z, n⟩) hd⟩, S.env.kf (F' := F.off p q) m.tups (fun _ _ z => z) fun x o z n => ⟨m.keep x o n z, n⟩⟩, m⟩
/-- a slot is set -/
theorem WS.set (S : WS F K ev H0 p q iw iF H σ ρ ws L) {i : Nat} {v : V} {d : D} (h1 : i ≠ iw) (h2 : i ≠ iF) (hd : Dq (F.off p q) K H v d) : WS F K ev H0 p q iw iF H (σ.set i (some v)) (ρ.set i (some d)) ws L :=
  ⟨S.x, by rw [List.getElem?_set_ne h1]; exact S.sw, by rw [List.getElem?_set_ne h2]; exact S.sf, S.lst, S.dct, S.env.set i hd⟩
theorem WS.wk (S : WS F K ev H0 p q iw iF H σ ρ ws L) (k : Wk ρ ρ') : WS F K ev H0 p q iw iF H σ ρ' ws L := ⟨S.x, S.sw, S.sf, S.lst, S.dct, k.env S.env⟩

/-- a block's work on the two -/
def WL (F : Fm w) (K : PySem.W.Frag) (ev : α → D) (iw iF : Nat) (ts : TS) (ρ : Ro) (ws : List Ty) (L : List (Ty × α)) (ρ' : Ro) (ws' : List Ty) (L' : List (Ty × α)) : Prop :=
  ∀ (H0 : Hp) (p q : Addr), F.J H0 → H0 p = none → H0 q = none → q ≠ p → ∀ (σ : L2.St) (H : Hp) (De : Ends), WS F K ev H0 p q iw iF H σ ρ ws L → (∀ σ' H', WS F K ev H0 p q iw iF H' σ' ρ' ws' L' → Xm (F.off p q) H H' → De.nx σ' H') → ts De σ H
theorem wl_seq {t u : TS} (h1 : WL F K ev iw iF t ρ ws L ρ1 ws1 L1) (h2 : WL F K ev iw iF u ρ1 ws1 L1 ρ2 ws2 Lb) : WL F K ev iw iF (tSeq t u) ρ ws L ρ2 ws2 Lb := fun H0 p q J a b n σ H De S k =>
  h1 H0 p q J a b n σ H { De with nx := u De } S fun σ' H1 S1 m1 => h2 H0 p q J a b n σ' H1 De S1 fun σ2 H2 S2 m2 => k σ2 H2 S2 (m1.trans m2)
theorem wl_wk {t : TS} (h1 : WL F K ev iw iF t ρ ws L ρ1 ws1 L1) (k : Wk ρ1 ρ2) : WL F K ev iw iF t ρ ws L ρ2 ws1 L1 := fun H0 p q J a b n σ H De S c => h1 H0 p q J a b n σ H De S fun σ' H1 S1 m1 => c σ' H1 (S1.wk k) m1
theorem wl_next : WL F K ev iw iF tNext ρ ws L ρ ws L := fun H0 p q J a b n σ H De S k => k σ H S (.refl H)
/-- if the popped .. -/
theorem wl_if {tt : L2.TT} {t u : TS} {b : Bool} (h : ∀ F' : Fm w, ET F' K tt (ρ.set iF (some (eDict ev L))) b) (h1 : b = true → WL F K ev iw iF t ρ ws L ρ' ws2 Lb) (h2 : b = false → WL F K ev iw iF u ρ ws L ρ' ws2 Lb) : WL F K ev iw iF (tIfS tt t u) ρ ws L ρ' ws2 Lb := fun H0 p q J hp0 hq0 n σ H De S k => by
  obtain ⟨vs, l1, l2⟩ := S.lst
  have hM := (Xt.fresh J (.refl H0) hq0).2
  refine h (F.at_ p vs) σ H ⟨S.x.inv J, l1⟩ (S.read n hM) _ fun H1 e1 => ?_
  obtain ⟨S1, _, m1⟩ := S.mono J hp0 e1 l1 n hM
  cases b with
  | true => exact h1 rfl H0 p q J hp0 hq0 n σ H1 De S1 fun σ2 H2 S2 m2 => k σ2 H2 S2 (m1.trans m2)
  | false => exact h2 rfl H0 p q J hp0 hq0 n σ H1 De S1 fun σ2 H2 S2 m2 => k σ2 H2 S2 (m1.trans m2)
/-- here = waiting.pop() -/
theorem wl_pop {ih : Nat} {t : Ty} (h1 : ih ≠ iw) (h2 : ih ≠ iF) : WL F K ev iw iF (tAsg (tBM0 K "list" rPop (tVar iw)) (gName ih)) ρ (ws ++ [t]) L (ρ.set ih (some (eTy t))) ws L := fun H0 p q J hp0 hq0 n σ H De S k => by
  obtain ⟨vs, l1, l2⟩ := S.lst
  rw [List.map_append] at l2
  have hlen := l2.len
  rw [List.length_append, List.length_map, List.map_cons, List.map_nil, List.length_singleton] at hlen
  obtain ⟨v, g1, g2⟩ := l2.get (i := ws.length) (d := eTy t) (by rw [List.getElem?_append_right (by rw [List.length_map]; exact Nat.le_refl _), List.length_map, Nat.sub_self]; rfl)
  have hdl : DqAll (F.off p q) K H vs.dropLast (ws.map eTy) := by
    have := l2.dropLast
    rwa [List.map_cons, List.map_nil, List.dropLast_concat] at this
  obtain ⟨S1, m1⟩ := S.lput J hp0 n l1 hdl
  refine ⟨_, S.sw, .inl ⟨rfl, vs, .of l1⟩, p, vs, v, rfl, rfl, l1, by rw [hlen, Nat.add_sub_cancel]; exact g1, ?_⟩
  exact k _ _ (S1.set h1 h2 (g2.mm m1)) m1
/-- found[here] = te -/
theorem wl_put {ih : Nat} {t : Ty} {te : TE} {a : α} (h : ∀ F' : Fm w, ED F' K te (ρ.set iF (some (eDict ev L))) (ev a)) (hnd : ndict (ev a) = true) (hh : ρ[ih]? = some (some (eTy t))) (hi : ih ≠ iF) (hnew : get L t = none) (hz : L.length < 100000) :
    WL F K ev iw iF (tAsg te (gSub (tVar iF) (tVar ih) (rSetDt w K))) ρ ws L ρ ws (L ++ [(t, a)]) := fun H0 p q J hp0 hq0 n σ H De S k => by
  obtain ⟨vs, l1, l2⟩ := S.lst
  have hM := (Xt.fresh J (.refl H0) hq0).2
  refine S.ed J hp0 n hM l1 h fun v H1 S1 l1' m1 qv => ?_
  refine ⟨_, S1.sf, ?_⟩
  obtain ⟨u, u1, u2⟩ := S1.env.at_ ih _ hh
  refine ⟨u, u1, ?_⟩
  obtain ⟨xs, d1, d2⟩ := S1.dct
  obtain ⟨b, rfl⟩ := u2.ref_of
  have hval : valK xs (nk (eTy t)) = none := (d2.val (eTy t)).1 (by rw [getD_ty, hnew]; rfl)
  have qo : Dq (F.off p q) K H1 v (ev a) := Dq.ku (F := F.at_ p vs) (F' := F.off p q) (fun _ _ z => z) (fun x ys z nm => ⟨z, fun c => by
    rcases c with c | c | c
    · exact nm (.inl c)
    · exact nm (.inr c)
    · subst c; rw [d1] at z; cases z⟩) _ hnd qv
  obtain ⟨S2, m2⟩ := S1.dput (Lb := L ++ [(t, a)]) J hq0 n (ys := xs ++ [(nk (eTy t), b, v)]) d1 (by rw [List.map_append]; exact d2.app (.cons u2 (to_ty t) (dep_ty t) qo .nil))
  exact ⟨q, b, xs, nk (eTy t), rfl, rfl, d1, d2.keys, keyAt_of u2 (to_ty t) (dep_ty t), hval, sz_lt (by rw [d2.len, List.length_map]; exact hz), k σ _ S2 (m1.trans m2)⟩
/-- .. that leaves the dict -/
def WLq (F : Fm w) (K : PySem.W.Frag) (ev : α → D) (iw iF : Nat) (ts : TS) (ρ : Ro) (ws : List Ty) (L : List (Ty × α)) (ρ' : Ro) (ws' : List Ty) : Prop :=
  ∀ (H0 : Hp) (p q : Addr), F.J H0 → H0 p = none → H0 q = none → q ≠ p → ∀ (σ : L2.St) (H : Hp) (De : Ends), WS F K ev H0 p q iw iF H σ ρ ws L → (∀ σ' H', WS F K ev H0 p q iw iF H' σ' ρ' ws' L → Xm (F.off p q) H H' → H' q = H q → De.nx σ' H') → ts De σ H
theorem wl_q {t : TS} (h : WLq F K ev iw iF t ρ ws L ρ1 ws1) : WL F K ev iw iF t ρ ws L ρ1 ws1 L := fun H0 p q J a b n σ H De S k => h H0 p q J a b n σ H De S fun σ' H' S' m _ => k σ' H' S' m
/-- waiting.extend(te) -/
theorem wl_extq {te : TE} {ts : List Ty} (h : ∀ F' : Fm w, ED F' K te (ρ.set iF (some (eDict ev L))) (.list (ts.map eTy))) (hz : ws.length + ts.length ≤ 100000) :
    WLq F K ev iw iF (tDrop (tBM K "list" rExtend (tVar iw) (tCons te tNil))) ρ ws L ρ (ws ++ ts) := fun H0 p q J hp0 hq0 n σ H De S k => by
  obtain ⟨vs, l1, l2⟩ := S.lst
  have hM := (Xt.fresh J (.refl H0) hq0).2
  refine ⟨_, S.sw, .inl ⟨rfl, vs, .of l1⟩, ?_⟩
  refine h (F.at_ p vs) σ H ⟨S.x.inv J, l1⟩ (S.read n hM) _ fun v H1 e1 qv => ?_
  obtain ⟨S1, l1', m1⟩ := S.mono J hp0 e1 l1 n hM
  obtain ⟨xs0, d0, _⟩ := S.dct
  have hq1 : H1 q = H q := by rw [d0]; exact e1.keep q _ (fun z => z.elim hM n) d0
  obtain ⟨b, us, rfl, nb, hb, hd⟩ := qv.lst_get
  obtain ⟨vs1, k1, k2⟩ := S1.lst
  rw [l1'] at k1
  cases k1
  have hdo : DqAll (F.off p q) K H1 us (ts.map eTy) := DqAll.to (tonlyAll_map fun t _ => to_ty t) hd
  obtain ⟨S2, m2⟩ := S1.lput (ws2 := ws ++ ts) J hp0 n l1' (by rw [List.map_append]; exact k2.app hdo)
  exact ⟨p, b, vs, us, rfl, rfl, l1', hb, sz_le (by rw [k2.len, hd.len, List.length_map, List.length_map]; exact hz), k σ _ S2 (m1.trans m2) (by rw [upd_ne n]; exact hq1)⟩
/-- for name in xs: .. -/
theorem wl_for {β : Type} {wi : TI} {tb : TS} {i : Nat} (xs : List β) (enc : β → D) (acc : Nat → List Ty) (hi : ∀ F' : Fm w, ID F' K wi (ρ.set iF (some (eDict ev L))) (xs.map enc)) (hnd : ∀ x ∈ xs, ndict (enc x) = true) (h1 : i ≠ iw) (h2 : i ≠ iF) (hρ : ρ[i]? = some none) (ha : acc 0 = ws)
    (hs : ∀ k x, xs[k]? = some x → ∃ ρ2, WLq F K ev iw iF tb (ρ.set i (some (enc x))) (acc k) L ρ2 (acc (k + 1)) ∧ Wk ρ2 ρ) : WL F K ev iw iF (tFor wi (gName i) tb) ρ ws L ρ (acc xs.length) L := fun H0 p q J hp0 hq0 n σ H De S kk => by
  obtain ⟨vs, l1, l2⟩ := S.lst
  have hM := (Xt.fresh J (.refl H0) hq0).2
  refine hi (F.at_ p vs) σ H ⟨S.x.inv J, l1⟩ (S.read n hM) _ fun Jt H1 e1 w1 => ?_
  obtain ⟨S1, l1', m1⟩ := S.mono J hp0 e1 l1 n hM
  subst ha
  obtain ⟨xs1, d1, _⟩ := S1.dct
  refine ⟨fun k m σ' H' => m = xs.length - k ∧ k ≤ xs.length ∧ Xm (F.off p q) H1 H' ∧ H' q = some (DtO w q xs1) ∧ WS F K ev H0 p q iw iF H' σ' ρ (acc k) L, ⟨_, rfl, Nat.zero_le _, .refl _, d1, S1⟩, ?_⟩
  rintro k m σ' H' ⟨rfl, hil, mH, hq', S2⟩
  obtain ⟨go, stop⟩ := w1 H' ⟨fun x o nx z => by
    by_cases hx : x = q
    · subst hx
      rw [d1] at z; cases z; exact hq'
    · exact mH.keep x o (fun c => by
        rcases c with c | c | c
        · exact nx (.inl c)
        · exact nx (.inr c)
        · exact hx c) z, mH.tups⟩
  by_cases hlt : k < xs.length
  · have hx : xs[k]? = some xs[k] := List.getElem?_eq_getElem hlt
    obtain ⟨ρ2, hb, hw⟩ := hs k _ hx
    obtain ⟨g1, g2⟩ := go k (enc xs[k]) (by rw [List.getElem?_map, hx]; rfl)
    refine .inr ⟨g1, fun σ' H' => Xm (F.off p q) H1 H' ∧ H' q = some (DtO w q xs1) ∧ WS F K ev H0 p q iw iF H' σ' ρ (acc (k + 1)) L, fun σ2 H2 pp => ⟨xs.length - (k + 1), by omega, rfl, hlt, pp⟩, fun y H2 hy => ?_⟩
    obtain ⟨e2, qy⟩ := g2 y H2 hy
    obtain ⟨vs2, p1, p2⟩ := S2.lst
    obtain ⟨S3, _, m3⟩ := S2.mono J hp0 (vs := vs2) (.of e2) p1 n hM
    have qo : Dq (F.off p q) K H2 y (enc xs[k]) := Dq.ku (F := F.at_ p vs) (F' := F.off p q) (fun _ _ z => z) (fun x ys z nm => ⟨z, fun c => by
      rcases c with c | c | c
      · exact nm (.inl c)
      · exact nm (.inr c)
      · subst c; rw [e2 _ _ hq'] at z; cases z⟩) _ (hnd _ (List.getElem_mem hlt)) qy
    refine hb H0 p q J hp0 hq0 n _ H2 _ (S3.set h1 h2 qo) fun σ4 H4 S4 m4 q4 => ⟨(mH.trans m3).trans m4, by rw [q4]; exact e2 _ _ hq', S4.wk hw⟩
  · have ei : k = xs.length := by omega
    subst ei
    exact .inl ⟨by simpa using stop, kk σ' H' S2 (m1.trans mH)⟩
/-- the whole: a dict, what waits, the loop -/
theorem wl_work {te : TE} {t0 : Ty} {tb : TS} {P : D → Prop} (I : List Ty → List (Ty × α) → Prop) (μ : List Ty → List (Ty × α) → Nat) (hne : iw ≠ iF) (hF : ρ[iF]? = some none) (hw : ρ[iw]? = some none)
    (h0 : ED F K te (ρ.set iF (some (eDict ev ([] : List (Ty × α))))) (eTy t0)) (init : I [t0] [])
    (step : ∀ ws t L, I (ws ++ [t]) L → ∃ ρ2 ws' L', WL F K ev iw iF tb ρ (ws ++ [t]) L ρ2 ws' L' ∧ Wk ρ2 ρ ∧ I ws' L' ∧ μ ws' L' < μ (ws ++ [t]) L) (fin : ∀ L, I [] L → P (eDict ev L)) :
    SDQ F K (tSeq (tAsg (fun _ H Q => ∀ p, H p = none → Q (.ref p) (upd H p (DtO w p []))) (gName iF)) (tSeq (tAsg (tLst (tCons te tNil)) (gName iw)) (tSeq (tWhile (tTest (tOp (rNeD K) (tVar iw) (tLst tNil))) tb) (tRet (tVar iF))))) ρ P := fun σ H De J E q0 => by
  intro q hq
  have x1 : Xt F H (upd H q (DtO w q [])) := .new hq
  have hM := (Xt.fresh J (.refl H) hq).2
  have E1 : Env F K (upd H q (DtO w q [])) (σ.set iF (some (.ref q))) (ρ.set iF (some (eDict ev ([] : List (Ty × α))))) := (E.mono x1).set iF (Dq.newD J hq)
  refine h0 _ _ (x1.inv J) E1 _ fun v H2 e2 q2 => ⟨sz_le (by show 1 ≤ 100000; decide), fun p hp => ?_⟩
  have hp0 := (Xt.fresh J (x1.trans e2) hp).1
  have hq2 : H2 q = some (DtO w q []) := e2.keep q _ hM upd_same
  have hqp : q ≠ p := fun e => by subst e; rw [hq2] at hp; cases hp
  have x3 : Xt F H (upd H2 p (.lst [v])) := (x1.trans e2).trans (.new hp)
  have hFl : iF < σ.length := by rw [E.len]; exact (List.getElem?_eq_some_iff.mp hF).1
  have hwl : iw < σ.length := by rw [E.len]; exact (List.getElem?_eq_some_iff.mp hw).1
  have wkk : Wk ((ρ.set iF none).set iw none) ρ := by
    have a : Wk (ρ.set iF none) ρ := wk_set (.refl _) hF
    exact wk_set a hw
  have S0 : WS F K ev H p q iw iF (upd H2 p (.lst [v])) ((σ.set iF (some (.ref q))).set iw (some (.ref p))) ρ [t0] ([] : List (Ty × α)) := by
    refine ⟨x3, by rw [List.getElem?_set_self (by rw [List.length_set]; exact hwl)], by rw [List.getElem?_set_ne hne, List.getElem?_set_self hFl], ⟨[v], upd_same, .one (Dq.to (to_ty t0) (q2.mono (.new hp)))⟩, ⟨[], by rw [upd_ne hqp]; exact hq2, .nil⟩, ?_⟩
    refine wkk.env (((E.kf (F' := F.off p q) x3.tups (fun _ _ z => z) fun x o z n => ⟨x3.keep x o n z, fun c => ?_⟩).unset iF _).unset iw _)
    rcases c with c | c | c
    · exact n c
    · subst c; rw [hp0] at z; cases z
    · subst c; rw [hq] at z; cases z
  refine ⟨fun m σ' H' => ∃ ws L, I ws L ∧ m = μ ws L ∧ WS F K ev H p q iw iF H' σ' ρ ws L, ⟨_, [t0], [], init, rfl, S0⟩, ?_⟩
  rintro m σ' H' ⟨ws, L, hI, rfl, S⟩
  obtain ⟨vs, l1, l2⟩ := S.lst
  refine ⟨_, S.sw, sz_le (by show 0 ≤ 100000; decide), fun l hl => ?_⟩
  have el : Xt (F.at_ p vs) H' (upd H' l (.lst [])) := .new hl
  obtain ⟨S1, l1', m1⟩ := S.mono J hp0 el l1 hqp hM
  obtain ⟨vs1, k1, k2⟩ := S1.lst
  have shp : SeqAt.shaped (.list (ws.map eTy)) = true := by
    refine shaped_of ?_ ?_
    · rw [PyData.canLay0]; exact canLay_map fun t _ => lay_ty t
    · show PyData.depthAll _ + 1 ≤ 64
      have := depthAll_le (n := 10) (ds := ws.map eTy) fun d hd => by
        obtain ⟨t, _, rfl⟩ := List.mem_map.mp hd
        have z : ∀ l : List Nat, PyData.depthAll (l.map eN) ≤ 0 := fun l => depthAll_le fun d hd => by
          obtain ⟨n, _, rfl⟩ := List.mem_map.mp hd
          exact Nat.le_refl _
        have z1 := z (sts t)
        have z2 := z (bgs t)
        have z3 := z (ens t)
        simp only [eTy, PyData.depth, PyData.depthAll]
        omega
      omega
  refine ⟨.list (ws.map eTy), .list [], .lst (.of k1) (DqAll.dpt _ (tonlyAll_map fun t _ => to_ty t) k2), .lst (.of upd_same) .nil, shp, rfl, ?_⟩
  rw [eqv_nil, List.isEmpty_map]
  rcases List.eq_nil_or_concat ws with rfl | ⟨ws0, t, rfl⟩
  · refine ⟨_, rfl, ?_⟩
    refine iteF ⟨_, S1.sf, ?_⟩
    obtain ⟨xs, d1, d2⟩ := S1.dct
    exact q0 _ _ _ (fin L hI) S1.x (.dict hM d1 (off_kfE (F' := F) (fun x h => .inl h) d2))
  · rw [List.concat_eq_append] at *
    have eb : (!(ws0 ++ [t]).isEmpty) = true := by simp
    rw [eb]
    refine ⟨_, rfl, iteT ?_⟩
    obtain ⟨ρ2, ws', L', hb, hk, hI', hm⟩ := step ws0 t L hI
    refine ⟨fun σ2 H2 => ∃ ws L, I ws L ∧ μ ws L < μ (ws0 ++ [t]) _ ∧ WS F K ev H p q iw iF H2 σ2 ρ ws L, fun σ2 H2 ⟨ws, L, a, b, c⟩ => ⟨_, b, ws, L, a, rfl, c⟩, ?_⟩
    exact hb H p q J hp0 hq hqp σ' _ _ S1 fun σ2 H2 S2 _ => ⟨ws', L', hI', hm, S2.wk hk⟩
end
/-- a def keeps a promise by what its result is -/
theorem ok_post {P : Program} {w : World} {K : PySem.W.Frag} {mg : Str → Option Value} {base : Heap} {x : Str} {params : Arguments} {body : List Stmt} {scope : Scope} {dvs : List V} {kws : List (Str × V)} {f : Addr} {fd : FuncData} {N ps : List Str} {k : Nat}
    {R : List D → D → Prop} {ok : List D → Prop} (FD : FunD K x x params body scope dvs kws f fd) (S : FnScope N ps scope) (hl : ∀ ds, ok ds → ds.length = ps.length)
    (h : ∀ (cdv : Value) (A : Around) (outer : List PySem.Env) (s : Shared) (H : Hp) (E : XK), Room k (A.deeper (envOfC x scope s.heap.objs.size f cdv)) → ∀ (F : Fm w) ds, ok ds →
      ∃ t, PSs (cxOf CX0 P w K mg base N x scope f cdv A outer s H E).nox body t ∧ SDQ F K t (ro0 N ds) (R ds)) : FnOk P w K mg base CX0 (k + 1) f fd ps (spQ w K R ok) := by
  refine FD.ok S (fun vs H Q E hs => ?_) (fun cdv A outer s H vs Q E hr hs => ?_)
  · obtain ⟨_, _, ds, q, r, _⟩ := hs
    rw [q.len]; exact hl ds r
  · obtain ⟨F, J, ds, q, r, kq⟩ := hs
    obtain ⟨t, ht, hd⟩ := h cdv A outer s H E hr F ds r
    exact ⟨t, ht.nox, hd _ H _ J (env0 q) fun v H' d hp e q2 => kq d v H' hp e q2⟩
/-- a promise whose case x the caller names -/
def spW (w : World) (K : PySem.W.Frag) {ξ : Type} (pre : ξ → List D → Prop) (post : ξ → D → Prop) : Sp := fun vs H Q _ => ∃ F : Fm w, F.J H ∧ ∃ x ds, DqAll F K H vs ds ∧ pre x ds ∧ ∀ d v H', post x d → Xt F H H' → Dq F K H' v d → Q v H'
theorem eq_callW {w : World} {F : Fm w} {K : PySem.W.Frag} {ρ : Ro} {tas : TA} {ξ : Type} {pre : ξ → List D → Prop} {post : ξ → D → Prop} {ds : List D} {E : XK} (h : EA F K tas ρ ds) (x : ξ) (hR : pre x ds) : EQ F K (tCall (spW w K pre post) [] E tas) ρ (post x) := fun σ H J En Q q =>
  h σ H J En _ fun vs H1 e1 q1 => by
    show spW w K pre post (vs ++ []) H1 Q E
    rw [List.append_nil]
    exact ⟨F, e1.inv J, x, ds, q1, hR, fun d v H2 r e2 q2 => q d v H2 r (e1.trans e2) q2⟩
theorem ok_postW {P : Program} {w : World} {K : PySem.W.Frag} {mg : Str → Option Value} {base : Heap} {x : Str} {params : Arguments} {body : List Stmt} {scope : Scope} {dvs : List V} {kws : List (Str × V)} {f : Addr} {fd : FuncData} {N ps : List Str} {k : Nat}
    {ξ : Type} {pre : ξ → List D → Prop} {post : ξ → D → Prop} (FD : FunD K x x params body scope dvs kws f fd) (S : FnScope N ps scope) (hl : ∀ z ds, pre z ds → ds.length = ps.length)
    (h : ∀ (cdv : Value) (A : Around) (outer : List PySem.Env) (s : Shared) (H : Hp) (E : XK), Room k (A.deeper (envOfC x scope s.heap.objs.size f cdv)) → ∀ (F : Fm w) z ds, pre z ds →
      ∃ t, PSs (cxOf CX0 P w K mg base N x scope f cdv A outer s H E).nox body t ∧ SDQ F K t (ro0 N ds) (post z)) : FnOk P w K mg base CX0 (k + 1) f fd ps (spW w K pre post) := by
  refine FD.ok S (fun vs H Q E hs => ?_) (fun cdv A outer s H vs Q E hr hs => ?_)
  · obtain ⟨_, _, z, ds, q, r, _⟩ := hs
    rw [q.len]; exact hl z ds r
  · obtain ⟨F, J, z, ds, q, r, kq⟩ := hs
    obtain ⟨t, ht, hd⟩ := h cdv A outer s H E hr F z ds r
    exact ⟨t, ht.nox, hd _ H _ J (env0 q) fun v H' d hp e q2 => kq d v H' hp e q2⟩
end FW
end PartLay11
section PartFun7
set_option Elab.async false
set_option linter.all false
set_option maxRecDepth 100000
set_option maxHeartbeats 2000000
namespace FW
open PySem PySem.Spec PyProof.Rows L2
theorem get_map {α : Type} (f : Ty → α) (t : Ty) : ∀ ks : List Ty, get (ks.map fun t => (t, f t)) t = if t ∈ ks then some (f t) else none
  | [] => rfl
  | k :: ks => by
    have ih := get_map f t ks
    unfold get at ih ⊢
    rw [List.map_cons, List.find?_cons]
    by_cases h : k = t
    · subst h; simp
    · have h' : ¬ t = k := fun e => h e.symm
      simp only [h, decide_false]
      rw [ih]
      simp [h']
theorem letters_243 {ty : Ty} (h : TyR ty) : (lettersOf ty).length ≤ 243 := by
  rw [letters_len]
  have h1 : nB ty ≤ 9 := by have := h.b; unfold nB; omega
  have h2 : nE ty ≤ 9 := by have := h.e; unfold nE; omega
  calc nB ty * (nE ty * 3) ≤ 9 * (9 * 3) := Nat.mul_le_mul h1 (Nat.mul_le_mul_right _ h2)
    _ ≤ 243 := by decide
/-- the types that may come about -/
structure GOk (tabs : List Tab) (U : List Ty) : Prop where
  cl : Closed tabs U
  fit : ∀ t ∈ U, Fits tabs t ∧ tabs.length = t.length ∧ TyR t
  few : U.length ≤ 100
  n : tabs.length = 2 ∨ tabs.length = 3
/-- the keys of a game -/
structure GK (tabs : List Tab) (U ks : List Ty) : Prop where
  nd : ks.Nodup
  first : firstTy tabs.length ∈ ks
  inU : ∀ t ∈ ks, t ∈ U
  cl : ∀ t ∈ ks, ∀ p ∈ laters tabs t, ∀ t', (p.1 = some t' ∨ p.2 = some t') → t' ∈ ks
abbrev evL (ps : List (Option Ty × Option Ty)) : D := .list (ps.map ePair)
abbrev eGame (tabs : List Tab) (ks : List Ty) : D := eDict evL (ks.map fun t => (t, laters tabs t))
theorem nd_evL (ps : List (Option Ty × Option Ty)) : ndict (evL ps) = true := by
  rw [evL, ndict]; exact ndictAll_of _ (tonlyAll_map fun p _ => to_pair p)
/-- what of a pair is new -/
def nx (ks : List Ty) (o : Option Ty) : Bool := match o with
  | none => false
  | some t => !decide (t ∈ ks)
def nxs (ks : List Ty) (p : Option Ty × Option Ty) : List Ty := ([p.1, p.2].filter (nx ks)).filterMap id
theorem nxs_map (ks : List Ty) (p : Option Ty × Option Ty) : ([p.1, p.2].filter (nx ks)).map eOpt = (nxs ks p).map eTy := by
  have : ∀ os : List (Option Ty), (os.filter (nx ks)).map eOpt = ((os.filter (nx ks)).filterMap id).map eTy := by
    intro os
    induction os with
    | nil => rfl
    | cons o os ih =>
      rw [List.filter_cons]
      split
      · rename_i h
        cases o with
        | none => simp [nx] at h
        | some t => rw [List.map_cons, show List.filterMap id (some t :: os.filter (nx ks)) = t :: List.filterMap id (os.filter (nx ks)) from rfl, List.map_cons, ih]
      · exact ih
  exact this _
theorem mem_nxs {ks : List Ty} {p : Option Ty × Option Ty} {t : Ty} : t ∈ nxs ks p ↔ (p.1 = some t ∨ p.2 = some t) ∧ t ∉ ks := by
  unfold nxs
  rw [List.mem_filterMap]
  constructor
  · rintro ⟨o, ho, e⟩
    obtain ⟨h1, h2⟩ := List.mem_filter.mp ho
    simp only [id] at e
    subst e
    have hk : t ∉ ks := by simpa [nx] using h2
    refine ⟨?_, hk⟩
    simp only [List.mem_cons, List.not_mem_nil, or_false] at h1
    rcases h1 with h | h
    · exact .inl h.symm
    · exact .inr h.symm
  · rintro ⟨h, hk⟩
    refine ⟨some t, List.mem_filter.mpr ⟨?_, by simp [nx, hk]⟩, rfl⟩
    rcases h with h | h
    · simp [h]
    · simp [h]
theorem nxs_len (ks : List Ty) (p : Option Ty × Option Ty) : (nxs ks p).length ≤ 2 := by
  unfold nxs
  calc _ ≤ ([p.1, p.2].filter (nx ks)).length := List.length_filterMap_le ..
    _ ≤ [p.1, p.2].length := List.length_filter_le ..
    _ = 2 := rfl
theorem flat_le {ks : List Ty} : ∀ ps : List (Option Ty × Option Ty), (ps.flatMap (nxs ks)).length ≤ 2 * ps.length
  | [] => Nat.le_refl _
  | p :: ps => by
    rw [List.flatMap_cons, List.length_append, List.length_cons]
    have := nxs_len ks p
    have := flat_le (ks := ks) ps
    omega
structure GI (tabs : List Tab) (U ws ks : List Ty) : Prop where
  nd : ks.Nodup
  kU : ∀ t ∈ ks, t ∈ U
  wU : ∀ t ∈ ws, t ∈ U
  first : firstTy tabs.length ∈ ks ∨ firstTy tabs.length ∈ ws
  cl : ∀ t ∈ ks, ∀ p ∈ laters tabs t, ∀ t', (p.1 = some t' ∨ p.2 = some t') → t' ∈ ks ∨ t' ∈ ws
  sz : (U.length - ks.length) * 490 + ws.length ≤ 50000
theorem nodup_le {α : Type} [DecidableEq α] : ∀ {as bs : List α}, as.Nodup → (∀ a ∈ as, a ∈ bs) → as.length ≤ bs.length
  | [], _, _, _ => Nat.zero_le _
  | a :: as, bs, h, hs => by
    rw [List.nodup_cons] at h
    have := nodup_le (as := as) (bs := bs.erase a) h.2 fun x hx => by
      have hne : x ≠ a := fun e => h.1 (e ▸ hx)
      exact (List.mem_erase_of_ne hne).mpr (hs x (List.mem_cons_of_mem _ hx))
    rw [List.length_erase_of_mem (hs a List.mem_cons_self)] at this
    have hp : 0 < bs.length := List.length_pos_of_mem (hs a List.mem_cons_self)
    rw [List.length_cons]; omega
theorem mem_laters {tabs : List Tab} {t : Ty} {p : Option Ty × Option Ty} (h : p ∈ laters tabs t) : ∃ l ∈ lettersOf t, p = (afterP tabs t l, afterL tabs t l) := by
  obtain ⟨l, hl, e⟩ := List.mem_map.mp h
  exact ⟨l, hl, e.symm⟩
def R_game_of : List D → D → Prop := fun ds d => ∃ (tabs : List Tab) (U : List Ty), ds = [eTabs tabs] ∧ GOk tabs U ∧ ∃ ks, GK tabs U ks ∧ d = eGame tabs ks
def Q_game_of : List D → D → Prop := fun ds d => ∀ (tabs : List Tab) (U : List Ty), ds = [eTabs tabs] → GOk tabs U → ∃ ks, GK tabs U ks ∧ d = eGame tabs ks
def ok_game_of (ds : List D) : Prop := ∃ (tabs : List Tab) (U : List Ty), ds = [eTabs tabs] ∧ GOk tabs U
theorem sc_game_of : FnScope ["tables", "start", "found", "waiting", "here", "pair", "later"] ["tables"] (defScope s_game_of) := ⟨rfl, rfl, rfl, by decide +kernel, rfl, by decide +kernel, by decide +kernel⟩
theorem c_game_of {P : Program} {w : World} {K : PySem.W.Frag} {mg : Str → Option Value} {base : Heap} (T : TT K mg) (tabs : List Tab) (U : List Ty) (ok : GOk tabs U) : C8.Cal P w K mg base 6 "game_of" (spQ w K (fun _ d => ∃ ks, GK tabs U ks ∧ d = eGame tabs ks) (fun ds => ds = [eTabs tabs])) [] := by
  have c_first_type := c_first_type (P := P) (w := w) (base := base) T
  have c_laters_of := c_laters_of (P := P) (w := w) (base := base) T
  obtain ⟨f, fd, FD, hm⟩ := T.d_game_of
  refine cal_mk (ok_post FD sc_game_of (fun ds h => by subst h; rfl) fun cdv A outer s H E hr F ds h => ?_) hm FD.kp (FD.bindsN fun _ _ _ _ _ _ us hl => match us, hl with | [_], _ => rfl)
  subst h
  refine ⟨_, (pss_cons (ps_set (i := 1) sc_game_of.nd rfl (Or.inl rfl) (C8.pe_c c_first_type hr (by decide) (by rfl) (pa_cons (pe_callB (lenK (K := K) rfl) (by rfl) T.n_len (by decide +kernel) (pa_cons (pv 0) pa_nil)) pa_nil)))
    (pss_cons (ps_set (i := 2) sc_game_of.nd rfl (Or.inr rfl) pe_dnew)
    (pss_cons (ps_set (i := 3) sc_game_of.nd rfl (Or.inl rfl) (pe_lst (pa_cons (pv 1) pa_nil)))
    (pss_cons (ps_while PassesOwn.never (pt_cmpR (neDK (K := K) hr.units rfl) (pv 3) (pe_lst pa_nil) (nomark _)) (pss_cons (ps_set (i := 4) sc_game_of.nd rfl (Or.inl rfl) (pe_bm0 PySem.F.plainAttrs_list PySem.F.slot_list_pop PySem.F.type_list_pop mt_pop (pv 3)))
    (pss_one (ps_if (pt_cmpR (notin_dtK (w := w) (K := K) hr.units rfl rfl) (pv 4) (pv 2) rfl) (pss_cons (ps_asg (C8.pe_c c_laters_of hr (by decide) (by rfl) (pa_cons (pv 0) (pa_cons (pv 4) pa_nil))) (pg_sub (pv 2) (pv 4) (set_dt hr.units)))
    (pss_one (ps_for PassesOwn.never rfl (pi_listK (K := K) rfl (pe_ix (ix_dtK (w := w) (K := K) hr.units rfl rfl) (pv 2) (pv 4) (fun _ _ => rfl))) (pg_name (i := 5) sc_game_of.nd rfl (Or.inl rfl)) (pss_one (ps_expr (pe_bm PySem.F.plainAttrs_list PySem.F.slot_list_extend PySem.F.type_list_extend mt_extend (pv 3) (pa_cons (pe_lc (own := [("later", 6)]) (g := gName 6) rfl sc_game_of.nd (pi_tupK (K := K) rfl (pv 5)) (blkOk_by (by kernel_rfl)) (fun _ _ _ _ _ => (pg_name (i := 6) sc_game_of.nd rfl (Or.inl rfl))) (fun _ _ _ _ _ => (pts_one (PW.pt (pw_and (pt_cmpR op_notN (pv 6) pe_non (nomark _)) (pw_and1 (pt_cmpR (notin_dtK (w := w) (K := K) hr.units rfl rfl) (pv 6) (pv 2) rfl)))))) (fun _ _ _ _ _ => (pv 6))) pa_nil))))))) pss_nil))))
    (pss_one (ps_ret (pv 2))))))), ?_⟩
  let ρ0 : Ro := (ro0 ["tables", "start", "found", "waiting", "here", "pair", "later"] [eTabs tabs]).set 1 (some (eTy (firstTy tabs.length)))
  refine sdq_seq (sn_asg (ed_callD (ea_cons (ed_is (ed_lenT (ea_cons (ed_var rfl) ea_nil)) (by rw [List.length_map])) ea_nil) all_dq ⟨tabs.length, rfl, ok.n, rfl⟩))
    (wl_work (ev := evL) (iw := 3) (iF := 2) (ρ := ρ0) (t0 := firstTy tabs.length) (fun ws L => ∃ ks, L = ks.map (fun t => (t, laters tabs t)) ∧ GI tabs U ws ks) (fun ws L => (U.length - L.length) * 490 + ws.length) (by decide) rfl rfl (ed_var rfl) ?_ ?_ ?_)
  · exact ⟨[], rfl, ⟨List.nodup_nil, (fun _ h => nomatch h), (fun t ht => by rw [List.mem_singleton.mp ht]; exact ok.cl.1), .inr List.mem_cons_self, (fun _ h => nomatch h), by have := ok.few; simp; omega⟩⟩
  · rintro ws t L ⟨ks, rfl, g⟩
    have hget : get (ks.map fun t => (t, laters tabs t)) t = if t ∈ ks then some (laters tabs t) else none := get_map _ t ks
    have hks : ks.length ≤ U.length := nodup_le g.nd g.kU
    have htU : t ∈ U := g.wU t (by simp)
    obtain ⟨tf, tl, tr⟩ := ok.fit t htU
    by_cases ht : t ∈ ks
    · refine ⟨ρ0.set 4 (some (eTy t)), ws, _, wl_seq (wl_pop (by decide) (by decide)) (wl_if (b := false) (fun F' => et_is (et_test (ed_niTy (ed_var rfl) (ed_var rfl))) (by rw [hget, if_pos ht]; rfl)) (fun h => nomatch h) fun _ => wl_next), wk_set (.refl _) rfl, ⟨ks, rfl, ⟨g.nd, g.kU, fun x hx => g.wU x (by simp [hx]), ?_, fun x hx p hp t' e => ?_, by have := g.sz; simp at this; omega⟩⟩, by simp⟩
      · rcases g.first with h | h
        · exact .inl h
        · rcases List.mem_append.mp h with h | h
          · exact .inr h
          · rw [List.mem_singleton.mp h]; exact .inl ht
      · rcases g.cl x hx p hp t' e with h | h
        · exact .inl h
        · rcases List.mem_append.mp h with h | h
          · exact .inr h
          · rw [List.mem_singleton.mp h]; exact .inl ht
    · have hnew : get (ks.map fun t => (t, laters tabs t)) t = none := by rw [hget, if_neg ht]
      have hk1 : (ks ++ [t]).map (fun t => (t, laters tabs t)) = ks.map (fun t => (t, laters tabs t)) ++ [(t, laters tabs t)] := by rw [List.map_append]; rfl
      have hnd : (ks ++ [t]).Nodup := List.nodup_append.mpr ⟨g.nd, by simp, fun a ha b hb => by rw [List.mem_singleton.mp hb]; exact fun e => ht (e ▸ ha)⟩
      have hkU : ∀ x ∈ ks ++ [t], x ∈ U := fun x hx => (List.mem_append.mp hx).elim (g.kU x) fun h => by rw [List.mem_singleton.mp h]; exact htU
      have hks1 : (ks ++ [t]).length ≤ U.length := nodup_le hnd hkU
      rw [List.length_append, List.length_singleton] at hks1
      have hlen : (laters tabs t).length ≤ 243 := by unfold laters; rw [List.length_map]; exact letters_243 tr
      have hsz := g.sz
      rw [List.length_append, List.length_singleton] at hsz
      have hfl : ∀ k, (((laters tabs t).take k).flatMap (nxs (ks ++ [t]))).length ≤ 486 := fun k => by
        have := flat_le (ks := ks ++ [t]) ((laters tabs t).take k)
        rw [List.length_take] at this
        omega
      refine ⟨ρ0.set 4 (some (eTy t)), ws ++ ((laters tabs t).take (laters tabs t).length).flatMap (nxs (ks ++ [t])), (ks ++ [t]).map (fun t => (t, laters tabs t)), wl_seq (wl_pop (by decide) (by decide)) (wl_if (b := true) (fun F' => et_is (et_test (ed_niTy (ed_var rfl) (ed_var rfl))) (by rw [hnew]; rfl)) (fun _ => ?_) fun h => nomatch h), wk_set (.refl _) rfl, ⟨ks ++ [t], rfl, ⟨hnd, hkU, ?_, ?_, ?_, ?_⟩⟩, ?_⟩
      · rw [hk1]
        refine wl_seq (wl_put (a := laters tabs t) (fun F' => ed_call (ea_cons (ed_var rfl) (ea_cons (ed_var rfl) ea_nil)) ⟨tabs, t, rfl, tf, tl, by rcases ok.n with h | h <;> omega, tr, rfl⟩) (nd_evL _) rfl (by decide) hnew (by have := ok.few; rw [List.length_map]; omega)) ?_
        rw [← hk1]
        have hg2 : get ((ks ++ [t]).map fun t => (t, laters tabs t)) t = some (laters tabs t) := by rw [get_map, if_pos (by simp)]
        refine wl_for (laters tabs t) ePair (fun k => ws ++ ((laters tabs t).take k).flatMap (nxs (ks ++ [t]))) (fun F' => id_list (ed_ixTy (ev := evL) (v := laters tabs t) (ed_var rfl) (ed_var rfl) hg2)) (fun p _ => ndict_of _ (to_pair p)) (by decide) (by decide) rfl (by simp) fun k p hp => ⟨(ρ0.set 4 (some (eTy t))).set 5 (some (ePair p)), ?_, wk_set (.refl _) rfl⟩
        have htk : ws ++ ((laters tabs t).take (k + 1)).flatMap (nxs (ks ++ [t])) = (ws ++ ((laters tabs t).take k).flatMap (nxs (ks ++ [t]))) ++ nxs (ks ++ [t]) p := by
          rw [List.take_add_one, hp, List.flatMap_append, List.append_assoc]
          congr 2
          simp
        show WLq F K evL 3 2 _ _ (ws ++ ((laters tabs t).take k).flatMap (nxs (ks ++ [t]))) _ _ (ws ++ ((laters tabs t).take (k + 1)).flatMap (nxs (ks ++ [t])))
        rw [htk]
        refine wl_extq (fun F' => ed_is (ed_lc [p.1, p.2] eOpt (nx (ks ++ [t])) eOpt _ [6] (id_tup (ed_var rfl)) (by show 2 ≤ 100000; decide) (by decide) (fun o _ => gd_name) (fun o _ => ?_) (fun o _ _ => ed_var rfl) fun o _ => to_opt o) (by rw [nxs_map])) ?_
        · cases o with
          | none => exact et_is (et_and (b := false) (et_test (ed_notN (ed_var rfl))) fun h => nomatch h) rfl
          | some t' =>
            have hg3 : get ((ks ++ [t]).map fun t => (t, laters tabs t)) t' = if t' ∈ ks ++ [t] then some (laters tabs t') else none := get_map _ t' _
            refine et_is (et_and (et_test (ed_notN (ed_var rfl))) fun _ => et_test (ed_niTy (ed_var rfl) (ed_var rfl))) ?_
            rw [hg3]
            by_cases h : t' ∈ ks ++ [t]
            · rw [if_pos h]; simp only [nx, h]; rfl
            · rw [if_neg h]; simp only [nx, h]; rfl
        · have := hfl k
          have := nxs_len (ks ++ [t]) p
          rw [List.length_append]; omega
      · intro x hx
        rcases List.mem_append.mp hx with h | h
        · exact g.wU x (by simp [h])
        · obtain ⟨p, hp, hx2⟩ := List.mem_flatMap.mp h
          obtain ⟨l, hl, rfl⟩ := mem_laters (List.mem_of_mem_take hp)
          exact ok.cl.2 t htU l hl x (mem_nxs.mp hx2).1
      · rcases g.first with h | h
        · exact .inl (by simp [h])
        · rcases List.mem_append.mp h with h | h
          · exact .inr (by simp [h])
          · exact .inl (by simp [List.mem_singleton.mp h])
      · intro x hx p hp t' e
        rcases List.mem_append.mp hx with h | h
        · rcases g.cl x h p hp t' e with h | h
          · exact .inl (by simp [h])
          · rcases List.mem_append.mp h with h | h
            · exact .inr (by simp [h])
            · exact .inl (by simp [List.mem_singleton.mp h])
        · rw [List.mem_singleton.mp h] at hp
          by_cases hk : t' ∈ ks ++ [t]
          · exact .inl hk
          · refine .inr (List.mem_append_right _ (List.mem_flatMap.mpr ⟨p, ?_, mem_nxs.mpr ⟨e, hk⟩⟩))
            rw [List.take_length]; exact hp
      · have := hfl (laters tabs t).length
        rw [List.length_append, List.length_append, List.length_singleton]; omega
      · have := hfl (laters tabs t).length
        simp only [List.length_append, List.length_map, List.length_singleton]; omega
  · rintro L ⟨ks, rfl, g⟩
    exact ⟨ks, ⟨g.nd, (g.first.elim id fun h => nomatch h), g.kU, fun t ht p hp t' e => (g.cl t ht p hp t' e).elim id fun h => nomatch h⟩, rfl⟩
end FW
end PartFun7
section PartFun8
set_option Elab.async false
set_option linter.all false
set_option maxRecDepth 100000
set_option maxHeartbeats 2000000
namespace FW
open PySem PySem.Spec PyProof.Rows L2
/-! ### the lost types: plain -/
def more1 (tabs : List Tab) (L : Lost) (r : Nat) (t : Ty) : Option (Ty × (Nat × Nat)) := if (get L t).isSome then none else match (laters tabs t).findIdx? (bad L) with
  | none => none
  | some n => some (t, (r, n))
def moreOf (tabs : List Tab) (ks : List Ty) (L : Lost) (r : Nat) : Lost := ks.filterMap (more1 tabs L r)
structure LK (tabs : List Tab) (ks : List Ty) (L : Lost) : Prop where
  nd : (L.map (·.1)).Nodup
  inK : ∀ e ∈ L, e.1 ∈ ks
  step : ∀ t r n, get L t = some (r, n) → r < L.length ∧ ∃ p, (laters tabs t)[n]? = some p ∧ ∀ o, (o = p.1 ∨ o = p.2) → o = none ∨ ∃ t' r' n', o = some t' ∧ get L t' = some (r', n') ∧ r' < r
  good : ∀ t ∈ ks, get L t = none → ∀ p ∈ laters tabs t, bad L p = false
structure LI (tabs : List Tab) (ks : List Ty) (L : Lost) (r : Nat) (g : Bool) : Prop where
  nd : (L.map (·.1)).Nodup
  inK : ∀ e ∈ L, e.1 ∈ ks
  step : ∀ t r n, get L t = some (r, n) → r < L.length ∧ ∃ p, (laters tabs t)[n]? = some p ∧ ∀ o, (o = p.1 ∨ o = p.2) → o = none ∨ ∃ t' r' n', o = some t' ∧ get L t' = some (r', n') ∧ r' < r
  under : ∀ t r' n, get L t = some (r', n) → r' < r
  le : g = true → r ≤ L.length
  good : g = false → ∀ t ∈ ks, get L t = none → ∀ p ∈ laters tabs t, bad L p = false
theorem get_mem {α : Type} {L : List (Ty × α)} {t : Ty} {a : α} (h : get L t = some a) : (t, a) ∈ L := by
  unfold get at h
  obtain ⟨e, he, rfl⟩ := Option.map_eq_some_iff.mp h
  have h1 := List.find?_some he
  have h2 := List.mem_of_find?_eq_some he
  have : e.1 = t := by simpa using h1
  rw [← this]; exact h2
theorem get_of_mem {α : Type} : ∀ {L : List (Ty × α)} {t : Ty} {a : α}, (L.map (·.1)).Nodup → (t, a) ∈ L → get L t = some a
  | e :: L, t, a, hn, h => by
    rw [List.map_cons, List.nodup_cons] at hn
    unfold get
    rw [List.find?_cons]
    by_cases c : e.1 = t
    · simp only [c, decide_true]
      rcases List.mem_cons.mp h with h | h
      · rw [← h]; rfl
      · exact absurd (List.mem_map.mpr ⟨_, h, rfl⟩) (by rw [← c] at *; exact hn.1)
    · simp only [c, decide_false]
      rcases List.mem_cons.mp h with h | h
      · rw [← h] at c; exact absurd rfl c
      · exact get_of_mem hn.2 h
theorem get_none {α : Type} {L : List (Ty × α)} {t : Ty} (h : get L t = none) : t ∉ L.map (·.1) := by
  intro hm
  obtain ⟨e, he, rfl⟩ := List.mem_map.mp hm
  unfold get at h
  rw [Option.map_eq_none_iff, List.find?_eq_none] at h
  exact h e he (decide_eq_true rfl)
theorem get_app {α : Type} (L M : List (Ty × α)) (t : Ty) : get (L ++ M) t = (get L t).or (get M t) := by
  unfold get
  rw [List.find?_append]
  cases L.find? (fun e => decide (e.1 = t)) <;> rfl
theorem mem_more {tabs : List Tab} {ks : List Ty} {L : Lost} {r : Nat} {e : Ty × (Nat × Nat)} (h : e ∈ moreOf tabs ks L r) : e.1 ∈ ks ∧ get L e.1 = none ∧ e.2.1 = r ∧ (laters tabs e.1).findIdx? (bad L) = some e.2.2 := by
  obtain ⟨t, ht, h⟩ := List.mem_filterMap.mp h
  unfold more1 at h
  split at h
  · cases h
  · rename_i hn
    split at h
    · cases h
    · rename_i n hf
      cases h
      exact ⟨ht, by simpa using hn, rfl, hf⟩
theorem more_keys {tabs : List Tab} {L : Lost} {r : Nat} : ∀ {ks : List Ty}, ks.Nodup → ((moreOf tabs ks L r).map (·.1)).Nodup
  | [], _ => List.nodup_nil
  | t :: ks, h => by
    rw [List.nodup_cons] at h
    have ih := more_keys (tabs := tabs) (L := L) (r := r) h.2
    unfold moreOf at ih ⊢
    rw [List.filterMap_cons]
    cases c : more1 tabs L r t with
    | none => exact ih
    | some e =>
      rw [List.map_cons, List.nodup_cons]
      refine ⟨fun hm => ?_, ih⟩
      have e1 : e.1 = t := by
        unfold more1 at c
        split at c
        · cases c
        · split at c
          · cases c
          · cases c; rfl
      obtain ⟨e', he', e2⟩ := List.mem_map.mp hm
      have := (mem_more (ks := ks) he').1
      rw [e2, e1] at this
      exact h.1 this
theorem LI.next {tabs : List Tab} {ks : List Ty} {L : Lost} {r : Nat} (hk : ks.Nodup) (h : LI tabs ks L r true) : LI tabs ks (L ++ moreOf tabs ks L r) (r + 1) (!(moreOf tabs ks L r).isEmpty) := by
  have hle := h.le rfl
  have old : ∀ {t a}, get L t = some a → get (L ++ moreOf tabs ks L r) t = some a := fun e => by rw [get_app, e]; rfl
  have cases_ : ∀ {t r' n}, get (L ++ moreOf tabs ks L r) t = some (r', n) → get L t = some (r', n) ∨ (get L t = none ∧ r' = r ∧ (laters tabs t).findIdx? (bad L) = some n ∧ (t, (r', n)) ∈ moreOf tabs ks L r) := fun {t r' n} e => by
    rw [get_app] at e
    cases c : get L t with
    | some a => rw [c] at e; exact .inl (by simpa using e)
    | none =>
      rw [c] at e
      have e' : get (moreOf tabs ks L r) t = some (r', n) := by simpa using e
      have hm := get_mem e'
      obtain ⟨_, _, h2, h3⟩ := mem_more hm
      exact .inr ⟨rfl, h2, h3, hm⟩
  refine ⟨?_, fun e he => ?_, fun t r' n e => ?_, fun t r' n e => ?_, fun g => ?_, fun g => ?_⟩
  · rw [List.map_append, List.nodup_append]
    refine ⟨h.nd, more_keys hk, fun a ha b hb e => ?_⟩
    subst e
    obtain ⟨e, he, e2⟩ := List.mem_map.mp hb
    obtain ⟨_, hn, _, _⟩ := mem_more he
    rw [e2] at hn
    exact get_none hn ha
  · rcases List.mem_append.mp he with he | he
    · exact h.inK e he
    · exact (mem_more he).1
  · rcases cases_ e with e | ⟨hn, rfl, hf, hm⟩
    · obtain ⟨h1, p, h2, h3⟩ := h.step t r' n e
      refine ⟨by rw [List.length_append]; omega, p, h2, fun o ho => (h3 o ho).imp id fun ⟨t', r2, n2, a, b, c⟩ => ⟨t', r2, n2, a, old b, c⟩⟩
    · have hpos : 0 < (moreOf tabs ks L r').length := List.length_pos_of_mem hm
      obtain ⟨hk', hb, _⟩ := List.findIdx?_eq_some_iff_getElem.mp hf
      refine ⟨by rw [List.length_append]; omega, _, List.getElem?_eq_getElem hk', fun o ho => ?_⟩
      unfold bad at hb
      rw [Bool.and_eq_true] at hb
      have hg : gone L o = true := by rcases ho with rfl | rfl; exact hb.1; exact hb.2
      cases o with
      | none => exact .inl rfl
      | some t' =>
        obtain ⟨⟨r2, n2⟩, h2⟩ := Option.isSome_iff_exists.mp (show (get L t').isSome = true from hg)
        exact .inr ⟨t', r2, n2, rfl, old h2, h.under t' r2 n2 h2⟩
  · rcases cases_ e with e | ⟨_, rfl, _, _⟩
    · have := h.under t r' n e; omega
    · omega
  · have : 0 < (moreOf tabs ks L r).length := by
      cases c : moreOf tabs ks L r with
      | nil => rw [c] at g; cases g
      | cons _ _ => simp
    rw [List.length_append]; omega
  · have he : moreOf tabs ks L r = [] := by
      cases c : moreOf tabs ks L r with
      | nil => rfl
      | cons _ _ => rw [c] at g; cases g
    rw [he, List.append_nil]
    intro t ht hn p hp
    have : more1 tabs L r t = none := by
      cases c : more1 tabs L r t with
      | none => rfl
      | some e => exact absurd (List.mem_filterMap.mpr ⟨t, ht, c⟩) (by show e ∉ moreOf tabs ks L r; rw [he]; simp)
    unfold more1 at this
    rw [hn] at this
    simp only [Option.isSome_none, Bool.false_eq_true, if_false] at this
    cases c : (laters tabs t).findIdx? (bad L) with
    | some n => rw [c] at this; cases this
    | none =>
      have := List.findIdx?_eq_none_iff.mp c p hp
      simpa using this
theorem LI.first (tabs : List Tab) (ks : List Ty) : LI tabs ks [] 0 true := ⟨List.nodup_nil, (fun _ h => nomatch h), (fun _ _ _ h => nomatch h), (fun _ _ _ h => nomatch h), (fun _ => Nat.le_refl _), (fun h => nomatch h)⟩
theorem LI.last {tabs : List Tab} {ks : List Ty} {L : Lost} {r : Nat} (h : LI tabs ks L r false) : LK tabs ks L := ⟨h.nd, h.inK, h.step, h.good rfl⟩
theorem LI.len {tabs : List Tab} {ks : List Ty} {L : Lost} {r : Nat} {g : Bool} (h : LI tabs ks L r g) : L.length ≤ ks.length := by
  have := nodup_le h.nd (bs := ks) fun t ht => by
    obtain ⟨e, he, rfl⟩ := List.mem_map.mp ht
    exact h.inK e he
  rwa [List.length_map] at this
/-! ### lost_types -/
def HashInj (w : World) (U : List Ty) : Prop := ∀ a ∈ U, ∀ b ∈ U, (nk (eTy a)).hash w = (nk (eTy b)).hash w → a = b
theorem map_nodup {α β : Type} {f : α → β} : ∀ {l : List α}, (∀ a ∈ l, ∀ b ∈ l, f a = f b → a = b) → l.Nodup → (l.map f).Nodup
  | [], _, _ => List.nodup_nil
  | a :: l, h, n => by
    rw [List.nodup_cons] at n
    rw [List.map_cons, List.nodup_cons]
    refine ⟨fun hm => ?_, map_nodup (fun x hx y hy => h x (List.mem_cons_of_mem _ hx) y (List.mem_cons_of_mem _ hy)) n.2⟩
    obtain ⟨b, hb, e⟩ := List.mem_map.mp hm
    exact n.1 (h b (List.mem_cons_of_mem _ hb) a List.mem_cons_self e ▸ hb)
theorem eRank_tonly (r : Nat × Nat) : tonly (eRank r) = true := rfl
/-- entries of tuples alone stand -/
theorem dqE_tk {w : World} {F F' : Fm w} {K : PySem.W.Frag} {H H' : Hp} (k : Tk H H') : ∀ {xs : Rw} {kvs : List (D × D)}, (∀ p ∈ kvs, tonly p.2 = true) → DqE F K H xs kvs → DqE F' K H' xs kvs
  | _, _, _, .nil => .nil
  | _, _, t, .cons h1 t1 z h2 r => .cons (Dq.tk k _ t1 h1) t1 z (Dq.tk k _ (t _ List.mem_cons_self) h2) (dqE_tk k (fun p hp => t p (List.mem_cons_of_mem _ hp)) r)
abbrev lostD (L : Lost) : List (D × D) := L.map fun e => (eTy e.1, eRank e.2)
theorem lostD_t (L : Lost) : ∀ p ∈ lostD L, tonly p.2 = true := fun p hp => by
  obtain ⟨e, _, rfl⟩ := List.mem_map.mp hp
  rfl
theorem getD_set {σ : L2.St} {i : Nat} {v : Option V} (h : i < σ.length) : (σ.set i v)[i]? = some v := List.getElem?_set_self h
/-- with the object at p as it is, set apart -/
def Fm.pin {w : World} (F : Fm w) (p : Addr) (o : HO) : Fm w := ⟨fun x => F.M x ∨ x = p, fun H => F.J H ∧ H p = some o, fun H H' h t J => ⟨F.mono H H' (fun x o m => h x o (.inl m)) t J.1, h p _ (.inr rfl) J.2⟩,
  fun H x J m => m.elim (F.live H x J.1) fun e => by subst e; exact ⟨_, J.2⟩, F.own⟩
section
variable {w : World} {F : Fm w} {K : PySem.W.Frag} {tabs : List Tab} {ks : List Ty} {L : Lost} {r : Nat}
abbrev N8 : List Str := ["game", "lost", "rank", "goes", "more", "here", "number"]
abbrev ρ8 (tabs : List Tab) (ks : List Ty) (L : Lost) (r : Nat) (g : Bool) : Ro := [some (eGame tabs ks), some (eDict eRank L), some (eN r), some (.bool g), none, none, none]
/-- the turn's reading of the number -/
theorem ed_number (F : Fm w) {t : Ty} (ht : t ∈ ks) {ρ : Ro} (h0 : ρ[0]? = some (some (eGame tabs ks))) (h1 : ρ[1]? = some (some (eDict eRank L))) (h5 : ρ[5]? = some (some (eTy t))) :
    ED F K (tIf (tTest (tOp (rInDt w K true) (tVar 5) (tVar 1))) (tCall (spR w K R_lost_letter) [] E0 (tCons (tOp (rIxDt w K) (tVar 0) (tVar 5)) (tCons (tVar 1) tNil))) (tC .non)) ρ
      (match more1 tabs L r t with | none => .none | some e => eN e.2.2) := by
  have hg : get (ks.map fun t => (t, laters tabs t)) t = some (laters tabs t) := by rw [get_map, if_pos ht]
  have a := ed_call (w := w) (F := F) (K := K) (E := E0) (d := (match (laters tabs t).findIdx? (bad L) with | none => .none | some k => eN k)) (ea_cons (ed_ixTy (ev := evL) (v := laters tabs t) (ed_var h0) (ed_var h5) hg) (ea_cons (ed_var h1) ea_nil)) (R := R_lost_letter) ⟨laters tabs t, L, rfl, rfl⟩
  refine ed_if (et_test (ed_niTy (ed_var h5) (ed_var h1))) (fun h => ed_is a ?_) fun h => ed_is ed_non ?_
  · have hn : (get L t).isSome = false := by simpa using h
    unfold more1
    rw [hn]
    simp only [Bool.false_eq_true, if_false]
    cases (laters tabs t).findIdx? (bad L) <;> rfl
  · have hn : (get L t).isSome = true := by simpa using h
    unfold more1
    rw [hn, if_pos rfl]
theorem isN_num (o : Option (Ty × (Nat × Nat))) : isN (match o with | none => .none | some e => eN e.2.2) = o.isNone := by cases o <;> rfl
/-- more = {}; for here in list(game): .. -/
theorem for_more (hz : ks.length ≤ 100) (hk : ks.Nodup) (σ : L2.St) (H : Hp) (De : Ends) (J : F.J H) (E : Env F K H σ (ρ8 tabs ks L r true)) {u : TS}
    (hq : ∀ σ' H' m ys, Xt F H H' → σ'.length = 7 → (∀ k, k < 4 → σ'[k]? = σ[k]?) → σ'[4]? = some (some (.ref m)) → H m = none → H' m = some (DtO w m ys) → DqE F K H' ys (lostD (moreOf tabs ks L r)) → u De σ' H') :
    tSeq (tAsg (fun _ H Q => ∀ p, H p = none → Q (.ref p) (upd H p (DtO w p []))) (gName 4)) (tSeq (tFor (iList K (tCB (rListDt w) (tCons (tVar 0) tNil))) (gName 5)
      (tSeq (tAsg (tIf (tTest (tOp (rInDt w K true) (tVar 5) (tVar 1))) (tCall (spR w K R_lost_letter) [] E0 (tCons (tOp (rIxDt w K) (tVar 0) (tVar 5)) (tCons (tVar 1) tNil))) (tC .non)) (gName 6))
        (tIfS (tTest (tOp (fun x y H Q => y = .non ∧ Q (.bl (!decide (x = .non))) H) (tVar 6) (tC .non))) (tAsg (tTup (tCons (tVar 2) (tCons (tVar 6) tNil))) (gSub (tVar 4) (tVar 5) (rSetDt w K))) tNext))) u) De σ H := by
  intro m hm
  have hlen : σ.length = 7 := E.len
  have nM := (Xt.fresh J (.refl H) hm).2
  have x1 : Xt F H (upd H m (DtO w m [])) := .new hm
  have E1 : Env F K (upd H m (DtO w m [])) (σ.set 4 (some (.ref m))) (ρ8 tabs ks L r true) := (wk_set (ρ' := ρ8 tabs ks L r true) (.refl _) rfl).env ((E.mono x1).unset 4 _)
  have J1 := x1.inv J
  have Ep : Env (F.pin m (DtO w m [])) K (upd H m (DtO w m [])) (σ.set 4 (some (.ref m))) (ρ8 tabs ks L r true) :=
    (wk_set (ρ' := ρ8 tabs ks L r true) (.refl _) rfl).env ((E.kf (F' := F.pin m (DtO w m [])) x1.tups (fun _ _ z => z) fun x o z n => ⟨x1.keep x o n z, fun c => c.elim n fun c => by subst c; rw [hm] at z; cases z⟩).unset 4 _)
  have hid : ID (F.pin m (DtO w m [])) K (iList K (tCB (rListDt w) (tCons (tVar 0) tNil))) (ρ8 tabs ks L r true) (ks.map eTy) := id_is (id_list (ed_listDt (ea_cons (ed_var rfl) ea_nil) no_ty)) (by rw [List.map_map, List.map_map]; rfl)
  show tFor (iList K (tCB (rListDt w) (tCons (tVar 0) tNil))) (gName 5) _ _ (σ.set 4 (some (.ref m))) (upd H m (DtO w m []))
  refine hid _ _ ⟨J1, upd_same⟩ Ep _ fun Jt H2 e2 w2 => ?_
  have hm2 : H2 m = some (DtO w m []) := (e2.inv ⟨J1, upd_same⟩).2
  have x2 : Xt F H H2 := ⟨fun x o n z => e2.keep x o (fun c => c.elim n fun c => by subst c; rw [hm] at z; cases z) (x1.keep x o n z), fun a b z => e2.tups a b (x1.tups a b z), fun _ => (e2.inv ⟨J1, upd_same⟩).1⟩
  -- the loop: the base is H; of H2 all but m is kept
  refine ⟨fun i n σ' H' => n = ks.length - i ∧ i ≤ ks.length ∧ (∀ x o, ¬ F.M x → x ≠ m → H2 x = some o → H' x = some o) ∧ Tk H2 H' ∧ Xt F H H' ∧ σ'.length = 7 ∧ (∀ k, k < 4 → σ'[k]? = σ[k]?) ∧ σ'[4]? = some (some (.ref m)) ∧ ∃ ys, H' m = some (DtO w m ys) ∧ DqE F K H' ys (lostD (moreOf tabs (ks.take i) L r)),
    ⟨_, rfl, Nat.zero_le _, fun _ _ _ _ z => z, fun _ _ z => z, x2, by rw [List.length_set]; exact hlen, fun k hk => by rw [List.getElem?_set_ne (by omega)], List.getElem?_set_self (by omega), [], hm2, .nil⟩, ?_⟩
  rintro i n σ' H' ⟨rfl, hi, kp, tk, x3, hl', hs', h4, ys, hm', dm⟩
  -- the walk: the list's own address is not m
  have Eσ : Env F K H' σ' (ρ8 tabs ks L r true) := by
    refine ⟨hl', fun j d e => ?_⟩
    have hj : j < 4 := by
      rcases Nat.lt_or_ge j 4 with h | h
      · exact h
      · exfalso
        have : j < 7 := (List.getElem?_eq_some_iff.mp e).1
        match j, h, this, e with
        | 4, _, _, e => cases e
        | 5, _, _, e => cases e
        | 6, _, _, e => cases e
    obtain ⟨v, h1, h2⟩ := E.at_ j d e
    exact ⟨v, by rw [hs' j hj]; exact h1, h2.mono x3⟩
  have wk' := w2 H' ⟨fun x o nx z => kp x o (fun c => nx (.inl c)) (fun c => nx (.inr c)) z, tk⟩
  · obtain ⟨go, stop⟩ := wk'
    by_cases hlt : i < ks.length
    · have hx : ks[i]? = some ks[i] := List.getElem?_eq_getElem hlt
      have hmem : ks[i] ∈ ks := List.getElem_mem hlt
      generalize ks[i] = t at hx hmem
      obtain ⟨g1, g2⟩ := go i (eTy t) (by rw [List.getElem?_map, hx]; rfl)
      refine .inr ⟨g1, fun σ2 H2' => (∀ x o, ¬ F.M x → x ≠ m → H2 x = some o → H2' x = some o) ∧ Tk H2 H2' ∧ Xt F H H2' ∧ σ2.length = 7 ∧ (∀ k, k < 4 → σ2[k]? = σ[k]?) ∧ σ2[4]? = some (some (.ref m)) ∧ ∃ ys, H2' m = some (DtO w m ys) ∧ DqE F K H2' ys (lostD (moreOf tabs (ks.take (i + 1)) L r)), fun σ2 H2' pp => ⟨ks.length - (i + 1), by omega, rfl, hlt, pp⟩, fun y H3 hy => ?_⟩
      obtain ⟨e3', qy⟩ := g2 y H3 hy
      have e3 : Xt F H' H3 := .of e3'
      have J3 := (x3.trans e3).inv J
      let ρ1 : Ro := (ρ8 tabs ks L r true).set 5 (some (eTy t))
      have qy : Dq F K H3 y (eTy t) := Dq.to (to_ty t) qy
      have E3 : Env F K H3 (σ'.set 5 (some y)) ρ1 := (Eσ.mono e3).set 5 qy
      refine ed_number (r := r) F hmem rfl rfl rfl _ H3 J3 E3 _ fun v4 H4 e4 q4 => ?_
      have J4 := e4.inv J3
      have E4 := (E3.mono e4).set 6 q4
      have tk1 : ks.take (i + 1) = ks.take i ++ [t] := by rw [List.take_add_one, hx]; rfl
      have hm4 : H4 m = some (DtO w m ys) := e4.keep m _ nM (e3' _ _ hm')
      have dm4 : DqE F K H4 ys (lostD (moreOf tabs (ks.take i) L r)) := dqE_tk (fun a b z => e4.tups a b (e3.tups a b z)) (lostD_t _) dm
      have kp4 : ∀ x o, ¬ F.M x → x ≠ m → H2 x = some o → H4 x = some o := fun x o a b z => e4.keep x o a (e3' _ _ (kp x o a b z))
      have tk4 : Tk H2 H4 := fun a b z => e4.tups a b (e3.tups a b (tk a b z))
      have sl : ∀ k, k < 4 → ((σ'.set 5 (some y)).set 6 (some v4))[k]? = σ[k]? := fun k hk => by rw [List.getElem?_set_ne (by omega), List.getElem?_set_ne (by omega)]; exact hs' k hk
      have s4 : ((σ'.set 5 (some y)).set 6 (some v4))[4]? = some (some (.ref m)) := by rw [List.getElem?_set_ne (by decide), List.getElem?_set_ne (by decide)]; exact h4
      have hl2 : ((σ'.set 5 (some y)).set 6 (some v4)).length = 7 := by rw [List.length_set, List.length_set]; exact hl'
      refine et_test (b := !(more1 tabs L r t).isNone) (ed_is (ed_notN (ed_var rfl)) (by rw [isN_num])) _ H4 J4 E4 _ fun H5 e5 => ?_
      have J5 := e5.inv J4
      have E5 := E4.mono e5
      have hm5 : H5 m = some (DtO w m ys) := e5.keep m _ nM hm4
      have dm5 : DqE F K H5 ys (lostD (moreOf tabs (ks.take i) L r)) := dqE_tk e5.tups (lostD_t _) dm4
      cases hc : more1 tabs L r t with
      | none =>
        refine iteF ⟨fun x o a b z => e5.keep x o a (kp4 x o a b z), fun a b z => e5.tups a b (tk4 a b z), ((x3.trans e3).trans e4).trans e5, hl2, sl, s4, ys, hm5, ?_⟩
        rw [tk1]
        unfold moreOf at dm5 ⊢
        rw [List.filterMap_append, List.filterMap_cons_none hc, List.filterMap_nil, List.append_nil]
        exact dm5
      | some e =>
        have he : e.1 = t ∧ e.2.1 = r := by
          unfold more1 at hc
          split at hc
          · cases hc
          · split at hc
            · cases hc
            · cases hc; exact ⟨rfl, rfl⟩
        rw [hc] at E5
        have hE : ED F K (tTup (tCons (tVar 2) (tCons (tVar 6) tNil))) (ρ1.set 6 (some (eN e.2.2))) (.tuple [eN r, eN e.2.2]) := ed_tup (ea_cons (ed_var rfl) (ea_cons (ed_var rfl) ea_nil))
        refine iteT (hE _ H5 J5 E5 _ fun v6 H6 e6 q6 => ?_)
        have E6 := E5.mono e6
        obtain ⟨v5, s5, q5⟩ := E6.at_ 5 (eTy t) rfl
        obtain ⟨b, rfl⟩ := q5.ref_of
        have hm6 : H6 m = some (DtO w m ys) := e6.keep m _ nM hm5
        have dm6 : DqE F K H6 ys (lostD (moreOf tabs (ks.take i) L r)) := dqE_tk e6.tups (lostD_t _) dm5
        have hnew : get (moreOf tabs (ks.take i) L r) t = none := by
          cases c : get (moreOf tabs (ks.take i) L r) t with
          | none => rfl
          | some a =>
            have h1 := (mem_more (get_mem c)).1
            have h1 : t ∈ ks.take i := h1
            have h3 : (ks.take i ++ [t]).Nodup := by rw [← tk1]; exact hk.sublist (List.take_sublist ..)
            exact absurd rfl ((List.nodup_append.mp h3).2.2 t h1 t List.mem_cons_self)
        have hsz : (moreOf tabs (ks.take i) L r).length ≤ 100 := by
          have h1 : (moreOf tabs (ks.take i) L r).length ≤ (ks.take i).length := List.length_filterMap_le ..
          rw [List.length_take] at h1; omega
        have x6 : Xt F H H6 := (((x3.trans e3).trans e4).trans e5).trans e6
        refine ⟨_, s4, _, s5, m, b, ys, nk (eTy t), rfl, rfl, hm6, dm6.keys, keyAt_of q5 (to_ty t) (dep_ty t), (dm6.val (eTy t)).1 (by rw [getD_ty, hnew]; rfl), sz_lt (by rw [dm6.len, List.length_map]; omega), ?_⟩
        have kd : Tk H6 (upd H6 m (DtO w m (ys ++ [(nk (eTy t), b, v6)]))) := Tk.dict hm6
        refine ⟨fun x o a c z => by rw [upd_ne c]; exact e6.keep x o a (e5.keep x o a (kp4 x o a c z)), fun a c z => kd a c (e6.tups a c (e5.tups a c (tk4 a c z))), .mut J x6 hm nM kd, hl2, sl, s4, _, upd_same, ?_⟩
        have hfm : lostD (moreOf tabs (ks.take (i + 1)) L r) = lostD (moreOf tabs (ks.take i) L r) ++ [(eTy t, .tuple [eN r, eN e.2.2])] := by
          rw [tk1]
          unfold moreOf lostD
          rw [List.filterMap_append, List.filterMap_cons_some hc, List.filterMap_nil, List.map_append, List.map_cons, List.map_nil, he.1]
          show _ = _ ++ [(eTy t, eRank (r, e.2.2))]
          rw [← he.2]
        rw [hfm]
        exact dqE_tk (F := F) kd (fun p hp => by
          rcases List.mem_append.mp hp with h | h
          · exact lostD_t _ p h
          · rw [List.mem_singleton.mp h]; rfl) (dm6.app (.cons q5 (to_ty t) (dep_ty t) q6 .nil))
    · have ei : i = ks.length := by omega
      subst ei
      rw [List.take_length] at dm
      exact .inl ⟨by simpa using stop, hq σ' H' m ys x3 hl' hs' h4 hm hm' dm⟩
end
abbrev dnewT (w : World) : TE := fun _ H Q => ∀ p, H p = none → Q (.ref p) (upd H p (DtO w p []))
abbrev tMore (w : World) (K : PySem.W.Frag) (u : TS) : TS := tSeq (tAsg (dnewT w) (gName 4)) (tSeq (tFor (iList K (tCB (rListDt w) (tCons (tVar 0) tNil))) (gName 5)
      (tSeq (tAsg (tIf (tTest (tOp (rInDt w K true) (tVar 5) (tVar 1))) (tCall (spR w K R_lost_letter) [] E0 (tCons (tOp (rIxDt w K) (tVar 0) (tVar 5)) (tCons (tVar 1) tNil))) (tC .non)) (gName 6))
        (tIfS (tTest (tOp (fun x y H Q => y = .non ∧ Q (.bl (!decide (x = .non))) H) (tVar 6) (tC .non))) (tAsg (tTup (tCons (tVar 2) (tCons (tVar 6) tNil))) (gSub (tVar 4) (tVar 5) (rSetDt w K))) tNext))) u)
theorem lost_body {w : World} {F : Fm w} {K : PySem.W.Frag} {tabs : List Tab} {U ks : List Ty} (hk : GK tabs U ks) (hz : ks.length ≤ 100) (hh : HashInj w U) :
    SDQ F K (tSeq (tPar3 1 2 3 (tCons (dnewT w) (tCons (tC (.int 0)) (tCons (tC (.bl true)) tNil)))) (tSeq (tWhile (tB (tVar 3)) (tMore w K (tSeq (tDrop (tDUpd w K (tVar 1) (tCons (tVar 4) tNil))) (tSeq (tAsg (tOp (rI0 fun i j => .int (i + j)) (tVar 2) (tC (.int 1))) (gName 2)) (tAsg (tOp (rNeDt w) (tVar 4) (dnewT w)) (gName 3)))))) (tRet (tVar 1))))
      (ro0 N8 [eGame tabs ks]) (fun d => ∃ L : Lost, LK tabs ks L ∧ d = eDict eRank L) := by
  intro σ H De J E q0 q hq
  have hlen : σ.length = 7 := E.len
  have nM := (Xt.fresh J (.refl H) hq).2
  refine ⟨_, _, _, rfl, ?_⟩
  refine ⟨fun m σ' H' => ∃ (L : Lost) (r : Nat) (g : Bool) (xs : Rw), m = (ks.length - L.length) * 2 + (if g then 1 else 0) ∧ LI tabs ks L r g ∧ Xt F H H' ∧ σ'.length = 7 ∧ σ'[0]? = σ[0]? ∧ σ'[1]? = some (some (.ref q)) ∧ σ'[2]? = some (some (.int (r : Int))) ∧ σ'[3]? = some (some (.bl g)) ∧ H' q = some (DtO w q xs) ∧ DqE F K H' xs (lostD L),
    ⟨_, [], 0, true, [], rfl, LI.first tabs ks, .new hq, by simp [hlen], ?_, ?_, ?_, ?_, upd_same, .nil⟩, ?_⟩
  · rw [List.getElem?_set_ne (by decide), List.getElem?_set_ne (by decide), List.getElem?_set_ne (by decide)]
  · rw [List.getElem?_set_ne (by decide), List.getElem?_set_ne (by decide), List.getElem?_set_self (by omega)]
  · rw [List.getElem?_set_ne (by decide), List.getElem?_set_self (by rw [List.length_set]; omega)]; rfl
  · rw [List.getElem?_set_self (by rw [List.length_set, List.length_set]; omega)]
  rintro n σ' H' ⟨L, r, g, xs, rfl, li, x1, hl', s0, s1, s2, s3, hq', dl⟩
  have J1 := x1.inv J
  refine ⟨_, s3, g, rfl, ?_⟩
  cases g with
  | false =>
    refine iteF ⟨_, s1, q0 _ _ _ ⟨L, li.last, rfl⟩ x1 (.dict nM hq' dl)⟩
  | true =>
    have Eσ : Env F K H' σ' (ρ8 tabs ks L r true) := by
      refine ⟨hl', fun j d e => ?_⟩
      have hj : j < 7 := (List.getElem?_eq_some_iff.mp e).1
      match j, hj, e with
      | 0, _, e =>
        cases e
        obtain ⟨v, h1, h2⟩ := E.at_ 0 (eGame tabs ks) rfl
        exact ⟨v, by rw [s0]; exact h1, h2.mono x1⟩
      | 1, _, e => cases e; exact ⟨_, s1, .dict nM hq' dl⟩
      | 2, _, e => cases e; exact ⟨_, s2, .int _⟩
      | 3, _, e => cases e; exact ⟨_, s3, .bl _⟩
      | 4, _, e => cases e
      | 5, _, e => cases e
      | 6, _, e => cases e
    refine iteT ⟨fun σ' H' => ∃ (L2 : Lost) (r : Nat) (g : Bool) (xs : Rw), (ks.length - L2.length) * 2 + (if g then 1 else 0) < (ks.length - L.length) * 2 + 1 ∧ LI tabs ks L2 r g ∧ Xt F H H' ∧ σ'.length = 7 ∧ σ'[0]? = σ[0]? ∧ σ'[1]? = some (some (.ref q)) ∧ σ'[2]? = some (some (.int (r : Int))) ∧ σ'[3]? = some (some (.bl g)) ∧ H' q = some (DtO w q xs) ∧ DqE F K H' xs (lostD L2), fun σ' H' ⟨L2, r2, g2, xs2, a, b⟩ => ⟨_, a, L2, r2, g2, xs2, rfl, b⟩, ?_⟩
    refine for_more hz hk.nd σ' H' _ J1 Eσ fun σ2 H2 m ys x2 hl2 hs2 h4 hm0 hm2 dm => ?_
    have hqm : q ≠ m := fun e => by subst e; rw [hq'] at hm0; cases hm0
    have hq2 : H2 q = some (DtO w q xs) := x2.keep q _ nM hq'
    have dl2 : DqE F K H2 xs (lostD L) := dl.mono x2
    have hks := hk.nd
    have hdis : ∀ y ∈ ys, valK xs y.1 = none := fun y hy => by
      have : y.1 ∈ (lostD (moreOf tabs ks L r)).map fun p => nk p.1 := by rw [← dm.nks]; exact List.mem_map.mpr ⟨y, hy, rfl⟩
      obtain ⟨p, hp, e⟩ := List.mem_map.mp this
      obtain ⟨e', he', rfl⟩ := List.mem_map.mp hp
      obtain ⟨_, hn, _, _⟩ := mem_more he'
      rw [← e]
      exact (dl2.val (eTy e'.1)).1 (by rw [getD_ty, hn]; rfl)
    have hhash : (ys.map fun y => y.1.hash w).Nodup := by
      have e : (ys.map fun y => y.1.hash w) = ((moreOf tabs ks L r).map (·.1)).map fun t => (nk (eTy t)).hash w := by
        have h1 : (ys.map fun y => y.1.hash w) = (ys.map (·.1)).map fun k => k.hash w := by simp only [List.map_map, Function.comp_def]
        rw [h1, dm.nks]
        simp only [lostD, List.map_map, Function.comp_def]
      rw [e]
      refine map_nodup (fun a ha b hb => hh a ?_ b ?_) (more_keys hks)
      · obtain ⟨e1, h1, rfl⟩ := List.mem_map.mp ha
        exact hk.inU _ (mem_more h1).1
      · obtain ⟨e1, h1, rfl⟩ := List.mem_map.mp hb
        exact hk.inU _ (mem_more h1).1
    have hml : (moreOf tabs ks L r).length ≤ 100 := Nat.le_trans (List.length_filterMap_le ..) hz
    have hLl := li.len
    refine ⟨_, by rw [hs2 1 (by decide)]; exact s1, ⟨q, xs, rfl, hq2⟩, _, h4, q, m, xs, ys, rfl, rfl, hqm, hq2, hm2, dl2.keys, dm.keys, hdis, sz_le (by rw [dl2.len, dm.len, List.length_map, List.length_map]; omega), .inr hhash, ?_⟩
    have kd : Tk H2 (upd H2 q (DtO w q (xs ++ ys))) := Tk.dict hq2
    have x3 : Xt F H (upd H2 q (DtO w q (xs ++ ys))) := .mut J (x1.trans x2) hq nM kd
    refine ⟨_, by rw [hs2 2 (by decide)]; exact s2, _, _, rfl, rfl, ?_⟩
    refine ⟨_, by rw [List.getElem?_set_ne (by decide)]; exact h4, fun l hl => ⟨m, l, ys, rfl, rfl, ?_, upd_same, ?_⟩⟩
    · have : m ≠ l := fun e => by subst e; rw [upd_ne (Ne.symm hqm), hm2] at hl; cases hl
      rw [upd_ne this, upd_ne (Ne.symm hqm)]; exact hm2
    have ey : ys.isEmpty = (moreOf tabs ks L r).isEmpty := by
      have := dm.len
      rw [List.length_map] at this
      cases ys <;> cases hc : moreOf tabs ks L r <;> simp_all
    rw [ey]
    have nl := li.next hks
    have nll := nl.len
    refine ⟨_, _, _, xs ++ ys, ?_, nl, x3.trans (.new hl), by rw [List.length_set, List.length_set]; exact hl2, ?_, ?_, ?_, ?_, ?_, ?_⟩
    · rw [List.length_append] at nll ⊢
      cases hc : moreOf tabs ks L r with
      | nil => simp
      | cons a b => rw [hc] at nll; simp at nll ⊢; omega
    · rw [List.getElem?_set_ne (by decide), List.getElem?_set_ne (by decide), hs2 0 (by decide)]; exact s0
    · rw [List.getElem?_set_ne (by decide), List.getElem?_set_ne (by decide), hs2 1 (by decide)]; exact s1
    · rw [List.getElem?_set_ne (by decide), List.getElem?_set_self (by omega)]
      congr 2
    · rw [List.getElem?_set_self (by rw [List.length_set]; omega)]
    · have : q ≠ l := fun e => by subst e; rw [upd_same] at hl; cases hl
      rw [upd_ne this]; exact upd_same
    · rw [show lostD (L ++ moreOf tabs ks L r) = lostD L ++ lostD (moreOf tabs ks L r) from List.map_append]
      refine DqE.mono (.new hl) (dqE_tk (F := F) kd (fun p hp => ?_) (dl2.app dm))
      rcases List.mem_append.mp hp with h | h
      · exact lostD_t _ p h
      · exact lostD_t _ p h
theorem sc_lost_types : FnScope ["game", "lost", "rank", "goes", "more", "here", "number"] ["game"] (defScope s_lost_types) := ⟨rfl, rfl, rfl, by decide +kernel, rfl, by decide +kernel, by decide +kernel⟩
theorem c_lost_types {P : Program} {w : World} {K : PySem.W.Frag} {mg : Str → Option Value} {base : Heap} (T : TT K mg) (tabs : List Tab) (U : List Ty) (hh : HashInj w U) :
    C8.Cal P w K mg base 2 "lost_types" (spW w K (fun (ks : List Ty) ds => ds = [eGame tabs ks] ∧ GK tabs U ks ∧ ks.length ≤ 100) (fun ks d => ∃ L : Lost, LK tabs ks L ∧ d = eDict eRank L)) [] := by
  have c_lost_letter := c_lost_letter (P := P) (w := w) (base := base) T
  obtain ⟨f, fd, FD, hm⟩ := T.d_lost_types
  refine cal_mk (ok_postW FD sc_lost_types (fun z ds h => by rw [h.1]; rfl) fun cdv A outer s H E hr F ks ds h => ?_) hm FD.kp (FD.bindsN fun _ _ _ _ _ _ us hl => match us, hl with | [_], _ => rfl)
  obtain ⟨rfl, hk, hz⟩ := h
  exact ⟨_, (pss_cons (L2.ps_par3 (i := 1) (j := 2) (l := 3) rfl sc_lost_types.nd rfl rfl rfl (by decide) (by decide) (by decide) rfl rfl rfl (pa_cons pe_dnew (pa_cons pe_int (pa_cons pe_bl pa_nil))) (by rfl))
    (pss_cons (ps_while PassesOwn.never (pt_val (pv 3)) (pss_cons (ps_set (i := 4) sc_lost_types.nd rfl (Or.inl rfl) pe_dnew)
    (pss_cons (ps_for PassesOwn.never rfl (pi_listK (K := K) rfl (pe_callTy (call_list_dt rfl) (by rfl) T.n_list (by decide +kernel) (pa_cons (pv 0) pa_nil))) (pg_name (i := 5) sc_lost_types.nd rfl (Or.inl rfl)) (pss_cons (ps_set (i := 6) sc_lost_types.nd rfl (Or.inl rfl) (pe_ifExp (pt_cmpR (notin_dtK (w := w) (K := K) hr.units rfl rfl) (pv 5) (pv 1) rfl) (C8.pe_c c_lost_letter hr (by decide) (by rfl) (pa_cons (pe_ix (ix_dtK (w := w) (K := K) hr.units rfl rfl) (pv 0) (pv 5) (fun _ _ => rfl)) (pa_cons (pv 1) pa_nil))) pe_non))
    (pss_one (ps_if (pt_cmpR op_notN (pv 6) pe_non (nomark _)) (pss_one (ps_asg (pe_tup (pa_cons (pv 2) (pa_cons (pv 6) pa_nil))) (pg_sub (pv 4) (pv 5) (set_dt hr.units)))) pss_nil))))
    (pss_cons (ps_expr (pe_dupd hr.units (pv 1) (pa_cons (pv 4) pa_nil)))
    (pss_cons (ps_set (i := 2) sc_lost_types.nd rfl (Or.inl rfl) (pe_op op_add (pv 2) pe_int))
    (pss_one (ps_set (i := 3) sc_lost_types.nd rfl (Or.inl rfl) (pe_cmpR (op_ne_dt hr.units) (pv 4) pe_dnew (nomark _)))))))))
    (pss_one (ps_ret (pv 1))))), lost_body hk hz hh⟩
end FW
end PartFun8
section PartFun9
set_option Elab.async false
set_option linter.all false
set_option maxRecDepth 100000
set_option maxHeartbeats 2000000
namespace FW
open PySem PySem.Spec PyProof.Rows L2
abbrev evC (cs : List Str) : D := .tuple (cs.map .str)
def ch (L : Lost) (p : Option Ty × Option Ty) : Str := if kept L p.1 then "pass" else "leave"
def chs (tabs : List Tab) (L : Lost) (t : Ty) : List Str := (laters tabs t).map (ch L)
def chosen (L : Lost) (p : Option Ty × Option Ty) : Option Ty := if kept L p.1 then p.1 else p.2
theorem kept_gone (L : Lost) (o : Option Ty) : kept L o = !gone L o := by cases o <;> rfl
theorem chosen_some {L : Lost} {p : Option Ty × Option Ty} (h : bad L p = false) : ∃ t, chosen L p = some t ∧ get L t = none ∧ (p.1 = some t ∨ p.2 = some t) := by
  unfold bad at h
  rw [Bool.and_eq_false_iff] at h
  unfold chosen
  rw [kept_gone]
  cases c : gone L p.1 with
  | false =>
    simp only [Bool.not_false, if_true]
    cases e : p.1 with
    | none => rw [e] at c; cases c
    | some t => rw [e] at c; exact ⟨t, rfl, by simpa [gone] using c, .inl rfl⟩
  | true =>
    simp only [Bool.not_true, Bool.false_eq_true, if_false]
    have c2 : gone L p.2 = false := by
      rcases h with h | h
      · rw [c] at h; cases h
      · exact h
    cases e : p.2 with
    | none => rw [e] at c2; cases c2
    | some t => rw [e] at c2; exact ⟨t, rfl, by simpa [gone] using c2, .inr rfl⟩
structure PK (tabs : List Tab) (ks : List Ty) (L : Lost) (t0 : Ty) (ps : List Ty) : Prop where
  nd : ps.Nodup
  first : t0 ∈ ps
  inK : ∀ t ∈ ps, t ∈ ks ∧ get L t = none
  cl : ∀ t ∈ ps, ∀ p ∈ laters tabs t, ∀ t', chosen L p = some t' → t' ∈ ps
structure PI' (tabs : List Tab) (ks : List Ty) (L : Lost) (t0 : Ty) (ws ps : List Ty) : Prop where
  nd : ps.Nodup
  pK : ∀ t ∈ ps, t ∈ ks ∧ get L t = none
  wK : ∀ t ∈ ws, t ∈ ks ∧ get L t = none
  first : t0 ∈ ps ∨ t0 ∈ ws
  cl : ∀ t ∈ ps, ∀ p ∈ laters tabs t, ∀ t', chosen L p = some t' → t' ∈ ps ∨ t' ∈ ws
  sz : (ks.length - ps.length) * 490 + ws.length ≤ 50000
theorem zipSelf {α : Type} (f g : α → D) (as : List α) : List.zipWith (fun d e => PyData.tuple [d, e]) (as.map f) (as.map g) = as.map fun a => .tuple [f a, g a] := by
  induction as with
  | nil => rfl
  | cons a as ih => rw [List.map_cons, List.map_cons, List.zipWith_cons_cons, ih]; rfl
abbrev ePlan (tabs : List Tab) (L : Lost) (ps : List Ty) : D := eDict evC (ps.map fun t => (t, chs tabs L t))
theorem sc_plan_of : FnScope ["game", "lost", "start", "found", "waiting", "here", "pair", "choice"] ["game", "lost", "start"] (defScope s_plan_of) := ⟨rfl, rfl, rfl, by decide +kernel, rfl, by decide +kernel, by decide +kernel⟩
structure PlanPre (tabs : List Tab) (U : List Ty) (z : List Ty × Lost × Ty) : Prop where
  hk : GK tabs U z.1
  lk : LK tabs z.1 z.2.1
  hz : z.1.length ≤ 100
  h0 : z.2.2 ∈ z.1
  hn0 : get z.2.1 z.2.2 = none
theorem c_plan_of {P : Program} {w : World} {K : PySem.W.Frag} {mg : Str → Option Value} {base : Heap} (T : TT K mg) (tabs : List Tab) (U : List Ty) (ok : GOk tabs U) :
    C8.Cal P w K mg base 3 "plan_of" (spW w K (fun (z : List Ty × Lost × Ty) ds => ds = [eGame tabs z.1, eDict eRank z.2.1, eTy z.2.2] ∧ PlanPre tabs U z) (fun z d => ∃ ps, PK tabs z.1 z.2.1 z.2.2 ps ∧ d = ePlan tabs z.2.1 ps)) [] := by
  have c_choices_at := c_choices_at (P := P) (w := w) (base := base) T
  obtain ⟨f, fd, FD, hm⟩ := T.d_plan_of
  refine cal_mk (ok_postW FD sc_plan_of (fun z ds h => by rw [h.1]; rfl) fun cdv A outer s H E hr F z ds h => ?_) hm FD.kp (FD.bindsN fun _ _ _ _ _ _ us hl => match us, hl with | [_, _, _], _ => rfl)
  obtain ⟨ks, L, t0⟩ := z
  obtain ⟨rfl, hk, lk, hz, h0, hn0⟩ := h
  have hk : GK tabs U ks := hk
  have lk : LK tabs ks L := lk
  have hz : ks.length ≤ 100 := hz
  have h0 : t0 ∈ ks := h0
  have hn0 : get L t0 = none := hn0
  refine ⟨_, (pss_cons (ps_set (i := 3) sc_plan_of.nd rfl (Or.inl rfl) pe_dnew)
    (pss_cons (ps_set (i := 4) sc_plan_of.nd rfl (Or.inl rfl) (pe_lst (pa_cons (pv 2) pa_nil)))
    (pss_cons (ps_while PassesOwn.never (pt_cmpR (neDK (K := K) hr.units rfl) (pv 4) (pe_lst pa_nil) (nomark _)) (pss_cons (ps_set (i := 5) sc_plan_of.nd rfl (Or.inl rfl) (pe_bm0 PySem.F.plainAttrs_list PySem.F.slot_list_pop PySem.F.type_list_pop mt_pop (pv 4)))
    (pss_one (ps_if (pt_cmpR (notin_dtK (w := w) (K := K) hr.units rfl rfl) (pv 5) (pv 3) rfl) (pss_cons (ps_asg (C8.pe_c c_choices_at hr (by decide) (by rfl) (pa_cons (pe_ix (ix_dtK (w := w) (K := K) hr.units rfl rfl) (pv 0) (pv 5) (fun _ _ => rfl)) (pa_cons (pv 1) pa_nil))) (pg_sub (pv 3) (pv 5) (set_dt hr.units)))
    (pss_one (ps_expr (pe_bm PySem.F.plainAttrs_list PySem.F.slot_list_extend PySem.F.type_list_extend mt_extend (pv 4) (pa_cons (pe_lc (own := [("pair", 6), ("choice", 7)]) (g := gTup K 2 (gCons (gName 6) (gCons (gName 7) gNil))) rfl sc_plan_of.nd (pi_zipX false true (by rfl) T.n_zip (pa_cons (pe_ix (ix_dtK (w := w) (K := K) hr.units rfl rfl) (pv 0) (pv 5) (fun _ _ => rfl)) (pa_cons (pe_ix (ix_dtK (w := w) (K := K) hr.units rfl rfl) (pv 3) (pv 5) (fun _ _ => rfl)) pa_nil))) (blkOk_by (by kernel_rfl)) (fun _ _ _ _ _ => (pg_tupK (K := K) rfl rfl (pgs_cons (pg_name (i := 6) sc_plan_of.nd rfl (Or.inl rfl)) (pgs_cons (pg_name (i := 7) sc_plan_of.nd rfl (Or.inl rfl)) pgs_nil)))) (fun _ _ _ _ _ => pts_nil) (fun _ _ _ _ _ => (pe_ix (ixK (K := K) rfl) (pv 6) (pe_ifExp (pt_cmpR op_eq (pv 7) (C8.pe_gc (by rfl) T.g_LEAVE) (nomark _)) pe_int pe_int) (fun _ _ => rfl)))) pa_nil))))) pss_nil))))
    (pss_one (ps_ret (pv 3)))))), ?_⟩
  let ρ0 : Ro := ro0 ["game", "lost", "start", "found", "waiting", "here", "pair", "choice"] [eGame tabs ks, eDict eRank L, eTy t0]
  refine wl_work (ev := evC) (iw := 4) (iF := 3) (ρ := ρ0) (t0 := t0) (fun ws M => ∃ ps, M = ps.map (fun t => (t, chs tabs L t)) ∧ PI' tabs ks L t0 ws ps) (fun ws M => (ks.length - M.length) * 490 + ws.length) (by decide) rfl rfl (ed_var rfl) ?_ ?_ ?_
  · exact ⟨[], rfl, ⟨List.nodup_nil, (fun _ h => nomatch h), (fun t ht => by rw [List.mem_singleton.mp ht]; exact ⟨h0, hn0⟩), .inr List.mem_cons_self, (fun _ h => nomatch h), by simp; omega⟩⟩
  · rintro ws t M ⟨ps, rfl, g⟩
    have hget : get (ps.map fun t => (t, chs tabs L t)) t = if t ∈ ps then some (chs tabs L t) else none := get_map _ t ps
    have hps : ps.length ≤ ks.length := nodup_le g.nd fun x hx => (g.pK x hx).1
    obtain ⟨htK, htn⟩ := g.wK t (by simp)
    obtain ⟨tf, tl, tr⟩ := ok.fit t (hk.inU t htK)
    by_cases ht : t ∈ ps
    · refine ⟨ρ0.set 5 (some (eTy t)), ws, _, wl_seq (wl_pop (by decide) (by decide)) (wl_if (b := false) (fun F' => et_is (et_test (ed_niTy (ed_var rfl) (ed_var rfl))) (by rw [hget, if_pos ht]; rfl)) (fun h => nomatch h) fun _ => wl_next), wk_set (.refl _) rfl, ⟨ps, rfl, ⟨g.nd, g.pK, fun x hx => g.wK x (by simp [hx]), ?_, fun x hx p hp t' e => ?_, by have := g.sz; simp at this; omega⟩⟩, by simp⟩
      · rcases g.first with h | h
        · exact .inl h
        · rcases List.mem_append.mp h with h | h
          · exact .inr h
          · rw [List.mem_singleton.mp h]; exact .inl ht
      · rcases g.cl x hx p hp t' e with h | h
        · exact .inl h
        · rcases List.mem_append.mp h with h | h
          · exact .inr h
          · rw [List.mem_singleton.mp h]; exact .inl ht
    · have hnew : get (ps.map fun t => (t, chs tabs L t)) t = none := by rw [hget, if_neg ht]
      have hk1 : (ps ++ [t]).map (fun t => (t, chs tabs L t)) = ps.map (fun t => (t, chs tabs L t)) ++ [(t, chs tabs L t)] := by rw [List.map_append]; rfl
      have hnd : (ps ++ [t]).Nodup := List.nodup_append.mpr ⟨g.nd, by simp, fun a ha b hb => by rw [List.mem_singleton.mp hb]; exact fun e => ht (e ▸ ha)⟩
      have hpK : ∀ x ∈ ps ++ [t], x ∈ ks ∧ get L x = none := fun x hx => (List.mem_append.mp hx).elim (g.pK x) fun h => by rw [List.mem_singleton.mp h]; exact ⟨htK, htn⟩
      have hps1 : (ps ++ [t]).length ≤ ks.length := nodup_le hnd fun x hx => (hpK x hx).1
      rw [List.length_append, List.length_singleton] at hps1
      have hlen : (laters tabs t).length ≤ 243 := by unfold laters; rw [List.length_map]; exact letters_243 tr
      have hsz := g.sz
      rw [List.length_append, List.length_singleton] at hsz
      have hch : ∀ p ∈ laters tabs t, ∃ t', chosen L p = some t' ∧ get L t' = none ∧ (p.1 = some t' ∨ p.2 = some t') := fun p hp => chosen_some (lk.good t htK htn p hp)
      let nxt : List Ty := (laters tabs t).map fun p => (chosen L p).getD []
      have hnx : (laters tabs t).map (fun p => eOpt (chosen L p)) = nxt.map eTy := by
        rw [List.map_map]
        refine List.map_congr_left fun p hp => ?_
        obtain ⟨t', e, _⟩ := hch p hp
        show eOpt (chosen L p) = eTy ((chosen L p).getD [])
        rw [e]; rfl
      have hg0 : get (ks.map fun t => (t, laters tabs t)) t = some (laters tabs t) := by rw [get_map, if_pos htK]
      refine ⟨ρ0.set 5 (some (eTy t)), ws ++ nxt, (ps ++ [t]).map (fun t => (t, chs tabs L t)), wl_seq (wl_pop (by decide) (by decide)) (wl_if (b := true) (fun F' => et_is (et_test (ed_niTy (ed_var rfl) (ed_var rfl))) (by rw [hnew]; rfl)) (fun _ => ?_) fun h => nomatch h), wk_set (.refl _) rfl, ⟨ps ++ [t], rfl, ⟨hnd, hpK, ?_, ?_, ?_, ?_⟩⟩, ?_⟩
      · rw [hk1]
        refine wl_seq (wl_put (a := chs tabs L t) (fun F' => ed_is (ed_call (ea_cons (ed_ixTy (ev := evL) (v := laters tabs t) (ed_var rfl) (ed_var rfl) hg0) (ea_cons (ed_var rfl) ea_nil)) ⟨laters tabs t, L, rfl, by omega, rfl⟩) (by unfold evC chs; rw [List.map_map]; rfl)) (ndict_of _ (by rw [tonly]; exact tonlyAll_map' fun _ => rfl)) rfl (by decide) hnew (by rw [List.length_map]; omega)) ?_
        rw [← hk1]
        have hg2 : get ((ps ++ [t]).map fun t => (t, chs tabs L t)) t = some (chs tabs L t) := by rw [get_map, if_pos (by simp)]
        refine wl_q (wl_extq (fun F' => ed_is (ed_lcA (laters tabs t) (fun p => .tuple [ePair p, .str (ch L p)]) (fun p => eOpt (chosen L p)) _ [6, 7] (id_is (id_zipLT (ea_cons (ed_ixTy (ev := evL) (v := laters tabs t) (ed_var rfl) (ed_var rfl) hg0) (ea_cons (ed_ixTy (ev := evC) (v := chs tabs L t) (ed_var rfl) (ed_var rfl) hg2) ea_nil))) (by unfold chs; rw [List.map_map]; exact zipSelf ePair (fun p => .str (ch L p)) _)) (by omega) (by decide) (fun p _ => gd_tup2) (fun p hp => ?_) fun p _ => to_opt _) (by rw [hnx])) ?_)
        · unfold chosen ch
          cases c : kept L p.1 with
          | true => exact ed_ixT (ed_var (d := ePair p) rfl) (ed_if0 (et_is (et_test (ed_eqS (ed_var rfl) ed_str)) (by decide)) (ed_int (i := 0))) rfl
          | false => exact ed_ixT (ed_var (d := ePair p) rfl) (ed_if1 (et_is (et_test (ed_eqS (ed_var rfl) ed_str)) (by decide)) (ed_int (i := 1))) rfl
        · show ws.length + nxt.length ≤ 100000
          rw [List.length_map]; omega
      · intro x hx
        rcases List.mem_append.mp hx with h | h
        · exact g.wK x (by simp [h])
        · obtain ⟨p, hp, rfl⟩ := List.mem_map.mp h
          obtain ⟨t', e, en, ep⟩ := hch p hp
          rw [e]
          exact ⟨hk.cl t htK p hp t' ep, en⟩
      · rcases g.first with h | h
        · exact .inl (by simp [h])
        · rcases List.mem_append.mp h with h | h
          · exact .inr (by simp [h])
          · exact .inl (by simp [List.mem_singleton.mp h])
      · intro x hx p hp t' e
        rcases List.mem_append.mp hx with h | h
        · rcases g.cl x h p hp t' e with h | h
          · exact .inl (by simp [h])
          · rcases List.mem_append.mp h with h | h
            · exact .inr (by simp [h])
            · exact .inl (by simp [List.mem_singleton.mp h])
        · rw [List.mem_singleton.mp h] at hp
          exact .inr (List.mem_append_right _ (List.mem_map.mpr ⟨p, hp, by rw [e]; rfl⟩))
      · have : nxt.length = (laters tabs t).length := List.length_map ..
        rw [List.length_append, List.length_append, List.length_singleton]; omega
      · have : nxt.length = (laters tabs t).length := List.length_map ..
        simp only [List.length_append, List.length_map, List.length_singleton]; omega
  · rintro M ⟨ps, rfl, g⟩
    exact ⟨ps, ⟨g.nd, (g.first.elim id fun h => nomatch h), g.pK, fun t ht p hp t' e => (g.cl t ht p hp t' e).elim id fun h => nomatch h⟩, rfl⟩
end FW
end PartFun9
section PartFun10
set_option Elab.async false
set_option linter.all false
set_option maxRecDepth 100000
set_option maxHeartbeats 2000000
namespace FW
open PySem PySem.Spec PyProof.Rows L2
/-! ### a def with *others -/
structure CalR (P : Program) (w : World) (K : PySem.W.Frag) (mg : Str → Option Value) (base : Heap) (k : Nat) (x : Str) (sp : Sp) : Prop where
  ex : ∃ f : Addr, FnR P w K mg base CX0 k f sp ∧ mg x = some (.ref f) ∧ PySem.W.keepIn K (.ref f) = true
def tCallR (sp : Sp) (t : TA) : TE := fun σ H Q => t σ H fun vs H1 => sp vs H1 Q E0
theorem pe_cR {X : Cx} {j k : Nat} {x : Str} {sp : Sp} {e : Expr} {es : List Expr} {t : TA} {p pos : Pos} (c : CalR X.prog X.w X.K X.mg X.base k x sp) (hr : Room j X.A) (hk : k ≤ j) (hg : Gl X x) (ha : PA X (e :: es) t)
    (hdb : (x == ("__debug__" : Str)) = false := by decide) (he : starEach (e :: es) X.env = (false, eval e X.env) :: starEach es X.env := by rfl) (hpl : (backTo pos (starEach es X.env)).any (·.1) = false := by rfl) :
    PE X (.Call (.Name x p) (e :: es) [] pos) (tCallR sp t) := by
  obtain ⟨f, F, hm, kp⟩ := c.ex
  refine ⟨fun pins s σ H Q I h => ?_⟩
  refine wpAny_Call_Name_kw (ld_glob I hg hm ?_ hdb)
  refine PySem.W.callWith_K (h₀ := X.base) I.ok.mod.kin kp (thn (ha.run pos pins s σ H _ I h) fun us s1 ⟨vs, H1, I1, r, q⟩ => ⟨I1.kIn, ?_⟩) he hpl
  exact wpAny_call (run_fnR (F.mono hk) hr pass0 I1 r q)
/-! ### find_tidy -/
def rowF (e : Ty × (Nat × Nat)) : D := .tuple [eTy e.1, eN e.2.1, eLet ((lettersOf e.1).getD e.2.2 (0, 0, 0))]
def rowS (tabs : List Tab) (L : Lost) (t : Ty) : D := .tuple [eTy t, evC (chs tabs L t)]
theorem alike_ns : ∀ a b : List Nat, PySem.W.alikeAll (a.map eN) (b.map eN) = true
  | [], _ => by simp [PySem.W.alikeAll]
  | _ :: _, [] => by simp [PySem.W.alikeAll]
  | x :: xs, y :: ys => by
    rw [List.map_cons, List.map_cons, PySem.W.alikeAll, alike_ns xs ys]; rfl
theorem alike_strs : ∀ a b : List Str, PySem.W.alikeAll (a.map .str) (b.map .str) = true
  | [], _ => by simp [PySem.W.alikeAll]
  | _ :: _, [] => by simp [PySem.W.alikeAll]
  | x :: xs, y :: ys => by
    rw [List.map_cons, List.map_cons, PySem.W.alikeAll, alike_strs xs ys]; rfl
theorem alike_ty (a b : Ty) : PySem.W.alike (eTy a) (eTy b) = true := by
  simp only [eTy, PySem.W.alike, PySem.W.alikeAll, alike_ns, Bool.and_self]
theorem alike_rowF (a b : Ty × (Nat × Nat)) : PySem.W.alike (rowF a) (rowF b) = true := by
  simp only [rowF, eTy, PySem.W.alike, PySem.W.alikeAll, alike_ns, eLet, Bool.and_self]
theorem alike_rowS (tabs : List Tab) (L : Lost) (a b : Ty) : PySem.W.alike (rowS tabs L a) (rowS tabs L b) = true := by
  simp only [rowS, eTy, PySem.W.alike, PySem.W.alikeAll, alike_ns, alike_strs, Bool.and_self]
theorem dep_nsD (l : List Nat) : PyData.depthAll (l.map eN) ≤ 0 := depthAll_le fun d hd => by
  obtain ⟨n, _, rfl⟩ := List.mem_map.mp hd
  exact Nat.le_refl _
theorem dep_tyD (t : Ty) : (eTy t).depth ≤ 3 := by
  have z1 := dep_nsD (sts t)
  have z2 := dep_nsD (bgs t)
  have z3 := dep_nsD (ens t)
  simp only [eTy, PyData.depth, PyData.depthAll]
  omega
theorem dep_rowF (e : Ty × (Nat × Nat)) : (rowF e).depth ≤ 20 := by
  have := dep_tyD e.1
  simp only [rowF, eLet, PyData.depth, PyData.depthAll] at this ⊢
  omega
theorem dep_rowS (tabs : List Tab) (L : Lost) (t : Ty) : (rowS tabs L t).depth ≤ 20 := by
  have := dep_tyD t
  have z : PyData.depthAll ((chs tabs L t).map .str) ≤ 0 := depthAll_le fun d hd => by
    obtain ⟨n, _, rfl⟩ := List.mem_map.mp hd
    exact Nat.le_refl _
  simp only [rowS, evC, PyData.depth, PyData.depthAll] at this ⊢
  omega
theorem to_rowF (e : Ty × (Nat × Nat)) : tonly (rowF e) = true := by
  have := to_ty e.1
  simp only [rowF, tonly, tonlyAll, Bool.and_true, Bool.and_eq_true] at this ⊢
  exact this
theorem to_rowS (tabs : List Tab) (L : Lost) (t : Ty) : tonly (rowS tabs L t) = true := by
  have := to_ty t
  have z : tonlyAll ((chs tabs L t).map .str) = true := tonlyAll_map' fun _ => rfl
  simp only [rowS, evC, tonly, tonlyAll, Bool.and_true, Bool.and_eq_true] at this ⊢
  exact ⟨this, z⟩
/-- from the kit's relation to ours, for tuples alone -/
theorem dq_of {w : World} {F : Fm w} {K : PySem.W.Frag} {H : Hp} : ∀ (d : D) {v : V}, tonly d = true → Dp K H v d → Dq F K H v d
  | .none, _, _, h => by cases h; exact .non
  | .bool b, _, _, h => by cases h; exact .bl b
  | .int i, _, _, h => by cases h; exact .int i
  | .str x, _, _, h => by cases h; exact .str x
  | .list _, _, t, _ => by simp [tonly] at t
  | .dict _, _, t, _ => by simp [tonly] at t
  | .tuple ds, _, t, h => by
    cases h with
    | tup hs ha => exact .tup hs (go ds (by simpa [tonly] using t) ha)
where go : ∀ (ds : List D) {vs : List V}, tonlyAll ds = true → DpAll K H vs ds → DqAll F K H vs ds
  | [], _, _, h => by cases h; exact .nil
  | d :: ds, _, t, h => by
    rw [tonlyAll, Bool.and_eq_true] at t
    cases h with
    | cons h1 h2 => exact .cons (dq_of d t.1 h1) (go ds t.2 h2)
theorem tonlyAll_perm {as bs : List D} (p : as.Perm bs) : tonlyAll bs = true → tonlyAll as = true := by
  have e : ∀ l : List D, tonlyAll l = l.all tonly := fun l => by
    induction l with
    | nil => rfl
    | cons d l ih => rw [tonlyAll, List.all_cons, ih]
  rw [e, e, List.all_eq_true, List.all_eq_true]
  exact fun h x hx => h x (p.mem_iff.mp hx)
section
variable {w : World} {F : Fm w} {K : PySem.W.Frag} {ρ : Ro} {te : TE}
/-- tuple(sorted(rows)) -/
theorem ev_sortT {ds : List D} (h : ED F K te ρ (.list ds)) (ht : tonlyAll ds = true) (ha : PySem.W.AllAlike ds) (hs : ∀ d ∈ ds, ∃ x r, d = .tuple (x :: r)) (hd : ∀ d ∈ ds, d.depth ≤ 20) (σ : L2.St) (H : Hp) (J : F.J H) (E : Env F K H σ ρ) (Q : VK)
    (k : ∀ b H' xs rows, rows.Perm ds → Xt F H H' → PlT H' b xs → DqAll F K H' xs rows → Q (.ref b) H') : tCB (rTupleP K) (tCons (tCB (rSortedD K) (tCons te tNil)) tNil) σ H Q :=
  h σ H J E _ fun v H1 e1 q1 => by
    obtain ⟨a, xs, rfl, n, hl, hq⟩ := q1.lst_inv
    refine ⟨a, xs, ds, rfl, hl, DqAll.dpt ds ht hq, ha, hs, hd, fun xs' rows p hp hdp hn => ⟨p, xs', rfl, .of upd_same, fun l o hl' ho => ?_⟩⟩
    have x2 : Xt F H (upd H1 p (.lst xs')) := e1.trans (.new hn)
    have x3 : Xt F H1 (upd (upd H1 p (.lst xs')) l (.frz o (.tup xs'))) := (Xt.new hn).trans (.new hl')
    refine k l _ xs' rows hp (x2.trans (.new hl')) ⟨o, ho, upd_same⟩ ?_
    exact DqAll.mono x3 (dq_of.go rows (tonlyAll_perm hp ht) hdp)
theorem PlT.sq {H : Hp} {b : Addr} {xs : List V} (h : PlT H b xs) : SqT K H b xs := let ⟨o, _, e⟩ := h; .inl (.inr ⟨o, e⟩)
end
/-- what find_tidy says: no tidying serves -/
structure PFail (tabs : List Tab) (U : List Ty) (rows : List D) : Prop where
  ex : ∃ ks L, GK tabs U ks ∧ LK tabs ks L ∧ (get L (firstTy tabs.length)).isSome = true ∧ rows.Perm (L.map rowF)
/-- .. one does -/
structure PServ (tabs : List Tab) (U : List Ty) (rows : List D) : Prop where
  ex : ∃ ks L ps, GK tabs U ks ∧ LK tabs ks L ∧ PK tabs ks L (firstTy tabs.length) ps ∧ rows.Perm (ps.map (rowS tabs L))
/-- the paper -/
def Paper {w : World} (F : Fm w) (K : PySem.W.Frag) (H : Hp) (v : V) (kind : Str) (rows : List D) : Prop := ∃ a b xs, v = .ref a ∧ SqT K H a [.str kind, .ref b] ∧ PlT H b xs ∧ DqAll F K H xs rows
structure Good (w : World) (tabs : List Tab) (U : List Ty) : Prop where
  ok : GOk tabs U
  hh : HashInj w U
  small : tabs.length = 2 ∨ ∃ a b c : Tab, tabs = [a, b, c] ∧ a.length ≤ 100 ∧ b.length ≤ 100 ∧ a.length * b.length * c.length ≤ 8
def sp_find_tidy (w : World) (K : PySem.W.Frag) : Sp := fun vs H Q _ => ∃ F : Fm w, F.J H ∧ ∃ tabs U, DqAll F K H vs (tabs.map eTab) ∧ Good w tabs U ∧
  ∀ v H', Xt F H H' → ((∃ rows, PFail tabs U rows ∧ Paper F K H' v "fails" rows) ∨ ∃ rows, PServ tabs U rows ∧ Paper F K H' v "serves" rows) → Q v H'
def sp_find_in (w : World) (K : PySem.W.Frag) : Sp := fun vs H Q _ => ∃ F : Fm w, F.J H ∧ ∃ t ts U, DqAll F K H vs [eTab t, .tuple (ts.map eTab)] ∧ Good w (t :: ts) U ∧
  ∀ v H', Xt F H H' → ((∃ rows, PFail (t :: ts) U rows ∧ Paper F K H' v "fails" rows) ∨ ∃ rows, PServ (t :: ts) U rows ∧ Paper F K H' v "serves" rows) → Q v H'
/-- a block that hands back what P says -/
def SDV {w : World} (F : Fm w) (K : PySem.W.Frag) (ts : TS) (ρ : Ro) (P : V → Hp → Prop) : Prop := ∀ (σ : L2.St) (H : Hp) (De : Ends), F.J H → Env F K H σ ρ → (∀ v H', P v H' → Xt F H H' → De.rt v H') → ts De σ H
section
variable {w : World} {F : Fm w} {K : PySem.W.Frag} {ρ ρ1 : Ro} {te ta tb : TE} {tt : L2.TT} {t u : TS} {d d1 : D} {P P' : V → Hp → Prop}
theorem sdv_seq (h1 : SN F K t ρ ρ1) (h2 : SDV F K u ρ1 P) : SDV F K (tSeq t u) ρ P := fun σ H De J E q => h1 σ H { De with nx := u De } J E fun σ' H1 e1 E1 => h2 σ' H1 De (e1.inv J) E1 fun v H2 p e2 => q v H2 p (e1.trans e2)
theorem sdv_imp (h : SDV F K t ρ P) (i : ∀ v H, P v H → P' v H) : SDV F K t ρ P' := fun σ H De J E q => h σ H De J E fun v H' p e => q v H' (i v H' p) e
theorem sdv_when {b : Bool} (h : ET F K tt ρ b) (h1 : b = true → SDV F K t ρ P) (h2 : b = false → SDV F K u ρ P) : SDV F K (tSeq (tIfS tt t tNext) u) ρ P := fun σ H De J E q => h σ H J E _ fun H1 e1 => by
  cases b with
  | true => exact h1 rfl σ H1 { De with nx := u De } (e1.inv J) (E.mono e1) fun v H2 p e2 => q v H2 p (e1.trans e2)
  | false => exact h2 rfl σ H1 De (e1.inv J) (E.mono e1) fun v H2 p e2 => q v H2 p (e1.trans e2)
theorem sdv_bind {i : Nat} {P1 : D → Prop} (h : EQ F K te ρ P1) (hu : ∀ d, P1 d → SDV F K u (ρ.set i (some d)) P) : SDV F K (tSeq (tAsg te (gName i)) u) ρ P := fun σ H De J E q => h σ H J E _ fun d v H1 p e1 q1 =>
  hu d p _ H1 De (e1.inv J) ((E.mono e1).set i q1) fun v2 H2 p2 e2 => q v2 H2 p2 (e1.trans e2)
theorem sdv_par {i j : Nat} {P1 : D → Prop} (ha : ED F K ta ρ d1) (h : EQ F K tb ρ P1) (hu : ∀ d, P1 d → SDV F K u ((ρ.set i (some d1)).set j (some d)) P) : SDV F K (tSeq (tPar i j (tCons ta (tCons tb tNil))) u) ρ P := fun σ H De J E q =>
  ha σ H J E _ fun v0 H0 e0 q0 => h σ H0 (e0.inv J) (E.mono e0) _ fun d v H1 p e1 q1 =>
    ⟨v0, v, rfl, hu d p _ H1 De ((e0.trans e1).inv J) (((E.mono (e0.trans e1)).set i (q0.mono e1)).set j q1) fun v2 H2 p2 e2 => q v2 H2 p2 ((e0.trans e1).trans e2)⟩
/-- return (kind, tuple(sorted(rows))) -/
theorem sdv_paper {kind : Str} {ds : List D} (h : ED F K te ρ (.list ds)) (ht : tonlyAll ds = true) (ha : PySem.W.AllAlike ds) (hs : ∀ d ∈ ds, ∃ x r, d = .tuple (x :: r)) (hd : ∀ d ∈ ds, d.depth ≤ 20) :
    SDV F K (tRet (tTup (tCons (tC (.str kind)) (tCons (tCB (rTupleP K) (tCons (tCB (rSortedD K) (tCons te tNil)) tNil)) tNil)))) ρ (fun v H => ∃ rows, rows.Perm ds ∧ Paper F K H v kind rows) := fun σ H De J E q =>
  ev_sortT h ht ha hs hd σ H J E _ fun b H1 xs rows hp e1 pl dq => ⟨sz_le (by show 2 ≤ 100000; decide), fun p hn => q _ _ ⟨rows, hp, p, b, xs, rfl, .inl (.inl upd_same), by
    obtain ⟨o, ho, hb⟩ := pl
    have : b ≠ p := ne_of_none hb hn
    exact ⟨o, ho, by rw [upd_ne this]; exact hb⟩, dq.mono (.new hn)⟩ (e1.trans (.new hn))⟩
end
theorem sc_find_tidy : FnScope ["table", "others", "tables", "start", "game", "lost", "rows", "plan", "here"] ["table", "others"] (defScope s_find_tidy) := ⟨rfl, rfl, rfl, by decide +kernel, rfl, by decide +kernel, by decide +kernel⟩
theorem c_find_tidy {P : Program} {w : World} {K : PySem.W.Frag} {mg : Str → Option Value} {base : Heap} (T : TT K mg) : CalR P w K mg base 7 "find_tidy" (sp_find_tidy w K) := by
  have c_need_small := c_need_small (P := P) (w := w) (base := base) T
  have c_first_type := c_first_type (P := P) (w := w) (base := base) T
  have c_letters_of := c_letters_of (P := P) (w := w) (base := base) T
  obtain ⟨f, fd, FD, hm⟩ := T.d_find_tidy
  obtain ⟨oc, od, dV, kV, doc, pm, an, cdv, ct, osl, rfl, lk, hcd, hD, hK⟩ := FD.ex
  have eD : dV = .none := by
    rcases hD with ⟨_, e⟩ | ⟨e, _⟩
    · exact e
    · exact absurd rfl e
  subst eD
  refine ⟨f, FnR.imp (StX.fn_star (ps := ["table"]) (pv := "others") (sp := sp_find_in w K) lk hcd sc_find_tidy StX.cxUp_none (StX.bind_star1 (B := fun us => bindArgs (PySem.W.fnOf "find_tidy" "find_tidy" (defArgs s_find_tidy) (defBody s_find_tidy) (defScope s_find_tidy) .none kV doc pm an cdv ct) ⟨us, []⟩) (fun a => rfl) fun a r rs => rfl) fun A outer s H vs Q E hr hs => ?_) fun vs H Q E hs => ?_, hm, FD.kp⟩
  · obtain ⟨F, J, t, ts, U, hd, gd, kq⟩ := hs
    have c_game_of := c_game_of (P := P) (w := w) (base := base) T (t :: ts) U gd.ok
    have c_lost_types := c_lost_types (P := P) (w := w) (base := base) T (t :: ts) U gd.hh
    have c_plan_of := c_plan_of (P := P) (w := w) (base := base) T (t :: ts) U gd.ok
    refine ⟨_, PSs.nox (pss_cons (ps_set (i := 2) sc_find_tidy.nd rfl (Or.inl rfl) (pe_op op_catT (pe_tup (pa_cons (pv 0) pa_nil)) (pv 1)))
    (pss_cons (ps_expr (C8.pe_c c_need_small hr (by decide) (by rfl) (pa_cons (pv 2) pa_nil)))
    (pss_cons (ps_par (i := 3) (j := 4) rfl sc_find_tidy.nd rfl rfl (by decide) rfl rfl (pa_cons (C8.pe_c c_first_type hr (by decide) (by rfl) (pa_cons (pe_callB (lenK (K := K) rfl) (by rfl) T.n_len (by decide +kernel) (pa_cons (pv 2) pa_nil)) pa_nil)) (pa_cons (C8.pe_c c_game_of hr (by decide) (by rfl) (pa_cons (pv 2) pa_nil)) pa_nil)) (by rfl))
    (pss_cons (ps_set (i := 5) sc_find_tidy.nd rfl (Or.inr rfl) (C8.pe_c c_lost_types hr (by decide) (by rfl) (pa_cons (pv 4) pa_nil)))
    (pss_cons (ps_if (pt_cmpR (in_dtK (w := w) (K := K) hr.units rfl rfl) (pv 3) (pv 5) rfl) (pss_cons (ps_setLc (i := 6) (own := [("here", 8)]) (g := gName 8) rfl sc_find_tidy.nd rfl rfl (sw_true rfl rfl rfl (by decide +kernel)) (pi_listK (K := K) rfl (pe_callTy (call_list_dt rfl) (by rfl) T.n_list (by decide +kernel) (pa_cons (pv 5) pa_nil))) (blkOk_by (by kernel_rfl)) (fun _ _ _ _ _ => (pg_name (i := 8) sc_find_tidy.nd rfl (Or.inl rfl))) (fun _ _ _ _ _ => pts_nil) (fun _ _ _ _ _ => (pe_tup (pa_cons (pv 8) (pa_cons (pe_ix (ixK (K := K) rfl) (pe_ix (ix_dtK (w := w) (K := K) hr.units rfl rfl) (pv 5) (pv 8) (fun _ _ => rfl)) pe_int (fun _ _ => rfl)) (pa_cons (pe_ix (ixK (K := K) rfl) (C8.pe_c c_letters_of hr (by decide) (by rfl) (pa_cons (pv 8) pa_nil)) (pe_ix (ixK (K := K) rfl) (pe_ix (ix_dtK (w := w) (K := K) hr.units rfl rfl) (pv 5) (pv 8) (fun _ _ => rfl)) pe_int (fun _ _ => rfl)) (fun _ _ => rfl)) pa_nil))))))
    (pss_one (ps_ret (pe_tup (pa_cons pe_str (pa_cons (pe_callTy call_tupleP (by rfl) T.n_tuple (by decide +kernel) (pa_cons (pe_callB (cr_sortedData hr.units) (by rfl) T.n_sorted (by decide +kernel) (pa_cons (pv 6) pa_nil)) pa_nil)) pa_nil)))))) pss_nil)
    (pss_cons (ps_set (i := 7) sc_find_tidy.nd rfl (Or.inr rfl) (C8.pe_c c_plan_of hr (by decide) (by rfl) (pa_cons (pv 4) (pa_cons (pv 5) (pa_cons (pv 3) pa_nil)))))
    (pss_one (ps_ret (pe_tup (pa_cons pe_str (pa_cons (pe_callTy call_tupleP (by rfl) T.n_tuple (by decide +kernel) (pa_cons (pe_callB (cr_sortedData hr.units) (by rfl) T.n_sorted (by decide +kernel) (pa_cons (pe_lc (own := [("here", 8)]) (g := gName 8) rfl sc_find_tidy.nd (pi_listK (K := K) rfl (pe_callTy (call_list_dt rfl) (by rfl) T.n_list (by decide +kernel) (pa_cons (pv 7) pa_nil))) (blkOk_by (by kernel_rfl)) (fun _ _ _ _ _ => (pg_name (i := 8) sc_find_tidy.nd rfl (Or.inl rfl))) (fun _ _ _ _ _ => pts_nil) (fun _ _ _ _ _ => (pe_tup (pa_cons (pv 8) (pa_cons (pe_ix (ix_dtK (w := w) (K := K) hr.units rfl rfl) (pv 7) (pv 8) (fun _ _ => rfl)) pa_nil))))) pa_nil)) pa_nil)) pa_nil))))))))))), ?_⟩
    have hn := gd.ok.n
    have hts : ts ≠ [] := fun e => by subst e; simp at hn
    have hlen : ts.length ≤ 3 := by simp at hn; omega
    have fst : (t :: ts).length = ts.length + 1 := rfl
    refine (?_ : SDV F K _ (ro0 ["table", "others", "tables", "start", "game", "lost", "rows", "plan", "here"] [eTab t, .tuple (ts.map eTab)]) (fun v H' => (∃ rows, PFail (t :: ts) U rows ∧ Paper F K H' v "fails" rows) ∨ ∃ rows, PServ (t :: ts) U rows ∧ Paper F K H' v "serves" rows)) _ H _ J (env0 hd) fun v H' p e => kq v H' e p
    refine sdv_seq (sn_asg (d := eTabs (t :: ts)) (ed_catT (ed_tup (ea_cons (ed_var rfl) ea_nil)) (ed_var rfl) (fun h => nomatch h) (fun e => hts (List.map_eq_nil_iff.mp e)) (by rw [List.length_map]; show 1 + ts.length ≤ 100000; omega))) ?_
    refine sdv_seq (sn_drop (ed_call (ea_cons (ed_var rfl) ea_nil) ⟨t :: ts, rfl, gd.small, rfl⟩)) ?_
    refine sdv_par (ed_callD (d := eTy (firstTy (t :: ts).length)) (ea_cons (ed_is (ed_lenT (ea_cons (ed_var rfl) ea_nil)) (by rw [List.length_map])) ea_nil) all_dq ⟨(t :: ts).length, rfl, hn, rfl⟩) (eq_call (ea_cons (ed_var rfl) ea_nil) rfl) ?_
    rintro _ ⟨ks, gk, rfl⟩
    have hks : ks.length ≤ 100 := Nat.le_trans (nodup_le gk.nd gk.inU) gd.ok.few
    refine sdv_bind (eq_callW (ea_cons (ed_var rfl) ea_nil) ks ⟨rfl, gk, hks⟩) ?_
    rintro _ ⟨L, lk, rfl⟩
    have hLl : L.length ≤ 100 := Nat.le_trans (by
      have := nodup_le lk.nd (bs := ks) fun t ht => by
        obtain ⟨e, he, rfl⟩ := List.mem_map.mp ht
        exact lk.inK e he
      rwa [List.length_map] at this) hks
    refine sdv_when (et_test (ed_inTy (ed_var rfl) (ed_var rfl))) (fun hin => ?_) fun hout => ?_
    · refine sdv_seq (sn_asg (d := .list (L.map rowF)) (ed_lcA L (fun e => eTy e.1) rowF _ [8] (id_is (id_list (ed_listDt (ea_cons (ed_var rfl) ea_nil) no_ty)) (by rw [List.map_map]; rfl)) (by omega) (by decide) (fun e _ => gd_name) (fun e he => ?_) fun e _ => to_rowF e)) ?_
      · have hg : get L e.1 = some e.2 := get_of_mem lk.nd he
        obtain ⟨_, p, hp, _⟩ := lk.step e.1 e.2.1 e.2.2 hg
        have hlt : e.2.2 < (lettersOf e.1).length := by
          have := (List.getElem?_eq_some_iff.mp hp).1
          unfold laters at this
          rwa [List.length_map] at this
        obtain ⟨_, _, tr⟩ := gd.ok.fit e.1 (gk.inU _ (lk.inK e he))
        have hl : ((lettersOf e.1).map eLet)[e.2.2]? = some (eLet ((lettersOf e.1).getD e.2.2 (0, 0, 0))) := by
          rw [List.getElem?_map, List.getD_eq_getElem?_getD, List.getElem?_eq_getElem hlt]; rfl
        have rk : ∀ (F : Fm w) (ρ : Ro), ρ[5]? = some (some (eDict eRank L)) → ρ[8]? = some (some (eTy e.1)) → ED F K (tOp (rIxDt w K) (tVar 5) (tVar 8)) ρ (eRank e.2) := fun F ρ a b => ed_ixTy (ev := eRank) (v := e.2) (ed_var a) (ed_var b) hg
        exact ed_tup (ea_cons (ed_var rfl) (ea_cons (ed_ixT (rk _ _ rfl rfl) ed_int rfl) (ea_cons (ed_ixT (ed_callD (ea_cons (ed_var rfl) ea_nil) all_dq ⟨e.1, rfl, tr, rfl⟩) (ed_ixT (rk _ _ rfl rfl) ed_int rfl) (atI_nat hl)) ea_nil)))
      · refine sdv_imp (sdv_paper (ed_var rfl) (tonlyAll_map fun e _ => to_rowF e) ?_ ?_ ?_) fun v H ⟨rows, hp, pp⟩ => .inl ⟨rows, ⟨ks, L, gk, lk, hin, hp⟩, pp⟩
        · intro d hd d' hd'
          obtain ⟨e, _, rfl⟩ := List.mem_map.mp hd
          obtain ⟨e', _, rfl⟩ := List.mem_map.mp hd'
          exact alike_rowF e e'
        · intro d hd
          obtain ⟨e, _, rfl⟩ := List.mem_map.mp hd
          exact ⟨_, _, rfl⟩
        · intro d hd
          obtain ⟨e, _, rfl⟩ := List.mem_map.mp hd
          exact dep_rowF e
    · have hnone : get L (firstTy (t :: ts).length) = none := by
        cases c : get L (firstTy (t :: ts).length) with
        | none => rfl
        | some a => rw [c] at hout; cases hout
      refine sdv_bind (eq_callW (ea_cons (ed_var rfl) (ea_cons (ed_var rfl) (ea_cons (ed_var rfl) ea_nil))) (ks, L, firstTy (t :: ts).length) ⟨rfl, gk, lk, hks, gk.first, hnone⟩) ?_
      rintro _ ⟨ps, pk, rfl⟩
      have hps : ps.length ≤ 100 := Nat.le_trans (nodup_le pk.nd fun x hx => (pk.inK x hx).1) hks
      refine sdv_imp (sdv_paper (ds := ps.map (rowS (t :: ts) L)) (ed_lcA ps eTy (rowS (t :: ts) L) _ [8] (id_is (id_list (ed_listDt (ea_cons (ed_var rfl) ea_nil) no_ty)) (by rw [List.map_map, List.map_map]; rfl)) (by omega) (by decide) (fun e _ => gd_name) (fun x hx => ?_) fun e _ => to_rowS _ _ e) (tonlyAll_map fun e _ => to_rowS _ _ e) ?_ ?_ ?_) fun v H ⟨rows, hp, pp⟩ => .inr ⟨rows, ⟨ks, L, ps, gk, lk, pk, hp⟩, pp⟩
      · have hg : get (ps.map fun x => (x, chs (t :: ts) L x)) x = some (chs (t :: ts) L x) := by rw [get_map, if_pos hx]
        exact ed_tup (ea_cons (ed_var rfl) (ea_cons (ed_ixTy (ev := evC) (v := chs (t :: ts) L x) (ed_var rfl) (ed_var rfl) hg) ea_nil))
      · intro d hd d' hd'
        obtain ⟨e, _, rfl⟩ := List.mem_map.mp hd
        obtain ⟨e', _, rfl⟩ := List.mem_map.mp hd'
        exact alike_rowS _ _ e e'
      · intro d hd
        obtain ⟨e, _, rfl⟩ := List.mem_map.mp hd
        exact ⟨_, _, rfl⟩
      · intro d hd
        obtain ⟨e, _, rfl⟩ := List.mem_map.mp hd
        exact dep_rowS _ _ e
  · obtain ⟨F, J, tabs, U, hd, gd, kq⟩ := hs
    have hn := gd.ok.n
    rcases hd.inv with ⟨e, _⟩ | ⟨v, vr, d, dr, rfl, e, h1, h2⟩
    · rw [List.map_eq_nil_iff] at e
      subst e
      simp at hn
    · cases tabs with
      | nil => cases e
      | cons t ts =>
        rw [List.map_cons] at e
        injection e with e1 e2
        subst e1 e2
        have hl := h2.len
        rw [List.length_map] at hl
        refine ⟨[v], vr, rfl, rfl, sz_le (by simp at hn; omega), fun p hp => ⟨F, (Xt.new (F := F) hp).inv J, t, ts, U, .cons (h1.mono (.new hp)) (.one (.newT hp h2)), gd, fun u H' x r => kq u H' ((Xt.new hp).trans x) r⟩⟩
end FW
end PartFun10
section PartFun11
set_option Elab.async false
set_option linter.all false
set_option maxRecDepth 100000
set_option maxHeartbeats 2000000
/-! The deck, and what is drawn from it. -/
namespace FW
open PySem PySem.Spec PyProof.Rows L2
/-- the deck: large cells, a mixed number, how many were drawn -/
def Deck (H : Hp) (a b : Addr) : Prop := ∃ (m n : Int) (cs : List Int), H a = some (.lst [.ref b, .int m, .int n]) ∧ H b = some (.lst (cs.map V.int)) ∧ (∀ c ∈ cs, 0 ≤ c) ∧ cs.length ≤ 60
/-- where the deck may change -/
structure HasDk {w : World} (F : Fm w) (a b : Addr) : Prop where
  own : ∀ x, F.own x 0 ↔ x = a
  ma : F.M a
  mb : F.M b
  deck : ∀ H, F.J H → Deck H a b
  keep : ∀ H H', F.J H → Deck H' a b → (∀ x o, x ≠ a → x ≠ b → H x = some o → H' x = some o) → Tk H H' → F.J H'
section
variable {w : World} {F : Fm w} {K : PySem.W.Frag} {ρ : Ro} {H H' : Hp} {a b : Addr} {v : V}
theorem HasDk.xt (hk : HasDk F a b) (J : F.J H) (k : ∀ x o, x ≠ a → x ≠ b → H x = some o → H' x = some o) (d : Deck H' a b) (t : Tk H H') : Xt F H H' :=
  ⟨fun x o n q => k x o (fun e => n (e ▸ hk.ma)) (fun e => n (e ▸ hk.mb)) q, t, fun _ => hk.keep H H' J d k t⟩
theorem Deck.ne (d : Deck H a b) : a ≠ b := by
  obtain ⟨m, n, cs, h1, h2, _⟩ := d
  rintro rfl
  rw [h1] at h2
  injection h2 with h2
  injection h2 with h2
  cases cs with
  | nil => cases h2
  | cons c cs => rw [List.map_cons] at h2; injection h2 with h2 _; cases h2
theorem HasDk.putB (hk : HasDk F a b) (J : F.J H) (cs : List Int) (h0 : ∀ c ∈ cs, 0 ≤ c) (hl : cs.length ≤ 60) : Xt F H (upd H b (.lst (cs.map V.int))) := by
  have dk := hk.deck H J
  have ne := dk.ne
  obtain ⟨m, n, cs0, h1, h2, _⟩ := dk
  exact hk.xt J (fun x o _ n q => by rw [upd_ne n]; exact q) ⟨m, n, cs, by rw [upd_ne ne]; exact h1, upd_same, h0, hl⟩ (Tk.lst h2)
theorem HasDk.putA (hk : HasDk F a b) (J : F.J H) (m n : Int) : Xt F H (upd H a (.lst [.ref b, .int m, .int n])) := by
  have dk := hk.deck H J
  have ne := dk.ne
  obtain ⟨m0, n0, cs0, h1, h2, h3, h4⟩ := dk
  exact hk.xt J (fun x o n _ q => by rw [upd_ne n]; exact q) ⟨m, n, cs0, upd_same, by rw [upd_ne (Ne.symm ne)]; exact h2, h3, h4⟩ (Tk.lst h1)
theorem own_inv (hk : HasDk F a b) (h : Dq F K H v (ownD 0)) : v = .ref a := by
  cases h with
  | dict n h q => cases q with | cons h1 t z h2 r => exact nomatch t
  | own h => rw [(hk.own _).mp h]
theorem own_dk (hk : HasDk F a b) : Dq F K H (.ref a) (ownD 0) := .own ((hk.own a).mpr rfl)
theorem own_var (hk : HasDk F a b) {σ : L2.St} {i : Nat} (E : Env F K H σ ρ) (e : ρ[i]? = some (some (ownD 0))) : σ[i]? = some (some (.ref a)) := by
  obtain ⟨v, hv, q⟩ := E.at_ i _ e
  rw [hv, own_inv hk q]
/-! ### readings that give an int -/
def EI {w : World} (F : Fm w) (K : PySem.W.Frag) (te : TE) (ρ : Ro) (C : Int → Prop) : Prop := ∀ (σ : L2.St) (H : Hp), F.J H → Env F K H σ ρ → ∀ Q : VK, (∀ i H', C i → Xt F H H' → Q (.int i) H') → te σ H Q
variable {te ta tb : TE} {C C1 C2 : Int → Prop} {i : Nat}
theorem ei_of {z : Int} (h : ED F K te ρ (.int z)) (c : C z) : EI F K te ρ C := fun σ H J E Q q => h σ H J E Q fun v H' e d => by rw [d.int_inv]; exact q z H' c e
theorem ei_any {z : Int} (h : ED F K te ρ (.int z)) : EI F K te ρ (fun _ => True) := ei_of h trivial
theorem ei_op {D : Int → Int → Prop} {f : Int → Int → Int} (ha : EI F K ta ρ C1) (hb : EI F K tb ρ C2) (h : ∀ i j, C1 i → C2 j → D i j ∧ C (f i j)) : EI F K (tOp (rI D fun i j => .int (f i j)) ta tb) ρ C := fun σ H J E Q q =>
  ha σ H J E _ fun i H1 c1 e1 => hb σ H1 (e1.inv J) (E.mono e1) _ fun j H2 c2 e2 => ⟨i, j, rfl, rfl, (h i j c1 c2).1, q _ H2 (h i j c1 c2).2 (e1.trans e2)⟩
theorem ei_op0 {f : Int → Int → Int} (ha : EI F K ta ρ C1) (hb : EI F K tb ρ C2) (h : ∀ i j, C1 i → C2 j → C (f i j)) : EI F K (tOp (rI0 fun i j => .int (f i j)) ta tb) ρ C := fun σ H J E Q q =>
  ha σ H J E _ fun i H1 c1 e1 => hb σ H1 (e1.inv J) (E.mono e1) _ fun j H2 c2 e2 => ⟨i, j, rfl, rfl, q _ H2 (h i j c1 c2) (e1.trans e2)⟩
theorem eq_ei (h : EI F K te ρ C) : EQ F K te ρ (fun d => ∃ i, C i ∧ d = .int i) := fun σ H J E Q q => h σ H J E Q fun i H' c e => q _ _ _ ⟨i, c, rfl⟩ e (.int i)
/-- the deck's numbers -/
theorem ei_dk1 (hk : HasDk F a b) (e : ρ[i]? = some (some (ownD 0))) : EI F K (tOp (rIx K) (tVar i) (tC (.int 1))) ρ (fun _ => True) := fun σ H J E Q q => by
  obtain ⟨m, n, cs, h1, _⟩ := hk.deck H J
  exact ⟨_, own_var hk E e, .inl ⟨a, _, 1, .int m, rfl, rfl, .inl (.inl h1), rfl, q m H trivial (.refl H)⟩⟩
theorem ei_dk2 (hk : HasDk F a b) (e : ρ[i]? = some (some (ownD 0))) : EI F K (tOp (rIx K) (tVar i) (tC (.int 2))) ρ (fun _ => True) := fun σ H J E Q q => by
  obtain ⟨m, n, cs, h1, _⟩ := hk.deck H J
  exact ⟨_, own_var hk E e, .inl ⟨a, _, 2, .int n, rfl, rfl, .inl (.inl h1), rfl, q n H trivial (.refl H)⟩⟩
/-- deck[2] = .. -/
theorem sn_dk2 (hk : HasDk F a b) (e : ρ[i]? = some (some (ownD 0))) (h : EI F K te ρ C) : SN F K (tAsg te (gSub (tVar i) (tC (.int 2)) rSetL)) ρ ρ := fun σ H De J E q => h σ H J E _ fun z H1 _ e1 => by
  obtain ⟨m, n, cs, h1, _⟩ := hk.deck H1 (e1.inv J)
  exact ⟨_, own_var hk E e, a, _, 2, 2, rfl, rfl, h1, rfl, q σ _ (e1.trans (hk.putA (e1.inv J) m z)) (E.mono (e1.trans (hk.putA (e1.inv J) m z)))⟩
end
theorem sdq_raw {w : World} {F : Fm w} {K : PySem.W.Frag} {ρ ρ1 : Ro} {t u : TS} {P : D → Prop} (h : ∀ (σ : L2.St) (H : Hp) (De : Ends), F.J H → Env F K H σ ρ → (∀ σ' H', Xt F H H' → Env F K H' σ' ρ1 → De.nx σ' H') → (∀ v H' d, P d → Xt F H H' → Dq F K H' v d → De.rt v H') → t De σ H) (hu : SDQ F K u ρ1 P) : SDQ F K (tSeq t u) ρ P := fun σ H De J E q =>
  h σ H { De with nx := u De } J E (fun σ' H' e E' => hu σ' H' De (e.inv J) E' fun v H2 d p e2 q2 => q v H2 d p (e.trans e2) q2) q
/-- the promise of a def that draws -/
def spK (w : World) (K : PySem.W.Frag) {ξ : Type} (pre : ξ → List D → Prop) (post : ξ → D → Prop) : Sp := fun vs H Q _ => ∃ (F : Fm w) (a b : Addr), HasDk F a b ∧ F.J H ∧ ∃ x ds, DqAll F K H vs ds ∧ pre x ds ∧ ∀ d v H', post x d → Xt F H H' → Dq F K H' v d → Q v H'
theorem eq_callK {w : World} {F : Fm w} {K : PySem.W.Frag} {ρ : Ro} {tas : TA} {ξ : Type} {pre : ξ → List D → Prop} {post : ξ → D → Prop} {ds : List D} {E : XK} {a b : Addr} (hk : HasDk F a b) (h : EA F K tas ρ ds) (x : ξ) (hR : pre x ds) : EQ F K (tCall (spK w K pre post) [] E tas) ρ (post x) := fun σ H J En Q q =>
  h σ H J En _ fun vs H1 e1 q1 => by
    show spK w K pre post (vs ++ []) H1 Q E
    rw [List.append_nil]
    exact ⟨F, a, b, hk, e1.inv J, x, ds, q1, hR, fun d v H2 r e2 q2 => q d v H2 r (e1.trans e2) q2⟩
theorem ok_postK {P : Program} {w : World} {K : PySem.W.Frag} {mg : Str → Option Value} {base : Heap} {x : Str} {params : Arguments} {body : List Stmt} {scope : Scope} {dvs : List V} {kws : List (Str × V)} {f : Addr} {fd : FuncData} {N ps : List Str} {k : Nat}
    {ξ : Type} {pre : ξ → List D → Prop} {post : ξ → D → Prop} (FD : FunD K x x params body scope dvs kws f fd) (S : FnScope N ps scope) (hl : ∀ z ds, pre z ds → ds.length = ps.length)
    (h : ∀ (cdv : Value) (A : Around) (outer : List PySem.Env) (s : Shared) (H : Hp) (E : XK), Room k (A.deeper (envOfC x scope s.heap.objs.size f cdv)) → ∀ (F : Fm w) (a b : Addr), HasDk F a b → ∀ z ds, pre z ds →
      ∃ t, PSs (cxOf CX0 P w K mg base N x scope f cdv A outer s H E).nox body t ∧ SDQ F K t (ro0 N ds) (post z)) : FnOk P w K mg base CX0 (k + 1) f fd ps (spK w K pre post) := by
  refine FD.ok S (fun vs H Q E hs => ?_) (fun cdv A outer s H vs Q E hr hs => ?_)
  · obtain ⟨_, _, _, _, _, z, ds, q, r, _⟩ := hs
    rw [q.len]; exact hl z ds r
  · obtain ⟨F, a, b, hk, J, z, ds, q, r, kq⟩ := hs
    obtain ⟨t, ht, hd⟩ := h cdv A outer s H E hr F a b hk z ds r
    exact ⟨t, ht.nox, hd _ H _ J (env0 q) fun v H' d hp e q2 => kq d v H' hp e q2⟩
theorem sc_l_draw : FnScope ["_law_deck_here", "_law_many", "_law_cell", "_law_mixed"] ["_law_deck_here", "_law_many"] (defScope s_l_draw) := ⟨rfl, rfl, rfl, by decide +kernel, rfl, by decide +kernel, by decide +kernel⟩
def preDraw (z : Nat) (ds : List D) : Prop := ds = [ownD 0, eN z] ∧ 0 < z ∧ z < 1000000
def postDraw (z : Nat) (d : D) : Prop := ∃ r : Nat, r < z ∧ d = eN r
theorem c_l_draw {P : Program} {w : World} {K : PySem.W.Frag} {mg : Str → Option Value} {base : Heap} (T : TT K mg) : C8.Cal P w K mg base 1 "_law_draw" (spK w K preDraw postDraw) [] := by
  obtain ⟨f, fd, FD, hm⟩ := T.d_l_draw
  refine cal_mk (ok_postK FD sc_l_draw (fun z ds h => by rw [h.1]; rfl) fun cdv A outer s H E hr F a b hk z ds h => ?_) hm FD.kp (FD.bindsN fun _ _ _ _ _ _ us hl => match us, hl with | [_, _], _ => rfl)
  obtain ⟨rfl, h0, h1⟩ := h
  refine ⟨_, (pss_cons (ps_while PassesOwn.never (pt_cmpR (neDK (K := K) hr.units rfl) (pe_ix (ixK (K := K) rfl) (pv 0) pe_int (fun _ _ => rfl)) (pe_lst pa_nil) (nomark _)) (pss_cons (ps_set (i := 2) sc_l_draw.nd rfl (Or.inl rfl) (pe_bm PySem.F.plainAttrs_list PySem.F.slot_list_pop PySem.F.type_list_pop mt_popAt (pe_ix (ixK (K := K) rfl) (pv 0) pe_int (fun _ _ => rfl)) (pa_cons pe_int pa_nil)))
    (pss_one (ps_if (pt_cmpR op_gt (pv 2) pe_int (nomark _)) (pss_cons (ps_expr (pe_bm PySem.F.plainAttrs_list PySem.F.slot_list_insert PySem.F.type_list_insert mt_insert (pe_ix (ixK (K := K) rfl) (pv 0) pe_int (fun _ _ => rfl)) (pa_cons pe_int (pa_cons (pe_op op_fdiv (pv 2) (pv 1)) pa_nil))))
    (pss_one (ps_ret (pe_op op_mod (pv 2) (pv 1))))) pss_nil))))
    (pss_cons (ps_asg (pe_op op_add (pe_ix (ixK (K := K) rfl) (pv 0) pe_int (fun _ _ => rfl)) pe_int) (pg_sub (pv 0) pe_int set_list))
    (pss_cons (ps_set (i := 3) sc_l_draw.nd rfl (Or.inl rfl) (pe_op op_mod (pe_op op_add (pe_ix (ixK (K := K) rfl) (pv 0) pe_int (fun _ _ => rfl)) (pe_op op_mul pe_int (pe_ix (ixK (K := K) rfl) (pv 0) pe_int (fun _ _ => rfl)))) pe_int))
    (pss_cons (ps_set (i := 3) sc_l_draw.nd rfl (Or.inl rfl) (pe_op op_mod (pe_op op_mul (pv 3) (pe_op op_add (pe_op op_mod (pv 3) pe_int) pe_int)) pe_int))
    (pss_one (ps_ret (pe_op op_mod (pe_op op_fdiv (pe_op op_mod (pe_op op_add (pe_op op_mul (pv 3) (pv 3)) (pe_op op_mul pe_int (pe_ix (ixK (K := K) rfl) (pv 0) pe_int (fun _ _ => rfl)))) pe_int) pe_int) (pv 1)))))))), ?_⟩
  have rest : ∀ {te : TE}, EI F K te (ro0 ["_law_deck_here", "_law_many", "_law_cell", "_law_mixed"] [ownD 0, eN z]) (fun _ => True) → True := fun _ => trivial
  have ez : ∀ {H' : Hp} {σ' : L2.St}, Env F K H' σ' (ro0 ["_law_deck_here", "_law_many", "_law_cell", "_law_mixed"] [ownD 0, eN z]) → σ'[1]? = some (some (.int z)) := fun E' => by
    obtain ⟨v, hv, qv⟩ := E'.at_ 1 _ rfl
    rw [hv, qv.int_inv]
  have modOk : ∀ c : Int, ∃ r : Nat, r < z ∧ c % (z : Int) = (r : Int) := fun c => by
    have hz : (0 : Int) < z := by omega
    exact ⟨(c % (z : Int)).toNat, by have := Int.emod_lt_of_pos c hz; have := Int.emod_nonneg c (Int.ne_of_gt hz); omega, by have := Int.emod_nonneg c (Int.ne_of_gt hz); omega⟩
  refine sdq_raw (ρ1 := ro0 ["_law_deck_here", "_law_many", "_law_cell", "_law_mixed"] [ownD 0, eN z]) ?_ ?_
  · intro σ H De J E kn q
    refine ⟨fun m σ' H' => Xt F H H' ∧ Env F K H' σ' (ro0 ["_law_deck_here", "_law_many", "_law_cell", "_law_mixed"] [ownD 0, eN z]) ∧ ∃ vs, H' b = some (.lst vs) ∧ m = vs.length, ?_, ?_⟩
    · obtain ⟨m, n, cs, _, h2, _⟩ := hk.deck H J
      exact ⟨_, .refl H, E, _, h2, rfl⟩
    rintro m0 σ' H' ⟨x, E', vs, hb, rfl⟩
    have J' := x.inv J
    have ea := own_var hk E' (i := 0) rfl
    obtain ⟨m, n, cs, ha, hb', hp, hl⟩ := hk.deck H' J'
    rw [hb] at hb'
    cases hb'
    refine ⟨_, ea, .inl ⟨a, _, 0, .ref b, rfl, rfl, .inl (.inl ha), rfl, ?_⟩⟩
    refine ⟨sz_le (by show 0 ≤ 100000; decide), fun p hpn => ?_⟩
    have x1 : Xt F H' (upd H' p (.lst [])) := .new hpn
    have hb1 : upd H' p (.lst []) b = some (.lst (cs.map V.int)) := by rw [upd_ne (ne_of_none hb hpn)]; exact hb
    have ha1 : upd H' p (.lst []) a = some (.lst [.ref b, .int m, .int n]) := by rw [upd_ne (ne_of_none ha hpn)]; exact ha
    have J1 := x1.inv J'
    have shp : SeqAt.shaped (.list (cs.map .int)) = true := by
      refine shaped_of ?_ ?_
      · rw [PyData.canLay0]; exact canLay_map fun t _ => rfl
      · show PyData.depthAll _ + 1 ≤ 64
        have : PyData.depthAll (cs.map .int) = 0 := PySem.W.depth_ints cs
        omega
    refine ⟨.list (cs.map .int), .list [], .lst (.of hb1) (dp_ints cs), .lst (.of upd_same) .nil, shp, rfl, ?_⟩
    rw [eqv_nil, List.isEmpty_map]
    refine ⟨_, rfl, ?_⟩
    generalize upd H' p (.lst []) = H1 at x1 hb1 ha1 J1 ⊢
    cases cs with
    | nil => exact iteF (kn σ' H1 (x.trans x1) (E'.mono x1))
    | cons c cs =>
      refine iteT ⟨fun σ2 H2 => Xt F H H2 ∧ Env F K H2 σ2 (ro0 ["_law_deck_here", "_law_many", "_law_cell", "_law_mixed"] [ownD 0, eN z]) ∧ ∃ vs, H2 b = some (.lst vs) ∧ vs.length < ((c :: cs).map V.int).length, fun σ2 H2 ⟨x, e, vs, h, l⟩ => ⟨_, l, x, e, vs, h, rfl⟩, ?_⟩
      refine ⟨_, ea, .inl ⟨a, _, 0, .ref b, rfl, rfl, .inl (.inl ha1), rfl, .inl ⟨rfl, _, .inl (.inl hb1)⟩, ?_⟩⟩
      refine ⟨b, _, 0, 0, .int c, rfl, rfl, hb1, by decide, by decide, ?_, rfl, ?_⟩
      · refine (ixN_seq (n := _) (i := 0) (j := 0) ?_).1
        simp [ixN]
      have hp2 : ∀ c' ∈ cs, 0 ≤ c' := fun c' h => hp c' (List.mem_cons_of_mem _ h)
      have hl2 : cs.length ≤ 59 := by simp at hl; omega
      have x2 := hk.putB J1 cs hp2 (by omega)
      have hb2 : upd H1 b (.lst (cs.map V.int)) b = some (.lst (cs.map V.int)) := upd_same
      have ne : a ≠ b := fun e => by subst e; rw [ha1] at hb1; injection hb1 with h; injection h with h; injection h with h _; cases h
      have ha2 : upd H1 b (.lst (cs.map V.int)) a = some (.lst [.ref b, .int m, .int n]) := by rw [upd_ne ne]; exact ha1
      have J2 := x2.inv J1
      have hE : ((c :: cs).map V.int).eraseIdx 0 = cs.map V.int := rfl
      rw [hE]
      generalize upd H1 b (.lst (cs.map V.int)) = H2 at x2 hb2 ha2 J2 ⊢
      have E2 := (E'.mono (x1.trans x2)).set 2 (d := .int c) (v := .int c) (.int c)
      have el : σ'.length = 4 := E'.len
      have e0 : (σ'.set 2 (some (.int c)))[0]? = some (some (.ref a)) := by rw [List.getElem?_set_ne (by decide)]; exact ea
      have e1 : (σ'.set 2 (some (.int c)))[1]? = some (some (.int z)) := by rw [List.getElem?_set_ne (by decide)]; exact ez E'
      have e2 : (σ'.set 2 (some (.int c)))[2]? = some (some (.int c)) := by rw [List.getElem?_set_self (by omega)]
      refine ⟨_, e2, c, 0, rfl, rfl, _, rfl, ?_⟩
      have wk : Wk ((ro0 ["_law_deck_here", "_law_many", "_law_cell", "_law_mixed"] [ownD 0, eN z]).set 2 (some (.int c))) (ro0 ["_law_deck_here", "_law_many", "_law_cell", "_law_mixed"] [ownD 0, eN z]) := wk_set (.refl _) rfl
      have x12 := (x.trans x1).trans x2
      refine ite2 (fun hc => ?_) fun hc => ?_
      · have hc : c > 0 := of_decide_eq_true hc
        have h3 : ∀ c' ∈ c / (z : Int) :: cs, 0 ≤ c' := fun c' h => by
          rcases List.mem_cons.mp h with rfl | h
          · exact Int.ediv_nonneg (by omega) (by omega)
          · exact hp2 c' h
        have x3 := hk.putB J2 (c / (z : Int) :: cs) h3 (by simp; omega)
        refine ⟨_, e0, .inl ⟨a, _, 0, .ref b, rfl, rfl, .inl (.inl ha2), rfl, .inl ⟨rfl, _, .inl (.inl hb2)⟩, ?_⟩⟩
        refine ⟨_, e2, _, e1, c, z, rfl, rfl, ⟨by omega, by omega⟩, ?_⟩
        refine ⟨b, _, 0, _, rfl, rfl, hb2, sz_lt (by rw [List.length_map]; omega), Int.le_refl _, by decide, ?_⟩
        obtain ⟨r, hr1, hr2⟩ := modOk c
        refine ⟨_, e2, _, e1, c, z, rfl, rfl, by omega, ?_⟩
        exact q _ _ _ ⟨r, hr1, rfl⟩ (x12.trans x3) (by show Dq F K _ (.int (c % (z : Int))) (eN r); rw [hr2]; exact .int _)
      · exact ⟨x12, wk.env E2, _, hb2, by simp⟩
  · refine sdq_seq (sn_dk2 hk rfl (ei_op0 (C1 := fun _ => True) (C2 := fun _ => True) (C := fun _ => True) (ei_dk2 hk rfl) (ei_any ed_int) fun _ _ _ _ => trivial)) ?_
    refine sdq_bind (eq_ei (C := fun i => 0 ≤ i ∧ i < 4294967291) (ei_op (C1 := fun _ => True) (C2 := fun j => j = 4294967291) (ei_op0 (C1 := fun _ => True) (C2 := fun _ => True) (ei_dk1 hk rfl) (ei_op (C1 := fun i => i = 2654435761) (C2 := fun _ => True) (ei_of ed_int rfl) (ei_dk2 hk rfl) ?_) fun _ _ _ _ => trivial) (ei_of ed_int rfl) ?_)) ?_
    · rintro i j rfl _
      exact ⟨.inl ⟨by omega, by omega⟩, trivial⟩
    · rintro i j _ rfl
      exact ⟨by omega, by omega, by omega⟩
    rintro _ ⟨i, ⟨hi0, hi1⟩, rfl⟩
    refine sdq_bind (eq_ei (C := fun i => 0 ≤ i ∧ i < 4294967291) (ei_op (C1 := fun _ => True) (C2 := fun j => j = 4294967279) (ei_op (C1 := fun k => k = i) (C2 := fun _ => True) (ei_of (ed_var rfl) rfl) (ei_op0 (C1 := fun _ => True) (C2 := fun _ => True) (ei_op (C1 := fun _ => True) (C2 := fun j => j = 65537) (ei_any (ed_var rfl)) (ei_of ed_int rfl) ?_) (ei_any ed_int) fun _ _ _ _ => trivial) ?_) (ei_of ed_int rfl) ?_)) ?_
    · rintro i j _ rfl
      exact ⟨by omega, trivial⟩
    · rintro k j rfl _
      exact ⟨.inl ⟨by omega, by omega⟩, trivial⟩
    · rintro i j _ rfl
      exact ⟨by omega, by omega, by omega⟩
    rintro _ ⟨k, ⟨hk0, hk1⟩, rfl⟩
    refine sdq_ret fun σ H J E Q q => eq_ei (C := fun i => ∃ r : Nat, r < z ∧ i = (r : Int)) (ei_op (C1 := fun _ => True) (C2 := fun j => j = z) (ei_op (C1 := fun _ => True) (C2 := fun j => j = 16) (ei_op (C1 := fun _ => True) (C2 := fun j => j = 4294967231) (ei_op0 (C1 := fun _ => True) (C2 := fun _ => True) (ei_op (C1 := fun i => i = k) (C2 := fun _ => True) (ei_of (ed_var rfl) rfl) (ei_any (ed_var rfl)) ?_) (ei_op (C1 := fun i => i = 97531) (C2 := fun _ => True) (ei_of ed_int rfl) (ei_dk2 hk rfl) ?_) fun _ _ _ _ => trivial) (ei_of ed_int rfl) ?_) (ei_of ed_int rfl) ?_) (ei_of (ed_var rfl) rfl) ?_) σ H J E Q fun d v H' ⟨i, ⟨r, hr, e⟩, e'⟩ => q d v H' ⟨r, hr, by rw [e', e]⟩
    · rintro i j rfl _
      exact ⟨.inl ⟨by omega, by omega⟩, trivial⟩
    · rintro i j rfl _
      exact ⟨.inl ⟨by omega, by omega⟩, trivial⟩
    · rintro i j _ rfl
      exact ⟨by omega, trivial⟩
    · rintro i j _ rfl
      exact ⟨⟨by omega, by omega⟩, trivial⟩
    · rintro i j _ rfl
      exact ⟨by omega, modOk i⟩
end FW
end PartFun11
section PartFun12
set_option Elab.async false
set_option linter.all false
set_option maxRecDepth 100000
set_option maxHeartbeats 2000000
/-! Readings that give one of many; rows of entries that change. -/
namespace FW
open PySem PySem.Spec PyProof.Rows L2
section
variable {w : World} {F : Fm w} {K : PySem.W.Frag} {ρ ρ1 : Ro} {te ta tb : TE} {tas tr : TA} {t u : TS} {wi : TI} {g : TG} {P P' P1 P2 : D → Prop} {PA : List D → Prop} {d : D}
theorem tonlyAll_mem : ∀ {ds : List D}, (∀ d ∈ ds, tonly d = true) → tonlyAll ds = true
  | [], _ => rfl
  | d :: ds, h => by
    rw [tonlyAll, Bool.and_eq_true]
    exact ⟨h d List.mem_cons_self, tonlyAll_mem fun x hx => h x (List.mem_cons_of_mem _ hx)⟩
def EAQ {w : World} (F : Fm w) (K : PySem.W.Frag) (tas : TA) (ρ : Ro) (PA : List D → Prop) : Prop := ∀ (σ : L2.St) (H : Hp), F.J H → Env F K H σ ρ → ∀ Q : List V → Hp → Prop, (∀ ds vs H', PA ds → Xt F H H' → DqAll F K H' vs ds → Q vs H') → tas σ H Q
theorem eaq_nil : EAQ F K tNil ρ (fun ds => ds = []) := fun _ H _ _ _ q => q [] [] H rfl (.refl H) .nil
theorem eaq_cons (h : EQ F K te ρ P) (hr : EAQ F K tr ρ PA) : EAQ F K (tCons te tr) ρ (fun ds => ∃ d r, P d ∧ PA r ∧ ds = d :: r) := fun σ H J E Q q =>
  h σ H J E _ fun d x H1 p e1 q1 => hr σ H1 (e1.inv J) (E.mono e1) _ fun ds xs H2 p2 e2 q2 => q (d :: ds) (x :: xs) H2 ⟨d, ds, p, p2, rfl⟩ (e1.trans e2) (.cons (q1.mono e2) q2)
theorem eq_tup (h : EAQ F K tas ρ PA) (hl : ∀ ds, PA ds → ds.length ≤ 100000) : EQ F K (tTup tas) ρ (fun d => ∃ ds, PA ds ∧ d = .tuple ds) := fun σ H J E Q q =>
  h σ H J E _ fun ds vs H1 p e1 q1 => ⟨sz_le (by rw [q1.len]; exact hl ds p), fun a ha => q _ _ _ ⟨ds, p, rfl⟩ (e1.trans (.new ha)) (.newT ha q1)⟩
theorem eq_imp (h : EQ F K te ρ P) (i : ∀ d, P d → P' d) : EQ F K te ρ P' := fun σ H J E Q q => h σ H J E Q fun d v H' p => q d v H' (i d p)
theorem eq_ed (h : ED F K te ρ d) : EQ F K te ρ (fun x => x = d) := eq_of h rfl
theorem eq_pair (ha : EQ F K ta ρ P1) (hb : EQ F K tb ρ P2) : EQ F K (tTup (tCons ta (tCons tb tNil))) ρ (fun d => ∃ d1 d2, P1 d1 ∧ P2 d2 ∧ d = .tuple [d1, d2]) :=
  eq_imp (eq_tup (eaq_cons ha (eaq_cons hb eaq_nil)) fun ds h => by obtain ⟨_, _, _, ⟨_, _, _, rfl, rfl⟩, rfl⟩ := h; show 2 ≤ 100000; decide) fun d h => by
    obtain ⟨_, ⟨a, _, h1, ⟨b, _, h2, rfl, rfl⟩, rfl⟩, rfl⟩ := h
    exact ⟨a, b, h1, h2, rfl⟩
theorem eq_op {r : R2} (ha : EQ F K ta ρ P1) (hb : EQ F K tb ρ P2) (h : ∀ d1 d2, P1 d1 → P2 d2 → ∀ x y H, F.J H → Dq F K H x d1 → Dq F K H y d2 → ∀ Q : VK, (∀ d v H', P d → Xt F H H' → Dq F K H' v d → Q v H') → r x y H Q) : EQ F K (tOp r ta tb) ρ P := fun σ H J E Q q =>
  ha σ H J E _ fun d1 x H1 p1 e1 q1 => hb σ H1 (e1.inv J) (E.mono e1) _ fun d2 y H2 p2 e2 q2 => h d1 d2 p1 p2 x y H2 (e2.inv (e1.inv J)) (q1.mono e2) q2 Q fun d v H3 p e3 q3 => q d v H3 p ((e1.trans e2).trans e3) q3
theorem eq_callR {R : List D → D → Prop} {E : XK} (h : EAQ F K tas ρ PA) (hR : ∀ ds, PA ds → ∃ d, R ds d ∧ P d) : EQ F K (tCall (spR w K R) [] E tas) ρ P := fun σ H J En Q q =>
  h σ H J En _ fun ds vs H1 p e1 q1 => by
    obtain ⟨d, r, pd⟩ := hR ds p
    show spR w K R (vs ++ []) H1 Q E
    rw [List.append_nil]
    exact ⟨F, e1.inv J, ds, d, q1, r, fun v H2 e2 q2 => q d v H2 pd (e1.trans e2) q2⟩
theorem sdq_par {i j : Nat} (ha : EQ F K ta ρ P1) (hb : EQ F K tb ρ P2) (hu : ∀ d1 d2, P1 d1 → P2 d2 → SDQ F K u ((ρ.set i (some d1)).set j (some d2)) P) : SDQ F K (tSeq (tPar i j (tCons ta (tCons tb tNil))) u) ρ P := fun σ H De J E q =>
  ha σ H J E _ fun d1 v0 H0 p1 e0 q0 => hb σ H0 (e0.inv J) (E.mono e0) _ fun d2 v H1 p2 e1 q1 =>
    ⟨v0, v, rfl, hu d1 d2 p1 p2 _ H1 De ((e0.trans e1).inv J) (((E.mono (e0.trans e1)).set i (q0.mono e1)).set j q1) fun v2 H2 d p e2 q2 => q v2 H2 d p ((e0.trans e1).trans e2) q2⟩
theorem sn_parQ {i j : Nat} (ha : EQ F K ta ρ P1) (hb : EQ F K tb ρ P2) (hu : ∀ d1 d2, P1 d1 → P2 d2 → SN F K u ((ρ.set i (some d1)).set j (some d2)) ρ1) : SN F K (tSeq (tPar i j (tCons ta (tCons tb tNil))) u) ρ ρ1 := fun σ H De J E q =>
  ha σ H J E _ fun d1 v0 H0 p1 e0 q0 => hb σ H0 (e0.inv J) (E.mono e0) _ fun d2 v H1 p2 e1 q1 =>
    ⟨v0, v, rfl, hu d1 d2 p1 p2 _ H1 De ((e0.trans e1).inv J) (((E.mono (e0.trans e1)).set i (q0.mono e1)).set j q1) fun σ2 H2 e2 E2 => q σ2 H2 ((e0.trans e1).trans e2) E2⟩
theorem sdq_bindG {is : List Nat} {ρ' : D → Ro} (h : EQ F K te ρ P1) (hg : ∀ d, P1 d → GD F K g is d ρ (ρ' d)) (hu : ∀ d, P1 d → SDQ F K u (ρ' d) P) : SDQ F K (tSeq (tAsg te g) u) ρ P := fun σ H De J E q => h σ H J E _ fun d v H1 p e1 q1 =>
  hg d p σ H1 v (e1.inv J) (E.mono e1) q1 _ fun σ' E' _ _ => hu d p _ H1 De (e1.inv J) E' fun v2 H2 d2 p2 e2 q2 => q v2 H2 d2 p2 (e1.trans e2) q2
theorem sdq_ifT {tt : L2.TT} (h : ET F K tt ρ true) (hu : SDQ F K (tSeq t u) ρ P) {t' : TS} : SDQ F K (tSeq (tIfS tt t t') u) ρ P := fun σ H De J E q => h σ H J E _ fun H1 e1 => hu σ H1 De (e1.inv J) (E.mono e1) fun v H2 d p e2 q2 => q v H2 d p (e1.trans e2) q2
theorem sdq_assoc {t1 t2 : TS} (h : SDQ F K (tSeq t1 (tSeq t2 u)) ρ P) : SDQ F K (tSeq (tSeq t1 t2) u) ρ P := h
theorem sdq_wk (k : Wk ρ ρ1) (h : SDQ F K u ρ1 P) : SDQ F K u ρ P := fun σ H De J E q => h σ H De J (k.env E) q
theorem sdq_imp (h : SDQ F K u ρ P) (i : ∀ d, P d → P' d) : SDQ F K u ρ P' := fun σ H De J E q => h σ H De J E fun v H' d p => q v H' d (i d p)
/-- a walk over one of many lists -/
def IDQ {w : World} (F : Fm w) (K : PySem.W.Frag) (wi : TI) (ρ : Ro) (PL : List D → Prop) : Prop := ∀ (σ : L2.St) (H : Hp), F.J H → Env F K H σ ρ → ∀ R : It → Hp → Prop, (∀ ds J H1, PL ds → Xt F H H1 → WalkD F K J H1 ds → R J H1) → wi σ H R
theorem idq_rng {m : Nat} (h : EQ F K te ρ (fun d => ∃ r : Nat, r < m ∧ d = eN r)) (hm : m ≤ 1000000) : IDQ F K (iRng1 (tCons te tNil)) ρ (fun ds => ∃ n, n < m ∧ ds = (List.range n).map eN) := fun σ H J E R q =>
  h σ H J E _ fun d v H1 ⟨r, hr, e⟩ e1 q1 => by
    subst e
    have E0 : Env F K H1 [some v] [some (eN r)] := ⟨rfl, fun i d hi => by
      match i, hi with
      | 0, hi => cases hi; exact ⟨v, rfl, q1⟩⟩
    have := id_rng1 (ρ := [some (eN r)]) (F := F) (K := K) (tas := tCons (tVar 0) tNil) (n := r) (ea_cons (ed_var rfl) ea_nil) (by omega) [some v] H1 (e1.inv J) E0 R fun Jt H2 e2 w2 => q _ Jt H2 ⟨r, hr, rfl⟩ (e1.trans e2) w2
    obtain ⟨u, hu, h⟩ := this
    cases hu
    exact h
theorem sn_forQ {PL : List D → Prop} (hi : IDQ F K wi ρ PL) (hs : ∀ ds d, PL ds → d ∈ ds → ∃ is ρ1 ρ2, GD F K g is d ρ ρ1 ∧ SN F K t ρ1 ρ2 ∧ Wk ρ2 ρ) : SN F K (tFor wi g t) ρ ρ := fun σ H De J E q => hi σ H J E _ fun ds Jt H1 pl e1 w1 => by
  have J1 := e1.inv J
  refine ⟨fun i m σ H' => m = ds.length - i ∧ i ≤ ds.length ∧ Xt F H1 H' ∧ F.J H' ∧ Env F K H' σ ρ, ⟨_, rfl, Nat.zero_le _, .refl _, J1, E.mono e1⟩, ?_⟩
  rintro i m σ' H' ⟨rfl, hil, eH, JH, EH⟩
  obtain ⟨go, stop⟩ := w1 H' eH.m
  by_cases hlt : i < ds.length
  · have hx : ds[i]? = some ds[i] := List.getElem?_eq_getElem hlt
    obtain ⟨is, ρ1, ρ2, hg, hb, hw⟩ := hs ds _ pl (List.getElem_mem hlt)
    obtain ⟨g1, g2⟩ := go i ds[i] hx
    refine .inr ⟨g1, fun σ' H' => Xt F H1 H' ∧ F.J H' ∧ Env F K H' σ' ρ, fun σ2 H2 p => ⟨ds.length - (i + 1), by omega, rfl, hlt, p⟩, fun y H2 hy => ?_⟩
    obtain ⟨e2', qy⟩ := g2 y H2 hy
    have e2 : Xt F H' H2 := .of e2'
    refine hg σ' H2 y (e2.inv JH) (EH.mono e2) qy _ fun σ3 E3 _ _ => ?_
    exact hb σ3 H2 _ (e2.inv JH) E3 fun σ4 H4 e4 E4 => ⟨(eH.trans e2).trans e4, e4.inv (e2.inv JH), hw.env E4⟩
  · have ei : i = ds.length := by omega
    subst ei
    exact .inl ⟨stop, q σ' H' (e1.trans eH) EH⟩
/-- [te for g in wi], each one of P -/
theorem ev_lc {α : Type} (xs : List α) (enc : α → D) (ρ' : α → Ro) (is : List Nat) {vs : List Nat} (ht : ∀ d, P d → tonly d = true) (hi : ID F K wi ρ (xs.map enc)) (hz : xs.length ≤ 100000) (his : ∀ i ∈ is, i ∈ vs)
    (hg : ∀ x ∈ xs, GD F K g is (enc x) (wipeR ρ vs) (ρ' x)) (he : ∀ x ∈ xs, EQ F K te (ρ' x) P) (σ : L2.St) (H0 : Hp) (J0 : F.J H0) (E : Env F K H0 σ ρ) (Q : VK)
    (q : ∀ c us ds H', H0 c = none → H' c = some (.lst us) → DqAll F K H' us ds → ds.length = xs.length → (∀ d ∈ ds, P d) → Xt F H0 H' → Q (.ref c) H') : tLc wi g tYes te vs σ H0 Q := hi σ H0 J0 E _ fun Jt H1 e1 w1 => fun Dl hD => by
  have J1 := e1.inv J0
  have nD : ¬ F.M Dl := (Xt.fresh J1 (.refl H1) hD).2
  let Pv : Nat → Hp → Prop := fun i H => Xt F H1 H ∧ F.J H ∧ ∃ us ds, H Dl = some (.lst us) ∧ DqAll F K H us ds ∧ ds.length = i ∧ ∀ d ∈ ds, P d
  refine ⟨fun i m H => m = xs.length - i ∧ i ≤ xs.length ∧ Pv i H, ⟨_, rfl, Nat.zero_le _, .new hD, (Xt.new (F := F) hD).inv J1, [], [], upd_same, .nil, rfl, fun d h => nomatch h⟩, ?_⟩
  rintro i m H ⟨rfl, hil, eH, JH, acc, ds, hacc, dacc, hlen, hP⟩
  obtain ⟨go, stop⟩ := w1 H eH.m
  by_cases hlt : i < xs.length
  · have hx : xs[i]? = some xs[i] := List.getElem?_eq_getElem hlt
    have hm : xs[i] ∈ xs := List.getElem_mem hlt
    generalize hxe : xs[i] = x at hx hm
    obtain ⟨g1, g2⟩ := go i (enc x) (by rw [List.getElem?_map, hx]; rfl)
    refine .inr ⟨g1, Pv (i + 1), fun H' p' => ⟨xs.length - (i + 1), by omega, rfl, hlt, p'⟩, fun y H' hy => ?_⟩
    obtain ⟨e2', qy⟩ := g2 y H' hy
    have e2 : Xt F H H' := .of e2'
    have J2 := e2.inv JH
    have E2 : Env F K H' (L2.wipe σ vs) (wipeR ρ vs) := ((E.mono e1).mono (eH.trans e2)).wipe vs
    refine hg x hm _ H' y J2 E2 qy _ fun σ' E3 hl hk => ⟨?_, ?_⟩
    · rw [← wipe_wipe σ vs]
      exact wipe_eq hl fun k hkv => hk k fun hm => hkv (his k hm)
    · refine et_yes (F := F) σ' H' J2 E3 _ fun H3 e3 => iteT (he x hm σ' H3 (e3.inv J2) (E3.mono e3) _ fun d v H4 pd e4 q4 => ?_)
      have J4 := e4.inv (e3.inv J2)
      have hD4 := e4.keep _ _ nD (e3.keep _ _ nD (e2.keep _ _ nD hacc))
      have ext := ((eH.trans e2).trans e3).trans e4
      have k5 := Tk.lst (o := .lst (acc ++ [v])) hD4
      refine ⟨acc, hD4, sz_lt (by rw [dacc.len]; omega), .mut J1 ext hD nD k5, Xt.upd_J J4 nD k5, acc ++ [v], ds ++ [d], upd_same, ?_, by rw [List.length_append, hlen]; rfl, fun z hz => ?_⟩
      · exact .app (DqAll.tk k5 _ (tonlyAll_mem fun z hz => ht z (hP z hz)) (((dacc.mono e2).mono e3).mono e4)) (.one (Dq.tk k5 _ (ht d pd) q4))
      · rcases List.mem_append.mp hz with h | h
        · exact hP z h
        · rw [List.mem_singleton.mp h]; exact pd
  · have ei : i = xs.length := by omega
    subst ei
    exact .inl ⟨by simpa using stop, q Dl acc ds H (Xt.fresh J0 e1 hD).1 hacc dacc hlen hP (e1.trans eH)⟩
theorem eq_lc {α : Type} (xs : List α) (enc : α → D) (ρ' : α → Ro) (is : List Nat) {vs : List Nat} (ht : ∀ d, P d → tonly d = true) (hi : ID F K wi ρ (xs.map enc)) (hz : xs.length ≤ 100000) (his : ∀ i ∈ is, i ∈ vs)
    (hg : ∀ x ∈ xs, GD F K g is (enc x) (wipeR ρ vs) (ρ' x)) (he : ∀ x ∈ xs, EQ F K te (ρ' x) P) : EQ F K (tLc wi g tYes te vs) ρ (fun d => ∃ ds, ds.length = xs.length ∧ (∀ d ∈ ds, P d) ∧ d = .list ds) := fun σ H J E Q q =>
  ev_lc xs enc ρ' is ht hi hz his hg he σ H J E Q fun c us ds H' h0 h1 h2 h3 h4 e => q _ _ _ ⟨ds, h3, h4, rfl⟩ e (.lst (fun m => by obtain ⟨o, h⟩ := F.live H c J m; rw [h0] at h; cases h) h1 h2)
end
end FW
end PartFun12
section PartFun13
set_option Elab.async false
set_option linter.all false
set_option maxRecDepth 100000
set_option maxHeartbeats 2000000
/-! Lists of lists of entries, new and then changed. -/
namespace FW
open PySem PySem.Spec PyProof.Rows L2
abbrev eLn (l : List Ent) : D := .list (l.map eEnt)
theorem to_ents (l : List Ent) : tonlyAll (l.map eEnt) = true := tonlyAll_map' to_ent
section
variable {w : World} {F : Fm w} {K : PySem.W.Frag} {ρ ρ1 : Ro} {te ta tb : TE} {tas : TA} {t u : TS} {wi : TI} {g : TG} {P : List Ent → Prop} {H H0 H' : Hp}
/-- a reading that gives a new list of entries -/
def EL {w : World} (F : Fm w) (K : PySem.W.Frag) (te : TE) (ρ : Ro) (P : List Ent → Prop) : Prop := ∀ (σ : L2.St) (H : Hp), F.J H → Env F K H σ ρ → ∀ Q : VK, (∀ c es l H', P l → Xt F H H' → H c = none → H' c = some (.lst es) → DqAll F K H' es (l.map eEnt) → Q (.ref c) H') → te σ H Q
theorem el_copy {l : List Ent} (h : ED F K te ρ (.tuple (l.map eEnt))) (p : P l) : EL F K (tCB (rListOf K) (tCons te tNil)) ρ P := fun σ H J E Q q => h σ H J E _ fun v H1 e1 q1 => by
  obtain ⟨a, xs, rfl, hs, hd⟩ := q1.tup_inv
  exact ⟨a, xs, rfl, .inr hs, fun c hc => q c xs l _ p (e1.trans (.new hc)) (Xt.fresh J e1 hc).1 upd_same (hd.mono (.new hc))⟩
theorem ents_of {PE : Ent → Prop} : ∀ {ds : List D}, (∀ d ∈ ds, ∃ e, PE e ∧ d = eEnt e) → ∃ l : List Ent, ds = l.map eEnt ∧ ∀ e ∈ l, PE e
  | [], _ => ⟨[], rfl, fun _ h => nomatch h⟩
  | d :: ds, h => by
    obtain ⟨e, he, rfl⟩ := h d List.mem_cons_self
    obtain ⟨l, rfl, hl⟩ := ents_of (fun x hx => h x (List.mem_cons_of_mem _ hx))
    refine ⟨e :: l, rfl, fun x hx => ?_⟩
    rcases List.mem_cons.mp hx with rfl | hx
    · exact he
    · exact hl x hx
theorem el_lc {α : Type} {PE : Ent → Prop} (xs : List α) (enc : α → D) (ρ' : α → Ro) (is : List Nat) {vs : List Nat} (hi : ID F K wi ρ (xs.map enc)) (hz : xs.length ≤ 100000) (his : ∀ i ∈ is, i ∈ vs)
    (hg : ∀ x ∈ xs, GD F K g is (enc x) (wipeR ρ vs) (ρ' x)) (he : ∀ x ∈ xs, EQ F K te (ρ' x) (fun d => ∃ e, PE e ∧ d = eEnt e)) (p : ∀ l : List Ent, l.length = xs.length → (∀ e ∈ l, PE e) → P l) : EL F K (tLc wi g tYes te vs) ρ P := fun σ H J E Q q =>
  ev_lc xs enc ρ' is (fun d ⟨e, _, h⟩ => by rw [h]; rfl) hi hz his hg he σ H J E Q fun c us ds H' h0 h1 h2 h3 h4 e => by
    obtain ⟨l, rfl, hl⟩ := ents_of h4
    rw [List.length_map] at h3
    exact q c us l H' (p l h3 hl) e h0 h1 h2
theorem DqAll.set {d : D} {v : V} (h : Dq F K H v d) : ∀ {vs : List V} {ds : List D} {i : Nat}, DqAll F K H vs ds → DqAll F K H (vs.set i v) (ds.set i d)
  | _, _, _, .nil => .nil
  | _, _, 0, .cons _ r => .cons h r
  | _, _, i + 1, .cons a r => .cons a (DqAll.set h r)
/-- the rows of a list at lp, new since H0 -/
inductive Lns {w : World} (F : Fm w) (K : PySem.W.Frag) (lp : Addr) (H0 H : Hp) : List Addr → List (List Ent) → Prop
  | nil : Lns F K lp H0 H [] []
  | cons {c : Addr} {es : List V} {l : List Ent} {cs : List Addr} {ls : List (List Ent)} : H0 c = none → ¬ F.M c → c ≠ lp → H c = some (.lst es) → DqAll F K H es (l.map eEnt) → Lns F K lp H0 H cs ls → Lns F K lp H0 H (c :: cs) (l :: ls)
theorem Lns.mono {lp : Addr} (x : Xt F H H') : ∀ {cs ls}, Lns F K lp H0 H cs ls → Lns F K lp H0 H' cs ls
  | _, _, .nil => .nil
  | _, _, .cons a b c d e r => .cons a b c (x.keep _ _ b d) (e.mono x) (r.mono x)
theorem Lns.put {lp : Addr} {us xs : List V} (h : H lp = some (.lst us)) : ∀ {cs ls}, Lns F K lp H0 H cs ls → Lns F K lp H0 (upd H lp (.lst xs)) cs ls
  | _, _, .nil => .nil
  | _, _, .cons (l := l) a b c d e r => .cons a b c (by rw [upd_ne c]; exact d) (DqAll.tk (Tk.lst h) _ (to_ents l) e) (Lns.put h r)
theorem Lns.len {lp : Addr} : ∀ {cs ls}, Lns F K lp H0 H cs ls → cs.length = ls.length
  | _, _, .nil => rfl
  | _, _, .cons _ _ _ _ _ r => congrArg (· + 1) r.len
theorem Lns.snoc {lp : Addr} {c : Addr} {es : List V} {l : List Ent} (h1 : H0 c = none) (h2 : ¬ F.M c) (h3 : c ≠ lp) (h4 : H c = some (.lst es)) (h5 : DqAll F K H es (l.map eEnt)) : ∀ {cs ls}, Lns F K lp H0 H cs ls → Lns F K lp H0 H (cs ++ [c]) (ls ++ [l])
  | _, _, .nil => .cons h1 h2 h3 h4 h5 .nil
  | _, _, .cons a b c d e r => .cons a b c d e (Lns.snoc h1 h2 h3 h4 h5 r)
theorem Lns.all {lp : Addr} : ∀ {cs ls}, Lns F K lp H0 H cs ls → ∀ c ∈ cs, H0 c = none ∧ ¬ F.M c ∧ c ≠ lp ∧ ∃ es l, l ∈ ls ∧ H c = some (.lst es) ∧ DqAll F K H es (l.map eEnt)
  | _, _, .nil, _, h => nomatch h
  | _, _, .cons (es := es) (l := l) a b c d e r, x, h => by
    rcases List.mem_cons.mp h with rfl | h
    · exact ⟨a, b, c, es, l, List.mem_cons_self, d, e⟩
    · obtain ⟨h1, h2, h3, es', l', h4, h5⟩ := Lns.all r x h
      exact ⟨h1, h2, h3, es', l', List.mem_cons_of_mem _ h4, h5⟩
theorem Lns.data {lp : Addr} : ∀ {cs ls}, Lns F K lp H0 H cs ls → DqAll F K H (cs.map .ref) (ls.map eLn)
  | _, _, .nil => .nil
  | _, _, .cons a b c d e r => .cons (.lst b d e) r.data
/-- a reading that gives a new list of m rows -/
def ER {w : World} (F : Fm w) (K : PySem.W.Frag) (te : TE) (ρ : Ro) (m : Nat) (P : List Ent → Prop) : Prop := ∀ (σ : L2.St) (H : Hp), F.J H → Env F K H σ ρ → ∀ Q : VK, (∀ lp cs ls H', ls.length = m → (∀ l ∈ ls, P l) → Lns F K lp H H' cs ls → Xt F H H' → H lp = none → H' lp = some (.lst (cs.map .ref)) → Q (.ref lp) H') → te σ H Q
theorem er_lc {α : Type} (xs : List α) (enc : α → D) (ρ' : α → Ro) (is : List Nat) {vs : List Nat} (hi : ID F K wi ρ (xs.map enc)) (hz : xs.length ≤ 100000) (his : ∀ i ∈ is, i ∈ vs)
    (hg : ∀ x ∈ xs, GD F K g is (enc x) (wipeR ρ vs) (ρ' x)) (he : ∀ x ∈ xs, EL F K te (ρ' x) P) : ER F K (tLc wi g tYes te vs) ρ xs.length P := fun σ H0 J0 E Q q => hi σ H0 J0 E _ fun Jt H1 e1 w1 => fun Dl hD => by
  have J1 := e1.inv J0
  have nD : ¬ F.M Dl := (Xt.fresh J1 (.refl H1) hD).2
  let Pv : Nat → Hp → Prop := fun i H => Xt F H1 H ∧ F.J H ∧ ∃ cs ls, H Dl = some (.lst (cs.map .ref)) ∧ Lns F K Dl H0 H cs ls ∧ ls.length = i ∧ ∀ l ∈ ls, P l
  refine ⟨fun i m H => m = xs.length - i ∧ i ≤ xs.length ∧ Pv i H, ⟨_, rfl, Nat.zero_le _, .new hD, (Xt.new (F := F) hD).inv J1, [], [], upd_same, .nil, rfl, fun d h => nomatch h⟩, ?_⟩
  rintro i m H ⟨rfl, hil, eH, JH, cs, ls, hacc, dacc, hlen, hP⟩
  obtain ⟨go, stop⟩ := w1 H eH.m
  by_cases hlt : i < xs.length
  · have hx : xs[i]? = some xs[i] := List.getElem?_eq_getElem hlt
    have hm : xs[i] ∈ xs := List.getElem_mem hlt
    generalize hxe : xs[i] = x at hx hm
    obtain ⟨g1, g2⟩ := go i (enc x) (by rw [List.getElem?_map, hx]; rfl)
    refine .inr ⟨g1, Pv (i + 1), fun H' p' => ⟨xs.length - (i + 1), by omega, rfl, hlt, p'⟩, fun y H' hy => ?_⟩
    obtain ⟨e2', qy⟩ := g2 y H' hy
    have e2 : Xt F H H' := .of e2'
    have J2 := e2.inv JH
    have E2 : Env F K H' (L2.wipe σ vs) (wipeR ρ vs) := ((E.mono e1).mono (eH.trans e2)).wipe vs
    refine hg x hm _ H' y J2 E2 qy _ fun σ' E3 hl hk => ⟨?_, ?_⟩
    · rw [← wipe_wipe σ vs]
      exact wipe_eq hl fun k hkv => hk k fun hm => hkv (his k hm)
    · refine et_yes (F := F) σ' H' J2 E3 _ fun H3 e3 => iteT (he x hm σ' H3 (e3.inv J2) (E3.mono e3) _ fun c es l H4 pl e4 hc0 hc1 hc2 => ?_)
      have J3 := e3.inv J2
      have J4 := e4.inv J3
      have hD3 := e3.keep _ _ nD (e2.keep _ _ nD hacc)
      have hD4 := e4.keep _ _ nD hD3
      have ext := ((eH.trans e2).trans e3).trans e4
      have k5 := Tk.lst (o := .lst (cs.map V.ref ++ [.ref c])) hD4
      have hc3 : H0 c = none := (Xt.fresh J0 (((e1.trans eH).trans e2).trans e3) hc0).1
      have hcM : ¬ F.M c := (Xt.fresh J3 (.refl H3) hc0).2
      have hcD : c ≠ Dl := fun z => by subst z; rw [hD3] at hc0; cases hc0
      refine ⟨cs.map .ref, hD4, sz_lt (by rw [List.length_map, dacc.len]; omega), .mut J1 ext hD nD k5, Xt.upd_J J4 nD k5, cs ++ [c], ls ++ [l], by rw [upd_same, List.map_append]; rfl, ?_, by rw [List.length_append, hlen]; rfl, fun z hz => ?_⟩
      · exact Lns.put hD4 (Lns.snoc hc3 hcM hcD hc1 hc2 (((dacc.mono e2).mono e3).mono e4))
      · rcases List.mem_append.mp hz with h | h
        · exact hP z h
        · rw [List.mem_singleton.mp h]; exact pl
  · have ei : i = xs.length := by omega
    subst ei
    exact .inl ⟨by simpa using stop, q Dl cs ls H hlen hP dacc (e1.trans eH) (Xt.fresh J0 e1 hD).1 hacc⟩
/-- rows that do not change -/
theorem eq_rows {m : Nat} (h : ER F K te ρ m P) : EQ F K te ρ (fun d => ∃ ls : List (List Ent), ls.length = m ∧ (∀ l ∈ ls, P l) ∧ d = .list (ls.map eLn)) := fun σ H J E Q q => h σ H J E Q fun lp cs ls H' h1 h2 h3 x h4 h5 =>
  q _ _ _ ⟨ls, h1, h2, rfl⟩ x (.lst (Xt.fresh J (.refl H) h4).2 h5 h3.data)

/-! ### rows that change -/
def WfL (n : Nat) (l : List Ent) : Prop := l.length = 27 ∧ ∀ e ∈ l, e.2 < n
/-- what the rows hold -/
def RowsAt (K : PySem.W.Frag) (w : World) (n : Nat) (H : Hp) (cs : List Addr) : Prop := ∀ c ∈ cs, ∃ es l, H c = some (.lst es) ∧ DqAll (Fm.none w) K H es (l.map eEnt) ∧ WfL n l
def Fm.ln (F : Fm w) (K : PySem.W.Frag) (lp : Addr) (cs : List Addr) (n : Nat) : Fm w := ⟨fun x => F.M x ∨ x = lp ∨ x ∈ cs, fun H => F.J H ∧ H lp = some (.lst (cs.map .ref)) ∧ RowsAt K w n H cs,
  fun H H' h t J => ⟨F.mono H H' (fun x o m => h x o (.inl m)) t J.1, h lp _ (.inr (.inl rfl)) J.2.1, fun c hc => let ⟨es, l, a, b, wf⟩ := J.2.2 c hc; ⟨es, l, h c _ (.inr (.inr hc)) a, DqAll.tk t _ (to_ents l) b, wf⟩⟩,
  fun H x J m => by
    rcases m with m | rfl | m
    · exact F.live H x J.1 m
    · exact ⟨_, J.2.1⟩
    · obtain ⟨es, l, a, _⟩ := J.2.2 x m
      exact ⟨_, a⟩, fun x k => F.own x k ∨ (k = 1 ∧ x = lp)⟩
structure LnOk {w : World} (F : Fm w) (lp : Addr) (cs : List Addr) : Prop where
  l : ¬ F.M lp
  c : ∀ c ∈ cs, ¬ F.M c
  ne : ∀ c ∈ cs, c ≠ lp
variable {lp a b : Addr} {cs : List Addr} {n : Nat}
theorem HasDk.ln (hk : HasDk F a b) (ok : LnOk F lp cs) : HasDk (F.ln K lp cs n) a b where
  own x := ⟨fun h => h.elim (hk.own x).mp fun h => absurd h.1 (by decide), fun h => .inl ((hk.own x).mpr h)⟩
  ma := .inl hk.ma
  mb := .inl hk.mb
  deck H J := hk.deck H J.1
  keep H H' J d k t := ⟨hk.keep H H' J.1 d k t, k _ _ (fun e => ok.l (e ▸ hk.ma)) (fun e => ok.l (e ▸ hk.mb)) J.2.1, fun c hc => let ⟨es, l, x, y, wf⟩ := J.2.2 c hc; ⟨es, l, k _ _ (fun e => ok.c c hc (e ▸ hk.ma)) (fun e => ok.c c hc (e ▸ hk.mb)) x, DqAll.tk t _ (to_ents l) y, wf⟩⟩
/-- what is new where the rows are left as they are -/
theorem Xt.in_ln (ok : LnOk F lp cs) (x : Xt F H H') : Xt (F.ln K lp cs n) H H' := ⟨fun y o m h => x.keep y o (fun z => m (.inl z)) h, x.tups, fun J => ⟨x.inv J.1, x.keep _ _ ok.l J.2.1, fun c hc => let ⟨es, l, p, q, wf⟩ := J.2.2 c hc; ⟨es, l, x.keep _ _ (ok.c c hc) p, DqAll.tk x.tups _ (to_ents l) q, wf⟩⟩⟩
theorem Xt.out_ln (h1 : H0 lp = none) (h2 : ∀ c ∈ cs, H0 c = none) (x : Xt F H0 H) (y : Xt (F.ln K lp cs n) H H') (J : (F.ln K lp cs n).J H) : Xt F H0 H' := ⟨fun z o m h => y.keep z o (fun k => by
    rcases k with k | rfl | k
    · exact m k
    · rw [h1] at h; cases h
    · rw [h2 z k] at h; cases h) (x.keep z o m h), fun z xs h => y.tups z xs (x.tups z xs h), fun _ => (y.inv J).1⟩
/-- lines = new rows, and on -/
theorem sdq_lines {i : Nat} {P' : D → Prop} (h : ER F K te ρ n (WfL n)) (ht : ∀ d, P' d → tonly d = true) (hu : ∀ lp cs, LnOk F lp cs → cs.length = n → SDQ (F.ln K lp cs n) K u (ρ.set i (some (ownD 1))) P') : SDQ F K (tSeq (tAsg te (gName i)) u) ρ P' := fun σ H De J E q =>
  h σ H J E _ fun lp cs ls H1 hlen hP hL x h0 h1 => by
    have al := hL.all
    have hM := (Xt.fresh J (.refl H) h0).2
    have ok : LnOk F lp cs := ⟨hM, fun c hc => (al c hc).2.1, fun c hc => (al c hc).2.2.1⟩
    have J1 : (F.ln K lp cs n).J H1 := ⟨x.inv J, h1, fun c hc => by
      obtain ⟨_, _, _, es, l, m, p, q⟩ := al c hc
      exact ⟨es, l, p, DqAll.to (to_ents l) q, hP l m⟩⟩
    have E1 : Env (F.ln K lp cs n) K H1 σ ρ := E.kf (F' := F.ln K lp cs n) x.tups (fun _ _ z => .inl z) fun y o z m => ⟨x.keep y o m z, fun k => by
      rcases k with k | rfl | k
      · exact m k
      · rw [h0] at z; cases z
      · rw [(al y k).1] at z; cases z⟩
    refine hu lp cs ok (by rw [hL.len, hlen]) _ H1 De J1 (E1.set i (.own (.inr ⟨rfl, rfl⟩))) fun v H2 d p e2 q2 => q v H2 d p (Xt.out_ln h0 (fun c hc => (al c hc).1) x e2 J1) (Dq.to (ht d p) q2)
theorem ln_own {σ : L2.St} {i : Nat} (ok : LnOk F lp cs) (hf : ∀ x, ¬ F.own x 1) (E : Env (F.ln K lp cs n) K H σ ρ) (e : ρ[i]? = some (some (ownD 1))) : σ[i]? = some (some (.ref lp)) := by
  obtain ⟨v, hv, q⟩ := E.at_ i _ e
  rw [hv]
  cases q with
  | dict n h q => cases q with | cons h1 t z h2 r => exact nomatch t
  | own h => rcases h with h | h
             · exact absurd h (hf _)
             · rw [h.2]
/-- how many rows there are -/
theorem ed_lenLn {i : Nat} (ok : LnOk F lp cs) (hf : ∀ x, ¬ F.own x 1) (hl : cs.length = n) (e : ρ[i]? = some (some (ownD 1))) : ED (F.ln K lp cs n) K (tCB (rLenSeq K) (tCons (tVar i) tNil)) ρ (.int n) := fun σ H J E Q q => by
  refine ⟨_, ln_own ok hf E e, lp, cs.map .ref, rfl, .inl (.inl (.inl J.2.1)), ?_⟩
  rw [List.length_map, hl]
  exact q _ H (.refl H) (.int _)
/-- lines[s][k] = e -/
theorem sn_putLn {i j k : Nat} {s r : Nat} (ok : LnOk F lp cs) (hf : ∀ x, ¬ F.own x 1) (hl : cs.length = n) (e1 : ρ[i]? = some (some (ownD 1))) (e2 : ρ[j]? = some (some (eN s))) (e3 : ρ[k]? = some (some (eN r))) (hs : s < n) (hr : r < 27)
    (h : EQ (F.ln K lp cs n) K te ρ (fun d => ∃ e : Ent, e.2 < n ∧ d = eEnt e)) : SN (F.ln K lp cs n) K (tAsg te (gSub (tOp (rIx K) (tVar i) (tVar j)) (tVar k) rSetL)) ρ ρ := fun σ H De J E q => h σ H J E _ fun d v H1 ⟨en, hen, ed⟩ x1 q1 => by
  subst ed
  have J1 := x1.inv J
  have E1 := E.mono x1
  obtain ⟨vj, hvj, qj⟩ := E.at_ j _ e2
  obtain ⟨vk, hvk, qk⟩ := E.at_ k _ e3
  rw [qj.int_inv] at hvj
  rw [qk.int_inv] at hvk
  obtain ⟨c, hc⟩ : ∃ c, cs[s]? = some c := ⟨_, List.getElem?_eq_getElem (by omega)⟩
  have hcm : c ∈ cs := List.mem_of_getElem? hc
  obtain ⟨es, l, p, dq, wf⟩ := J1.2.2 c hcm
  have hel : es.length = 27 := by rw [dq.len, List.length_map, wf.1]
  refine ⟨_, ln_own ok hf E1 e1, _, hvj, .inl ⟨lp, _, s, .ref c, rfl, rfl, .inl (.inl J1.2.1), atI_nat (by rw [List.getElem?_map, hc]; rfl), ?_⟩⟩
  refine ⟨_, hvk, c, es, r, r, rfl, rfl, p, by unfold ixN; rw [if_pos (by omega), if_pos (by omega)]; rfl, ?_⟩
  have tk := Tk.lst (o := .lst (es.set r v)) p
  have x2 : Xt (F.ln K lp cs n) H1 (upd H1 c (.lst (es.set r v))) := ⟨fun x o m z => by rw [upd_ne fun e : x = c => m (.inr (.inr (by rw [e]; exact hcm)))]; exact z, tk, fun _ => ⟨F.mono _ _ (fun x o m z => by rw [upd_ne fun e : x = c => ok.c c hcm (by rw [← e]; exact m)]; exact z) tk J1.1, by rw [upd_ne fun e => ok.ne c hcm e.symm]; exact J1.2.1, fun c' hc' => by
    by_cases e : c' = c
    · subst e
      refine ⟨_, l.set r en, upd_same, ?_, by rw [List.length_set]; exact wf.1, fun x hx => ?_⟩
      · rw [List.map_set]
        exact DqAll.set (Dq.tk tk _ (to_ent en) q1) (DqAll.tk tk _ (to_ents l) dq)
      · rcases List.mem_or_eq_of_mem_set hx with h | rfl
        · exact wf.2 x h
        · exact hen
    · obtain ⟨es', l', p', dq', wf'⟩ := J1.2.2 c' hc'
      exact ⟨es', l', by rw [upd_ne e]; exact p', DqAll.tk tk _ (to_ents l') dq', wf'⟩⟩⟩
  exact q _ _ (x1.trans x2) (E1.mono x2)
/-- return what the rows give at last -/
theorem sdq_lnEnd {i : Nat} {P' : D → Prop} (ok : LnOk F lp cs) (hf : ∀ x, ¬ F.own x 1) (e : ρ[i]? = some (some (ownD 1))) (h : ∀ ls : List (List Ent), ls.length = cs.length → (∀ l ∈ ls, WfL n l) → ∃ d, ED F K te ((List.replicate ρ.length none).set i (some (.list (ls.map eLn)))) d ∧ P' d ∧ tonly d = true) : SDQ (F.ln K lp cs n) K (tRet te) ρ P' := fun σ H De J E q => by
  have hls : ∀ cs' : List Addr, (∀ c ∈ cs', c ∈ cs) → ∃ ls : List (List Ent), ls.length = cs'.length ∧ (∀ l ∈ ls, WfL n l) ∧ DqAll F K H (cs'.map .ref) (ls.map eLn) := by
    intro cs'
    induction cs' with
    | nil => exact fun _ => ⟨[], rfl, (fun _ h => nomatch h), .nil⟩
    | cons c cs' ih =>
      intro hc
      obtain ⟨ls, h1, h2, h3⟩ := ih fun x hx => hc x (List.mem_cons_of_mem _ hx)
      obtain ⟨es, l, p, dq, wf⟩ := J.2.2 c (hc c List.mem_cons_self)
      refine ⟨l :: ls, by rw [List.length_cons, h1]; rfl, fun x hx => ?_, .cons (.lst (ok.c c (hc c List.mem_cons_self)) p (DqAll.to (to_ents l) dq)) h3⟩
      rcases List.mem_cons.mp hx with rfl | hx
      · exact wf
      · exact h2 x hx
  obtain ⟨ls, h1, h2, h3⟩ := hls cs fun _ h => h
  obtain ⟨d, hd, pd, td⟩ := h ls h1 h2
  have hi : i < ρ.length := (List.getElem?_eq_some_iff.mp e).1
  have E' : Env F K H σ ((List.replicate ρ.length none).set i (some (.list (ls.map eLn)))) := ⟨by rw [List.length_set, List.length_replicate]; exact E.len, fun j dj hj => by
    by_cases ij : i = j
    · subst ij
      rw [List.getElem?_set_self (by rw [List.length_replicate]; exact hi)] at hj
      cases hj
      exact ⟨_, ln_own ok hf E e, .lst ok.l J.2.1 h3⟩
    · rw [List.getElem?_set_ne ij, List.getElem?_replicate] at hj
      split at hj <;> cases hj⟩
  exact hd σ H J.1 E' _ fun v H' x q2 => q v H' d pd (x.in_ln ok) (Dq.to td q2)
end
/-- the promise of a def that draws and holds rows -/
def spK1 (w : World) (K : PySem.W.Frag) {ξ : Type} (pre : ξ → List D → Prop) (post : ξ → D → Prop) : Sp := fun vs H Q _ => ∃ (F : Fm w) (a b : Addr), HasDk F a b ∧ (∀ x, ¬ F.own x 1) ∧ F.J H ∧ ∃ x ds, DqAll F K H vs ds ∧ pre x ds ∧ ∀ d v H', post x d → Xt F H H' → Dq F K H' v d → Q v H'
theorem eq_callK1 {w : World} {F : Fm w} {K : PySem.W.Frag} {ρ : Ro} {tas : TA} {ξ : Type} {pre : ξ → List D → Prop} {post : ξ → D → Prop} {ds : List D} {E : XK} {a b : Addr} (hk : HasDk F a b) (hf : ∀ x, ¬ F.own x 1) (h : EA F K tas ρ ds) (x : ξ) (hR : pre x ds) : EQ F K (tCall (spK1 w K pre post) [] E tas) ρ (post x) := fun σ H J En Q q =>
  h σ H J En _ fun vs H1 e1 q1 => by
    show spK1 w K pre post (vs ++ []) H1 Q E
    rw [List.append_nil]
    exact ⟨F, a, b, hk, hf, e1.inv J, x, ds, q1, hR, fun d v H2 r e2 q2 => q d v H2 r (e1.trans e2) q2⟩
theorem ok_postK1 {P : Program} {w : World} {K : PySem.W.Frag} {mg : Str → Option Value} {base : Heap} {x : Str} {params : Arguments} {body : List Stmt} {scope : Scope} {dvs : List V} {kws : List (Str × V)} {f : Addr} {fd : FuncData} {N ps : List Str} {k : Nat}
    {ξ : Type} {pre : ξ → List D → Prop} {post : ξ → D → Prop} (FD : FunD K x x params body scope dvs kws f fd) (S : FnScope N ps scope) (hl : ∀ z ds, pre z ds → ds.length = ps.length)
    (h : ∀ (cdv : Value) (A : Around) (outer : List PySem.Env) (s : Shared) (H : Hp) (E : XK), Room k (A.deeper (envOfC x scope s.heap.objs.size f cdv)) → ∀ (F : Fm w) (a b : Addr), HasDk F a b → (∀ x, ¬ F.own x 1) → ∀ z ds, pre z ds →
      ∃ t, PSs (cxOf CX0 P w K mg base N x scope f cdv A outer s H E).nox body t ∧ SDQ F K t (ro0 N ds) (post z)) : FnOk P w K mg base CX0 (k + 1) f fd ps (spK1 w K pre post) := by
  refine FD.ok S (fun vs H Q E hs => ?_) (fun cdv A outer s H vs Q E hr hs => ?_)
  · obtain ⟨_, _, _, _, _, _, z, ds, q, r, _⟩ := hs
    rw [q.len]; exact hl z ds r
  · obtain ⟨F, a, b, hk, hf, J, z, ds, q, r, kq⟩ := hs
    obtain ⟨t, ht, hd⟩ := h cdv A outer s H E hr F a b hk hf z ds r
    exact ⟨t, ht.nox, hd _ H _ J (env0 q) fun v H' d hp e q2 => kq d v H' hp e q2⟩
end FW
end PartFun13
section PartFun14
set_option Elab.async false
set_option linter.all false
set_option maxRecDepth 100000
set_option maxHeartbeats 2000000
/-! Drawn tables. -/
namespace FW
open PySem PySem.Spec PyProof.Rows L2
section
variable {w : World} {F : Fm w} {K : PySem.W.Frag} {ρ : Ro} {ta tb : TE}
theorem eq_ixL {ds : List D} (ha : ED F K ta ρ (.list ds)) (hb : EQ F K tb ρ (fun d => ∃ r : Nat, r < ds.length ∧ d = eN r)) : EQ F K (tOp (rIx K) ta tb) ρ (fun d => d ∈ ds) :=
  eq_op (eq_ed ha) hb fun d1 d2 e1 ⟨r, hr, e2⟩ x y H _ hx hy Q q => by
    subst e1 e2
    obtain ⟨a, xs, rfl, _, hs, hd⟩ := hx.lst_inv
    have h : ds[r]? = some ds[r] := List.getElem?_eq_getElem hr
    obtain ⟨v, h3, h4⟩ := hd.get h
    exact .inl ⟨a, xs, r, v, rfl, hy.int_inv, hs, atI_nat h3, q _ v H (List.getElem_mem hr) (.refl H) h4⟩
theorem eq_drawN {te : TE} {a b : Addr} {E : XK} {i m : Nat} (hk : HasDk F a b) (h0 : ρ[i]? = some (some (ownD 0))) (h : ED F K te ρ (eN m)) (hm : 0 < m ∧ m < 1000000) : EQ F K (tCall (spK w K preDraw postDraw) [] E (tCons (tVar i) (tCons te tNil))) ρ (fun d => ∃ r : Nat, r < m ∧ d = eN r) :=
  eq_callK hk (ea_cons (ed_var h0) (ea_cons h ea_nil)) m ⟨rfl, hm⟩
def prePick (ss : List Str) (ds : List D) : Prop := ds = [ownD 0, .list (ss.map .str)] ∧ 0 < ss.length ∧ ss.length < 1000
def postPick (ss : List Str) (d : D) : Prop := ∃ s ∈ ss, d = .str s
theorem eq_pickN {te : TE} {a b : Addr} {E : XK} {i : Nat} {ss : List Str} (hk : HasDk F a b) (h0 : ρ[i]? = some (some (ownD 0))) (h : ED F K te ρ (.list (ss.map .str))) (hm : 0 < ss.length ∧ ss.length < 1000) : EQ F K (tCall (spK w K prePick postPick) [] E (tCons (tVar i) (tCons te tNil))) ρ (postPick ss) :=
  eq_callK hk (ea_cons (ed_var h0) (ea_cons h ea_nil)) ss ⟨rfl, hm⟩
end
theorem sc_l_pick : FnScope ["_law_deck_here", "_law_some"] ["_law_deck_here", "_law_some"] (defScope s_l_pick) := ⟨rfl, rfl, rfl, by decide +kernel, rfl, by decide +kernel, by decide +kernel⟩
theorem c_l_pick {P : Program} {w : World} {K : PySem.W.Frag} {mg : Str → Option Value} {base : Heap} (T : TT K mg) : C8.Cal P w K mg base 2 "_law_pick" (spK w K prePick postPick) [] := by
  have c_l_draw := c_l_draw (P := P) (w := w) (base := base) T
  obtain ⟨f, fd, FD, hm⟩ := T.d_l_pick
  refine cal_mk (ok_postK FD sc_l_pick (fun z ds h => by rw [h.1]; rfl) fun cdv A outer s H E hr F a b hk ss ds h => ?_) hm FD.kp (FD.bindsN fun _ _ _ _ _ _ us hl => match us, hl with | [_, _], _ => rfl)
  obtain ⟨rfl, h0, h1⟩ := h
  refine ⟨_, (pss_one (ps_ret (pe_ix (ixK (K := K) rfl) (pv 1) (C8.pe_c c_l_draw hr (by decide) (by rfl) (pa_cons (pv 0) (pa_cons (pe_callB (lenK (K := K) rfl) (by rfl) T.n_len (by decide +kernel) (pa_cons (pv 1) pa_nil)) pa_nil))) (fun _ _ => rfl)))), ?_⟩
  refine sdq_ret (eq_imp (eq_ixL (ds := ss.map .str) (ed_var rfl) (eq_drawN (m := (ss.map (PyData.str)).length) hk rfl (ed_lenL (ea_cons (ed_var rfl) ea_nil)) ⟨by rw [List.length_map]; exact h0, by rw [List.length_map]; omega⟩)) fun d hd => ?_)
  obtain ⟨s, hs, rfl⟩ := List.mem_map.mp hd
  exact ⟨s, hs, rfl⟩
/-! ### a drawn table -/
def namesFor (z : Nat) : List Str := ((["first", "last", "begins", "ends", "cover", "inner", "least", "ranked"] : List Str) ++ (if z > 1 then (["vote", "vote"] : List Str) else ([] : List Str))) ++ (if z > 2 then (["most", "most"] : List Str) else ([] : List Str))
theorem names1 : ((namesFor 1).all fun s => decide (s ∈ namesL) && decide ((told s).length ≤ 1)) = true := by decide +kernel
theorem names2 : ((namesFor 2).all fun s => decide (s ∈ namesL) && decide ((told s).length ≤ 2)) = true := by decide +kernel
theorem names3 : ((namesFor 3).all fun s => decide (s ∈ namesL) && decide ((told s).length ≤ 3)) = true := by decide +kernel
def IsTab (z : Nat) (d : D) : Prop := ∃ t : Tab, TabOk t ∧ t.length ≤ z ∧ d = eTab t
def tabOkB (t : Tab) : Bool := decide (0 < t.length) && decide (t.length ≤ 6) && t.all fun s => decide (s.length = 27) && s.all fun e => decide (e.2 < t.length)
theorem tabOk_of {t : Tab} (h : tabOkB t = true) : TabOk t := by
  simp only [tabOkB, Bool.and_eq_true, decide_eq_true_eq, List.all_eq_true] at h
  exact ⟨h.1.1, h.1.2, fun s hs => (h.2 s hs).1, fun s hs e he => (h.2 s hs).2 e he⟩
theorem told_most : (namesL.all fun s => tabOkB (told s)) = true := by decide +kernel
theorem told_ok {s : Str} (h : s ∈ namesL) : TabOk (told s) := tabOk_of (List.all_eq_true.mp told_most s h)
theorem namesFor_ok {z : Nat} (h1 : 1 ≤ z) (h3 : z ≤ 3) : ∀ s ∈ namesFor z, s ∈ namesL ∧ (told s).length ≤ z := by
  have h : ((namesFor z).all fun s => decide (s ∈ namesL) && decide ((told s).length ≤ z)) = true := by
    have : z = 1 ∨ z = 2 ∨ z = 3 := by omega
    rcases this with rfl | rfl | rfl
    · exact names1
    · exact names2
    · exact names3
  intro s hs
  have := List.all_eq_true.mp h s hs
  simp only [Bool.and_eq_true, decide_eq_true_eq] at this
  exact this
def preTable (z : Nat) (ds : List D) : Prop := ds = [ownD 0, eN z] ∧ 1 ≤ z ∧ z ≤ 3
abbrev ρT : Ro := [some (ownD 0), none, none, none, none, some (ownD 1), none, none, none, none]
theorem is_ent {d : D} {n : Nat} {ss : List Str} (hs : ∀ s ∈ ss, s = "old" ∨ s = "new") (h : ∃ d1 d2, postPick ss d1 ∧ (∃ r : Nat, r < n ∧ d2 = eN r) ∧ d = .tuple [d1, d2]) : ∃ e : Ent, e.2 < n ∧ d = eEnt e := by
  obtain ⟨_, _, ⟨s, hm, rfl⟩, ⟨r, hr, rfl⟩, rfl⟩ := h
  rcases hs s hm with rfl | rfl
  · exact ⟨(false, r), hr, rfl⟩
  · exact ⟨(true, r), hr, rfl⟩
def TailOk {w : World} (F : Fm w) (K : PySem.W.Frag) (z : Nat) (u : TS) : Prop := ∀ (n : Nat) (lp : Addr) (cs : List Addr), 1 ≤ n → n ≤ z → LnOk F lp cs → cs.length = n → SDQ (F.ln K lp cs n) K u ρT (IsTab z)
theorem sdq_tail {w : World} {F : Fm w} {K : PySem.W.Frag} {z : Nat} {ρ : Ro} {P : D → Prop} {t v u : TS} (h : TailOk F K z u) (m : TailOk F K z u → SDQ F K (tSeq t (tSeq v u)) ρ P) : SDQ F K (tSeq t (tSeq v u)) ρ P := m h
theorem er_is {w : World} {F : Fm w} {K : PySem.W.Frag} {te : TE} {ρ : Ro} {n m : Nat} {P : List Ent → Prop} (h : ER F K te ρ n P) (e : n = m) : ER F K te ρ m P := e ▸ h
theorem wkT {ρ : Ro} (h : ρ.length = 10) (h0 : ρ[0]? = some (some (ownD 0))) (h5 : ρ[5]? = some (some (ownD 1))) : Wk ρ ρT := ⟨h.symm, fun i d e => by
  match i, e with
  | 0, e => cases e; exact h0
  | 5, e => cases e; exact h5
  | 1, e => cases e
  | 2, e => cases e
  | 3, e => cases e
  | 4, e => cases e
  | 6, e => cases e
  | 7, e => cases e
  | 8, e => cases e
  | 9, e => cases e
  | i + 10, e => cases e⟩
theorem sc_l_table : FnScope ["_law_deck_here", "_law_most", "_law_names", "_law_table_here", "_law_way", "_law_lines", "_law_many", "_law_k", "_law_state", "_law_number_here"] ["_law_deck_here", "_law_most"] (defScope s_l_table) := ⟨rfl, rfl, rfl, by decide +kernel, rfl, by decide +kernel, by decide +kernel⟩
theorem c_l_table {P : Program} {w : World} {K : PySem.W.Frag} {mg : Str → Option Value} {base : Heap} (T : TT K mg) : C8.Cal P w K mg base 4 "_law_table" (spK1 w K preTable IsTab) [] := by
  have c_l_draw := c_l_draw (P := P) (w := w) (base := base) T
  have c_l_pick := c_l_pick (P := P) (w := w) (base := base) T
  have c_told_table := c_told_table (P := P) (w := w) (base := base) T
  obtain ⟨f, fd, FD, hm⟩ := T.d_l_table
  refine cal_mk (ok_postK1 FD sc_l_table (fun z ds h => by rw [h.1]; rfl) fun cdv A outer s H E hr F a b hk hf z ds h => ?_) hm FD.kp (FD.bindsN fun _ _ _ _ _ _ us hl => match us, hl with | [_, _], _ => rfl)
  obtain ⟨rfl, h0, h1⟩ := h
  refine ⟨_, (pss_cons (ps_set (i := 2) sc_l_table.nd rfl (Or.inl rfl) (pe_lst (pa_cons pe_str (pa_cons pe_str (pa_cons pe_str (pa_cons pe_str (pa_cons pe_str (pa_cons pe_str (pa_cons pe_str (pa_cons pe_str pa_nil))))))))))
    (pss_cons (ps_set (i := 2) sc_l_table.nd rfl (Or.inl rfl) (pe_op op_cat (pe_op op_cat (pv 2) (pe_op op_rep (pe_lst (pa_cons pe_str (pa_cons pe_str pa_nil))) (pe_callTy call_int1 (by rfl) T.n_int (by decide +kernel) (pa_cons (pe_cmpR op_gt (pv 1) pe_int (nomark _)) pa_nil)))) (pe_op op_rep (pe_lst (pa_cons pe_str (pa_cons pe_str pa_nil))) (pe_callTy call_int1 (by rfl) T.n_int (by decide +kernel) (pa_cons (pe_cmpR op_gt (pv 1) pe_int (nomark _)) pa_nil)))))
    (pss_cons (ps_par (i := 3) (j := 4) rfl sc_l_table.nd rfl rfl (by decide) rfl rfl (pa_cons (C8.pe_c c_told_table hr (by decide) (by rfl) (pa_cons (C8.pe_c c_l_pick hr (by decide) (by rfl) (pa_cons (pv 0) (pa_cons (pv 2) pa_nil))) pa_nil)) (pa_cons (C8.pe_c c_l_draw hr (by decide) (by rfl) (pa_cons (pv 0) (pa_cons pe_int pa_nil))) pa_nil)) (by rfl))
    (pss_cons (ps_if (pt_cmpR op_eq (pv 4) pe_int (nomark _)) (pss_one (ps_ret (pv 3))) pss_nil)
    (pss_cons (ps_setLc (i := 5) (own := [("_law_state", 8)]) (g := gName 8) rfl sc_l_table.nd rfl rfl (sw_true rfl rfl rfl (by decide +kernel)) (pi_tupK (K := K) rfl (pv 3)) (blkOk_by (by kernel_rfl)) (fun _ _ _ _ _ => (pg_name (i := 8) sc_l_table.nd rfl (Or.inl rfl))) (fun _ _ _ _ _ => pts_nil) (fun _ _ _ _ _ => (pe_callTy (listK (K := K) rfl) (by rfl) T.n_list (by decide +kernel) (pa_cons (pv 8) pa_nil))))
    (pss_cons (ps_if (pt_cmpR op_eq (pv 4) pe_int (nomark _)) (pss_cons (ps_set (i := 6) sc_l_table.nd rfl (Or.inr rfl) (pe_op op_add pe_int (C8.pe_c c_l_draw hr (by decide) (by rfl) (pa_cons (pv 0) (pa_cons (pv 1) pa_nil)))))
    (pss_one (ps_setLc (i := 5) (own := [("_law_state", 8)]) (g := gName 8) rfl sc_l_table.nd rfl rfl (sw_true rfl rfl rfl (by decide +kernel)) (pi_range1 (by rfl) T.n_range (pa_cons (pv 6) pa_nil)) (blkOk_by (by kernel_rfl)) (fun _ _ _ _ _ => (pg_name (i := 8) sc_l_table.nd rfl (Or.inl rfl))) (fun _ _ _ _ _ => pts_nil) (fun _ _ _ _ _ => (pe_lc (own := [("_law_k", 7)]) (g := gName 7) rfl sc_l_table.nd (pi_range1 (by rfl) T.n_range (pa_cons pe_int pa_nil)) (blkOk_by (by kernel_rfl)) (fun _ _ _ _ _ => (pg_name (i := 7) sc_l_table.nd rfl (Or.inl rfl))) (fun _ _ _ _ _ => pts_nil) (fun _ _ _ _ _ => (pe_tup (pa_cons (C8.pe_c c_l_pick hr (by decide) (by rfl) (pa_cons (pv 0) (pa_cons (pe_lst (pa_cons pe_str (pa_cons pe_str (pa_cons pe_str pa_nil)))) pa_nil))) (pa_cons (C8.pe_c c_l_draw hr (by decide) (by rfl) (pa_cons (pv 0) (pa_cons (pv 6) pa_nil))) pa_nil))))))))) pss_nil)
    (pss_cons (ps_for PassesOwn.never rfl (pi_range1 (by rfl) T.n_range (pa_cons (C8.pe_c c_l_draw hr (by decide) (by rfl) (pa_cons (pv 0) (pa_cons pe_int pa_nil))) pa_nil)) (pg_name (i := 7) sc_l_table.nd rfl (Or.inl rfl)) (pss_cons (ps_par (i := 8) (j := 9) rfl sc_l_table.nd rfl rfl (by decide) rfl rfl (pa_cons (C8.pe_c c_l_draw hr (by decide) (by rfl) (pa_cons (pv 0) (pa_cons (pe_callB (lenK (K := K) rfl) (by rfl) T.n_len (by decide +kernel) (pa_cons (pv 5) pa_nil)) pa_nil))) (pa_cons (C8.pe_c c_l_draw hr (by decide) (by rfl) (pa_cons (pv 0) (pa_cons pe_int pa_nil))) pa_nil)) (by rfl))
    (pss_one (ps_asg (pe_tup (pa_cons (C8.pe_c c_l_pick hr (by decide) (by rfl) (pa_cons (pv 0) (pa_cons (pe_lst (pa_cons pe_str (pa_cons pe_str pa_nil))) pa_nil))) (pa_cons (C8.pe_c c_l_draw hr (by decide) (by rfl) (pa_cons (pv 0) (pa_cons (pe_callB (lenK (K := K) rfl) (by rfl) T.n_len (by decide +kernel) (pa_cons (pv 5) pa_nil)) pa_nil))) pa_nil))) (pg_sub (pe_ix (ixK (K := K) rfl) (pv 5) (pv 8) (fun _ _ => rfl)) (pv 9) set_list)))))
    (pss_one (ps_ret (pe_callTy (tupK (K := K) rfl) (by rfl) T.n_tuple (by decide +kernel) (pa_cons (pe_lc (own := [("_law_state", 8)]) (g := gName 8) rfl sc_l_table.nd (pi_listK (K := K) rfl (pv 5)) (blkOk_by (by kernel_rfl)) (fun _ _ _ _ _ => (pg_name (i := 8) sc_l_table.nd rfl (Or.inl rfl))) (fun _ _ _ _ _ => pts_nil) (fun _ _ _ _ _ => (pe_callTy (tupK (K := K) rfl) (by rfl) T.n_tuple (by decide +kernel) (pa_cons (pv 8) pa_nil)))) pa_nil))))))))))), ?_⟩
  refine sdq_seq (sn_asg (ed_lst (ea_cons ed_str (ea_cons ed_str (ea_cons ed_str (ea_cons ed_str (ea_cons ed_str (ea_cons ed_str (ea_cons ed_str (ea_cons ed_str ea_nil)))))))))) ?_
  refine sdq_seq (sn_asg (d := .list ((namesFor z).map .str)) ?_) ?_
  · have : z = 1 ∨ z = 2 ∨ z = 3 := by omega
    have two : ∀ (ρ : Ro) (x : Str), ED F K (tLst (tCons (tC (.str x)) (tCons (tC (.str x)) tNil))) ρ (.list [.str x, .str x]) := fun ρ x => ed_lst (ea_cons ed_str (ea_cons ed_str ea_nil))
    rcases this with rfl | rfl | rfl
    · exact ed_is (ed_cat (ed_cat (ed_var rfl) (ed_rep (k := 0) (two _ _) (ed_is (ed_intB (ea_cons (ed_b0 (ed_var rfl) ed_int) ea_nil)) rfl) (by decide) (by show 2 ≤ 100; decide)) (by show 8 + 0 ≤ 100000; decide)) (ed_rep (k := 0) (two _ _) (ed_is (ed_intB (ea_cons (ed_b0 (ed_var rfl) ed_int) ea_nil)) rfl) (by decide) (by show 2 ≤ 100; decide)) (by show 8 + 0 ≤ 100000; decide)) rfl
    · exact ed_is (ed_cat (ed_cat (ed_var rfl) (ed_rep (k := 1) (two _ _) (ed_is (ed_intB (ea_cons (ed_b0 (ed_var rfl) ed_int) ea_nil)) rfl) (by decide) (by show 2 ≤ 100; decide)) (by show 8 + 2 ≤ 100000; decide)) (ed_rep (k := 0) (two _ _) (ed_is (ed_intB (ea_cons (ed_b0 (ed_var rfl) ed_int) ea_nil)) rfl) (by decide) (by show 2 ≤ 100; decide)) (by show 10 + 0 ≤ 100000; decide)) rfl
    · exact ed_is (ed_cat (ed_cat (ed_var rfl) (ed_rep (k := 1) (two _ _) (ed_is (ed_intB (ea_cons (ed_b0 (ed_var rfl) ed_int) ea_nil)) rfl) (by decide) (by show 2 ≤ 100; decide)) (by show 8 + 2 ≤ 100000; decide)) (ed_rep (k := 1) (two _ _) (ed_is (ed_intB (ea_cons (ed_b0 (ed_var rfl) ed_int) ea_nil)) rfl) (by decide) (by show 2 ≤ 100; decide)) (by show 10 + 2 ≤ 100000; decide)) rfl
  have nz : 0 < (namesFor z).length ∧ (namesFor z).length < 1000 := by
    have : z = 1 ∨ z = 2 ∨ z = 3 := by omega
    rcases this with rfl | rfl | rfl <;> decide
  refine sdq_par (eq_callR (P := IsTab z) (eaq_cons (eq_pickN hk rfl (ed_var rfl) nz) eaq_nil) ?_) (eq_drawN (m := 4) hk rfl ed_int (by decide)) ?_
  · rintro _ ⟨_, _, ⟨s, hs, rfl⟩, rfl, rfl⟩
    obtain ⟨k1, k2⟩ := namesFor_ok h0 h1 s hs
    exact ⟨_, ⟨s, rfl, k1, rfl⟩, told s, told_ok k1, k2, rfl⟩
  rintro _ _ ⟨t, tok, tlen, rfl⟩ ⟨way, _, rfl⟩
  refine sdq_when (et_test (ed_eqI (ed_var rfl) ed_int)) (fun _ => sdq_of (sd_ret (ed_var rfl)) ⟨t, tok, tlen, rfl⟩) fun _ => ?_
  -- the rest, from the rows on
  refine sdq_tail (z := z) (fun n lp cs n1 nz ok hl => ?_) fun tail => ?_
  · skip
    refine sdq_seq (sn_forQ (idq_rng (eq_drawN (m := 5) (hk.ln ok) rfl ed_int (by decide)) (by decide)) ?_) (sdq_lnEnd (i := 5) ok hf rfl ?_)
    · rintro _ d ⟨k, _, rfl⟩ _
      refine ⟨[7], ρT.set 7 (some d), ρT.set 7 (some d), gd_name, ?_, wk_set (.refl _) rfl⟩
      refine sn_parQ (eq_drawN (m := n) (hk.ln ok) rfl (ed_lenLn ok hf hl rfl) (by omega)) (eq_drawN (m := 27) (hk.ln ok) rfl ed_int (by decide)) ?_
      rintro _ _ ⟨s, hs, rfl⟩ ⟨r, hr, rfl⟩
      refine sn_wk (sn_putLn (s := s) (r := r) ok hf hl rfl rfl rfl hs hr (eq_imp (eq_pair (eq_pickN (ss := ["old", "new"]) (hk.ln ok) rfl (ed_lst (ea_cons ed_str (ea_cons ed_str ea_nil))) (by decide)) (eq_drawN (m := n) (hk.ln ok) rfl (ed_lenLn ok hf hl rfl) (by omega))) fun d h => is_ent (by decide) h)) ?_
      exact wk_set (wk_set (.refl _) rfl) rfl
    · intro ls h1 h2
      refine ⟨eTab ls, ?_, ⟨ls, ⟨by omega, by omega, fun s hs => (h2 s hs).1, fun s hs e he => by rw [h1, hl]; exact (h2 s hs).2 e he⟩, by omega, rfl⟩, to_tab ls⟩
      exact ed_tupL (ea_cons (ed_lcA ls eLn eSt _ [8] (id_list (ed_var rfl)) (by omega) (by decide) (fun l _ => gd_name) (fun l _ => ed_tupL (ea_cons (ed_var rfl) ea_nil)) fun l _ => to_st l) ea_nil)
  by_cases hw : way = 1
  · subst hw
    refine sdq_bind (eq_rows (er_lc (P := WfL t.length) t eSt (fun l => (wipeR _ [8]).set 8 (some (eSt l))) [8] (id_tup (ed_var rfl)) (by have := tok.most; omega) (by decide) (fun _ _ => gd_name) fun l hl => el_copy (ed_var rfl) ⟨tok.line l hl, tok.to l hl⟩)) ?_
    rintro _ ⟨_, _, _, rfl⟩
    refine sdq_ifT (et_is (et_test (ed_eqI (i := ((1 : Nat) : Int)) (ed_var rfl) ed_int)) rfl) (sdq_assoc ?_)
    refine sdq_bind (eq_ei (C := fun i => ∃ m : Nat, 1 ≤ m ∧ m ≤ z ∧ i = (m : Int)) (ei_op0 (C1 := fun i => i = 1) (C2 := fun i => ∃ r : Nat, r < z ∧ i = (r : Int)) (ei_of ed_int rfl) (fun σ H J E Q q => eq_drawN (m := z) hk rfl (ed_var rfl) (by omega) σ H J E Q fun d v H' ⟨r, hr, e⟩ x dq => by subst e; rw [dq.int_inv]; exact q r H' ⟨r, hr, rfl⟩ x) ?_)) ?_
    · rintro i j rfl ⟨r, hr, rfl⟩
      exact ⟨r + 1, by omega, by omega, by omega⟩
    rintro _ ⟨_, ⟨m, m1, mz, rfl⟩, rfl⟩
    refine sdq_lines (n := m) ?_ (fun d ⟨t, _, _, e⟩ => by rw [e]; exact to_tab t) fun lp cs ok hl => sdq_wk ?_ (tail m lp cs m1 mz ok hl)
    · refine er_is (er_lc (List.range m) eN (fun s => (wipeR _ [8]).set 8 (some (eN s))) [8] (id_rng1 (ea_cons (ed_var rfl) ea_nil) (by omega)) (by rw [List.length_range]; omega) (by decide) (fun _ _ => gd_name) fun s _ => ?_) List.length_range
      refine el_lc (PE := fun e => e.2 < m) (List.range 27) eN (fun k => (wipeR _ [7]).set 7 (some (eN k))) [7] (id_rng1 (n := 27) (ea_cons ed_int ea_nil) (by decide)) (by decide) (by decide) (fun _ _ => gd_name) (fun k _ => ?_) fun l h1 h2 => ⟨h1, h2⟩
      exact eq_imp (eq_pair (eq_pickN (ss := ["old", "old", "new"]) hk rfl (ed_lst (ea_cons ed_str (ea_cons ed_str (ea_cons ed_str ea_nil)))) (by decide)) (eq_drawN (m := m) hk rfl (ed_var rfl) (by omega))) fun d h => is_ent (by decide) h
    · exact wkT rfl rfl rfl
  · refine sdq_lines (n := t.length) (er_lc (P := WfL t.length) t eSt (fun l => (wipeR _ [8]).set 8 (some (eSt l))) [8] (id_tup (ed_var rfl)) (by have := tok.most; omega) (by decide) (fun _ _ => gd_name) fun l hl => el_copy (ed_var rfl) ⟨tok.line l hl, tok.to l hl⟩) (fun d ⟨t, _, _, e⟩ => by rw [e]; exact to_tab t) fun lp cs ok hl => ?_
    refine sdq_seq (sn_whenN (et_test (ed_eqI (ed_var rfl) ed_int)) (decide_eq_false (by omega))) (sdq_wk ?_ (tail _ lp cs tok.pos tlen ok hl))
    exact wkT rfl rfl rfl
end FW
end PartFun14
section PartFun15
set_option Elab.async false
set_option linter.all false
set_option maxRecDepth 100000
set_option maxHeartbeats 2000000
/-! A twin of a table; a pair of tables. -/
namespace FW
open PySem PySem.Spec PyProof.Rows L2
section
variable {w : World} {F : Fm w} {K : PySem.W.Frag} {ρ : Ro} {te ta tb : TE} {g : TG} {u : TS} {P P1 : D → Prop}
theorem sdq_bindX (h : EQ F K te ρ P1) (hu : ∀ d, P1 d → ∃ is ρ', GD F K g is d ρ ρ' ∧ SDQ F K u ρ' P) : SDQ F K (tSeq (tAsg te g) u) ρ P := fun σ H De J E q => h σ H J E _ fun d v H1 p e1 q1 => by
  obtain ⟨is, ρ', hg, hs⟩ := hu d p
  exact hg σ H1 v (e1.inv J) (E.mono e1) q1 _ fun σ' E' _ _ => hs _ H1 De (e1.inv J) E' fun v2 H2 d2 p2 e2 q2 => q v2 H2 d2 p2 (e1.trans e2) q2
theorem eq_tupL (h : EQ F K te ρ (fun d => ∃ ds, P (.tuple ds) ∧ d = .list ds)) : EQ F K (tCB (rTupleOf K) (tCons te tNil)) ρ P := fun σ H J E Q q => h σ H J E _ fun d v H1 ⟨ds, p, e⟩ e1 q1 => by
  subst e
  obtain ⟨a, xs, rfl, _, hs, hd⟩ := q1.lst_inv
  exact ⟨a, xs, rfl, .inl ⟨hs, fun l hl => q _ _ _ p (e1.trans (.new hl)) (.newT hl hd)⟩⟩
theorem eq_catT {ds : List D} {PB : List D → Prop} (ha : ED F K ta ρ (.tuple ds)) (hb : EQ F K tb ρ (fun d => ∃ es, PB es ∧ d = .tuple es)) (hn : ds ≠ []) (hm : ∀ es, PB es → es ≠ [] ∧ ds.length + es.length ≤ 100000) : EQ F K (tOp (rCatT K) ta tb) ρ (fun d => ∃ es, PB es ∧ d = .tuple (ds ++ es)) :=
  eq_op (eq_ed ha) hb fun d1 d2 e1 ⟨es, pb, e2⟩ x y H _ hx hy Q q => by
    subst e1 e2
    obtain ⟨a, xs, rfl, hs, hd⟩ := hx.tup_inv
    obtain ⟨b, ys, rfl, ht, he⟩ := hy.tup_inv
    exact ⟨a, b, xs, ys, rfl, rfl, hs, ht, hd.ne hn, sz_le (by rw [hd.len, he.len]; exact (hm es pb).2), fun e => absurd e (he.ne (hm es pb).1), fun _ p hp => q _ _ _ ⟨es, pb, rfl⟩ (.new hp) (.newT hp (hd.app he))⟩
theorem ei_draw {te : TE} {a b : Addr} {E : XK} {i m : Nat} (hk : HasDk F a b) (h0 : ρ[i]? = some (some (ownD 0))) (h : ED F K te ρ (eN m)) (hm : 0 < m ∧ m < 1000000) : EI F K (tCall (spK w K preDraw postDraw) [] E (tCons (tVar i) (tCons te tNil))) ρ (fun i => ∃ r : Nat, r < m ∧ i = (r : Int)) := fun σ H J E Q q =>
  eq_drawN hk h0 h hm σ H J E Q fun d v H' ⟨r, hr, e⟩ x dq => by subst e; rw [dq.int_inv]; exact q r H' ⟨r, hr, rfl⟩ x
end
def preTwin (t : Tab) (ds : List D) : Prop := ds = [ownD 0, eTab t] ∧ TabOk t
def orderOf (n : Nat) : List Nat := 0 :: (List.range (n - 1)).map fun i => n - (1 + i)
def turned (t : Tab) : Tab := (orderOf t.length).map fun s => (t.getD s []).map fun e => (e.1, (orderOf t.length).idxOf e.2)
theorem order_len {n : Nat} (h : 0 < n) : (orderOf n).length = n := by simp [orderOf]; omega
theorem order_mem {n k : Nat} (h : k < n) : k ∈ orderOf n := by
  unfold orderOf
  rcases Nat.eq_zero_or_pos k with rfl | hk
  · exact List.mem_cons_self
  · refine List.mem_cons_of_mem _ (List.mem_map.mpr ⟨n - 1 - k, List.mem_range.mpr (by omega), by omega⟩)
theorem order_lt {n k : Nat} (hn : 0 < n) (h : k ∈ orderOf n) : k < n := by
  rcases List.mem_cons.mp h with rfl | h
  · exact hn
  · obtain ⟨i, hi, rfl⟩ := List.mem_map.mp h
    have := List.mem_range.mp hi
    omega
theorem idx_spec {x : Nat} : ∀ {l : List Nat}, x ∈ l → l[l.idxOf x]? = some x ∧ ∀ m, m < l.idxOf x → l[m]? ≠ some x
  | [], h => nomatch h
  | y :: l, h => by
    rw [List.idxOf_cons]
    by_cases e : y = x
    · subst e
      simp
    · have hx : x ∈ l := (List.mem_cons.mp h).elim (fun z => absurd z.symm e) id
      obtain ⟨h1, h2⟩ := idx_spec hx
      have eb : (y == x) = false := by simp [e]
      rw [eb]
      refine ⟨by simpa using h1, fun m hm => ?_⟩
      cases m with
      | zero => simp [e]
      | succ m => simp only [cond_false] at hm; simpa using h2 m (by omega)
theorem turned_ok {t : Tab} (ok : TabOk t) : TabOk (turned t) := by
  have hl : (turned t).length = t.length := by rw [turned, List.length_map, order_len ok.pos]
  have hg : ∀ s ∈ orderOf t.length, t.getD s [] ∈ t := fun s hs => by
    have := order_lt ok.pos hs
    rw [List.getD_eq_getElem?_getD, List.getElem?_eq_getElem this]
    exact List.getElem_mem this
  refine ⟨by rw [hl]; exact ok.pos, by rw [hl]; exact ok.most, fun q hq => ?_, fun q hq e he => ?_⟩
  · obtain ⟨s, hs, rfl⟩ := List.mem_map.mp hq
    rw [List.length_map]
    exact ok.line _ (hg s hs)
  · obtain ⟨s, hs, rfl⟩ := List.mem_map.mp hq
    obtain ⟨e', he', rfl⟩ := List.mem_map.mp he
    rw [hl]
    have := List.idxOf_lt_length_of_mem (order_mem (ok.to _ (hg s hs) e' he'))
    rw [order_len ok.pos] at this
    exact this
theorem sc_l_twin : FnScope ["_law_deck_here", "_law_table_here", "_law_many", "_law_way", "_law_lines", "_law_order", "_law_state", "_law_k", "_law_who", "_law_later"] ["_law_deck_here", "_law_table_here"] (defScope s_l_twin) := ⟨rfl, rfl, rfl, by decide +kernel, rfl, by decide +kernel, by decide +kernel⟩
theorem c_l_twin {P : Program} {w : World} {K : PySem.W.Frag} {mg : Str → Option Value} {base : Heap} (T : TT K mg) : C8.Cal P w K mg base 2 "_law_twin" (spK w K preTwin (fun t d => IsTab (max t.length 2) d)) [] := by
  have c_l_draw := c_l_draw (P := P) (w := w) (base := base) T
  obtain ⟨f, fd, FD, hm⟩ := T.d_l_twin
  refine cal_mk (ok_postK FD sc_l_twin (fun z ds h => by rw [h.1]; rfl) fun cdv A outer s H E hr F a b hk t ds h => ?_) hm FD.kp (FD.bindsN fun _ _ _ _ _ _ us hl => match us, hl with | [_, _], _ => rfl)
  obtain ⟨rfl, ok⟩ := h
  refine ⟨_, (pss_cons (ps_asg (pe_tup (pa_cons (pe_callB (lenK (K := K) rfl) (by rfl) T.n_len (by decide +kernel) (pa_cons (pv 1) pa_nil)) (pa_cons (C8.pe_c c_l_draw hr (by decide) (by rfl) (pa_cons (pv 0) (pa_cons pe_int pa_nil))) pa_nil))) (pg_tupK (K := K) rfl rfl (pgs_cons (pg_name (i := 2) sc_l_twin.nd rfl (Or.inr rfl)) (pgs_cons (pg_name (i := 3) sc_l_twin.nd rfl (Or.inl rfl)) pgs_nil))))
    (pss_cons (ps_if (PW.pt (pw_and (pt_cmpR op_eq (pv 3) pe_int (nomark _)) (pw_and1 (pt_cmpR op_lt (pv 2) pe_int (nomark _))))) (pss_cons (ps_setLc (i := 4) (own := [("_law_state", 6)]) (g := gName 6) rfl sc_l_twin.nd rfl rfl (sw_true rfl rfl rfl (by decide +kernel)) (pi_tupK (K := K) rfl (pe_op op_catT (pv 1) (pv 1))) (blkOk_by (by kernel_rfl)) (fun _ _ _ _ _ => (pg_name (i := 6) sc_l_twin.nd rfl (Or.inl rfl))) (fun _ _ _ _ _ => pts_nil) (fun _ _ _ _ _ => (pe_lc (own := [("_law_who", 8), ("_law_later", 9)]) (g := gTup K 2 (gCons (gName 8) (gCons (gName 9) gNil))) rfl sc_l_twin.nd (pi_tupK (K := K) rfl (pv 6)) (blkOk_by (by kernel_rfl)) (fun _ _ _ _ _ => (pg_tupK (K := K) rfl rfl (pgs_cons (pg_name (i := 8) sc_l_twin.nd rfl (Or.inl rfl)) (pgs_cons (pg_name (i := 9) sc_l_twin.nd rfl (Or.inl rfl)) pgs_nil)))) (fun _ _ _ _ _ => pts_nil) (fun _ _ _ _ _ => (pe_tup (pa_cons (pv 8) (pa_cons (pe_op op_add (pv 9) (pe_op op_mul (pv 2) (C8.pe_c c_l_draw hr (by decide) (by rfl) (pa_cons (pv 0) (pa_cons pe_int pa_nil))))) pa_nil)))))))
    (pss_one (ps_ret (pe_callTy (tupK (K := K) rfl) (by rfl) T.n_tuple (by decide +kernel) (pa_cons (pe_lc (own := [("_law_state", 6)]) (g := gName 6) rfl sc_l_twin.nd (pi_listK (K := K) rfl (pv 4)) (blkOk_by (by kernel_rfl)) (fun _ _ _ _ _ => (pg_name (i := 6) sc_l_twin.nd rfl (Or.inl rfl))) (fun _ _ _ _ _ => pts_nil) (fun _ _ _ _ _ => (pe_callTy (tupK (K := K) rfl) (by rfl) T.n_tuple (by decide +kernel) (pa_cons (pv 6) pa_nil)))) pa_nil))))) pss_nil)
    (pss_cons (ps_if (PW.pt (pw_and (pt_cmpR op_eq (pv 3) pe_int (nomark _)) (pw_and1 (pt_cmpR op_lt (pv 2) pe_int (nomark _))))) (pss_one (ps_ret (pe_op op_catT (pv 1) (pe_tup (pa_cons (pe_callTy (tupK (K := K) rfl) (by rfl) T.n_tuple (by decide +kernel) (pa_cons (pe_lc (own := [("_law_k", 7)]) (g := gName 7) rfl sc_l_twin.nd (pi_range1 (by rfl) T.n_range (pa_cons pe_int pa_nil)) (blkOk_by (by kernel_rfl)) (fun _ _ _ _ _ => (pg_name (i := 7) sc_l_twin.nd rfl (Or.inl rfl))) (fun _ _ _ _ _ => pts_nil) (fun _ _ _ _ _ => (pe_tup (pa_cons pe_str (pa_cons (C8.pe_c c_l_draw hr (by decide) (by rfl) (pa_cons (pv 0) (pa_cons (pe_op op_add (pv 2) pe_int) pa_nil))) pa_nil))))) pa_nil)) pa_nil))))) pss_nil)
    (pss_cons (ps_set (i := 5) sc_l_twin.nd rfl (Or.inr rfl) (pe_op op_cat (pe_lst (pa_cons pe_int pa_nil)) (pe_lc (own := [("_law_k", 7)]) (g := gName 7) rfl sc_l_twin.nd (pi_range2 (by rfl) T.n_range (pa_cons pe_int (pa_cons (pv 2) pa_nil))) (blkOk_by (by kernel_rfl)) (fun _ _ _ _ _ => (pg_name (i := 7) sc_l_twin.nd rfl (Or.inl rfl))) (fun _ _ _ _ _ => pts_nil) (fun _ _ _ _ _ => (pe_op op_sub (pv 2) (pv 7))))))
    (pss_one (ps_ret (pe_callTy (tupK (K := K) rfl) (by rfl) T.n_tuple (by decide +kernel) (pa_cons (pe_lc (own := [("_law_state", 6)]) (g := gName 6) rfl sc_l_twin.nd (pi_listK (K := K) rfl (pv 5)) (blkOk_by (by kernel_rfl)) (fun _ _ _ _ _ => (pg_name (i := 6) sc_l_twin.nd rfl (Or.inl rfl))) (fun _ _ _ _ _ => pts_nil) (fun _ _ _ _ _ => (pe_callTy (tupK (K := K) rfl) (by rfl) T.n_tuple (by decide +kernel) (pa_cons (pe_lc (own := [("_law_who", 8), ("_law_later", 9)]) (g := gTup K 2 (gCons (gName 8) (gCons (gName 9) gNil))) rfl sc_l_twin.nd (pi_tupK (K := K) rfl (pe_ix (ixK (K := K) rfl) (pv 1) (pv 6) (fun _ _ => rfl))) (blkOk_by (by kernel_rfl)) (fun _ _ _ _ _ => (pg_tupK (K := K) rfl rfl (pgs_cons (pg_name (i := 8) sc_l_twin.nd rfl (Or.inl rfl)) (pgs_cons (pg_name (i := 9) sc_l_twin.nd rfl (Or.inl rfl)) pgs_nil)))) (fun _ _ _ _ _ => pts_nil) (fun _ _ _ _ _ => (pe_tup (pa_cons (pv 8) (pa_cons (pe_bmK (K := K) (r := rIndex) rfl PySem.F.plainAttrs_list PySem.F.slot_list_index PySem.F.type_list_index mt_index (pv 5) (pa_cons (pv 9) pa_nil)) pa_nil))))) pa_nil)))) pa_nil)))))))), ?_⟩
  have hlen : (t.map eSt).length = t.length := List.length_map ..
  have hmost := ok.most
  have hpos := ok.pos
  have tne : t.map eSt ≠ [] := fun e => by rw [List.map_eq_nil_iff] at e; subst e; exact absurd hpos (by decide)
  refine sdq_bindX (eq_pair (eq_ed (d := eN t.length) (ed_is (ed_lenT (ea_cons (ed_var rfl) ea_nil)) (by rw [List.length_map]))) (eq_drawN (m := 3) hk rfl ed_int (by decide))) ?_
  rintro _ ⟨_, _, rfl, ⟨way, _, rfl⟩, rfl⟩
  refine ⟨_, _, gd_tup2, ?_⟩
  refine sdq_when (et_and (et_test (ed_eqI (ed_var rfl) ed_int)) fun _ => et_test (ed_b0 (ed_var rfl) ed_int)) (fun h => ?_) fun _ => ?_
  · have one : t.length = 1 := by
      simp only [Bool.and_eq_true, decide_eq_true_eq] at h
      omega
    refine sdq_bind (eq_rows (er_lc (P := WfL 2) (t ++ t) eSt (fun l => (wipeR _ [6]).set 6 (some (eSt l))) [6] (id_tup (ed_is (ed_catT (ed_var rfl) (ed_var rfl) tne tne (by omega)) (by rw [List.map_append]))) (by rw [List.length_append]; omega) (by decide) (fun _ _ => gd_name) fun l hl => ?_)) ?_
    · have hl : l ∈ t := (List.mem_append.mp hl).elim id id
      refine el_lc (PE := fun e => e.2 < 2) l eEnt (fun e => ((wipeR _ [8, 9]).set 8 (some (.str (eWho e.1)))).set 9 (some (eN e.2))) [8, 9] (id_tup (ed_var rfl)) (by rw [ok.line l hl]; decide) (by decide) (fun _ _ => gd_tup2) (fun e he => ?_) fun l' h1 h2 => ⟨by rw [h1, ok.line l hl], h2⟩
      have h0 : e.2 = 0 := by have := ok.to l hl e he; omega
      refine eq_imp (eq_pair (eq_ed (d := .str (eWho e.1)) (ed_var rfl)) (eq_ei (C := fun i => ∃ r : Nat, r < 2 ∧ i = (r : Int)) (ei_op0 (C1 := fun i => i = 0) (C2 := fun i => ∃ r : Nat, r < 2 ∧ i = (r : Int)) (ei_of (ed_var rfl) (by rw [h0]; rfl)) (ei_op (C1 := fun i => i = 1) (C2 := fun i => ∃ r : Nat, r < 2 ∧ i = (r : Int)) (ei_of (ed_var rfl) (by rw [one]; rfl)) (ei_draw (m := 2) hk rfl ed_int (by decide)) ?_) ?_))) ?_
      · rintro i j rfl ⟨r, hr, rfl⟩
        exact ⟨.inl ⟨by decide, by decide⟩, r, hr, by omega⟩
      · rintro i j rfl ⟨r, hr, rfl⟩
        exact ⟨r, hr, by omega⟩
      · rintro d ⟨_, _, rfl, ⟨_, ⟨r, hr, rfl⟩, rfl⟩, rfl⟩
        exact ⟨(e.1, r), hr, rfl⟩
    rintro _ ⟨ls, h1, h2, rfl⟩
    have l2 : ls.length = 2 := by rw [h1, List.length_append, one]
    refine sdq_of (sd_ret (ed_tupL (ea_cons (ed_lcA ls eLn eSt _ [6] (id_list (ed_var rfl)) (by omega) (by decide) (fun l _ => gd_name) (fun l _ => ed_tupL (ea_cons (ed_var rfl) ea_nil)) fun l _ => to_st l) ea_nil))) ⟨ls, ⟨by omega, by omega, fun s hs => (h2 s hs).1, fun s hs e he => by rw [l2]; exact (h2 s hs).2 e he⟩, by omega, rfl⟩
  refine sdq_when (et_and (et_test (ed_eqI (ed_var rfl) ed_int)) fun _ => et_test (ed_b0 (ed_var rfl) ed_int)) (fun h => ?_) fun _ => ?_
  · have one : t.length = 1 := by
      simp only [Bool.and_eq_true, decide_eq_true_eq] at h
      omega
    refine sdq_ret (eq_imp (eq_catT (ds := t.map eSt) (PB := fun es => ∃ l, WfL 2 l ∧ es = [eSt l]) (ed_var rfl) (eq_imp (eq_tup (eaq_cons (eq_tupL (P := fun d => ∃ l, WfL 2 l ∧ d = eSt l) (eq_imp (eq_lc (P := fun d => ∃ e : Ent, e.2 < 2 ∧ d = eEnt e) (List.range 27) eN (fun k => (wipeR _ [7]).set 7 (some (eN k))) [7] (fun d ⟨e, _, h⟩ => by rw [h]; rfl) (id_rng1 (n := 27) (ea_cons ed_int ea_nil) (by decide)) (by decide) (by decide) (fun _ _ => gd_name) (fun k _ => ?_)) ?_)) eaq_nil) ?_) ?_) tne ?_) ?_)
    · refine eq_imp (eq_pair (eq_ed (d := .str "new") ed_str) (eq_drawN (m := 2) hk rfl (ed_is (ed_i0 (ed_var rfl) ed_int) (by rw [one]; rfl)) (by decide))) ?_
      rintro d ⟨_, _, rfl, ⟨r, hr, rfl⟩, rfl⟩
      exact ⟨(true, r), hr, rfl⟩
    · rintro d ⟨ds, h1, h2, rfl⟩
      obtain ⟨l, rfl, hl⟩ := ents_of h2
      exact ⟨l.map eEnt, ⟨l, ⟨by rw [List.length_map] at h1; exact h1, hl⟩, rfl⟩, rfl⟩
    · rintro ds ⟨_, _, ⟨l, _, rfl⟩, rfl, rfl⟩
      show 1 ≤ 100000; decide
    · rintro d ⟨_, ⟨_, _, ⟨l, hl, rfl⟩, rfl, rfl⟩, rfl⟩
      exact ⟨[eSt l], ⟨l, hl, rfl⟩, rfl⟩
    · rintro es ⟨l, _, rfl⟩
      exact ⟨(fun h => nomatch h), by rw [hlen]; show t.length + 1 ≤ 100000; omega⟩
    · rintro d ⟨_, ⟨l, hl, rfl⟩, rfl⟩
      have l2 : (t ++ [l]).length = 2 := by rw [List.length_append, one]; rfl
      refine ⟨t ++ [l], ⟨by omega, by omega, fun s hs => ?_, fun s hs e he => ?_⟩, by omega, by rw [eTab, List.map_append]; rfl⟩
      · rcases List.mem_append.mp hs with h | h
        · exact ok.line s h
        · rw [List.mem_singleton.mp h]; exact hl.1
      · rw [l2]
        rcases List.mem_append.mp hs with h | h
        · have := ok.to s h e he; omega
        · rw [List.mem_singleton.mp h] at he; exact hl.2 e he
  · refine sdq_seq (sn_asg (d := .list ((orderOf t.length).map eN)) (ed_is (ed_cat (ed_lst (ea_cons ed_int ea_nil)) (ed_lcA (List.range (t.length - 1)) (fun i => .int ((1 + i : Nat))) (fun i => .int ((t.length - (1 + i) : Nat))) (fun i => (wipeR _ [7]).set 7 (some (.int ((1 + i : Nat))))) [7] (id_rng2 (lo := 1) (hi := t.length) (ea_cons ed_int (ea_cons (ed_var rfl) ea_nil)) (by omega)) (by rw [List.length_range]; omega) (by decide) (fun _ _ => gd_name) (fun i hi => ?_) fun _ _ => rfl) ?_) ?_)) ?_
    · have := List.mem_range.mp hi
      exact ed_is (ed_i0 (ed_var rfl) (ed_var rfl)) (by congr 1; omega)
    · rw [List.length_map, List.length_range]; show 1 + _ ≤ 100000; omega
    · simp only [orderOf, List.map_cons, List.map_map, Function.comp_def]; rfl
    refine sdq_of (sd_ret (ed_is (ed_tupL (ea_cons (ed_lcA (orderOf t.length) eN (fun s => eSt ((t.getD s []).map fun e => (e.1, (orderOf t.length).idxOf e.2))) (fun s => (wipeR _ [6]).set 6 (some (eN s))) [6] (id_list (ed_var rfl)) (by rw [order_len hpos]; omega) (by decide) (fun _ _ => gd_name) (fun s hs => ?_) fun _ _ => to_st _) ea_nil)) (d' := eTab (turned t)) (by rw [eTab, turned, List.map_map]; rfl))) ⟨turned t, turned_ok ok, by rw [turned, List.length_map, order_len hpos]; omega, rfl⟩
    have hst := order_lt hpos hs
    have hg : t[s]? = some (t.getD s []) := by rw [List.getD_eq_getElem?_getD, List.getElem?_eq_getElem hst]; rfl
    have hgm : t.getD s [] ∈ t := List.mem_of_getElem? hg
    refine ed_is (ed_tupL (ea_cons (ed_lcA (t.getD s []) eEnt (fun e => eEnt (e.1, (orderOf t.length).idxOf e.2)) (fun e => ((wipeR _ [8, 9]).set 8 (some (.str (eWho e.1)))).set 9 (some (eN e.2))) [8, 9] (id_tup (ed_ixT (d := eSt (t.getD s [])) (ed_var rfl) (ed_var rfl) (atI_nat (by rw [List.getElem?_map, hg]; rfl)))) (by rw [ok.line _ hgm]; decide) (by decide) (fun _ _ => gd_tup2) (fun e he => ?_) fun _ _ => rfl) ea_nil)) (by rw [eSt, List.map_map]; rfl)
    obtain ⟨i1, i2⟩ := idx_spec (order_mem (ok.to _ hgm e he))
    refine ed_tup (ea_cons (ed_var rfl) (ea_cons (ed_index (ns := (orderOf t.length).map fun k : Nat => (k : Int)) (ed_is (ed_var rfl) (by rw [List.map_map]; rfl)) (ed_var rfl) (by rw [List.getElem?_map, i1]; rfl) (fun m hm h => ?_)) ea_nil))
    rw [List.getElem?_map] at h
    cases c : (orderOf t.length)[m]? with
    | none => rw [c] at h; cases h
    | some k => rw [c] at h; exact i2 m hm (by rw [c, show k = e.2 from Int.ofNat.inj (Option.some.inj h)])
/-- a pair of tables -/
def IsPair (z : Nat) (d : D) : Prop := ∃ t u : Tab, TabOk t ∧ TabOk u ∧ t.length ≤ max z 2 ∧ u.length ≤ max z 2 ∧ d = .tuple [eTab t, eTab u]
theorem told_one : ((["first", "last", "begins", "least", "ranked", "cover", "inner"] : List Str).all fun s => decide (s ∈ namesL) && decide ((told s).length ≤ 1)) = true := by decide +kernel
theorem told1 {s : Str} (h : s ∈ (["first", "last", "begins", "least", "ranked", "cover", "inner"] : List Str)) : s ∈ namesL ∧ (told s).length ≤ 1 := by
  have := List.all_eq_true.mp told_one s h
  simp only [Bool.and_eq_true, decide_eq_true_eq] at this
  exact this
theorem sc_l_pair : FnScope ["_law_deck_here", "_law_most", "_law_one", "_law_way"] ["_law_deck_here", "_law_most"] (defScope s_l_pair) := ⟨rfl, rfl, rfl, by decide +kernel, rfl, by decide +kernel, by decide +kernel⟩
theorem c_l_pair {P : Program} {w : World} {K : PySem.W.Frag} {mg : Str → Option Value} {base : Heap} (T : TT K mg) : C8.Cal P w K mg base 5 "_law_pair" (spK1 w K preTable IsPair) [] := by
  have c_l_draw := c_l_draw (P := P) (w := w) (base := base) T
  have c_l_pick := c_l_pick (P := P) (w := w) (base := base) T
  have c_l_table := c_l_table (P := P) (w := w) (base := base) T
  have c_l_twin := c_l_twin (P := P) (w := w) (base := base) T
  have c_told_table := c_told_table (P := P) (w := w) (base := base) T
  obtain ⟨f, fd, FD, hm⟩ := T.d_l_pair
  refine cal_mk (ok_postK1 FD sc_l_pair (fun z ds h => by rw [h.1]; rfl) fun cdv A outer s H E hr F a b hk hf z ds h => ?_) hm FD.kp (FD.bindsN fun _ _ _ _ _ _ us hl => match us, hl with | [_, _], _ => rfl)
  obtain ⟨rfl, h0, h1⟩ := h
  refine ⟨_, (pss_cons (ps_par (i := 2) (j := 3) rfl sc_l_pair.nd rfl rfl (by decide) rfl rfl (pa_cons (C8.pe_c c_l_table hr (by decide) (by rfl) (pa_cons (pv 0) (pa_cons (pv 1) pa_nil))) (pa_cons (C8.pe_c c_l_draw hr (by decide) (by rfl) (pa_cons (pv 0) (pa_cons pe_int pa_nil))) pa_nil)) (by rfl))
    (pss_cons (ps_if (pt_cmpR op_eq (pv 3) pe_int (nomark _)) (pss_one (ps_ret (pe_tup (pa_cons (C8.pe_c c_told_table hr (by decide) (by rfl) (pa_cons pe_str pa_nil)) (pa_cons (pv 2) pa_nil))))) pss_nil)
    (pss_cons (ps_if (pt_cmpR op_eq (pv 3) pe_int (nomark _)) (pss_one (ps_ret (pe_tup (pa_cons (pv 2) (pa_cons (C8.pe_c c_l_twin hr (by decide) (by rfl) (pa_cons (pv 0) (pa_cons (pv 2) pa_nil))) pa_nil))))) pss_nil)
    (pss_cons (ps_if (pt_cmpR op_eq (pv 3) pe_int (nomark _)) (pss_one (ps_ret (pe_tup (pa_cons (pv 2) (pa_cons (C8.pe_c c_told_table hr (by decide) (by rfl) (pa_cons (C8.pe_c c_l_pick hr (by decide) (by rfl) (pa_cons (pv 0) (pa_cons (pe_lst (pa_cons pe_str (pa_cons pe_str (pa_cons pe_str (pa_cons pe_str (pa_cons pe_str pa_nil)))))) pa_nil))) pa_nil)) pa_nil))))) pss_nil)
    (pss_cons (ps_if (pt_cmpR op_eq (pv 3) pe_int (nomark _)) (pss_one (ps_ret (pe_tup (pa_cons (C8.pe_c c_told_table hr (by decide) (by rfl) (pa_cons (C8.pe_c c_l_pick hr (by decide) (by rfl) (pa_cons (pv 0) (pa_cons (pe_lst (pa_cons pe_str (pa_cons pe_str (pa_cons pe_str (pa_cons pe_str (pa_cons pe_str pa_nil)))))) pa_nil))) pa_nil)) (pa_cons (pv 2) pa_nil))))) pss_nil)
    (pss_one (ps_ret (pe_tup (pa_cons (pv 2) (pa_cons (C8.pe_c c_l_table hr (by decide) (by rfl) (pa_cons (pv 0) (pa_cons (pv 1) pa_nil))) pa_nil)))))))))), ?_⟩
  have tf : TabOk (told "first") ∧ (told "first").length ≤ 1 := ⟨told_ok (told1 (by decide)).1, (told1 (by decide)).2⟩
  refine sdq_par (eq_callK1 hk hf (ea_cons (ed_var rfl) (ea_cons (ed_var rfl) ea_nil)) z ⟨rfl, h0, h1⟩) (eq_drawN (m := 6) hk rfl ed_int (by decide)) ?_
  rintro _ _ ⟨t, tok, tlen, rfl⟩ ⟨way, _, rfl⟩
  refine sdq_when (et_test (ed_eqI (ed_var rfl) ed_int)) (fun _ => sdq_of (sd_ret (ed_tup (ea_cons (ed_call (ea_cons ed_str ea_nil) ⟨"first", rfl, (told1 (by decide)).1, rfl⟩) (ea_cons (ed_var rfl) ea_nil)))) ⟨told "first", t, tf.1, tok, by omega, by omega, rfl⟩) fun _ => ?_
  refine sdq_when (et_test (ed_eqI (ed_var rfl) ed_int)) (fun _ => sdq_ret (eq_imp (eq_pair (eq_ed (ed_var rfl)) (eq_callK hk (ea_cons (ed_var rfl) (ea_cons (ed_var rfl) ea_nil)) t ⟨rfl, tok⟩)) ?_)) fun _ => ?_
  · rintro d ⟨_, _, rfl, ⟨u, uok, ulen, rfl⟩, rfl⟩
    exact ⟨t, u, tok, uok, by omega, by omega, rfl⟩
  refine sdq_when (et_test (ed_eqI (ed_var rfl) ed_int)) (fun _ => sdq_ret (eq_imp (eq_pair (eq_ed (ed_var rfl)) (eq_callR (P := IsTab 1) (eaq_cons (eq_pickN (ss := ["first", "last", "begins", "least", "ranked"]) hk rfl (ed_lst (ea_cons ed_str (ea_cons ed_str (ea_cons ed_str (ea_cons ed_str (ea_cons ed_str ea_nil)))))) (by decide)) eaq_nil) ?_)) ?_)) fun _ => ?_
  · rintro _ ⟨_, _, ⟨s, hs, rfl⟩, rfl, rfl⟩
    obtain ⟨k1, k2⟩ := told1 (s := s) (List.mem_of_mem_take (i := 5) hs)
    exact ⟨_, ⟨s, rfl, k1, rfl⟩, told s, told_ok k1, k2, rfl⟩
  · rintro d ⟨_, _, rfl, ⟨u, uok, ulen, rfl⟩, rfl⟩
    exact ⟨t, u, tok, uok, by omega, by omega, rfl⟩
  refine sdq_when (et_test (ed_eqI (ed_var rfl) ed_int)) (fun _ => sdq_ret (eq_imp (eq_pair (eq_callR (P := IsTab 1) (eaq_cons (eq_pickN (ss := ["begins", "cover", "inner", "least", "ranked"]) hk rfl (ed_lst (ea_cons ed_str (ea_cons ed_str (ea_cons ed_str (ea_cons ed_str (ea_cons ed_str ea_nil)))))) (by decide)) eaq_nil) ?_) (eq_ed (ed_var rfl))) ?_)) fun _ => ?_
  · rintro _ ⟨_, _, ⟨s, hs, rfl⟩, rfl, rfl⟩
    obtain ⟨k1, k2⟩ := told1 (s := s) (by
      simp only [List.mem_cons, List.not_mem_nil, or_false] at hs ⊢
      rcases hs with h | h | h | h | h <;> simp [h])
    exact ⟨_, ⟨s, rfl, k1, rfl⟩, told s, told_ok k1, k2, rfl⟩
  · rintro d ⟨_, _, ⟨u, uok, ulen, rfl⟩, rfl, rfl⟩
    exact ⟨u, t, uok, tok, by omega, by omega, rfl⟩
  refine sdq_ret (eq_imp (eq_pair (eq_ed (ed_var rfl)) (eq_callK1 hk hf (ea_cons (ed_var rfl) (ea_cons (ed_var rfl) ea_nil)) z ⟨rfl, h0, h1⟩)) ?_)
  rintro d ⟨_, _, rfl, ⟨u, uok, ulen, rfl⟩, rfl⟩
  exact ⟨t, u, tok, uok, by omega, by omega, rfl⟩
end FW
end PartFun15
section PartMat2
set_option Elab.async false
set_option linter.all false
set_option maxRecDepth 100000
set_option maxHeartbeats 2000000
/-! How a paper is played out. -/
namespace FW
open PySem PySem.Spec PyProof.Rows L2
theorem perm_map {α β : Type} {f : α → β} : ∀ {rows : List β} {L : List α}, rows.Perm (L.map f) → ∃ L' : List α, L'.Perm L ∧ rows = L'.map f := by
  intro rows L h
  generalize e : L.map f = bs at h
  induction h generalizing L with
  | nil => 
    rw [List.map_eq_nil_iff] at e; subst e
    exact ⟨[], .refl _, rfl⟩
  | cons x p ih =>
    cases L with
    | nil => cases e
    | cons a L =>
      rw [List.map_cons] at e
      injection e with e1 e2
      obtain ⟨L', h1, h2⟩ := ih e2
      exact ⟨a :: L', h1.cons a, by rw [List.map_cons, e1, h2]⟩
  | swap x y l =>
    cases L with
    | nil => cases e
    | cons a L =>
      cases L with
      | nil => cases e
      | cons b L =>
        rw [List.map_cons, List.map_cons] at e
        injection e with e1 e2
        injection e2 with e2 e3
        exact ⟨b :: a :: L, .swap a b L, by rw [List.map_cons, List.map_cons, e1, e2, e3]⟩
  | trans p q ih1 ih2 =>
    obtain ⟨L1, h1, h2⟩ := ih2 e
    obtain ⟨L2, h3, h4⟩ := ih1 h2.symm
    exact ⟨L2, h3.trans h1, h4⟩
theorem get_perm {α : Type} {L L' : List (Ty × α)} (h : L'.Perm L) (nd : (L.map (·.1)).Nodup) (t : Ty) : get L' t = get L t := by
  have nd' : (L'.map (·.1)).Nodup := (h.map (·.1)).nodup_iff.mpr nd
  cases c : get L t with
  | some a => exact get_of_mem nd' (h.mem_iff.mpr (get_mem c))
  | none =>
    cases c' : get L' t with
    | none => rfl
    | some a => rw [get_of_mem nd (h.mem_iff.mp (get_mem c'))] at c; cases c
theorem Gap.le {g g' : Int} (h : g' ≤ g) {xs : List Int} (G : Gap g xs) : Gap g' xs := fun x hx y hy hxy => by have := G x hx y hy hxy; omega
theorem Play.le {n : Nat} {g g' : Int} {rs : List Run} {ty : Ty} (h : g' ≤ g) (P : Play n g rs ty) : Play n g' rs ty := ⟨P.len, P.pos, P.head, P.same, P.gb.le h, P.ge.le h⟩
theorem two_half (k : Nat) : ((2 : Int) ^ (k + 1)) / 2 = 2 ^ k := by rw [Int.pow_succ]; omega
theorem two_le (k : Nat) : (2 : Int) ≤ 2 ^ (k + 1) := by
  have : (0 : Int) < 2 ^ k := Int.pow_pos (by decide)
  rw [Int.pow_succ]; omega
theorem two_mono {i j : Nat} (h : i ≤ j) : (2 : Int) ^ i ≤ 2 ^ j := by
  have : (2 : Nat) ^ i ≤ 2 ^ j := Nat.pow_le_pow_right (by decide) h
  exact_mod_cast this
theorem two_far {k : Nat} (h : k ≤ 120) : (2 : Int) ^ k ≤ far := by
  have := two_mono h
  have e : far = 2 ^ 120 := by decide
  rw [e]; exact this
theorem laters_get {tabs : List Tab} {ty : Ty} {j : Nat} {p : Option Ty × Option Ty} (h : (laters tabs ty)[j]? = some p) : ∃ l, (lettersOf ty)[j]? = some l ∧ l ∈ lettersOf ty ∧ p = (afterP tabs ty l, afterL tabs ty l) := by
  unfold laters at h
  rw [List.getElem?_map] at h
  cases c : (lettersOf ty)[j]? with
  | none => rw [c] at h; cases h
  | some l => rw [c] at h; cases h; exact ⟨l, rfl, List.mem_of_getElem? c, rfl⟩
/-- the runs lie as a sort of rank r that is lost by letter j -/
structure BI (tabs : List Tab) (L : Lost) (rs : List Run) (ty : Ty) (r j : Nat) : Prop where
  play : Play tabs.length (2 ^ (r + 1)) rs ty
  get : get L ty = some (r, j)
theorem bi_step {tabs : List Tab} {ks : List Ty} {L : Lost} {rs : List Run} {ty : Ty} {r j : Nat} (lk : LK tabs ks L) (hL : L.length ≤ 100) (B : BI tabs L rs ty r j) : ∃ l, (lettersOf ty)[j]? = some l ∧ l ∈ lettersOf ty ∧ ∀ pass,
    unlike (moved tabs rs (pieceBy rs l) pass) = true ∨ unlike (moved tabs rs (pieceBy rs l) pass) = false ∧ ∃ ty' r' j', r' < r ∧ BI tabs L (moved tabs rs (pieceBy rs l) pass) ty' r' j' := by
  obtain ⟨hr, p, hp, ho⟩ := lk.step ty r j B.get
  obtain ⟨l, h1, h2, rfl⟩ := laters_get hp
  refine ⟨l, h1, h2, fun pass => ?_⟩
  rcases play_step B.play (two_le r) (two_far (by omega)) h2 pass with ⟨_, h⟩ | ⟨ty', h3, h4, h5⟩
  · exact .inl h
  · refine .inr ⟨h4, ?_⟩
    rcases ho (if pass then afterP tabs ty l else afterL tabs ty l) (by cases pass <;> simp) with h | ⟨t', r', j', e, g, lt⟩
    · rw [h3] at h; cases h
    · rw [h3] at e
      cases e
      refine ⟨ty', r', j', lt, ⟨h5.le ?_, g⟩⟩
      rw [two_half]
      exact two_mono (by omega)
/-- .. and for a paper that serves, with k steps to go -/
structure KI (tabs : List Tab) (ps : List Ty) (rs : List Run) (ty : Ty) (k : Nat) : Prop where
  play : Play tabs.length (2 ^ (k + 1)) rs ty
  inP : ty ∈ ps
theorem ki_step {tabs : List Tab} {ks : List Ty} {L : Lost} {t0 : Ty} {ps : List Ty} {rs : List Run} {ty : Ty} {k : Nat} (lk : LK tabs ks L) (pk : PK tabs ks L t0 ps) (hk : k ≤ 40) (B : KI tabs ps rs ty (k + 1)) {l : Let} {j : Nat} (hj : (lettersOf ty)[j]? = some l) :
    ∃ c, (chs tabs L ty)[j]? = some c ∧ (c = "pass" ∨ c = "leave") ∧ unlike (moved tabs rs (pieceBy rs l) (decide (c = "pass"))) = false ∧ ∃ ty', KI tabs ps (moved tabs rs (pieceBy rs l) (decide (c = "pass"))) ty' k := by
  have hl : l ∈ lettersOf ty := List.mem_of_getElem? hj
  have hp : (laters tabs ty)[j]? = some (afterP tabs ty l, afterL tabs ty l) := by unfold laters; rw [List.getElem?_map, hj]; rfl
  obtain ⟨hks, hnone⟩ := pk.inK ty B.inP
  have hmem := List.mem_of_getElem? hp
  obtain ⟨t', e1, _, _⟩ := chosen_some (lk.good ty hks hnone _ hmem)
  have e2 := pk.cl ty B.inP _ hmem t' e1
  refine ⟨ch L (afterP tabs ty l, afterL tabs ty l), by unfold chs; rw [List.getElem?_map, hp]; rfl, by unfold ch; split <;> simp, ?_⟩
  have ed : decide (ch L (afterP tabs ty l, afterL tabs ty l) = "pass") = kept L (afterP tabs ty l) := by
    unfold ch
    cases kept L (afterP tabs ty l) <;> rfl
  rw [ed]
  have ec : (if kept L (afterP tabs ty l) = true then afterP tabs ty l else afterL tabs ty l) = some t' := e1
  rcases play_step B.play (two_le _) (two_far (by omega)) hl (kept L (afterP tabs ty l)) with ⟨h, _⟩ | ⟨ty', h3, h4, h5⟩
  · rw [ec] at h; cases h
  · rw [ec] at h3
    cases h3
    refine ⟨h4, t', ⟨?_, e2⟩⟩
    rw [two_half] at h5
    exact h5
end FW
end PartMat2
section PartFun16
set_option Elab.async false
set_option linter.all false
set_option maxRecDepth 100000
set_option maxHeartbeats 2000000
/-! The paper, as it is handed about; loops that end one of many ways. -/
namespace FW
open PySem PySem.Spec PyProof.Rows L2
/-- where the paper lies -/
structure HasPap {w : World} (F : Fm w) (K : PySem.W.Frag) (p : Addr) (kind : Str) (rows : List D) : Prop where
  own : ∀ x, F.own x 2 ↔ x = p
  pap : ∀ H, F.J H → ∃ b xs, SqT K H p [.str kind, .ref b] ∧ PlT H b xs ∧ DqAll (Fm.none w) K H xs rows
  tn : tonlyAll rows = true
section
variable {w : World} {F : Fm w} {K : PySem.W.Frag} {ρ ρ1 ρ2 : Ro} {te ta tb : TE} {tas : TA} {t u : TS} {wi : TI} {g : TG} {H H' : Hp} {p : Addr} {kind : Str} {rows : List D} {R R' : Ro → Prop} {d : D} {P P1 : D → Prop}
theorem pap_var (hp : HasPap F K p kind rows) {σ : L2.St} {i : Nat} (E : Env F K H σ ρ) (e : ρ[i]? = some (some (ownD 2))) : σ[i]? = some (some (.ref p)) := by
  obtain ⟨v, hv, q⟩ := E.at_ i _ e
  rw [hv]
  cases q with
  | dict n h q => cases q with | cons h1 t z h2 r => exact nomatch t
  | own h => rw [(hp.own _).mp h]
theorem ed_pap0 (hp : HasPap F K p kind rows) {i : Nat} (e : ρ[i]? = some (some (ownD 2))) : ED F K (tOp (rIx K) (tVar i) (tC (.int 0))) ρ (.str kind) := fun σ H J E Q q => by
  obtain ⟨b, xs, h1, h2, h3⟩ := hp.pap H J
  exact ⟨_, pap_var hp E e, .inr (.inl ⟨p, _, 0, .str kind, rfl, rfl, h1, rfl, q _ H (.refl H) (.str _)⟩)⟩
theorem ed_pap1 (hp : HasPap F K p kind rows) {i : Nat} (e : ρ[i]? = some (some (ownD 2))) : ED F K (tOp (rIx K) (tVar i) (tC (.int 1))) ρ (.tuple rows) := fun σ H J E Q q => by
  obtain ⟨b, xs, h1, h2, h3⟩ := hp.pap H J
  exact ⟨_, pap_var hp E e, .inr (.inl ⟨p, _, 1, .ref b, rfl, rfl, h1, rfl, q _ H (.refl H) (.tup h2.sq (DqAll.to hp.tn h3))⟩)⟩
theorem nodup_mapI {α β : Type} {f : α → β} {l : List α} (nd : l.Nodup) (h : ∀ a b, f a = f b → a = b) : (l.map f).Nodup := by
  rw [List.nodup_iff_pairwise_ne] at *
  rw [List.pairwise_map]
  exact nd.imp fun hab e => hab (h _ _ e)
/-- a dict of a known tuple of pairs -/
theorem pairs_of : ∀ {xs : List V} {kvs : List (Ty × List Str)}, DqAll (Fm.none w) K H xs (kvs.map fun e => .tuple [eTy e.1, evC e.2]) → ∃ (Ts : List Addr) (ps : Rw), xs = Ts.map .ref ∧ Paired (fun (T : Addr) (p : NestedKey × Addr × V) => SqT K H T [.ref p.2.1, p.2.2]) Ts ps ∧ DqE F K H ps (kvs.map fun e => (eTy e.1, evC e.2))
  | xs, [], h => by
    cases h
    exact ⟨[], [], rfl, .nil, .nil⟩
  | xs, e :: kvs, h => by
    rw [List.map_cons] at h
    cases h with
    | cons h1 h2 =>
      obtain ⟨Ts, ps, rfl, hp, hd⟩ := pairs_of h2
      obtain ⟨T, ys, rfl, hs, hy⟩ := h1.tup_inv
      obtain ⟨v1, v2, rfl, q1, q2⟩ := dq2 hy
      obtain ⟨kb, rfl⟩ := q1.ref_of
      exact ⟨T :: Ts, (nk (eTy e.1), kb, v2) :: ps, rfl, .cons hs hp, .cons (Dq.to (to_ty _) q1) (to_ty _) (dep_ty _) (Dq.to (by rw [evC, tonly]; exact tonlyAll_map' fun _ => rfl) q2) hd⟩
theorem ed_papD {kvs : List (Ty × List Str)} (hp : HasPap F K p kind (kvs.map fun e => .tuple [eTy e.1, evC e.2])) (nd : (kvs.map (·.1)).Nodup) {i : Nat} (e : ρ[i]? = some (some (ownD 2))) :
    ED F K (tCB (rDictT w K) (tCons (tOp (rIx K) (tVar i) (tC (.int 1))) tNil)) ρ (eDict evC kvs) := fun σ H J E Q q => by
  obtain ⟨b, xs, h1, h2, h3⟩ := hp.pap H J
  obtain ⟨Ts, ps, rfl, hP, hd⟩ := pairs_of (F := F) h3
  refine ⟨_, pap_var hp E e, .inr (.inl ⟨p, _, 1, .ref b, rfl, rfl, h1, rfl, ?_⟩)⟩
  refine ⟨b, Ts, ps, rfl, h2, hP, hd.keys, ?_, fun a ha => q _ _ (.new ha) ?_⟩
  · rw [hd.nks, List.map_map]
    have : (kvs.map (fun e => nk (eTy e.1))) = (kvs.map (·.1)).map fun t => nk (eTy t) := by rw [List.map_map]; rfl
    show (kvs.map fun e => nk (eTy e.1)).Nodup
    rw [this]
    exact nodup_mapI nd fun a b h => nk_ty.mp h
  · exact .dict (Xt.fresh J (.refl H) ha).2 upd_same (DqE.mono (.new ha) hd)
/-! ### blocks that end one of many ways -/
def SNX {w : World} (F : Fm w) (K : PySem.W.Frag) (ts : TS) (ρ : Ro) (R : Ro → Prop) : Prop := ∀ (σ : L2.St) (H : Hp) (De : Ends), F.J H → Env F K H σ ρ → (∀ ρ' σ' H', R ρ' → Xt F H H' → Env F K H' σ' ρ' → De.nx σ' H') → ts De σ H
theorem snx_of (h : SN F K t ρ ρ1) (r : R ρ1) : SNX F K t ρ R := fun σ H De J E q => h σ H De J E fun σ' H' e E' => q ρ1 σ' H' r e E'
theorem snx_seq (h1 : SN F K t ρ ρ1) (h2 : SNX F K u ρ1 R) : SNX F K (tSeq t u) ρ R := fun σ H De J E q => h1 σ H { De with nx := u De } J E fun σ' H1 e1 E1 => h2 σ' H1 De (e1.inv J) E1 fun ρ' σ2 H2 r e2 E2 => q ρ' σ2 H2 r (e1.trans e2) E2
theorem snx_bind {i : Nat} (h : EQ F K te ρ P1) (hu : ∀ d, P1 d → SNX F K u (ρ.set i (some d)) R) : SNX F K (tSeq (tAsg te (gName i)) u) ρ R := fun σ H De J E q => h σ H J E _ fun d v H1 p e1 q1 =>
  hu d p _ H1 De (e1.inv J) ((E.mono e1).set i q1) fun ρ' σ2 H2 r e2 E2 => q ρ' σ2 H2 r (e1.trans e2) E2
theorem snx_wk (h : SNX F K t ρ R) (i : ∀ ρ', R ρ' → Wk ρ' ρ1) : SN F K t ρ ρ1 := fun σ H De J E q => h σ H De J E fun ρ' σ' H' r e E' => q σ' H' e ((i ρ' r).env E')
theorem sd_snx (h1 : SNX F K t ρ R) (h2 : ∀ ρ', R ρ' → SD F K u ρ' d) : SD F K (tSeq t u) ρ d := fun σ H De J E q => h1 σ H { De with nx := u De } J E fun ρ' σ' H1 r e1 E1 => h2 ρ' r σ' H1 De (e1.inv J) E1 fun v H2 e2 q2 => q v H2 (e1.trans e2) q2
theorem snx_for {α : Type} (xs : List α) (enc : α → D) (I : Nat → Ro → Prop) (hi : ID F K wi ρ (xs.map enc)) (h0 : I 0 ρ)
    (hs : ∀ i x ρ, xs[i]? = some x → I i ρ → ∃ is ρ1, GD F K g is (enc x) ρ ρ1 ∧ SNX F K t ρ1 (I (i + 1))) : SNX F K (tFor wi g t) ρ (I xs.length) := fun σ H De J E q => hi σ H J E _ fun Jt H1 e1 w1 => by
  have J1 := e1.inv J
  refine ⟨fun i m σ H' => m = xs.length - i ∧ i ≤ xs.length ∧ Xt F H1 H' ∧ F.J H' ∧ ∃ ρ, I i ρ ∧ Env F K H' σ ρ, ⟨_, rfl, Nat.zero_le _, .refl _, J1, ρ, h0, E.mono e1⟩, ?_⟩
  rintro i m σ' H' ⟨rfl, hil, eH, JH, ρi, hI, EH⟩
  obtain ⟨go, stop⟩ := w1 H' eH.m
  by_cases hlt : i < xs.length
  · have hx : xs[i]? = some xs[i] := List.getElem?_eq_getElem hlt
    obtain ⟨is, ρ1, hg, hb⟩ := hs i _ ρi hx hI
    obtain ⟨g1, g2⟩ := go i (enc xs[i]) (by rw [List.getElem?_map, hx]; rfl)
    refine .inr ⟨g1, fun σ' H' => Xt F H1 H' ∧ F.J H' ∧ ∃ ρ, I (i + 1) ρ ∧ Env F K H' σ' ρ, fun σ2 H2 p => ⟨xs.length - (i + 1), by omega, rfl, hlt, p⟩, fun y H2 hy => ?_⟩
    obtain ⟨e2', qy⟩ := g2 y H2 hy
    have e2 : Xt F H' H2 := .of e2'
    refine hg σ' H2 y (e2.inv JH) (EH.mono e2) qy _ fun σ3 E3 _ _ => ?_
    exact hb σ3 H2 _ (e2.inv JH) E3 fun ρ' σ4 H4 r e4 E4 => ⟨(eH.trans e2).trans e4, e4.inv (e2.inv JH), ρ', r, E4⟩
  · have ei : i = xs.length := by omega
    subst ei
    exact .inl ⟨by simpa using stop, q ρi σ' H' hI (e1.trans eH) EH⟩
end
end FW
end PartFun16
section PartFun17
set_option Elab.async false
set_option linter.all false
set_option maxRecDepth 100000
set_option maxHeartbeats 2000000
/-! A paper is played out. -/
namespace FW
open PySem PySem.Spec PyProof.Rows L2
/-- the promise of a def that plays a paper out -/
def spP (w : World) (K : PySem.W.Frag) (kind : Str) (pre : List Tab → List D → Prop) : Sp := fun vs H Q _ => ∃ (F : Fm w) (a b p : Addr) (rows : List D) (tabs : List Tab), HasDk F a b ∧ HasPap F K p kind rows ∧ F.J H ∧ DqAll F K H vs [ownD 0, eTabs tabs, ownD 2] ∧ pre tabs rows ∧ ∀ H', Xt F H H' → Q (.bl true) H'
theorem ed_callP {w : World} {F : Fm w} {K : PySem.W.Frag} {ρ : Ro} {tas : TA} {kind : Str} {pre : List Tab → List D → Prop} {E : XK} {a b p : Addr} {rows : List D} {tabs : List Tab} (hk : HasDk F a b) (hp : HasPap F K p kind rows) (h : EA F K tas ρ [ownD 0, eTabs tabs, ownD 2]) (hR : pre tabs rows) : ED F K (tCall (spP w K kind pre) [] E tas) ρ (.bool true) := fun σ H J En Q q =>
  h σ H J En _ fun vs H1 e1 q1 => by
    show spP w K kind pre (vs ++ []) H1 Q E
    rw [List.append_nil]
    exact ⟨F, a, b, p, rows, tabs, hk, hp, e1.inv J, q1, hR, fun H2 e2 => q _ H2 (e1.trans e2) (.bl _)⟩
theorem ok_postP {P : Program} {w : World} {K : PySem.W.Frag} {mg : Str → Option Value} {base : Heap} {x : Str} {params : Arguments} {body : List Stmt} {scope : Scope} {dvs : List V} {kws : List (Str × V)} {f : Addr} {fd : FuncData} {N ps : List Str} {k : Nat}
    {kind : Str} {pre : List Tab → List D → Prop} (FD : FunD K x x params body scope dvs kws f fd) (S : FnScope N ps scope) (hl : ps.length = 3)
    (h : ∀ (cdv : Value) (A : Around) (outer : List PySem.Env) (s : Shared) (H : Hp) (E : XK), Room k (A.deeper (envOfC x scope s.heap.objs.size f cdv)) → ∀ (F : Fm w) (a b p : Addr) (rows : List D) (tabs : List Tab), HasDk F a b → HasPap F K p kind rows → pre tabs rows →
      ∃ t, PSs (cxOf CX0 P w K mg base N x scope f cdv A outer s H E).nox body t ∧ SD F K t (ro0 N [ownD 0, eTabs tabs, ownD 2]) (.bool true)) : FnOk P w K mg base CX0 (k + 1) f fd ps (spP w K kind pre) := by
  refine FD.ok S (fun vs H Q E hs => ?_) (fun cdv A outer s H vs Q E hr hs => ?_)
  · obtain ⟨_, _, _, _, _, _, _, _, _, q, _⟩ := hs
    rw [q.len, hl]; rfl
  · obtain ⟨F, a, b, p, rows, tabs, hk, hp, J, q, r, kq⟩ := hs
    obtain ⟨t, ht, hd⟩ := h cdv A outer s H E hr F a b p rows tabs hk hp r
    exact ⟨t, ht.nox, hd _ H _ J (env0 q) fun v H' e q2 => by rw [q2.bl_inv]; exact kq H' e⟩
section
variable {w : World} {F : Fm w} {K : PySem.W.Frag} {ρ ρ1 : Ro} {R R' : Ro → Prop} {t : TS}
theorem snx_wkR (h : SNX F K t ρ R) (i : ∀ ρ', R ρ' → ∃ ρ2, Wk ρ' ρ2 ∧ R' ρ2) : SNX F K t ρ R' := fun σ H De J E q => h σ H De J E fun ρ' σ' H' r e E' => by
  obtain ⟨ρ2, k, r2⟩ := i ρ' r
  exact q ρ2 σ' H' r2 e (k.env E')
end
section
variable {w : World} {F : Fm w} {K : PySem.W.Frag} {ρ ρ1 : Ro} {R R' : Ro → Prop} {t : TS}
theorem snx_wkL (k : Wk ρ ρ1) (h : SNX F K t ρ1 R) : SNX F K t ρ R := fun σ H De J E q => h σ H De J (k.env E) q
theorem wk_both {i : Nat} {x : Option D} (k : Wk ρ ρ1) : Wk (ρ.set i x) (ρ1.set i x) := ⟨by rw [List.length_set, List.length_set]; exact k.len, fun j d e => by
  by_cases h : i = j
  · subst h
    have hl := (List.getElem?_eq_some_iff.mp e).1
    rw [List.length_set] at hl
    rw [List.getElem?_set_self hl] at e
    rw [List.getElem?_set_self (by rw [← k.len]; exact hl)]
    exact e
  · rw [List.getElem?_set_ne h] at e ⊢
    exact k.le j d e⟩
end
theorem wk_cons {ρ ρ1 : Ro} {x : Option D} (k : Wk ρ ρ1) : Wk (x :: ρ) (x :: ρ1) := ⟨congrArg (· + 1) k.len, fun j d e => by
  cases j with
  | zero => exact e
  | succ j => exact k.le j d e⟩
theorem wk_skip {ρ ρ1 : Ro} {x : Option D} (k : Wk ρ ρ1) : Wk (x :: ρ) (none :: ρ1) := ⟨congrArg (· + 1) k.len, fun j d e => by
  cases j with
  | zero => cases e
  | succ j => exact k.le j d e⟩
theorem wk5 {x0 x1 x2 x3 x4 x5 x6 x7 x8 x9 : Option D} : Wk [x0, x1, x2, x3, x4, x5, x6, x7, x8, x9] [x0, x1, x2, x3, x4, none, none, none, none, none] := wk_cons (wk_cons (wk_cons (wk_cons (wk_cons (wk_skip (wk_skip (wk_skip (wk_skip (wk_skip (.refl _))))))))))
theorem flat_one {α : Type} (n : Nat) (x : α) : (List.replicate n [x]).flatten = List.replicate n x := by
  induction n with
  | zero => rfl
  | succ n ih => rw [List.replicate_succ, List.flatten_cons, ih]; rfl
theorem runs0 (n : Nat) : (List.replicate n [PyData.tuple [.int 0, .tuple [.int 0, .int 0, .int 0]]]).flatten = (firstRuns n).map eRun := by
  rw [flat_one, firstRuns, List.map_replicate]; rfl
theorem let_ok {n : Nat} {g : Int} {rs : List Run} {ty : Ty} (P : Play n g rs ty) (hn : n ≤ 3) {l : Let} (hl : l ∈ lettersOf ty) : LetOk rs l := by
  have hlen := P.len
  have hpos := P.pos
  have hne : rs ≠ [] := by rintro rfl; simp at hlen; omega
  have hh := P.head
  subst hh
  obtain ⟨h1, h3, _⟩ := mem_letters.mp hl
  have mb := max_rank (xs := begs rs) (by unfold begs; simpa using hne)
  have me := max_rank (xs := ends rs) (by unfold ends; simpa using hne)
  unfold nB at h1
  unfold nE at h3
  rw [bgs_head] at h1
  rw [ens_head] at h3
  exact ⟨hne, by omega, by omega, by omega⟩
theorem state_ok {n : Nat} {g : Int} {tabs : List Tab} {rs : List Run} {ty : Ty} (P : Play n g rs ty) (ft : Fits tabs ty) : ∀ (i : Nat) t r, tabs[i]? = some t → rs[i]? = some r → TabOk t ∧ r.1 < t.length := fun i t r h1 h2 => by
  have hh := P.head
  subst hh
  exact ft.ok i t (r.1, rank (begs rs) r.2.1, rank (ends rs) r.2.2.1) h1 (by rw [headOf_eq, List.getElem?_map, h2]; rfl)
/-! ### a paper that serves -/
def preKept (tabs : List Tab) (rows : List D) : Prop := ∃ U, GOk tabs U ∧ PServ tabs U rows
abbrev ρK (tabs : List Tab) (d : D) (rs : List Run) : Ro := [some (ownD 0), some (eTabs tabs), some (ownD 2), some d, some (.list (rs.map eRun)), none, none, none, none, none]
theorem sc_l_kept : FnScope ["_law_deck_here", "_law_tables", "_law_paper", "_law_known", "_law_runs", "_law_step", "_law_here", "_law_many", "_law_letter", "_law_choice"] ["_law_deck_here", "_law_tables", "_law_paper"] (defScope s_l_kept) := ⟨rfl, rfl, rfl, by decide +kernel, rfl, by decide +kernel, by decide +kernel⟩
theorem c_l_kept {P : Program} {w : World} {K : PySem.W.Frag} {mg : Str → Option Value} {base : Heap} (T : TT K mg) : C8.Cal P w K mg base 5 "_law_kept" (spP w K "serves" preKept) [] := by
  have c_l_draw := c_l_draw (P := P) (w := w) (base := base) T
  have c_l_head := c_l_head (P := P) (w := w) (base := base) T
  have c_l_piece_by := c_l_piece_by (P := P) (w := w) (base := base) T
  have c_l_moved := c_l_moved (P := P) (w := w) (base := base) T
  have c_l_is_unlike := c_l_is_unlike (P := P) (w := w) (base := base) T
  obtain ⟨f, fd, FD, hm⟩ := T.d_l_kept
  refine cal_mk (ok_postP FD sc_l_kept rfl fun cdv A outer s H E hr F a b p rows tabs hk hp h => ?_) hm FD.kp (FD.bindsN fun _ _ _ _ _ _ us hl => match us, hl with | [_, _, _], _ => rfl)
  obtain ⟨U, ok, ⟨ks, L, ps, gk, lk, pk, perm⟩⟩ := h
  obtain ⟨ps', pp, rfl⟩ := perm_map perm
  have hp : HasPap F K p "serves" ((ps'.map fun t => (t, chs tabs L t)).map fun e => .tuple [eTy e.1, evC e.2]) := by rw [List.map_map]; exact hp
  have n3 : tabs.length ≤ 3 := by have := ok.n; omega
  have n2 : 2 ≤ tabs.length := by have := ok.n; omega
  refine ⟨_, (pss_cons (ps_par (i := 3) (j := 4) rfl sc_l_kept.nd rfl rfl (by decide) rfl rfl (pa_cons (pe_callTy (cr_dictT rfl hr.units) (by rfl) T.n_dict (by decide +kernel) (pa_cons (pe_ix (ixK (K := K) rfl) (pv 2) pe_int (fun _ _ => rfl)) pa_nil)) (pa_cons (pe_op op_rep (pe_lst (pa_cons (pe_tup (pa_cons pe_int (pa_cons (pe_tup (pa_cons pe_int (pa_cons pe_int (pa_cons pe_int pa_nil)))) pa_nil))) pa_nil)) (pe_callB (lenK (K := K) rfl) (by rfl) T.n_len (by decide +kernel) (pa_cons (pv 1) pa_nil))) pa_nil)) (by rfl))
    (pss_cons (ps_for PassesOwn.never rfl (pi_range1 (by rfl) T.n_range (pa_cons pe_int pa_nil)) (pg_name (i := 5) sc_l_kept.nd rfl (Or.inl rfl)) (pss_cons (ps_set (i := 6) sc_l_kept.nd rfl (Or.inl rfl) (C8.pe_c c_l_head hr (by decide) (by rfl) (pa_cons (pv 4) pa_nil)))
    (pss_cons (ps_if (pt_cmpR (notin_dtK (w := w) (K := K) hr.units rfl rfl) (pv 6) (pv 3) rfl) (pss_one (ps_ret pe_bl)) pss_nil)
    (pss_cons (ps_set (i := 7) sc_l_kept.nd rfl (Or.inl rfl) (pe_lst (pa_cons (pe_op op_add (pe_op op_mul pe_int (pe_callB (cr_maxT rfl hr.units) (by rfl) T.n_max (by decide +kernel) (pa_cons (pe_ix (ixK (K := K) rfl) (pv 6) pe_int (fun _ _ => rfl)) pa_nil))) pe_int) (pa_cons (pe_op op_add (pe_op op_mul pe_int (pe_callB (cr_maxT rfl hr.units) (by rfl) T.n_max (by decide +kernel) (pa_cons (pe_ix (ixK (K := K) rfl) (pv 6) pe_int (fun _ _ => rfl)) pa_nil))) pe_int) pa_nil))))
    (pss_cons (ps_set (i := 8) sc_l_kept.nd rfl (Or.inl rfl) (pe_tup (pa_cons (C8.pe_c c_l_draw hr (by decide) (by rfl) (pa_cons (pv 0) (pa_cons (pe_ix (ixK (K := K) rfl) (pv 7) pe_int (fun _ _ => rfl)) pa_nil))) (pa_cons (C8.pe_c c_l_draw hr (by decide) (by rfl) (pa_cons (pv 0) (pa_cons (pe_ix (ixK (K := K) rfl) (pv 7) pe_int (fun _ _ => rfl)) pa_nil))) (pa_cons (C8.pe_c c_l_draw hr (by decide) (by rfl) (pa_cons (pv 0) (pa_cons pe_int pa_nil))) pa_nil)))))
    (pss_cons (ps_set (i := 9) sc_l_kept.nd rfl (Or.inl rfl) (pe_ix (ixK (K := K) rfl) (pe_ix (ix_dtK (w := w) (K := K) hr.units rfl rfl) (pv 3) (pv 6) (fun _ _ => rfl)) (pe_op op_add (pe_op op_mul pe_int (pe_op op_add (pe_op op_mul (pe_ix (ixK (K := K) rfl) (pv 8) pe_int (fun _ _ => rfl)) (pe_ix (ixK (K := K) rfl) (pv 7) pe_int (fun _ _ => rfl))) (pe_ix (ixK (K := K) rfl) (pv 8) pe_int (fun _ _ => rfl)))) (pe_ix (ixK (K := K) rfl) (pv 8) pe_int (fun _ _ => rfl))) (fun _ _ => rfl)))
    (pss_cons (ps_set (i := 4) sc_l_kept.nd rfl (Or.inl rfl) (C8.pe_c c_l_moved hr (by decide) (by rfl) (pa_cons (pv 1) (pa_cons (pv 4) (pa_cons (C8.pe_c c_l_piece_by hr (by decide) (by rfl) (pa_cons (pv 4) (pa_cons (pv 8) pa_nil))) (pa_cons (pe_cmpR op_eq (pv 9) pe_str (nomark _)) pa_nil))))))
    (pss_one (ps_if (PW.pt (pw_or (pt_cmpR (notInK (K := K) rfl) (pv 9) (pe_tup (pa_cons pe_str (pa_cons pe_str pa_nil))) rfl) (pw_or1 (pt_val (C8.pe_c c_l_is_unlike hr (by decide) (by rfl) (pa_cons (pv 4) pa_nil)))))) (pss_one (ps_ret pe_bl)) pss_nil)))))))))
    (pss_one (ps_ret pe_bl)))), ?_⟩
  refine sd_seq (sn_par (ea_cons (ed_papD hp (by rw [List.map_map]; simpa [Function.comp_def] using pp.nodup_iff.mpr pk.nd) rfl) (ea_cons (d := .list ((firstRuns tabs.length).map eRun)) (ed_is (ed_rep (k := tabs.length) (ed_lst (ea_cons (ed_tup (ea_cons ed_int (ea_cons (ed_tup (ea_cons ed_int (ea_cons ed_int (ea_cons ed_int ea_nil)))) ea_nil))) ea_nil)) (ed_is (ed_lenT (ea_cons (ed_var rfl) ea_nil)) (by rw [List.length_map])) (by omega) (by show 1 ≤ 100; decide)) (by rw [runs0])) ea_nil))) ?_
  refine sd_snx (snx_for (List.range 40) eN (fun i ρ => ∃ rs ty, KI tabs ps rs ty (40 - i) ∧ Wk ρ (ρK tabs (eDict evC (ps'.map fun t => (t, chs tabs L t))) rs)) (id_rng1 (n := 40) (ea_cons ed_int ea_nil) (by decide)) ?_ ?_) fun ρ' _ => sd_ret ed_bl
  · exact ⟨firstRuns tabs.length, firstTy tabs.length, ⟨play_first (by omega) _, pk.first⟩, .refl _⟩
  rintro i x ρ hi ⟨rs, ty, ki, wk⟩
  have hi40 : i < 40 := by
    have := (List.getElem?_eq_some_iff.mp hi).1
    rwa [List.length_range] at this
  refine ⟨[5], _, gd_name, ?_⟩
  have e40 : 40 - i = 40 - (i + 1) + 1 := by omega
  rw [e40] at ki
  have hks := gk.inU _ (pk.inK ty ki.inP).1
  obtain ⟨ft, tl, tr⟩ := ok.fit ty hks
  have hhead := ki.play.head
  have hlen := ki.play.len
  have hg : get (ps'.map fun t => (t, chs tabs L t)) ty = some (chs tabs L ty) := by rw [get_map, if_pos (pp.mem_iff.mpr ki.inP)]
  refine snx_wkL (ρ1 := (ρK tabs (eDict evC (ps'.map fun t => (t, chs tabs L t))) rs).set 5 (some (eN x))) (wk_both wk) ?_
  refine snx_seq (sn_asg (d := eTy ty) (ed_call (ea_cons (ed_var rfl) ea_nil) ⟨rs, rfl, by omega, by rw [hhead]⟩)) ?_
  refine snx_seq (sn_whenN (et_test (ed_niTy (ev := evC) (L := ps'.map fun t => (t, chs tabs L t)) (ed_var rfl) (ed_var rfl))) (by rw [hg]; rfl)) ?_
  refine snx_seq (sn_asg (d := .list [eN (nB ty), eN (nE ty)]) (ed_lst (ea_cons ?_ (ea_cons ?_ ea_nil)))) ?_
  · refine ed_is (ed_i0 (ed_mul ed_int (ed_maxT (ns := (bgs ty).map fun n : Nat => (n : Int)) (m := (maxN (bgs ty) : Nat)) (ea_cons (ed_is (ed_ixT (ed_var rfl) ed_int rfl) (by rw [eNs, int_map])) ea_nil) ?_ fun z hz hle => maxN_int hz hle) (by decide) (by decide)) ed_int) (congrArg PyData.int (by unfold nB; omega))
    rw [List.length_map]; exact List.length_pos_iff.mpr tr.bn
  · refine ed_is (ed_i0 (ed_mul ed_int (ed_maxT (ns := (ens ty).map fun n : Nat => (n : Int)) (m := (maxN (ens ty) : Nat)) (ea_cons (ed_is (ed_ixT (ed_var rfl) ed_int rfl) (by rw [eNs, int_map])) ea_nil) ?_ fun z hz hle => maxN_int hz hle) (by decide) (by decide)) ed_int) (congrArg PyData.int (by unfold nE; omega))
    rw [List.length_map]; exact List.length_pos_iff.mpr (by unfold ens; intro e; exact tr.pos (List.map_eq_nil_iff.mp e))
  have hb := tr.b
  have he := tr.e
  have nb : 0 < nB ty ∧ nB ty < 10 := by unfold nB; omega
  have ne : 0 < nE ty ∧ nE ty < 10 := by unfold nE; omega
  refine snx_bind (P1 := fun d => ∃ l : Let, l ∈ lettersOf ty ∧ d = eLet l) (eq_imp (eq_tup (eaq_cons (eq_drawN (m := nB ty) hk rfl (ed_ixL (ed_var rfl) ed_int rfl) (by omega)) (eaq_cons (eq_drawN (m := nE ty) hk rfl (ed_ixL (ed_var rfl) ed_int rfl) (by omega)) (eaq_cons (eq_drawN (m := 3) hk rfl ed_int (by decide)) eaq_nil))) ?_) ?_) ?_
  · rintro ds ⟨_, _, _, ⟨_, _, _, ⟨_, _, _, rfl, rfl⟩, rfl⟩, rfl⟩
    show 3 ≤ 100000; decide
  · rintro d ⟨_, ⟨_, _, ⟨i1, h1, rfl⟩, ⟨_, _, ⟨i2, h2, rfl⟩, ⟨_, _, ⟨i3, h3, rfl⟩, rfl, rfl⟩, rfl⟩, rfl⟩, rfl⟩
    exact ⟨(i1, i2, i3), mem_letters.mpr ⟨h1, h2, h3⟩, rfl⟩
  rintro _ ⟨⟨i1, i2, i3⟩, hl, rfl⟩
  obtain ⟨l1, l2, l3⟩ := mem_letters.mp hl
  have lok := let_ok ki.play n3 hl
  have hj := letters_get (ty := ty) l1 l2 l3
  obtain ⟨c, hc, hcc, hun, ty', ki'⟩ := ki_step lk pk (by omega) ki hj
  refine snx_seq (sn_asg (d := .str c) (ed_ixT (ds := (chs tabs L ty).map .str) (ed_ixTy (ev := evC) (v := chs tabs L ty) (L := ps'.map fun t => (t, chs tabs L t)) (ed_var rfl) (ed_var rfl) hg) (ed_is (ed_i0 (ed_mul ed_int (ed_i0 (ed_mul (i := (i1 : Int)) (j := (nE ty : Int)) (ed_ixT (ed_var rfl) ed_int rfl) (ed_ixL (ed_var rfl) ed_int rfl) (by omega) (by omega)) (ed_ixT (d := eN i2) (ed_var rfl) ed_int rfl)) (by decide) (by decide)) (ed_ixT (d := eN i3) (ed_var rfl) ed_int rfl)) (congrArg PyData.int (a₂ := ((3 * (i1 * nE ty + i2) + i3 : Nat) : Int)) (by push_cast; rfl))) (atI_nat (by rw [List.getElem?_map, hc]; rfl)))) ?_
  refine snx_seq (sn_asg (d := .list ((moved tabs rs (pieceBy rs (i1, i2, i3)) (decide (c = "pass"))).map eRun)) (ed_call (ea_cons (ed_var rfl) (ea_cons (ed_var rfl) (ea_cons (ed_call (ea_cons (ed_var rfl) (ea_cons (ed_var rfl) ea_nil)) ⟨rs, (i1, i2, i3), rfl, lok, rfl⟩) (ea_cons (ed_eqS (ed_var rfl) ed_str) ea_nil)))) ⟨tabs, rs, pieceBy rs (i1, i2, i3), decide (c = "pass"), rfl, by omega, n2, n3, state_ok ki.play ft, rfl⟩)) ?_
  refine snx_of (sn_whenN (et_or (et_test (ed_niT (ys := ["pass", "leave"]) (ed_var rfl) (ed_tup (ea_cons ed_str (ea_cons ed_str ea_nil))))) fun _ => et_val (ed_call (ea_cons (ed_var rfl) ea_nil) ⟨_, rfl, by rw [ki'.play.len]; exact n3, rfl⟩)) (by rw [hun]; rcases hcc with rfl | rfl <;> rfl)) ⟨_, ty', ki', wk5⟩
end FW
end PartFun17
section PartFun18
set_option Elab.async false
set_option linter.all false
set_option maxRecDepth 100000
set_option maxHeartbeats 2000000
/-! A dict that is filled from the paper; a paper that fails is played out. -/
namespace FW
open PySem PySem.Spec PyProof.Rows L2
/-- with the dict at q set apart -/
def Fm.addD {w : World} (F : Fm w) (q : Addr) : Fm w := ⟨fun x => F.M x ∨ x = q, fun H => F.J H ∧ ∃ xs, H q = some (DtO w q xs), fun H H' h t J => ⟨F.mono H H' (fun x o m => h x o (.inl m)) t J.1, let ⟨xs, e⟩ := J.2; ⟨xs, h q _ (.inr rfl) e⟩⟩,
  fun H x J m => m.elim (F.live H x J.1) fun e => by subst e; obtain ⟨xs, q⟩ := J.2; exact ⟨_, q⟩, F.own⟩
abbrev evB (a : Nat × Let) : D := .tuple [eN a.1, eLet a.2]
abbrev Kn := List (Ty × (Nat × Let))
abbrev rowK (e : Ty × (Nat × Let)) : D := .tuple [eTy e.1, eN e.2.1, eLet e.2.2]
theorem to_rowK (e : Ty × (Nat × Let)) : tonly (rowK e) = true := by
  have h := to_ty e.1
  show (tonly (eTy e.1) && true) = true
  rw [h]; rfl
theorem get_take {α : Type} {L : List (Ty × α)} (nd : (L.map (·.1)).Nodup) {i : Nat} {e : Ty × α} (h : L[i]? = some e) : get (L.take i) e.1 = none := by
  cases c : get (L.take i) e.1 with
  | none => rfl
  | some a =>
    have m := get_mem c
    have tk : L.take (i + 1) = L.take i ++ [e] := by rw [List.take_add_one, h]; rfl
    have h3 : ((L.take (i + 1)).map (·.1)).Nodup := nd.sublist ((List.take_sublist ..).map _)
    rw [tk, List.map_append] at h3
    exact absurd rfl ((List.nodup_append.mp h3).2.2 e.1 (List.mem_map.mpr ⟨_, m, rfl⟩) e.1 List.mem_cons_self)
abbrev ρB0 (tabs : List Tab) : Ro := [some (ownD 0), some (eTabs tabs), some (ownD 2), none, none, none, none, none, none, none, none]
abbrev ρB1 (tabs : List Tab) (rs : List Run) : Ro := [some (ownD 0), some (eTabs tabs), some (ownD 2), none, some (.list (rs.map eRun)), none, none, none, none, none, none]
abbrev ρB2 (tabs : List Tab) (kvs : Kn) (rs : List Run) : Ro := [some (ownD 0), some (eTabs tabs), some (ownD 2), some (eDict evB kvs), some (.list (rs.map eRun)), none, none, none, none, none, none]
theorem wkB {x0 x1 x2 x3 x4 x5 x6 x7 x8 x9 x10 : Option D} : Wk [x0, x1, x2, x3, x4, x5, x6, x7, x8, x9, x10] [x0, x1, x2, x3, x4, none, none, none, x8, x9, x10] := wk_cons (wk_cons (wk_cons (wk_cons (wk_cons (wk_skip (wk_skip (wk_skip (.refl _))))))))
theorem sd_known {w : World} {F : Fm w} {K : PySem.W.Frag} {tabs : List Tab} {rs : List Run} {kvs : Kn} {p : Addr} {kind : Str} {te : TE} {u : TS} {d : D} (hp : HasPap F K p kind (kvs.map rowK)) (nd : (kvs.map (·.1)).Nodup) (hz : kvs.length ≤ 100)
    (hr : ED F K te (ρB0 tabs) (.list (rs.map eRun))) (hu : SD F K u (ρB2 tabs kvs rs) d) :
    SD F K (tSeq (tPar 3 4 (tCons (dnewT w) (tCons te tNil))) (tSeq (tFor (iTup K (tOp (rIx K) (tVar 2) (tC (.int 1)))) (gTup K 3 (gCons (gName 5) (gCons (gName 6) (gCons (gName 7) gNil)))) (tAsg (tTup (tCons (tVar 6) (tCons (tVar 7) tNil))) (gSub (tVar 3) (tVar 5) (rSetDt w K)))) u)) (ρB0 tabs) d := fun σ H De J E k => by
  intro q hq
  have x1 : Xt F H (upd H q (DtO w q [])) := .new hq
  have hM := (Xt.fresh J (.refl H) hq).2
  refine hr σ _ (x1.inv J) (E.mono x1) _ fun v4 H2 e2 q4 => ⟨.ref q, v4, rfl, ?_⟩
  have x2 := x1.trans e2
  have hq2 : H2 q = some (DtO w q []) := e2.keep q _ hM upd_same
  have J2 := x2.inv J
  let G := F.addD q
  have hpG : HasPap G K p kind (kvs.map rowK) := ⟨hp.own, fun H J => hp.pap H J.1, hp.tn⟩
  have JG : G.J H2 := ⟨J2, _, hq2⟩
  have E2 : Env G K H2 σ (ρB0 tabs) := E.kf (F' := G) x2.tups (fun _ _ z => z) fun x o z m => ⟨x2.keep x o m z, fun c => c.elim m fun c => by subst c; rw [hq] at z; cases z⟩
  have q4' : Dq G K H2 v4 (.list (rs.map eRun)) := by
    obtain ⟨a, xs, rfl, n, hl, hd⟩ := q4.lst_get
    exact .lst (fun c => c.elim n fun c => by subst c; rw [hq2] at hl; cases hl) hl (DqAll.to (tonlyAll_map' fun _ => rfl) hd)
  have el : σ.length = 11 := E.len
  have E3 : Env G K H2 ((σ.set 3 (some (.ref q))).set 4 (some v4)) (ρB1 tabs rs) := (E2.unset 3 _).set 4 q4'
  have s3 : ((σ.set 3 (some (.ref q))).set 4 (some v4))[3]? = some (some (.ref q)) := by rw [List.getElem?_set_ne (by decide), List.getElem?_set_self (by omega)]
  generalize (σ.set 3 (some (.ref q))).set 4 (some v4) = σ3 at E3 s3 ⊢
  let Gp := F.pin q (DtO w q [])
  have hpP : HasPap Gp K p kind (kvs.map rowK) := ⟨hp.own, fun H J => hp.pap H J.1, hp.tn⟩
  have hid : ID Gp K (iTup K (tOp (rIx K) (tVar 2) (tC (.int 1)))) (ρB1 tabs rs) (kvs.map rowK) := id_tup (ed_pap1 hpP rfl)
  have Ep : Env Gp K H2 σ3 (ρB1 tabs rs) := E3.kf (F' := Gp) (fun _ _ z => z) (fun _ _ z => z) fun x o z m => ⟨z, m⟩
  have loop : ∀ De' : Ends, (∀ σ' H', Xt F H H' → Env F K H' σ' (ρB2 tabs kvs rs) → De'.nx σ' H') → tFor (iTup K (tOp (rIx K) (tVar 2) (tC (.int 1)))) (gTup K 3 (gCons (gName 5) (gCons (gName 6) (gCons (gName 7) gNil)))) (tAsg (tTup (tCons (tVar 6) (tCons (tVar 7) tNil))) (gSub (tVar 3) (tVar 5) (rSetDt w K))) De' σ3 H2 := fun De' kn => by
    refine hid σ3 H2 ⟨J2, hq2⟩ Ep _ fun Jt H3 e3 w3 => ?_
    obtain ⟨J3, hq3⟩ := e3.inv ⟨J2, hq2⟩
    have x3 : Xt F H H3 := ⟨fun x o n z => e3.keep x o (fun m => m.elim n fun c => by subst c; rw [hq] at z; cases z) (x2.keep x o n z), fun x xs z => e3.tups x xs (x2.tups x xs z), fun _ => J3⟩
    refine ⟨fun i m σ' H' => m = kvs.length - i ∧ i ≤ kvs.length ∧ Xt F H H' ∧ Xm G H3 H' ∧ σ'[3]? = some (some (.ref q)) ∧ (∃ xs, H' q = some (DtO w q xs) ∧ DqE G K H' xs ((kvs.take i).map fun e => (eTy e.1, evB e.2))) ∧ Env G K H' σ' (ρB1 tabs rs), ?_, ?_⟩
    · exact ⟨_, rfl, Nat.zero_le _, x3, .refl H3, s3, ⟨[], hq3, .nil⟩, (E3.kf (F' := G) e3.tups (fun _ _ z => z) fun x o z m => ⟨e3.keep x o m z, m⟩)⟩
    rintro i m σ' H' ⟨rfl, hil, eH, mH, s3', ⟨xs, hq', hd⟩, EH⟩
    obtain ⟨go, stop⟩ := w3 H' ⟨mH.keep, mH.tups⟩
    by_cases hlt : i < kvs.length
    · have hx : kvs[i]? = some kvs[i] := List.getElem?_eq_getElem hlt
      generalize kvs[i] = e at hx
      obtain ⟨g1, g2⟩ := go i (rowK e) (by rw [List.getElem?_map, hx]; rfl)
      refine .inr ⟨g1, fun σ' H' => Xt F H H' ∧ Xm G H3 H' ∧ σ'[3]? = some (some (.ref q)) ∧ (∃ xs, H' q = some (DtO w q xs) ∧ DqE G K H' xs ((kvs.take (i + 1)).map fun e => (eTy e.1, evB e.2))) ∧ Env G K H' σ' (ρB1 tabs rs), fun σ2 H2 p => ⟨kvs.length - (i + 1), by omega, rfl, hlt, p⟩, fun y H4 hy => ?_⟩
      obtain ⟨e4', qy⟩ := g2 y H4 hy
      have e4 : Xt G H' H4 := .of e4'
      have e4F : Xt F H' H4 := .of e4'
      have hq4 := e4' _ _ hq'
      have J4 : G.J H4 := ⟨(eH.trans e4F).inv J, _, hq4⟩
      refine gd_tup3 (F := G) σ' H4 y J4 (EH.mono e4) (Dq.to (to_rowK e) qy) _ fun σ5 E5 hl5 hk5 => ?_
      obtain ⟨v5, h5, q5⟩ := E5.at_ 5 (eTy e.1) rfl
      obtain ⟨v6, h6, q6⟩ := E5.at_ 6 (eN e.2.1) rfl
      obtain ⟨v7, h7, q7⟩ := E5.at_ 7 (eLet e.2.2) rfl
      obtain ⟨b5, rfl⟩ := q5.ref_of
      have s5 : σ5[3]? = some (some (.ref q)) := by rw [hk5 3 (by decide)]; exact s3'
      refine ⟨v6, h6, v7, h7, sz_le (by show 2 ≤ 100000; decide), fun pn hpn => ?_⟩
      have x6 : Xt G H4 (upd H4 pn (.tup [v6, v7])) := .new hpn
      have x6F : Xt F H4 (upd H4 pn (.tup [v6, v7])) := .new hpn
      have hq6 : upd H4 pn (.tup [v6, v7]) q = some (DtO w q xs) := by rw [upd_ne (ne_of_none hq4 hpn)]; exact hq4
      have qv : Dq G K (upd H4 pn (.tup [v6, v7])) (.ref pn) (evB e.2) := .newT hpn (.cons q6 (.one q7))
      generalize upd H4 pn (.tup [v6, v7]) = H6 at x6 x6F hq6 qv ⊢
      have hd6 := DqE.mono x6 (DqE.mono e4 hd)
      have q56 := q5.mono x6
      have hnew : get ((kvs.take i)) e.1 = none := get_take nd hx
      have hval : valK xs (nk (eTy e.1)) = none := (hd6.val (eTy e.1)).1 (by rw [getD_ty (ev := evB), hnew]; rfl)
      have tk : kvs.take (i + 1) = kvs.take i ++ [e] := by rw [List.take_add_one, hx]; rfl
      have kd : Tk H6 (upd H6 q (DtO w q (xs ++ [(nk (eTy e.1), b5, .ref pn)]))) := Tk.dict hq6
      have m7 : Xm G H6 (upd H6 q (DtO w q (xs ++ [(nk (eTy e.1), b5, .ref pn)]))) := ⟨fun x o n z => by rw [upd_ne fun c => n (.inr c)]; exact z, kd⟩
      have hlenx : xs.length ≤ 100 := by rw [hd6.len, List.length_map, List.length_take]; omega
      refine ⟨_, s5, _, h5, q, b5, xs, nk (eTy e.1), rfl, rfl, hq6, hd6.keys, keyAt_of q56 (to_ty e.1) (dep_ty e.1), hval, sz_lt (by omega), ?_⟩
      refine ⟨.mut J ((eH.trans e4F).trans x6F) hq hM kd, ((mH.trans e4.m).trans x6.m).trans m7, s5, ⟨_, upd_same, ?_⟩, ?_⟩
      · rw [tk, List.map_append]
        exact DqE.kf (F := G) (F' := G) m7.tups (fun _ _ z => z) (fun x o z n => ⟨m7.keep x o n z, n⟩) (hd6.app (.cons q56 (to_ty e.1) (dep_ty e.1) qv .nil))
      · have E7 := (E5.mono x6).kf (F' := G) m7.tups (fun _ _ z => z) fun x o z n => ⟨m7.keep x o n z, n⟩
        exact wkB.env E7
    · have ei : i = kvs.length := by omega
      subst ei
      refine .inl ⟨by simpa using stop, kn σ' H' eH ?_⟩
      rw [List.take_length] at hd
      have E6 : Env F K H' σ' (ρB1 tabs rs) := EH.kf (F' := F) (fun _ _ z => z) (fun _ _ z => z) fun x o z m => ⟨z, fun c => m (.inl c)⟩
      have D6 : Dq F K H' (.ref q) (eDict evB kvs) := .dict hM hq' (DqE.kf (F := G) (F' := F) (fun _ _ z => z) (fun _ _ z => z) (fun x o z m => ⟨z, fun c => m (.inl c)⟩) hd)
      refine ⟨E6.len, fun j dj hj => ?_⟩
      by_cases h3 : j = 3
      · subst h3
        cases hj
        exact ⟨_, s3', D6⟩
      · refine E6.at_ j dj ?_
        match j, h3, hj with
        | 0, _, hj => exact hj
        | 1, _, hj => exact hj
        | 2, _, hj => exact hj
        | 4, _, hj => exact hj
        | 5, _, hj => exact hj
        | 6, _, hj => exact hj
        | 7, _, hj => exact hj
        | 8, _, hj => exact hj
        | 9, _, hj => exact hj
        | 10, _, hj => exact hj
        | j + 11, _, hj => exact hj
  exact loop { De with nx := u De } fun σ' H' e E' => hu σ' H' De (e.inv J) E' fun v H5 e5 q5 => k v H5 (e.trans e5) q5
end FW
end PartFun18
section PartFun19
set_option Elab.async false
set_option linter.all false
set_option maxRecDepth 100000
set_option maxHeartbeats 2000000
/-! A paper that fails is played out. -/
namespace FW
open PySem PySem.Spec PyProof.Rows L2
section
variable {w : World} {F : Fm w} {K : PySem.W.Frag} {ρ ρ1 : Ro} {R : Ro → Prop} {t u : TS} {te ta tb : TE} {tt : L2.TT} {d : D} {P P1 P2 : D → Prop}
/-- a block that hands back d or ends one of many ways -/
def SDX {w : World} (F : Fm w) (K : PySem.W.Frag) (ts : TS) (ρ : Ro) (d : D) (R : Ro → Prop) : Prop := ∀ (σ : L2.St) (H : Hp) (De : Ends), F.J H → Env F K H σ ρ → (∀ v H', Xt F H H' → Dq F K H' v d → De.rt v H') → (∀ ρ' σ' H', R ρ' → Xt F H H' → Env F K H' σ' ρ' → De.nx σ' H') → ts De σ H
theorem sdx_wkL (k : Wk ρ ρ1) (h : SDX F K t ρ1 d R) : SDX F K t ρ d R := fun σ H De J E => h σ H De J (k.env E)
theorem wkC {x0 x1 x2 x3 x4 x5 x6 x7 x8 x9 x10 : Option D} : Wk [x0, x1, x2, x3, x4, x5, x6, x7, x8, x9, x10] [x0, x1, x2, x3, x4, none, none, none, x8, x9, none] := wk_cons (wk_cons (wk_cons (wk_cons (wk_cons (wk_skip (wk_skip (wk_skip (wk_cons (wk_cons (wk_skip (.refl _)))))))))))
theorem sdx_seq (h1 : SN F K t ρ ρ1) (h2 : SDX F K u ρ1 d R) : SDX F K (tSeq t u) ρ d R := fun σ H De J E k q => h1 σ H { De with nx := u De } J E fun σ' H1 e1 E1 => h2 σ' H1 De (e1.inv J) E1 (fun v H2 e2 => k v H2 (e1.trans e2)) fun ρ' σ2 H2 r e2 E2 => q ρ' σ2 H2 r (e1.trans e2) E2
theorem sdx_bind {i : Nat} (h : EQ F K te ρ P1) (hu : ∀ d1, P1 d1 → SDX F K u (ρ.set i (some d1)) d R) : SDX F K (tSeq (tAsg te (gName i)) u) ρ d R := fun σ H De J E k q => h σ H J E _ fun d1 v H1 p e1 q1 =>
  hu d1 p _ H1 De (e1.inv J) ((E.mono e1).set i q1) (fun v H2 e2 => k v H2 (e1.trans e2)) fun ρ' σ2 H2 r e2 E2 => q ρ' σ2 H2 r (e1.trans e2) E2
theorem sdx_if {b : Bool} (h : ET F K tt ρ b) (h1 : b = true → SD F K t ρ d) (h2 : b = false → R ρ) : SDX F K (tIfS tt t tNext) ρ d R := fun σ H De J E k q => h σ H J E _ fun H1 e1 => by
  cases b with
  | true => exact h1 rfl σ H1 De (e1.inv J) (E.mono e1) fun v H2 e2 => k v H2 (e1.trans e2)
  | false => exact q ρ σ H1 (h2 rfl) e1 (E.mono e1)
/-- while True -/
theorem sd_while {α : Type} (I : α → Ro → Prop) (μ : α → Nat) (z0 : α) (h0 : I z0 ρ) (hb : ∀ z ρ, I z ρ → SDX F K t ρ d (fun ρ' => ∃ z', μ z' < μ z ∧ I z' ρ')) : SD F K (tWhile (tB (tC (.bl true))) t) ρ d := fun σ H De J E k => by
  refine ⟨fun m σ' H' => ∃ z ρ', m = μ z ∧ I z ρ' ∧ Xt F H H' ∧ Env F K H' σ' ρ', ⟨_, z0, ρ, rfl, h0, .refl H, E⟩, ?_⟩
  rintro m σ' H' ⟨z, ρ', rfl, hI, x, E'⟩
  refine ⟨true, rfl, iteT ⟨fun σ2 H2 => ∃ z' ρ', μ z' < μ z ∧ I z' ρ' ∧ Xt F H H2 ∧ Env F K H2 σ2 ρ', fun σ2 H2 ⟨z', ρ', a, b, c, e⟩ => ⟨_, a, z', ρ', rfl, b, c, e⟩, ?_⟩⟩
  exact hb z ρ' hI σ' H' _ (x.inv J) E' (fun v H2 e2 q2 => k v H2 (x.trans e2) q2) fun ρ2 σ2 H2 ⟨z', a, b⟩ e2 E2 => ⟨z', ρ2, a, b, x.trans e2, E2⟩
theorem sd_parQ {i j : Nat} (ha : EQ F K ta ρ P1) (hb : EQ F K tb ρ P2) (hu : ∀ d1 d2, P1 d1 → P2 d2 → SD F K u ((ρ.set i (some d1)).set j (some d2)) d) : SD F K (tSeq (tPar i j (tCons ta (tCons tb tNil))) u) ρ d := fun σ H De J E q =>
  ha σ H J E _ fun d1 v0 H0 p1 e0 q0 => hb σ H0 (e0.inv J) (E.mono e0) _ fun d2 v H1 p2 e1 q1 =>
    ⟨v0, v, rfl, hu d1 d2 p1 p2 _ H1 De ((e0.trans e1).inv J) (((E.mono (e0.trans e1)).set i (q0.mono e1)).set j q1) fun v2 H2 e2 q2 => q v2 H2 ((e0.trans e1).trans e2) q2⟩
theorem eq_ifQ {b : Bool} (h : ET F K tt ρ b) (h1 : b = true → EQ F K ta ρ P) (h2 : b = false → EQ F K tb ρ P) : EQ F K (tIf tt ta tb) ρ P := fun σ H J E Q q => h σ H J E _ fun H1 e1 => by
  cases b with
  | true => exact h1 rfl σ H1 (e1.inv J) (E.mono e1) Q fun d v H2 p e2 q2 => q d v H2 p (e1.trans e2) q2
  | false => exact h2 rfl σ H1 (e1.inv J) (E.mono e1) Q fun d v H2 p e2 q2 => q d v H2 p (e1.trans e2) q2
end
theorem moved_len {tabs : List Tab} {rs : List Run} {p : Own} {b : Bool} (h : tabs.length = rs.length) (h0 : 0 < rs.length) : (moved tabs rs p b).length = rs.length := by
  cases tabs with
  | nil => simp at h; omega
  | cons t ts =>
    cases rs with
    | nil => simp at h0
    | cons r rs =>
      have h' : ts.length = rs.length := by simpa using h
      cases b <;> simp [moved, List.length_zipWith, h']
def preBeaten (tabs : List Tab) (rows : List D) : Prop := ∃ U, GOk tabs U ∧ PFail tabs U rows
abbrev ρW (tabs : List Tab) (kvs : Kn) (rs : List Run) (habit : Nat) (least : D) : Ro := [some (ownD 0), some (eTabs tabs), some (ownD 2), some (eDict evB kvs), some (.list (rs.map eRun)), none, none, none, some (eN habit), some least, none]
theorem sc_l_beaten : FnScope ["_law_deck_here", "_law_tables", "_law_paper", "_law_known", "_law_runs", "_law_here", "_law_rank", "_law_letter", "_law_habit", "_law_least", "_law_is_passed"] ["_law_deck_here", "_law_tables", "_law_paper"] (defScope s_l_beaten) := ⟨rfl, rfl, rfl, by decide +kernel, rfl, by decide +kernel, by decide +kernel⟩
theorem c_l_beaten {P : Program} {w : World} {K : PySem.W.Frag} {mg : Str → Option Value} {base : Heap} (T : TT K mg) : C8.Cal P w K mg base 5 "_law_beaten" (spP w K "fails" preBeaten) [] := by
  have c_l_draw := c_l_draw (P := P) (w := w) (base := base) T
  have c_l_head := c_l_head (P := P) (w := w) (base := base) T
  have c_l_piece_by := c_l_piece_by (P := P) (w := w) (base := base) T
  have c_l_moved := c_l_moved (P := P) (w := w) (base := base) T
  have c_l_is_unlike := c_l_is_unlike (P := P) (w := w) (base := base) T
  obtain ⟨f, fd, FD, hm⟩ := T.d_l_beaten
  refine cal_mk (ok_postP FD sc_l_beaten rfl fun cdv A outer s H E hr F a b p rows tabs hk hp h => ?_) hm FD.kp (FD.bindsN fun _ _ _ _ _ _ us hl => match us, hl with | [_, _, _], _ => rfl)
  obtain ⟨U, ok, ⟨ks, L, gk, lk, hin, perm⟩⟩ := h
  obtain ⟨L', pp, rfl⟩ := perm_map perm
  have n3 : tabs.length ≤ 3 := by have := ok.n; omega
  have n2 : 2 ≤ tabs.length := by have := ok.n; omega
  have hks : ks.length ≤ 100 := Nat.le_trans (nodup_le gk.nd gk.inU) ok.few
  have hL : L.length ≤ 100 := Nat.le_trans (by
    have := nodup_le lk.nd (bs := ks) fun t ht => by
      obtain ⟨e, he, rfl⟩ := List.mem_map.mp ht
      exact lk.inK e he
    rwa [List.length_map] at this) hks
  let kvs : Kn := L'.map fun e => (e.1, (e.2.1, (lettersOf e.1).getD e.2.2 (0, 0, 0)))
  have hp : HasPap F K p "fails" (kvs.map rowK) := by rw [List.map_map]; exact hp
  refine ⟨_, (pss_cons (ps_par (i := 3) (j := 4) rfl sc_l_beaten.nd rfl rfl (by decide) rfl rfl (pa_cons pe_dnew (pa_cons (pe_op op_rep (pe_lst (pa_cons (pe_tup (pa_cons pe_int (pa_cons (pe_tup (pa_cons pe_int (pa_cons pe_int (pa_cons pe_int pa_nil)))) pa_nil))) pa_nil)) (pe_callB (lenK (K := K) rfl) (by rfl) T.n_len (by decide +kernel) (pa_cons (pv 1) pa_nil))) pa_nil)) (by rfl))
    (pss_cons (ps_for PassesOwn.never rfl (pi_tupK (K := K) rfl (pe_ix (ixK (K := K) rfl) (pv 2) pe_int (fun _ _ => rfl))) (pg_tupK (K := K) rfl rfl (pgs_cons (pg_name (i := 5) sc_l_beaten.nd rfl (Or.inl rfl)) (pgs_cons (pg_name (i := 6) sc_l_beaten.nd rfl (Or.inl rfl)) (pgs_cons (pg_name (i := 7) sc_l_beaten.nd rfl (Or.inl rfl)) pgs_nil)))) (pss_one (ps_asg (pe_tup (pa_cons (pv 6) (pa_cons (pv 7) pa_nil))) (pg_sub (pv 3) (pv 5) (set_dt hr.units)))))
    (pss_cons (ps_par (i := 8) (j := 9) rfl sc_l_beaten.nd rfl rfl (by decide) rfl rfl (pa_cons (C8.pe_c c_l_draw hr (by decide) (by rfl) (pa_cons (pv 0) (pa_cons pe_int pa_nil))) (pa_cons pe_non pa_nil)) (by rfl))
    (pss_one (ps_while PassesOwn.never (pt_val pe_bl) (pss_cons (ps_set (i := 5) sc_l_beaten.nd rfl (Or.inl rfl) (C8.pe_c c_l_head hr (by decide) (by rfl) (pa_cons (pv 4) pa_nil)))
    (pss_cons (ps_if (PW.pt (pw_or (pt_cmpR (notin_dtK (w := w) (K := K) hr.units rfl rfl) (pv 5) (pv 3) rfl) (pw_or1 (PW.pt (pw_and (pt_cmpR op_notN (pv 9) pe_non (nomark _)) (pw_and1 (pt_cmpR op_ge (pe_ix (ixK (K := K) rfl) (pe_ix (ix_dtK (w := w) (K := K) hr.units rfl rfl) (pv 3) (pv 5) (fun _ _ => rfl)) pe_int (fun _ _ => rfl)) (pv 9) (nomark _)))))))) (pss_one (ps_ret pe_bl)) pss_nil)
    (pss_cons (ps_asg (pe_ix (ix_dtK (w := w) (K := K) hr.units rfl rfl) (pv 3) (pv 5) (fun _ _ => rfl)) (pg_tupK (K := K) rfl rfl (pgs_cons (pg_name (i := 9) sc_l_beaten.nd rfl (Or.inl rfl)) (pgs_cons (pg_name (i := 7) sc_l_beaten.nd rfl (Or.inl rfl)) pgs_nil))))
    (pss_cons (ps_set (i := 10) sc_l_beaten.nd rfl (Or.inl rfl) (pe_ifExp (pt_cmpR op_eq (pv 8) pe_int (nomark _)) (pe_cmpR op_eq (C8.pe_c c_l_draw hr (by decide) (by rfl) (pa_cons (pv 0) (pa_cons pe_int pa_nil))) pe_int (nomark _)) (pe_cmpR op_eq (pv 8) pe_int (nomark _))))
    (pss_cons (ps_set (i := 4) sc_l_beaten.nd rfl (Or.inl rfl) (C8.pe_c c_l_moved hr (by decide) (by rfl) (pa_cons (pv 1) (pa_cons (pv 4) (pa_cons (C8.pe_c c_l_piece_by hr (by decide) (by rfl) (pa_cons (pv 4) (pa_cons (pv 7) pa_nil))) (pa_cons (pv 10) pa_nil))))))
    (pss_one (ps_if (pt_val (C8.pe_c c_l_is_unlike hr (by decide) (by rfl) (pa_cons (pv 4) pa_nil))) (pss_one (ps_ret pe_bl)) pss_nil)))))))))))), ?_⟩
  refine sd_known (rs := firstRuns tabs.length) (kvs := kvs) hp (by rw [List.map_map]; exact (pp.map (·.1)).nodup_iff.mpr lk.nd) (by rw [List.length_map, pp.length_eq]; exact hL) (ed_is (ed_rep (k := tabs.length) (ed_lst (ea_cons (ed_tup (ea_cons ed_int (ea_cons (ed_tup (ea_cons ed_int (ea_cons ed_int (ea_cons ed_int ea_nil)))) ea_nil))) ea_nil)) (ed_is (ed_lenT (ea_cons (ed_var rfl) ea_nil)) (by rw [List.length_map])) (by omega) (by show 1 ≤ 100; decide)) (by rw [runs0])) ?_
  refine sd_parQ (eq_drawN (m := 3) hk rfl ed_int (by decide)) (eq_ed (d := .none) ed_non) ?_
  rintro _ _ ⟨habit, _, rfl⟩ rfl
  obtain ⟨⟨r0, j0⟩, hg0⟩ := Option.isSome_iff_exists.mp hin
  refine sd_while (α := List Run × Ty × Nat × Nat × D) (fun z ρ => BI tabs L z.1 z.2.1 z.2.2.1 z.2.2.2.1 ∧ (z.2.2.2.2 = .none ∨ ∃ m : Nat, z.2.2.2.2 = eN m ∧ z.2.2.1 < m) ∧ Wk ρ (ρW tabs kvs z.1 habit z.2.2.2.2)) (fun z => z.2.2.1) (firstRuns tabs.length, firstTy tabs.length, r0, j0, .none) ⟨⟨play_first (by omega) _, hg0⟩, .inl rfl, .refl _⟩ ?_
  rintro ⟨rs, ty, r, j, ld⟩ ρ ⟨bi, hld, wk⟩
  dsimp only at bi hld wk
  have hks := lk.inK (ty, (r, j)) (get_mem bi.get)
  obtain ⟨ft, tl, tr⟩ := ok.fit ty (gk.inU _ hks)
  have hhead := bi.play.head
  have hlen := bi.play.len
  obtain ⟨l, hl1, hl2, hstep⟩ := bi_step lk hL bi
  have hg : get kvs ty = some (r, l) := by
    have h1 : (ty, (r, j)) ∈ L' := pp.mem_iff.mpr (get_mem bi.get)
    refine get_of_mem (by rw [List.map_map]; exact (pp.map (·.1)).nodup_iff.mpr lk.nd) (List.mem_map.mpr ⟨_, h1, ?_⟩)
    rw [List.getD_eq_getElem?_getD, hl1]; rfl
  have lok := let_ok bi.play n3 hl2
  refine sdx_wkL wk ?_
  refine sdx_seq (sn_asg (d := eTy ty) (ed_call (ea_cons (ed_var rfl) ea_nil) ⟨rs, rfl, by omega, by rw [hhead]⟩)) ?_
  refine sdx_seq (sn_whenN (b := false) ?_ rfl) ?_
  · refine et_is (et_or (b := false) (et_test (ed_niTy (ev := evB) (L := kvs) (ed_var rfl) (ed_var rfl))) fun _ => ?_) (by rw [hg]; rfl)
    rcases hld with rfl | ⟨m, rfl, hrm⟩
    · exact et_is (et_and (b := false) (et_test (ed_notN (ed_var rfl))) fun h => nomatch h) rfl
    · exact et_is (et_and (et_test (ed_notN (ed_var rfl))) fun _ => et_test (ed_b0 (i := (r : Int)) (j := (m : Int)) (ed_ixT (ed_ixTy (ev := evB) (v := (r, l)) (ed_var rfl) (ed_var rfl) hg) ed_int rfl) (ed_var rfl))) (by rw [decide_eq_false (by omega)]; rfl)
  refine sdx_seq (sn_asgG (ed_ixTy (ev := evB) (v := (r, l)) (L := kvs) (ed_var rfl) (ed_var rfl) hg) gd_tup2) ?_
  refine sdx_bind (P1 := fun d => ∃ b : Bool, d = .bool b) (eq_ifQ (et_test (ed_eqI (ed_var rfl) ed_int)) (fun _ => ?_) fun _ => eq_of (ed_eqI (ed_var rfl) ed_int) ⟨_, rfl⟩) ?_
  · refine eq_op (eq_drawN (m := 2) hk rfl ed_int (by decide)) (eq_ed (d := .int 0) ed_int) ?_
    rintro _ _ ⟨i, _, rfl⟩ rfl x y H _ hx hy Q q
    rw [hx.int_inv, hy.int_inv]
    exact ⟨rfl, q (.bool _) _ H ⟨_, rfl⟩ (.refl H) (.bl _)⟩
  rintro _ ⟨pass, rfl⟩
  refine sdx_seq (sn_asg (d := .list ((moved tabs rs (pieceBy rs l) pass).map eRun)) (ed_call (ea_cons (ed_var rfl) (ea_cons (ed_var rfl) (ea_cons (ed_call (ea_cons (ed_var rfl) (ea_cons (ed_var rfl) ea_nil)) ⟨rs, l, rfl, lok, rfl⟩) (ea_cons (ed_var rfl) ea_nil)))) ⟨tabs, rs, pieceBy rs l, pass, rfl, by omega, n2, n3, state_ok bi.play ft, rfl⟩)) ?_
  refine sdx_if (et_val (ed_call (ea_cons (ed_var rfl) ea_nil) ⟨moved tabs rs (pieceBy rs l) pass, rfl, by rw [moved_len (by omega) (by omega)]; omega, rfl⟩)) (fun _ => sd_ret ed_bl) fun hu => ?_
  rcases hstep pass with h | ⟨_, ty', r', j', hr, bi'⟩
  · rw [h] at hu; cases hu
  · exact ⟨(moved tabs rs (pieceBy rs l) pass, ty', r', j', eN r), hr, bi', .inr ⟨r, rfl, hr⟩, wkC⟩
end FW
end PartFun19
section PartMat3
set_option Elab.async false
set_option linter.all false
set_option maxRecDepth 100000
set_option maxHeartbeats 2000000
/-! The sorts' hashes. -/
namespace FW
open PySem PySem.Spec PyProof.Rows L2
def hashNs (l : List Nat) : Int := reduceHash (Builtin.Tuple.tupleHashOf (l.map fun n : Nat => hashInt (n : Int)))
def hashTy (t : Ty) : Int := reduceHash (Builtin.Tuple.tupleHashOf [hashNs (sts t), hashNs (bgs t), hashNs (ens t), hashNs []])
def litU2 : List Int := [-8455882786446346143, 4359414621933169134, 5717360822078333181, 1521811572690604793, 717684667542031751, 7806206065495018500, 7840479598645642395, -5679816182404659561, 76487400724872614, 3859392975046745774, -1772053690283290565, 3984249892846241610, 4138564666071162761, 4177257588007998511, -1467153613937164105, 6107368669413550824, 475922004083514485, 6232225587213046660, 2742196310465042663, 2780889232401878413, -2863521969543284203, -56713816840685928, 4869734475818563732, 68143100958809908, -6454214666787377240, 5028864926768683463, 6386811126913847510, -7353611333220871294, 4129468260335189409, -7228754415421375458, 7022440408900447770, 6218313503751874728, -5139909172004690139, -2531775910893056776, -8163222576223093115, -2406918993093560940, 1219614013037099542, -3982870275095841628, 7504008505841513249, 5882318984414794329, -5479702878723064712, 6007175902214290165, 6041449435364914060, 838965147231972890, -6120900145540223849, 259596825472794470, -5371849839857241869, 7430483031907147131, -1237235778154428614, -6868682443484464953, 5933650428279924047, -5476462710188677011, -550014417529427351, 5206289165600104824, 8220797731528750943, 370641537745321076, -5273769664199841540, -2466961511497243265, -8098408176827279604, -2342104593697747429, 3422744137260699168, 2618617232112126126, 3976563432257290173, -8090490579265428485, -8894617484414001527, 2592261296523353350, 6285561162855890579, 5481434257707317537, 6839380457852481584, 5558199900176071356, 4754072995027498314, 4840236990890158400, 6642272341997460222, 6680965263934295972, 1036554061989133356, 8241719597676099759, 8769810507350981291, 3125399305405818675, 4418078475690417915, -6943943387447441126, -6857779391584781040]
theorem hash_u2 : (U2 3 3).map hashTy = litU2 := by decide +kernel
theorem lit_u2 : litU2.Nodup := by decide +kernel
def litU3 : List Int := [389819067135917114, -6925200862838883638, -7599245391004193487, -1986402033057420539, 3904144900607553405, 4072920199527652348, -952448627170421922, 4938098306494552022, 5106873605414650965, 536303949563857962, -7621535807496351582, -7452760508576252639, 8348003505221100040, 5860303335427762585, 6029078634347861528, -6047140954812257994, 5084583188922492870, -2635490627877673804, 6362911001782175089, 5207428646812292208, 5376203945732391151, 1398006070996737640, 4640881099011222887, -6591058387143372961, -7266563191228797692, 3865160952505953172, -1207240958643724805, -6814586599069141435, -7083577240409085362, 3643093016500299580, -9190807699262479088, -3300260765597505144, -3131485466677406201, -1110825004740623646, -2266307359710506527, -2097532060790407584, 1173448092977882179, -6141571836996918573, -6815616365162228422, 8495749660897078475, 337909903836868931, 506685202756967874, -168819601328456857, -4836167625652768912, 5890502631256616030, -7829443220712832042, -1938896287047858098, -1770120988127759155, -5748318862863412666, 5383405280871338198, -2336668535928828476, 4876675775706012410, -3281163981354197134, -8842963880241920893, 7654464190421813352, -4058913122537355528, -4732957650702665377, -3469978315368541968, 2420568618296431976, 2589343917216530919, 1913839113131106188, 1644848471791162261, 7973161345716179075, -9034899079783932346, -5792024051769447099, -5623248752849348156, 8845297446124549949, 1530277516149749197, -3542124394999928780, 8069577299619280234, 6914094944649397353, -4317844541505198495]
theorem hash_u3 : (U3 2 2 2).map hashTy = litU3 := by decide +kernel
theorem lit_u3 : litU3.Nodup := by decide +kernel
theorem hashes_ints (w : World) : ∀ l : List Nat, NestedKey.hashes w (nks (l.map eN)) = l.map fun n : Nat => hashInt (n : Int)
  | [] => rfl
  | n :: l => by
    show NestedKey.hash w (.num (n : Int)) :: NestedKey.hashes w (nks (l.map eN)) = _
    rw [hashes_ints w l]
    rfl
theorem hash_ns (w : World) (l : List Nat) : NestedKey.hash w (nk (eNs l)) = hashNs l := by
  show reduceHash (Builtin.Tuple.tupleHashOf (NestedKey.hashes w (nks (l.map eN)))) = _
  rw [hashes_ints]; rfl
theorem hash_ty (w : World) (t : Ty) : (nk (eTy t)).hash w = hashTy t := by
  show reduceHash (Builtin.Tuple.tupleHashOf [NestedKey.hash w (nk (eNs (sts t))), NestedKey.hash w (nk (eNs (bgs t))), NestedKey.hash w (nk (eNs (ens t))), NestedKey.hash w (nk (eNs []))]) = _
  rw [hash_ns, hash_ns, hash_ns, hash_ns]; rfl
theorem inj_nodup {α β : Type} {f : α → β} : ∀ {l : List α}, (l.map f).Nodup → ∀ a ∈ l, ∀ b ∈ l, f a = f b → a = b
  | [], _, a, h => nomatch h
  | x :: l, nd, a, ha => fun b hb e => by
    rw [List.map_cons, List.nodup_cons] at nd
    rcases List.mem_cons.mp ha with h1 | h1 <;> rcases List.mem_cons.mp hb with h2 | h2
    · rw [h1, h2]
    · subst h1; exact absurd (List.mem_map.mpr ⟨b, h2, e.symm⟩) nd.1
    · subst h2; exact absurd (List.mem_map.mpr ⟨a, h1, e⟩) nd.1
    · exact inj_nodup nd.2 a h1 b h2 e
theorem flat_const {α β : Type} {m : Nat} (f : α → List β) (hf : ∀ b, (f b).length = m) : ∀ l : List α, (l.flatMap f).length = l.length * m
  | [] => by simp
  | x :: l => by rw [List.flatMap_cons, List.length_append, hf, flat_const f hf l, List.length_cons, Nat.add_mul]; omega
theorem U2_len (n0 n1 : Nat) : (U2 n0 n1).length = n0 * (n1 * 9) := by
  unfold U2
  rw [flat_const (m := n1 * 9) _ (fun s0 => by rw [flat_const (m := 9) _ (fun s1 => rfl), List.length_range]), List.length_range]
theorem U2_mono {n0 n1 : Nat} (h0 : n0 ≤ 3) (h1 : n1 ≤ 3) {t : Ty} (h : t ∈ U2 n0 n1) : t ∈ U2 3 3 := by
  obtain ⟨s0, s1, b, e, a1, a2, a3, a4, rfl⟩ := mem_U2.mp h
  exact mem_U2.mpr ⟨s0, s1, b, e, by omega, by omega, a3, a4, rfl⟩
theorem U3_mono {n0 n1 n2 : Nat} (h0 : n0 ≤ 2) (h1 : n1 ≤ 2) (h2 : n2 ≤ 2) {t : Ty} (h : t ∈ U3 n0 n1 n2) : t ∈ U3 2 2 2 := by
  obtain ⟨s0, s1, s2, b, e, a1, a2, a3, a4, a5, rfl⟩ := mem_U3.mp h
  exact mem_U3.mpr ⟨s0, s1, s2, b, e, by omega, by omega, by omega, a4, a5, rfl⟩
theorem twos_le {b : Nat × Nat} (h : b ∈ twos) : b.1 ≤ 1 ∧ b.2 ≤ 1 := by
  simp only [twos, List.mem_cons, List.not_mem_nil, or_false] at h
  rcases h with rfl | rfl | rfl <;> decide
theorem good2 (w : World) {t0 t1 : Tab} (k0 : TabOk t0) (k1 : TabOk t1) (h0 : t0.length ≤ 3) (h1 : t1.length ≤ 3) : Good w [t0, t1] (U2 t0.length t1.length) where
  ok := {
    cl := closed2 k0 k1
    fit := fun t ht => by
      obtain ⟨s0, s1, b, e, a1, a2, a3, a4, rfl⟩ := mem_U2.mp ht
      have hb := twos_le a3
      have he := twos_le a4
      refine ⟨⟨Nat.le_refl 2, (by show 2 ≤ 3; decide), fun i t x h1 h2 => ?_⟩, rfl, ⟨(fun h => nomatch h), (by show 2 ≤ 3; decide), fun x hx => ?_⟩⟩
      · match i, h1, h2 with
        | 0, h1, h2 => cases h1; cases h2; exact ⟨k0, a1⟩
        | 1, h1, h2 => cases h1; cases h2; exact ⟨k1, a2⟩
        | i + 2, h1, h2 => cases h1
      · simp only [List.mem_cons, List.not_mem_nil, or_false] at hx
        rcases hx with rfl | rfl <;> constructor <;> dsimp only <;> omega
    few := by
      rw [U2_len]
      have : t0.length * (t1.length * 9) ≤ 3 * (3 * 9) := Nat.mul_le_mul h0 (Nat.mul_le_mul h1 (Nat.le_refl 9))
      omega
    n := .inl rfl }
  hh := fun a ha b hb e => inj_nodup (f := hashTy) (hash_u2 ▸ lit_u2) a (U2_mono h0 h1 ha) b (U2_mono h0 h1 hb) (by rw [← hash_ty w, ← hash_ty w]; exact e)
  small := .inl rfl
theorem U3_len (n0 n1 n2 : Nat) : (U3 n0 n1 n2).length = n0 * (n1 * (n2 * 9)) := by
  unfold U3
  rw [flat_const (m := n1 * (n2 * 9)) _ (fun s0 => by rw [flat_const (m := n2 * 9) _ (fun s1 => by rw [flat_const (m := 9) _ (fun s2 => rfl), List.length_range]), List.length_range]), List.length_range]
theorem good3 (w : World) {t0 t1 t2 : Tab} (k0 : TabOk t0) (k1 : TabOk t1) (k2 : TabOk t2) (h0 : t0.length ≤ 2) (h1 : t1.length ≤ 2) (h2 : t2.length ≤ 2) (hc : Calm t1 ∧ Calm t2 ∨ t1 = t2) : ∃ U, Good w [t0, t1, t2] U := by
  obtain ⟨U, ⟨c1, c2⟩, hU⟩ := closed3 k0 k1 k2 hc
  have mem : ∀ t, t ∈ (U3 2 2 2).filter (fun t => decide (t ∈ U)) ↔ t ∈ U := fun t => by
    rw [List.mem_filter, decide_eq_true_eq]
    exact ⟨fun h => h.2, fun h => ⟨U3_mono h0 h1 h2 (hU t h), h⟩⟩
  refine ⟨(U3 2 2 2).filter fun t => decide (t ∈ U), ⟨⟨⟨(mem _).mpr c1, fun t ht l hl t' h => (mem _).mpr (c2 t ((mem _).mp ht) l hl t' h)⟩, fun t ht => ?_, ?_, .inr rfl⟩, fun a ha b hb e => ?_, .inr ⟨t0, t1, t2, rfl, by omega, by omega, ?_⟩⟩⟩
  · obtain ⟨s0, s1, s2, b, e, a1, a2, a3, a4, a5, rfl⟩ := mem_U3.mp (hU t ((mem _).mp ht))
    have hb := twos_le a4
    have he := twos_le a5
    refine ⟨⟨Nat.le_refl 3, Nat.le_refl 3, fun i t x h1 h2 => ?_⟩, rfl, ⟨(fun h => nomatch h), Nat.le_refl 3, fun x hx => ?_⟩⟩
    · match i, h1, h2 with
      | 0, h1, h2 => cases h1; cases h2; exact ⟨k0, a1⟩
      | 1, h1, h2 => cases h1; cases h2; exact ⟨k1, a2⟩
      | 2, h1, h2 => cases h1; cases h2; exact ⟨k2, a3⟩
      | i + 3, h1, h2 => cases h1
    · simp only [List.mem_cons, List.not_mem_nil, or_false] at hx
      rcases hx with rfl | rfl | rfl <;> constructor <;> dsimp only <;> omega
  · have := List.length_filter_le (fun t => decide (t ∈ U)) (U3 2 2 2)
    rw [U3_len] at this
    omega
  · exact inj_nodup (f := hashTy) (hash_u3 ▸ lit_u3) a (List.mem_filter.mp ha).1 b (List.mem_filter.mp hb).1 (by rw [← hash_ty w, ← hash_ty w]; exact e)
  · have a := Nat.mul_le_mul h0 h1
    exact Nat.mul_le_mul a h2
end FW
end PartMat3
section PartFun20
set_option Elab.async false
set_option linter.all false
set_option maxRecDepth 100000
set_option maxHeartbeats 2000000
/-! The deck is made. -/
namespace FW
open PySem PySem.Spec PyProof.Rows L2
/-- where the script lies -/
structure HasSc {w : World} (F : Fm w) (K : PySem.W.Frag) (p : Addr) (ns : List Int) : Prop where
  own : ∀ x, F.own x 3 ↔ x = p
  sc : ∀ H, F.J H → SqL K H p (ns.map V.int)
/-- with the object at p as it is -/
def Fm.sc (w : World) (p : Addr) (o : HO) : Fm w := ⟨fun x => x = p, fun H => H p = some o, fun H H' h _ J => h p o rfl J, fun H x J m => ⟨o, by rw [m]; exact J⟩, fun x k => k = 3 ∧ x = p⟩
def Fm.sc0 (w : World) (p : Addr) : Fm w := ⟨fun _ => False, fun _ => True, fun _ _ _ _ _ => trivial, fun _ _ _ h => h.elim, fun x k => k = 3 ∧ x = p⟩
theorem has_sc {w : World} {K : PySem.W.Frag} {H : Hp} {p : Addr} {ns : List Int} (h : SqL K H p (ns.map V.int)) : ∃ F : Fm w, HasSc F K p ns ∧ F.J H := by
  rcases h with (h | ⟨o, h⟩) | h
  · exact ⟨Fm.sc w p (.lst (ns.map V.int)), ⟨fun x => ⟨fun z => z.2, fun z => ⟨rfl, z⟩⟩, fun H' J => .inl (.inl J)⟩, h⟩
  · exact ⟨Fm.sc w p (.frz o (.lst (ns.map V.int))), ⟨fun x => ⟨fun z => z.2, fun z => ⟨rfl, z⟩⟩, fun H' J => .inl (.inr ⟨o, J⟩)⟩, h⟩
  · exact ⟨Fm.sc0 w p, ⟨fun x => ⟨fun z => z.2, fun z => ⟨rfl, z⟩⟩, fun H' J => .inr h⟩, trivial⟩
section
variable {w : World} {F : Fm w} {K : PySem.W.Frag} {ρ ρ1 : Ro} {te : TE} {t u : TS} {p : Addr} {ns : List Int} {R : Ro → Prop} {P : V → Hp → Prop}
theorem ed_script {k i : Nat} (hp : HasSc F K p ns) (e : ρ[i]? = some (some (ownD 3))) : ED F K (tSl (rSlL K) (tVar i) tNoPart (tPart (tC (.int (k : Int))))) ρ (.list ((ns.take k).map .int)) := fun σ H J E Q q => by
  obtain ⟨v, hv, qv⟩ := E.at_ i _ e
  have ev : v = .ref p := by
    cases qv with
    | dict n h q => cases q with | cons h1 t z h2 r => exact nomatch t
    | own h => rw [(hp.own _).mp h]
  subst ev
  refine ⟨_, hv, k, rfl, p, _, rfl, hp.sc H J, fun a ha => ?_⟩
  rw [cutV_to, ← List.map_take]
  exact q _ _ (.new ha) (.newL J ha (ints_dq _))
theorem sdv_snx (h1 : SNX F K t ρ R) (h2 : ∀ ρ', R ρ' → SDV F K u ρ' P) : SDV F K (tSeq t u) ρ P := fun σ H De J E q => h1 σ H { De with nx := u De } J E fun ρ' σ' H1 r e1 E1 => h2 ρ' r σ' H1 De (e1.inv J) E1 fun v H2 p2 e2 => q v H2 p2 (e1.trans e2)
theorem sdv_wk (k : Wk ρ ρ1) (h : SDV F K u ρ1 P) : SDV F K u ρ P := fun σ H De J E q => h σ H De J (k.env E) q
/-- return [cells, m, 0] -/
theorem sdv_deck {te2 : TE} {cs : List Int} {m : Int} (h : ED F K te ρ (.list (cs.map .int))) (h2 : ED F K te2 ρ (.int m)) (h0 : ∀ c ∈ cs, 0 ≤ c) (hl : cs.length ≤ 60) :
    SDV F K (tRet (tLst (tCons te (tCons te2 (tCons (tC (.int 0)) tNil))))) ρ (fun v H => ∃ a b, v = .ref a ∧ Deck H a b) := fun σ H De J E q =>
  h σ H J E _ fun v H1 e1 q1 => h2 σ H1 (e1.inv J) (E.mono e1) _ fun v2 H2 e2 q2 => by
    obtain ⟨b, xs, rfl, n, hb, hd⟩ := q1.lst_get
    have ex := ints_inv hd
    subst ex
    have ei := q2.int_inv
    subst ei
    have hb2 := e2.keep _ _ n hb
    refine ⟨sz_le (by show 3 ≤ 100000; decide), fun a ha => q _ _ ⟨a, b, rfl, m, 0, cs, upd_same, ?_, h0, hl⟩ ((e1.trans e2).trans (.new ha))⟩
    rw [upd_ne (ne_of_none hb2 ha)]
    exact hb2
end
def sp_deck (K : PySem.W.Frag) : Sp := fun vs H Q _ => ∃ (p : Addr) (ns : List Int), vs = [.ref p] ∧ SqL K H p (ns.map V.int) ∧ ∀ a b H', Deck H' a b → Q (.ref a) H'
abbrev ρC (cs : List Int) (m : Int) : Ro := [some (ownD 3), some (.list (cs.map .int)), some (.int m), none]
theorem sc_l_deck : FnScope ["_law_script", "_law_cells", "_law_mixed", "_law_cell"] ["_law_script"] (defScope s_l_deck) := ⟨rfl, rfl, rfl, by decide +kernel, rfl, by decide +kernel, by decide +kernel⟩
theorem c_l_deck {P : Program} {w : World} {K : PySem.W.Frag} {mg : Str → Option Value} {base : Heap} (T : TT K mg) : C8.Cal P w K mg base 1 "_law_deck" (sp_deck K) [] := by
  obtain ⟨f, fd, FD, hm⟩ := T.d_l_deck
  refine cal_mk (FD.ok sc_l_deck (fun vs H Q E hs => ?_) (fun cdv A outer s H vs Q E hr hs => ?_)) hm FD.kp (FD.bindsN fun _ _ _ _ _ _ us hl => match us, hl with | [_], _ => rfl)
  · obtain ⟨p, ns, rfl, _⟩ := hs
    rfl
  obtain ⟨p, ns, rfl, hsc, kq⟩ := hs
  obtain ⟨F, hp, J⟩ := has_sc (w := w) hsc
  refine ⟨_, PSs.nox (pss_cons (ps_par (i := 1) (j := 2) rfl sc_l_deck.nd rfl rfl (by decide) rfl rfl (pa_cons (pe_lc (own := [("_law_cell", 3)]) (g := gName 3) rfl sc_l_deck.nd (pi_listK (K := K) rfl (pe_slice sl_list (pv 0) po_none (po_some pe_int))) (blkOk_by (by kernel_rfl)) (fun _ _ _ _ _ => (pg_name (i := 3) sc_l_deck.nd rfl (Or.inl rfl))) (fun _ _ _ _ _ => pts_nil) (fun _ _ _ _ _ => (pe_callB call_abs (by rfl) T.n_abs (by decide +kernel) (pa_cons (pv 3) pa_nil)))) (pa_cons pe_int pa_nil)) (by rfl))
    (pss_cons (ps_for PassesOwn.never rfl (pi_listK (K := K) rfl (pv 1)) (pg_name (i := 3) sc_l_deck.nd rfl (Or.inl rfl)) (pss_one (ps_set (i := 2) sc_l_deck.nd rfl (Or.inl rfl) (pe_op op_mod (pe_op op_add (pe_op op_add (pe_op op_mul (pv 2) pe_int) (pv 3)) pe_int) pe_int))))
    (pss_one (ps_ret (pe_lst (pa_cons (pe_lc (own := [("_law_cell", 3)]) (g := gName 3) rfl sc_l_deck.nd (pi_listK (K := K) rfl (pv 1)) (blkOk_by (by kernel_rfl)) (fun _ _ _ _ _ => (pg_name (i := 3) sc_l_deck.nd rfl (Or.inl rfl))) (fun _ _ _ _ _ => (pts_one (pt_cmpR op_ge (pv 3) (pe_op op_pow pe_int pe_int) (nomark _)))) (fun _ _ _ _ _ => (pv 3))) (pa_cons (pv 2) (pa_cons pe_int pa_nil)))))))), ?_⟩
  have J0 : DqAll F K H [.ref p] [ownD 3] := .one (.own ((hp.own p).mpr rfl))
  let cs : List Int := (ns.take 60).map fun n => if n < 0 then -n else n
  have c0 : ∀ c ∈ cs, 0 ≤ c := fun c hc => by
    obtain ⟨n, _, rfl⟩ := List.mem_map.mp hc
    split <;> omega
  have cl : cs.length ≤ 60 := by rw [List.length_map, List.length_take]; omega
  refine (?_ : SDV F K _ (ro0 ["_law_script", "_law_cells", "_law_mixed", "_law_cell"] [ownD 3]) (fun v H' => ∃ a b, v = .ref a ∧ Deck H' a b)) _ H _ J (env0 J0) fun v H' ⟨a, b, e, dk⟩ _ => by subst e; exact kq a b H' dk
  refine sdv_seq (sn_par (d1 := .list (cs.map .int)) (ea_cons (ed_is (ed_lcA (ns.take 60) .int (fun n => .int (if n < 0 then -n else n)) _ [3] (id_list (ed_script (k := 60) hp rfl)) (by rw [List.length_take]; omega) (by decide) (fun n _ => gd_name) (fun n _ => ed_abs (ea_cons (ed_var rfl) ea_nil)) fun _ _ => rfl) (by rw [List.map_map]; rfl)) (ea_cons ed_int ea_nil))) ?_
  refine sdv_snx (snx_for cs .int (fun _ ρ => ∃ m : Int, Wk ρ (ρC cs m)) (id_list (ed_var rfl)) ⟨_, .refl _⟩ ?_) ?_
  · rintro i x ρ _ ⟨m, wk⟩
    refine ⟨[3], _, gd_name, snx_wkL (ρ1 := (ρC cs m).set 3 (some (.int x))) (wk_both wk) (snx_of (sn_asg (d := .int ((m * 16777619 + x + 1) % 4294967291)) (ed_iI (ed_i0 (ed_i0 (ed_iI (ed_var rfl) ed_int (.inr ⟨by decide, by decide⟩)) (ed_var rfl)) ed_int) ed_int (by decide))) ⟨_, wk_cons (wk_cons (wk_cons (wk_skip (.refl _))))⟩)⟩
  · rintro ρ ⟨m, wk⟩
    refine sdv_wk wk (sdv_deck (cs := cs.filter fun x => decide (x ≥ 10 ^ (18 : Int).toNat)) (m := m) (ed_lc cs .int (fun x => decide (x ≥ 10 ^ (18 : Int).toNat)) .int _ [3] (id_list (ed_var rfl)) (by omega) (by decide) (fun x _ => gd_name) (fun x _ => et_test (ed_b0 (ed_var rfl) (ed_iI ed_int ed_int (by unfold CPow; decide)))) (fun x _ _ => ed_var rfl) fun _ _ => rfl) (ed_var rfl) (fun c hc => c0 c (List.mem_filter.mp hc).1) (Nat.le_trans (List.length_filter_le _ _) cl))
end FW
end PartFun20
section PartFun21
set_option Elab.async false
set_option linter.all false
set_option maxRecDepth 100000
set_option maxHeartbeats 2000000
/-! The law. -/
namespace FW
open PySem PySem.Spec PyProof.Rows L2
/-- the deck alone may change -/
def Fm.dk (w : World) (a b : Addr) : Fm w := ⟨fun x => x = a ∨ x = b, fun H => Deck H a b, fun H H' h _ ⟨m, n, cs, h1, h2, h3⟩ => ⟨m, n, cs, h a _ (.inl rfl) h1, h b _ (.inr rfl) h2, h3⟩,
  fun H x ⟨m, n, cs, h1, h2, _⟩ e => e.elim (fun e => ⟨_, (congrArg H e).trans h1⟩) fun e => ⟨_, (congrArg H e).trans h2⟩, fun x k => k = 0 ∧ x = a⟩
theorem has_dk (w : World) (a b : Addr) : HasDk (Fm.dk w a b) a b := ⟨fun x => ⟨fun z => z.2, fun z => ⟨rfl, z⟩⟩, .inl rfl, .inr rfl, fun _ J => J, fun _ _ _ d _ _ => d⟩
section
variable {w : World} {F : Fm w} {K : PySem.W.Frag} {H H' : Hp} {a b p c : Addr} {o : Obj} {kind : Str} {xs : List V} {rows : List D}
/-- and the paper is as it is -/
def Fm.pap (F : Fm w) (K : PySem.W.Frag) (p c : Addr) (o : Obj) (kind : Str) (xs : List V) (rows : List D) (tn : tonlyAll rows = true) : Fm w := ⟨fun x => F.M x ∨ x = c, fun H => F.J H ∧ SqT K H p [.str kind, .ref c] ∧ H c = some (.frz o (.tup xs)) ∧ DqAll (Fm.none w) K H xs rows,
  fun H H' h t J => ⟨F.mono H H' (fun x o m => h x o (.inl m)) t J.1, sqT_k t J.2.1, h c _ (.inr rfl) J.2.2.1, DqAll.tk t rows tn J.2.2.2⟩,
  fun H x J m => m.elim (F.live H x J.1) fun e => ⟨_, (congrArg H e).trans J.2.2.1⟩, fun x k => F.own x k ∨ (k = 2 ∧ x = p)⟩
variable {tn : tonlyAll rows = true}
theorem HasDk.pap (hk : HasDk F a b) : HasDk (F.pap K p c o kind xs rows tn) a b where
  own x := ⟨fun h => h.elim (hk.own x).mp fun h => absurd h.1 (by decide), fun h => .inl ((hk.own x).mpr h)⟩
  ma := .inl hk.ma
  mb := .inl hk.mb
  deck H J := hk.deck H J.1
  keep H H' J d k t := by
    obtain ⟨J1, J2, J3, J4⟩ := J
    obtain ⟨m, n, cs, h1, h2, _⟩ := hk.deck H J1
    exact ⟨hk.keep H H' J1 d k t, sqT_k t J2, k _ _ (fun e => by subst e; rw [J3] at h1; cases h1) (fun e => by subst e; rw [J3] at h2; cases h2) J3, DqAll.tk t rows tn J4⟩
theorem hasPap (hf : ∀ x, ¬ F.own x 2) (ho : o.dict = none) : HasPap (F.pap K p c o kind xs rows tn) K p kind rows where
  own x := ⟨fun h => h.elim (fun h => absurd h (hf x)) fun h => h.2, fun h => .inr ⟨rfl, h⟩⟩
  pap H J := ⟨c, xs, J.2.1, ⟨o, ho, J.2.2.1⟩, J.2.2.2⟩
  tn := tn
theorem Xt.out_pap (J : (F.pap K p c o kind xs rows tn).J H) (x : Xt (F.pap K p c o kind xs rows tn) H H') : Xt F H H' := ⟨fun z u m h => by
  by_cases e : z = c
  · subst e
    rw [J.2.2.1] at h
    cases h
    exact (x.inv J).2.2.1
  · exact x.keep z u (fun k => k.elim m e) h, x.tups, fun _ => (x.inv J).1⟩
end
abbrev ρL0 : Ro := [none, some (ownD 0), none, none, none, none, none]
abbrev ρL1 (tabs : List Tab) : Ro := [none, some (ownD 0), none, some (eTabs tabs), none, none, none]
abbrev ρL2 (tabs : List Tab) : Ro := [none, some (ownD 0), none, some (eTabs tabs), none, some (ownD 2), none]
/-- what the paper says of the tables -/
def Says (tabs : List Tab) (U : List Ty) (kind : Str) (rows : List D) : Prop := kind = "fails" ∧ PFail tabs U rows ∨ kind = "serves" ∧ PServ tabs U rows
theorem Says.tn {tabs : List Tab} {U : List Ty} {kind : Str} {rows : List D} (h : Says tabs U kind rows) : tonlyAll rows = true := by
  rcases h with ⟨_, ⟨ks, L, _, _, _, p⟩⟩ | ⟨_, ⟨ks, L, ps, _, _, _, p⟩⟩
  · exact tonlyAll_perm p (tonlyAll_map' to_rowF)
  · exact tonlyAll_perm p (tonlyAll_map' (to_rowS _ _))
section
variable {w : World} {F : Fm w} {K : PySem.W.Frag} {ρ ρ1 : Ro} {te : TE} {tas : TA} {tt : L2.TT} {t u : TS} {a b : Addr} {P1 : D → Prop}
/-- a block behind which the paper is found -/
def SPap {w : World} (F : Fm w) (K : PySem.W.Frag) (ts : TS) (ρ : Ro) : Prop := ∀ (σ : L2.St) (H : Hp) (De : Ends), F.J H → Env F K H σ ρ →
  (∀ tabs U v kind rows σ' H', Xt F H H' → Env F K H' σ' (ρL1 tabs) → σ'[5]? = some (some v) → Paper F K H' v kind rows → GOk tabs U → Says tabs U kind rows → De.nx σ' H') → ts De σ H
theorem spap_seq (h1 : SN F K t ρ ρ1) (h2 : SPap F K u ρ1) : SPap F K (tSeq t u) ρ := fun σ H De J E q => h1 σ H { De with nx := u De } J E fun σ' H1 e1 E1 => h2 σ' H1 De (e1.inv J) E1 fun tabs U v kind rows σ2 H2 e2 => q tabs U v kind rows σ2 H2 (e1.trans e2)
theorem spap_bind {i : Nat} (h : EQ F K te ρ P1) (hu : ∀ d, P1 d → SPap F K u (ρ.set i (some d))) : SPap F K (tSeq (tAsg te (gName i)) u) ρ := fun σ H De J E q => h σ H J E _ fun d v H1 p e1 q1 =>
  hu d p _ H1 De (e1.inv J) ((E.mono e1).set i q1) fun tabs U v kind rows σ2 H2 e2 => q tabs U v kind rows σ2 H2 (e1.trans e2)
theorem spap_if {c : Bool} (h : ET F K tt ρ c) (h1 : c = true → SPap F K t ρ) (h2 : c = false → SPap F K u ρ) : SPap F K (tIfS tt t u) ρ := fun σ H De J E q => h σ H J E _ fun H1 e1 => by
  cases c with
  | true => exact h1 rfl σ H1 De (e1.inv J) (E.mono e1) fun tabs U v kind rows σ2 H2 e2 => q tabs U v kind rows σ2 H2 (e1.trans e2)
  | false => exact h2 rfl σ H1 De (e1.inv J) (E.mono e1) fun tabs U v kind rows σ2 H2 e2 => q tabs U v kind rows σ2 H2 (e1.trans e2)
theorem spap_find {tabs : List Tab} {U : List Ty} (h : EA F K tas ρ (tabs.map eTab)) (g : Good w tabs U) (k : Wk ρ (ρL1 tabs)) : SPap F K (tAsg (tCallR (sp_find_tidy w K) tas) (gName 5)) ρ := fun σ H De J E q => h σ H J E _ fun vs H1 e1 q1 => by
  refine ⟨F, e1.inv J, tabs, U, q1, g, fun v H2 e2 hv => ?_⟩
  have E2 := (k.env (E.mono (e1.trans e2))).unset 5 (some v)
  have el : σ.length = 7 := E.len.trans k.len.symm
  have s5 : (σ.set 5 (some v))[5]? = some (some v) := by rw [List.getElem?_set_self (by omega)]
  rcases hv with ⟨rows, hp, pp⟩ | ⟨rows, hp, pp⟩
  · exact q tabs U v "fails" rows _ H2 (e1.trans e2) E2 s5 pp g.ok (.inl ⟨rfl, hp⟩)
  · exact q tabs U v "serves" rows _ H2 (e1.trans e2) E2 s5 pp g.ok (.inr ⟨rfl, hp⟩)
theorem sn_pap (hk : HasDk F a b) (hf : ∀ x, ¬ F.own x 2) (h : SPap F K t ρ) (hu : ∀ (G : Fm w) (p : Addr) (kind : Str) (rows : List D) (tabs : List Tab) (U : List Ty), HasDk G a b → HasPap G K p kind rows → GOk tabs U → Says tabs U kind rows → SN G K u (ρL2 tabs) (ρL2 tabs)) : SN F K (tSeq t u) ρ ρL0 := fun σ H De J E q =>
  h σ H { De with nx := u De } J E fun tabs U v kind rows σ1 H1 e1 E1 s5 pp ok sy => by
    obtain ⟨p, c, xs, rfl, hs, ⟨o, ho, hc⟩, hd⟩ := pp
    have tn := sy.tn
    have JG : (F.pap K p c o kind xs rows tn).J H1 := ⟨e1.inv J, hs, hc, DqAll.to tn hd⟩
    have hkG : HasDk (F.pap K p c o kind xs rows tn) a b := hk.pap
    have hpG : HasPap (F.pap K p c o kind xs rows tn) K p kind rows := hasPap hf ho
    have EG : Env (F.pap K p c o kind xs rows tn) K H1 σ1 (ρL2 tabs) := by
      refine ⟨E1.len, fun i d e => ?_⟩
      match i, e with
      | 0, e => cases e
      | 1, e =>
        cases e
        obtain ⟨v, hv, qv⟩ := E1.at_ 1 _ rfl
        have := own_inv hk qv
        subst this
        exact ⟨_, hv, own_dk hkG⟩
      | 2, e => cases e
      | 3, e =>
        cases e
        obtain ⟨v, hv, qv⟩ := E1.at_ 3 _ rfl
        exact ⟨_, hv, Dq.to (to_tabs tabs) qv⟩
      | 4, e => cases e
      | 5, e =>
        cases e
        exact ⟨_, s5, .own ((hpG.own p).mpr rfl)⟩
      | 6, e => cases e
      | i + 7, e => cases e
    refine hu _ p kind rows tabs U hkG hpG ok sy σ1 H1 De JG EG fun σ2 H2 e2 E2 => q σ2 H2 (e1.trans (e2.out_pap JG)) ⟨E2.len, fun i d e => ?_⟩
    match i, e with
    | 0, e => cases e
    | 1, e =>
      cases e
      obtain ⟨v, hv, qv⟩ := E2.at_ 1 _ rfl
      have := own_inv hkG qv
      subst this
      exact ⟨_, hv, own_dk hk⟩
    | 2, e => cases e
    | 3, e => cases e
    | 4, e => cases e
    | 5, e => cases e
    | 6, e => cases e
    | i + 7, e => cases e
theorem sn_bindQ {i : Nat} (h : EQ F K te ρ P1) (hu : ∀ d, P1 d → SN F K u (ρ.set i (some d)) ρ1) : SN F K (tSeq (tAsg te (gName i)) u) ρ ρ1 := fun σ H De J E q => h σ H J E _ fun d v H1 p e1 q1 =>
  hu d p _ H1 De (e1.inv J) ((E.mono e1).set i q1) fun σ2 H2 e2 E2 => q σ2 H2 (e1.trans e2) E2
end
theorem first_asg {te : TE} {u : TS} {i : Nat} {De : Ends} {σ : L2.St} {H : Hp} (h : te σ H fun v H1 => u De (σ.set i (some v)) H1) : tSeq (tAsg te (gName i)) u De σ H := h
theorem calm_told : ((["first", "least"] : List Str).all fun s => decide (s ∈ namesL) && (decide ((told s).length ≤ 1) && calmB (told s))) = true := by decide +kernel
theorem told_calm {s : Str} (h : s ∈ (["first", "least"] : List Str)) : s ∈ namesL ∧ (told s).length ≤ 1 ∧ Calm (told s) := by
  have := List.all_eq_true.mp calm_told s h
  simp only [Bool.and_eq_true, decide_eq_true_eq] at this
  exact ⟨this.1, this.2.1, calmB_ok this.2.2⟩
def sp_law (K : PySem.W.Frag) : Sp := fun vs H Q _ => ∃ (p : Addr) (ns : List Int), vs = [.ref p] ∧ SqL K H p (ns.map V.int) ∧ ∀ H', Q (.bl true) H'
theorem sc_law : FnScope ["_law_script", "_law_deck_here", "_law_turn", "_law_tables", "_law_third", "_law_paper", "_law_time"] ["_law_script"] (defScope s_law) := ⟨rfl, rfl, rfl, by decide +kernel, rfl, by decide +kernel, by decide +kernel⟩
theorem c_law {P : Program} {w : World} {K : PySem.W.Frag} {mg : Str → Option Value} {base : Heap} (T : TT K mg) {f : Addr} {fd : FuncData} (FD : FunD K "law" "law" (defArgs s_law) (defBody s_law) (defScope s_law) [] [] f fd) : FnOk P w K mg base CX0 8 f fd ["_law_script"] (sp_law K) := by
  have c_l_deck := c_l_deck (P := P) (w := w) (base := base) T
  have c_l_pair := c_l_pair (P := P) (w := w) (base := base) T
  have c_l_is_calm := c_l_is_calm (P := P) (w := w) (base := base) T
  have c_told_table := c_told_table (P := P) (w := w) (base := base) T
  have c_l_pick := c_l_pick (P := P) (w := w) (base := base) T
  have c_find_tidy := c_find_tidy (P := P) (w := w) (base := base) T
  have c_l_beaten := c_l_beaten (P := P) (w := w) (base := base) T
  have c_l_kept := c_l_kept (P := P) (w := w) (base := base) T
  refine FD.ok sc_law (fun vs H Q E hs => ?_) (fun cdv A outer s H vs Q E hr hs => ?_)
  · obtain ⟨p, ns, rfl, _⟩ := hs
    rfl
  obtain ⟨p, ns, rfl, hsc, kq⟩ := hs
  refine ⟨_, PSs.nox (pss_cons (ps_set (i := 1) sc_law.nd rfl (Or.inl rfl) (C8.pe_c c_l_deck hr (by decide) (by rfl) (pa_cons (pv 0) pa_nil)))
    (pss_cons (ps_for PassesOwn.never rfl (pi_range1 (by rfl) T.n_range (pa_cons pe_int pa_nil)) (pg_name (i := 2) sc_law.nd rfl (Or.inl rfl)) (pss_cons (ps_set (i := 3) sc_law.nd rfl (Or.inl rfl) (C8.pe_c c_l_pair hr (by decide) (by rfl) (pa_cons (pv 1) (pa_cons (pe_ix (ixK (K := K) rfl) (pe_lst (pa_cons pe_int (pa_cons pe_int (pa_cons pe_int (pa_cons pe_int (pa_cons pe_int pa_nil)))))) (pv 2) (fun _ _ => rfl)) pa_nil))))
    (pss_cons (ps_if (PW.pt (pw_and (pt_cmpR op_eq (pv 2) pe_int (nomark _)) (pw_and1 (pt_cmpR op_lt (pe_op op_mul (pe_callB (lenK (K := K) rfl) (by rfl) T.n_len (by decide +kernel) (pa_cons (pe_ix (ixK (K := K) rfl) (pv 3) pe_int (fun _ _ => rfl)) pa_nil)) (pe_callB (lenK (K := K) rfl) (by rfl) T.n_len (by decide +kernel) (pa_cons (pe_ix (ixK (K := K) rfl) (pv 3) pe_int (fun _ _ => rfl)) pa_nil))) pe_int (nomark _))))) (pss_cons (ps_set (i := 4) sc_law.nd rfl (Or.inl rfl) (pe_ifExp (pt_val (C8.pe_c c_l_is_calm hr (by decide) (by rfl) (pa_cons (pe_ix (ixK (K := K) rfl) (pv 3) pe_int (fun _ _ => rfl)) pa_nil))) (C8.pe_c c_told_table hr (by decide) (by rfl) (pa_cons (C8.pe_c c_l_pick hr (by decide) (by rfl) (pa_cons (pv 1) (pa_cons (pe_lst (pa_cons pe_str (pa_cons pe_str pa_nil))) pa_nil))) pa_nil)) (pe_ix (ixK (K := K) rfl) (pv 3) pe_int (fun _ _ => rfl))))
    (pss_cons (ps_set (i := 3) sc_law.nd rfl (Or.inl rfl) (pe_op op_catT (pv 3) (pe_tup (pa_cons (pv 4) pa_nil))))
    (pss_one (ps_set (i := 5) sc_law.nd rfl (Or.inl rfl) (pe_cR c_find_tidy hr (by decide) (by rfl) (pa_cons (pe_ix (ixK (K := K) rfl) (pv 3) pe_int (fun _ _ => rfl)) (pa_cons (pe_ix (ixK (K := K) rfl) (pv 3) pe_int (fun _ _ => rfl)) (pa_cons (pe_ix (ixK (K := K) rfl) (pv 3) pe_int (fun _ _ => rfl)) pa_nil)))))))) (pss_one (ps_set (i := 5) sc_law.nd rfl (Or.inl rfl) (pe_cR c_find_tidy hr (by decide) (by rfl) (pa_cons (pe_ix (ixK (K := K) rfl) (pv 3) pe_int (fun _ _ => rfl)) (pa_cons (pe_ix (ixK (K := K) rfl) (pv 3) pe_int (fun _ _ => rfl)) pa_nil))))))
    (pss_one (ps_for PassesOwn.never rfl (pi_range1 (by rfl) T.n_range (pa_cons pe_int pa_nil)) (pg_name (i := 6) sc_law.nd rfl (Or.inl rfl)) (pss_cons (ps_if (PW.pt (pw_and (pt_cmpR op_eq (pe_ix (ixK (K := K) rfl) (pv 5) pe_int (fun _ _ => rfl)) pe_str (nomark _)) (pw_and1 (pt_not (pt_val (C8.pe_c c_l_beaten hr (by decide) (by rfl) (pa_cons (pv 1) (pa_cons (pv 3) (pa_cons (pv 5) pa_nil))))))))) (pss_one (ps_ret pe_bl)) pss_nil)
    (pss_one (ps_if (PW.pt (pw_and (pt_cmpR op_eq (pe_ix (ixK (K := K) rfl) (pv 5) pe_int (fun _ _ => rfl)) pe_str (nomark _)) (pw_and1 (pt_not (pt_val (C8.pe_c c_l_kept hr (by decide) (by rfl) (pa_cons (pv 1) (pa_cons (pv 3) (pa_cons (pv 5) pa_nil))))))))) (pss_one (ps_ret pe_bl)) pss_nil))))))))
    (pss_one (ps_ret pe_bl)))), ?_⟩
  refine first_asg ⟨_, rfl, p, ns, rfl, hsc, fun a b H1 dk => ?_⟩
  show tSeq _ _ _ _ H1
  have hk := has_dk w a b
  have hf1 : ∀ x, ¬ (Fm.dk w a b).own x 1 := fun x h => absurd h.1 (by decide)
  have hf2 : ∀ x, ¬ (Fm.dk w a b).own x 2 := fun x h => absurd h.1 (by decide)
  refine (?_ : SD (Fm.dk w a b) K _ ρL0 (.bool true)) _ H1 _ dk ⟨rfl, fun i d e => ?_⟩ fun v H' _ q => by rw [q.bl_inv]; exact kq H'
  rotate_left
  · match i, e with
    | 0, e => cases e
    | 1, e => cases e; exact ⟨_, rfl, own_dk hk⟩
    | 2, e => cases e
    | 3, e => cases e
    | 4, e => cases e
    | 5, e => cases e
    | 6, e => cases e
    | i + 7, e => cases e
  refine sd_seq (sn_for (List.range 5) eN (fun _ => ρL0) (id_rng1 (n := 5) (ea_cons ed_int ea_nil) (by decide)) (.refl _) fun i x hi => ?_) (sd_ret ed_bl)
  have hx : x < 5 := by
    have := List.mem_of_getElem? hi
    simpa using this
  refine ⟨[2], _, ρL0, gd_name, ?_, .refl _⟩
  -- how many states
  obtain ⟨z, z1, z3, hz, hz4⟩ : ∃ z : Nat, 1 ≤ z ∧ z ≤ 3 ∧ ([1, 2, 1, 3, 1] : List Nat)[x]? = some z ∧ (x = 4 → z = 1) := by
    have : x = 0 ∨ x = 1 ∨ x = 2 ∨ x = 3 ∨ x = 4 := by omega
    rcases this with rfl | rfl | rfl | rfl | rfl
    · exact ⟨1, by decide, by decide, rfl, by decide⟩
    · exact ⟨2, by decide, by decide, rfl, by decide⟩
    · exact ⟨1, by decide, by decide, rfl, by decide⟩
    · exact ⟨3, by decide, by decide, rfl, by decide⟩
    · exact ⟨1, by decide, by decide, rfl, by decide⟩
  refine sn_bindQ (eq_callK1 (pre := preTable) (post := IsPair) (ds := [ownD 0, eN z]) hk hf1 (ea_cons (ed_var rfl) (ea_cons (ed_ixL (ds := ([1, 2, 1, 3, 1] : List Nat).map eN) (ed_lst (ea_cons ed_int (ea_cons ed_int (ea_cons ed_int (ea_cons ed_int (ea_cons ed_int ea_nil)))))) (ed_var rfl) (atI_nat (by rw [List.getElem?_map, hz]; rfl))) ea_nil)) z ⟨rfl, z1, z3⟩) ?_
  rintro _ ⟨t, u, tok, uok, tl, ul, rfl⟩
  refine sn_pap hk hf2 (spap_if (et_and (et_test (ed_eqI (ed_var rfl) ed_int)) fun _ => et_test (ed_b0 (ed_mul (ed_lenT (ea_cons (ed_ixT (d := eTab t) (ed_var rfl) ed_int rfl) ea_nil)) (ed_lenT (ea_cons (ed_ixT (d := eTab u) (ed_var rfl) ed_int rfl) ea_nil)) (Int.natCast_nonneg _) (by rw [List.length_map]; omega)) ed_int)) (fun hc => ?_) fun _ => ?_) fun G p kind rows tabs U hkG hpG ok sy => ?_
  · -- three tables
    have hx4 : x = 4 := by
      simp only [Bool.and_eq_true, decide_eq_true_eq] at hc
      omega
    have hz1 := hz4 hx4
    subst hz1
    have t2 : t.length ≤ 2 := by omega
    have u2 : u.length ≤ 2 := by omega
    refine spap_bind (P1 := fun d => ∃ v : Tab, TabOk v ∧ v.length ≤ 2 ∧ (Calm u ∧ Calm v ∨ u = v) ∧ d = eTab v) (eq_ifQ (et_val (ed_call (ea_cons (ed_ixT (d := eTab u) (ed_var rfl) ed_int rfl) ea_nil) ⟨u, rfl, by have := uok.most; omega, uok.line, rfl⟩)) (fun hcalm => ?_) fun _ => eq_of (ed_ixT (d := eTab u) (ed_var rfl) ed_int rfl) ⟨u, uok, u2, .inr rfl, rfl⟩) ?_
    · refine eq_callR (eaq_cons (eq_pickN (ss := ["first", "least"]) hk rfl (ed_lst (ea_cons ed_str (ea_cons ed_str ea_nil))) (by decide)) eaq_nil) ?_
      rintro _ ⟨_, _, ⟨s, hs, rfl⟩, rfl, rfl⟩
      obtain ⟨k1, k2, k3⟩ := told_calm hs
      exact ⟨_, ⟨s, rfl, k1, rfl⟩, told s, told_ok k1, by omega, .inl ⟨calmB_ok hcalm, k3⟩, rfl⟩
    rintro _ ⟨v, vok, v2, hcv, rfl⟩
    obtain ⟨U, gd⟩ := good3 w tok uok vok t2 u2 v2 hcv
    refine spap_seq (sn_asg (d := eTabs [t, u, v]) (ed_catT (ds := [eTab t, eTab u]) (es := [eTab v]) (ed_var rfl) (ed_tup (ea_cons (ed_var rfl) ea_nil)) (fun h => nomatch h) (fun h => nomatch h) (by show 3 ≤ 100000; decide))) ?_
    exact spap_find (tabs := [t, u, v]) (ea_cons (ed_ixT (ed_var rfl) ed_int rfl) (ea_cons (ed_ixT (ed_var rfl) ed_int rfl) (ea_cons (ed_ixT (ed_var rfl) ed_int rfl) ea_nil))) gd (wk_skip (wk_cons (wk_skip (wk_cons (wk_skip (.refl _))))))
  · have gd := good2 w tok uok (by omega) (by omega)
    exact spap_find (tabs := [t, u]) (ea_cons (ed_ixT (ed_var rfl) ed_int rfl) (ea_cons (ed_ixT (ed_var rfl) ed_int rfl) ea_nil)) gd (wk_skip (wk_cons (wk_skip (.refl _))))
  · refine sn_wk (sn_for (List.range 4) eN (fun _ => ρL2 tabs) (id_rng1 (n := 4) (ea_cons ed_int ea_nil) (by decide)) (.refl _) fun i x _ => ?_) (.refl _)
    refine ⟨[6], (ρL2 tabs).set 6 (some (eN x)), (ρL2 tabs).set 6 (some (eN x)), gd_name, ?_, wk_set (i := 6) (.refl _) rfl⟩
    rcases sy with ⟨rfl, hF⟩ | ⟨rfl, hS⟩
    · refine sn_seq (sn_whenN (et_and (et_test (ed_eqS (ed_pap0 hpG rfl) ed_str)) fun _ => et_not (et_val (ed_callP hkG hpG (ea_cons (ed_var rfl) (ea_cons (ed_var rfl) (ea_cons (ed_var rfl) ea_nil))) ⟨U, ok, hF⟩))) (by rfl)) ?_
      exact sn_whenN (et_and (b := false) (et_test (ed_eqS (ed_pap0 hpG rfl) ed_str)) fun h => absurd h (by decide)) (by decide)
    · refine sn_seq (sn_whenN (et_and (b := false) (et_test (ed_eqS (ed_pap0 hpG rfl) ed_str)) fun h => absurd h (by decide)) (by decide)) ?_
      exact sn_whenN (et_and (et_test (ed_eqS (ed_pap0 hpG rfl) ed_str)) fun _ => et_not (et_val (ed_callP hkG hpG (ea_cons (ed_var rfl) (ea_cons (ed_var rfl) (ea_cons (ed_var rfl) ea_nil))) ⟨U, ok, hS⟩))) (by rfl)
end FW
end PartFun21
set_option Elab.async false
set_option linter.all false
set_option maxRecDepth 100000
set_option maxHeartbeats 4000000
namespace FW
open PySem PySem.Spec PyProof.Rows L2
theorem law_fact {P : Program} {w : World} {K : PySem.W.Frag} {h : Heap} {mg : Str → Option Value} {f : Addr} (X : K.In h) (G : h.Ns mainGlobals mg) (hfa : mg ("law" : Str) = some (.ref f)) (c : SaysE K) :
    ∃ fd : FuncData, (∀ (s : Shared) (v : Value), BindsTo s fd ⟨[v], []⟩ [("_law_script", v)]) ∧ ∀ base : Heap, K.In base → base.Ns mainGlobals mg → FnOk P w K mg base CX0 8 f fd ["_law_script"] (sp_law K) := by
  have T : FW.TT K mg := ⟨⟨h, X, G⟩, c⟩
  obtain ⟨f', fd, FD, hm⟩ := T.d_law
  have e := hfa.symm.trans hm
  cases e
  have b := FunD.bindsA (ps := ["_law_script"]) FD fun _ _ _ _ _ _ us hl => match us, hl with | [_], _ => rfl
  exact ⟨fd, fun s v => b s [v] rfl, fun base _ _ => c_law T FD⟩
end FW
open PySem PySem.W PySem.Calls PyProof.Rows
theorem PySem.Challenge.cw_fragweave_k49_whole_tidy_against_trying_holds : PySem.Challenge.rw_fragweave_k49_whole_tidy_against_trying.Holds := by
  w_on; o_law
  refine HandSHeadRun.head_any (r := OpenLaw.row PySem.Challenge.rw_fragweave_k49_whole_tidy_against_trying) (q := view (OpenLaw.row PySem.Challenge.rw_fragweave_k49_whole_tidy_against_trying).prog [68]) (H := FW.hk) (ob := FW.ob) (M := 4000) (loose := FW.looseA ++ FW.looseB) (d := HandSHeadRun.topDef (OpenLaw.row PySem.Challenge.rw_fragweave_k49_whole_tidy_against_trying).prog 68) (kwd := []) FW.ob_eq
    (by kernel_rfl) (fun s => by kernel_rfl) FW.run (by kernel_rfl) (by kernel_rfl) (by kernel_rfl) (by rfl) (by first | assumption | decide +kernel) (by decide +kernel) ⟨rfl, rfl, rfl, rfl, rfl, by decide +kernel⟩ ?hw ?hc
  case hw => w_witness2
  case hc =>
    refine L2.walk_ofE (l := PySem.Challenge.rw_fragweave_k49_whole_tidy_against_trying) (n := 63) (k := 8) (x := "_law_script") (CX := L2.CX0) rfl (by decide) (by kernel_rfl) ⟨rfl, by decide, by decide⟩ ?F (fun _ _ _ _ z => z)
    intro w mg fa h Y G hmg0
    obtain ⟨K, KX, c⟩ := Y
    have hmg : mg ("law" : PySem.Str) = some (.ref fa) := by
      have e : (HandSHeadRun.topDef (OpenLaw.row PySem.Challenge.rw_fragweave_k49_whole_tidy_against_trying).prog 68).name = ("law" : PySem.Str) := by kernel_rfl
      rw [← e]
      exact hmg0
    obtain ⟨fd, hb, hF⟩ := FW.law_fact (P := (PySem.Challenge.rw_fragweave_k49_whole_tidy_against_trying).prog) (w := w) KX G hmg c
    exact ⟨K, fd, FW.sp_law K, KX, hb, fun H a ns hl _ hS => ⟨a, ns, rfl, hS, fun _ => rfl⟩, hF⟩
