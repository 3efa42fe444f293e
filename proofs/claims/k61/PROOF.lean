import PyProof.Rows.All
import Wide.All
import OpenK.AllK
import Wide.FinOn
import KE.KStateDown
import Lean
import HandS.Base
import HandS.Call
import HandS.List
import HandS.Comp
import HandS.Iter
import HandS.Ends
import HandS.More
import HandS.Words
import HandS.WordsList
import HandS.WordsExc
import HandS.Exc
import HandS.TryOnly
import HandS.ExcOwn
import HandS.ExcInit
import HandS.ExcField
import HandS.ExcIs
import HandS.ExcCtx
import HandS.TryMany
import HandS.Hot
import HandS.HotCalls
import HandS.Defaults
import HandS.Flow
import HandS.Style
import HandS.TupAny
import HandS.Conv
import HandS.RevRange
import HandS.IsInst
import HandS.SortInts
import HandS.Evl
import HandS.HeadEnd
import HandS.HeadHook1
import HandS.HeadHook2
import HandS.Head0
import HandS.Head1
import HandS.Head2
import KE.KExcSuper
import KE.KIsAll
import KE.KTryMore
import PySem.Challenge.RW_everypast_k61_whole_stairs
set_option Elab.async false
set_option linter.all false
set_option maxRecDepth 100000
set_option maxHeartbeats 0
/-! Plain mathematics: sums, closed sets, price terms, the best ratio. Core Lean only. -/
namespace KM

/-! ### sums over the first n -/
def sumTo : Nat → (Nat → Int) → Int
  | 0, _ => 0
  | n + 1, f => sumTo n f + f n

theorem sumTo_congr : ∀ {n : Nat} {f g : Nat → Int}, (∀ k, k < n → f k = g k) → sumTo n f = sumTo n g
  | 0, _, _, _ => rfl
  | n + 1, f, g, h => by
    show sumTo n f + f n = sumTo n g + g n
    rw [sumTo_congr (n := n) fun k hk => h k (by omega), h n (by omega)]
theorem sumTo_zero : ∀ {n : Nat} {f : Nat → Int}, (∀ k, k < n → f k = 0) → sumTo n f = 0
  | 0, _, _ => rfl
  | n + 1, f, h => by
    show sumTo n f + f n = 0
    rw [sumTo_zero (n := n) fun k hk => h k (by omega), h n (by omega)]
    rfl
theorem sumTo_add : ∀ (n : Nat) (f g : Nat → Int), sumTo n (fun k => f k + g k) = sumTo n f + sumTo n g
  | 0, _, _ => rfl
  | n + 1, f, g => by
    show sumTo n (fun k => f k + g k) + (f n + g n) = sumTo n f + f n + (sumTo n g + g n)
    rw [sumTo_add n f g]
    omega
theorem sumTo_sub : ∀ (n : Nat) (f g : Nat → Int), sumTo n (fun k => f k - g k) = sumTo n f - sumTo n g
  | 0, _, _ => rfl
  | n + 1, f, g => by
    show sumTo n (fun k => f k - g k) + (f n - g n) = sumTo n f + f n - (sumTo n g + g n)
    rw [sumTo_sub n f g]
    omega
theorem sumTo_mul : ∀ (n : Nat) (c : Int) (f : Nat → Int), sumTo n (fun k => c * f k) = c * sumTo n f
  | 0, c, _ => by show (0 : Int) = c * 0; omega
  | n + 1, c, f => by
    show sumTo n (fun k => c * f k) + c * f n = c * (sumTo n f + f n)
    rw [sumTo_mul n c f, Int.mul_add]
theorem sumTo_le : ∀ {n : Nat} {f g : Nat → Int}, (∀ k, k < n → f k ≤ g k) → sumTo n f ≤ sumTo n g
  | 0, _, _, _ => Int.le_refl _
  | n + 1, f, g, h => by
    show sumTo n f + f n ≤ sumTo n g + g n
    have h1 := sumTo_le (n := n) fun k hk => h k (by omega)
    have h2 := h n (by omega)
    omega
theorem sumTo_nonneg {n : Nat} {f : Nat → Int} (h : ∀ k, k < n → 0 ≤ f k) : 0 ≤ sumTo n f := by
  have e := sumTo_le (n := n) (f := fun _ => 0) (g := f) h
  rw [sumTo_zero fun _ _ => rfl] at e
  exact e
/-- terms that are not positive, with sum 0, are 0 -/
theorem sumTo_allZero : ∀ {n : Nat} {f : Nat → Int}, (∀ k, k < n → f k ≤ 0) → sumTo n f = 0 → ∀ k, k < n → f k = 0
  | 0, _, _, _, _, hk => by omega
  | n + 1, f, h, e, k, hk => by
    have e1 : sumTo n f + f n = 0 := e
    have h1 : sumTo n f ≤ sumTo n (fun _ => (0 : Int)) := sumTo_le fun k hk => h k (by omega)
    rw [sumTo_zero (f := fun _ => (0 : Int)) fun _ _ => rfl] at h1
    have h2 := h n (by omega)
    by_cases c : k = n
    · subst c; omega
    · exact sumTo_allZero (n := n) (fun k hk => h k (by omega)) (by omega) k (by omega)
theorem sumTo_pos : ∀ {n : Nat} {f : Nat → Int}, (∀ k, k < n → 0 ≤ f k) → (∃ k, k < n ∧ 0 < f k) → 0 < sumTo n f
  | 0, _, _, ⟨k, hk, _⟩ => by omega
  | n + 1, f, h, ⟨k, hk, hp⟩ => by
    show 0 < sumTo n f + f n
    have h1 := sumTo_nonneg (n := n) (f := f) fun k hk => h k (by omega)
    have h2 := h n (by omega)
    by_cases c : k = n
    · subst c; omega
    · have := sumTo_pos (n := n) (fun k hk => h k (by omega)) ⟨k, by omega, hp⟩
      omega
theorem sumTo_comm : ∀ (n m : Nat) (f : Nat → Nat → Int), sumTo n (fun i => sumTo m (fun j => f i j)) = sumTo m (fun j => sumTo n (fun i => f i j))
  | 0, m, f => by
    show (0 : Int) = sumTo m (fun _ => 0)
    rw [sumTo_zero fun _ _ => rfl]
  | n + 1, m, f => by
    show sumTo n (fun i => sumTo m (fun j => f i j)) + sumTo m (fun j => f n j) = sumTo m (fun j => sumTo n (fun i => f i j) + f n j)
    rw [sumTo_comm n m f, sumTo_add]
/-- one term out of all: the wall x -/
theorem sumTo_one : ∀ (n : Nat) (x : Int) (f : Nat → Int), sumTo n (fun k => if x = (k : Int) + 1 then f k else 0) = if 1 ≤ x ∧ x ≤ n then f (x - 1).toNat else 0
  | 0, x, f => by
    show (0 : Int) = _
    rw [if_neg (by omega)]
  | n + 1, x, f => by
    show sumTo n (fun k => if x = (k : Int) + 1 then f k else 0) + (if x = (n : Int) + 1 then f n else 0) = _
    rw [sumTo_one n x f]
    by_cases c : x = (n : Int) + 1
    · rw [if_neg (by omega), if_pos c, if_pos (by omega)]
      have : (x - 1).toNat = n := by omega
      rw [this]; omega
    · rw [if_neg c]
      by_cases d : 1 ≤ x ∧ x ≤ n
      · rw [if_pos d, if_pos (by omega)]; omega
      · rw [if_neg d, if_neg (by omega)]; rfl

/-! ### lists of tunnels -/
/-- the item of the tunnel w (tunnels count from 1) -/
def nth (xs : List Int) (w : Int) : Int := xs.getD (w - 1).toNat 0
def tot (vs ws : List Int) : Int := (ws.map (nth vs)).sum
def walls (n : Nat) : List Int := (List.range n).map fun (i : Nat) => (i : Int) + 1

theorem nth_succ (xs : List Int) (k : Nat) : nth xs ((k : Int) + 1) = xs.getD k 0 := by
  unfold nth
  have : ((k : Int) + 1 - 1).toNat = k := by omega
  rw [this]
theorem tot_nil (vs : List Int) : tot vs [] = 0 := rfl
theorem tot_cons (vs : List Int) (w : Int) (ws : List Int) : tot vs (w :: ws) = nth vs w + tot vs ws := by
  unfold tot
  rw [List.map_cons, List.sum_cons]
theorem tot_append (vs : List Int) : ∀ (xs ys : List Int), tot vs (xs ++ ys) = tot vs xs + tot vs ys
  | [], ys => by rw [List.nil_append, tot_nil]; omega
  | x :: xs, ys => by
    rw [List.cons_append, tot_cons, tot_cons, tot_append vs xs ys]
    omega
theorem tot_perm {vs xs ys : List Int} (h : xs.Perm ys) : tot vs xs = tot vs ys := by
  induction h with
  | nil => rfl
  | cons x _ ih => rw [tot_cons, tot_cons, ih]
  | swap x y l => rw [tot_cons, tot_cons, tot_cons, tot_cons]; omega
  | trans _ _ h1 h2 => rw [h1, h2]
theorem tot_filter (vs : List Int) (p : Int → Bool) : ∀ (xs : List Int), tot vs (xs.filter p) + tot vs (xs.filter fun x => !p x) = tot vs xs
  | [] => rfl
  | x :: xs => by
    have ih := tot_filter vs p xs
    cases h : p x with
    | true =>
      rw [List.filter_cons_of_pos (by simp [h]), List.filter_cons_of_neg (by simp [h]), tot_cons, tot_cons]
      omega
    | false =>
      rw [List.filter_cons_of_neg (by simp [h]), List.filter_cons_of_pos (by simp [h]), tot_cons, tot_cons]
      omega
theorem tot_nonneg {vs : List Int} (h : ∀ v ∈ vs, 0 ≤ v) (ws : List Int) : 0 ≤ tot vs ws := by
  induction ws with
  | nil => exact Int.le_refl _
  | cons w ws ih =>
    rw [tot_cons]
    have : 0 ≤ nth vs w := by
      unfold nth
      rw [List.getD_eq_getElem?_getD]
      cases e : vs[(w - 1).toNat]? with
      | none => exact Int.le_refl _
      | some v => exact h v (List.mem_of_getElem? e)
    omega
theorem mem_walls {n : Nat} {w : Int} : w ∈ walls n ↔ 1 ≤ w ∧ w ≤ n := by
  unfold walls
  rw [List.mem_map]
  constructor
  · rintro ⟨i, hi, rfl⟩
    have := List.mem_range.mp hi
    omega
  · intro h
    exact ⟨(w - 1).toNat, List.mem_range.mpr (by omega), by omega⟩
theorem walls_length (n : Nat) : (walls n).length = n := by
  unfold walls
  rw [List.length_map, List.length_range]
theorem walls_sorted (n : Nat) : (walls n).Pairwise (· < ·) := by
  unfold walls
  rw [List.pairwise_map]
  refine List.Pairwise.imp ?_ List.pairwise_lt_range
  intro a b h
  omega
theorem nodup_of_sorted {xs : List Int} (h : xs.Pairwise (· < ·)) : xs.Nodup := by
  refine List.Pairwise.imp ?_ h
  intro a b h
  omega
/-- a sum over a list of tunnels is a sum over all tunnels -/
theorem tot_sumTo (n : Nat) (vs : List Int) : ∀ (S : List Int), S.Nodup → (∀ w ∈ S, 1 ≤ w ∧ w ≤ n) → tot vs S = sumTo n (fun k => if ((k : Int) + 1) ∈ S then vs.getD k 0 else 0)
  | [], _, _ => by
    rw [sumTo_zero]
    · rfl
    · intro k _
      rw [if_neg (by simp)]
  | x :: S, hn, hr => by
    obtain ⟨hx, hS⟩ := List.nodup_cons.mp hn
    have ih := tot_sumTo n vs S hS fun w hw => hr w (List.mem_cons_of_mem _ hw)
    have hrx := hr x List.mem_cons_self
    rw [tot_cons, ih]
    have e : sumTo n (fun k => if ((k : Int) + 1) ∈ x :: S then vs.getD k 0 else 0) = sumTo n (fun k => (if x = (k : Int) + 1 then vs.getD k 0 else 0) + (if ((k : Int) + 1) ∈ S then vs.getD k 0 else 0)) := by
      refine sumTo_congr fun k _ => ?_
      by_cases c : x = (k : Int) + 1
      · have c2 : ¬ ((k : Int) + 1) ∈ S := by rw [← c]; exact hx
        rw [if_pos (by rw [c]; exact List.mem_cons_self), if_pos c, if_neg c2]
        omega
      · rw [if_neg c]
        by_cases d : ((k : Int) + 1) ∈ S
        · rw [if_pos (List.mem_cons_of_mem _ d), if_pos d]; omega
        · rw [if_neg d, if_neg (fun q => (List.mem_cons.mp q).elim (fun q => c q.symm) d)]; rfl
    rw [e, sumTo_add, sumTo_one, if_pos hrx]
    rfl

/-! ### trees, closed sets -/
structure Tree (par : List Int) : Prop where
  pos : 1 ≤ par.length
  ok : ∀ k : Nat, k < par.length → 0 ≤ par.getD k 0 ∧ par.getD k 0 ≤ k
structure Cl (par S : List Int) : Prop where
  nd : S.Nodup
  rng : ∀ w ∈ S, 1 ≤ w ∧ w ≤ par.length
  cl : ∀ w ∈ S, nth par w = 0 ∨ nth par w ∈ S
theorem Tree.nth {par : List Int} (T : Tree par) {w : Int} (h1 : 1 ≤ w) (h2 : w ≤ par.length) : 0 ≤ nth par w ∧ nth par w < w := by
  have := T.ok (w - 1).toNat (by omega)
  unfold KM.nth
  omega
theorem Cl.nil (par : List Int) : Cl par [] := ⟨List.nodup_nil, fun w h => by simp at h, fun w h => by simp at h⟩
theorem Cl.all {par : List Int} (T : Tree par) : Cl par (walls par.length) :=
  ⟨nodup_of_sorted (walls_sorted _), fun w h => mem_walls.mp h, fun w h => by
    have h' := mem_walls.mp h
    have := T.nth h'.1 h'.2
    by_cases c : KM.nth par w = 0
    · exact .inl c
    · exact .inr (mem_walls.mpr (by omega))⟩

/-! ### price terms -/
def pos (x : Int) : Int := max x 0
theorem pos_nonneg (x : Int) : 0 ≤ pos x := by unfold pos; omega
theorem pos_of {x : Int} (h : 0 ≤ x) : pos x = x := by unfold pos; omega
theorem pos_neg {x : Int} (h : x ≤ 0) : pos x = 0 := by unfold pos; omega
def stepT (par T : List Int) (i : Nat) : List Int :=
  if par.getD i 0 > 0 ∧ T.getD i 0 > 0 then T.set (par.getD i 0 - 1).toNat (T.getD (par.getD i 0 - 1).toNat 0 + T.getD i 0) else T
def runT (par T : List Int) : Nat → List Int
  | 0 => T
  | k + 1 => stepT par (runT par T k) (par.length - 1 - k)
def base (len wt : List Int) (a b : Int) (n : Nat) : List Int := (List.range n).map fun i => b * wt.getD i 0 - a * len.getD i 0
def terms (par len wt : List Int) (a b : Int) : List Int := runT par (base len wt a b par.length) par.length

theorem stepT_length (par T : List Int) (i : Nat) : (stepT par T i).length = T.length := by
  unfold stepT
  split
  · rw [List.length_set]
  · rfl
theorem runT_length (par T : List Int) : ∀ k, (runT par T k).length = T.length
  | 0 => rfl
  | k + 1 => by
    show (stepT par (runT par T k) _).length = _
    rw [stepT_length, runT_length par T k]
theorem base_length (len wt : List Int) (a b : Int) (n : Nat) : (base len wt a b n).length = n := by
  unfold base
  rw [List.length_map, List.length_range]
theorem terms_length (par len wt : List Int) (a b : Int) : (terms par len wt a b).length = par.length := by
  unfold terms
  rw [runT_length, base_length]
theorem base_get {len wt : List Int} {a b : Int} {n k : Nat} (h : k < n) : (base len wt a b n).getD k 0 = b * wt.getD k 0 - a * len.getD k 0 := by
  unfold base
  rw [List.getD_eq_getElem?_getD, List.getElem?_map, List.getElem?_range h]
  rfl
theorem getD_set (T : List Int) (j k : Nat) (v : Int) : (T.set j v).getD k 0 = if k = j ∧ j < T.length then v else T.getD k 0 := by
  rw [List.getD_eq_getElem?_getD, List.getD_eq_getElem?_getD, List.getElem?_set]
  by_cases c : j = k
  · subst c
    rw [if_pos rfl]
    by_cases d : j < T.length
    · rw [if_pos d, if_pos ⟨rfl, d⟩]; rfl
    · rw [if_neg d, if_neg (by omega), List.getElem?_eq_none (by omega)]
  · rw [if_neg c, if_neg (by omega)]

/-- the children's part of a term, the children from lo on -/
def kids (par T : List Int) (lo n k : Nat) : Int := sumTo n (fun c => if lo ≤ c ∧ par.getD c 0 = (k : Int) + 1 then pos (T.getD c 0) else 0)
theorem runT_fix {par T : List Int} (hT : Tree par) (hl : T.length = par.length) : ∀ (j : Nat), j ≤ par.length → ∀ k, k < par.length →
    (runT par T j).getD k 0 = T.getD k 0 + kids par (runT par T j) (par.length - j) par.length k
  | 0, _, k, hk => by
    show T.getD k 0 = T.getD k 0 + _
    unfold kids
    rw [sumTo_zero]
    · omega
    · intro c hc
      rw [if_neg (by omega)]
  | j + 1, hj, k, hk => by
    have ih := runT_fix hT hl j (by omega) k hk
    have hi : par.length - 1 - j < par.length := by omega
    generalize hR : runT par T j = R at ih
    have hRl : R.length = par.length := by rw [← hR, runT_length, hl]
    show (stepT par (runT par T j) (par.length - 1 - j)).getD k 0 = _ + kids par (stepT par (runT par T j) (par.length - 1 - j)) _ _ _
    rw [hR]
    generalize hi' : par.length - 1 - j = i at hi
    have hp := hT.ok i hi
    -- the terms of i and of what is behind it stay
    have stay : ∀ c, i ≤ c → (stepT par R i).getD c 0 = R.getD c 0 := fun c hc => by
      unfold stepT
      split
      · rename_i q
        rw [getD_set, if_neg (by omega)]
      · rfl
    have eq1 : kids par (stepT par R i) (par.length - (j + 1)) par.length k = kids par R (par.length - j) par.length k + (if par.getD i 0 = (k : Int) + 1 then pos (R.getD i 0) else 0) := by
      unfold kids
      have e2 : (if par.getD i 0 = (k : Int) + 1 then pos (R.getD i 0) else 0) = sumTo par.length (fun c => if ((i : Int) + 1) = (c : Int) + 1 then (if par.getD c 0 = (k : Int) + 1 then pos (R.getD c 0) else 0) else 0) := by
        rw [sumTo_one, if_pos (show 1 ≤ (i : Int) + 1 ∧ (i : Int) + 1 ≤ par.length by omega)]
        have : ((i : Int) + 1 - 1).toNat = i := by omega
        rw [this]
      rw [e2, ← sumTo_add]
      refine sumTo_congr fun c hc => ?_
      by_cases h1 : par.length - j ≤ c
      · rw [if_neg (show ¬ ((i : Int) + 1 = (c : Int) + 1) by omega)]
        by_cases h2 : par.getD c 0 = (k : Int) + 1
        · rw [if_pos ⟨by omega, h2⟩, if_pos ⟨h1, h2⟩, stay c (by omega)]; omega
        · rw [if_neg (fun q => h2 q.2), if_neg (fun q => h2 q.2)]; rfl
      · rw [if_neg (show ¬ (par.length - j ≤ c ∧ par.getD c 0 = (k : Int) + 1) from fun q => h1 q.1)]
        by_cases h3 : c = i
        · subst h3
          rw [if_pos rfl, stay c (Nat.le_refl _)]
          by_cases h2 : par.getD c 0 = (k : Int) + 1
          · rw [if_pos ⟨by omega, h2⟩, if_pos h2]; omega
          · rw [if_neg (fun q => h2 q.2), if_neg h2]; rfl
        · rw [if_neg (by omega), if_neg (by omega)]; rfl
    rw [eq1]
    have eq2 : (stepT par R i).getD k 0 = R.getD k 0 + (if par.getD i 0 = (k : Int) + 1 then pos (R.getD i 0) else 0) := by
      unfold stepT
      split
      · rename_i q
        rw [getD_set]
        by_cases h2 : par.getD i 0 = (k : Int) + 1
        · have ek : (par.getD i 0 - 1).toNat = k := by omega
          rw [ek, if_pos ⟨rfl, by omega⟩, if_pos h2, pos_of (by omega)]
        · rw [if_neg (by omega), if_neg h2]; omega
      · rename_i q
        by_cases h2 : par.getD i 0 = (k : Int) + 1
        · rw [if_pos h2, pos_neg (by omega)]; omega
        · rw [if_neg h2]; omega
    rw [eq2, ih]
    omega
/-- each term is its base and the positive terms of its children -/
theorem terms_fix {par len wt : List Int} (hT : Tree par) (a b : Int) {k : Nat} (hk : k < par.length) :
    (terms par len wt a b).getD k 0 = (b * wt.getD k 0 - a * len.getD k 0) + sumTo par.length (fun c => if par.getD c 0 = (k : Int) + 1 then pos ((terms par len wt a b).getD c 0) else 0) := by
  have h := runT_fix (T := base len wt a b par.length) hT (base_length ..) par.length (Nat.le_refl _) k hk
  unfold terms
  rw [h, base_get hk]
  congr 1
  unfold kids
  refine sumTo_congr fun c _ => ?_
  by_cases h2 : par.getD c 0 = (k : Int) + 1
  · rw [if_pos ⟨by omega, h2⟩, if_pos h2]
  · rw [if_neg (fun q => h2 q.2), if_neg h2]

/-! ### the greatest set of the terms -/
def gset (par T : List Int) : Nat → List Int
  | 0 => []
  | k + 1 => if 0 ≤ T.getD k 0 ∧ (par.getD k 0 = 0 ∨ par.getD k 0 ∈ gset par T k) then gset par T k ++ [(k : Int) + 1] else gset par T k
theorem gset_rng (par T : List Int) : ∀ k, ∀ w ∈ gset par T k, 1 ≤ w ∧ w ≤ k
  | 0, w, h => by simp [gset] at h
  | k + 1, w, h => by
    have ih := gset_rng par T k
    unfold gset at h
    split at h
    · rcases List.mem_append.mp h with h | h
      · have := ih w h; omega
      · have : w = (k : Int) + 1 := by simpa using h
        omega
    · have := ih w h; omega
theorem gset_sorted (par T : List Int) : ∀ k, (gset par T k).Pairwise (· < ·)
  | 0 => List.Pairwise.nil
  | k + 1 => by
    have ih := gset_sorted par T k
    unfold gset
    split
    · refine List.pairwise_append.mpr ⟨ih, by simp, fun a ha b hb => ?_⟩
      have h1 := gset_rng par T k a ha
      have h2 : b = (k : Int) + 1 := by simpa using hb
      omega
    · exact ih
theorem gset_length (par T : List Int) : ∀ k, (gset par T k).length ≤ k
  | 0 => Nat.le_refl _
  | k + 1 => by
    have ih := gset_length par T k
    unfold gset
    split
    · rw [List.length_append, List.length_singleton]; omega
    · omega
/-- who is in, told at the end -/
theorem gset_mem {par T : List Int} (hT : Tree par) : ∀ k, k ≤ par.length → ∀ j, j < k → (((j : Int) + 1) ∈ gset par T k ↔ 0 ≤ T.getD j 0 ∧ (par.getD j 0 = 0 ∨ par.getD j 0 ∈ gset par T k))
  | 0, _, j, hj => by omega
  | k + 1, hk, j, hj => by
    have ih := gset_mem (T := T) hT k (by omega)
    have hp := hT.ok j (by omega)
    have hpk := hT.ok k (by omega)
    -- a parent of a node up to k is in the part of k
    have mem_old : ∀ w : Int, w ≤ k → (w ∈ gset par T (k + 1) ↔ w ∈ gset par T k) := fun w hw => by
      rw [show gset par T (k + 1) = (if 0 ≤ T.getD k 0 ∧ (par.getD k 0 = 0 ∨ par.getD k 0 ∈ gset par T k) then gset par T k ++ [(k : Int) + 1] else gset par T k) from rfl]
      split
      · rw [List.mem_append]
        constructor
        · rintro (h | h)
          · exact h
          · have : w = (k : Int) + 1 := by simpa using h
            omega
        · exact .inl
      · exact Iff.rfl
    rw [mem_old (par.getD j 0) (by omega)]
    by_cases c : j = k
    · subst c
      rw [show gset par T (j + 1) = (if 0 ≤ T.getD j 0 ∧ (par.getD j 0 = 0 ∨ par.getD j 0 ∈ gset par T j) then gset par T j ++ [(j : Int) + 1] else gset par T j) from rfl]
      split
      · rename_i q
        exact ⟨fun _ => q, fun _ => List.mem_append_right _ (by simp)⟩
      · rename_i q
        refine ⟨fun h => ?_, fun h => absurd h q⟩
        have := gset_rng par T j _ h
        omega
    · rw [mem_old ((j : Int) + 1) (by omega)]
      exact ih j (by omega)
def gain (par T : List Int) : Bool := (List.range par.length).any fun i => decide (par.getD i 0 = 0) && decide (T.getD i 0 > 0)
theorem gain_true {par T : List Int} : gain par T = true ↔ ∃ k, k < par.length ∧ par.getD k 0 = 0 ∧ 0 < T.getD k 0 := by
  unfold gain
  rw [List.any_eq_true]
  constructor
  · rintro ⟨k, hk, h⟩
    obtain ⟨h1, h2⟩ := Bool.and_eq_true_iff.mp h
    exact ⟨k, List.mem_range.mp hk, of_decide_eq_true h1, of_decide_eq_true h2⟩
  · rintro ⟨k, hk, h1, h2⟩
    exact ⟨k, List.mem_range.mpr hk, Bool.and_eq_true_iff.mpr ⟨decide_eq_true h1, decide_eq_true h2⟩⟩
theorem gain_false {par T : List Int} (h : gain par T = false) : ∀ k, k < par.length → par.getD k 0 = 0 → T.getD k 0 ≤ 0 := fun k hk hp => by
  apply Int.not_lt.mp
  intro q
  have := gain_true.mpr ⟨k, hk, hp, q⟩
  rw [h] at this
  cases this

/-- what a node adds: its own term if it is in, less what its parent has counted for it -/
def adds (par T S : List Int) (k : Nat) : Int := (if ((k : Int) + 1) ∈ S then T.getD k 0 else 0) - (if par.getD k 0 ≠ 0 ∧ par.getD k 0 ∈ S then pos (T.getD k 0) else 0)
theorem value_adds {par len wt : List Int} (hT : Tree par) (a b : Int) (S : List Int) (hn : S.Nodup) (hr : ∀ w ∈ S, 1 ≤ w ∧ w ≤ par.length) :
    b * tot wt S - a * tot len S = sumTo par.length (adds par (terms par len wt a b) S) := by
  have e1 : b * tot wt S - a * tot len S = sumTo par.length (fun k => if ((k : Int) + 1) ∈ S then b * wt.getD k 0 - a * len.getD k 0 else 0) := by
    rw [tot_sumTo par.length wt S hn hr, tot_sumTo par.length len S hn hr, ← sumTo_mul, ← sumTo_mul, ← sumTo_sub]
    refine sumTo_congr fun k _ => ?_
    by_cases c : ((k : Int) + 1) ∈ S
    · rw [if_pos c, if_pos c, if_pos c]
    · rw [if_neg c, if_neg c, if_neg c]; omega
  generalize hT' : terms par len wt a b = T at *
  have e2 : sumTo par.length (fun k => if ((k : Int) + 1) ∈ S then b * wt.getD k 0 - a * len.getD k 0 else 0)
      = sumTo par.length (fun k => (if ((k : Int) + 1) ∈ S then T.getD k 0 else 0) - sumTo par.length (fun c => if par.getD c 0 = (k : Int) + 1 then (if par.getD c 0 ∈ S then pos (T.getD c 0) else 0) else 0)) := by
    refine sumTo_congr fun k hk => ?_
    have f := terms_fix (len := len) (wt := wt) hT a b hk
    rw [hT'] at f
    by_cases c : ((k : Int) + 1) ∈ S
    · rw [if_pos c, if_pos c]
      have e3 : sumTo par.length (fun c => if par.getD c 0 = (k : Int) + 1 then (if par.getD c 0 ∈ S then pos (T.getD c 0) else 0) else 0) = sumTo par.length (fun c => if par.getD c 0 = (k : Int) + 1 then pos (T.getD c 0) else 0) :=
        sumTo_congr fun d _ => by
          by_cases q : par.getD d 0 = (k : Int) + 1
          · rw [if_pos q, if_pos q, if_pos (by rw [q]; exact c)]
          · rw [if_neg q, if_neg q]
      rw [e3]
      omega
    · rw [if_neg c, if_neg c, sumTo_zero]
      · rfl
      · intro d _
        by_cases q : par.getD d 0 = (k : Int) + 1
        · rw [if_pos q, if_neg (by rw [q]; exact c)]
        · rw [if_neg q]
  rw [e1, e2, sumTo_sub, sumTo_comm]
  rw [show sumTo par.length (adds par T S) = sumTo par.length (fun k => if ((k : Int) + 1) ∈ S then T.getD k 0 else 0) - sumTo par.length (fun k => if par.getD k 0 ≠ 0 ∧ par.getD k 0 ∈ S then pos (T.getD k 0) else 0) from by
    unfold adds
    rw [sumTo_sub]]
  congr 1
  refine sumTo_congr fun d hd => ?_
  have hp := hT.ok d hd
  rw [sumTo_one]
  by_cases c : par.getD d 0 ≠ 0 ∧ par.getD d 0 ∈ S
  · rw [if_pos c, if_pos (by omega), if_pos c.2]
  · rw [if_neg c]
    by_cases q : 1 ≤ par.getD d 0 ∧ par.getD d 0 ≤ par.length
    · rw [if_pos q, if_neg (fun z => c ⟨by omega, z⟩)]
    · rw [if_neg q]

section
variable {par len wt : List Int} (hT : Tree par) {a b : Int}
include hT
omit hT in
/-- no closed set gains more than the entrance's positive terms -/
theorem adds_le {T S : List Int} (hS : Cl par S) {k : Nat} : adds par T S k ≤ if par.getD k 0 = 0 then pos (T.getD k 0) else 0 := by
  unfold adds
  have h0 := pos_nonneg (T.getD k 0)
  have h1 : T.getD k 0 ≤ pos (T.getD k 0) := by unfold pos; omega
  by_cases c : par.getD k 0 = 0
  · rw [if_pos c, if_neg (show ¬ (par.getD k 0 ≠ 0 ∧ par.getD k 0 ∈ S) from fun q => q.1 c)]
    by_cases d : ((k : Int) + 1) ∈ S
    · rw [if_pos d]; omega
    · rw [if_neg d]; omega
  · rw [if_neg c]
    by_cases d : ((k : Int) + 1) ∈ S
    · have e := hS.cl _ d
      rw [nth_succ] at e
      rw [if_pos d, if_pos ⟨c, e.resolve_left c⟩]; omega
    · rw [if_neg d]
      by_cases q : par.getD k 0 ≠ 0 ∧ par.getD k 0 ∈ S
      · rw [if_pos q]; omega
      · rw [if_neg q]; omega
theorem adds_gset {T : List Int} {k : Nat} (hk : k < par.length) : adds par T (gset par T par.length) k = if par.getD k 0 = 0 then pos (T.getD k 0) else 0 := by
  unfold adds
  have m := gset_mem (T := T) hT par.length (Nat.le_refl _) k hk
  by_cases c : par.getD k 0 = 0
  · rw [if_pos c, if_neg (show ¬ (par.getD k 0 ≠ 0 ∧ par.getD k 0 ∈ gset par T par.length) from fun q => q.1 c)]
    by_cases d : 0 ≤ T.getD k 0
    · rw [if_pos (m.mpr ⟨d, .inl c⟩), pos_of d]; omega
    · rw [if_neg (fun q => d (m.mp q).1), pos_neg (by omega)]; rfl
  · rw [if_neg c]
    by_cases d : ((k : Int) + 1) ∈ gset par T par.length
    · have q := m.mp d
      rw [if_pos d, if_pos ⟨c, q.2.resolve_left c⟩, pos_of q.1]; omega
    · rw [if_neg d]
      by_cases q : par.getD k 0 ≠ 0 ∧ par.getD k 0 ∈ gset par T par.length
      · rw [if_pos q]
        have : ¬ 0 ≤ T.getD k 0 := fun z => d (m.mpr ⟨z, .inr q.2⟩)
        rw [pos_neg (by omega)]; rfl
      · rw [if_neg q]; rfl
theorem gset_cl (T : List Int) : Cl par (gset par T par.length) :=
  ⟨nodup_of_sorted (gset_sorted ..), fun w h => gset_rng par T par.length w h, fun w h => by
    have r := gset_rng par T par.length w h
    have m := gset_mem (T := T) hT par.length (Nat.le_refl _) (w - 1).toNat (by omega)
    have e : (((w - 1).toNat : Nat) : Int) + 1 = w := by omega
    rw [e] at m
    exact (m.mp h).2⟩
/-- the set of the terms gains most -/
theorem gset_most {S : List Int} (hS : Cl par S) : b * tot wt S - a * tot len S ≤ b * tot wt (gset par (terms par len wt a b) par.length) - a * tot len (gset par (terms par len wt a b) par.length) := by
  have hG := gset_cl hT (terms par len wt a b)
  rw [value_adds hT a b S hS.nd hS.rng, value_adds hT a b _ hG.nd hG.rng]
  refine sumTo_le fun k hk => ?_
  rw [adds_gset hT hk]
  exact adds_le hS
theorem gset_gain (hg : gain par (terms par len wt a b) = true) : 0 < b * tot wt (gset par (terms par len wt a b) par.length) - a * tot len (gset par (terms par len wt a b) par.length) := by
  have hG := gset_cl hT (terms par len wt a b)
  rw [value_adds hT a b _ hG.nd hG.rng]
  refine sumTo_pos (fun k hk => ?_) ?_
  · rw [adds_gset hT hk]
    split
    · exact pos_nonneg _
    · exact Int.le_refl _
  · obtain ⟨k, hk, h1, h2⟩ := gain_true.mp hg
    refine ⟨k, hk, ?_⟩
    rw [adds_gset hT hk, if_pos h1, pos_of (by omega)]
    exact h2
theorem no_gain (hg : gain par (terms par len wt a b) = false) {S : List Int} (hS : Cl par S) : b * tot wt S ≤ a * tot len S ∧ (b * tot wt S = a * tot len S → ∀ x ∈ S, x ∈ gset par (terms par len wt a b) par.length) := by
  have key := value_adds (len := len) (wt := wt) hT a b S hS.nd hS.rng
  generalize hT' : terms par len wt a b = T at *
  have le : ∀ k, k < par.length → adds par T S k ≤ 0 := fun k hk => by
    have := adds_le (T := T) (k := k) hS
    by_cases c : par.getD k 0 = 0
    · rw [if_pos c, pos_neg (gain_false hg k hk c)] at this; exact this
    · rw [if_neg c] at this; exact this
  have h0 : sumTo par.length (adds par T S) ≤ sumTo par.length (fun _ => (0 : Int)) := sumTo_le le
  rw [sumTo_zero (f := fun _ => (0 : Int)) fun _ _ => rfl] at h0
  refine ⟨by omega, fun e => ?_⟩
  have z := sumTo_allZero le (by omega)
  -- by the place of the tunnel
  have main : ∀ m k : Nat, k < m → k < par.length → ((k : Int) + 1) ∈ S → ((k : Int) + 1) ∈ gset par T par.length := by
    intro m
    induction m with
    | zero => intro k h; omega
    | succ m ih =>
      intro k hkm hk hkS
      have zk := z k hk
      unfold adds at zk
      rw [if_pos hkS] at zk
      have mm := gset_mem (T := T) hT par.length (Nat.le_refl _) k hk
      have hp := hT.ok k hk
      by_cases c : par.getD k 0 = 0
      · rw [if_neg (show ¬ (par.getD k 0 ≠ 0 ∧ par.getD k 0 ∈ S) from fun q => q.1 c)] at zk
        exact mm.mpr ⟨by omega, .inl c⟩
      · have pS := hS.cl _ hkS
        rw [nth_succ] at pS
        have pS := pS.resolve_left c
        rw [if_pos ⟨c, pS⟩] at zk
        have h0 := pos_nonneg (T.getD k 0)
        refine mm.mpr ⟨by omega, .inr ?_⟩
        have q := ih (par.getD k 0 - 1).toNat (by omega) (by omega) (by
          have e : (((par.getD k 0 - 1).toNat : Nat) : Int) + 1 = par.getD k 0 := by omega
          rw [e]; exact pS)
        have e : (((par.getD k 0 - 1).toNat : Nat) : Int) + 1 = par.getD k 0 := by omega
        rw [e] at q
        exact q
  intro x hx
  have r := hS.rng x hx
  have e : (((x - 1).toNat : Nat) : Int) + 1 = x := by omega
  have q := main par.length (x - 1).toNat (by omega) (by omega) (by rw [e]; exact hx)
  rw [e] at q
  exact q
end

/-! ### a best set -/
structure Best (par len wt B : List Int) : Prop where
  cl : Cl par B
  srt : B.Pairwise (· < ·)
  ne : B ≠ []
  best : ∀ S, Cl par S → tot wt S * tot len B ≤ tot wt B * tot len S ∧ (tot wt S * tot len B = tot wt B * tot len S → ∀ x ∈ S, x ∈ B)
theorem nth_mem {xs : List Int} {w : Int} (h1 : 1 ≤ w) (h2 : w ≤ xs.length) : nth xs w ∈ xs := by
  unfold nth
  rw [List.getD_eq_getElem?_getD, List.getElem?_eq_getElem (show (w - 1).toNat < xs.length by omega)]
  exact List.getElem_mem _
theorem tot_pos {par len S : List Int} (hl : ∀ v ∈ len, 1 ≤ v) (hn : len.length = par.length) (hS : Cl par S) (hne : S ≠ []) : 0 < tot len S := by
  cases S with
  | nil => exact absurd rfl hne
  | cons x S =>
    rw [tot_cons]
    have h1 := tot_nonneg (vs := len) (fun v hv => by have := hl v hv; omega) S
    have r := hS.rng x List.mem_cons_self
    have h2 := hl _ (nth_mem r.1 (by rw [hn]; exact r.2))
    omega
/-- one turn of the search: either the ratio has risen or the set is the greatest best one -/
theorem turn_best {par len wt W : List Int} (hT : Tree par) (hl : ∀ v ∈ len, 1 ≤ v) (hn : len.length = par.length) (hW : Cl par W) (hne : W ≠ []) (hg : gain par (terms par len wt (tot wt W) (tot len W)) = false) :
    Best par len wt (gset par (terms par len wt (tot wt W) (tot len W)) par.length) := by
  have hb := tot_pos hl hn hW hne
  generalize ha : tot wt W = a at *
  generalize hb' : tot len W = b at *
  have hG := gset_cl hT (terms par len wt a b)
  have sG := gset_sorted par (terms par len wt a b) par.length
  have n1 := fun {S} (hS : Cl par S) => no_gain hT hg hS
  have m1 := gset_most (len := len) (wt := wt) (a := a) (b := b) hT hW
  have wG := (n1 hW).2 (by rw [ha, hb']; exact Int.mul_comm _ _)
  have neG : gset par (terms par len wt a b) par.length ≠ [] := fun q => by
    cases W with
    | nil => exact hne rfl
    | cons x W =>
      have := wG x List.mem_cons_self
      rw [q] at this
      simp at this
  have pG := tot_pos hl hn hG neG
  have eG : b * tot wt (gset par (terms par len wt a b) par.length) = a * tot len (gset par (terms par len wt a b) par.length) := by
    have h1 := (n1 hG).1
    rw [ha, hb', Int.mul_comm b a] at m1
    omega
  generalize gset par (terms par len wt a b) par.length = G at *
  have srt := sG
  refine ⟨hG, srt, neG, fun S hS => ⟨?_, fun e => ?_⟩⟩
  · have h1 := (n1 hS).1
    have h2 : (b * tot wt S) * tot len G ≤ (a * tot len S) * tot len G := Int.mul_le_mul_of_nonneg_right h1 (by omega)
    have e1 : b * (tot wt S * tot len G) = (b * tot wt S) * tot len G := by ac_rfl
    have e2 : b * (tot wt G * tot len S) = (b * tot wt G) * tot len S := by ac_rfl
    have e3 : (a * tot len S) * tot len G = (a * tot len G) * tot len S := by ac_rfl
    refine Int.le_of_mul_le_mul_left (c := tot wt G * tot len S) (a := b) ?_ hb
    rw [e1, e2, eG, ← e3]
    exact h2
  · refine (n1 hS).2 ?_
    refine Int.eq_of_mul_eq_mul_right (a := tot len G) (by omega) ?_
    have e1 : b * (tot wt S * tot len G) = (b * tot wt S) * tot len G := by ac_rfl
    have e2 : b * (tot wt G * tot len S) = (b * tot wt G) * tot len S := by ac_rfl
    have e3 : (a * tot len S) * tot len G = (a * tot len G) * tot len S := by ac_rfl
    rw [← e1, e, e2, eG, ← e3]
theorem turn_more {par len wt W : List Int} (hT : Tree par) (hg : gain par (terms par len wt (tot wt W) (tot len W)) = true) :
    gset par (terms par len wt (tot wt W) (tot len W)) par.length ≠ [] ∧
      tot wt W * tot len (gset par (terms par len wt (tot wt W) (tot len W)) par.length) < tot wt (gset par (terms par len wt (tot wt W) (tot len W)) par.length) * tot len W := by
  have h := gset_gain (len := len) (wt := wt) (a := tot wt W) (b := tot len W) hT hg
  constructor
  · intro q
    rw [q, tot_nil, tot_nil] at h
    omega
  · rw [Int.mul_comm (tot wt (gset ..)) (tot len W)]
    omega

/-! ### the number that falls -/
def box (A B : Nat) : List (Nat × Nat) := (List.range (A + 1)).flatMap fun x => (List.range (B + 1)).map fun y => (x, y)
def above (a b : Int) (p : Nat × Nat) : Bool := decide (a * (p.2 : Int) < (p.1 : Int) * b)
def cnt (A B : Nat) (a b : Int) : Nat := ((box A B).filter (above a b)).length
theorem mem_box {A B x y : Nat} (hx : x ≤ A) (hy : y ≤ B) : (x, y) ∈ box A B := by
  unfold box
  exact List.mem_flatMap.mpr ⟨x, List.mem_range.mpr (by omega), List.mem_map.mpr ⟨y, List.mem_range.mpr (by omega), rfl⟩⟩
theorem filter_le {α : Type} {p q : α → Bool} : ∀ {l : List α}, (∀ x, q x = true → p x = true) → (l.filter q).length ≤ (l.filter p).length
  | [], _ => Nat.le_refl _
  | x :: l, h => by
    have ih := filter_le (l := l) h
    cases hq : q x with
    | true => rw [List.filter_cons_of_pos hq, List.filter_cons_of_pos (h x hq)]; exact Nat.succ_le_succ ih
    | false =>
      rw [List.filter_cons_of_neg (by rw [hq]; decide)]
      cases hp : p x with
      | true => rw [List.filter_cons_of_pos hp]; exact Nat.le_succ_of_le ih
      | false => rw [List.filter_cons_of_neg (by rw [hp]; decide)]; exact ih
theorem filter_lt {α : Type} {p q : α → Bool} : ∀ {l : List α} {x : α}, (∀ x, q x = true → p x = true) → x ∈ l → p x = true → q x = false → (l.filter q).length < (l.filter p).length
  | y :: l, x, h, hm, hp, hq => by
    rcases List.mem_cons.mp hm with e | hm
    · subst e
      rw [List.filter_cons_of_neg (by rw [hq]; decide), List.filter_cons_of_pos hp]
      exact Nat.lt_succ_of_le (filter_le h)
    · have ih := filter_lt (l := l) h hm hp hq
      cases hqy : q y with
      | true => rw [List.filter_cons_of_pos hqy, List.filter_cons_of_pos (h y hqy)]; exact Nat.succ_lt_succ ih
      | false =>
        rw [List.filter_cons_of_neg (by rw [hqy]; decide)]
        cases hpy : p y with
        | true => rw [List.filter_cons_of_pos hpy]; exact Nat.lt_succ_of_lt ih
        | false => rw [List.filter_cons_of_neg (by rw [hpy]; decide)]; exact ih
theorem cnt_lt {A B : Nat} {a b a' b' : Int} (ha : 0 ≤ a') (ha' : a' ≤ A) (hb : 0 < b) (hb0 : 0 < b') (hb' : b' ≤ B) (h : a * b' < a' * b) : cnt A B a' b' < cnt A B a b := by
  unfold cnt
  refine filter_lt (x := (a'.toNat, b'.toNat)) (fun p hp => ?_) (mem_box (by omega) (by omega)) ?_ ?_
  · have hp := of_decide_eq_true hp
    refine decide_eq_true ?_
    -- a' y < x b', a b' < a' b: a y b' ≤ a' b y < x b b'
    have h1 : (a * b') * (p.2 : Int) ≤ (a' * b) * (p.2 : Int) := Int.mul_le_mul_of_nonneg_right (by omega) (by omega)
    have h2 : (a' * (p.2 : Int)) * b < ((p.1 : Int) * b') * b := Int.mul_lt_mul_of_pos_right hp hb
    have e1 : (a * b') * (p.2 : Int) = b' * (a * (p.2 : Int)) := by ac_rfl
    have e2 : (a' * b) * (p.2 : Int) = (a' * (p.2 : Int)) * b := by ac_rfl
    have e3 : ((p.1 : Int) * b') * b = b' * ((p.1 : Int) * b) := by ac_rfl
    refine Int.lt_of_mul_lt_mul_left (a := b') ?_ (by omega)
    omega
  · refine decide_eq_true ?_
    show a * (b'.toNat : Int) < (a'.toNat : Int) * b
    rw [Int.toNat_of_nonneg ha, Int.toNat_of_nonneg (by omega : 0 ≤ b')]
    exact h
  · refine decide_eq_false ?_
    show ¬ a' * (b'.toNat : Int) < (a'.toNat : Int) * b'
    rw [Int.toNat_of_nonneg ha, Int.toNat_of_nonneg (by omega : 0 ≤ b')]
    omega
/-- a sum of at most n items of at most m -/
theorem tot_le_all {vs : List Int} (h0 : ∀ v ∈ vs, 0 ≤ v) {m : Int} (hm : ∀ v ∈ vs, v ≤ m) (hm0 : 0 ≤ m) : ∀ (ws : List Int), tot vs ws ≤ m * (ws.length : Int)
  | [] => by rw [tot_nil]; simp
  | w :: ws => by
    have ih := tot_le_all h0 hm hm0 ws
    rw [tot_cons, List.length_cons]
    have : nth vs w ≤ m := by
      unfold nth
      rw [List.getD_eq_getElem?_getD]
      cases e : vs[(w - 1).toNat]? with
      | none => exact hm0
      | some v => exact hm v (List.mem_of_getElem? e)
    have e : m * ((ws.length + 1 : Nat) : Int) = m * (ws.length : Int) + m := by
      rw [Int.natCast_add, Int.mul_add]; simp
    omega
/-- a list of different tunnels is no longer than the tree -/
theorem length_le_of {n : Nat} {S : List Int} (hn : S.Nodup) (hr : ∀ w ∈ S, 1 ≤ w ∧ w ≤ n) : S.length ≤ n := by
  have one : ∀ w : Int, 1 ≤ w → w ≤ n → nth (List.replicate n 1) w = 1 := fun w h1 h2 => by
    unfold nth
    rw [List.getD_eq_getElem?_getD, List.getElem?_replicate, if_pos (by omega)]
    rfl
  have e : ∀ (S : List Int), (∀ w ∈ S, 1 ≤ w ∧ w ≤ n) → tot (List.replicate n 1) S = (S.length : Int) := by
    intro S
    induction S with
    | nil => intro _; rfl
    | cons x S ih =>
      intro h
      have hx := h x List.mem_cons_self
      rw [tot_cons, one x hx.1 hx.2, ih fun w hw => h w (List.mem_cons_of_mem _ hw), List.length_cons]
      omega
  have e1 := e S hr
  rw [tot_sumTo n _ S hn hr] at e1
  have ones : ∀ m : Nat, sumTo m (fun _ => (1 : Int)) = (m : Int) := by
    intro m
    induction m with
    | zero => rfl
    | succ m ih =>
      show sumTo m (fun _ => (1 : Int)) + 1 = _
      rw [ih]; omega
  have h2 : sumTo n (fun k => if ((k : Int) + 1) ∈ S then (List.replicate n (1 : Int)).getD k 0 else 0) ≤ sumTo n (fun _ => (1 : Int)) := by
    refine sumTo_le fun k hk => ?_
    split
    · rw [List.getD_eq_getElem?_getD, List.getElem?_replicate, if_pos hk]
      exact Int.le_refl _
    · decide
  rw [ones] at h2
  omega
theorem cl_length {par S : List Int} (h : Cl par S) : S.length ≤ par.length := length_le_of h.nd h.rng
end KM
/-! The stairs: what is left as a tree of its own, additions, the outer line of all closed sets. -/
namespace KM

/-! ### what is left, as a tree of its own -/
def parsOf (par left : List Int) : List Int := left.map fun w => if nth par w ∈ left then (left.idxOf (nth par w) : Int) + 1 else 0
def valsOf (vs left : List Int) : List Int := left.map (nth vs)

structure Part (par ws left : List Int) : Prop where
  ndw : ws.Nodup
  srt : left.Pairwise (· < ·)
  dis : ∀ x ∈ ws, x ∉ left
  cov : ∀ x : Int, 1 ≤ x → x ≤ par.length → x ∈ ws ∨ x ∈ left
  rw_ : ∀ x ∈ ws, 1 ≤ x ∧ x ≤ par.length
  rl : ∀ x ∈ left, 1 ≤ x ∧ x ≤ par.length
  clw : ∀ x ∈ ws, nth par x = 0 ∨ nth par x ∈ ws

structure BAdd (par len wt left B : List Int) : Prop where
  sub : ∀ x ∈ B, x ∈ left
  srt : B.Pairwise (· < ·)
  ne : B ≠ []
  cl : ∀ x ∈ B, nth par x ∈ left → nth par x ∈ B
  best : ∀ T : List Int, T.Nodup → (∀ x ∈ T, x ∈ left) → (∀ x ∈ T, nth par x ∈ left → nth par x ∈ T) →
    tot wt T * tot len B ≤ tot wt B * tot len T ∧ (tot wt T * tot len B = tot wt B * tot len T → ∀ x ∈ T, x ∈ B)

theorem nth_left {left : List Int} {i : Nat} (h : i < left.length) : nth left ((i : Int) + 1) = left[i] := by
  rw [nth_succ, List.getD_eq_getElem?_getD, List.getElem?_eq_getElem h]
  rfl
theorem nth_idx {left : List Int} {x : Int} (h : x ∈ left) : nth left ((left.idxOf x : Int) + 1) = x := by
  rw [nth_left (List.idxOf_lt_length_of_mem h), List.getElem_idxOf]
theorem nth_map {left : List Int} {f : Int → Int} {w : Int} (h1 : 1 ≤ w) (h2 : w ≤ left.length) : nth (left.map f) w = f (nth left w) := by
  have hi : (w - 1).toNat < left.length := by omega
  unfold nth
  rw [List.getD_eq_getElem?_getD, List.getElem?_map, List.getD_eq_getElem?_getD, List.getElem?_eq_getElem hi]
  rfl
theorem sorted_lt {left : List Int} (hs : left.Pairwise (· < ·)) {i j : Nat} (hi : i < left.length) (hj : j < left.length) (h : left[i] < left[j]) : i < j := by
  rcases Nat.lt_trichotomy i j with q | q | q
  · exact q
  · subst q; omega
  · have := (List.pairwise_iff_getElem.mp hs) j i hj hi q
    omega
theorem nth_mono {left : List Int} (hs : left.Pairwise (· < ·)) {a b : Int} (h1 : 1 ≤ a) (h2 : a < b) (h3 : b ≤ left.length) : nth left a < nth left b := by
  have ha : (a - 1).toNat < left.length := by omega
  have hb : (b - 1).toNat < left.length := by omega
  have q := (List.pairwise_iff_getElem.mp hs) (a - 1).toNat (b - 1).toNat ha hb (by omega)
  have ea : (((a - 1).toNat : Nat) : Int) + 1 = a := by omega
  have eb : (((b - 1).toNat : Nat) : Int) + 1 = b := by omega
  have e1 := nth_left ha
  have e2 := nth_left hb
  rw [ea] at e1
  rw [eb] at e2
  omega
theorem tot_map {vs left : List Int} : ∀ (F : List Int), (∀ f ∈ F, 1 ≤ f ∧ f ≤ left.length) → tot (valsOf vs left) F = tot vs (F.map (nth left))
  | [], _ => rfl
  | f :: F, h => by
    have hf := h f List.mem_cons_self
    rw [tot_cons, List.map_cons, tot_cons, tot_map F fun x hx => h x (List.mem_cons_of_mem _ hx)]
    unfold valsOf
    rw [nth_map hf.1 hf.2]

section
variable {par len wt ws left : List Int} (hT : Tree par) (hP : Part par ws left)
include hT hP
theorem parsOf_tree (hne : left ≠ []) : Tree (parsOf par left) := by
  have hl : (parsOf par left).length = left.length := by unfold parsOf; rw [List.length_map]
  refine ⟨?_, fun k hk => ?_⟩
  · rw [hl]
    cases left with
    | nil => exact absurd rfl hne
    | cons => simp
  · rw [hl] at hk
    have e : (parsOf par left).getD k 0 = (if nth par left[k] ∈ left then (left.idxOf (nth par left[k]) : Int) + 1 else 0) := by
      unfold parsOf
      rw [List.getD_eq_getElem?_getD, List.getElem?_map, List.getElem?_eq_getElem hk]
      rfl
    rw [e]
    by_cases c : nth par left[k] ∈ left
    · rw [if_pos c]
      have hi := List.idxOf_lt_length_of_mem c
      have r := hP.rl _ (List.getElem_mem hk)
      have p := hT.nth r.1 r.2
      have := sorted_lt hP.srt hi hk (by rw [List.getElem_idxOf]; exact p.2)
      omega
    · rw [if_neg c]
      omega
omit hT hP in
theorem parsOf_nth {f : Int} (h1 : 1 ≤ f) (h2 : f ≤ left.length) : nth (parsOf par left) f = if nth par (nth left f) ∈ left then (left.idxOf (nth par (nth left f)) : Int) + 1 else 0 := by
  unfold parsOf
  rw [nth_map h1 h2]
omit hT in
/-- the best set of the tree that is left is the greatest best addition -/
theorem best_add {F : List Int} (hB : Best (parsOf par left) (valsOf len left) (valsOf wt left) F) : BAdd par len wt left (F.map (nth left)) := by
  have hl : (parsOf par left).length = left.length := by unfold parsOf; rw [List.length_map]
  have rF : ∀ f ∈ F, 1 ≤ f ∧ f ≤ left.length := fun f hf => by have := hB.cl.rng f hf; rw [hl] at this; exact this
  refine ⟨fun x hx => ?_, ?_, ?_, fun x hx hp => ?_, fun T hnT hsT hcT => ?_⟩
  · obtain ⟨f, hf, rfl⟩ := List.mem_map.mp hx
    exact nth_mem (rF f hf).1 (rF f hf).2
  · rw [List.pairwise_map]
    refine List.Pairwise.imp_of_mem ?_ hB.srt
    intro a b ha hb h
    exact nth_mono hP.srt (rF a ha).1 h (rF b hb).2
  · intro q
    exact hB.ne (List.map_eq_nil_iff.mp q)
  · obtain ⟨f, hf, rfl⟩ := List.mem_map.mp hx
    have c := hB.cl.cl f hf
    rw [parsOf_nth (rF f hf).1 (rF f hf).2, if_pos hp] at c
    refine List.mem_map.mpr ⟨(left.idxOf (nth par (nth left f)) : Int) + 1, c.resolve_left (by omega), nth_idx hp⟩
  · -- T as a set of the small tree
    have e0 : ∀ x ∈ T, nth left ((left.idxOf x : Int) + 1) = x := fun x hx => nth_idx (hsT x hx)
    have hr : ∀ f ∈ T.map (fun x => (left.idxOf x : Int) + 1), 1 ≤ f ∧ f ≤ left.length := fun f hf => by
      obtain ⟨x, hx, rfl⟩ := List.mem_map.mp hf
      have := List.idxOf_lt_length_of_mem (hsT x hx)
      omega
    have back : (T.map (fun x => (left.idxOf x : Int) + 1)).map (nth left) = T := by
      rw [List.map_map]
      have : T.map ((nth left) ∘ fun x => (left.idxOf x : Int) + 1) = T.map id := List.map_congr_left fun x hx => e0 x hx
      rw [this, List.map_id]
    have hC : Cl (parsOf par left) (T.map (fun x => (left.idxOf x : Int) + 1)) := by
      refine ⟨?_, fun f hf => by rw [hl]; exact hr f hf, fun f hf => ?_⟩
      · refine List.pairwise_map.mpr (List.Pairwise.imp_of_mem ?_ hnT)
        intro a b ha hb hab q
        apply hab
        have := e0 a ha
        rw [q, e0 b hb] at this
        exact this.symm
      · have rf := hr f hf
        obtain ⟨x, hx, rfl⟩ := List.mem_map.mp hf
        rw [parsOf_nth rf.1 rf.2, e0 x hx]
        by_cases c : nth par x ∈ left
        · rw [if_pos c]
          exact .inr (List.mem_map.mpr ⟨nth par x, hcT x hx c, rfl⟩)
        · rw [if_neg c]
          exact .inl rfl
    have b := hB.best _ hC
    rw [tot_map _ hr, tot_map _ hr, tot_map _ rF, tot_map _ rF, back] at b
    refine ⟨b.1, fun e x hx => ?_⟩
    have := b.2 e _ (List.mem_map.mpr ⟨x, hx, rfl⟩)
    exact List.mem_map.mpr ⟨_, this, e0 x hx⟩

/-- the ways of the rest are as steep as those before, or less -/
def Prev (par len wt ws left : List Int) : Prop := ∀ B, BAdd par len wt left B → ∀ S, Cl par S → (∀ x ∈ S, x ∈ ws) →
  tot len B * (tot wt S - tot wt ws) ≤ tot wt B * (tot len S - tot len ws)
omit hT hP in
theorem prev_nil (par len wt left : List Int) : Prev par len wt [] left := fun B _ S _ hs => by
  have e : S = [] := List.eq_nil_iff_forall_not_mem.mpr fun x hx => by simpa using hs x hx
  rw [e, tot_nil, tot_nil]
  simp
omit hT hP in
theorem split_tot (vs : List Int) (S : List Int) : tot vs S = tot vs (S.filter fun x => decide (x ∈ ws)) + tot vs (S.filter fun x => !decide (x ∈ ws)) := (tot_filter vs _ S).symm
omit hT in
/-- no closed set lies above the line of the block, and those on it are within -/
theorem corner_line (hp : Prev par len wt ws left) {B : List Int} (hB : BAdd par len wt left B) {S : List Int} (hS : Cl par S) :
    tot len B * (tot wt S - tot wt ws) ≤ tot wt B * (tot len S - tot len ws) ∧
      (tot len B * (tot wt S - tot wt ws) = tot wt B * (tot len S - tot len ws) → ∀ x ∈ S, x ∈ ws ∨ x ∈ B) := by
  have e1 := split_tot (ws := ws) wt S
  have e2 := split_tot (ws := ws) len S
  generalize hI : S.filter (fun x => decide (x ∈ ws)) = I at e1 e2
  generalize hO : S.filter (fun x => !decide (x ∈ ws)) = O at e1 e2
  have mI : ∀ x, x ∈ I ↔ x ∈ S ∧ x ∈ ws := fun x => by rw [← hI, List.mem_filter]; simp
  have mO : ∀ x, x ∈ O ↔ x ∈ S ∧ x ∉ ws := fun x => by rw [← hO, List.mem_filter]; simp
  have clI : Cl par I := by
    refine ⟨?_, fun x hx => hS.rng x ((mI x).mp hx).1, fun x hx => ?_⟩
    · rw [← hI]
      exact hS.nd.sublist List.filter_sublist
    · obtain ⟨h1, h2⟩ := (mI x).mp hx
      rcases hS.cl x h1 with h | h
      · exact .inl h
      · rcases hP.clw x h2 with h' | h'
        · exact .inl h'
        · exact .inr ((mI _).mpr ⟨h, h'⟩)
  have a1 := hp B hB I clI fun x hx => ((mI x).mp hx).2
  have leftO : ∀ x ∈ O, x ∈ left := fun x hx => by
    obtain ⟨h1, h2⟩ := (mO x).mp hx
    have r := hS.rng x h1
    exact (hP.cov x r.1 r.2).resolve_left h2
  have ndO : O.Nodup := by rw [← hO]; exact hS.nd.sublist List.filter_sublist
  have a2 := hB.best O ndO leftO fun x hx hl => by
    obtain ⟨h1, _⟩ := (mO x).mp hx
    have r := hP.rl _ hl
    rcases hS.cl x h1 with h | h
    · omega
    · exact (mO _).mpr ⟨h, fun q => hP.dis _ q hl⟩
  have d1 : tot len B * (tot wt S - tot wt ws) = tot len B * (tot wt I - tot wt ws) + tot wt O * tot len B := by
    rw [e1, Int.mul_comm (tot wt O), ← Int.mul_add]
    congr 1
    omega
  have d2 : tot wt B * (tot len S - tot len ws) = tot wt B * (tot len I - tot len ws) + tot wt B * tot len O := by
    rw [e2, ← Int.mul_add]
    congr 1
    omega
  rw [d1, d2]
  have a21 := a2.1
  refine ⟨Int.add_le_add a1 a21, fun e x hx => ?_⟩
  have e3 : tot wt O * tot len B = tot wt B * tot len O := by omega
  by_cases c : x ∈ ws
  · exact .inl c
  · exact .inr (a2.2 e3 x ((mO x).mpr ⟨hx, c⟩))
theorem part_next {B : List Int} (hB : BAdd par len wt left B) : Part par (ws ++ B) (left.filter fun x => !decide (x ∈ B)) := by
  have ml : ∀ x, x ∈ left.filter (fun x => !decide (x ∈ B)) ↔ x ∈ left ∧ x ∉ B := fun x => by rw [List.mem_filter]; simp
  refine ⟨?_, hP.srt.filter _, fun x hx => ?_, fun x h1 h2 => ?_, fun x hx => ?_, fun x hx => hP.rl x ((ml x).mp hx).1, fun x hx => ?_⟩
  · refine List.nodup_append.mpr ⟨hP.ndw, nodup_of_sorted hB.srt, fun a ha b hb q => ?_⟩
    subst q
    exact hP.dis a ha (hB.sub a hb)
  · rw [ml]
    rintro ⟨h1, h2⟩
    rcases List.mem_append.mp hx with h | h
    · exact hP.dis x h h1
    · exact h2 h
  · rcases hP.cov x h1 h2 with h | h
    · exact .inl (List.mem_append_left _ h)
    · by_cases c : x ∈ B
      · exact .inl (List.mem_append_right _ c)
      · exact .inr ((ml x).mpr ⟨h, c⟩)
  · rcases List.mem_append.mp hx with h | h
    · exact hP.rw_ x h
    · exact hP.rl x (hB.sub x h)
  · rcases List.mem_append.mp hx with h | h
    · rcases hP.clw x h with q | q
      · exact .inl q
      · exact .inr (List.mem_append_left _ q)
    · have r := hP.rl x (hB.sub x h)
      have t := hT.nth r.1 r.2
      by_cases c : nth par x = 0
      · exact .inl c
      · refine .inr ?_
        rcases hP.cov (nth par x) (by omega) (by omega) with q | q
        · exact List.mem_append_left _ q
        · exact List.mem_append_right _ (hB.cl x h q)
omit hT in
theorem part_cl : Cl par ws := ⟨hP.ndw, hP.rw_, hP.clw⟩
theorem prev_next (hl : ∀ v ∈ len, 1 ≤ v) (hn : len.length = par.length) (hp : Prev par len wt ws left) {B : List Int} (hB : BAdd par len wt left B) :
    Prev par len wt (ws ++ B) (left.filter fun x => !decide (x ∈ B)) := by
  intro B' hB' S hS hsub
  have hP' := part_next hT hP hB
  have hP'' := part_next hT hP' hB'
  -- the old line, at S and at the next corner
  have c1 := (corner_line hP hp hB hS).1
  have c2 := (corner_line hP hp hB (part_cl hP'')).1
  have eqB : tot wt (ws ++ B) = tot wt ws + tot wt B := tot_append ..
  have eqL : tot len (ws ++ B) = tot len ws + tot len B := tot_append ..
  rw [tot_append wt (ws ++ B) B', tot_append len (ws ++ B) B', eqB, eqL] at c2
  rw [eqB, eqL]
  have bpos : 0 < tot len B := by
    have hC : Cl par (ws ++ B) := part_cl hP'
    obtain ⟨x, hx⟩ := List.exists_mem_of_ne_nil B hB.ne
    have nn : ∀ v ∈ len, 0 ≤ v := fun v hv => by have := hl v hv; omega
    have : ∀ (L : List Int), (∀ y ∈ L, 1 ≤ y ∧ y ≤ par.length) → L ≠ [] → 0 < tot len L := fun L hL hne => by
      cases L with
      | nil => exact absurd rfl hne
      | cons y L =>
        rw [tot_cons]
        have h1 := tot_nonneg nn L
        have r := hL y List.mem_cons_self
        have h2 := hl _ (nth_mem r.1 (by rw [hn]; exact r.2))
        omega
    exact this B (fun y hy => hP.rl y (hB.sub y hy)) hB.ne
  have b'nn : 0 ≤ tot len B' := tot_nonneg (vs := len) (fun v hv => by have := hl v hv; omega) B'
  generalize tot wt ws = W0 at *
  generalize tot len ws = L0 at *
  generalize tot wt B = a at *
  generalize tot len B = b at *
  generalize tot wt B' = a' at *
  generalize tot len B' = b' at *
  generalize tot wt S = w at *
  generalize hL : tot len S = l at *
  -- S lies within: its length is at most that of the corner
  have hls : l ≤ L0 + b := by
    have hle : ∀ (S ws2 : List Int), S.Nodup → ws2.Nodup → (∀ x ∈ S, x ∈ ws2) → tot len S ≤ tot len ws2 := fun S ws2 h1 h2 h3 => by
      have e := tot_filter len (fun x => decide (x ∈ S)) ws2
      have pm : (ws2.filter fun x => decide (x ∈ S)).Perm S := (List.perm_ext_iff_of_nodup (h2.sublist List.filter_sublist) h1).mpr fun x => by
        rw [List.mem_filter]
        constructor
        · rintro ⟨_, q⟩; exact of_decide_eq_true q
        · intro q; exact ⟨h3 x q, decide_eq_true q⟩
      rw [tot_perm pm] at e
      have := tot_nonneg (vs := len) (fun v hv => by have := hl v hv; omega) (ws2.filter fun x => !decide (x ∈ S))
      omega
    have := hle S (ws ++ B) hS.nd hP'.ndw hsub
    rw [hL] at this
    rw [eqL] at this
    exact this
  -- b (w - W0) ≤ a (l - L0); b (a + a') ≤ a (b + b'): b a' ≤ a b'
  have k1 : b * a' ≤ a * b' := by
    have h : b * (W0 + a + a' - W0) ≤ a * (L0 + b + b' - L0) := c2
    have e1 : b * (W0 + a + a' - W0) = b * a + b * a' := by rw [← Int.mul_add]; congr 1; omega
    have e2 : a * (L0 + b + b' - L0) = a * b + a * b' := by rw [← Int.mul_add]; congr 1; omega
    have e3 : b * a = a * b := Int.mul_comm _ _
    omega
  -- b (w - W0 - a) ≤ a (l - L0 - b)
  have k2 : b * (w - (W0 + a)) ≤ a * (l - (L0 + b)) := by
    have e1 : b * (w - (W0 + a)) = b * (w - W0) - b * a := by rw [← Int.mul_sub]; congr 1; omega
    have e2 : a * (l - (L0 + b)) = a * (l - L0) - a * b := by rw [← Int.mul_sub]; congr 1; omega
    have e3 : b * a = a * b := Int.mul_comm _ _
    omega
  -- times b', and b' a ≥ b a', l ≤ L0 + b
  refine Int.le_of_mul_le_mul_left (a := b) ?_ bpos
  have h1 : b' * (b * (w - (W0 + a))) ≤ b' * (a * (l - (L0 + b))) := Int.mul_le_mul_of_nonneg_left k2 b'nn
  have h2 : (a * b') * (L0 + b - l) ≥ (b * a') * (L0 + b - l) := Int.mul_le_mul_of_nonneg_right k1 (by omega)
  have e1 : b * (b' * (w - (W0 + a))) = b' * (b * (w - (W0 + a))) := by ac_rfl
  have e2 : b' * (a * (l - (L0 + b))) = -((a * b') * (L0 + b - l)) := by
    rw [← Int.mul_neg, show a * b' = b' * a from Int.mul_comm _ _, Int.mul_assoc]
    congr 2
    omega
  have e3 : b * (a' * (l - (L0 + b))) = -((b * a') * (L0 + b - l)) := by
    rw [← Int.mul_neg, Int.mul_assoc]
    congr 2
    omega
  rw [e1, e3]
  rw [e2] at h1
  omega
end

/-! ### the stairs -/
inductive Stairs (par len wt : List Int) : List Int → List (List Int) → Prop where
  | nil : Stairs par len wt [] []
  | cons {left B : List Int} {Bs : List (List Int)} (hB : BAdd par len wt left B) (h : Stairs par len wt (left.filter fun x => !decide (x ∈ B)) Bs) : Stairs par len wt left (B :: Bs)
def corn (len wt ws : List Int) : Int × Int := (tot len ws, tot wt ws)
def cornersFrom (len wt : List Int) : List Int → List (List Int) → List (Int × Int)
  | ws, [] => [corn len wt ws]
  | ws, B :: Bs => corn len wt ws :: cornersFrom len wt (ws ++ B) Bs
/-- a pair that some closed set has -/
def Reach (par len wt : List Int) (c : Int × Int) : Prop := ∃ S, Cl par S ∧ c = corn len wt S
structure Edge (par len wt : List Int) (c c' : Int × Int) : Prop where
  up : c.1 < c'.1
  upw : c.2 ≤ c'.2
  r : Reach par len wt c
  r' : Reach par len wt c'
  line : ∀ S, Cl par S → (c'.1 - c.1) * (tot wt S - c.2) ≤ (c'.2 - c.2) * (tot len S - c.1)
  far : ∀ S, Cl par S → (c'.1 - c.1) * (tot wt S - c.2) = (c'.2 - c.2) * (tot len S - c.1) → tot len S ≤ c'.1
theorem tot_sub_le {vs : List Int} (hv : ∀ v ∈ vs, 0 ≤ v) {S ws : List Int} (h1 : S.Nodup) (h2 : ws.Nodup) (h3 : ∀ x ∈ S, x ∈ ws) : tot vs S ≤ tot vs ws := by
  have e := tot_filter vs (fun x => decide (x ∈ S)) ws
  have pm : (ws.filter fun x => decide (x ∈ S)).Perm S := (List.perm_ext_iff_of_nodup (h2.sublist List.filter_sublist) h1).mpr fun x => by
    rw [List.mem_filter]
    constructor
    · rintro ⟨_, q⟩; exact of_decide_eq_true q
    · intro q; exact ⟨h3 x q, decide_eq_true q⟩
  rw [tot_perm pm] at e
  have := tot_nonneg hv (ws.filter fun x => !decide (x ∈ S))
  omega
theorem edge_of {par len wt ws left B : List Int} (hT : Tree par) (hl : ∀ v ∈ len, 1 ≤ v) (hw : ∀ v ∈ wt, 0 ≤ v) (hn : len.length = par.length) (hP : Part par ws left) (hp : Prev par len wt ws left) (hB : BAdd par len wt left B) :
    Edge par len wt (corn len wt ws) (corn len wt (ws ++ B)) := by
  have hP' := part_next hT hP hB
  have l0 : ∀ v ∈ len, 0 ≤ v := fun v hv => by have := hl v hv; omega
  have hC : Cl par (ws ++ B) := part_cl hP'
  have e1 : (corn len wt (ws ++ B)).1 - (corn len wt ws).1 = tot len B := by show tot len (ws ++ B) - tot len ws = _; rw [tot_append]; omega
  have e2 : (corn len wt (ws ++ B)).2 - (corn len wt ws).2 = tot wt B := by show tot wt (ws ++ B) - tot wt ws = _; rw [tot_append]; omega
  have bpos : 0 < tot len B := by
    obtain ⟨x, hx⟩ := List.exists_mem_of_ne_nil B hB.ne
    have r := hP.rl x (hB.sub x hx)
    have h1 := hl _ (nth_mem r.1 (by rw [hn]; exact r.2))
    have h2 := tot_sub_le (S := [x]) l0 (by simp) (nodup_of_sorted hB.srt) (by simpa using hx)
    rw [tot_cons, tot_nil] at h2
    omega
  have apos : 0 ≤ tot wt B := tot_nonneg hw B
  refine ⟨by omega, by omega, ⟨ws, part_cl hP, rfl⟩, ⟨ws ++ B, hC, rfl⟩, fun S hS => ?_, fun S hS e => ?_⟩
  · rw [e1, e2]
    exact (corner_line hP hp hB hS).1
  · rw [e1, e2] at e
    have q := (corner_line hP hp hB hS).2 e
    exact tot_sub_le l0 hS.nd hP'.ndw fun x hx => List.mem_append.mpr (q x hx)
/-- the edges of the stairs, one behind another -/
inductive Edges (par len wt : List Int) : List (Int × Int) → Prop where
  | one (c : Int × Int) (r : Reach par len wt c) (full : tot len (walls par.length) = c.1) (top : ∀ S, Cl par S → tot len S ≤ c.1) : Edges par len wt [c]
  | more {c c' : Int × Int} {cs : List (Int × Int)} (e : Edge par len wt c c') (h : Edges par len wt (c' :: cs)) : Edges par len wt (c :: c' :: cs)
theorem cornersFrom_cons (len wt ws : List Int) (Bs : List (List Int)) : ∃ cs, cornersFrom len wt ws Bs = corn len wt ws :: cs := by
  cases Bs with
  | nil => exact ⟨[], rfl⟩
  | cons B Bs => exact ⟨_, rfl⟩
theorem stairs_edges {par len wt : List Int} (hT : Tree par) (hl : ∀ v ∈ len, 1 ≤ v) (hw : ∀ v ∈ wt, 0 ≤ v) (hn : len.length = par.length) : ∀ {Bs : List (List Int)} {ws left : List Int}, Stairs par len wt left Bs → Part par ws left → Prev par len wt ws left →
    Edges par len wt (cornersFrom len wt ws Bs)
  | [], ws, left, h, hP, hp => by
    cases h
    have l0 : ∀ v ∈ len, 0 ≤ v := fun v hv => by have := hl v hv; omega
    have pm : (walls par.length).Perm ws := (List.perm_ext_iff_of_nodup (nodup_of_sorted (walls_sorted _)) hP.ndw).mpr fun x => by
      rw [mem_walls]
      constructor
      · intro q
        exact (hP.cov x q.1 q.2).resolve_right (by simp)
      · exact hP.rw_ x
    refine .one _ ⟨ws, part_cl hP, rfl⟩ (tot_perm pm) fun S hS => ?_
    show tot len S ≤ tot len ws
    exact tot_sub_le l0 hS.nd hP.ndw fun x hx => (hP.cov x (hS.rng x hx).1 (hS.rng x hx).2).resolve_right (by simp)
  | B :: Bs, ws, left, h, hP, hp => by
    cases h with
    | cons hB h =>
      have ih := stairs_edges hT hl hw hn h (part_next hT hP hB) (prev_next hT hP hl hn hp hB)
      have ed := edge_of hT hl hw hn hP hp hB
      show Edges par len wt (corn len wt ws :: cornersFrom len wt (ws ++ B) Bs)
      obtain ⟨cs, e⟩ := cornersFrom_cons len wt (ws ++ B) Bs
      rw [e] at ih ⊢
      exact .more ed ih
theorem part_start (par : List Int) : Part par [] (walls par.length) :=
  ⟨List.nodup_nil, walls_sorted _, fun x h => by simp at h, fun x h1 h2 => .inr (mem_walls.mpr ⟨h1, h2⟩), fun x h => by simp at h, fun x h => mem_walls.mp h, fun x h => by simp at h⟩
/-- all blocks together: different tunnels, all of what is left -/
theorem stairs_flat {par len wt : List Int} : ∀ {Bs : List (List Int)} {left : List Int}, Stairs par len wt left Bs → left.Nodup → Bs.flatten.Nodup ∧ ∀ x ∈ Bs.flatten, x ∈ left
  | [], left, h, _ => ⟨List.nodup_nil, fun x hx => by simp at hx⟩
  | B :: Bs, left, h, hn => by
    cases h with
    | cons hB h =>
      have ih := stairs_flat h (hn.sublist List.filter_sublist)
      have mem : ∀ x ∈ Bs.flatten, x ∈ left ∧ x ∉ B := fun x hx => by
        have := ih.2 x hx
        rw [List.mem_filter] at this
        simpa using this
      rw [List.flatten_cons]
      refine ⟨List.nodup_append.mpr ⟨nodup_of_sorted hB.srt, ih.1, fun a ha b hb q => ?_⟩, fun x hx => ?_⟩
      · subst q
        exact (mem a hb).2 ha
      · rcases List.mem_append.mp hx with q | q
        · exact hB.sub x q
        · exact (mem x q).1
theorem stairs_length {par len wt : List Int} : ∀ {Bs : List (List Int)} {left : List Int}, Stairs par len wt left Bs → Bs.length ≤ left.length
  | [], left, _ => Nat.zero_le _
  | B :: Bs, left, h => by
    cases h with
    | cons hB h =>
      have ih := stairs_length h
      obtain ⟨x, hx⟩ := List.exists_mem_of_ne_nil B hB.ne
      have : (left.filter fun x => !decide (x ∈ B)).length < left.length := by
        have := filter_lt (p := fun _ : Int => true) (q := fun x => !decide (x ∈ B)) (l := left) (x := x) (fun _ _ => rfl) (hB.sub x hx) rfl (by simp [hx])
        rw [List.filter_eq_self.mpr fun _ _ => rfl] at this
        exact this
      rw [List.length_cons]
      omega
end KM
/-! All closed sets one by one, their outer line, heights, lowest terms, prices. -/
namespace KM

/-! ### all closed sets -/
abbrev CS := Int × Int × List Int
def nextC (par len wt : List Int) (k : Nat) (one : CS) : Option CS :=
  if par.getD k 0 = 0 ∨ par.getD k 0 ∈ one.2.2 then some (one.1 + len.getD k 0, one.2.1 + wt.getD k 0, one.2.2 ++ [(k : Int) + 1]) else none
def closedUp (par len wt : List Int) : Nat → List CS
  | 0 => [(0, 0, [])]
  | k + 1 => closedUp par len wt k ++ (closedUp par len wt k).filterMap (nextC par len wt k)
structure IsC (par len wt : List Int) (k : Nat) (one : CS) : Prop where
  cl : Cl par one.2.2
  up : ∀ x ∈ one.2.2, x ≤ k
  l : one.1 = tot len one.2.2
  w : one.2.1 = tot wt one.2.2
theorem closed_is {par len wt : List Int} : ∀ k, k ≤ par.length → ∀ one ∈ closedUp par len wt k, IsC par len wt k one
  | 0, _, one, h => by
    have e : one = (0, 0, []) := by simpa [closedUp] using h
    subst e
    exact ⟨Cl.nil par, fun x hx => by simp at hx, rfl, rfl⟩
  | k + 1, hk, one, h => by
    have ih := closed_is (par := par) (len := len) (wt := wt) k (by omega)
    rcases List.mem_append.mp h with h | h
    · have q := ih one h
      exact ⟨q.cl, fun x hx => by have := q.up x hx; omega, q.l, q.w⟩
    · obtain ⟨o, ho, e⟩ := List.mem_filterMap.mp h
      have q := ih o ho
      unfold nextC at e
      split at e
      · rename_i c
        cases e
        have tl : ∀ vs : List Int, tot vs (o.2.2 ++ [(k : Int) + 1]) = tot vs o.2.2 + vs.getD k 0 := fun vs => by
          rw [tot_append, tot_cons, tot_nil, nth_succ]; omega
        refine ⟨⟨?_, fun x hx => ?_, fun x hx => ?_⟩, fun x hx => ?_, ?_, ?_⟩
        · refine List.nodup_append.mpr ⟨q.cl.nd, by simp, fun a ha b hb => ?_⟩
          have := q.up a ha
          have : b = (k : Int) + 1 := by simpa using hb
          omega
        · rcases List.mem_append.mp hx with h | h
          · exact q.cl.rng x h
          · have : x = (k : Int) + 1 := by simpa using h
            omega
        · rcases List.mem_append.mp hx with h | h
          · rcases q.cl.cl x h with z | z
            · exact .inl z
            · exact .inr (List.mem_append_left _ z)
          · have : x = (k : Int) + 1 := by simpa using h
            rw [this, nth_succ]
            rcases c with z | z
            · exact .inl z
            · exact .inr (List.mem_append_left _ z)
        · rcases List.mem_append.mp hx with h | h
          · have := q.up x h; omega
          · have : x = (k : Int) + 1 := by simpa using h
            omega
        · show o.1 + len.getD k 0 = tot len (o.2.2 ++ [(k : Int) + 1])
          rw [tl, q.l]
        · show o.2.1 + wt.getD k 0 = tot wt (o.2.2 ++ [(k : Int) + 1])
          rw [tl, q.w]
      · cases e
theorem closed_all {par len wt : List Int} (hT : Tree par) : ∀ k, k ≤ par.length → ∀ S, Cl par S → (∀ x ∈ S, x ≤ k) → ∃ one ∈ closedUp par len wt k, one.1 = tot len S ∧ one.2.1 = tot wt S ∧ ∀ x, x ∈ one.2.2 ↔ x ∈ S
  | 0, _, S, hS, hu => by
    have e : S = [] := List.eq_nil_iff_forall_not_mem.mpr fun x hx => by have := hS.rng x hx; have := hu x hx; omega
    subst e
    exact ⟨(0, 0, []), by simp [closedUp], rfl, rfl, fun x => Iff.rfl⟩
  | k + 1, hk, S, hS, hu => by
    by_cases c : ((k : Int) + 1) ∈ S
    · -- without the last one
      have mem : ∀ x, x ∈ S.filter (fun x => !decide (x = (k : Int) + 1)) ↔ x ∈ S ∧ x ≠ (k : Int) + 1 := fun x => by rw [List.mem_filter]; simp
      generalize hS' : S.filter (fun x => !decide (x = (k : Int) + 1)) = S' at mem
      have cl' : Cl par S' := by
        refine ⟨by rw [← hS']; exact hS.nd.sublist List.filter_sublist, fun x hx => hS.rng x ((mem x).mp hx).1, fun x hx => ?_⟩
        obtain ⟨h1, h2⟩ := (mem x).mp hx
        have r := hS.rng x h1
        have t := hT.nth r.1 r.2
        have u := hu x h1
        rcases hS.cl x h1 with z | z
        · exact .inl z
        · exact .inr ((mem _).mpr ⟨z, by omega⟩)
      obtain ⟨o, ho, e1, e2, m⟩ := closed_all (len := len) (wt := wt) hT k (by omega) S' cl' fun x hx => by
        obtain ⟨h1, h2⟩ := (mem x).mp hx
        have := hu x h1
        omega
      have tl : ∀ vs : List Int, tot vs S = tot vs S' + vs.getD k 0 := fun vs => by
        have pm : S.Perm (S' ++ [(k : Int) + 1]) := (List.perm_ext_iff_of_nodup hS.nd (List.nodup_append.mpr ⟨cl'.nd, by simp, fun a ha b hb => by
          have h1 := ((mem a).mp ha).2
          have h2 : b = (k : Int) + 1 := by simpa using hb
          rw [h2]; exact h1⟩)).mpr fun x => by
            rw [List.mem_append, mem]
            by_cases q : x = (k : Int) + 1
            · simp [q, c]
            · simp [q]
        rw [tot_perm pm, tot_append, tot_cons, tot_nil, nth_succ]; omega
      have cp := hS.cl _ c
      rw [nth_succ] at cp
      have cond : par.getD k 0 = 0 ∨ par.getD k 0 ∈ o.2.2 := by
        rcases cp with z | z
        · exact .inl z
        · have t := hT.ok k (by omega)
          exact .inr ((m _).mpr ((mem _).mpr ⟨z, by omega⟩))
      refine ⟨(o.1 + len.getD k 0, o.2.1 + wt.getD k 0, o.2.2 ++ [(k : Int) + 1]), List.mem_append_right _ (List.mem_filterMap.mpr ⟨o, ho, by unfold nextC; rw [if_pos cond]⟩), ?_, ?_, fun x => ?_⟩
      · show o.1 + _ = _
        rw [tl, e1]
      · show o.2.1 + _ = _
        rw [tl, e2]
      · show x ∈ o.2.2 ++ [(k : Int) + 1] ↔ _
        rw [List.mem_append, m, mem]
        by_cases q : x = (k : Int) + 1
        · simp [q, c]
        · simp [q]
    · obtain ⟨o, ho, q⟩ := closed_all (len := len) (wt := wt) hT k (by omega) S hS fun x hx => by
        have := hu x hx
        by_cases z : x = (k : Int) + 1
        · rw [z] at hx; exact absurd hx c
        · omega
      exact ⟨o, List.mem_append_left _ ho, q⟩
theorem closed_length (par len wt : List Int) : ∀ k, (closedUp par len wt k).length ≤ 2 ^ k
  | 0 => Nat.le_refl _
  | k + 1 => by
    have ih := closed_length par len wt k
    have h := List.length_filterMap_le (nextC par len wt k) (closedUp par len wt k)
    show (closedUp par len wt k ++ _).length ≤ _
    rw [List.length_append, Nat.pow_succ]
    omega
theorem closed_ne (par len wt : List Int) : ∀ k, (0, 0, []) ∈ closedUp par len wt k
  | 0 => by simp [closedUp]
  | k + 1 => List.mem_append_left _ (closed_ne par len wt k)
/-- what the law may use of its list of all closed sets -/
structure All (par len wt : List Int) (ts : List CS) : Prop where
  is : ∀ one ∈ ts, ∃ S, Cl par S ∧ one.1 = tot len S ∧ one.2.1 = tot wt S
  has : ∀ S, Cl par S → ∃ one ∈ ts, one.1 = tot len S ∧ one.2.1 = tot wt S
theorem closed_All {par len wt : List Int} (hT : Tree par) : All par len wt (closedUp par len wt par.length) where
  is := fun one h => by
    have q := closed_is par.length (Nat.le_refl _) one h
    exact ⟨_, q.cl, q.l, q.w⟩
  has := fun S hS => by
    obtain ⟨o, ho, h1, h2, _⟩ := closed_all (len := len) (wt := wt) hT par.length (Nat.le_refl _) S hS fun x hx => (hS.rng x hx).2
    exact ⟨o, ho, h1, h2⟩

/-! ### the outer line -/
def steeper (m b : Int × Int) : Bool := if m.2 * b.1 = b.2 * m.1 then decide (b.1 < m.1) else decide (b.2 * m.1 < m.2 * b.1)
def better (m : Int × Int) : Option (Int × Int) → Bool
  | none => true
  | some b => steeper m b
def diff (low : Int × Int) (one : CS) : Int × Int := (one.1 - low.1, one.2.1 - low.2)
def bestStep (low : Int × Int) (best : Option (Int × Int)) (one : CS) : Option (Int × Int) :=
  if decide (0 < (diff low one).1) && better (diff low one) best then some (diff low one) else best
def endStep (ts : List CS) (found : List (Int × Int)) : List (Int × Int) :=
  match ts.foldl (bestStep (found.getLastD (0, 0))) none with
  | none => found
  | some m => found ++ [((found.getLastD (0, 0)).1 + m.1, (found.getLastD (0, 0)).2 + m.2)]
def endsUp (ts : List CS) : Nat → List (Int × Int)
  | 0 => [(0, 0)]
  | k + 1 => endStep ts (endsUp ts k)

theorem steeper_false {m b : Int × Int} (h : steeper m b = false) : m.2 * b.1 < b.2 * m.1 ∨ (m.2 * b.1 = b.2 * m.1 ∧ m.1 ≤ b.1) := by
  unfold steeper at h
  split at h
  · have := of_decide_eq_false h; exact .inr ⟨by assumption, by omega⟩
  · have := of_decide_eq_false h; exact .inl (by omega)
theorem steeper_true {m b : Int × Int} (h : steeper m b = true) : b.2 * m.1 < m.2 * b.1 ∨ (m.2 * b.1 = b.2 * m.1 ∧ b.1 < m.1) := by
  unfold steeper at h
  split at h
  · have := of_decide_eq_true h; exact .inr ⟨by assumption, by omega⟩
  · have := of_decide_eq_true h; exact .inl this
theorem not_steeper {m b : Int × Int} (h : m.2 * b.1 < b.2 * m.1 ∨ (m.2 * b.1 = b.2 * m.1 ∧ m.1 ≤ b.1)) : steeper m b = false := by
  unfold steeper
  split
  · exact decide_eq_false (by omega)
  · exact decide_eq_false (by omega)
theorem steeper_trans {x m m' : Int × Int} (hx : 0 < x.1) (hm : 0 < m.1) (hm' : 0 < m'.1) (h1 : steeper x m = false) (h2 : steeper m' m = true) : steeper x m' = false := by
  apply not_steeper
  have a1 := steeper_false h1
  have a2 := steeper_true h2
  -- x2 m1 ≤ m2 x1 ; m2 m'1 ≤ m'2 m1
  have b1 : (x.2 * m.1) * m'.1 ≤ (m.2 * x.1) * m'.1 := Int.mul_le_mul_of_nonneg_right (by omega) (by omega)
  have b2 : (m.2 * m'.1) * x.1 ≤ (m'.2 * m.1) * x.1 := Int.mul_le_mul_of_nonneg_right (by omega) (by omega)
  have e1 : (x.2 * m.1) * m'.1 = m.1 * (x.2 * m'.1) := by ac_rfl
  have e2 : (m.2 * x.1) * m'.1 = (m.2 * m'.1) * x.1 := by ac_rfl
  have e3 : (m'.2 * m.1) * x.1 = m.1 * (m'.2 * x.1) := by ac_rfl
  rcases a1 with a1 | a1
  · have b1' : (x.2 * m.1) * m'.1 < (m.2 * x.1) * m'.1 := Int.mul_lt_mul_of_pos_right a1 hm'
    exact .inl (Int.lt_of_mul_lt_mul_left (a := m.1) (by omega) (by omega))
  · rcases a2 with a2 | a2
    · have b2' : (m.2 * m'.1) * x.1 < (m'.2 * m.1) * x.1 := Int.mul_lt_mul_of_pos_right a2 hx
      exact .inl (Int.lt_of_mul_lt_mul_left (a := m.1) (by omega) (by omega))
    · have c1 : (x.2 * m.1) * m'.1 = (m.2 * x.1) * m'.1 := by rw [a1.1]
      have c2 : (m.2 * m'.1) * x.1 = (m'.2 * m.1) * x.1 := by rw [a2.1]
      refine .inr ⟨Int.eq_of_mul_eq_mul_left (a := m.1) (by omega) (by omega), by omega⟩

def Good (low : Int × Int) (seen : List CS) : Option (Int × Int) → Prop
  | none => ∀ one ∈ seen, ¬ 0 < (diff low one).1
  | some m => 0 < m.1 ∧ (∃ one ∈ seen, m = diff low one) ∧ ∀ one ∈ seen, 0 < (diff low one).1 → steeper (diff low one) m = false
theorem steeper_self (m : Int × Int) : steeper m m = false := not_steeper (.inr ⟨rfl, Int.le_refl _⟩)
theorem good_step {low : Int × Int} {seen : List CS} {best : Option (Int × Int)} (h : Good low seen best) (one : CS) : Good low (seen ++ [one]) (bestStep low best one) := by
  unfold bestStep
  cases c : (decide (0 < (diff low one).1) && better (diff low one) best) with
  | true =>
    rw [if_pos rfl]
    obtain ⟨c1, c2⟩ := Bool.and_eq_true_iff.mp c
    have c1 := of_decide_eq_true c1
    refine ⟨c1, ⟨one, by simp, rfl⟩, fun o ho hp => ?_⟩
    rcases List.mem_append.mp ho with ho | ho
    · cases best with
      | none => exact absurd hp (h o ho)
      | some m =>
        obtain ⟨h1, _, h3⟩ := h
        exact steeper_trans hp h1 c1 (h3 o ho hp) c2
    · have : o = one := by simpa using ho
      rw [this]
      exact steeper_self _
  | false =>
    rw [if_neg (by decide)]
    have c' : 0 < (diff low one).1 → better (diff low one) best = false := fun q => by
      rw [decide_eq_true q] at c
      simpa using c
    cases best with
    | none =>
      intro o ho hp
      rcases List.mem_append.mp ho with ho | ho
      · exact h o ho hp
      · have : o = one := by simpa using ho
        rw [this] at hp
        have := c' hp
        cases this
    | some m =>
      obtain ⟨h1, ⟨o1, h2, e⟩, h3⟩ := h
      refine ⟨h1, ⟨o1, List.mem_append_left _ h2, e⟩, fun o ho hp => ?_⟩
      rcases List.mem_append.mp ho with ho | ho
      · exact h3 o ho hp
      · have : o = one := by simpa using ho
        rw [this] at hp ⊢
        exact c' hp
theorem good_all (low : Int × Int) : ∀ (ts seen : List CS) (best : Option (Int × Int)), Good low seen best → Good low (seen ++ ts) (ts.foldl (bestStep low) best)
  | [], seen, best, h => by rw [List.append_nil]; exact h
  | t :: ts, seen, best, h => by
    have := good_all low ts (seen ++ [t]) (bestStep low best t) (good_step h t)
    rw [List.append_assoc] at this
    exact this
theorem good_best (low : Int × Int) (ts : List CS) : Good low ts (ts.foldl (bestStep low) none) := by
  have := good_all low ts [] none (fun o ho => by simp at ho)
  rw [List.nil_append] at this
  exact this

section
variable {par len wt : List Int} {ts : List CS} (hA : All par len wt ts)
include hA
theorem best_edge {c c' : Int × Int} (e : Edge par len wt c c') : ts.foldl (bestStep c) none = some (c'.1 - c.1, c'.2 - c.2) := by
  have g := good_best c ts
  obtain ⟨S', hS', eS'⟩ := e.r'
  obtain ⟨o', ho', h1, h2⟩ := hA.has S' hS'
  have d1 : diff c o' = (c'.1 - c.1, c'.2 - c.2) := by
    unfold diff
    rw [h1, h2, eS']
    rfl
  have up := e.up
  cases q : ts.foldl (bestStep c) none with
  | none =>
    rw [q] at g
    have := g o' ho'
    rw [d1] at this
    exact absurd (show 0 < c'.1 - c.1 by omega) this
  | some m =>
    rw [q] at g
    obtain ⟨g1, ⟨o, ho, em⟩, g3⟩ := g
    have s := g3 o' ho' (by rw [d1]; show 0 < c'.1 - c.1; omega)
    rw [d1] at s
    obtain ⟨S, hS, l1, l2⟩ := hA.is o ho
    have ln := e.line S hS
    have fr := e.far S hS
    have m1 : m.1 = tot len S - c.1 := by rw [em]; show o.1 - c.1 = _; rw [l1]
    have m2 : m.2 = tot wt S - c.2 := by rw [em]; show o.2.1 - c.2 = _; rw [l2]
    rw [← m1, ← m2] at ln fr
    have s' := steeper_false s
    have s1 : (c'.2 - c.2) * m.1 < m.2 * (c'.1 - c.1) ∨ ((c'.2 - c.2) * m.1 = m.2 * (c'.1 - c.1) ∧ c'.1 - c.1 ≤ m.1) := s'
    have cm : m.2 * (c'.1 - c.1) = (c'.1 - c.1) * m.2 := Int.mul_comm _ _
    have s2 : (c'.2 - c.2) * m.1 = m.2 * (c'.1 - c.1) ∧ c'.1 - c.1 ≤ m.1 := by
      rcases s1 with z | z
      · omega
      · exact z
    have f1 := fr (by omega)
    have k1 : m.1 = c'.1 - c.1 := by omega
    have k2 : m.2 = c'.2 - c.2 := by
      have z := s2.1
      rw [k1] at z
      exact (Int.eq_of_mul_eq_mul_right (by omega) z).symm
    rw [← k1, ← k2]
theorem best_top {c : Int × Int} (h : ∀ S, Cl par S → tot len S ≤ c.1) : ts.foldl (bestStep c) none = none := by
  have g := good_best c ts
  cases q : ts.foldl (bestStep c) none with
  | none => rfl
  | some m =>
    rw [q] at g
    obtain ⟨g1, ⟨o, ho, em⟩, _⟩ := g
    obtain ⟨S, hS, l1, _⟩ := hA.is o ho
    have := h S hS
    have m1 : m.1 = tot len S - c.1 := by rw [em]; show o.1 - c.1 = _; rw [l1]
    omega
def iterE (ts : List CS) : Nat → List (Int × Int) → List (Int × Int)
  | 0, f => f
  | k + 1, f => iterE ts k (endStep ts f)
omit hA in
theorem iterE_succ : ∀ (k : Nat) (f : List (Int × Int)), iterE ts (k + 1) f = endStep ts (iterE ts k f)
  | 0, f => rfl
  | k + 1, f => by
    show iterE ts (k + 1) (endStep ts f) = endStep ts (iterE ts k (endStep ts f))
    exact iterE_succ k _
omit hA in
theorem endsUp_iter : ∀ k, endsUp ts k = iterE ts k [(0, 0)]
  | 0 => rfl
  | k + 1 => by
    rw [iterE_succ, ← endsUp_iter k]
    rfl
theorem iter_edges : ∀ {cs : List (Int × Int)} {c : Int × Int} (k : Nat) (f : List (Int × Int)), Edges par len wt (c :: cs) → cs.length ≤ k → iterE ts k (f ++ [c]) = f ++ c :: cs
  | [], c, 0, f, _, _ => rfl
  | [], c, k + 1, f, h, hk => by
    show iterE ts k (endStep ts (f ++ [c])) = _
    have e : endStep ts (f ++ [c]) = f ++ [c] := by
      unfold endStep
      have z : (f ++ [c]).getLastD (0, 0) = c := by rw [List.getLastD_eq_getLast?, List.getLast?_append]; rfl
      rw [z]
      cases h with
      | one _ _ full top => rw [best_top hA top]
    rw [e]
    exact iter_edges k f h (Nat.zero_le _)
  | c' :: cs, c, 0, f, h, hk => by simp at hk
  | c' :: cs, c, k + 1, f, h, hk => by
    cases h with
    | more e h =>
      show iterE ts k (endStep ts (f ++ [c])) = _
      have e2 : endStep ts (f ++ [c]) = (f ++ [c]) ++ [c'] := by
        unfold endStep
        have z : (f ++ [c]).getLastD (0, 0) = c := by rw [List.getLastD_eq_getLast?, List.getLast?_append]; rfl
        rw [z, best_edge hA e]
        show (f ++ [c]) ++ [(c.1 + (c'.1 - c.1), c.2 + (c'.2 - c.2))] = _
        rw [show c.1 + (c'.1 - c.1) = c'.1 by omega, show c.2 + (c'.2 - c.2) = c'.2 by omega]
      rw [e2, iter_edges k (f ++ [c]) h (by simpa using hk)]
      simp
end
theorem cornersFrom_length (len wt : List Int) : ∀ (Bs : List (List Int)) (ws : List Int), (cornersFrom len wt ws Bs).length = Bs.length + 1
  | [], ws => rfl
  | B :: Bs, ws => by
    show (corn len wt ws :: cornersFrom len wt (ws ++ B) Bs).length = _
    rw [List.length_cons, cornersFrom_length len wt Bs, List.length_cons]

/-- THE STAIRS ARE THE OUTER LINE -/
theorem ends_corners {par len wt : List Int} (hT : Tree par) (hl : ∀ v ∈ len, 1 ≤ v) (hw : ∀ v ∈ wt, 0 ≤ v) (hn : len.length = par.length) {Bs : List (List Int)} (h : Stairs par len wt (walls par.length) Bs) :
    endsUp (closedUp par len wt par.length) par.length = cornersFrom len wt [] Bs ∧ Edges par len wt (cornersFrom len wt [] Bs) := by
  have ed := stairs_edges hT hl hw hn h (part_start par) (prev_nil par len wt _)
  have hlen := stairs_length h
  rw [walls_length] at hlen
  refine ⟨?_, ed⟩
  have hL := cornersFrom_length len wt Bs []
  obtain ⟨cs, e⟩ := cornersFrom_cons len wt [] Bs
  rw [e] at ed hL ⊢
  rw [endsUp_iter]
  have := iter_edges (closed_All (wt := wt) (len := len) hT) par.length [] ed (by simp at hL; omega)
  exact this
end KM
/-! Heights on the line, lowest terms, prices, the rest of the plain law. -/
namespace KM

/-! ### the corners by their places -/
def cAt (cs : List (Int × Int)) (i : Nat) : Int × Int := cs.getD i (0, 0)
theorem cAt_cons_succ (c : Int × Int) (cs : List (Int × Int)) (i : Nat) : cAt (c :: cs) (i + 1) = cAt cs i := rfl
section
variable {par len wt : List Int}
theorem edges_at : ∀ {cs : List (Int × Int)}, Edges par len wt cs → ∀ i, i + 1 < cs.length → Edge par len wt (cAt cs i) (cAt cs (i + 1))
  | [], h, i, hi => by simp at hi
  | [c], h, i, hi => by simp at hi
  | c :: c' :: cs, h, i, hi => by
    cases h with
    | more e h =>
      cases i with
      | zero => exact e
      | succ i =>
        have := edges_at h i (by simpa using hi)
        exact this
theorem edges_reach : ∀ {cs : List (Int × Int)}, Edges par len wt cs → ∀ i, i < cs.length → Reach par len wt (cAt cs i)
  | [], h, i, hi => by simp at hi
  | [c], h, i, hi => by
    have : i = 0 := by simp at hi; omega
    subst this
    cases h with
    | one _ r _ _ => exact r
  | c :: c' :: cs, h, i, hi => by
    cases h with
    | more e h =>
      cases i with
      | zero => exact e.r
      | succ i => exact edges_reach h i (by simpa using hi)
theorem edges_last : ∀ {cs : List (Int × Int)}, Edges par len wt cs → tot len (walls par.length) = (cAt cs (cs.length - 1)).1 ∧ 1 ≤ cs.length
  | [], h => by cases h
  | [c], h => by
    cases h with
    | one _ _ f _ => exact ⟨f, Nat.le_refl _⟩
  | c :: c' :: cs, h => by
    cases h with
    | more e h =>
      have := edges_last h
      refine ⟨?_, by simp⟩
      rw [this.1]
      rfl
theorem edges_mono {cs : List (Int × Int)} (h : Edges par len wt cs) : ∀ (d i : Nat), i + d + 1 < cs.length → (cAt cs i).1 < (cAt cs (i + d + 1)).1
  | 0, i, hi => (edges_at h i hi).up
  | d + 1, i, hi => by
    have h1 := edges_mono h d i (by omega)
    have h2 := (edges_at h (i + d + 1) (by omega)).up
    have e : i + (d + 1) + 1 = i + d + 1 + 1 := by omega
    rw [e]
    omega
theorem edges_lt {cs : List (Int × Int)} (h : Edges par len wt cs) {i j : Nat} (hij : i < j) (hj : j < cs.length) : (cAt cs i).1 < (cAt cs j).1 := by
  have := edges_mono h (j - i - 1) i (by omega)
  have e : i + (j - i - 1) + 1 = j := by omega
  rw [e] at this
  exact this
theorem edges_le {cs : List (Int × Int)} (h : Edges par len wt cs) {i : Nat} (hi : i < cs.length) : (cAt cs i).1 ≤ tot len (walls par.length) := by
  rw [(edges_last h).1]
  by_cases c : i = cs.length - 1
  · rw [c]; exact Int.le_refl _
  · have := edges_lt h (i := i) (j := cs.length - 1) (by omega) (by omega)
    omega

/-! ### the place of a length on the line -/
structure LineAt (cs : List (Int × Int)) (x : Int) (i : Nat) : Prop where
  i1 : 1 ≤ i
  il : i < cs.length
  up : x ≤ (cAt cs i).1
  lo : ∀ j, 1 ≤ j → j < i → (cAt cs j).1 < x
theorem LineAt.unique {cs : List (Int × Int)} {x : Int} {i j : Nat} (a : LineAt cs x i) (b : LineAt cs x j) : i = j := by
  rcases Nat.lt_trichotomy i j with h | h | h
  · have := b.lo i a.i1 h
    have := a.up
    omega
  · exact h
  · have := a.lo j b.i1 h
    have := b.up
    omega
/-- numerator and denominator of the line at x -/
def lineNum (cs : List (Int × Int)) (x : Int) (i : Nat) : Int := (cAt cs (i - 1)).2 * ((cAt cs i).1 - (cAt cs (i - 1)).1) + ((cAt cs i).2 - (cAt cs (i - 1)).2) * (x - (cAt cs (i - 1)).1)
def lineDen (cs : List (Int × Int)) (i : Nat) : Int := (cAt cs i).1 - (cAt cs (i - 1)).1

structure Lowest (n d p q : Int) : Prop where
  q1 : 1 ≤ q
  qd : q ≤ d
  eq : p * d = n * q
  low : ∀ k : Int, 2 ≤ k → k ≤ q → ¬ (p % k = 0 ∧ q % k = 0)

/-- what a start of the stairs must say: the first corner is (0, 0), at least two corners -/
structure Corners (par len wt : List Int) (cs : List (Int × Int)) : Prop where
  ed : Edges par len wt cs
  two : 2 ≤ cs.length
  zero : cAt cs 0 = (0, 0)
theorem corners_of (hT : Tree par) (hl : ∀ v ∈ len, 1 ≤ v) (hw : ∀ v ∈ wt, 0 ≤ v) (hn : len.length = par.length) {Bs : List (List Int)} (h : Stairs par len wt (walls par.length) Bs) :
    Corners par len wt (cornersFrom len wt [] Bs) := by
  refine ⟨(ends_corners hT hl hw hn h).2, ?_, ?_⟩
  · rw [cornersFrom_length]
    cases Bs with
    | nil =>
      have := hT.pos
      have e := walls_length par.length
      generalize walls par.length = L at h e
      cases h
      simp at e
      omega
    | cons B Bs => simp
  · obtain ⟨cs, e⟩ := cornersFrom_cons len wt [] Bs
    rw [e]
    rfl
section
variable {cs : List (Int × Int)} (C : Corners par len wt cs) {x : Int} {i : Nat} (hL : LineAt cs x i)
include C hL
theorem line_edge : Edge par len wt (cAt cs (i - 1)) (cAt cs i) := by
  have h1 := hL.i1
  have h2 := hL.il
  have := edges_at C.ed (i - 1) (by omega)
  have e : i - 1 + 1 = i := by omega
  rw [e] at this
  exact this
theorem lineDen_pos : 1 ≤ lineDen cs i := by
  have := (line_edge C hL).up
  unfold lineDen
  omega
theorem line_low (h0 : 0 ≤ x) : (cAt cs (i - 1)).1 ≤ x := by
  have h1 := hL.i1
  by_cases c : i = 1
  · subst c
    show (cAt cs 0).1 ≤ x
    rw [C.zero]
    exact h0
  · have := hL.lo (i - 1) (by omega) (by omega)
    omega
theorem lineNum_nonneg (hw : ∀ v ∈ wt, 0 ≤ v) (h0 : 0 ≤ x) : 0 ≤ lineNum cs x i := by
  have e := line_edge C hL
  have l := line_low C hL h0
  obtain ⟨S, _, eS⟩ := e.r
  have w0 : 0 ≤ (cAt cs (i - 1)).2 := by rw [eS]; exact tot_nonneg hw S
  have u := e.up
  have uw := e.upw
  unfold lineNum
  have h1 : 0 ≤ (cAt cs (i - 1)).2 * ((cAt cs i).1 - (cAt cs (i - 1)).1) := Int.mul_nonneg w0 (by omega)
  have h2 : 0 ≤ ((cAt cs i).2 - (cAt cs (i - 1)).2) * (x - (cAt cs (i - 1)).1) := Int.mul_nonneg (by omega) (by omega)
  omega
/-- no closed set of this length weighs more than the height -/
theorem line_top {p q : Int} (hq : Lowest (lineNum cs x i) (lineDen cs i) p q) {S : List Int} (hS : Cl par S) (hx : tot len S = x) : tot wt S * q ≤ p := by
  have e := (line_edge C hL).line S hS
  have dp := lineDen_pos C hL
  rw [hx] at e
  have h1 : tot wt S * lineDen cs i ≤ lineNum cs x i := by
    unfold lineDen lineNum
    have z : ((cAt cs i).1 - (cAt cs (i - 1)).1) * (tot wt S - (cAt cs (i - 1)).2) = tot wt S * ((cAt cs i).1 - (cAt cs (i - 1)).1) - (cAt cs (i - 1)).2 * ((cAt cs i).1 - (cAt cs (i - 1)).1) := by
      rw [Int.mul_sub, Int.mul_comm _ (tot wt S), Int.mul_comm _ (cAt cs (i - 1)).2]
    omega
  have q1 := hq.q1
  have h2 : (tot wt S * lineDen cs i) * q ≤ lineNum cs x i * q := Int.mul_le_mul_of_nonneg_right h1 (by omega)
  rw [← hq.eq] at h2
  have e2 : (tot wt S * lineDen cs i) * q = lineDen cs i * (tot wt S * q) := by ac_rfl
  rw [e2, Int.mul_comm p] at h2
  exact Int.le_of_mul_le_mul_left h2 (by omega)
/-- at a corner one weighs as much -/
theorem line_corner {p q : Int} (hq : Lowest (lineNum cs x i) (lineDen cs i) p q) {j : Nat} (hj : j < cs.length) (hx : (cAt cs j).1 = x) : ∃ S, Cl par S ∧ tot len S = x ∧ tot wt S * q = p := by
  have dp := lineDen_pos C hL
  have q1 := hq.q1
  have i1 := hL.i1
  have il := hL.il
  have key : ∀ w : Int, lineNum cs x i = w * lineDen cs i → w * q = p := fun w e => by
    have := hq.eq
    rw [e] at this
    have e2 : (w * lineDen cs i) * q = (w * q) * lineDen cs i := by ac_rfl
    rw [e2] at this
    exact (Int.eq_of_mul_eq_mul_right (by omega) this).symm
  rcases Nat.lt_trichotomy j i with h | h | h
  · have j0 : j = 0 := by
      apply Classical.byContradiction
      intro c
      have := hL.lo j (by omega) h
      omega
    subst j0
    have x0 : x = 0 := by rw [← hx, C.zero]
    have i0 : i = 1 := by
      apply Classical.byContradiction
      intro c
      have h1 := hL.lo 1 (Nat.le_refl _) (by omega)
      have h2 := edges_lt C.ed (i := 0) (j := 1) (by omega) (by omega)
      omega
    subst i0
    obtain ⟨S, hS, eS⟩ := edges_reach C.ed 0 (by omega)
    refine ⟨S, hS, ?_, key _ ?_⟩
    · rw [← hx, eS]
      rfl
    · unfold lineNum lineDen
      show (cAt cs 0).2 * ((cAt cs 1).1 - (cAt cs 0).1) + ((cAt cs 1).2 - (cAt cs 0).2) * (x - (cAt cs 0).1) = _
      have z : x - (cAt cs 0).1 = 0 := by omega
      rw [z, Int.mul_zero, Int.add_zero]
      have : tot wt S = (cAt cs 0).2 := by rw [eS]; rfl
      rw [this]
  · subst h
    obtain ⟨S, hS, eS⟩ := edges_reach C.ed j hj
    refine ⟨S, hS, ?_, key _ ?_⟩
    · rw [← hx, eS]
      rfl
    · have : tot wt S = (cAt cs j).2 := by rw [eS]; rfl
      rw [this]
      unfold lineNum lineDen
      rw [← hx, ← Int.add_mul]
      congr 1
      omega
  · have := edges_lt C.ed h hj
    have := hL.up
    omega
end
theorem line_exists {cs : List (Int × Int)} {x : Int} (h2 : 2 ≤ cs.length) (hx : x ≤ (cAt cs (cs.length - 1)).1) : ∃ i, LineAt cs x i := by
  have go : ∀ (m i : Nat), cs.length - i = m → 1 ≤ i → i < cs.length → (∀ j, 1 ≤ j → j < i → (cAt cs j).1 < x) → ∃ i, LineAt cs x i := by
    intro m
    induction m with
    | zero => intro i h1 h2 h3; omega
    | succ m ih =>
      intro i h1 h2 h3 h4
      by_cases c : x ≤ (cAt cs i).1
      · exact ⟨i, h2, h3, c, h4⟩
      · by_cases d : i + 1 < cs.length
        · refine ih (i + 1) (by omega) (by omega) d fun j hj1 hj2 => ?_
          by_cases e : j = i
          · subst e; omega
          · exact h4 j hj1 (by omega)
        · have : cs.length - 1 = i := by omega
          rw [this] at hx
          exact absurd hx c
  exact go (cs.length - 1) 1 (by omega) (Nat.le_refl _) (by omega) fun j h1 h2 => by omega
end

/-! ### lowest terms -/
theorem gcd_step (a b : Int) (ha : 0 ≤ a) (hb : 0 < b) : Int.gcd b (a % b) = Int.gcd a b := by
  have hm := Int.emod_nonneg a (by omega : b ≠ 0)
  unfold Int.gcd
  rw [Int.natAbs_emod_of_nonneg ha]
  rw [Nat.gcd_comm a.natAbs, Nat.gcd_rec b.natAbs a.natAbs, Nat.gcd_comm]
theorem lowest_of {n d : Int} (hd : 0 < d) : Lowest n d (n / (Int.gcd n d : Int)) (d / (Int.gcd n d : Int)) := by
  have g0 : 0 < (Int.gcd n d : Int) := by
    have := Int.gcd_pos_of_ne_zero_right (b := d) n (by omega)
    omega
  have h1 : (Int.gcd n d : Int) ∣ n := Int.gcd_dvd_left ..
  have h2 : (Int.gcd n d : Int) ∣ d := Int.gcd_dvd_right ..
  obtain ⟨u, hu⟩ := h1
  obtain ⟨v, hv⟩ := h2
  generalize hg : (Int.gcd n d : Int) = g at *
  have en : n / g = u := by rw [hu]; exact Int.mul_ediv_cancel_left u (by omega)
  have ed : d / g = v := by rw [hv]; exact Int.mul_ediv_cancel_left v (by omega)
  rw [en, ed]
  have v1 : 1 ≤ v := by
    apply Classical.byContradiction
    intro c
    have : g * v ≤ g * 0 := Int.mul_le_mul_of_nonneg_left (by omega) (by omega)
    omega
  refine ⟨v1, ?_, ?_, fun k hk _ ⟨hk1, hk2⟩ => ?_⟩
  · have : 1 * v ≤ g * v := Int.mul_le_mul_of_nonneg_right (by omega) (by omega)
    rw [hv]
    omega
  · rw [hu, hv]
    ac_rfl
  · obtain ⟨u', hu'⟩ := Int.dvd_of_emod_eq_zero hk1
    obtain ⟨v', hv'⟩ := Int.dvd_of_emod_eq_zero hk2
    have d1 : g * k ∣ n := ⟨u', by rw [hu, hu']; ac_rfl⟩
    have d2 : g * k ∣ d := ⟨v', by rw [hv, hv']; ac_rfl⟩
    have d3 : g * k ∣ g := by
      have := Int.dvd_coe_gcd d1 d2
      rw [hg] at this
      exact this
    have := Int.le_of_dvd g0 d3
    have : g * 2 ≤ g * k := Int.mul_le_mul_of_nonneg_left hk (by omega)
    omega

/-! ### prices -/
section
variable {par len wt : List Int} (hT : Tree par)
include hT
theorem gain_edge (hl : ∀ v ∈ len, 0 ≤ v) {cs : List (Int × Int)} (C : Corners par len wt cs) {a b : Int} (hb : 0 ≤ b) : gain par (terms par len wt a b) = true ↔ a * (cAt cs 1).1 < b * (cAt cs 1).2 := by
  have e := edges_at C.ed 0 (by have := C.two; omega)
  rw [C.zero] at e
  have up := e.up
  constructor
  · intro g
    have h := gset_gain (len := len) (wt := wt) (a := a) (b := b) hT g
    have hG := gset_cl hT (terms par len wt a b)
    have ln := e.line _ hG
    generalize gset par (terms par len wt a b) par.length = G at *
    have ln : ((cAt cs (0 + 1)).1 - 0) * (tot wt G - 0) ≤ ((cAt cs (0 + 1)).2 - 0) * (tot len G - 0) := ln
    simp only [Int.sub_zero, Nat.zero_add] at ln up
    have l0 := tot_nonneg hl G
    apply Classical.byContradiction
    intro c
    have c : b * (cAt cs 1).2 ≤ a * (cAt cs 1).1 := by omega
    have k1 : b * ((cAt cs 1).1 * tot wt G) ≤ b * ((cAt cs 1).2 * tot len G) := Int.mul_le_mul_of_nonneg_left ln hb
    have k2 : (b * (cAt cs 1).2) * tot len G ≤ (a * (cAt cs 1).1) * tot len G := Int.mul_le_mul_of_nonneg_right c l0
    have k3 : 0 < (cAt cs 1).1 * (b * tot wt G - a * tot len G) := Int.mul_pos up h
    rw [Int.mul_sub] at k3
    have e1 : b * ((cAt cs 1).1 * tot wt G) = (cAt cs 1).1 * (b * tot wt G) := by ac_rfl
    have e2 : b * ((cAt cs 1).2 * tot len G) = (b * (cAt cs 1).2) * tot len G := by ac_rfl
    have e3 : (a * (cAt cs 1).1) * tot len G = (cAt cs 1).1 * (a * tot len G) := by ac_rfl
    omega
  · intro h
    cases g : gain par (terms par len wt a b) with
    | true => rfl
    | false =>
      obtain ⟨S, hS, eS⟩ := e.r'
      have := (no_gain hT g hS).1
      have e1 : (cAt cs 1).1 = tot len S := by rw [show (0 : Nat) + 1 = 1 from rfl] at eS; rw [eS]; rfl
      have e2 : (cAt cs 1).2 = tot wt S := by rw [show (0 : Nat) + 1 = 1 from rfl] at eS; rw [eS]; rfl
      rw [e1, e2] at h
      omega
/-- the prices of the terms keep the rule -/
theorem price_rule {a b : Int} (hg : gain par (terms par len wt a b) = false) {k : Nat} (hk : k < par.length) :
    0 ≤ pos ((terms par len wt a b).getD k 0) ∧
    (b * wt.getD k 0 - a * len.getD k 0) + sumTo par.length (fun c => if par.getD c 0 = (k : Int) + 1 then pos ((terms par len wt a b).getD c 0) else 0) ≤ pos ((terms par len wt a b).getD k 0) ∧
    (par.getD k 0 = 0 → pos ((terms par len wt a b).getD k 0) = 0) := by
  refine ⟨pos_nonneg _, ?_, fun h => pos_neg (gain_false hg k hk h)⟩
  have := terms_fix (len := len) (wt := wt) hT a b hk
  rw [← this]
  unfold pos
  omega
end
theorem sum_given (n : Nat) (f : Nat → Bool) (g : Nat → Int) : (((List.range n).filter f).map g).sum = sumTo n (fun c => if f c = true then g c else 0) := by
  induction n with
  | zero => rfl
  | succ n ih =>
    rw [List.range_succ, List.filter_append, List.map_append, List.sum_append, ih]
    show _ = sumTo n _ + (if f n = true then g n else 0)
    congr 1
    by_cases c : f n = true
    · rw [if_pos c, List.filter_cons_of_pos c]
      simp
    · rw [if_neg c, List.filter_cons_of_neg c]
      simp
/-- all tunnels together -/
theorem tot_walls {vs : List Int} : tot vs (walls vs.length) = vs.sum := by
  unfold tot walls
  rw [List.map_map]
  have : (List.range vs.length).map ((nth vs) ∘ fun (i : Nat) => (i : Int) + 1) = vs := by
    apply List.ext_getElem
    · simp
    · intro i h1 h2
      simp only [List.getElem_map, List.getElem_range, Function.comp]
      rw [nth_succ, List.getD_eq_getElem?_getD, List.getElem?_eq_getElem h2]
      rfl
  rw [this]
end KM
/-! What all defs of this law share: the text by places, defs by their promises, the facts of the top, lists of ints. -/
namespace K61
open PySem PySem.Spec PyProof.Rows L2 Evl
open KM (nth tot walls)

/-! ### the text -/
def top (i : Nat) : Stmt := PySem.Challenge.pw_everypast_k61_whole_stairs.main.body.getD i (.Pass ⟨0, 0, 0, 0⟩)
abbrev FnP (K : PySem.W.Frag) (x q : Str) (st : Stmt) (f : Addr) (fd : FuncData) : Prop := FunD K x q (defArgs st) (defBody st) (defScope st) [] [] f fd

theorem passN {X : Cx} : Passes (L2N.CX X.prog X.w) X E0 := fun _ _ _ _ _ _ _ h => by
  obtain ⟨_, _, _, _, _, _, _, _, _, _, _, _, z⟩ := h
  exact z.elim
/-! ### defs by their promises -/
structure Dfn (P : Program) (w : World) (K : PySem.W.Frag) (mg : Str → Option Value) (base : Heap) (k : Nat) (x : Str) (ps : List Str) (sp : Sp) : Prop where
  ex : ∃ (f : Addr) (fd : FuncData), FnOk P w K mg base (L2N.CX P w) k f fd ps sp ∧ mg x = some (.ref f) ∧ PySem.W.keepIn K (.ref f) = true ∧ Binds K fd ps []
structure Mth (P : Program) (w : World) (K : PySem.W.Frag) (mg : Str → Option Value) (base : Heap) (k : Nat) (C : Addr) (m : Str) (ps : List Str) (sp : Sp) : Prop where
  ex : ∃ (f : Addr) (fd : FuncData), FnOk P w K mg base (L2N.CX P w) k f fd ps sp ∧ Meth K C m f ∧ Binds K fd ps []
structure Mkr (P : Program) (w : World) (K : PySem.W.Frag) (mg : Str → Option Value) (base : Heap) (k : Nat) (x : Str) (C : Addr) (ps : List Str) (sp : Sp) : Prop where
  ex : ∃ (f : Addr) (fd : FuncData), FnOk P w K mg base (L2N.CX P w) k f fd ps sp ∧ Mk K C f ∧ Binds K fd ps []
  g : mg x = some (.ref C)
section
variable {P : Program} {w : World} {K : PySem.W.Frag} {mg : Str → Option Value} {base : Heap} {f : Addr} {fd : FuncData} {x q : Str} {st : Stmt} {N ps : List Str} {k : Nat} {sp : Sp}
abbrev BindsOk (x q : Str) (st : Stmt) (ps : List Str) : Prop := ∀ (kV doc pm : Value) (an : Option Addr) (cdv ct : Value) (us : List Value), us.length = ps.length →
  bindArgs (PySem.W.fnOf x q (defArgs st) (defBody st) (defScope st) .none kV doc pm an cdv ct) ⟨us, []⟩ = pure (ps.zip us)
abbrev BodyOk (P : Program) (w : World) (K : PySem.W.Frag) (mg : Str → Option Value) (base : Heap) (N : List Str) (q : Str) (st : Stmt) (f : Addr) (k : Nat) (sp : Sp) : Prop :=
  ∀ (cdv : Value) (A : Around) (outer : List Env) (s : Shared) (H : Hp) (vs : List V) (Q : VK) (E : XK), Room k (A.deeper (envOfC q (defScope st) s.heap.objs.size f cdv)) → sp vs H Q E →
    ∃ t, PSs (cxOf (L2N.CX P w) P w K mg base N q (defScope st) f cdv A outer s H E) (defBody st) t ∧ t { nx := fun _ H' => Q .non H', rt := Q } (start N vs) H
/-- the same where nothing is raised -/
abbrev BodyN (P : Program) (w : World) (K : PySem.W.Frag) (mg : Str → Option Value) (base : Heap) (N : List Str) (q : Str) (st : Stmt) (f : Addr) (k : Nat) (sp : Sp) : Prop :=
  ∀ (cdv : Value) (A : Around) (outer : List Env) (s : Shared) (H : Hp) (vs : List V) (Q : VK) (E : XK), Room k (A.deeper (envOfC q (defScope st) s.heap.objs.size f cdv)) → sp vs H Q E →
    ∃ t, PSs (cxOf (L2N.CX P w) P w K mg base N q (defScope st) f cdv A outer s H E).nox (defBody st) t ∧ t { nx := fun _ H' => Q .non H', rt := Q } (start N vs) H
theorem BodyN.ok (h : BodyN P w K mg base N q st f k sp) : BodyOk P w K mg base N q st f k sp := fun cdv A outer s H vs Q E hr hsp => by
  obtain ⟨t, h1, h2⟩ := h cdv A outer s H vs Q E hr hsp
  exact ⟨t, h1.nox, h2⟩
theorem fnok_of (F : FnP K x q st f fd) (S : FnScope N ps (defScope st)) (len : ∀ vs H Q E, sp vs H Q E → vs.length = ps.length) (hbody : BodyOk P w K mg base N q st f k sp) :
    FnOk P w K mg base (L2N.CX P w) (k + 1) f fd ps sp := F.ok S len hbody
theorem dfn_of (F : FnP K x q st f fd) (g : mg x = some (.ref f)) (S : FnScope N ps (defScope st)) (hb : BindsOk x q st ps) (len : ∀ vs H Q E, sp vs H Q E → vs.length = ps.length) (hbody : BodyOk P w K mg base N q st f k sp) :
    Dfn P w K mg base (k + 1) x ps sp := ⟨⟨f, fd, fnok_of F S len hbody, g, F.kp, F.bindsN hb⟩⟩
theorem mth_of {C : Addr} (F : FnP K x q st f fd) (g : Meth K C x f) (S : FnScope N ps (defScope st)) (hb : BindsOk x q st ps) (len : ∀ vs H Q E, sp vs H Q E → vs.length = ps.length) (hbody : BodyOk P w K mg base N q st f k sp) :
    Mth P w K mg base (k + 1) C x ps sp := ⟨⟨f, fd, fnok_of F S len hbody, g, F.bindsN hb⟩⟩
theorem mkr_of {C : Addr} {y : Str} (F : FnP K x q st f fd) (g : Mk K C f) (gy : mg y = some (.ref C)) (S : FnScope N ps (defScope st)) (hb : BindsOk x q st ps) (len : ∀ vs H Q E, sp vs H Q E → vs.length = ps.length) (hbody : BodyOk P w K mg base N q st f k sp) :
    Mkr P w K mg base (k + 1) y C ps sp := ⟨⟨f, fd, fnok_of F S len hbody, g, F.bindsN hb⟩, gy⟩
theorem Dfn.mono {j : Nat} (D : Dfn P w K mg base k x ps sp) (h : k ≤ j) : Dfn P w K mg base j x ps sp := by
  obtain ⟨f, fd, h1, h2⟩ := D.ex
  exact ⟨⟨f, fd, h1.mono h, h2⟩⟩
end
section
variable {X : Cx} {k : Nat} {C : Addr} {ps : List Str} {sp : Sp} {E : XK} {x m : Str} {p pos apos : Pos} {e o : Expr} {es : List Expr} {ta : TE} {t : TA}
/-- f(e, ..), nothing raised -/
theorem pe_fn (D : Dfn X.prog X.w X.K X.mg X.base k x ps sp) (hr : Room k X.A) (hg : Gl X x)
    (ha : PA X (e :: es) t) (hdb : (x == ("__debug__" : Str)) = false := by decide) (he : starEach (e :: es) X.env = (false, eval e X.env) :: starEach es X.env := by rfl) (hpl : (backTo pos (starEach es X.env)).any (·.1) = false := by rfl) :
    PE X (.Call (.Name x p) (e :: es) [] pos) (tCall sp [] E0 t) := by
  obtain ⟨f, fd, h1, h2, h3, h4⟩ := D.ex
  exact pe_call h1 hr hg h2 h3 h4 .nil passN ha hdb he hpl
/-- f(e, ..) that may raise -/
theorem pe_fnS {W : WX} (tk : L2N.Takes X W) (D : Dfn X.prog X.w X.K X.mg X.base k x ps sp) (hr : Room k X.A) (hg : Gl X x)
    (ha : PA X (e :: es) t) (hdb : (x == ("__debug__" : Str)) = false := by decide) (he : starEach (e :: es) X.env = (false, eval e X.env) :: starEach es X.env := by rfl) (hpl : (backTo pos (starEach es X.env)).any (·.1) = false := by rfl) :
    PE X (.Call (.Name x p) (e :: es) [] pos) (tCallS sp (WE W) t) := by
  obtain ⟨f, fd, h1, h2, h3, h4⟩ := D.ex
  exact pe_callS h1 hr hg h2 h3 h4 (fun σ => L2N.passAt tk σ) ha hdb he hpl
/-- o.m(e, ..), nothing raised -/
theorem pe_mth {pl : Sem Bool} (he : PE X o ta) (c : Cls X.K C) (D : Mth X.prog X.w X.K X.mg X.base k C m ps sp) (hr : Room k X.A) (ha : PA X (e :: es) t)
    (hst : starEach (e :: es) X.env = (false, eval e X.env) :: starEach es X.env := by rfl) (hpl : (backTo pos (starEach es X.env)).any (·.1) = false := by rfl)
    (ht : eval (.Call (.Attribute o m apos) (e :: es) [] pos) X.env = (do
      let ov ← eval o X.env
      standAt apos.atName
      let (f, first) ← holding [ov] (getMethod ov m pl)
      callWith pos f first (backTo pos (starEach (e :: es) X.env)) (backToKw pos (keywordEach [] X.env))) := by rfl) :
    PE X (.Call (.Attribute o m apos) (e :: es) [] pos) (tMeth C m sp [] E0 ta t) := by
  obtain ⟨f, fd, h1, h2, h4⟩ := D.ex
  exact pe_meth he c h2 h1 hr h4 .nil passN ha hst hpl ht
/-- C(e, ..) -/
theorem pe_mk (D : Mkr X.prog X.w X.K X.mg X.base k x C ps sp) (hr : Room (k + 1) X.A) (hg : Gl X x)
    (ha : PA X (e :: es) t) (hdb : (x == ("__debug__" : Str)) = false := by decide) (he : starEach (e :: es) X.env = (false, eval e X.env) :: starEach es X.env := by rfl) (hpl : (backTo pos (starEach es X.env)).any (·.1) = false := by rfl) :
    PE X (.Call (.Name x p) (e :: es) [] pos) (tMake C sp [] E0 t) := by
  obtain ⟨f, fd, h1, h2, h4⟩ := D.ex
  exact pe_make h2 h1 hr hg D.g h4 .nil passN ha hdb he hpl
end

section
variable {X : Cx} {K : PySem.W.Frag} {e : Expr} {ta : TE} {f : Str} {pos : Pos}
theorem ix_listK (h : X.K = K) : IxR X (rIxL K) := h ▸ ix_list
theorem ix_tupK (h : X.K = K) : IxR X (rIxT K) := h ▸ ix_tup
theorem ix_seqK (h : X.K = K) : IxR X (rIx K) := h ▸ ix_seq
theorem op_in_seqK (h : X.K = K) : OpR X (compareOp .In) (rIn K false) := h ▸ op_in_seq
theorem op_notIn_seqK (h : X.K = K) : OpR X (compareOp .NotIn) (rIn K true) := h ▸ op_notIn_seq
theorem pe_fldK (h : X.K = K) (he : PE X e ta) (hb : attributeBase e f X.env (eval e X.env) = eval e X.env) : PE X (.Attribute e f pos) (tFld K ta f) := h ▸ pe_fld he hb
end

/-! ### the facts of the top -/
structure Txt (K : PySem.W.Frag) (mg : Str → Option Value) : Prop where
  len : mg "len" = none
  range : mg "range" = none
  list : mg "list" = none
  tuple : mg "tuple" = none
  int : mg "int" = none
  sum : mg "sum" = none
  any : mg "any" = none
  all : mg "all" = none
  sorted : mg "sorted" = none
  abs : mg "abs" = none
  max : mg "max" = none
  isi : mg "isinstance" = none
  bool : mg "bool" = none
  clS : Cls K (He.ga K "Shape")
  clT : Cls K (He.ga K "Tunnels")
  sP : NoAttr K (He.ga K "Shape") "parents"
  sZ : NoAttr K (He.ga K "Shape") "size"
  sA : NoAttr K (He.ga K "Shape") "above"
  tS : NoAttr K (He.ga K "Tunnels") "shape"
  tL : NoAttr K (He.ga K "Tunnels") "lengths"

/-! ### lists of ints, in a list or a tuple -/
abbrev ils (ns : List Int) : List V := ns.map V.int
def Sq (K : PySem.W.Frag) (H : Hp) (a : Addr) (xs : List V) : Prop := SqL K H a xs ∨ SqT K H a xs
section
variable {K : PySem.W.Frag} {H H' : Hp} {a p : Addr} {xs : List V} {v : V} {i : Int} {σ : L2.St} {ta tb te : TE}
theorem Sq.ex (e : Ex H H') (h : Sq K H a xs) : Sq K H' a xs := h.elim (fun h => .inl (ex_l e h)) fun h => .inr (ex_t e h)
theorem rv_ix (h : Sq K H p xs) (ha : atI xs i = some v) : RV (rIx K) (.ref p) (.int i) H v := fun H1 e _ q => by
  rcases h.ex e with h | h
  · exact .inl ⟨p, xs, i, v, rfl, rfl, h, ha, q H1 (Ex.refl H1)⟩
  · exact .inr (.inl ⟨p, xs, i, v, rfl, rfl, h, ha, q H1 (Ex.refl H1)⟩)
theorem ev_lenS (ha : Ev ta σ H (.ref p)) (h : Sq K H p xs) : Ev (tCB (rLenS K) (tCons ta tNil)) σ H (.int (xs.length : Int)) := fun H1 e Q q =>
  ha H1 e _ fun H2 e2 => ⟨p, xs, rfl, h.ex (e.trans e2), q H2 e2⟩
theorem ils_length (ns : List Int) : (ils ns).length = ns.length := List.length_map _
theorem ils_get {ns : List Int} {i : Nat} (h : i < ns.length) : (ils ns)[i]? = some (.int (ns.getD i 0)) := by
  rw [List.getElem?_map, List.getD_eq_getElem?_getD, List.getElem?_eq_getElem h]
  rfl
theorem at_ils {ns : List Int} {i : Nat} (h : i < ns.length) : atI (ils ns) (i : Int) = some (.int (ns.getD i 0)) := atI_nat (ils_get h)
theorem at_nth {ns : List Int} {x : Int} (h1 : 1 ≤ x) (h2 : x ≤ ns.length) : atI (ils ns) (x - 1) = some (.int (nth ns x)) := by
  have e : x - 1 = (((x - 1).toNat : Nat) : Int) := by omega
  rw [e]
  exact at_ils (by omega)
theorem ev_fld {C dx : Addr} {fs : List (Str × V)} {f : Str} (ha : Ev ta σ H (.ref a)) (ho : H a = some (.ins C dx fs)) (hc : Cls K C) (hn : NoAttr K C f) (hl : fs.lookup f = some v) : Ev (tFld K ta f) σ H v := fun H1 e Q q =>
  ha H1 e _ fun H2 e2 => ⟨a, C, dx, fs, v, rfl, e2 _ _ (e _ _ ho), hc, hn, hl, q H2 e2⟩
end
def valO : Option Int → V
  | none => .non
  | some i => .int i
end K61
/-! An own exception over an own class over ValueError, whose __init__ says super().__init__('..') and stores one field: made, raised. -/
namespace K61
open PySem PySem.W PySem.Calls PyProof.Rows PySem.HandSPX
/-! ### the text of __init__ -/
def xA (fld : Str) (p1 p2 : Pos) : Arguments := { posonlyargs := [], args := [{ arg := "self", annotation := none, pos := p1 }, { arg := fld, annotation := none, pos := p2 }], vararg := none, kwonlyargs := [], kw_defaults := [], kwarg := none, defaults := [] }
structure XPos where
  (a1 a2 q1 q2 q3 q4 q5 q6 q7 q8 q9 q10 : Pos)
def xB (fld msg : Str) (x : XPos) : List Stmt :=
  [.Expr (.Call (.Attribute (.Call (.Name "super" x.q1) [] [] x.q2) "__init__" x.q3) [.Constant (.str msg) 0 x.q4] [] x.q5) x.q6, .Assign [.Attribute (.Name "self" x.q7) fld x.q8] (.Name fld x.q9) x.q10]
def xS (fld : Str) : Scope := { kind := .function, names := [(PySem.Str.ofString "self", .local), (fld, .local), (PySem.Str.ofString "__class__", .free), (PySem.Str.ofString "super", .globalImplicit)], isGenerator := false, isCoroutine := false, more := [] }
/-- what the written part says of the class at C, of its __init__ at fI, of the cell of __class__ and the code object -/
structure XTxt (prog : Program) (K : Frag) (mg : Str → Option Value) (name fld msg q : Str) (xp : XPos) (C fI cc cda : Addr) : Prop where
  gC : mg name = some (.ref C)
  cls : ∃ nm q N bs bm sn sub ab col dd k0 k1 k2 k3 k5, K.lookup C = some (excClassObj nm q C N bs bm true sn sub ab col dd k0 k1 k2 k3 k5 "ValueError.__new__") ∧ refsVE bm = true ∧ alongIn K "__init__" bm = some (some (.builtin "ValueError.__init__"))
  sa : findIn K (.ref C) "__setattr__" = some (some (.builtin "object.__setattr__"))
  noN : findIn K (.ref C) fld = some none
  iC : findIn K (.ref C) "__init__" = some (some (.ref fI))
  tC : typeIn K (.ref fI) = some (.type "function")
  kC : keepIn K (.ref C) = true
  exC : subIn K (.ref C) (.type "BaseException") = some true
  tyC : typeIn K (.ref C) = some (.type "type")
  fn : ∃ (oc : Value) (od : Option Addr) (kV doc pm : Value) (an : Option Addr) (ct : Value) (osl : Array (Option Value)),
    K.lookup fI = some ⟨oc, od, .func (fnX "__init__" q (xA fld xp.a1 xp.a2) (xB fld msg xp) (xS fld) [("__class__", cc)] .none kV doc pm an (.ref cda) ct), osl⟩ ∧ codeIn K (.ref cda) q = true
  cell : ∃ c d sl, K.lookup cc = some ⟨c, d, .cell (some (.ref C)), sl⟩
  code : ∃ c d vs sl file tf, K.lookup cda = some ⟨c, d, .fields vs, sl⟩ ∧ vs[2]? = some (.str file tf) ∧ ((prog.main.file : Str) == file) = true
  opq : nsIn K cStatics "thirdparty.any" = some none
  sup : mg "super" = none
  top : (prog.main.scope.names.lookup ("super" : Str)).isSome = false
  subV : subIn K (.ref C) (.type "ValueError") = some true
  own : mroIn K C (.ref C) = some true
  bnd : ∀ (kV doc pm : Value) (an : Option Addr) (ct cdv : Value) (x v : Value), bindArgs (fnX "__init__" q (xA fld xp.a1 xp.a2) (xB fld msg xp) (xS fld) [("__class__", cc)] .none kV doc pm an cdv ct) ⟨[x, v], []⟩ = pure [(("self" : Str), x), (fld, v)]
  evc : ∀ (L : Addr) (cdv : Value), ∃ pl : Sem Bool, eval (.Call (.Attribute (.Call (.Name "super" xp.q1) [] [] xp.q2) "__init__" xp.q3) [.Constant (.str msg) 0 xp.q4] [] xp.q5) (ksEnv q (xS fld) L fI cdv cc) = (do
      let ov ← attributeBase (.Call (.Name "super" xp.q1) [] [] xp.q2) "__init__" (ksEnv q (xS fld) L fI cdv cc) (eval (.Call (.Name "super" xp.q1) [] [] xp.q2) (ksEnv q (xS fld) L fI cdv cc))
      standAt xp.q3.atName
      let (f, first) ← holding [ov] (getMethod ov "__init__" pl)
      callWith xp.q5 f first (backTo xp.q5 (starEach [.Constant (.str msg) 0 xp.q4] (ksEnv q (xS fld) L fI cdv cc))) [])
  ev1 : ∀ (L : Addr) (cdv : Value), interactive (ksEnv q (xS fld) L fI cdv cc) = false
  ev2 : ∀ (L : Addr) (cdv : Value), swapsWith (.Call (.Attribute (.Call (.Name "super" xp.q1) [] [] xp.q2) "__init__" xp.q3) [.Constant (.str msg) 0 xp.q4] [] xp.q5) none xp.q6.line (ksEnv q (xS fld) L fI cdv cc) = pure false
  ev3 : ∀ (L : Addr) (cdv : Value), swapsWith (.Name fld xp.q9) (some (.Attribute (.Name "self" xp.q7) fld xp.q8)) xp.q10.line (ksEnv q (xS fld) L fI cdv cc) = pure false
  fS : (fld == ("self" : Str)) = false
  fC : (("__class__" : Str) == fld) = false
  fU : (("super" : Str) == fld) = false
  fD : (fld == ("__debug__" : Str)) = false
theorem boot_super : bootBuiltins "super" = some (.type "super") := by decide +kernel
section
variable {prog : Program} {w : World} {A : Around} {E : Value → Shared → Prop} {R : Result → Shared → Prop} {s : Shared} {K : Frag} {mg : Str → Option Value} {name fld msg q : Str} {xp : XPos} {C fI cc cda : Addr}
/-- the bound ValueError.__init__ of an exception that has no dict as yet, called -/
theorem call_mw {h : Heap} {g : Array GenState} {d : Drawn} {t : Nat} {os : OsState} {nm qn : Str} {N : Addr} {bs bm : List Value} {sn : List Str} {sub : List Value} {ab : Bool} {col : Option Bool} {dd : Option Addr} {k0 k1 k2 k3 k5 : Option Value} {u e t0 : Addr} {rest : List Value} {Q : Value → Shared → Prop}
    (hC : h.get? C = some (excClassObj nm qn C N bs bm true sn sub ab col dd k0 k1 k2 k3 k5 "ValueError.__new__")) (he : h.get? e = some (excO C t0)) (hu : h.get? u = some (kxs_mw "ValueError.__init__" e)) (hrest : rest.length ≤ sizeLine)
    (hq : ∀ h' t1, (∀ b o, b ≠ e → h.get? b = some o → h'.get? b = some o) → h'.get? e = some (excO C t1) → Q .none ⟨h', g, d, t, os⟩) :
    wpAny (model prog w) A (call (.ref u) rest) Q E ⟨h, g, d, t, os⟩ := by
  refine wpAny_call (codeAny_of_tree ?_)
  show wpAny _ A.in1 (callAny (.ref u) ⟨rest, []⟩) _ _ _
  simp only [callAny]
  refine wpAny_bind (wpAny_load hu ?_)
  simp only [kxs_mw, show (Value.type "method-wrapper" == Value.type "method" || Value.type "method-wrapper" == Value.type "builtin_function_or_method" || Value.type "method-wrapper" == Value.type "method-wrapper") = true by decide, if_true]
  refine KFB.if_so (by decide) ?_
  refine wpAny_bind (check_bound_init F.excBase_ValueError.toExcCallFacts hC he rfl ?_)
  refine wpAny_bind (wpAny_pure (wpAny_pure ?_))
  refine ⟨plainId_quiet F.excBase_ValueError.init.plain _, codeAny_builtin F.excBase_ValueError.initEntry ?_⟩
  exact exc_init_tree (cls := .ref C) (t0 := t0) (dv := none) (c2 := .none) (c3 := .none) (b4 := .bool false) he hrest fun h' k e' _ => hq h' _ k e'
/-- what __init__ leaves of a fresh exception at x -/
structure InitEnd (h h' : Heap) (x C dx : Addr) (fld : Str) (v : Value) : Prop where
  keep : ∀ b o, b ≠ x → h.get? b = some o → h'.get? b = some o
  obj : ∃ t1 : Addr, h'.get? x = some { cls := .ref C, dict := some dx, data := .fields #[.ref t1, .none, .none, .none, .bool false, .none] }
  dbig : h.objs.size ≤ dx
  dne : dx ≠ x
  ns : h'.Ns1 dx (fun y => if y = fld then some v else none)
theorem x_init (T : XTxt prog K mg name fld msg q xp C fI cc cda) {x t0 : Addr} {v : Value} {mb : Str → Option Value} (X : K.In s.heap) (G : s.heap.Ns mainGlobals mg) (B : s.heap.Ns builtinsNs mb) (hB : mb "super" = bootBuiltins "super") (hlim : s.heap.NoLimit)
    (hx : s.heap.get? x = some (excO C t0)) (hnx : K.lookup x = none) (hroom : A.depth < recursionLimit)
    (hq : ∀ h' tk dx, InitEnd s.heap h' x C dx fld v → R (.ok (.ret .none)) { s with heap := h', toks := tk }) :
    codeAny (model prog w) A (.call (.ref fI) ⟨[.ref x, v], []⟩) R s := by
  obtain ⟨oc, od, kV, doc, pm, an, ct, osl, ho, hcd⟩ := T.fn
  obtain ⟨pl, hev⟩ := T.evc s.heap.objs.size (.ref cda)
  obtain ⟨nm, qn, N, bs, bm, sn, sub, ab, col, dd, k0, k1, k2, k3, k5, hC, hbm, hal⟩ := T.cls
  obtain ⟨ccl, ccd, csl, hcell⟩ := T.cell
  obtain ⟨dcl, dcd, vs, dsl, file, tf, hcode, hvs, hfile⟩ := T.code
  have hcl : clsIn K C = some { name := nm, bases := bs, mro := .ref C :: bm, ns := N, qualname := qn, hasDict := true, slotNames := sn, subclasses := sub, abstract := ab, collection := col, hasDel := false } := by unfold clsIn; rw [hC] <;> rfl
  refine ks_codeAny_call_defAt (fd := fnX "__init__" q (xA fld xp.a1 xp.a2) (xB fld msg xp) (xS fld) [("__class__", cc)] .none kV doc pm an (.ref cda) ct) (body := xB fld msg xp) (binds := [(("self" : Str), .ref x), (fld, v)]) hroom (X _ _ ho) rfl hlim (codeRec_of X hcd) rfl
    (BindsTo.of_eq (T.bnd ..)) (by intro y hy; simp [xS] at hy; rcases hy with rfl | rfl | rfl | rfl <;> exact fun z => by cases z) ?_ (fun h₁ hns hk₁ => ?_) rfl rfl rfl
  · intro y hy
    have fS := T.fS
    simp at hy
    rcases hy with rfl | rfl
    · simp [xS, List.lookup]
    · simp [xS, List.lookup, fS]
  · have X₁ : K.In h₁ := X.keeps hk₁
    have hx₁ := hk₁ _ _ hx
    have ix : InstAt h₁ x (excO C t0) C none := ⟨hx₁, rfl, rfl, trivial⟩
    have kS : (xS fld).names.lookup ("self" : Str) = some .local := by simp [xS, List.lookup]
    have kF : (xS fld).names.lookup fld = some .local := by simp [xS, List.lookup, T.fS]
    have kC : (xS fld).names.lookup ("__class__" : Str) = some .free := by
      have h1 : (("__class__" : Str) == ("self" : Str)) = false := by decide +kernel
      simp [xS, List.lookup, h1, T.fC]
    have kU : (xS fld).names.lookup ("super" : Str) = some .globalImplicit := by
      have h1 : (("super" : Str) == ("self" : Str)) = false := by decide +kernel
      have h2 : (("super" : Str) == ("__class__" : Str)) = false := by decide +kernel
      simp [xS, List.lookup, h1, h2, T.fU]
    have mS : (fun y => List.lookup y ([(("self" : Str), Value.ref x), (fld, v)] : List (Str × Value)).reverse) ("self" : Str) = some (.ref x) := by
      have h1 : (("self" : Str) == fld) = false := by
        have := T.fS
        rw [← this]
        exact Bool.beq_comm (a := ("self" : Str)) (b := fld)
      simp [List.lookup, h1]
    have mF : (fun y => List.lookup y ([(("self" : Str), Value.ref x), (fld, v)] : List (Str × Value)).reverse) fld = some v := by simp [List.lookup]
    obtain ⟨oD, hD1, hD2⟩ : ∃ oD, h₁.get? C = some oD ∧ oD.data = .cls _ := ⟨_, X₁ _ _ hC, rfl⟩
    refine ks_wpAt_execs_cons (ks_wpAt_Expr_any (ks_wpAt_MethodCall (pl := pl) ?_ hev) (T.ev1 ..) (T.ev2 ..))
    refine ks_wpAt_super_base (env := ksEnv q (xS fld) s.heap.objs.size fI (.ref cda) cc) kU kC (by decide +kernel) rfl (X₁ _ _ ho) rfl (by rfl) rfl (X₁ _ _ hcode) rfl hvs hfile T.top ?_
    have key : ∀ y o, s.heap.get? y = some o → h₁.get? y = some o := hk₁
    refine ks_loadName_global rfl kU (loadGlobal_builtin (env := ksEnv q (xS fld) s.heap.objs.size fI (.ref cda) cc) (G.keeps hk₁) T.sup (B.keeps hk₁) (hB.trans boot_super) ⟨rfl, ?_⟩)
    refine wpAny_loadName_free rfl kC rfl ⟨_, X₁ _ _ hcell, rfl⟩ ?_
    refine wpAny_loadName_local rfl kS hns mS ?_
    refine ks_wpAny_isType_cls hD1 hD2 ⟨rfl, ?_⟩
    refine ks_wpAny_call_super hD1 hD2 hx₁ rfl (fun c e => by cases e) (looks_mroIn X₁ T.own) (fun h₂ e₂ k₂ => ?_)
    have X₂ : K.In h₂ := X₁.keeps k₂
    have hx₂ := k₂ _ _ hx₁
    have ix2 : InstAt h₂ x (excO C t0) C none := ⟨hx₂, rfl, rfl, trivial⟩
    have hxC : x ≠ C := ks_ne X₁ ix hcl
    refine kxs_getMethod kxs_ValueError e₂ (looks_opaque X₂ T.opq) (l₀ := .ref C :: bm) ?_ (by simp [List.dropWhile]) X₂ hal (ix2.type.andThen (looks_subIn X₂ T.subV)) hxC (by decide +kernel) ?_
    · exact fun A Q E s k q => wpAny_bind ((looks_clsIn X₂ hcl) A _ E s k (wpAny_pure q))
    have hu : (h₂.push (kxs_mw "ValueError.__init__" x)).get? h₂.objs.size = some (kxs_mw "ValueError.__init__" x) := Heap.get?_push_size _ rfl
    have k₃ : ∀ y o, h₂.get? y = some o → (h₂.push (kxs_mw "ValueError.__init__" x)).get? y = some o := fun y o e => Heap.get?_push_of_some _ e
    show wpAny _ _ (callWith xp.q5 (.ref h₂.objs.size) [] (backTo xp.q5 (starEach [.Constant (.str msg) 0 xp.q4] (ksEnv q (xS fld) s.heap.objs.size fI (.ref cda) cc))) []) _ _ _
    refine kxs_callWith (i := "ValueError.__init__") (x := x) (by rfl) ?_
    show wpAny _ _ (evalArgs (.ref h₂.objs.size) true ((false, eval (.Constant (.str msg) 0 xp.q4) (ksEnv q (xS fld) s.heap.objs.size fI (.ref cda) cc)) :: backTo xp.q5 (starEach [] (ksEnv q (xS fld) s.heap.objs.size fI (.ref cda) cc))) []) _ _ _
    refine evalArgs_plain (PySem.Calls.spliced_cons (wpAny_Constant_str (spliced_none ⟨hu, ?_⟩)))
    refine call_mw (t0 := t0) (k₃ _ _ (k₂ _ _ (X₁ _ _ hC))) (k₃ _ _ hx₂) hu (by show 1 ≤ sizeLine; rw [sizeLine_eq]; decide) fun h₄ t1 k₄ hx₄ => ?_
    -- self.fld = v
    have K4 : ∀ b o, b ≠ x → s.heap.get? b = some o → h₄.get? b = some o := fun b o hb e => k₄ b o hb (k₃ _ _ (k₂ _ _ (hk₁ _ _ e)))
    have X₄ : K.In h₄ := fun b o e => K4 b o (fun z => by rw [z, hnx] at e; cases e) (X b o e)
    have hL : s.heap.objs.size ≠ x := Nat.ne_of_gt (Heap.lt_size hx)
    have hns₄ : h₄.Ns s.heap.objs.size (fun y => List.lookup y ([(("self" : Str), Value.ref x), (fld, v)] : List (Str × Value)).reverse) := by
      obtain ⟨o, es, ep, e1, e2⟩ := hns
      exact ⟨o, es, ep, k₄ _ _ hL (k₃ _ _ (k₂ _ _ e1)), e2⟩
    have z₄ : s.heap.objs.size ≤ h₄.objs.size := by
      obtain ⟨o, es, ep, e1, e2⟩ := hns₄
      exact Nat.le_of_lt (Heap.lt_size e1)
    refine ks_wpAt_execs_cons (ks_wpAt_Assign_Attr (wpAt_of_wpAny ?_) (T.ev3 ..))
    refine wpAny_Name (wpAny_loadName_local rfl kF hns₄ mF ?_) T.fD
    refine wpAny_Name (wpAny_loadName_local rfl kS hns₄ mS ?_) (by decide +kernel)
    refine set_plain X₄ (ox := excO C t1) (od := none) ⟨hx₄, rfl, rfl, trivial⟩ T.sa ?_
    refine exc_osa X₄ hx₄ hcl (show refsVE (.ref C :: bm) = true from hbm) rfl T.noN (fun h₅ tk₅ dx k₅ dn dne hx₅ hn₅ => ?_)
    show _root_.PySem.wpAt _ _ _ (execs [] _) _ _ _
    exact wpAt_of_wpAny (wpAny_execs_nil (hq h₅ tk₅ dx ⟨fun b o hb e => k₅ b o hb (K4 b o hb e), ⟨t1, hx₅⟩, Nat.le_trans z₄ dn, dne, hn₅⟩))
/-- a made one -/
structure OwnMade (h h' : Heap) (e C d : Addr) (fld : Str) (v : Value) : Prop where
  keep : ∀ b o, h.get? b = some o → h'.get? b = some o
  new : h.objs.size ≤ e
  obj : ∃ oe vs, h'.get? e = some oe ∧ oe.cls = .ref C ∧ oe.dict = some d ∧ oe.data = .fields vs ∧ vs[1]? = some .none ∧ vs[2]? = some .none
  dbig : h.objs.size ≤ d
  dne : d ≠ e
  ns : h'.Ns1 d (fun y => if y = fld then some v else none)
theorem one_size (v : Value) : [v].length ≤ sizeLine := by
  rw [sizeLine_eq]
  exact (by decide : 1 ≤ 16777216)
theorem x_made (T : XTxt prog K mg name fld msg q xp C fI cc cda) {v : Value} {mb : Str → Option Value} (X : K.In s.heap) (G : s.heap.Ns mainGlobals mg) (B : s.heap.Ns builtinsNs mb) (hB : mb "super" = bootBuiltins "super") (hlim : s.heap.NoLimit) (hroom : A.depth + 1 < recursionLimit)
    (hq : ∀ h' tk e d, OwnMade s.heap h' e C d fld v → R (.ok (.ret (.ref e))) { s with heap := h', toks := tk }) :
    codeAny (model prog w) A (.call (.ref C) ⟨[v], []⟩) R s := by
  obtain ⟨nm, qn, N, bs, bm, sn, sub, ab, col, dd, k0, k1, k2, k3, k5, hC, hbm, hal⟩ := T.cls
  obtain ⟨hp, g, dr, tk, os⟩ := s
  have k : ∀ b o, hp.get? b = some o → ((hp.push (kdv_tup [v])).push (excO C hp.objs.size)).get? b = some o := fun b o e => Heap.get?_push_of_some _ (Heap.get?_push_of_some _ e)
  have hget : ((hp.push (kdv_tup [v])).push (excO C hp.objs.size)).get? (hp.objs.size + 1) = some (excO C hp.objs.size) := by heap_get
  have hnx : K.lookup (hp.objs.size + 1) = none := by
    cases e : K.lookup (hp.objs.size + 1) with
    | none => rfl
    | some o =>
      have z : hp.get? (hp.objs.size + 1) = some o := X _ _ e
      exact absurd (Nat.lt_of_succ_lt (Heap.lt_size z)) (Nat.lt_irrefl _)
  refine call_own F.excBase_ValueError (fun X => refsVE_contains X bm hbm) (X _ _ hC) (looks_findIn X T.iC) (fun self => bind_fn X self T.tC) (one_size v) ?_
  refine x_init (s := ⟨(hp.push (kdv_tup [v])).push (excO C hp.objs.size), g, dr, tk, os⟩) T (X.keeps k) (G.keeps k) (B.keeps k) hB (hlim.keeps k) hget hnx ?_ fun h' tk' dx ⟨k', hx, dn, dne, hns⟩ => ?_
  · show A.depth + 1 < recursionLimit
    exact hroom
  · have old : ∀ b o, hp.get? b = some o → h'.get? b = some o := fun b o e => k' b o (Nat.ne_of_lt (Nat.lt_succ_of_lt (Heap.lt_size e))) (k b o e)
    obtain ⟨t1, hx⟩ := hx
    have z : hp.objs.size + 1 + 1 ≤ dx := by
      first
        | (simpa only [Heap.size_push] using dn)
        | exact dn
        | (have q := dn; rw [Heap.size_push, Heap.size_push] at q; exact q)
    exact ⟨rfl, hq h' tk' (hp.objs.size + 1) dx ⟨old, Nat.le_succ _, ⟨_, _, hx, rfl, rfl, rfl, rfl, rfl⟩, Nat.le_trans (Nat.le_trans (Nat.le_succ _) (Nat.le_succ _)) z, dne, hns⟩⟩
end
end K61
namespace K61
open PySem PySem.Spec PyProof.Rows L2
theorem relO_fld {v : V} {v' : Value} {fld : Str} (r : RelV v v') (f : Str) : RelO (List.lookup f [(fld, v)]) (if f = fld then some v' else none) := by
  by_cases hw : f = fld
  · subst hw
    rw [if_pos rfl]
    have q : List.lookup f [(f, v)] = some v := by simp [List.lookup]
    rw [q]
    exact r
  · rw [if_neg hw]
    have qw : (f == fld) = false := by simpa using hw
    have q2 : List.lookup f [(fld, v)] = none := by simp [List.lookup, qw]
    rw [q2]
    trivial
section
variable {X : Cx} {name fld msg q : Str} {xp : XPos} {C fI cc cda : Addr}
/-- C(e) -/
def tMkX (C : Addr) (fld : Str) (ta : TA) : L2.St → Hp → XK → Prop := fun σ H Q => ta σ H fun vs H1 => ∃ v, vs = [v] ∧ ∀ d, H1 d = none → Q (.ref C) (some d) (upd H1 d (.xd [(fld, v)]))
theorem pmk_x {a : Expr} {ta : TA} {p pos : Pos} {k : Nat} (T : XTxt X.prog X.K X.mg name fld msg q xp C fI cc cda) (hr : Room k X.A) (ha : PA X [a] ta) (hg : Gl X name) (hdb : (name == ("__debug__" : Str)) = false := by decide)
    (he : starEach (a :: []) X.env = (false, eval a X.env) :: starEach [] X.env := by rfl) (hpl : (backTo pos (starEach [] X.env)).any (·.1) = false := by rfl) :
    L2N.PMk X (.Call (.Name name p) [a] [] pos) (tMkX C fld ta) := by
  intro pins s σ H Q I h
  refine wpAny_Call_Name_kw (ld_glob I hg T.gC ?_ hdb)
  refine PySem.W.callWith_K (h₀ := X.base) I.ok.mod.kin T.kC (thn (ha.run pos pins s σ H _ I h) fun us s1 hh => ?_) he hpl
  obtain ⟨vs, H1, I1, r1, v, ev, q1⟩ := hh
  subst ev
  refine ⟨I1.kIn, ?_⟩
  cases r1 with
  | cons rv rn =>
    rename_i v' us'
    cases rn
    show wpAny _ _ (call (.ref C) [v']) _ _ _
    have hlim := I1.nolimit
    obtain ⟨mb, hb1, hb2⟩ := I1.mod.blt
    have hGl := I1.mod.glob.keeps I1.bk
    have hBl := hb1.keeps I1.bk
    obtain ⟨hp, g, dr, tk, os⟩ := s1
    refine wpAny_call (x_made T I1.kIn hGl hBl (hb2 _ (by decide +kernel)) hlim (by have := hr.dp; omega) fun h' tk' e d M => ?_)
    show L2N.MkP X pins σ Q (.ref e) ⟨h', g, dr, tk', os⟩
    obtain ⟨oe, fv, hoe, hc, hd, hdat, h1, h2⟩ := M.obj
    have hns := M.ns
    obtain ⟨G', g1, g2⟩ := restrict h' fun b => decide (b ≠ e)
    have gk : ∀ b, b ≠ e → G'.get? b = h'.get? b := fun b hb => g1 b (decide_eq_true hb)
    have ge : G'.get? e = none := g2 e (by simp)
    have old : ∀ b o, hp.get? b = some o → G'.get? b = some o := fun b o q => (gk b (Nat.ne_of_lt (Nat.lt_of_lt_of_le (Heap.lt_size q) M.new))).trans (M.keep b o q)
    have ob : ObjOk X.prog X.w (upd H1 d (.xd [(fld, v)])) G' d (.xd [(fld, v)]) :=
      ⟨_, hns.at (fun o q => (gk d M.dne).trans q), fun f => relO_fld rv f⟩
    have J : Inv X pins σ (upd H1 d (.xd [(fld, v)])) ⟨G', g, dr, tk', os⟩ := I1.laid (t' := tk') old M.dbig ob
    refine ⟨e, oe, fv, ⟨G', g, dr, tk', os⟩, _, .ref C, some d, rfl, J, fun b o q => ?_, ge, hoe, ⟨hc, hd, fun vs e => by rw [hdat] at e; cases e; exact h2⟩, hdat, h1, ?_, rfl, I1.bare, raises_own T.exC T.tyC, q1 d (I1.hok.fresh M.dbig)⟩
    · by_cases hb : b = e
      · have q' : G'.get? b = some o := q
        rw [hb, ge] at q'; cases q'
      · exact (gk b hb).symm.trans q
    · rw [upd_ne (Ne.symm M.dne)]
      exact I1.hok.fresh M.new
/-- raise C(e) -/
def tRaiseX (C : Addr) (fld : Str) (W : WX) (ta : TA) : TS := fun _ σ H => tMkX C fld ta σ H fun cls d H' => W cls d σ H'
theorem ps_raiseX {a : Expr} {ta : TA} {W : WX} {p pos pos2 : Pos} {k : Nat} (hc : X.calm = true) (T : XTxt X.prog X.K X.mg name fld msg q xp C fI cc cda) (hr : Room k X.A) (tk : L2N.Takes X W) (ha : PA X [a] ta) (hg : Gl X name) (hdb : (name == ("__debug__" : Str)) = false := by decide)
    (he : starEach (a :: []) X.env = (false, eval a X.env) :: starEach [] X.env := by rfl) (hpl : (backTo pos (starEach [] X.env)).any (·.1) = false := by rfl) :
    PS X (.Raise (some (.Call (.Name name p) [a] [] pos)) none pos2) (tRaiseX C fld W ta) := L2N.ps_raise hc tk (pmk_x T hr ha hg hdb he hpl)
end
end K61
/-! In an except suite: isinstance of the caught error (which has a dict), sum of a list, xs[::k]. -/
namespace K61
open PySem PySem.W PySem.Spec PySem.Calls PyProof.Rows
section
variable {prog : Program} {w : World} {A : Around} {E : Value → Shared → Prop} {s : Shared} {K : Frag} {x D : Addr} {ox : Obj} {od : Option Obj}
theorem findObj_dataD {C : Addr} {name : Str} {a g : Value} (hc : (clsIn K C).isSome = true) (ha : findIn K (.ref C) name = some (some a)) (hg : specialIn K a "__get__" = some (some g)) (ht : takesIn K a = some true) : findObj K C od name = some (.bind g a) := by
  obtain ⟨cd, hc⟩ := Option.isSome_iff_exists.mp hc
  unfold findObj
  rw [hc, Option.bind_some, ha, Option.bind_some]
  simp [hg, ht]
theorem kin_classD {Q : Option Value → Shared → Prop} (hga : findIn K (.ref D) "__getattribute__" = some (some (.builtin "BaseException.__getattribute__"))) (hgt : findIn K (.ref D) "__getattr__" = some none) (hsub : subIn K (.ref D) (.type "BaseException") = some true)
    (hdct : hasDictIn K D = true) (ha : findIn K (.ref D) "__class__" = some (some (.builtin "object.__class__")))
    (hn : specialIn K (.builtin "object.__class__") "__get__" = some (some (.builtin "getset_descriptor.__get__"))) (htk : takesIn K (.builtin "object.__class__") = some true) (hm : mroIn K D (.type "object") = some true)
    (X : K.In s.heap) (I : InstAt s.heap x ox D od) (h : Q (some (.ref D)) { s with toks := s.toks + 1 }) : wpAny (model prog w) A (getAttr? (.ref x) "__class__") Q E s := by
  have hf : findObj K D od "__class__" = some (.bind (.builtin "getset_descriptor.__get__") (.builtin "object.__class__")) := findObj_dataD (by obtain ⟨cd, hc, _⟩ := any_some hdct; rw [hc]; rfl) ha hn htk
  obtain ⟨hp, g, d, t, os⟩ := s
  have L0 := I.type (M := model prog w)
  have L1 := looks_findIn (M := model prog w) X hga
  have L2 := looks_findIn (M := model prog w) X hgt
  have L3 := looks_find (M := model prog w) X I hf
  have sub : Looks (model prog w) hp (isInstance (.ref x) (.type "BaseException")) true := L0.andThen (looks_subIn X hsub)
  have hx0 : (false && onTheHeap (Value.builtin "BaseException.__getattribute__")) = false := rfl
  have hx2 : (Value.builtin "BaseException.__getattribute__" == Value.builtin "object.__getattribute__") = false := by decide +kernel
  have hx1 : (onTheHeap (Value.ref D) && Value.builtin "BaseException.__getattribute__" == Value.builtin "object.__getattribute__") = false := by rw [hx2]; rfl
  unfold getAttr? getAttrBy? getAttrBy
  refine wpAny_bind (wpAny_mkText (wpAny_bind (wpAny_attempt (wpAny_holding (wpAny_bind (L0.at (wpAny_bind (L1.at ?_))))))))
  show wpAny _ _ (if (onTheHeap (Value.ref D) && Value.builtin "BaseException.__getattribute__" == Value.builtin "object.__getattribute__") = true then _ else _) _ _ _
  rw [hx1, if_neg Bool.false_ne_true]
  unfold getAttrByItsOwn hookBefore
  refine wpAny_bind ?_
  rw [if_pos (show onTheHeap (Value.ref D) = true from rfl)]
  refine L2.at ?_
  refine wpAny_bind (wpAny_attempt (wpAny_holding ?_))
  unfold callGetattribute
  rw [hx0, if_neg Bool.false_ne_true]
  unfold boundAndCalled
  rw [PySem.F.excAttr_ValueError.ga.bind (.ref x)]
  refine wpAny_bind (wpAny_pure ?_)
  show wpAny _ _ (call (.builtin "BaseException.__getattribute__") [.ref x, .str "__class__" t]) _ _ _
  refine wpAny_call (codeAny_call_builtin PySem.F.excAttr_ValueError.ga.plain PySem.F.entry_bexc_ga ?_)
  refine @check_slot (model prog w) _ _ ⟨hp, g, d, t + 1, os⟩ "BaseException.__getattribute__" "BaseException" "__getattribute__" (.ref x) [.str "__class__" t] [] _ (by decide +kernel) (by decide +kernel) sub (PySem.F.args_bexc_ga (.ref x) (.str "__class__" t)) ?_
  unfold Builtin.«object.__getattribute__»
  refine wpAny_bind (wpAny_of_eq (a := ((Value.ref x : Value), [Value.str "__class__" t])) (by first | rfl | (simp only [slotArgs]; rfl)) ?_)
  refine wpAny_bind (wpAny_pure (wpAny_bind (L0.at (wpAny_bind (L3.at ?_)))))
  show wpAny _ _ (holding [Value.builtin "object.__class__"] (call (.builtin "getset_descriptor.__get__") [.builtin "object.__class__", .ref x, .ref D]) >>= ret) _ _ _
  refine wpAny_bind (wpAny_holding (wpAny_call (class_get (s := ⟨hp, g, d, t + 1, os⟩) (ox := ox) (od := od) X I hm ?_)))
  refine wpAny_pure ?_
  show wpAny _ _ (handedOut (.ref D)) _ _ _
  rw [handedOut_of (v := .ref D) rfl]
  first
    | exact wpAny_pure (wpAny_pure h)
    | exact wpAny_pure h
    | exact wpAny_pure (wpAny_bind (wpAny_pure (wpAny_pure h)))
theorem kitx_excD (hga : findIn K (.ref D) "__getattribute__" = some (some (.builtin "BaseException.__getattribute__"))) (hgt : findIn K (.ref D) "__getattr__" = some none) (hsub : subIn K (.ref D) (.type "BaseException") = some true) (hdct : hasDictIn K D = true) (ha : findIn K (.ref D) "__class__" = some (some (.builtin "object.__class__")))
    (hn : specialIn K (.builtin "object.__class__") "__get__" = some (some (.builtin "getset_descriptor.__get__"))) (htk : takesIn K (.builtin "object.__class__") = some true) (hm : mroIn K D (.type "object") = some true) :
    KitX K (.ref x) (.ref D) (fun h => InstAt h x ox D od) where
  ty := fun _ _ _ I => I.type
  it := fun _ _ X _ => by
    obtain ⟨cdD, hcD, _⟩ := any_some hdct
    unfold clsIn at hcD
    split at hcD
    · rename_i c' d' cd' sl' ho
      intro A' Q' E' s' k q
      unfold isType loadHead
      exact wpAny_bind (wpAny_loadPart (k _ _ (X _ _ ho)) (wpAny_pure q))
    · cases hcD
  ne := fun h tp dd its n sl X htp => by
    obtain ⟨cdD, hcD, _⟩ := any_some hdct
    refine Bool.eq_false_iff.mpr fun q => ?_
    have e : D = tp := Value.ref.inj (beq_iff_eq.mp q)
    subst e
    unfold clsIn at hcD
    split at hcD
    · rename_i c' d' cd' sl' ho
      have z := (X _ _ ho).symm.trans htp
      cases z
    · cases hcD
  ca := fun X I k => kin_classD hga hgt hsub hdct ha hn htk hm X I k
end
end K61
namespace K61
open PySem PySem.Spec PyProof.Rows L2
/-- isinstance(e, c), e the error that the suite holds, its class D, its dict tracked -/
def rIsX (K : PySem.W.Frag) (D a : Addr) (d : Option Addr) : List V → Hp → VK → Prop := fun xs H Q => ∃ (c : V) (cv : Value) (b : Bool) (dd : Addr) (fs : List (Str × V)), xs = [.ref a, c] ∧ (∀ u, RelV c u → u = cv) ∧ PySem.W.kitOne K (.ref D) cv = some b ∧ d = some dd ∧ H dd = some (.xd fs) ∧ Q (.bl b) H
theorem call_isX {X : Cx} {a D : Addr} {oe : Obj} {d : Option Addr} {pn : List (Addr × Obj)} (C : ExcC X.K D) (hz : Zc (.ref D) d oe) (hf : ∃ vs, oe.data = .fields vs) : CallR (X.suite a ((a, oe) :: pn)) (.builtin "isinstance") (rIsX X.K D a d) := by
  intro pins s σ H xs us Q I r h
  obtain ⟨c, cv, b, dd, fs, rfl, hcv, e, ed, hd, q⟩ := h
  cases r with
  | cons rx rr =>
    cases rr with
    | cons rt rr =>
      cases rr
      cases rx
      have ec := hcv _ rt
      subst ec
      subst ed
      obtain ⟨hget, _⟩ := I.pin (a, oe) (List.mem_append.mpr (.inl List.mem_cons_self))
      obtain ⟨vs, hv⟩ := hf
      have hx : ObjOk X.prog X.w H s.heap dd (.xd fs) := I.hok dd _ hd
      obtain ⟨mA, hns, hr⟩ := hx
      obtain ⟨od, ho, hl⟩ := lookIn_ns hns
      have J : PySem.W.InstAt s.heap a oe D (some od) := ⟨hget, hz.1, by unfold PySem.W.notCls; rw [hv] <;> rfl, by rw [hz.2]; exact ho⟩
      exact PySem.W.kia_one (kitx_excD C.hg C.hk C.hs C.hd C.ha C.hn C.ht C.hm) I.kIn J e (fun z => nomatch z) fun tk => ⟨.bl b, H, I.kept (t' := tk) fun _ _ z => z, rfl, q⟩
end K61
/-! sum of a list while an exception is handled -/
namespace K61
open PySem PySem.Spec PyProof.Rows HotX
section
variable {prog : Program} {w : World} {A : Around} {E : Value → Shared → Prop} {s : Shared}
/-- the object of the handled exception: its context is None -/
def HotO (x1 : Addr) (h : Heap) : Prop := ∃ (o : Obj) (vs : Array Value), h.get? x1 = some o ∧ o.data = .fields vs ∧ vs[2]? = some .none
theorem pyNext_list_end_hot {it l x1 : Addr} {i : Nat} {items : Array Value} {Q : Option Value → Shared → Prop} (hh : A.handled = some (.ref x1)) (hot : HotO x1 s.heap)
    (hit : s.heap.IsListIter it l i) (hl : s.heap.IsList l items) (hx : items[i]? = none)
    (hQ : ∀ h', Heap.ExtBut it s.heap h' → Q none { s with heap := h' }) : wpAny (model prog w) A (pyNext (.ref it)) Q E s := by
  obtain ⟨o, ho, hc, hd⟩ := id hit
  obtain ⟨ol, hol, _, nl, hdl⟩ := hl
  obtain ⟨o1, vs1, h1, d1, c1⟩ := hot
  have nx : x1 ≠ it := fun z => by
    rw [z, ho] at h1
    cases h1
    rw [hd] at d1
    cases d1
    simp at c1
  unfold pyNext
  refine wpAny_bind (wpAny_attempt (wpAny_callSpecial?_slot (name := Str.ofString "__next__") hit.typeIs slot_listiter_next
    (wpAny_call_entry slot_listiter_next hit.typeIs entry_listiter_next ?_ (args_listiter_next _))))
  show wpAny _ _ (field (.ref it) 0 >>= _) _ _ s
  refine wpAny_bind (wpAny_field ho hd (x := .ref l) rfl ?_)
  show wpAny _ _ (if (Value.ref l == Value.none) = true then _ else _) _ _ s
  rw [if_neg (show ¬ ((Value.ref l == Value.none) = true) from Bool.false_ne_true)]
  show wpAny _ _ (field (.ref it) 1 >>= _) _ _ s
  refine wpAny_bind (wpAny_field ho hd (x := .int i 0) rfl ?_)
  show wpAny _ _ (seqItems? (.ref l) >>= _) _ _ s
  refine wpAny_bind (wpAny_seqItems hol hdl ?_)
  simp only [Int.toNat_natCast, hx]
  refine wpAny_bind (wpAny_rule (wpAny_bind (wpAny_setField ho hd (by simp) ?_)))
  show wpAny _ _ (newExc (.type "StopIteration") [] >>= _) _ _ _
  refine wpAny_bind ?_
  simp only [newExc, newTuple]
  refine wpAny_bind (wpAny_newObj_type ?_ (by size_fits))
  refine wpAny_bind (m := firstArgMember _ _) (wpAny_of_eq (a := Value.none) (by first | rfl | (simp only [firstArgMember]; rfl)) ?_)
  refine wpAny_newObj_type ?_ (by size_fits)
  have sb : Heap.SameBut it s.heap (s.heap.update it (Obj.mapFields (·.setIfInBounds 0 .none))) := Heap.SameBut.update ..
  have h1' := (sb.2 x1 nx).trans h1
  refine raiseNew_hot ⟨hh, o1, vs1, Heap.get?_push_of_some _ (Heap.get?_push_of_some _ h1'), d1, c1⟩ (Nat.ne_of_lt (Heap.lt_size (Heap.get?_push_of_some _ h1'))) (Heap.get?_push_size _ rfl) rfl (by first | (simp; done) | (simp; omega) | (simp only [Array.size_append]; simp; omega)) ?_
  refine wpAny_bind (wpAny_isInstance (T := "StopIteration") (b := true) ⟨_, Heap.get?_update_self _ (Heap.get?_push_size _ rfl) rfl, rfl⟩ isSubtype_stop ?_)
  refine wpAny_pure (hQ _ fun b o hb e => ?_)
  have e1 := (sb.2 b hb).trans e
  rw [Heap.get?_update_other _ _ (Nat.ne_of_gt (Heap.lt_size (Heap.get?_push_of_some _ e1)))]
  exact Heap.get?_push_of_some _ (Heap.get?_push_of_some _ e1)
theorem HotO.ext {x1 it : Addr} {h h' : Heap} (o : HotO x1 h) (hs : Heap.ExtBut it h h') (hn : x1 ≠ it) : HotO x1 h' := by
  obtain ⟨o, vs, e, d, c⟩ := o
  exact ⟨o, vs, hs x1 o hn e, d, c⟩
theorem walks_listH {x1 : Addr} (hh : A.handled = some (.ref x1)) (I ax : Addr) (hne : ax ≠ I) (hx : x1 ≠ I) (items : Array Value) :
    Walks prog w A I [I, ax, x1] [I] items.size (fun i v => items[i]? = some v) (fun i h => h.IsListIter I ax i ∧ h.IsList ax items ∧ HotO x1 h) where
  sub := fun b hb => by simp at hb; simp [hb]
  frame := fun _ _ _ st hk => ⟨st.1.at fun o e => hk I (by simp) o e, st.2.1.at fun o e => hk ax (by simp) o e, by
    obtain ⟨o, vs, e, d, c⟩ := st.2.2
    exact ⟨o, vs, hk x1 (by simp) o e, d, c⟩⟩
  item := fun i s Q E hi st hQ => by
    refine wpAny_pyNext_list_item st.1 st.2.1 (x := items[i]) (by simp [hi]) fun h' hit' hs' => ?_
    exact hQ _ h' s.toks (by simp [hi]) ⟨hit', st.2.1.extBut hs'.extBut hne, st.2.2.ext hs'.extBut hx⟩ fun b o hb e => hs'.extBut b o (fun h => hb (by simp [h])) e
  done := fun s Q E st hQ => pyNext_list_end_hot hh st.2.2 st.1 st.2.1 (by simp) fun h' he' => hQ h' s.toks fun b o hb e => he' b o (fun h => hb (by simp [h])) e
  self := fun _ _ _ _ st hQ => wpAny_pyIter_listiter st.1 hQ
theorem sum_intListH {x1 l : Addr} {xs : Array (Int × Tok)} {Q : Value → Shared → Prop} (hh : A.handled = some (.ref x1)) (hot : HotO x1 s.heap) (hl : s.heap.IsList l (intItems xs))
    (h : ∀ h' tk t', (∀ b o, s.heap.get? b = some o → h'.get? b = some o) → Q (.int (preSum (numAt xs) xs.size) t') { s with heap := h', toks := tk }) :
    wpAny (model prog w) A (call (.builtin "sum") [.ref l]) Q E s := by
  refine call_sum_walkG (iter_intList hl fun s₂ e st hfp hlI => ?_)
  subst e
  obtain ⟨o1, vs1, h1, d1, c1⟩ := hot
  have hx : x1 ≠ s.heap.objs.size := Nat.ne_of_lt (Heap.lt_size h1)
  have h1' : (s.heap.push { cls := .type "list_iterator", data := .fields #[.ref l, .int 0 0] }).get? x1 = some o1 := Heap.get?_push_of_some _ h1
  refine ⟨_, _, _, _, _, _, numAt xs, rfl, walks_listH (A := A.in1) hh _ l hlI hx (intItems xs), ⟨st.1, st.2, o1, vs1, h1', d1, c1⟩, ?_, (fun _ _ => intItems_at), fun h' tk t' hk => ?_⟩
  · intro b hb
    rcases List.mem_cons.mp hb with q | hb
    · exact hfp b (by rw [q]; simp)
    · rcases List.mem_cons.mp hb with q | hb
      · exact hfp b (by rw [q]; simp)
      · have : b = x1 := by simpa using hb
        rw [this]
        exact Heap.lt_size h1'
  · have := h h' tk t' (old_kept hk)
    simpa [intItems] using this
end
end K61
namespace K61
open PySem PySem.Spec PyProof.Rows L2 L2H
theorem sum_rawH {prog : Program} {w : World} {A : Around} {E : Value → Shared → Prop} {s : Shared} {l x1 : Addr} {its : List Value} {ns : List Int} {Q : Value → Shared → Prop} (hh : A.handled = some (.ref x1)) (hot : HotO x1 s.heap) (hl : s.heap.IsList l its.toArray) (hi : IntsAre its ns)
    (h : ∀ h' tk t', (∀ b o, s.heap.get? b = some o → h'.get? b = some o) → Q (.int ns.sum t') { s with heap := h', toks := tk }) : wpAny (model prog w) A (call (.builtin "sum") [.ref l]) Q E s := by
  obtain ⟨xs, e⟩ := hi.allInts.items
  have hn : numsOf (intItems xs).toList = ns := by rw [← e]; exact hi.numsOf
  rw [nums_intItems] at hn
  rw [e] at hl
  refine sum_intListH hh hot hl fun h' tk t' hk => ?_
  have := h h' tk t' hk
  rw [preSum_eq, List.take_of_length_le (by simp), hn]; exact this
/-- sum(xs) in an except suite -/
theorem cr_sumH {X : Cx} (hc : HotC X) : CallR X (.builtin "sum") (rSum X.K) := by
  intro pins s σ H vs us Q I r h
  obtain ⟨a, ns, rfl, hs, q⟩ := h
  obtain ⟨its, rv, hl, _⟩ := I.list hs
  rw [Vals.ref1 r]
  obtain ⟨p, ⟨hh, v1, e1, c1⟩, hp⟩ := hc
  have P1 := (I.pin p (List.mem_append_left _ hp)).1
  exact sum_rawH hh ⟨p.2, v1, P1, e1, c1⟩ hl.isList rv.ints fun h' tk t' hk => ⟨.int _, H, I.kept hk, ⟨_, rfl⟩, q⟩
end K61
/-! wrong_item -/
namespace K61
open PySem PySem.Spec PyProof.Rows L2 Evl
open KM (nth tot walls)
section
variable {P : Program} {w : World} {K : PySem.W.Frag} {mg : Str → Option Value} {base : Heap} {f : Addr} {fd : FuncData}
abbrev s_wrong_item : Stmt := top 15
abbrev n_wrong_item : List Str := ["values", "least", "many", "at"]
theorem sc_wrong_item : FnScope n_wrong_item ["values", "least", "many"] (defScope s_wrong_item) := ⟨rfl, rfl, rfl, by decide +kernel, rfl, by decide +kernel, by decide +kernel⟩
theorem b_wrong_item : BindsOk "wrong_item" "wrong_item" s_wrong_item ["values", "least", "many"] := fun _ _ _ _ _ _ us hl => match us, hl with | [_, _, _], _ => rfl
/-- the first value that is too small, else the number of values if it is wrong -/
def wrong (ns : List Int) (least : Int) (many : Int) : Option Int :=
  match ns.findIdx? (fun v => decide (v < least)) with
  | some i => some i
  | none => if (ns.length : Int) = many then none else some ns.length
def spWrong (K : PySem.W.Frag) : Sp := fun vs H Q _ => ∃ (a : Addr) (ns : List Int) (least many : Int), vs = [.ref a, .int least, .int many] ∧ Sq K H a (ils ns) ∧ ns.length ≤ 1000 ∧ RetV (valO (wrong ns least many)) H Q
theorem ok_wrong_item (T : Txt K mg) (F : FnP K "wrong_item" "wrong_item" s_wrong_item f fd) (g : mg "wrong_item" = some (.ref f)) : Dfn P w K mg base 1 "wrong_item" ["values", "least", "many"] (spWrong K) := by
  refine dfn_of F g sc_wrong_item b_wrong_item (fun vs H Q E h => ?_) (BodyN.ok fun cdv A outer s H vs Q E hr h => ?_)
  · obtain ⟨_, _, _, _, rfl, _⟩ := h
    rfl
  · obtain ⟨a, ns, least, many, rfl, hS, hl, k⟩ := h
    refine ⟨_, (pss_cons (ps_for PassesOwn.never rfl (pi_range1 rfl T.range (pa_cons (pe_callB call_len_seq rfl T.len PySem.boot_len (pa_cons (pv 0) pa_nil)) pa_nil)) (pg_name (i := 3) sc_wrong_item.nd rfl (Or.inl rfl)) (pss_one (ps_if (pt_cmpR op_lt (pe_ix ix_seq (pv 0) (pv 3) (fun _ _ => rfl)) (pv 1) (nomark _)) (pss_one (ps_ret (pv 3))) pss_nil)))
    (pss_cons (ps_if (pt_cmpR op_ne (pe_callB call_len_seq rfl T.len PySem.boot_len (pa_cons (pv 0) pa_nil)) (pv 2) (nomark _)) (pss_one (ps_ret (pe_callB call_len_seq rfl T.len PySem.boot_len (pa_cons (pv 0) pa_nil)))) pss_nil)
    (pss_one (ps_ret pe_non)))), ?_⟩
    refine q_forR1 (n := (ns.length : Int)) (ea_cons (ev_is (ev_lenS (ev_var rfl) hS) (by rw [ils_length])) ea_nil) (by omega)
      (fun i σ' H' => (∃ v, σ' = [some (.ref a), some (.int least), some (.int many), v]) ∧ Ex H H' ∧ ∀ j, j < i → ¬ ns.getD j 0 < least) (fun H1 e => ⟨⟨_, rfl⟩, e, fun j hj => by omega⟩) ?_ ?_
    · rintro i σ' H' hi ⟨⟨v, rfl⟩, e, hb⟩
      have hi' : i < ns.length := by omega
      refine s_when (et_test (ev_op (ev_op (ev_var rfl) (ev_var rfl) (rv_ix (hS.ex e) (at_ils hi'))) (ev_var rfl) rv_I0)) (fun c H1 e1 => ?_) (fun c H1 e1 => ?_)
      · have c := of_decide_eq_true c
        refine s_ret (ev_var rfl) fun H2 e2 => ?_
        have e3 : wrong ns least many = some (i : Int) := by
          unfold wrong
          have : ns.findIdx? (fun v => decide (v < least)) = some i := by
            rw [List.findIdx?_eq_some_iff_getElem]
            refine ⟨hi', ?_, fun j hj => ?_⟩
            · rw [List.getD_eq_getElem?_getD, List.getElem?_eq_getElem hi'] at c
              exact decide_eq_true c
            · have := hb j hj
              rw [List.getD_eq_getElem?_getD, List.getElem?_eq_getElem (by omega)] at this
              simpa using this
          rw [this]
        rw [e3] at k
        exact k H2 (e.trans (e1.trans e2))
      · have c := of_decide_eq_false c
        refine ⟨⟨_, rfl⟩, e.trans e1, fun j hj => ?_⟩
        by_cases q : j = i
        · subst q; exact c
        · exact hb j (by omega)
    · rintro σ' H' ⟨⟨v, rfl⟩, e, hb⟩
      have e0 : ns.findIdx? (fun v => decide (v < least)) = none := by
        rw [List.findIdx?_eq_none_iff]
        intro x hx
        obtain ⟨j, hj, rfl⟩ := List.getElem_of_mem hx
        have := hb j (by omega)
        rw [List.getD_eq_getElem?_getD, List.getElem?_eq_getElem hj] at this
        simpa using this
      refine q_when (et_test (ev_op (ev_lenS (ev_var rfl) (hS.ex e)) (ev_var rfl) (rv_ne rfl))) (fun c H1 e1 => ?_) (fun c H1 e1 => ?_)
      · refine s_ret (ev_is (ev_lenS (ev_var rfl) ((hS.ex e).ex e1)) (by rw [ils_length])) fun H2 e2 => ?_
        have : wrong ns least many = some (ns.length : Int) := by
          unfold wrong
          rw [e0]
          rw [ils_length] at c
          have c' : ¬ (ns.length : Int) = many := by simpa using c
          show (if _ then _ else _) = _
          rw [if_neg c']
        rw [this] at k
        exact k H2 (e.trans (e1.trans e2))
      · refine s_ret ev_c fun H2 e2 => ?_
        have : wrong ns least many = none := by
          unfold wrong
          rw [e0]
          rw [ils_length] at c
          have c' : (ns.length : Int) = many := by simpa using c
          show (if _ then _ else _) = _
          rw [if_pos c']
        rw [this] at k
        exact k H2 (e.trans (e1.trans e2))
end
end K61
/-! unlike, Tunnels._check_tunnels, Tunnels.total -/
namespace K61
open PySem PySem.Spec PyProof.Rows L2 Evl
open KM (nth tot walls)
/-! ### the tunnels as they stand -/
def shFs (pt : Addr) (n : Nat) (ab : Addr) : List (Str × V) := [(("parents" : Str), V.ref pt), (("size" : Str), V.int (n : Int)), (("above" : Str), V.ref ab)]
def tuFs (sh lt : Addr) : List (Str × V) := [(("shape" : Str), V.ref sh), (("lengths" : Str), V.ref lt)]
theorem lk_parents (pt : Addr) (n : Nat) (ab : Addr) : (shFs pt n ab).lookup ("parents" : Str) = some (.ref pt) := by simp [shFs, List.lookup]
theorem lk_size (pt : Addr) (n : Nat) (ab : Addr) : (shFs pt n ab).lookup ("size" : Str) = some (.int (n : Int)) := by
  have h : (("size" : Str) == ("parents" : Str)) = false := by decide +kernel
  simp [shFs, List.lookup, h]
theorem lk_shape (sh lt : Addr) : (tuFs sh lt).lookup ("shape" : Str) = some (.ref sh) := by simp [tuFs, List.lookup]
theorem lk_lengths (sh lt : Addr) : (tuFs sh lt).lookup ("lengths" : Str) = some (.ref lt) := by
  have h : (("lengths" : Str) == ("shape" : Str)) = false := by decide +kernel
  simp [tuFs, List.lookup, h]
theorem lk_total (sh lt : Addr) : (tuFs sh lt).lookup ("total" : Str) = none := by
  have h : (("total" : Str) == ("shape" : Str)) = false := by decide +kernel
  have h2 : (("total" : Str) == ("lengths" : Str)) = false := by decide +kernel
  simp [tuFs, List.lookup, h, h2]
theorem lk_check (sh lt : Addr) : (tuFs sh lt).lookup ("_check_tunnels" : Str) = none := by
  have h : (("_check_tunnels" : Str) == ("shape" : Str)) = false := by decide +kernel
  have h2 : (("_check_tunnels" : Str) == ("lengths" : Str)) = false := by decide +kernel
  simp [tuFs, List.lookup, h, h2]
structure TunA (K : PySem.W.Frag) (H : Hp) (p : Addr) (par len : List Int) (dx sh lt dx2 pt ab : Addr) : Prop where
  o : H p = some (.ins (He.ga K "Tunnels") dx (tuFs sh lt))
  l : H lt = some (.tup (ils len))
  s : H sh = some (.ins (He.ga K "Shape") dx2 (shFs pt par.length ab))
  p : H pt = some (.tup (ils par))
def TunAt (K : PySem.W.Frag) (H : Hp) (p : Addr) (par len : List Int) : Prop := ∃ dx sh lt dx2 pt ab, TunA K H p par len dx sh lt dx2 pt ab
theorem TunA.ex {K : PySem.W.Frag} {H H' : Hp} {p : Addr} {par len : List Int} {dx sh lt dx2 pt ab : Addr} (e : Ex H H') (h : TunA K H p par len dx sh lt dx2 pt ab) : TunA K H' p par len dx sh lt dx2 pt ab :=
  ⟨e _ _ h.o, e _ _ h.l, e _ _ h.s, e _ _ h.p⟩
theorem TunAt.ex {K : PySem.W.Frag} {H H' : Hp} {p : Addr} {par len : List Int} (e : Ex H H') (h : TunAt K H p par len) : TunAt K H' p par len := by
  obtain ⟨dx, sh, lt, dx2, pt, ab, h⟩ := h
  exact ⟨dx, sh, lt, dx2, pt, ab, h.ex e⟩
section
variable {K : PySem.W.Frag} {mg : Str → Option Value} {H : Hp} {p : Addr} {par len : List Int} {dx sh lt dx2 pt ab : Addr} {σ : L2.St} {ta tb te : TE} {tt : TT} {x : V}
theorem ev_shape (T : Txt K mg) (h : TunA K H p par len dx sh lt dx2 pt ab) (ha : Ev ta σ H (.ref p)) : Ev (tFld K ta "shape") σ H (.ref sh) := ev_fld ha h.o T.clT T.tS (lk_shape ..)
theorem ev_lengths (T : Txt K mg) (h : TunA K H p par len dx sh lt dx2 pt ab) (ha : Ev ta σ H (.ref p)) : Ev (tFld K ta "lengths") σ H (.ref lt) := ev_fld ha h.o T.clT T.tL (lk_lengths ..)
theorem ev_size (T : Txt K mg) (h : TunA K H p par len dx sh lt dx2 pt ab) (ha : Ev ta σ H (.ref p)) : Ev (tFld K (tFld K ta "shape") "size") σ H (.int (par.length : Int)) := ev_fld (ev_shape T h ha) h.s T.clS T.sZ (lk_size ..)
theorem ev_parents (T : Txt K mg) (h : TunA K H p par len dx sh lt dx2 pt ab) (ha : Ev ta σ H (.ref p)) : Ev (tFld K (tFld K ta "shape") "parents") σ H (.ref pt) := ev_fld (ev_shape T h ha) h.s T.clS T.sP (lk_parents ..)
theorem TunA.pT (h : TunA K H p par len dx sh lt dx2 pt ab) : SqT K H pt (ils par) := st_of h.p
theorem TunA.lT (h : TunA K H p par len dx sh lt dx2 pt ab) : SqT K H lt (ils len) := st_of h.l
theorem et_truL {a : Addr} {xs : List V} (ha : Ev ta σ H (.ref a)) (h : SqL K H a xs) : EvT (fun σ H Q => ta σ H fun x H' => ∃ k, TruV K x H' k ∧ Q k H') σ H (!xs.isEmpty) := fun H1 e Q q =>
  ha H1 e _ fun H2 e2 => ⟨!xs.isEmpty, .inl ⟨xs, ex_l (e.trans e2) h, rfl⟩, q H2 e2⟩
theorem at_lastI (ns : List Int) (h : ns ≠ []) : atI (ils ns) (-1) = some (.int (ns.getLast h)) := by
  have e : ns = ns.dropLast ++ [ns.getLast h] := (List.dropLast_concat_getLast h).symm
  conv => lhs; rw [e]
  rw [show ils (ns.dropLast ++ [ns.getLast h]) = ils ns.dropLast ++ [V.int (ns.getLast h)] by simp [ils]]
  exact atI_last _ _
theorem el_is {xs ys : List V} (h : EvL te σ H xs) (e : xs = ys) : EvL te σ H ys := e ▸ h
theorem ev_sumL {ns : List Int} (h : EvL te σ H (ils ns)) : Ev (tCB (rSum K) (tCons te tNil)) σ H (.int ns.sum) := fun H1 e Q q => h H1 e _ fun p H2 _ e2 h2 => ⟨p, ns, rfl, sq_of h2, q H2 e2⟩
theorem ev_sumS {a : Addr} {ns : List Int} (ha : Ev te σ H (.ref a)) (h : SqL K H a (ils ns)) : Ev (tCB (rSum K) (tCons te tNil)) σ H (.int ns.sum) := fun H1 e Q q => ha H1 e _ fun H2 e2 => ⟨a, ns, rfl, ex_l (e.trans e2) h, q H2 e2⟩
theorem ev_anyL {bs : List Bool} (h : EvL te σ H (bs.map V.bl)) : Ev (tCB (rAny K) (tCons te tNil)) σ H (.bl (bs.any id)) := fun H1 e Q q => h H1 e _ fun p H2 _ e2 h2 => ⟨p, bs, rfl, sq_of h2, q H2 e2⟩
theorem ev_allL {bs : List Bool} (h : EvL te σ H (bs.map V.bl)) : Ev (tCB (rAll K) (tCons te tNil)) σ H (.bl (bs.all id)) := fun H1 e Q q => h H1 e _ fun p H2 _ e2 h2 => ⟨p, bs, rfl, sq_of h2, q H2 e2⟩
theorem ils_mem {ns : List Int} {i : Nat} {x : V} (h : (ils ns)[i]? = some x) : i < ns.length ∧ x = .int (ns.getD i 0) ∧ ns.getD i 0 ∈ ns := by
  have hi : i < ns.length := by
    have := (List.getElem?_eq_some_iff.mp h).1
    simpa using this
  rw [ils_get hi] at h
  refine ⟨hi, (Option.some.inj h).symm, ?_⟩
  rw [List.getD_eq_getElem?_getD, List.getElem?_eq_getElem hi]
  exact List.getElem_mem hi
theorem et_yes : EvT tYes σ H true := fun H1 _ _ q => q H1 (Ex.refl H1)
theorem given_all {n : Nat} {v : Nat → V} : given n (fun _ => true) v = (List.range n).map v := by
  unfold given
  rw [List.filter_eq_self.mpr fun _ _ => rfl]
theorem given_ils {ns : List Int} {g : Int → Int} {m : Nat} (hm : m = ns.length) : given m (fun _ => true) (fun i => V.int (g (ns.getD i 0))) = ils (ns.map g) := by
  subst hm
  rw [given_all]
  apply List.ext_getElem
  · simp
  · intro i h1 h2
    simp only [List.length_map, List.length_range] at h1
    simp only [List.getElem_map, List.getElem_range]
    rw [List.getD_eq_getElem?_getD, List.getElem?_eq_getElem h1]
    rfl
/-- a method's call -/
theorem ev_meth {C : Addr} {m : Str} {sp : Sp} {fs : List (Str × V)} {vs : List V} {t : TA} {z : V} (ha : Ev ta σ H (.ref p)) (ho : H p = some (.ins C dx fs)) (hl : fs.lookup m = none) (h : EvA t σ H vs) (hs : SpV sp (.ref p :: vs) H z) :
    Ev (tMeth C m sp [] E0 ta t) σ H z := fun H1 e Q q =>
  ha H1 e _ fun H2 e2 => ⟨p, dx, fs, rfl, e2 _ _ (e _ _ ho), hl, h H2 (e.trans e2) _ fun H3 e3 => by
    have := hs H3 ((e.trans e2).trans e3) Q (fun H4 e4 => q H4 ((e2.trans e3).trans e4)) E0
    rw [List.append_nil]
    exact this⟩
theorem ev_fn {sp : Sp} {vs : List V} {t : TA} {z : V} (h : EvA t σ H vs) (hs : SpV sp vs H z) : Ev (tCall sp [] E0 t) σ H z := ev_call h (by rw [List.append_nil]; exact hs)
theorem el_fn {sp : Sp} {vs xs : List V} {t : TA} (h : EvA t σ H vs) (hs : SpL sp vs H xs) : EvL (tCall sp [] E0 t) σ H xs := el_call h (by rw [List.append_nil]; exact hs)
end
section
variable {P : Program} {w : World} {K : PySem.W.Frag} {mg : Str → Option Value} {base : Heap} {f : Addr} {fd : FuncData}
abbrev s_unlike : Stmt := top 13
abbrev n_unlike : List Str := ["values", "told", "value"]
theorem sc_unlike : FnScope n_unlike ["values"] (defScope s_unlike) := ⟨rfl, rfl, rfl, by decide +kernel, rfl, by decide +kernel, by decide +kernel⟩
theorem b_unlike : BindsOk "unlike" "unlike" s_unlike ["values"] := fun _ _ _ _ _ _ us hl => match us, hl with | [_], _ => rfl
def spUnlike (K : PySem.W.Frag) : Sp := fun vs H Q _ => ∃ (a : Addr) (ns us : List Int), vs = [.ref a] ∧ SqL K H a (ils ns) ∧ ns.length < 64 ∧ us.Pairwise (· < ·) ∧ (∀ x, x ∈ us ↔ x ∈ ns) ∧ RetL (ils us) H Q
theorem sorted_eq : ∀ {us vs : List Int}, us.Pairwise (· < ·) → vs.Pairwise (· < ·) → (∀ x, x ∈ us ↔ x ∈ vs) → us = vs
  | [], [], _, _, _ => rfl
  | [], v :: vs, _, _, h => by have := (h v).mpr List.mem_cons_self; simp at this
  | u :: us, [], _, _, h => by have := (h u).mp List.mem_cons_self; simp at this
  | u :: us, v :: vs, hu, hv, h => by
    obtain ⟨h1, h2⟩ := List.pairwise_cons.mp hu
    obtain ⟨h3, h4⟩ := List.pairwise_cons.mp hv
    have e : u = v := by
      have a := (h u).mp List.mem_cons_self
      have b := (h v).mpr List.mem_cons_self
      rcases List.mem_cons.mp a with a | a
      · exact a
      · rcases List.mem_cons.mp b with b | b
        · exact b.symm
        · have := h1 v b
          have := h3 u a
          omega
    subst e
    congr 1
    refine sorted_eq h2 h4 fun x => ?_
    constructor
    · intro q
      have := (h x).mp (List.mem_cons_of_mem _ q)
      rcases List.mem_cons.mp this with z | z
      · have := h1 x q; omega
      · exact z
    · intro q
      have := (h x).mpr (List.mem_cons_of_mem _ q)
      rcases List.mem_cons.mp this with z | z
      · have := h3 x q; omega
      · exact z
def UnI (a l p : Addr) (H : Hp) (ns' : List Int) (i : Nat) (σ' : L2.St) (H' : Hp) : Prop := (∃ v, σ' = [some (.ref a), some (.ref l), v]) ∧ Ex H H' ∧ H' p = some (.lst (ils ns')) ∧ ∃ ts : List Int, H' l = some (.lst (ils ts)) ∧ ts.Pairwise (· < ·) ∧ (∀ x, x ∈ ts ↔ x ∈ ns'.take i) ∧ ts.length ≤ i
theorem ok_unlike (T : Txt K mg) (F : FnP K "unlike" "unlike" s_unlike f fd) (g : mg "unlike" = some (.ref f)) : Dfn P w K mg base 1 "unlike" ["values"] (spUnlike K) := by
  refine dfn_of F g sc_unlike b_unlike (fun vs H Q E h => ?_) (BodyN.ok fun cdv A outer s H vs Q E hr h => ?_)
  · obtain ⟨_, _, _, rfl, _⟩ := h
    rfl
  · obtain ⟨a, ns, us, rfl, hS, hl, h1, h2, k⟩ := h
    refine ⟨_, (pss_cons (ps_set (i := 1) sc_unlike.nd rfl (Or.inl rfl) (pe_lst pa_nil))
    (pss_cons (ps_for PassesOwn.never rfl (pi_list (pe_callB cr_sorted rfl T.sorted (by decide +kernel) (pa_cons (pv 0) pa_nil))) (pg_name (i := 2) sc_unlike.nd rfl (Or.inl rfl)) (pss_one (ps_if (PW.pt (pw_or (pt_not (pt_truth (pv 1) (by intro _; rfl))) (pw_or1 (pt_cmpR op_ne (pe_ix ix_list (pv 1) (pe_un un_neg pe_int) (fun _ _ => rfl)) (pv 2) (nomark _))))) (pss_one (ps_expr (pe_bm PySem.F.plainAttrs_list PySem.F.slot_list_append PySem.F.type_list_append mt_append (pv 1) (pa_cons (pv 2) pa_nil)))) pss_nil)))
    (pss_one (ps_ret (pv 1))))), ?_⟩
    refine q_asgL (el_lst ea_nil (Nat.zero_le _)) fun l H1 hl0 e1 hl1 => ?_
    refine ⟨_, rfl, a, ns, rfl, ex_l e1 hS, hl, fun ns' p hperm hsort hp => ?_⟩
    have lp : l ≠ p := ne_of_none hl1 hp
    refine ⟨p, rfl, ⟨_, sq_of upd_same⟩, for_list (K := K) (a := p) (xs := ils ns') (UnI a l p H ns') ?_ ?_ ?_ ?_⟩
    · refine ⟨⟨_, rfl⟩, e1.trans (Ex.new hp), upd_same, [], ?_, List.Pairwise.nil, fun x => by simp, Nat.le_refl _⟩
      rw [upd_ne lp]
      exact hl1
    · rintro i σ' H' _ ⟨_, _, hp', _⟩
      exact sq_of hp'
    · rintro i x σ' H' hi ⟨⟨v, rfl⟩, e, hp', ts, ht, hts, hm, htl⟩
      have hi2 : i < ns'.length := by
        have := (List.getElem?_eq_some_iff.mp hi).1
        simpa using this
      rw [ils_get hi2] at hi
      obtain rfl := Option.some.inj hi
      have hx : ns'[i]? = some (ns'.getD i 0) := by rw [List.getD_eq_getElem?_getD, List.getElem?_eq_getElem hi2]; rfl
      generalize hxv : ns'.getD i 0 = xv at hx
      have le_x : ∀ y ∈ ts, y ≤ xv := fun y hy => by
        have := (hm y).mp hy
        obtain ⟨j, hj, rfl⟩ := List.getElem_of_mem this
        rw [List.length_take] at hj
        rw [List.getElem_take]
        have q := (List.pairwise_iff_getElem.mp hsort) j i (by omega) hi2 (by omega)
        rw [← hxv, List.getD_eq_getElem?_getD, List.getElem?_eq_getElem hi2]
        exact q
      have take_succ : ∀ y, y ∈ ns'.take (i + 1) ↔ y ∈ ns'.take i ∨ y = xv := fun y => by
        rw [List.take_add_one, hx, List.mem_append]
        simp
      have inLast : (∃ z, ts.getLast? = some z ∧ z = xv) ∨ xv ∉ ts := by
        by_cases c : xv ∈ ts
        · refine .inl ?_
          rcases List.eq_nil_or_concat ts with q | ⟨ts', z, q⟩
          · rw [q] at c; simp at c
          · refine ⟨z, by rw [q]; simp, ?_⟩
            rw [List.concat_eq_append] at q
            have hz := le_x z (by rw [q]; simp)
            rw [q] at hts c
            have h3 := (List.pairwise_append.mp hts).2.2
            rcases List.mem_append.mp c with d | d
            · have := h3 xv d z (by simp); omega
            · have : xv = z := by simpa using d
              omega
        · exact .inr c
      have stay : xv ∈ ts → ∀ y, y ∈ ts ↔ y ∈ ns'.take (i + 1) := fun c y => by
        rw [take_succ, ← hm]
        constructor
        · exact .inl
        · rintro (q | q)
          · exact q
          · rw [q]; exact c
      have grow : xv ∉ ts → H' l = some (.lst (ils ts)) := fun _ => ht
      -- if not told or told[-1] != value
      have goodbye : xv ∈ ts → ∀ {H2 : Hp}, Ex H' H2 → UnI a l p H ns' (i + 1) [some (V.ref a), some (V.ref l), some (V.int xv)] H2 := fun c H2 e2 =>
        ⟨⟨_, rfl⟩, e.trans e2, e2 _ _ hp', ts, e2 _ _ ht, hts, stay c, by omega⟩
      have app : xv ∉ ts → ∀ {H2 : Hp}, Ex H' H2 → UnI a l p H ns' (i + 1) [some (V.ref a), some (V.ref l), some (V.int xv)] (upd H2 l (.lst (ils ts ++ [V.int xv]))) := fun c H2 e2 => by
        refine ⟨⟨_, rfl⟩, Ex.mut (e.trans e2) hl0, by rw [upd_ne (Ne.symm lp)]; exact e2 _ _ hp', ts ++ [xv], by rw [upd_same]; simp [ils], ?_, fun y => ?_, by rw [List.length_append, List.length_singleton]; omega⟩
        · refine List.pairwise_append.mpr ⟨hts, by simp, fun y hy z hz => ?_⟩
          have h1 := le_x y hy
          have h2 : z = xv := by simpa using hz
          have h3 : y ≠ xv := fun q => c (by rw [← q]; exact hy)
          omega
        · rw [take_succ, List.mem_append, hm]
          simp
      by_cases c0 : ts = []
      · subst c0
        refine s_when (b := true) (et_is (et_or (b := true) (et_not (et_truL (ev_var rfl) (sq_of ht))) (fun q => by simp [ils] at q)) (by simp [ils])) (fun _ H2 e2 => ?_) (fun q => absurd q (by decide))
        refine s_app (e2 _ _ ht) (ev_var rfl) (ev_var rfl) (by simp) fun H3 e3 => ?_
        have := app (by simp) (e2.trans e3)
        exact this
      · refine s_when (b := !decide (V.int (ts.getLast c0) = V.int xv)) (et_is (et_or (et_not (et_truL (ev_var rfl) (sq_of ht))) (fun q => et_test (ev_op (ev_op (ev_var rfl) (ev_un ev_c ru_neg) (rv_ixL (sq_of ht) (at_lastI ts c0))) (ev_var rfl) (rv_ne rfl)))) ?_) (fun cc H2 e2 => ?_) (fun cc H2 e2 => ?_)
        · have : (ils ts).isEmpty = false := by simp [ils, c0]
          rw [this]
          rfl
        · refine s_app (e2 _ _ ht) (ev_var rfl) (ev_var rfl) (by rw [ils_length]; have := hperm.length_eq; omega) fun H3 e3 => ?_
          have c : xv ∉ ts := by
            rcases inLast with ⟨z, hz, q⟩ | q
            · rw [List.getLast?_eq_some_getLast c0] at hz
              have := Option.some.inj hz
              rw [this, q] at cc
              simp at cc
            · exact q
          exact app c (e2.trans e3)
        · have c : xv ∈ ts := by
            have : ts.getLast c0 = xv := by simpa using cc
            rw [← this]
            exact List.getLast_mem c0
          exact goodbye c e2
    · rintro σ' H' ⟨⟨v, rfl⟩, e, hp', ts, ht, hts, hm, _⟩
      rw [ils_length, List.take_length] at hm
      have : ts = us := sorted_eq hts h1 fun x => by rw [hm, h2]; exact hperm.mem_iff
      subst this
      exact ⟨_, rfl, k l H' hl0 e ht⟩
abbrev s_Tunnels__check_tunnels : Stmt := inClass (top 16) 6
abbrev n_Tunnels__check_tunnels : List Str := ["self", "walls", "wall"]
theorem sc_Tunnels__check_tunnels : FnScope n_Tunnels__check_tunnels ["self", "walls"] (defScope s_Tunnels__check_tunnels) := ⟨rfl, rfl, rfl, by decide +kernel, rfl, by decide +kernel, by decide +kernel⟩
theorem b_Tunnels__check_tunnels : BindsOk "_check_tunnels" "Tunnels._check_tunnels" s_Tunnels__check_tunnels ["self", "walls"] := fun _ _ _ _ _ _ us hl => match us, hl with | [_, _], _ => rfl
def spCheckT (K : PySem.W.Frag) : Sp := fun vs H Q _ => ∃ (p q : Addr) (par len ws : List Int), vs = [.ref p, .ref q] ∧ TunAt K H p par len ∧ SqL K H q (ils ws) ∧ (∀ x ∈ ws, 1 ≤ x ∧ x ≤ par.length) ∧ RetV .non H Q
theorem ok_check_tunnels (T : Txt K mg) (F : FnP K "_check_tunnels" "Tunnels._check_tunnels" s_Tunnels__check_tunnels f fd) (g : Meth K (He.ga K "Tunnels") "_check_tunnels" f) : Mth P w K mg base 1 (He.ga K "Tunnels") "_check_tunnels" ["self", "walls"] (spCheckT K) := by
  refine mth_of F g sc_Tunnels__check_tunnels b_Tunnels__check_tunnels (fun vs H Q E h => ?_) (BodyN.ok fun cdv A outer s H vs Q E hr h => ?_)
  · obtain ⟨_, _, _, _, _, rfl, _⟩ := h
    rfl
  · obtain ⟨p, q, par, len, ws, rfl, ⟨dx, sh, lt, dx2, pt, ab, hT⟩, hS, hw, k⟩ := h
    refine ⟨_, (pss_one (ps_for PassesOwn.never rfl (pi_list (pv 1)) (pg_name (i := 2) sc_Tunnels__check_tunnels.nd rfl (Or.inl rfl)) (pss_one (ps_if (PW.pt (pw_or (pt_cmpR op_lt (pv 2) pe_int (nomark _)) (pw_or1 (pt_cmpR op_gt (pv 2) (pe_fld (pe_fld (pv 0) rfl) rfl) (nomark _))))) (pss_one ps_never) pss_nil)))), ?_⟩
    refine s_forLn (ev_var rfl) hS (fun i σ' H' => (∃ v, σ' = [some (.ref p), some (.ref q), v]) ∧ Ex H H') (fun H1 e => ⟨⟨_, rfl⟩, e⟩) (fun i σ' H' _ h => ex_l h.2 hS) ?_ (fun σ' H' h => k H' h.2)
    rintro i x σ' H' hi ⟨⟨v, rfl⟩, e⟩
    have hi2 : i < ws.length := by
      have := (List.getElem?_eq_some_iff.mp hi).1
      simpa using this
    rw [ils_get hi2] at hi
    obtain rfl := Option.some.inj hi
    have hx := hw (ws.getD i 0) (by rw [List.getD_eq_getElem?_getD, List.getElem?_eq_getElem hi2]; exact List.getElem_mem hi2)
    refine s_when (b := false) (et_is (et_or (et_test (ev_op (ev_var rfl) ev_c rv_I0)) (fun _ => et_test (ev_op (ev_var rfl) (ev_size T (hT.ex e) (ev_var rfl)) rv_I0))) ?_) (fun q => by cases q) (fun _ H1 e1 => ⟨⟨_, rfl⟩, e.trans e1⟩)
    rw [decide_eq_false (by omega), decide_eq_false (by omega)]
    rfl
abbrev s_Tunnels_total : Stmt := inClass (top 16) 5
abbrev n_Tunnels_total : List Str := ["self", "values", "walls", "wall"]
theorem sc_Tunnels_total : FnScope n_Tunnels_total ["self", "values", "walls"] (defScope s_Tunnels_total) := ⟨rfl, rfl, rfl, by decide +kernel, rfl, by decide +kernel, by decide +kernel⟩
theorem b_Tunnels_total : BindsOk "total" "Tunnels.total" s_Tunnels_total ["self", "values", "walls"] := fun _ _ _ _ _ _ us hl => match us, hl with | [_, _, _], _ => rfl
def spTotal (K : PySem.W.Frag) : Sp := fun vs H Q _ => ∃ (p v q : Addr) (par len vals ws : List Int), vs = [.ref p, .ref v, .ref q] ∧ TunAt K H p par len ∧ Sq K H v (ils vals) ∧ SqL K H q (ils ws) ∧ (∀ x ∈ ws, 1 ≤ x ∧ x ≤ par.length) ∧ par.length ≤ vals.length ∧ ws.Nodup ∧ par.length ≤ 8 ∧ RetV (.int (tot vals ws)) H Q
theorem tot_dedup {vals us ws : List Int} (h1 : us.Pairwise (· < ·)) (h2 : ws.Nodup) (h : ∀ x, x ∈ us ↔ x ∈ ws) : tot vals us = tot vals ws :=
  KM.tot_perm ((List.perm_ext_iff_of_nodup (KM.nodup_of_sorted h1) h2).mpr h)
/-- the sorted list of a list of tunnels -/
theorem sorted_of {n : Nat} {ws : List Int} (h : ∀ x ∈ ws, 1 ≤ x ∧ x ≤ n) : ∃ us : List Int, us.Pairwise (· < ·) ∧ ∀ x, x ∈ us ↔ x ∈ ws :=
  ⟨(walls n).filter fun x => decide (x ∈ ws), (KM.walls_sorted n).filter _, fun x => by
    rw [List.mem_filter]
    constructor
    · rintro ⟨_, q⟩; exact of_decide_eq_true q
    · intro q; exact ⟨KM.mem_walls.mpr (h x q), decide_eq_true q⟩⟩
theorem ok_total (T : Txt K mg) (d_unlike : Dfn P w K mg base 1 "unlike" ["values"] (spUnlike K)) (d__check_tunnels : Mth P w K mg base 1 (He.ga K "Tunnels") "_check_tunnels" ["self", "walls"] (spCheckT K))
    (F : FnP K "total" "Tunnels.total" s_Tunnels_total f fd) (g : Meth K (He.ga K "Tunnels") "total" f) : Mth P w K mg base 3 (He.ga K "Tunnels") "total" ["self", "values", "walls"] (spTotal K) := by
  refine mth_of F g sc_Tunnels_total b_Tunnels_total (fun vs H Q E h => ?_) (BodyN.ok fun cdv A outer s H vs Q E hr h => ?_)
  · obtain ⟨_, _, _, _, _, _, _, rfl, _⟩ := h
    rfl
  · obtain ⟨p, v, q, par, len, vals, ws, rfl, hT, hV, hS, hw, hn, hnd, h8, k⟩ := h
    refine ⟨_, (pss_cons (ps_expr (pe_mth (pv 0) T.clT d__check_tunnels (hr.mono (by decide)) (pa_cons (pv 2) pa_nil)))
    (pss_one (ps_ret (pe_callB (cr_sum rfl) rfl T.sum (by decide +kernel) (pa_cons (pe_lc (own := [("wall", 3)]) (g := gName 3) (tt := tYes) rfl sc_Tunnels_total.nd (pi_list (pe_fn d_unlike (hr.mono (by decide)) rfl (pa_cons (pv 2) pa_nil))) (blkOk_by (own := [("wall", 3)]) (N := n_Tunnels_total) (sc := defScope s_Tunnels_total) (by decide +kernel)) (fun _ _ _ _ _ => pg_name (i := 3) sc_Tunnels_total.nd rfl (Or.inl rfl)) (fun _ _ _ _ _ => pts_nil) (fun _ _ _ _ _ => (pe_ix (ix_seqK (K := K) rfl) (pv 1) (pe_op op_sub (pv 3) pe_int) (fun _ _ => rfl)))) pa_nil))))), ?_⟩
    obtain ⟨us, hu1, hu2⟩ := sorted_of hw
    have hTc := hT
    obtain ⟨dx, sh, lt, dx2, pt, ab, hTA⟩ := hT
    have wl : ws.length ≤ 8 := Nat.le_trans (KM.length_le_of hnd hw) h8
    refine q_drop (ev_meth (vs := [.ref q]) (ev_var rfl) hTA.o (lk_check ..) (ea_cons (ev_var rfl) ea_nil) (fun H1 e Q1 q1 E1 => ⟨p, q, par, len, ws, rfl, hTc.ex e, ex_l e hS, hw, q1⟩)) fun H1 e1 => ?_
    have hsum : (us.map (nth vals)).sum = tot vals ws := tot_dedup hu1 hnd hu2
    rw [← hsum] at k
    have ul : us.length ≤ 8 := by
      have := KM.length_le_of (KM.nodup_of_sorted hu1) (n := par.length) fun x hx => hw x ((hu2 x).mp hx)
      omega
    refine s_ret (ev_sumL (el_is (el_lcNL (xs := ils us) (fun _ => true) (fun i => .int (nth vals (us.getD i 0)))
      (el_fn (ea_cons (ev_var rfl) ea_nil) (fun H2 e Q1 q1 E1 => ⟨q, ws, us, rfl, ex_l (e1.trans e) hS, by omega, hu1, hu2, q1⟩))
      (by rw [ils_length]; omega) (fun _ => rfl) (fun _ _ _ _ _ => et_yes) (fun i x H2 e2 hi _ => ?_)) (given_ils (by rw [ils_length])))) fun H2 e2 => k H2 (e1.trans e2)
    obtain ⟨hi2, rfl, hm⟩ := ils_mem hi
    have hx := hw _ ((hu2 _).mp hm)
    exact ev_op (ev_var rfl) (ev_op (ev_var rfl) ev_c rv_I0) (rv_ix (hV.ex (e1.trans e2)) (at_nth hx.1 (by omega)))
end
end K61
/-! price_terms, some_gain, greatest_set -/
namespace K61
open PySem PySem.Spec PyProof.Rows L2 Evl
open KM (nth tot walls)
structure Ok (par len : List Int) : Prop where
  tr : KM.Tree par
  ll : len.length = par.length
  lb : ∀ v ∈ len, 1 ≤ v ∧ v ≤ 999
  n8 : par.length ≤ 8
structure WOk (par wt : List Int) : Prop where
  wl : wt.length = par.length
  wb : ∀ v ∈ wt, 0 ≤ v ∧ v ≤ 999
theorem getD_mem {xs : List Int} {i : Nat} (h : i < xs.length) : xs.getD i 0 ∈ xs := by
  rw [List.getD_eq_getElem?_getD, List.getElem?_eq_getElem h]
  exact List.getElem_mem h
section
variable {K : PySem.W.Frag} {H H' : Hp} {σ : L2.St} {ta tb te : TE} {tt : TT} {D : Ends} {tu tz : TS}
/-- range(m - 1, -1, -1) -/
theorem s_forDown {ta : TA} {j m : Nat} (h : EvA ta σ H [.int ((m : Int) - 1), .int (-1), .int (-1)]) (hm : m ≤ 1000) (Pv : Nat → L2.St → Hp → Prop) (h0 : ∀ H1, Ex H H1 → Pv 0 σ H1)
    (hs : ∀ (i : Nat) σ' H', i < m → Pv i σ' H' → tu { D with nx := Pv (i + 1), ct := Pv (i + 1), bk := D.nx } (σ'.set j (some (.int ((m - 1 - i : Nat) : Int)))) H') (hd : ∀ σ' H', Pv m σ' H' → D.nx σ' H') : tFor (iRng3 ta) (gName j) tu D σ H :=
  h H (Ex.refl H) _ fun H1 e => by
    have e0 : ((m : Int) - 1 - (-1)).toNat = m := by omega
    have r := RgC.neg (i := (m : Int) - 1) (j := -1) (by omega) (by omega) (by omega) (by omega)
    rw [e0] at r
    refine ⟨_, _, _, m, rfl, r, for_rangeC (lo := (m : Int) - 1) (c := -1) (n := m) Pv (h0 H1 e) (fun i σ' H' hi p => ?_) hd⟩
    have e1 : (m : Int) - 1 + (i : Nat) * (-1) = ((m - 1 - i : Nat) : Int) := by omega
    show tu { D with nx := Pv (i + 1), ct := Pv (i + 1), bk := D.nx } (σ'.set j (some (.int ((m : Int) - 1 + (i : Nat) * (-1))))) H'
    rw [e1]
    exact hs i σ' H' hi p
theorem q_forDown {ta : TA} {j m : Nat} (h : EvA ta σ H [.int ((m : Int) - 1), .int (-1), .int (-1)]) (hm : m ≤ 1000) (Pv : Nat → L2.St → Hp → Prop) (h0 : ∀ H1, Ex H H1 → Pv 0 σ H1)
    (hs : ∀ (i : Nat) σ' H', i < m → Pv i σ' H' → tu { D with nx := Pv (i + 1), ct := Pv (i + 1), bk := tz D } (σ'.set j (some (.int ((m - 1 - i : Nat) : Int)))) H') (hd : ∀ σ' H', Pv m σ' H' → tz D σ' H') : tSeq (tFor (iRng3 ta) (gName j) tu) tz D σ H :=
  s_forDown (D := { D with nx := tz D }) h hm Pv h0 hs hd
theorem ev_lenT {p : Addr} {xs : List V} (ha : Ev ta σ H (.ref p)) (h : SqT K H p xs) : Ev (tCB (rLenS K) (tCons ta tNil)) σ H (.int (xs.length : Int)) := ev_lenS ha (.inr h)
theorem et_lt {x y : Int} (ha : Ev ta σ H (.int x)) (hb : Ev tb σ H (.int y)) : EvT (tTest (tOp (rI0 fun i j => .bl (decide (i < j))) ta tb)) σ H (decide (x < y)) := et_test (ev_op ha hb rv_I0)
theorem et_gt {x y : Int} (ha : Ev ta σ H (.int x)) (hb : Ev tb σ H (.int y)) : EvT (tTest (tOp (rI0 fun i j => .bl (decide (j < i))) ta tb)) σ H (decide (y < x)) := et_test (ev_op ha hb rv_I0)
theorem et_ge {x y : Int} (ha : Ev ta σ H (.int x)) (hb : Ev tb σ H (.int y)) : EvT (tTest (tOp (rI0 fun i j => .bl (decide (j ≤ i))) ta tb)) σ H (decide (y ≤ x)) := et_test (ev_op ha hb rv_I0)
theorem et_eqI {x y : Int} (ha : Ev ta σ H (.int x)) (hb : Ev tb σ H (.int y)) : EvT (tTest (tOp rEq ta tb)) σ H (decide (x = y)) := et_is (et_test (ev_op ha hb (rv_eq rfl))) (by by_cases h : x = y <;> simp [h])
theorem ev_eqI {x y : Int} (ha : Ev ta σ H (.int x)) (hb : Ev tb σ H (.int y)) : Ev (tOp rEq ta tb) σ H (.bl (decide (x = y))) := ev_is (ev_op ha hb (rv_eq rfl)) (by by_cases h : x = y <;> simp [h])
theorem ev_gt {x y : Int} (ha : Ev ta σ H (.int x)) (hb : Ev tb σ H (.int y)) : Ev (tOp (rI0 fun i j => .bl (decide (j < i))) ta tb) σ H (.bl (decide (y < x))) := ev_op ha hb rv_I0
theorem given_base (len wt : List Int) (a b : Int) (n : Nat) : given n (fun _ => true) (fun i => V.int (b * wt.getD i 0 - a * len.getD i 0)) = ils (KM.base len wt a b n) := by
  rw [given_all]
  unfold KM.base ils
  rw [List.map_map]
  rfl
theorem flat_ils (ns : List Int) : (ils ns).all flatV = true := by
  rw [List.all_eq_true]
  intro x hx
  obtain ⟨n, _, rfl⟩ := List.mem_map.mp hx
  rfl
theorem in_ils (x : Int) : ∀ ns : List Int, inV (.int x) (ils ns) = decide (x ∈ ns)
  | [] => rfl
  | n :: ns => by
    have ih := in_ils x ns
    show (eqV (.int n) (.int x) || inV (.int x) (ils ns)) = _
    rw [ih]
    have e : eqV (.int n) (.int x) = decide (n = x) := by
      by_cases q : n = x
      · subst q; simp [eqV]
      · simp [eqV, q]
    rw [e]
    by_cases q : n = x
    · subst q; simp
    · have q' : x ≠ n := fun z => q z.symm
      simp [q, q']
theorem ev_inI {p : Addr} {x : Int} {ns : List Int} (ha : Ev ta σ H (.int x)) (hb : Ev tb σ H (.ref p)) (h : SqL K H p (ils ns)) : Ev (tOp (rIn K false) ta tb) σ H (.bl (decide (x ∈ ns))) :=
  ev_is (ev_op ha hb (rv_isL h rfl (flat_ils ns))) (by rw [in_ils])
theorem ev_niI {p : Addr} {x : Int} {ns : List Int} (ha : Ev ta σ H (.int x)) (hb : Ev tb σ H (.ref p)) (h : SqL K H p (ils ns)) : Ev (tOp (rIn K true) ta tb) σ H (.bl (!decide (x ∈ ns))) :=
  ev_is (ev_op ha hb (rv_niL h rfl (flat_ils ns))) (by rw [in_ils])
theorem given_bl (n : Nat) (f : Nat → Bool) : given n (fun _ => true) (fun i => V.bl (f i)) = ((List.range n).map f).map V.bl := by
  rw [given_all, List.map_map]
  rfl
end
section
variable {P : Program} {w : World} {K : PySem.W.Frag} {mg : Str → Option Value} {base : Heap} {f : Addr} {fd : FuncData}
abbrev s_price_terms : Stmt := top 20
abbrev n_price_terms : List Str := ["tunnels", "weights", "a", "b", "parents", "terms", "at", "before"]
theorem sc_price_terms : FnScope n_price_terms ["tunnels", "weights", "a", "b"] (defScope s_price_terms) := ⟨rfl, rfl, rfl, by decide +kernel, rfl, by decide +kernel, by decide +kernel⟩
theorem b_price_terms : BindsOk "price_terms" "price_terms" s_price_terms ["tunnels", "weights", "a", "b"] := fun _ _ _ _ _ _ us hl => match us, hl with | [_, _, _, _], _ => rfl
def spTerms (K : PySem.W.Frag) : Sp := fun vs H Q _ => ∃ (p v : Addr) (par len wt : List Int) (a b : Int), vs = [.ref p, .ref v, .int a, .int b] ∧ TunAt K H p par len ∧ Sq K H v (ils wt) ∧ Ok par len ∧ WOk par wt ∧ RetL (ils (KM.terms par len wt a b)) H Q
theorem ok_price_terms (T : Txt K mg) (F : FnP K "price_terms" "price_terms" s_price_terms f fd) (g : mg "price_terms" = some (.ref f)) : Dfn P w K mg base 1 "price_terms" ["tunnels", "weights", "a", "b"] (spTerms K) := by
  refine dfn_of F g sc_price_terms b_price_terms (fun vs H Q E h => ?_) (BodyN.ok fun cdv A outer s H vs Q E hr h => ?_)
  · obtain ⟨_, _, _, _, _, _, _, rfl, _⟩ := h
    rfl
  · obtain ⟨p, v, par, len, wt, a, b, rfl, ⟨dx, sh, lt, dx2, pt, ab, hT⟩, hV, O, W, k⟩ := h
    refine ⟨_, (pss_cons (ps_set (i := 4) sc_price_terms.nd rfl (Or.inl rfl) (pe_fld (pe_fld (pv 0) rfl) rfl))
    (pss_cons (ps_setLc (i := 5) (own := [("at", 6)]) (g := gName 6) (tt := tYes) rfl sc_price_terms.nd rfl rfl (sw_true rfl rfl rfl (by decide +kernel)) (pi_range1 rfl T.range (pa_cons (pe_callB call_len_seq rfl T.len PySem.boot_len (pa_cons (pv 4) pa_nil)) pa_nil)) (blkOk_by (own := [("at", 6)]) (N := n_price_terms) (sc := defScope s_price_terms) (by decide +kernel)) (fun _ _ _ _ _ => pg_name (i := 6) sc_price_terms.nd rfl (Or.inl rfl)) (fun _ _ _ _ _ => pts_nil) (fun _ _ _ _ _ => (pe_op op_sub (pe_op op_mul (pv 3) (pe_ix (ix_seqK (K := K) rfl) (pv 1) (pv 6) (fun _ _ => rfl))) (pe_op op_mul (pv 2) (pe_ix (ix_tupK (K := K) rfl) (pe_fldK (K := K) rfl (pv 0) rfl) (pv 6) (fun _ _ => rfl))))))
    (pss_cons (ps_for PassesOwn.never rfl (pi_range3 rfl T.range (pa_cons (pe_op op_sub (pe_callB call_len_seq rfl T.len PySem.boot_len (pa_cons (pv 4) pa_nil)) pe_int) (pa_cons (pe_un un_neg pe_int) (pa_cons (pe_un un_neg pe_int) pa_nil)))) (pg_name (i := 6) sc_price_terms.nd rfl (Or.inl rfl)) (pss_one (ps_if (PW.pt (pw_and (pt_cmpR op_gt (pe_ix ix_tup (pv 4) (pv 6) (fun _ _ => rfl)) pe_int (nomark _)) (pw_and1 (pt_cmpR op_gt (pe_ix ix_list (pv 5) (pv 6) (fun _ _ => rfl)) pe_int (nomark _))))) (pss_cons (ps_set (i := 7) sc_price_terms.nd rfl (Or.inl rfl) (pe_op op_sub (pe_ix ix_tup (pv 4) (pv 6) (fun _ _ => rfl)) pe_int))
    (pss_one (ps_asg (pe_op op_add (pe_ix ix_list (pv 5) (pv 7) (fun _ _ => rfl)) (pe_ix ix_list (pv 5) (pv 6) (fun _ _ => rfl))) (pg_sub (pv 5) (pv 7) set_list)))) pss_nil)))
    (pss_one (ps_ret (pv 5)))))), ?_⟩
    have n8 := O.n8
    refine q_asg (ev_parents T hT (ev_var rfl)) fun H1 e1 => ?_
    have hT1 := hT.ex e1
    refine q_asgL (xs := ils (KM.base len wt a b par.length)) (el_is (el_lcR1 (n := (par.length : Int)) (fun _ => true) (fun i => .int (b * wt.getD i 0 - a * len.getD i 0)) (ea_cons (ev_is (ev_lenT (ev_var rfl) hT1.pT) (by rw [ils_length])) ea_nil) (by omega) (fun _ => rfl) (fun _ _ _ _ => et_yes) (fun i H2 e2 hi _ => ?_)) (by rw [Int.toNat_natCast]; exact given_base len wt a b par.length)) fun t H2 ht0 e2 ht => ?_
    · have hi' : i < par.length := by omega
      have b1 := W.wb _ (getD_mem (xs := wt) (i := i) (by rw [W.wl]; exact hi'))
      have b2 := O.lb _ (getD_mem (xs := len) (i := i) (by rw [O.ll]; exact hi'))
      refine ev_op (ev_op (ev_var rfl) (ev_op (ev_var rfl) (ev_var rfl) (rv_ix (hV.ex (e1.trans e2)) (at_ils (by rw [W.wl]; exact hi')))) (rv_I (.inr (by omega)))) (ev_op (ev_var rfl) (ev_op (ev_lengths T (hT1.ex e2) (ev_var rfl)) (ev_var rfl) (rv_ixT (hT1.ex e2).lT (at_ils (by rw [O.ll]; exact hi')))) (rv_I (.inr (by omega)))) rv_I0
    · have e12 := e1.trans e2
      refine q_forDown (m := par.length) (ea_cons (ev_op (ev_is (ev_lenT (ev_var rfl) (hT1.ex e2).pT) (by rw [ils_length])) ev_c rv_I0) (ea_cons (ev_un ev_c ru_neg) (ea_cons (ev_un ev_c ru_neg) ea_nil))) (by omega)
        (fun i σ' H' => (∃ u1 u2, σ' = [some (.ref p), some (.ref v), some (.int a), some (.int b), some (.ref pt), some (.ref t), u1, u2]) ∧ Ex H H' ∧ H' t = some (.lst (ils (KM.runT par (KM.base len wt a b par.length) i)))) (fun H3 e3 => ⟨⟨_, _, rfl⟩, e12.trans e3, e3 _ _ ht⟩) ?_ ?_
      · rintro i σ' H' hi ⟨⟨u1, u2, rfl⟩, e, hR⟩
        have hRl : (KM.runT par (KM.base len wt a b par.length) i).length = par.length := by rw [KM.runT_length, KM.base_length]
        show tIfS _ _ _ _ _ _
        have step : KM.runT par (KM.base len wt a b par.length) (i + 1) = KM.stepT par (KM.runT par (KM.base len wt a b par.length) i) (par.length - 1 - i) := rfl
        rw [step]
        generalize KM.runT par (KM.base len wt a b par.length) i = R at *
        have hat : par.length - 1 - i < par.length := by omega
        have hp := O.tr.ok _ hat
        generalize par.length - 1 - i = at_ at *
        have evP : ∀ {H2 : Hp}, Ex H' H2 → Ev (tOp (rIxT K) (tVar 4) (tVar 6)) [some (.ref p), some (.ref v), some (.int a), some (.int b), some (.ref pt), some (.ref t), some (.int (at_ : Int)), u2] H2 (.int (par.getD at_ 0)) := fun e2 => ev_op (ev_var rfl) (ev_var rfl) (rv_ixT (hT.ex (e.trans e2)).pT (at_ils hat))
        have evR : ∀ {H2 : Hp}, Ex H' H2 → Ev (tOp (rIxL K) (tVar 5) (tVar 6)) [some (.ref p), some (.ref v), some (.int a), some (.int b), some (.ref pt), some (.ref t), some (.int (at_ : Int)), u2] H2 (.int (R.getD at_ 0)) := fun e2 => ev_op (ev_var rfl) (ev_var rfl) (rv_ixL (sq_of (e2 _ _ hR)) (at_ils (by rw [hRl]; exact hat)))
        refine s_when (et_and (et_gt (evP (Ex.refl H')) ev_c) (fun _ => et_gt (evR (Ex.refl H')) ev_c)) (fun c H2 e2 => ?_) (fun c H2 e2 => ?_)
        · obtain ⟨c1, c2⟩ := Bool.and_eq_true_iff.mp c
          have c1 := of_decide_eq_true c1
          have c2 := of_decide_eq_true c2
          refine q_asg (ev_op (evP e2) ev_c rv_I0) fun H3 e3 => ?_
          have e23 := e2.trans e3
          have eb : par.getD at_ 0 - 1 = (((par.getD at_ 0 - 1).toNat : Nat) : Int) := by omega
          have hb : (par.getD at_ 0 - 1).toNat < R.length := by rw [hRl]; omega
          refine s_setL (j := (par.getD at_ 0 - 1).toNat) (e23 _ _ hR) (ev_op (ev_op (ev_var rfl) (ev_var rfl) (rv_ixL (sq_of (e23 _ _ hR)) (by rw [eb]; exact at_ils hb))) (ev_op (ev_var rfl) (ev_var rfl) (rv_ixL (sq_of (e23 _ _ hR)) (at_ils (by rw [hRl]; exact hat)))) rv_I0) (ev_var rfl) (ev_is (ev_var rfl) (by rw [← eb])) (by rw [ils_length]; exact hb) fun H4 e4 => ?_
          refine ⟨⟨_, _, rfl⟩, Ex.mut (e.trans (e23.trans e4)) (fresh_back e1 ht0), ?_⟩
          rw [upd_same]
          unfold KM.stepT
          rw [if_pos ⟨c1, c2⟩]
          simp [ils, List.map_set]
        · refine ⟨⟨_, _, rfl⟩, e.trans e2, ?_⟩
          unfold KM.stepT
          rw [if_neg (fun q => by
            rw [decide_eq_true q.1, decide_eq_true q.2] at c
            cases c)]
          exact e2 _ _ hR
      · rintro σ' H' ⟨⟨u1, u2, rfl⟩, e, hR⟩
        exact ⟨_, rfl, k t H' (fresh_back e1 ht0) e hR⟩
abbrev s_some_gain : Stmt := top 21
abbrev n_some_gain : List Str := ["tunnels", "terms", "parents", "at"]
theorem sc_some_gain : FnScope n_some_gain ["tunnels", "terms"] (defScope s_some_gain) := ⟨rfl, rfl, rfl, by decide +kernel, rfl, by decide +kernel, by decide +kernel⟩
theorem b_some_gain : BindsOk "some_gain" "some_gain" s_some_gain ["tunnels", "terms"] := fun _ _ _ _ _ _ us hl => match us, hl with | [_, _], _ => rfl
def spGain (K : PySem.W.Frag) : Sp := fun vs H Q _ => ∃ (p l : Addr) (par len R : List Int), vs = [.ref p, .ref l] ∧ TunAt K H p par len ∧ SqL K H l (ils R) ∧ R.length = par.length ∧ par.length ≤ 8 ∧ RetV (.bl (KM.gain par R)) H Q
theorem ok_some_gain (T : Txt K mg) (F : FnP K "some_gain" "some_gain" s_some_gain f fd) (g : mg "some_gain" = some (.ref f)) : Dfn P w K mg base 1 "some_gain" ["tunnels", "terms"] (spGain K) := by
  refine dfn_of F g sc_some_gain b_some_gain (fun vs H Q E h => ?_) (BodyN.ok fun cdv A outer s H vs Q E hr h => ?_)
  · obtain ⟨_, _, _, _, _, rfl, _⟩ := h
    rfl
  · obtain ⟨p, l, par, len, R, rfl, ⟨dx, sh, lt, dx2, pt, ab, hT⟩, hR, hRl, n8, k⟩ := h
    refine ⟨_, (pss_cons (ps_set (i := 2) sc_some_gain.nd rfl (Or.inr rfl) (pe_fld (pe_fld (pv 0) rfl) rfl))
    (pss_one (ps_ret (pe_callB (cr_any rfl) rfl T.any (by decide +kernel) (pa_cons (pe_lc (own := [("at", 3)]) (g := gName 3) (tt := tYes) rfl sc_some_gain.nd (pi_range1 rfl T.range (pa_cons (pe_callB call_len_seq rfl T.len PySem.boot_len (pa_cons (pv 2) pa_nil)) pa_nil)) (blkOk_by (own := [("at", 3)]) (N := n_some_gain) (sc := defScope s_some_gain) (by decide +kernel)) (fun _ _ _ _ _ => pg_name (i := 3) sc_some_gain.nd rfl (Or.inl rfl)) (fun _ _ _ _ _ => pts_nil) (fun _ _ _ _ _ => (pe_and (pe_cmpR op_eq (pe_ix (ix_tupK (K := K) rfl) (pv 2) (pv 3) (fun _ _ => rfl)) pe_int (nomark _)) (pe_one (pe_cmpR op_gt (pe_ix (ix_listK (K := K) rfl) (pv 1) (pv 3) (fun _ _ => rfl)) pe_int (nomark _)))))) pa_nil))))), ?_⟩
    refine q_asg (ev_parents T hT (ev_var rfl)) fun H1 e1 => ?_
    have hT1 := hT.ex e1
    have ee : ((List.range par.length).map fun i => decide (par.getD i 0 = 0) && decide (R.getD i 0 > 0)).any id = KM.gain par R := by
      unfold KM.gain
      rw [List.any_map]
      rfl
    rw [← ee] at k
    refine s_ret (ev_anyL (el_is (el_lcR1 (n := (par.length : Int)) (fun _ => true) (fun i => .bl (decide (par.getD i 0 = 0) && decide (R.getD i 0 > 0))) (ea_cons (ev_is (ev_lenT (ev_var rfl) hT1.pT) (by rw [ils_length])) ea_nil) (by omega) (fun _ => rfl) (fun _ _ _ _ => et_yes) (fun i H2 e2 hi _ => ?_)) (by rw [Int.toNat_natCast]; exact given_bl ..))) fun H2 e2 => k H2 (e1.trans e2)
    have hi' : i < par.length := by omega
    exact ev_andV (ev_eqI (ev_op (ev_var rfl) (ev_var rfl) (rv_ixT (hT1.ex e2).pT (at_ils hi'))) ev_c) (fun _ => ev_gt (ev_op (ev_var rfl) (ev_var rfl) (rv_ixL (ex_l (e1.trans e2) hR) (at_ils (by omega)))) ev_c)
abbrev s_greatest_set : Stmt := top 22
abbrev n_greatest_set : List Str := ["tunnels", "terms", "parents", "chosen", "wall", "parent"]
theorem sc_greatest_set : FnScope n_greatest_set ["tunnels", "terms"] (defScope s_greatest_set) := ⟨rfl, rfl, rfl, by decide +kernel, rfl, by decide +kernel, by decide +kernel⟩
theorem b_greatest_set : BindsOk "greatest_set" "greatest_set" s_greatest_set ["tunnels", "terms"] := fun _ _ _ _ _ _ us hl => match us, hl with | [_, _], _ => rfl
def spGset (K : PySem.W.Frag) : Sp := fun vs H Q _ => ∃ (p l : Addr) (par len R : List Int), vs = [.ref p, .ref l] ∧ TunAt K H p par len ∧ SqL K H l (ils R) ∧ R.length = par.length ∧ par.length ≤ 8 ∧ RetL (ils (KM.gset par R par.length)) H Q
theorem ok_greatest_set (T : Txt K mg) (F : FnP K "greatest_set" "greatest_set" s_greatest_set f fd) (g : mg "greatest_set" = some (.ref f)) : Dfn P w K mg base 1 "greatest_set" ["tunnels", "terms"] (spGset K) := by
  refine dfn_of F g sc_greatest_set b_greatest_set (fun vs H Q E h => ?_) (BodyN.ok fun cdv A outer s H vs Q E hr h => ?_)
  · obtain ⟨_, _, _, _, _, rfl, _⟩ := h
    rfl
  · obtain ⟨p, l, par, len, R, rfl, ⟨dx, sh, lt, dx2, pt, ab, hT⟩, hR, hRl, n8, k⟩ := h
    refine ⟨_, (pss_cons (ps_set (i := 2) sc_greatest_set.nd rfl (Or.inl rfl) (pe_fld (pe_fld (pv 0) rfl) rfl))
    (pss_cons (ps_set (i := 3) sc_greatest_set.nd rfl (Or.inl rfl) (pe_lst pa_nil))
    (pss_cons (ps_for PassesOwn.never rfl (pi_range2 rfl T.range (pa_cons pe_int (pa_cons (pe_op op_add (pe_callB call_len_seq rfl T.len PySem.boot_len (pa_cons (pv 2) pa_nil)) pe_int) pa_nil))) (pg_name (i := 4) sc_greatest_set.nd rfl (Or.inl rfl)) (pss_cons (ps_set (i := 5) sc_greatest_set.nd rfl (Or.inl rfl) (pe_ix ix_tup (pv 2) (pe_op op_sub (pv 4) pe_int) (fun _ _ => rfl)))
    (pss_one (ps_if (PW.pt (pw_and (pt_cmpR op_ge (pe_ix ix_list (pv 1) (pe_op op_sub (pv 4) pe_int) (fun _ _ => rfl)) pe_int (nomark _)) (pw_and1 (PW.pt (pw_or (pt_cmpR op_eq (pv 5) pe_int (nomark _)) (pw_or1 (pt_cmpR op_in_seq (pv 5) (pv 3) (by rfl)))))))) (pss_one (ps_expr (pe_bm PySem.F.plainAttrs_list PySem.F.slot_list_append PySem.F.type_list_append mt_append (pv 3) (pa_cons (pv 4) pa_nil)))) pss_nil))))
    (pss_one (ps_ret (pv 3)))))), ?_⟩
    refine q_asg (ev_parents T hT (ev_var rfl)) fun H1 e1 => ?_
    refine q_asgL (el_lst ea_nil (Nat.zero_le _)) fun c H2 hc0 e2 hc => ?_
    have e12 := e1.trans e2
    have hT2 := hT.ex e12
    refine q_forR2 (lo := 1) (n := (par.length : Int) + 1) (ea_cons ev_c (ea_cons (ev_op (ev_is (ev_lenT (ev_var rfl) hT2.pT) (by rw [ils_length])) ev_c rv_I0) ea_nil)) (by omega)
      (fun i σ' H' => (∃ u1 u2, σ' = [some (.ref p), some (.ref l), some (.ref pt), some (.ref c), u1, u2]) ∧ Ex H H' ∧ H' c = some (.lst (ils (KM.gset par R i)))) (fun H3 e3 => ⟨⟨_, _, rfl⟩, e12.trans e3, e3 _ _ hc⟩) ?_ ?_
    · rintro i σ' H' hi ⟨⟨u1, u2, rfl⟩, e, hC⟩
      have hi' : i < par.length := by omega
      have ei : ((1 : Int) + (i : Int) - 1) = (i : Int) := by omega
      refine q_asg (ev_op (ev_var rfl) (ev_op (ev_var rfl) ev_c rv_I0) (rv_ixT (hT.ex e).pT (by rw [ei]; exact at_ils hi'))) fun H3 e3 => ?_
      have step : KM.gset par R (i + 1) = if 0 ≤ R.getD i 0 ∧ (par.getD i 0 = 0 ∨ par.getD i 0 ∈ KM.gset par R i) then KM.gset par R i ++ [(i : Int) + 1] else KM.gset par R i := rfl
      refine s_when (et_and (et_ge (ev_op (ev_var rfl) (ev_op (ev_var rfl) ev_c rv_I0) (rv_ixL (ex_l (e.trans e3) hR) (by rw [ei]; exact at_ils (by omega)))) ev_c) (fun _ => et_or (et_eqI (ev_var rfl) ev_c) (fun _ => et_test (ev_inI (ev_var rfl) (ev_var rfl) (sq_of (e3 _ _ hC)))))) (fun cc H4 e4 => ?_) (fun cc H4 e4 => ?_)
      · refine s_app ((e3.trans e4) _ _ hC) (ev_var rfl) (ev_var rfl) (by rw [ils_length]; have := KM.gset_length par R i; omega) fun H5 e5 => ?_
        refine ⟨⟨_, _, rfl⟩, Ex.mut (e.trans ((e3.trans e4).trans e5)) (fresh_back e1 hc0), ?_⟩
        obtain ⟨c1, c2⟩ := Bool.and_eq_true_iff.mp cc
        have c1 := of_decide_eq_true c1
        have c2 : par.getD i 0 = 0 ∨ par.getD i 0 ∈ KM.gset par R i := by simpa using c2
        rw [step, if_pos ⟨c1, c2⟩, upd_same]
        have : (1 : Int) + (i : Int) = (i : Int) + 1 := Int.add_comm _ _
        simp [ils, this]
      · refine ⟨⟨_, _, rfl⟩, e.trans (e3.trans e4), ?_⟩
        rw [step, if_neg (fun q => by
          have : (decide (0 ≤ R.getD i 0) && (decide (par.getD i 0 = 0) || decide (par.getD i 0 ∈ KM.gset par R i))) = true := by
            rw [decide_eq_true q.1]
            simpa using q.2
          rw [this] at cc
          cases cc)]
        exact (e3.trans e4) _ _ hC
    · rintro σ' H' ⟨⟨u1, u2, rfl⟩, e, hC⟩
      have : ((par.length : Int) + 1 - 1).toNat = par.length := by omega
      rw [this] at hC
      exact ⟨_, rfl, k c H' (fresh_back e1 hc0) e hC⟩
end
end K61
/-! check_weights, check_ratio, prices -/
namespace K61
open PySem PySem.Spec PyProof.Rows L2 Evl
open KM (nth tot walls)
def RaiseV (C : Addr) (fld : Str) (i : Int) (H : Hp) (E : XK) : Prop := ∀ d H', H d = none → Ex H H' → H' d = some (.xd [(fld, .int i)]) → E (.ref C) (some d) H'
theorem RaiseV.go {C : Addr} {fld : Str} {i : Int} {H H' : Hp} {E : XK} (k : RaiseV C fld i H E) (e : Ex H H') : RaiseV C fld i H' E := fun d H2 hd e2 h => k d H2 (fresh_back e hd) (e.trans e2) h
section
variable {K : PySem.W.Frag} {H H' : Hp} {σ : L2.St} {ta tb te : TE} {tt : TT} {D : Ends} {tu tz : TS} {x : V}
theorem rv_notN : RV (fun x y H Q => y = .non ∧ Q (.bl (!decide (x = .non))) H) x .non H (.bl (!decide (x = .non))) := fun H1 _ _ q => ⟨rfl, q H1 (Ex.refl H1)⟩
theorem rv_isN : RV (fun x y H Q => y = .non ∧ Q (.bl (decide (x = .non))) H) x .non H (.bl (decide (x = .non))) := fun H1 _ _ q => ⟨rfl, q H1 (Ex.refl H1)⟩
theorem s_raise {C : Addr} {fld : Str} {W : WX} {i : Int} {E : XK} (h : Ev te σ H (.int i)) (hW : ∀ cls d H', W cls d σ H' = E cls d H') (k : RaiseV C fld i H E) : tRaiseX C fld W (tCons te tNil) D σ H := h H (Ex.refl H) _ fun H1 e1 => ⟨.int i, rfl, fun d hd => by
  show W (.ref C) (some d) σ _
  rw [hW]
  exact k d _ (fresh_back e1 hd) (e1.trans (Ex.new hd)) upd_same⟩
end
section
variable {P : Program} {w : World} {K : PySem.W.Frag} {mg : Str → Option Value} {base : Heap} {f : Addr} {fd : FuncData} {msgW qW msgC qC : Str} {xpW xpC : XPos} {CW fW ccW cdW CC fC ccC cdC : Addr}
abbrev s_check_weights : Stmt := top 18
abbrev n_check_weights : List Str := ["tunnels", "weights", "place"]
theorem sc_check_weights : FnScope n_check_weights ["tunnels", "weights"] (defScope s_check_weights) := ⟨rfl, rfl, rfl, by decide +kernel, rfl, by decide +kernel, by decide +kernel⟩
theorem b_check_weights : BindsOk "check_weights" "check_weights" s_check_weights ["tunnels", "weights"] := fun _ _ _ _ _ _ us hl => match us, hl with | [_, _], _ => rfl
def spCheckW (K : PySem.W.Frag) (CW : Addr) : Sp := fun vs H Q E => ∃ (p v : Addr) (par len ns : List Int), vs = [.ref p, .ref v] ∧ TunAt K H p par len ∧ Sq K H v (ils ns) ∧ ns.length ≤ 1000 ∧
  (wrong ns 0 par.length = none → RetV .non H Q) ∧ (∀ i, wrong ns 0 par.length = some i → RaiseV CW "place" i H E)
theorem ok_check_weights (T : Txt K mg) (TW : XTxt P K mg "BadWeight" "place" msgW qW xpW CW fW ccW cdW) (d_wrong_item : Dfn P w K mg base 1 "wrong_item" ["values", "least", "many"] (spWrong K)) (F : FnP K "check_weights" "check_weights" s_check_weights f fd) (g : mg "check_weights" = some (.ref f)) :
    Dfn P w K mg base 3 "check_weights" ["tunnels", "weights"] (spCheckW K CW) := by
  refine dfn_of F g sc_check_weights b_check_weights (fun vs H Q E h => ?_) (fun cdv A outer s H vs Q E hr h => ?_)
  · obtain ⟨_, _, _, _, _, rfl, _⟩ := h
    rfl
  · obtain ⟨p, v, par, len, ns, rfl, ⟨dx, sh, lt, dx2, pt, ab, hT⟩, hV, hl, k1, k2⟩ := h
    refine ⟨_, (pss_cons (ps_set (i := 2) sc_check_weights.nd rfl (Or.inl rfl) (pe_fn d_wrong_item (hr.mono (by decide)) rfl (pa_cons (pv 1) (pa_cons pe_int (pa_cons (pe_fld (pe_fld (pv 0) rfl) rfl) pa_nil)))))
    (pss_one (ps_if (pt_cmpR op_notN (pv 2) pe_non (nomark _)) (pss_one (ps_raiseX rfl TW hr (L2N.takes_of rfl rfl rfl rfl) (pa_cons (pv 2) pa_nil) rfl)) pss_nil))), ?_⟩
    refine q_asg (v := valO (wrong ns 0 par.length)) (ev_fn (ea_cons (ev_var rfl) (ea_cons ev_c (ea_cons (ev_size T hT (ev_var rfl)) ea_nil))) (fun H1 e Q1 q1 E1 => ⟨v, ns, 0, par.length, rfl, hV.ex e, hl, q1⟩)) fun H1 e1 => ?_
    refine s_when (et_test (ev_op (ev_var rfl) ev_c rv_notN)) (fun c H2 e2 => ?_) (fun c H2 e2 => ?_)
    · cases hw : wrong ns 0 par.length with
      | none =>
        rw [hw] at c
        cases c
      | some i => exact s_raise (i := i) (ev_var rfl) (fun _ _ _ => rfl) ((k2 i hw).go (e1.trans e2))
    · cases hw : wrong ns 0 par.length with
      | none => exact k1 hw H2 (e1.trans e2)
      | some i =>
        rw [hw] at c
        simp [valO] at c
abbrev s_check_ratio : Stmt := top 19
abbrev n_check_ratio : List Str := ["tunnels", "weights", "a", "b"]
theorem sc_check_ratio : FnScope n_check_ratio ["tunnels", "weights", "a", "b"] (defScope s_check_ratio) := ⟨rfl, rfl, rfl, by decide +kernel, rfl, by decide +kernel, by decide +kernel⟩
theorem b_check_ratio : BindsOk "check_ratio" "check_ratio" s_check_ratio ["tunnels", "weights", "a", "b"] := fun _ _ _ _ _ _ us hl => match us, hl with | [_, _, _, _], _ => rfl
def spRatio (K : PySem.W.Frag) : Sp := fun vs H Q _ => ∃ (p v : Addr) (par len ns : List Int) (a b : Int), vs = [.ref p, .ref v, .int a, .int b] ∧ TunAt K H p par len ∧ Sq K H v (ils ns) ∧ ns.length ≤ 1000 ∧ wrong ns 0 par.length = none ∧ 0 ≤ a ∧ 1 ≤ b ∧ RetV .non H Q
theorem sv_check {H : Hp} {p v : Addr} {par len ns : List Int} (hT : TunAt K H p par len) (hV : Sq K H v (ils ns)) (hl : ns.length ≤ 1000) (hw : wrong ns 0 par.length = none) : SpV (spCheckW K CW) [.ref p, .ref v] H .non := fun H1 e Q1 q1 E1 =>
  ⟨p, v, par, len, ns, rfl, hT.ex e, hV.ex e, hl, fun _ => q1, fun i q => by rw [hw] at q; cases q⟩
theorem ok_check_ratio (T : Txt K mg) (d_check_weights : Dfn P w K mg base 3 "check_weights" ["tunnels", "weights"] (spCheckW K CW)) (F : FnP K "check_ratio" "check_ratio" s_check_ratio f fd) (g : mg "check_ratio" = some (.ref f)) :
    Dfn P w K mg base 4 "check_ratio" ["tunnels", "weights", "a", "b"] (spRatio K) := by
  refine dfn_of F g sc_check_ratio b_check_ratio (fun vs H Q E h => ?_) (BodyN.ok fun cdv A outer s H vs Q E hr h => ?_)
  · obtain ⟨_, _, _, _, _, _, _, rfl, _⟩ := h
    rfl
  · obtain ⟨p, v, par, len, ns, a, b, rfl, hT, hV, hl, hw, ha, hb, k⟩ := h
    refine ⟨_, pss_cons (ps_expr (pe_fn d_check_weights (hr.mono (by decide)) rfl (pa_cons (pv 0) (pa_cons (pv 1) pa_nil)))) (pss_cons (ps_if (pt_cmpR op_lt (pv 2) pe_int (nomark _)) (pss_one ps_never) pss_nil)
    (pss_one (ps_if (pt_cmpR op_lt (pv 3) pe_int (nomark _)) (pss_one ps_never) pss_nil))), ?_⟩
    refine q_drop (ev_fn (ea_cons (ev_var rfl) (ea_cons (ev_var rfl) ea_nil)) (sv_check hT hV hl hw)) fun H1 e1 => ?_
    refine q_when (b := false) (et_is (et_lt (ev_var rfl) ev_c) (decide_eq_false (by omega))) (fun c => by cases c) (fun _ H2 e2 => ?_)
    exact s_when (b := false) (et_is (et_lt (ev_var rfl) ev_c) (decide_eq_false (by omega))) (fun c => by cases c) (fun _ H3 e3 => k H3 (e1.trans (e2.trans e3)))
abbrev s_prices : Stmt := top 24
abbrev n_prices : List Str := ["tunnels", "weights", "a", "b", "terms", "at", "term"]
theorem sc_prices : FnScope n_prices ["tunnels", "weights", "a", "b"] (defScope s_prices) := ⟨rfl, rfl, rfl, by decide +kernel, rfl, by decide +kernel, by decide +kernel⟩
theorem b_prices : BindsOk "prices" "prices" s_prices ["tunnels", "weights", "a", "b"] := fun _ _ _ _ _ _ us hl => match us, hl with | [_, _, _, _], _ => rfl
/-- the prices that are told: none where the entrance gains -/
def spPrices (K : PySem.W.Frag) : Sp := fun vs H Q _ => ∃ (p v : Addr) (par len wt : List Int) (a b : Int), vs = [.ref p, .ref v, .int a, .int b] ∧ TunAt K H p par len ∧ Sq K H v (ils wt) ∧ Ok par len ∧ WOk par wt ∧ 0 ≤ a ∧ 1 ≤ b ∧
  (KM.gain par (KM.terms par len wt a b) = true → RetV .non H Q) ∧ (KM.gain par (KM.terms par len wt a b) = false → RetL (ils ((KM.terms par len wt a b).map KM.pos)) H Q)
theorem wok_wrong {par wt : List Int} (W : WOk par wt) : wrong wt 0 par.length = none := by
  unfold wrong
  have : wt.findIdx? (fun v => decide (v < 0)) = none := by
    rw [List.findIdx?_eq_none_iff]
    intro x hx
    have := (W.wb x hx).1
    simpa using this
  rw [this]
  show (if _ then _ else _) = _
  rw [if_pos (by rw [W.wl])]
theorem ok_prices (T : Txt K mg) (d_check_ratio : Dfn P w K mg base 4 "check_ratio" ["tunnels", "weights", "a", "b"] (spRatio K)) (d_price_terms : Dfn P w K mg base 1 "price_terms" ["tunnels", "weights", "a", "b"] (spTerms K)) (F : FnP K "prices" "prices" s_prices f fd) (g : mg "prices" = some (.ref f)) :
    Dfn P w K mg base 5 "prices" ["tunnels", "weights", "a", "b"] (spPrices K) := by
  refine dfn_of F g sc_prices b_prices (fun vs H Q E h => ?_) (BodyN.ok fun cdv A outer s H vs Q E hr h => ?_)
  · obtain ⟨_, _, _, _, _, _, _, rfl, _⟩ := h
    rfl
  · obtain ⟨p, v, par, len, wt, a, b, rfl, hT, hV, O, W, ha, hb, k1, k2⟩ := h
    refine ⟨_, (pss_cons (ps_expr (pe_fn d_check_ratio (hr.mono (by decide)) rfl (pa_cons (pv 0) (pa_cons (pv 1) (pa_cons (pv 2) (pa_cons (pv 3) pa_nil))))))
    (pss_cons (ps_set (i := 4) sc_prices.nd rfl (Or.inl rfl) (pe_fn d_price_terms (hr.mono (by decide)) rfl (pa_cons (pv 0) (pa_cons (pv 1) (pa_cons (pv 2) (pa_cons (pv 3) pa_nil))))))
    (pss_cons (ps_for PassesOwn.never rfl (pi_range1 rfl T.range (pa_cons (pe_callB call_len_seq rfl T.len PySem.boot_len (pa_cons (pv 4) pa_nil)) pa_nil)) (pg_name (i := 5) sc_prices.nd rfl (Or.inl rfl)) (pss_one (ps_if (PW.pt (pw_and (pt_cmpR op_eq (pe_ix ix_tup (pe_fld (pe_fld (pv 0) rfl) rfl) (pv 5) (fun _ _ => rfl)) pe_int (nomark _)) (pw_and1 (pt_cmpR op_gt (pe_ix ix_list (pv 4) (pv 5) (fun _ _ => rfl)) pe_int (nomark _))))) (pss_one (ps_ret pe_non)) pss_nil)))
    (pss_one (ps_ret (pe_lc (own := [("term", 6)]) (g := gName 6) (tt := tYes) rfl sc_prices.nd (pi_list (pv 4)) (blkOk_by (own := [("term", 6)]) (N := n_prices) (sc := defScope s_prices) (by decide +kernel)) (fun _ _ _ _ _ => pg_name (i := 6) sc_prices.nd rfl (Or.inl rfl)) (fun _ _ _ _ _ => pts_nil) (fun _ _ _ _ _ => (pe_callB (call_max2 rfl) rfl T.max (by decide +kernel) (pa_cons (pv 6) (pa_cons pe_int pa_nil)))))))))), ?_⟩
    have wl := W.wl
    have n8 := O.n8
    refine q_drop (ev_fn (ea_cons (ev_var rfl) (ea_cons (ev_var rfl) (ea_cons (ev_var rfl) (ea_cons (ev_var rfl) ea_nil)))) (fun H1 e Q1 q1 E1 => ⟨p, v, par, len, wt, a, b, rfl, hT.ex e, hV.ex e, by omega, wok_wrong W, ha, hb, q1⟩)) fun H1 e1 => ?_
    refine q_asgL (xs := ils (KM.terms par len wt a b)) (el_fn (ea_cons (ev_var rfl) (ea_cons (ev_var rfl) (ea_cons (ev_var rfl) (ea_cons (ev_var rfl) ea_nil)))) (fun H2 e Q1 q1 E1 => ⟨p, v, par, len, wt, a, b, rfl, hT.ex (e1.trans e), hV.ex (e1.trans e), O, W, q1⟩)) fun t H2 ht0 e2 ht => ?_
    have e12 := e1.trans e2
    have hl := KM.terms_length par len wt a b
    obtain ⟨dx, sh, lt, dx2, pt, ab, hTA⟩ := hT.ex e12
    generalize KM.terms par len wt a b = R at *
    refine q_forR1 (n := (par.length : Int)) (ea_cons (ev_is (ev_lenS (ev_var rfl) (.inl (sq_of ht))) (by rw [ils_length, hl])) ea_nil) (by omega)
      (fun i σ' H' => (∃ u1 u2, σ' = [some (.ref p), some (.ref v), some (.int a), some (.int b), some (.ref t), u1, u2]) ∧ Ex H2 H' ∧ ∀ j, j < i → ¬ (par.getD j 0 = 0 ∧ R.getD j 0 > 0)) (fun H3 e3 => ⟨⟨_, _, rfl⟩, e3, fun j hj => by omega⟩) ?_ ?_
    · rintro i σ' H' hi ⟨⟨u1, u2, rfl⟩, e, hb'⟩
      have hi' : i < par.length := by omega
      refine s_when (et_and (et_eqI (ev_op (ev_parents T (hTA.ex e) (ev_var rfl)) (ev_var rfl) (rv_ixT (hTA.ex e).pT (at_ils hi'))) ev_c) (fun _ => et_gt (ev_op (ev_var rfl) (ev_var rfl) (rv_ixL (sq_of (e _ _ ht)) (at_ils (by omega)))) ev_c)) (fun c H3 e3 => ?_) (fun c H3 e3 => ?_)
      · obtain ⟨c1, c2⟩ := Bool.and_eq_true_iff.mp c
        have gt : KM.gain par R = true := KM.gain_true.mpr ⟨i, hi', of_decide_eq_true c1, of_decide_eq_true c2⟩
        exact s_ret ev_c fun H4 e4 => k1 gt H4 (e12.trans (e.trans (e3.trans e4)))
      · refine ⟨⟨_, _, rfl⟩, e.trans e3, fun j hj => ?_⟩
        by_cases q : j = i
        · subst q
          rintro ⟨c1, c2⟩
          rw [decide_eq_true c1, decide_eq_true c2] at c
          cases c
        · exact hb' j (by omega)
    · rintro σ' H' ⟨⟨u1, u2, rfl⟩, e, hb'⟩
      have gf : KM.gain par R = false := by
        cases q : KM.gain par R with
        | false => rfl
        | true =>
          obtain ⟨j, h1, h2, h3⟩ := KM.gain_true.mp q
          exact absurd ⟨h2, h3⟩ (hb' j (by omega))
      refine s_retL (el_is (el_lcL (fun _ => true) (fun i => .int (KM.pos (R.getD i 0))) (ev_var rfl) (sq_of (e _ _ ht)) (by rw [ils_length]; omega) (fun _ => rfl) (fun _ _ _ _ _ => et_yes) (fun i x H3 e3 hi _ => ?_)) (given_ils (g := KM.pos) (by rw [ils_length]))) fun r H3 hr0 e3 hr => k2 gf r H3 (fresh_back (e12.trans e) hr0) (e12.trans (e.trans e3)) hr
      obtain ⟨hi2, rfl, hm⟩ := ils_mem hi
      refine ev_is (ev_max2 (ev_var rfl) ev_c) ?_
      unfold KM.pos
      by_cases q : (0 : Int) > R.getD i 0
      · rw [if_pos q, Int.max_eq_right (by omega)]
      · rw [if_neg q, Int.max_eq_left (by omega)]
end
end K61
/-! best_set -/
namespace K61
open PySem PySem.Spec PyProof.Rows L2 Evl
open KM (nth tot walls)
section
variable {P : Program} {w : World} {K : PySem.W.Frag} {mg : Str → Option Value} {base : Heap} {f : Addr} {fd : FuncData} {CW : Addr}
theorem sv_total {H : Hp} {p v q : Addr} {par len vals ws : List Int} (hT : TunAt K H p par len) (hV : Sq K H v (ils vals)) (hS : SqL K H q (ils ws)) (hw : ∀ x ∈ ws, 1 ≤ x ∧ x ≤ par.length) (hn : par.length ≤ vals.length) (nd : ws.Nodup) (h8 : par.length ≤ 8) :
    SpV (spTotal K) [.ref p, .ref v, .ref q] H (.int (tot vals ws)) := fun H1 e Q1 q1 E1 => ⟨p, v, q, par, len, vals, ws, rfl, hT.ex e, hV.ex e, ex_l e hS, hw, hn, nd, h8, q1⟩
abbrev s_best_set : Stmt := top 23
abbrev n_best_set : List Str := ["tunnels", "weights", "walls", "better", "terms"]
theorem sc_best_set : FnScope n_best_set ["tunnels", "weights"] (defScope s_best_set) := ⟨rfl, rfl, rfl, by decide +kernel, rfl, by decide +kernel, by decide +kernel⟩
theorem b_best_set : BindsOk "best_set" "best_set" s_best_set ["tunnels", "weights"] := fun _ _ _ _ _ _ us hl => match us, hl with | [_, _], _ => rfl
def spBest (K : PySem.W.Frag) : Sp := fun vs H Q _ => ∃ (p v : Addr) (par len wt : List Int), vs = [.ref p, .ref v] ∧ TunAt K H p par len ∧ Sq K H v (ils wt) ∧ Ok par len ∧ WOk par wt ∧
  (∀ B : List Int, KM.Best par len wt B → ∀ t q H2, Ex H H2 → H t = none → H2 t = some (.tup [.int (tot wt B), .int (tot len B), .ref q]) → H2 q = some (.lst (ils B)) → Q (.ref t) H2)
theorem tot_bound {vs : List Int} {m : Int} (h : ∀ v ∈ vs, 0 ≤ v ∧ v ≤ m) (hm : 0 ≤ m) {ws : List Int} (hl : ws.length ≤ 8) : 0 ≤ tot vs ws ∧ tot vs ws ≤ m * 8 := by
  refine ⟨KM.tot_nonneg (fun v hv => (h v hv).1) ws, ?_⟩
  have h1 := KM.tot_le_all (fun v hv => (h v hv).1) (fun v hv => (h v hv).2) hm ws
  have h2 : m * (ws.length : Int) ≤ m * 8 := Int.mul_le_mul_of_nonneg_left (by omega) hm
  omega
theorem el_rg2 {ta tb : TE} {σ : L2.St} {H : Hp} {i j : Int} (ha : Ev ta σ H (.int i)) (hb : Ev tb σ H (.int j)) (hr : RgOk i j) : EvL (tLstRg (tRg2 ta tb)) σ H (rgV i j) := fun H1 e1 Q q =>
  ha H1 e1 _ fun H2 e2 => hb H2 (e1.trans e2) _ fun H3 e3 => ⟨i, j, rfl, rfl, hr, fun r hr0 => q r _ (fresh_back (e2.trans e3) hr0) ((e2.trans e3).trans (Ex.new hr0)) (by simp [upd])⟩
theorem rg_walls (n : Nat) : rgV 1 ((n : Int) + 1) = ils (walls n) := by
  unfold rgV ils walls
  rw [show ((n : Int) + 1 - 1).toNat = n by omega, List.map_map]
  refine List.map_congr_left fun k _ => ?_
  show V.int (1 + (k : Int)) = V.int ((k : Int) + 1)
  rw [Int.add_comm]
def BestI (K : PySem.W.Frag) (par len wt : List Int) (p v : Addr) (H : Hp) (m : Nat) (σ' : L2.St) (H' : Hp) : Prop :=
  ∃ (ws : List Int) (q : Addr) (bb : Bool) (u : Option V), σ' = [some (.ref p), some (.ref v), some (.ref q), some (.bl bb), u] ∧ Ex H H' ∧ H' q = some (.lst (ils ws)) ∧
    (bb = true → KM.Cl par ws ∧ ws ≠ [] ∧ m = KM.cnt 8000 8000 (tot wt ws) (tot len ws) + 1) ∧ (bb = false → KM.Best par len wt ws)
theorem ok_best_set (T : Txt K mg) (d_check_weights : Dfn P w K mg base 3 "check_weights" ["tunnels", "weights"] (spCheckW K CW)) (d_price_terms : Dfn P w K mg base 1 "price_terms" ["tunnels", "weights", "a", "b"] (spTerms K))
    (d_some_gain : Dfn P w K mg base 1 "some_gain" ["tunnels", "terms"] (spGain K)) (d_greatest_set : Dfn P w K mg base 1 "greatest_set" ["tunnels", "terms"] (spGset K)) (d_total : Mth P w K mg base 3 (He.ga K "Tunnels") "total" ["self", "values", "walls"] (spTotal K))
    (F : FnP K "best_set" "best_set" s_best_set f fd) (g : mg "best_set" = some (.ref f)) : Dfn P w K mg base 4 "best_set" ["tunnels", "weights"] (spBest K) := by
  refine dfn_of F g sc_best_set b_best_set (fun vs H Q E h => ?_) (BodyN.ok fun cdv A outer s H vs Q E hr h => ?_)
  · obtain ⟨_, _, _, _, _, rfl, _⟩ := h
    rfl
  · obtain ⟨p, v, par, len, wt, rfl, hT, hV, O, W, k⟩ := h
    refine ⟨_, (pss_cons (ps_expr (pe_fn d_check_weights (hr.mono (by decide)) rfl (pa_cons (pv 0) (pa_cons (pv 1) pa_nil))))
    (pss_cons (ps_set (i := 2) sc_best_set.nd rfl (Or.inl rfl) (pe_listRg rfl rfl T.list (prg_2 rfl T.range pe_int (pe_op op_add (pe_fld (pe_fld (pv 0) rfl) rfl) pe_int))))
    (pss_cons (ps_set (i := 3) sc_best_set.nd rfl (Or.inl rfl) pe_bl)
    (pss_cons (ps_while PassesOwn.never (pt_val (pv 3)) (pss_cons (ps_set (i := 4) sc_best_set.nd rfl (Or.inl rfl) (pe_fn d_price_terms (hr.mono (by decide)) rfl (pa_cons (pv 0) (pa_cons (pv 1) (pa_cons (pe_mth (pv 0) T.clT d_total (hr.mono (by decide)) (pa_cons (pv 1) (pa_cons (pv 2) pa_nil))) (pa_cons (pe_mth (pv 0) T.clT d_total (hr.mono (by decide)) (pa_cons (pe_fld (pv 0) rfl) (pa_cons (pv 2) pa_nil))) pa_nil))))))
    (pss_cons (ps_set (i := 3) sc_best_set.nd rfl (Or.inl rfl) (pe_fn d_some_gain (hr.mono (by decide)) rfl (pa_cons (pv 0) (pa_cons (pv 4) pa_nil))))
    (pss_one (ps_set (i := 2) sc_best_set.nd rfl (Or.inl rfl) (pe_fn d_greatest_set (hr.mono (by decide)) rfl (pa_cons (pv 0) (pa_cons (pv 4) pa_nil))))))))
    (pss_one (ps_ret (pe_tup (pa_cons (pe_mth (pv 0) T.clT d_total (hr.mono (by decide)) (pa_cons (pv 1) (pa_cons (pv 2) pa_nil))) (pa_cons (pe_mth (pv 0) T.clT d_total (hr.mono (by decide)) (pa_cons (pe_fld (pv 0) rfl) (pa_cons (pv 2) pa_nil))) (pa_cons (pv 2) pa_nil)))))))))), ?_⟩
    have wl := W.wl
    have ll := O.ll
    have n8 := O.n8
    have l0 : ∀ v ∈ len, 0 ≤ v ∧ v ≤ 999 := fun v hv => by have := O.lb v hv; omega
    have hTc := hT
    obtain ⟨dx, sh, lt, dx2, pt, ab, hTA⟩ := hTc
    refine q_drop (ev_fn (ea_cons (ev_var rfl) (ea_cons (ev_var rfl) ea_nil)) (sv_check hT hV (by omega) (wok_wrong W))) fun H1 e1 => ?_
    -- walls = list(range(1, size + 1))
    refine q_asgL (xs := ils (walls par.length)) (el_is (el_rg2 ev_c (ev_op (ev_size T (hTA.ex e1) (ev_var rfl)) ev_c rv_I0) (RgOk.of_le (by omega) (by omega) (by omega) (by omega))) (rg_walls _)) fun q0 H2 hq0 e2 hq => ?_
    have cA := KM.Cl.all O.tr
    have neA : walls par.length ≠ [] := fun q => by
      have := KM.walls_length par.length
      rw [q] at this
      have := O.tr.pos
      simp at *
      omega
    refine q_asg ev_c fun H3 e3 => ?_
    have e13 := e1.trans (e2.trans e3)
    refine q_while (BestI K par len wt p v H) (KM.cnt 8000 8000 (tot wt (walls par.length)) (tot len (walls par.length)) + 1) ⟨walls par.length, q0, true, none, rfl, e13, e3 _ _ hq, fun _ => ⟨cA, neA, rfl⟩, fun c => by cases c⟩ ?_
    rintro m σ' H' ⟨ws, q, bb, u, rfl, e, hws, h1, h2⟩
    refine ⟨bb, et_B (ev_var rfl), fun hb H4 e4 => ?_, fun hb H4 e4 => ?_⟩
    · obtain ⟨hC, hne, hm⟩ := h1 hb
      subst hb
      refine ⟨fun σ2 H2 => ∃ m', m' < m ∧ BestI K par len wt p v H m' σ2 H2, fun _ _ h => h, ?_⟩
      have ee := e.trans e4
      have hT4 := hT.ex ee
      have hV4 := hV.ex ee
      have hTA4 := hTA.ex ee
      have hq4 : SqL K H4 q (ils ws) := sq_of (e4 _ _ hws)
      refine q_asgL (xs := ils (KM.terms par len wt (tot wt ws) (tot len ws))) (el_fn (ea_cons (ev_var rfl) (ea_cons (ev_var rfl) (ea_cons (ev_meth (vs := [.ref v, .ref q]) (ev_var rfl) hTA4.o (lk_total ..) (ea_cons (ev_var rfl) (ea_cons (ev_var rfl) ea_nil)) (sv_total hT4 hV4 hq4 hC.rng (by omega) hC.nd n8))
        (ea_cons (ev_meth (vs := [.ref lt, .ref q]) (ev_var rfl) hTA4.o (lk_total ..) (ea_cons (ev_lengths T hTA4 (ev_var rfl)) (ea_cons (ev_var rfl) ea_nil)) (sv_total hT4 (.inr hTA4.lT) hq4 hC.rng (by omega) hC.nd n8)) ea_nil))))
        (fun H5 e5 Q1 q1 E1 => ⟨p, v, par, len, wt, _, _, rfl, hT4.ex e5, hV4.ex e5, O, W, q1⟩)) fun t H5 ht0 e5 ht => ?_
      have tl := KM.terms_length par len wt (tot wt ws) (tot len ws)
      have tb := KM.turn_best (len := len) (wt := wt) O.tr (fun v hv => (O.lb v hv).1) ll hC hne
      have tm := KM.turn_more (len := len) (wt := wt) (W := ws) O.tr
      have gC := KM.gset_cl O.tr (KM.terms par len wt (tot wt ws) (tot len ws))
      generalize hR : KM.terms par len wt (tot wt ws) (tot len ws) = R at *
      refine q_asg (v := .bl (KM.gain par R)) (ev_fn (ea_cons (ev_var rfl) (ea_cons (ev_var rfl) ea_nil)) (fun H6 e6 Q1 q1 E1 => ⟨p, t, par, len, R, rfl, hT4.ex (e5.trans e6), sq_of (e6 _ _ ht), tl, n8, q1⟩)) fun H6 e6 => ?_
      refine s_asgL (xs := ils (KM.gset par R par.length)) (el_fn (ea_cons (ev_var rfl) (ea_cons (ev_var rfl) ea_nil)) (fun H7 e7 Q1 q1 E1 => ⟨p, t, par, len, R, rfl, hT4.ex (e5.trans (e6.trans e7)), sq_of (e7 _ _ (e6 _ _ ht)), tl, n8, q1⟩)) fun r H7 hr0 e7 hr => ?_
      cases hg : KM.gain par R with
      | true =>
        obtain ⟨t1, t2⟩ := tm hg
        have b1 := tot_bound (vs := wt) W.wb (by decide) (ws := KM.gset par R par.length) (by have := KM.cl_length gC; omega)
        have b2 := tot_bound (vs := len) l0 (by decide) (ws := KM.gset par R par.length) (by have := KM.cl_length gC; omega)
        have p1 := KM.tot_pos (fun v hv => (O.lb v hv).1) ll hC hne
        have p2 := KM.tot_pos (fun v hv => (O.lb v hv).1) ll gC t1
        refine ⟨KM.cnt 8000 8000 (tot wt (KM.gset par R par.length)) (tot len (KM.gset par R par.length)) + 1, ?_, KM.gset par R par.length, r, true, _, rfl, ee.trans (e5.trans (e6.trans e7)), hr, fun _ => ⟨gC, t1, rfl⟩, fun c => by cases c⟩
        rw [hm]
        have := KM.cnt_lt (A := 8000) (B := 8000) b1.1 (by omega) p1 p2 (by omega) t2
        omega
      | false =>
        exact ⟨0, by omega, KM.gset par R par.length, r, false, _, rfl, ee.trans (e5.trans (e6.trans e7)), hr, (fun c => by cases c), fun _ => tb hg⟩
    · have hB := h2 hb
      subst hb
      have hC := hB.cl
      have ee := e.trans e4
      have hT4 := hT.ex ee
      have hV4 := hV.ex ee
      have hTA4 := hTA.ex ee
      have hq4 : SqL K H4 q (ils ws) := sq_of (e4 _ _ hws)
      refine s_retU (eu_tup (ea_cons (ev_meth (vs := [.ref v, .ref q]) (ev_var rfl) hTA4.o (lk_total ..) (ea_cons (ev_var rfl) (ea_cons (ev_var rfl) ea_nil)) (sv_total hT4 hV4 hq4 hC.rng (by omega) hC.nd n8))
        (ea_cons (ev_meth (vs := [.ref lt, .ref q]) (ev_var rfl) hTA4.o (lk_total ..) (ea_cons (ev_lengths T hTA4 (ev_var rfl)) (ea_cons (ev_var rfl) ea_nil)) (sv_total hT4 (.inr hTA4.lT) hq4 hC.rng (by omega) hC.nd n8)) (ea_cons (ev_var rfl) ea_nil))) (by show 3 ≤ 100000; decide)) fun t H5 ht0 e5 ht => ?_
      exact k ws hB t q H5 (ee.trans e5) (fresh_back ee ht0) ht (e5 _ _ (e4 _ _ hws))
end
end K61
/-! Shape.__init__, Tunnels.__init__ -/
namespace K61
open PySem PySem.Spec PyProof.Rows L2 Evl
open KM (nth tot walls)
/-- all but the object at x stay -/
def ExB (x : Addr) (H H' : Hp) : Prop := ∀ y o, y ≠ x → H y = some o → H' y = some o
theorem Ex.exb {H H' : Hp} {x : Addr} (e : Ex H H') : ExB x H H' := fun y o _ h => e y o h
theorem ExB.trans {H H1 H2 : Hp} {x : Addr} (a : ExB x H H1) (b : ExB x H1 H2) : ExB x H H2 := fun y o n h => b y o n (a y o n h)
theorem ExB.upd {H : Hp} {x : Addr} {o : HO} : ExB x H (L2.upd H x o) := fun y u n h => by rw [upd_ne n]; exact h
section
variable {K : PySem.W.Frag} {H H' : Hp} {σ : L2.St} {ta tb te tv : TE} {tt : TT} {D : Ends} {tu tz : TS}
theorem eu_tupL {p : Addr} {xs : List V} (ha : Ev ta σ H (.ref p)) (h : SqL K H p xs) :
    EvU (tCB (fun xs H Q => ∃ p ys, xs = [.ref p] ∧ ((SqL K H p ys ∧ ∀ l, H l = none → Q (.ref l) (upd H l (.tup ys))) ∨ (SqT K H p ys ∧ Q (.ref p) H))) (tCons ta tNil)) σ H xs := fun H1 e Q q =>
  ha H1 e _ fun H2 e2 => ⟨p, xs, rfl, .inl ⟨ex_l (e.trans e2) h, fun l hl => q l _ (fresh_back e2 hl) (e2.trans (Ex.new hl)) upd_same⟩⟩
theorem q_asgLU {i : Nat} {xs : List V} (h : EvU te σ H xs) (k : ∀ t p H1, H p = none → Ex H H1 → H1 t = some (.tup xs) → H1 p = some (.lst [.ref t]) → tz D (σ.set i (some (.ref p))) H1) : tSeq (tAsg (tLst (tCons te tNil)) (gName i)) tz D σ H :=
  h H (Ex.refl H) _ fun t H1 ht e1 h1 => ⟨by show 1 ≤ sizeLine; decide, fun p hp => k t p _ (fresh_back e1 hp) (e1.trans (Ex.new hp)) (Ex.new hp _ _ h1) upd_same⟩
theorem et_truT {a : Addr} {xs : List V} (ha : Ev ta σ H (.ref a)) (h : SqT K H a xs) : EvT (fun σ H Q => ta σ H fun x H' => ∃ k, TruV K x H' k ∧ Q k H') σ H (!xs.isEmpty) := fun H1 e Q q =>
  ha H1 e _ fun H2 e2 => ⟨!xs.isEmpty, .inr (.inl ⟨xs, ex_t (e.trans e2) h, rfl⟩), q H2 e2⟩
theorem s_fld {a C dx : Addr} {fs : List (Str × V)} {f : Str} {v : V} (hv : Ev tv σ H v) (ha : Ev ta σ H (.ref a)) (ho : H a = some (.ins C dx fs)) (hc : Cls K C) (hn : NoAttr K C f) (hl : fs.length < 1000)
    (k : ∀ H1, Ex H H1 → D.nx σ (upd H1 a (.ins C dx (putF f v fs)))) : sFld K ta tv f D σ H := hv H (Ex.refl H) _ fun H1 e1 => ha H1 e1 _ fun H2 e2 =>
  ⟨a, C, dx, fs, rfl, e2 _ _ (e1 _ _ ho), hc, hn, hl, k H2 (e1.trans e2)⟩
theorem q_fld {a C dx : Addr} {fs : List (Str × V)} {f : Str} {v : V} (hv : Ev tv σ H v) (ha : Ev ta σ H (.ref a)) (ho : H a = some (.ins C dx fs)) (hc : Cls K C) (hn : NoAttr K C f) (hl : fs.length < 1000)
    (k : ∀ H1, Ex H H1 → tz D σ (upd H1 a (.ins C dx (putF f v fs)))) : tSeq (sFld K ta tv f) tz D σ H := s_fld (D := { D with nx := tz D }) hv ha ho hc hn hl k
theorem q_fldM {i : Nat} {a C dx : Addr} {fs : List (Str × V)} {f : Str} {Pm : Addr → Hp → Prop} (hv : ∀ H1, Ex H H1 → ∀ Q : VK, (∀ x H2, H1 x = none → Ex H1 H2 → Pm x H2 → Q (.ref x) H2) → tv σ H1 Q) (hi : σ[i]? = some (some (.ref a))) (ho : H a = some (.ins C dx fs)) (hc : Cls K C) (hn : NoAttr K C f) (hl : fs.length < 1000)
    (k : ∀ p H1, H p = none → Ex H H1 → Pm p H1 → tz D σ (upd H1 a (.ins C dx (putF f (.ref p) fs)))) : tSeq (sFld K (tVar i) tv f) tz D σ H := hv H (Ex.refl H) _ fun p H1 hp e1 h1 =>
  ⟨_, hi, a, C, dx, fs, rfl, e1 _ _ ho, hc, hn, hl, k p H1 hp e1 h1⟩
theorem s_fldU {a C dx : Addr} {fs : List (Str × V)} {f : Str} {xs : List V} (hv : EvU tv σ H xs) (ha : ∀ H1, Ex H H1 → Ev ta σ H1 (.ref a)) (ho : H a = some (.ins C dx fs)) (hc : Cls K C) (hn : NoAttr K C f) (hl : fs.length < 1000)
    (k : ∀ p H1, H p = none → Ex H H1 → H1 p = some (.tup xs) → D.nx σ (upd H1 a (.ins C dx (putF f (.ref p) fs)))) : sFld K ta tv f D σ H := hv H (Ex.refl H) _ fun p H1 hp e1 h1 => ha H1 e1 H1 (Ex.refl H1) _ fun H2 e2 =>
  ⟨a, C, dx, fs, rfl, e2 _ _ (e1 _ _ ho), hc, hn, hl, k p H2 hp (e1.trans e2) (e2 _ _ h1)⟩
end
section
variable {P : Program} {w : World} {K : PySem.W.Frag} {mg : Str → Option Value} {base : Heap} {f : Addr} {fd : FuncData}
abbrev s_Shape_init : Stmt := inClass (top 10) 0
abbrev n_Shape_init : List Str := ["self", "parents", "listed", "above", "place"]
theorem sc_Shape_init : FnScope n_Shape_init ["self", "parents"] (defScope s_Shape_init) := ⟨rfl, rfl, rfl, by decide +kernel, rfl, by decide +kernel, by decide +kernel⟩
theorem b_Shape_init : BindsOk "__init__" "Shape.__init__" s_Shape_init ["self", "parents"] := fun _ _ _ _ _ _ us hl => match us, hl with | [_, _], _ => rfl
def spShape (K : PySem.W.Frag) : Sp := fun vs H Q _ => ∃ (x a dx : Addr) (par : List Int), vs = [.ref x, .ref a] ∧ H x = some (.ins (He.ga K "Shape") dx []) ∧ SqL K H a (ils par) ∧ KM.Tree par ∧ par.length ≤ 8 ∧
  (∀ pt ab H', ExB x H H' → H' x = some (.ins (He.ga K "Shape") dx (shFs pt par.length ab)) → H' pt = some (.tup (ils par)) → Q .non H')
def ShI (x a lt ab : Addr) (H : Hp) (i : Nat) (σ' : L2.St) (H' : Hp) : Prop := (∃ u, σ' = [some (.ref x), some (.ref a), some (.ref lt), some (.ref ab), u]) ∧ Ex H H' ∧ ∃ vs : List V, H' ab = some (.lst vs) ∧ vs.length = i + 1 ∧ ∀ j v, vs[j]? = some v → ∃ t xs, v = .ref t ∧ H' t = some (.tup xs) ∧ xs.length ≤ j
theorem atI_at {xs : List V} {i : Nat} {v : V} (h : xs[i]? = some v) : atI xs (i : Int) = some v := by
  have hi : i < xs.length := (List.getElem?_eq_some_iff.mp h).1
  unfold atI
  rw [ixN_nat hi]
  exact h
theorem ok_Shape_init (T : Txt K mg) (mk : Mk K (He.ga K "Shape") f) (gS : mg "Shape" = some (.ref (He.ga K "Shape"))) (F : FnP K "__init__" "Shape.__init__" s_Shape_init f fd) : Mkr P w K mg base 1 "Shape" (He.ga K "Shape") ["self", "parents"] (spShape K) := by
  refine mkr_of F mk gS sc_Shape_init b_Shape_init (fun vs H Q E h => ?_) (BodyN.ok fun cdv A outer s H vs Q E hr h => ?_)
  · obtain ⟨_, _, _, _, rfl, _⟩ := h
    rfl
  · obtain ⟨x, a, dx, par, rfl, hx, hS, hT, h8, k⟩ := h
    refine ⟨_, (pss_cons (ps_set (i := 2) sc_Shape_init.nd rfl (Or.inl rfl) (pe_callTy call_tuple_of rfl T.tuple (by decide +kernel) (pa_cons (pv 1) pa_nil)))
    (pss_cons (ps_if (pt_not (pt_truth (pv 2) (by intro _; rfl))) (pss_one ps_never) pss_nil)
    (pss_cons (ps_set (i := 3) sc_Shape_init.nd rfl (Or.inl rfl) (pe_lst (pa_cons (pe_tup pa_nil) pa_nil)))
    (pss_cons (ps_for PassesOwn.never rfl (pi_range1 rfl T.range (pa_cons (pe_callB call_len_seq rfl T.len PySem.boot_len (pa_cons (pv 2) pa_nil)) pa_nil)) (pg_name (i := 4) sc_Shape_init.nd rfl (Or.inl rfl)) (pss_cons (ps_if (PW.pt (pw_or (pt_cmpR op_lt (pe_ix ix_tup (pv 2) (pv 4) (fun _ _ => rfl)) pe_int (nomark _)) (pw_or1 (pt_cmpR op_gt (pe_ix ix_tup (pv 2) (pv 4) (fun _ _ => rfl)) (pv 4) (nomark _))))) (pss_one ps_never) pss_nil)
    (pss_one (ps_expr (pe_bm PySem.F.plainAttrs_list PySem.F.slot_list_append PySem.F.type_list_append mt_append (pv 3) (pa_cons (pe_op op_catA (pe_ix ix_list (pv 3) (pe_ix ix_tup (pv 2) (pv 4) (fun _ _ => rfl)) (fun _ _ => rfl)) (pe_tup (pa_cons (pe_op op_add (pv 4) pe_int) pa_nil))) pa_nil))))))
    (pss_cons (ps_fld (pv 0) (pv 2) rfl)
    (pss_cons (ps_fld (pv 0) (pe_callB call_len_seq rfl T.len PySem.boot_len (pa_cons (pv 2) pa_nil)) rfl)
    (pss_one (ps_fld (pv 0) (pe_callTy call_tuple_of rfl T.tuple (by decide +kernel) (pa_cons (pv 3) pa_nil)) rfl)))))))), ?_⟩
    have hpos := hT.pos
    refine q_asgU (eu_tupL (ev_var rfl) hS) fun lt H1 hlt0 e1 hlt => ?_
    have ne : (ils par).isEmpty = false := by
      cases par with
      | nil => simp at hpos
      | cons _ _ => rfl
    refine q_when (b := false) (et_is (et_not (et_truT (ev_var rfl) (st_of hlt))) (by rw [ne]; rfl)) (fun c => by cases c) fun _ H2 e2 => ?_
    refine q_asgLU (eu_tup ea_nil (by decide)) fun t0 ab H3 hab e3 ht hab3 => ?_
    have lt3 : H3 lt = some (.tup (ils par)) := e3 _ _ (e2 _ _ hlt)
    refine q_forR1 (n := (par.length : Int)) (ea_cons (ev_is (ev_lenT (ev_var rfl) (st_of lt3)) (by rw [ils_length])) ea_nil) (by omega) (ShI x a lt ab H1) (fun H5 e5 => ⟨⟨_, rfl⟩, e2.trans (e3.trans e5), [.ref t0], e5 _ _ hab3, rfl, ?_⟩) ?_ ?_
    · intro j v hj
      have hj0 : j = 0 := by
        have := (List.getElem?_eq_some_iff.mp hj).1
        simpa using this
      subst hj0
      obtain rfl := Option.some.inj hj
      exact ⟨t0, [], rfl, e5 _ _ ht, Nat.zero_le _⟩
    · rintro i σ' H' hi ⟨⟨u, rfl⟩, e, vs, hvs, hvl, hvt⟩
      have hi' : i < par.length := by omega
      have hp := hT.ok i hi'
      have lt' : H' lt = some (.tup (ils par)) := e _ _ hlt
      refine q_when (b := false) (et_is (et_or (et_lt (ev_op (ev_var rfl) (ev_var rfl) (rv_ixT (st_of lt') (at_ils hi'))) ev_c) (fun _ => et_gt (ev_op (ev_var rfl) (ev_var rfl) (rv_ixT (st_of lt') (at_ils hi'))) (ev_var rfl))) ?_) (fun c => by cases c) fun _ H5 e5 => ?_
      · rw [decide_eq_false (by omega), decide_eq_false (by omega)]
        rfl
      have eb : par.getD i 0 = (((par.getD i 0).toNat : Nat) : Int) := by omega
      have hb : (par.getD i 0).toNat < vs.length := by rw [hvl]; omega
      obtain ⟨t, xs, hvt1, hvt2, hvt3⟩ := hvt _ _ (List.getElem?_eq_getElem hb)
      have hAt : atI vs (par.getD i 0) = some (.ref t) := by
        rw [eb, atI_at (List.getElem?_eq_getElem hb), hvt1]
      have hab1 : H1 ab = none := fresh_back e2 hab
      have hcat : ∀ Q : VK, (∀ t' ys H6, Ex H5 H6 → H6 t' = some (.tup ys) → ys.length ≤ i + 1 → Q (.ref t') H6) →
          tOp (rCatA K) (tOp (rIxL K) (tVar 3) (tOp (rIxT K) (tVar 2) (tVar 4))) (tTup (tCons (tOp (rI0 fun i j => .int (i + j)) (tVar 4) (tC (.int 1))) tNil)) [some (.ref x), some (.ref a), some (.ref lt), some (.ref ab), some (.int (i : Int))] H5 Q := fun Q q => by
        refine ev_op (z := .ref t) (ev_var rfl) (ev_op (ev_var rfl) (ev_var rfl) (rv_ixT (st_of (e5 _ _ lt')) (at_ils hi'))) (rv_ixL (sq_of (e5 _ _ hvs)) hAt) H5 (Ex.refl H5) _ fun H6 e6 => ?_
        refine eu_tup (vs := [.int ((i : Int) + 1)]) (ea_cons (ev_op (ev_var rfl) ev_c rv_I0) ea_nil) (by show 1 ≤ 100000; decide) H6 e6 _ fun p H7 hp0 e7 hp7 => ?_
        have ht7 := e7 _ _ (e6 _ _ (e5 _ _ hvt2))
        refine ⟨t, p, xs, _, rfl, rfl, st_of ht7, st_of hp7, sz_of (by show xs.length + 1 ≤ 100000; omega), fun _ => q p _ H7 (e6.trans e7) hp7 (by show 1 ≤ i + 1; omega), fun _ c => (by cases c), fun _ _ r hr0 => q r (xs ++ [.int ((i : Int) + 1)]) _ ((e6.trans e7).trans (Ex.new hr0)) upd_same (by rw [List.length_append]; show xs.length + 1 ≤ i + 1; omega)⟩
      refine ⟨.ref ab, rfl, Or.inl ⟨rfl, vs, sq_of (e5 _ _ hvs)⟩, hcat _ fun t' ys H6 e6 ht' hys => ⟨ab, vs, .ref t', rfl, rfl, e6 _ _ (e5 _ _ hvs), sz_lt (by omega), ⟨_, rfl⟩, Ex.mut (e.trans (e5.trans e6)) hab1, vs ++ [.ref t'], upd_same, by rw [List.length_append, hvl]; rfl, fun j v hj => ?_⟩⟩
      have back : ∀ t xs, (upd H6 ab (.lst (vs ++ [.ref t']))) t = some (.tup xs) ↔ (t ≠ ab ∧ H6 t = some (.tup xs)) := fun t xs => by
        by_cases c : t = ab
        · subst c
          rw [upd_same]
          simp
        · rw [upd_ne c]
          simp [c]
      have abne : ∀ t xs, H6 t = some (.tup xs) → t ≠ ab := fun t xs h c => by
        subst c
        rw [e6 _ _ (e5 _ _ hvs)] at h
        cases h
      by_cases hjl : j < vs.length
      · rw [List.getElem?_append_left hjl] at hj
        obtain ⟨t2, xs2, q1, q2, q3⟩ := hvt j v hj
        exact ⟨t2, xs2, q1, (back _ _).mpr ⟨abne _ _ (e6 _ _ (e5 _ _ q2)), e6 _ _ (e5 _ _ q2)⟩, q3⟩
      · have hj2 := (List.getElem?_eq_some_iff.mp hj).1
        rw [List.length_append] at hj2
        have hj3 : j = vs.length := by
          simp at hj2
          omega
        subst hj3
        rw [List.getElem?_append_right (Nat.le_refl _), Nat.sub_self] at hj
        obtain rfl := Option.some.inj hj
        exact ⟨t', ys, rfl, (back _ _).mpr ⟨abne _ _ ht', ht'⟩, by omega⟩
    · rintro σ' H' ⟨⟨u, rfl⟩, e, vs, hvs, hvl, hvt⟩
      have ee := e1.trans e
      have lt' : H' lt = some (.tup (ils par)) := e _ _ hlt
      have xlt : lt ≠ x := fun c => by
        subst c
        rw [hlt0] at hx
        cases hx
      refine q_fld (ev_var rfl) (ev_var rfl) (ee _ _ hx) T.clS T.sP (by decide) fun H5 e5 => ?_
      have lt5 : (upd H5 x (.ins (He.ga K "Shape") dx (putF "parents" (.ref lt) []))) lt = some (.tup (ils par)) := by
        rw [upd_ne xlt]
        exact e5 _ _ lt'
      refine q_fld (ev_lenT (ev_var rfl) (st_of lt5)) (ev_var rfl) upd_same T.clS T.sZ (by show 1 < 1000; decide) fun H6 e6 => ?_
      have abx : ab ≠ x := fun c => by
        subst c
        rw [ee _ _ hx] at hvs
        cases hvs
      have hab6 : (upd H6 x (.ins (He.ga K "Shape") dx (putF "size" (.int ((ils par).length : Int)) (putF "parents" (.ref lt) [])))) ab = some (.lst vs) := by
        rw [upd_ne abx]
        refine e6 _ _ ?_
        rw [upd_ne abx]
        exact e5 _ _ hvs
      refine s_fldU (eu_tupL (ev_var rfl) (sq_of hab6)) (fun _ _ => ev_var rfl) upd_same T.clS T.sA (by show 2 < 1000; decide) fun p H7 hp0 e7 hp7 => ?_
      refine k lt p _ ?_ ?_ ?_
      · exact ((((Ex.exb (ee.trans e5)).trans ExB.upd).trans ((Ex.exb e6).trans ExB.upd)).trans (Ex.exb e7)).trans ExB.upd
      · rw [upd_same, ils_length]
        have h1 : ¬ ("parents" : Str) = ("size" : Str) := by decide +kernel
        have h2 : ¬ ("parents" : Str) = ("above" : Str) := by decide +kernel
        have h3 : ¬ ("size" : Str) = ("above" : Str) := by decide +kernel
        simp [putF, shFs, h1, h2, h3]
      · rw [upd_ne xlt]
        refine e7 _ _ ?_
        rw [upd_ne xlt]
        exact e6 _ _ lt5
def ShAt (K : PySem.W.Frag) (H : Hp) (x : Addr) (par : List Int) : Prop := ∃ dx2 pt ab, H x = some (.ins (He.ga K "Shape") dx2 (shFs pt par.length ab)) ∧ H pt = some (.tup (ils par))
theorem mk_shape {t : TA} {σ : L2.St} {H : Hp} {a : Addr} {par : List Int} (ha : EvA t σ H [.ref a]) (hS : SqL K H a (ils par)) (hT : KM.Tree par) (h8 : par.length ≤ 8) : ∀ H1, Ex H H1 → ∀ Q : VK, (∀ x H2, H1 x = none → Ex H1 H2 → ShAt K H2 x par → Q (.ref x) H2) →
    tMake (He.ga K "Shape") (spShape K) [] E0 t σ H1 Q := fun H1 e1 Q q => ha H1 e1 _ fun H2 e2 x dx hx hdx hne => by
  have eU : Ex H2 (upd (upd H2 dx (.own x)) x (.ins (He.ga K "Shape") dx [])) := by
    refine (Ex.new hdx).trans (Ex.new ?_)
    rw [upd_ne (Ne.symm hne)]
    exact hx
  refine ⟨x, a, dx, par, rfl, upd_same, ex_l (e1.trans (e2.trans eU)) hS, hT, h8, fun pt ab H' eb h1 h2 => ⟨rfl, q x H' (fresh_back e2 hx) (fun y o hy => ?_) ⟨dx, pt, ab, h1, h2⟩⟩⟩
  refine eb y o (fun c => ?_) (eU _ _ (e2 _ _ hy))
  subst c
  rw [e2 _ _ hy] at hx
  cases hx
abbrev s_Tunnels_init : Stmt := inClass (top 16) 0
abbrev n_Tunnels_init : List Str := ["self", "parents", "lengths", "place"]
theorem sc_Tunnels_init : FnScope n_Tunnels_init ["self", "parents", "lengths"] (defScope s_Tunnels_init) := ⟨rfl, rfl, rfl, by decide +kernel, rfl, by decide +kernel, by decide +kernel⟩
theorem b_Tunnels_init : BindsOk "__init__" "Tunnels.__init__" s_Tunnels_init ["self", "parents", "lengths"] := fun _ _ _ _ _ _ us hl => match us, hl with | [_, _, _], _ => rfl
theorem ShAt.ex {H H' : Hp} {x : Addr} {par : List Int} (e : Ex H H') (h : ShAt K H x par) : ShAt K H' x par := by
  obtain ⟨a, b, c, h1, h2⟩ := h
  exact ⟨a, b, c, e _ _ h1, e _ _ h2⟩
theorem ShAt.exb {H H' : Hp} {x y C dy : Addr} {fs : List (Str × V)} {par : List Int} (e : ExB y H H') (n : x ≠ y) (hy : H y = some (.ins C dy fs)) (h : ShAt K H x par) : ShAt K H' x par := by
  obtain ⟨a, b, c, h1, h2⟩ := h
  refine ⟨a, b, c, e _ _ n h1, e _ _ (fun q => ?_) h2⟩
  subst q
  rw [hy] at h2
  cases h2
def spTun (K : PySem.W.Frag) : Sp := fun vs H Q _ => ∃ (x a b dx : Addr) (par len : List Int), vs = [.ref x, .ref a, .ref b] ∧ H x = some (.ins (He.ga K "Tunnels") dx []) ∧ SqL K H a (ils par) ∧ SqL K H b (ils len) ∧ Ok par len ∧
  (∀ sh lt H', ExB x H H' → H' x = some (.ins (He.ga K "Tunnels") dx (tuFs sh lt)) → ShAt K H' sh par → H' lt = some (.tup (ils len)) → Q .non H')
theorem exb_l {H H' : Hp} {x C dx p : Addr} {fs : List (Str × V)} {xs : List V} (e : ExB x H H') (hx : H x = some (.ins C dx fs)) (h : SqL K H p xs) : SqL K H' p xs := by
  have go : ∀ u : HO, Rd H p u → (∀ C dx fs, u ≠ .ins C dx fs) → Rd H' p u := fun u hu hne => by
    rcases hu with h | h
    · refine Or.inl (e _ _ (fun c => ?_) h)
      subst c
      rw [hx] at h
      exact hne _ _ _ (Option.some.inj h).symm
    · obtain ⟨o, h⟩ := h
      refine Or.inr ⟨o, e _ _ (fun c => ?_) h⟩
      subst c
      rw [hx] at h
      cases h
  rcases h with h | h
  · exact Or.inl (go _ h fun _ _ _ c => by cases c)
  · exact Or.inr h
theorem ok_Tunnels_init (T : Txt K mg) (d_Shape_init : Mkr P w K mg base 1 "Shape" (He.ga K "Shape") ["self", "parents"] (spShape K)) (d_wrong_item : Dfn P w K mg base 1 "wrong_item" ["values", "least", "many"] (spWrong K))
    (mk : Mk K (He.ga K "Tunnels") f) (gS : mg "Tunnels" = some (.ref (He.ga K "Tunnels"))) (F : FnP K "__init__" "Tunnels.__init__" s_Tunnels_init f fd) : Mkr P w K mg base 3 "Tunnels" (He.ga K "Tunnels") ["self", "parents", "lengths"] (spTun K) := by
  refine mkr_of F mk gS sc_Tunnels_init b_Tunnels_init (fun vs H Q E h => ?_) (BodyN.ok fun cdv A outer s H vs Q E hr h => ?_)
  · obtain ⟨_, _, _, _, _, _, rfl, _⟩ := h
    rfl
  · obtain ⟨x, a, b, dx, par, len, rfl, hx, hA, hB, O, k⟩ := h
    refine ⟨_, (pss_cons (ps_fld (pv 0) (pe_mk d_Shape_init (hr.mono (by decide)) rfl (pa_cons (pv 1) pa_nil)) rfl)
    (pss_cons (ps_set (i := 3) sc_Tunnels_init.nd rfl (Or.inl rfl) (pe_fn d_wrong_item (hr.mono (by decide)) rfl (pa_cons (pv 2) (pa_cons pe_int (pa_cons (pe_fld (pe_fld (pv 0) rfl) rfl) pa_nil)))))
    (pss_cons (ps_if (pt_cmpR op_notN (pv 3) pe_non (nomark _)) (pss_one ps_never) pss_nil)
    (pss_one (ps_fld (pv 0) (pe_callTy call_tuple_of rfl T.tuple (by decide +kernel) (pa_cons (pv 2) pa_nil)) rfl))))), ?_⟩
    have ll := O.ll
    have n8 := O.n8
    refine q_fldM (mk_shape (ea_cons (ev_var rfl) ea_nil) hA O.tr O.n8) rfl hx T.clT T.tS (by decide) fun sh H1 hsh0 e1 hSh => ?_
    have shx : sh ≠ x := fun c => by
      subst c
      rw [hsh0] at hx
      cases hx
    have hSh2 : ShAt K (upd H1 x (.ins (He.ga K "Tunnels") dx (putF "shape" (.ref sh) []))) sh par := hSh.exb ExB.upd shx (e1 _ _ hx)
    have hB2 : SqL K (upd H1 x (.ins (He.ga K "Tunnels") dx (putF "shape" (.ref sh) []))) b (ils len) := exb_l ExB.upd (e1 _ _ hx) (ex_l e1 hB)
    have eb2 : ExB x H (upd H1 x (.ins (He.ga K "Tunnels") dx (putF "shape" (.ref sh) []))) := (Ex.exb e1).trans ExB.upd
    have hx2 : (upd H1 x (.ins (He.ga K "Tunnels") dx (putF "shape" (.ref sh) []))) x = some (.ins (He.ga K "Tunnels") dx (putF "shape" (.ref sh) [])) := upd_same
    generalize upd H1 x (.ins (He.ga K "Tunnels") dx (putF "shape" (.ref sh) [])) = H2 at *
    have hSh2c := hSh2
    obtain ⟨dx2, pt, ab, hs1, hs2⟩ := hSh2c
    have hw : wrong len 1 par.length = none := by
      unfold wrong
      have : len.findIdx? (fun v => decide (v < 1)) = none := by
        rw [List.findIdx?_eq_none_iff]
        intro x hx
        have := (O.lb x hx).1
        simpa using this
      rw [this]
      show (if _ then _ else _) = _
      rw [if_pos (by rw [O.ll])]
    refine q_asg (v := .non) (ev_is (ev_fn (ea_cons (ev_var rfl) (ea_cons ev_c (ea_cons (ev_fld (ev_fld (ev_var rfl) hx2 T.clT T.tS (by simp [putF, List.lookup])) hs1 T.clS T.sZ (lk_size ..)) ea_nil))) (fun H3 e Q1 q1 E1 => ⟨b, len, 1, par.length, rfl, .inl (ex_l e hB2), by omega, q1⟩)) (by rw [hw]; rfl)) fun H3 e3 => ?_
    refine q_when (b := false) (et_is (et_test (ev_op (ev_var rfl) ev_c rv_notN)) (by rfl)) (fun c => by cases c) fun _ H4 e4 => ?_
    have e34 := e3.trans e4
    refine s_fldU (eu_tupL (ev_var rfl) (ex_l e34 hB2)) (fun _ _ => ev_var rfl) (e34 _ _ hx2) T.clT T.tL (by show 1 < 1000; decide) fun lt H5 hlt0 e5 hlt => ?_
    have ltx : lt ≠ x := fun c => by
      subst c
      rw [e34 _ _ hx2] at hlt0
      cases hlt0
    refine k sh lt _ ?_ ?_ ?_ ?_
    · exact (eb2.trans (Ex.exb (e34.trans e5))).trans ExB.upd
    · rw [upd_same]
      have h1 : ¬ ("shape" : Str) = ("lengths" : Str) := by decide +kernel
      simp [putF, tuFs, h1]
    · exact (hSh2.ex (e34.trans e5)).exb ExB.upd shx ((e34.trans e5) _ _ hx2)
    · rw [upd_ne ltx]
      exact hlt
theorem el_mkTun {t : TA} {σ : L2.St} {H : Hp} {par len : List Int} (ha : ∀ H1, Ex H H1 → ∀ Q : List V → Hp → Prop, (∀ a b H2, Ex H1 H2 → SqL K H2 a (ils par) → SqL K H2 b (ils len) → Q [.ref a, .ref b] H2) → t σ H1 Q) (O : Ok par len) : ∀ H1, Ex H H1 → ∀ Q : VK, (∀ x H2, H1 x = none → Ex H1 H2 → TunAt K H2 x par len → Q (.ref x) H2) →
    tMake (He.ga K "Tunnels") (spTun K) [] E0 t σ H1 Q := fun H1 e1 Q q => ha H1 e1 _ fun a b H2 e2 hA hB x dx hx hdx hne => by
  have eU : Ex H2 (upd (upd H2 dx (.own x)) x (.ins (He.ga K "Tunnels") dx [])) := by
    refine (Ex.new hdx).trans (Ex.new ?_)
    rw [upd_ne (Ne.symm hne)]
    exact hx
  refine ⟨x, a, b, dx, par, len, rfl, upd_same, ex_l eU hA, ex_l eU hB, O, fun sh lt H' eb h1 h2 h3 => ⟨rfl, q x H' (fresh_back e2 hx) (fun y o hy => ?_) ?_⟩⟩
  · refine eb y o (fun c => ?_) (eU _ _ (e2 _ _ hy))
    subst c
    rw [e2 _ _ hy] at hx
    cases hx
  · obtain ⟨dx2, pt, ab, q1, q2⟩ := h2
    exact ⟨dx, sh, lt, dx2, pt, ab, ⟨h1, h3, q1, q2⟩⟩
end
end K61
/-! best_addition, stairs -/
namespace K61
open PySem PySem.Spec PyProof.Rows L2 Evl
open KM (nth tot walls)
theorem getD_is {xs : List Int} {i : Nat} (h : i < xs.length) : xs.getD i 0 = xs[i] := by
  rw [List.getD_eq_getElem?_getD, List.getElem?_eq_getElem h]
  rfl
theorem given_filter {ns : List Int} {f : Int → Bool} {m : Nat} (hm : m = ns.length) : given m (fun i => f (ns.getD i 0)) (fun i => V.int (ns.getD i 0)) = ils (ns.filter f) := by
  subst hm
  have e : ns = (List.range ns.length).map fun i => ns.getD i 0 := by
    apply List.ext_getElem
    · simp
    · intro i h1 h2
      simp only [List.getElem_map, List.getElem_range]
      exact (getD_is h1).symm
  unfold given ils
  conv => rhs; rw [e]
  rw [List.filter_map, List.map_map]
  rfl
section
variable {K : PySem.W.Frag} {H H' : Hp} {σ : L2.St} {ta tb te tv : TE} {tt : TT} {D : Ends} {tu tz : TS}
theorem ev_index {a : Addr} {ns : List Int} {x : Int} (ha : Ev ta σ H (.ref a)) (hS : SqL K H a (ils ns)) (he : Ev te σ H (.int x)) (hx : x ∈ ns) : Ev (tBM K "list" (rIndex K) ta (tCons te tNil)) σ H (.int (ns.idxOf x : Int)) := fun H1 e Q q =>
  ha H1 e _ fun H2 e2 => ⟨Or.inl ⟨rfl, _, ex_l (e.trans e2) hS⟩, he H2 (e.trans e2) _ fun H3 e3 => by
    have hj := List.idxOf_lt_length_of_mem hx
    have e1 : ns.getD (ns.idxOf x) 0 = x := by rw [getD_is hj]; exact List.getElem_idxOf hj
    refine ⟨a, ils ns, .int x, ns.idxOf x, .int x, rfl, rfl, ex_l ((e.trans e2).trans e3) hS, rfl, flat_ils ns, ?_, by simp [eqV], ?_, q H3 (e2.trans e3)⟩
    · rw [ils_get hj, e1]
    · intro m z hm hz
      obtain ⟨hm2, rfl, hm3⟩ := ils_mem hz
      have : ns.getD m 0 ≠ x := by
        rw [getD_is hm2]
        have := List.not_of_lt_findIdx (p := (· == x)) (xs := ns) (i := m) hm
        simpa using this
      show eqV (.int (ns.getD m 0)) (.int x) = false
      simp only [eqV]
      exact decide_eq_false this⟩
theorem q_asgM {i : Nat} {Pm : Addr → Hp → Prop} (hv : ∀ H1, Ex H H1 → ∀ Q : VK, (∀ x H2, H1 x = none → Ex H1 H2 → Pm x H2 → Q (.ref x) H2) → tv σ H1 Q) (k : ∀ p H1, H p = none → Ex H H1 → Pm p H1 → tz D (σ.set i (some (.ref p))) H1) : tSeq (tAsg tv (gName i)) tz D σ H :=
  hv H (Ex.refl H) _ fun p H1 hp e1 h1 => k p H1 hp e1 h1
end
section
variable {P : Program} {w : World} {K : PySem.W.Frag} {mg : Str → Option Value} {base : Heap} {f : Addr} {fd : FuncData} {CW : Addr}
abbrev s_best_addition : Stmt := top 26
abbrev n_best_addition : List Str := ["tunnels", "weights", "left", "parents", "wall", "parent", "rest", "found"]
theorem sc_best_addition : FnScope n_best_addition ["tunnels", "weights", "left"] (defScope s_best_addition) := ⟨rfl, rfl, rfl, by decide +kernel, rfl, by decide +kernel, by decide +kernel⟩
theorem b_best_addition : BindsOk "best_addition" "best_addition" s_best_addition ["tunnels", "weights", "left"] := fun _ _ _ _ _ _ us hl => match us, hl with | [_, _, _], _ => rfl
def spAdd (K : PySem.W.Frag) : Sp := fun vs H Q _ => ∃ (p v l : Addr) (par len wt left ws : List Int), vs = [.ref p, .ref v, .ref l] ∧ TunAt K H p par len ∧ Sq K H v (ils wt) ∧ SqL K H l (ils left) ∧ Ok par len ∧ WOk par wt ∧ KM.Part par ws left ∧ left ≠ [] ∧ left.length ≤ 8 ∧
  (∀ B, KM.BAdd par len wt left B → RetL (ils B) H Q)
theorem nth_mem {ns : List Int} {x : Int} (h1 : 1 ≤ x) (h2 : x ≤ ns.length) : nth ns x ∈ ns := getD_mem (by omega)
def BeAt (K : PySem.W.Frag) (par len wt : List Int) (t : Addr) (H : Hp) : Prop := ∃ B q, KM.Best par len wt B ∧ H t = some (.tup [.int (tot wt B), .int (tot len B), .ref q]) ∧ H q = some (.lst (ils B))
theorem ok_best_addition (T : Txt K mg) (d_Tunnels_init : Mkr P w K mg base 3 "Tunnels" (He.ga K "Tunnels") ["self", "parents", "lengths"] (spTun K)) (d_best_set : Dfn P w K mg base 4 "best_set" ["tunnels", "weights"] (spBest K))
    (F : FnP K "best_addition" "best_addition" s_best_addition f fd) (g : mg "best_addition" = some (.ref f)) : Dfn P w K mg base 5 "best_addition" ["tunnels", "weights", "left"] (spAdd K) := by
  refine dfn_of F g sc_best_addition b_best_addition (fun vs H Q E h => ?_) (BodyN.ok fun cdv A outer s H vs Q E hr h => ?_)
  · obtain ⟨_, _, _, _, _, _, _, _, rfl, _⟩ := h
    rfl
  · obtain ⟨p, v, l, par, len, wt, left, ws, rfl, hT, hV, hL, O, W, hP, hne, h8, k⟩ := h
    refine ⟨_, (pss_cons (ps_set (i := 3) sc_best_addition.nd rfl (Or.inl rfl) (pe_lst pa_nil))
    (pss_cons (ps_for PassesOwn.never rfl (pi_list (pv 2)) (pg_name (i := 4) sc_best_addition.nd rfl (Or.inl rfl)) (pss_cons (ps_set (i := 5) sc_best_addition.nd rfl (Or.inl rfl) (pe_ix ix_tup (pe_fld (pe_fld (pv 0) rfl) rfl) (pe_op op_sub (pv 4) pe_int) (fun _ _ => rfl)))
    (pss_one (ps_if (pt_cmpR op_in_seq (pv 5) (pv 2) (by rfl)) (pss_one (ps_expr (pe_bm PySem.F.plainAttrs_list PySem.F.slot_list_append PySem.F.type_list_append mt_append (pv 3) (pa_cons (pe_op op_add (pe_bm PySem.F.plainAttrs_list PySem.F.slot_list_index PySem.F.type_list_index mt_index (pv 2) (pa_cons (pv 5) pa_nil)) pe_int) pa_nil)))) (pss_one (ps_expr (pe_bm PySem.F.plainAttrs_list PySem.F.slot_list_append PySem.F.type_list_append mt_append (pv 3) (pa_cons pe_int pa_nil))))))))
    (pss_cons (ps_set (i := 6) sc_best_addition.nd rfl (Or.inl rfl) (pe_mk d_Tunnels_init (hr.mono (by decide)) rfl (pa_cons (pv 3) (pa_cons (pe_lc (own := [("wall", 4)]) (g := gName 4) (tt := tYes) rfl sc_best_addition.nd (pi_list (pv 2)) (blkOk_by (own := [("wall", 4)]) (N := n_best_addition) (sc := defScope s_best_addition) (by decide +kernel)) (fun _ _ _ _ _ => pg_name (i := 4) sc_best_addition.nd rfl (Or.inl rfl)) (fun _ _ _ _ _ => pts_nil) (fun _ _ _ _ _ => (pe_ix (ix_tupK (K := K) rfl) (pe_fldK (K := K) rfl (pv 0) rfl) (pe_op op_sub (pv 4) pe_int) (fun _ _ => rfl)))) pa_nil))))
    (pss_cons (ps_set (i := 7) sc_best_addition.nd rfl (Or.inl rfl) (pe_fn d_best_set (hr.mono (by decide)) rfl (pa_cons (pv 6) (pa_cons (pe_lc (own := [("wall", 4)]) (g := gName 4) (tt := tYes) rfl sc_best_addition.nd (pi_list (pv 2)) (blkOk_by (own := [("wall", 4)]) (N := n_best_addition) (sc := defScope s_best_addition) (by decide +kernel)) (fun _ _ _ _ _ => pg_name (i := 4) sc_best_addition.nd rfl (Or.inl rfl)) (fun _ _ _ _ _ => pts_nil) (fun _ _ _ _ _ => (pe_ix (ix_seqK (K := K) rfl) (pv 1) (pe_op op_sub (pv 4) pe_int) (fun _ _ => rfl)))) pa_nil))))
    (pss_one (ps_ret (pe_lc (own := [("wall", 4)]) (g := gName 4) (tt := tYes) rfl sc_best_addition.nd (pi_list (pe_ix ix_tup (pv 7) pe_int (fun _ _ => rfl))) (blkOk_by (own := [("wall", 4)]) (N := n_best_addition) (sc := defScope s_best_addition) (by decide +kernel)) (fun _ _ _ _ _ => pg_name (i := 4) sc_best_addition.nd rfl (Or.inl rfl)) (fun _ _ _ _ _ => pts_nil) (fun _ _ _ _ _ => (pe_ix (ix_listK (K := K) rfl) (pv 2) (pe_op op_sub (pv 4) pe_int) (fun _ _ => rfl)))))))))), ?_⟩
    obtain ⟨dx, sh, lt, dx2, pt, ab, hTA⟩ := hT
    have ll := O.ll
    have wl := W.wl
    have rl : ∀ {i : Nat}, i < left.length → 1 ≤ left.getD i 0 ∧ left.getD i 0 ≤ par.length := fun hi => hP.rl _ (getD_mem hi)
    refine q_asgL (el_lst ea_nil (Nat.zero_le _)) fun c H1 hc0 e1 hc => ?_
    refine q_forLn (ev_var rfl) (ex_l e1 hL) (fun i σ' H' => (∃ u1 u2 u3 u4, σ' = [some (.ref p), some (.ref v), some (.ref l), some (.ref c), u1, u2, u3, u4]) ∧ Ex H H' ∧ H' c = some (.lst (ils ((KM.parsOf par left).take i)))) (fun H2 e2 => ⟨⟨_, _, _, _, rfl⟩, e1.trans e2, e2 _ _ hc⟩) (fun i σ' H' _ h => ex_l h.2.1 hL) ?_ ?_
    · rintro i x σ' H' hi ⟨⟨u1, u2, u3, u4, rfl⟩, e, hC⟩
      obtain ⟨hi2, rfl, hm⟩ := ils_mem hi
      obtain ⟨r1, r2⟩ := rl hi2
      have step : (KM.parsOf par left).take (i + 1) = (KM.parsOf par left).take i ++ [if nth par (left.getD i 0) ∈ left then (left.idxOf (nth par (left.getD i 0)) : Int) + 1 else 0] := by
        rw [List.take_add_one]
        unfold KM.parsOf
        rw [List.getElem?_map, List.getElem?_eq_getElem hi2, ← getD_is hi2]
        rfl
      have hcl : ((KM.parsOf par left).take i).length < 100000 := by
        rw [List.length_take]
        omega
      generalize left.getD i 0 = wl at *
      refine q_asg (ev_op (ev_parents T (hTA.ex e) (ev_var rfl)) (ev_op (ev_var rfl) ev_c rv_I0) (rv_ixT (hTA.ex e).pT (at_nth r1 r2))) fun H3 e3 => ?_
      refine s_if (et_test (ev_inI (ev_var rfl) (ev_var rfl) (ex_l (e.trans e3) hL))) (fun cc H4 e4 => ?_) (fun cc H4 e4 => ?_)
      · have cc := of_decide_eq_true cc
        have e34 := e3.trans e4
        refine s_app (e34 _ _ hC) (ev_var rfl) (ev_op (ev_index (ev_var rfl) (ex_l (e.trans e34) hL) (ev_var rfl) cc) ev_c rv_I0) (by rw [ils_length]; exact hcl) fun H5 e5 => ?_
        refine ⟨⟨_, _, _, _, rfl⟩, Ex.mut (e.trans (e34.trans e5)) hc0, ?_⟩
        rw [upd_same, step, if_pos cc]
        simp [ils]
      · have cc := of_decide_eq_false cc
        have e34 := e3.trans e4
        refine s_app (e34 _ _ hC) (ev_var rfl) ev_c (by rw [ils_length]; exact hcl) fun H5 e5 => ?_
        refine ⟨⟨_, _, _, _, rfl⟩, Ex.mut (e.trans (e34.trans e5)) hc0, ?_⟩
        rw [upd_same, step, if_neg cc]
        simp [ils]
    · rintro σ' H' ⟨⟨u1, u2, u3, u4, rfl⟩, e, hC⟩
      have hpl : (KM.parsOf par left).length = left.length := by unfold KM.parsOf; rw [List.length_map]
      rw [ils_length, ← hpl, List.take_length] at hC
      have lv : ∀ {vs : List Int}, vs.length = par.length → ∀ x ∈ KM.valsOf vs left, x ∈ vs := fun hv x hx => by
        obtain ⟨y, hy, rfl⟩ := List.mem_map.mp hx
        have := hP.rl y hy
        exact nth_mem this.1 (by rw [hv]; exact this.2)
      have O2 : Ok (KM.parsOf par left) (KM.valsOf len left) := ⟨KM.parsOf_tree O.tr hP hne, by rw [hpl]; unfold KM.valsOf; rw [List.length_map], fun x hx => O.lb x (lv O.ll x hx), by rw [hpl]; exact h8⟩
      have W2 : WOk (KM.parsOf par left) (KM.valsOf wt left) := ⟨by rw [hpl]; unfold KM.valsOf; rw [List.length_map], fun x hx => W.wb x (lv W.wl x hx)⟩
      refine q_asgM (el_mkTun (par := KM.parsOf par left) (len := KM.valsOf len left) (fun H1 e1 Q1 q1 => ?_) O2) fun t H2 ht0 e2 hT2 => ?_
      · refine ev_var (v := .ref c) rfl H1 e1 _ fun H2 e2 => ?_
        refine el_is (el_lcL (fun _ => true) (fun i => .int (nth len (left.getD i 0))) (ev_var rfl) (ex_l e hL) (by rw [ils_length]; omega) (fun _ => rfl) (fun _ _ _ _ _ => et_yes) (fun i x H3 e3 hi _ => ?_)) (given_ils (ns := left) (g := nth len) (by rw [ils_length])) H2 (e1.trans e2) _ fun b H3 hb0 e3 hb => q1 c b H3 (e2.trans e3) (sq_of (e3 _ _ (e2 _ _ (e1 _ _ hC)))) (sq_of hb)
        obtain ⟨hi2, rfl, hm⟩ := ils_mem hi
        obtain ⟨r1, r2⟩ := rl hi2
        exact ev_op (ev_lengths T (hTA.ex (e.trans e3)) (ev_var rfl)) (ev_op (ev_var rfl) ev_c rv_I0) (rv_ixT (hTA.ex (e.trans e3)).lT (at_nth r1 (by rw [ll]; exact r2)))
      · refine q_asgM (Pm := BeAt K (KM.parsOf par left) (KM.valsOf len left) (KM.valsOf wt left)) (fun H3 e3 Q1 q1 => ?_) fun t2 H3 ht20 e3 hB => ?_
        · show (tCons (tVar 6) _) _ H3 _
          refine ev_var (v := .ref t) rfl H3 e3 _ fun H4 e4 => ?_
          refine el_is (el_lcL (fun _ => true) (fun i => .int (nth wt (left.getD i 0))) (ev_var rfl) (ex_l (e.trans e2) hL) (by rw [ils_length]; omega) (fun _ => rfl) (fun _ _ _ _ _ => et_yes) (fun i x H5 e5 hi _ => ?_)) (given_ils (ns := left) (g := nth wt) (by rw [ils_length])) H4 (e3.trans e4) _ fun b H5 hb0 e5 hb => ?_
          · obtain ⟨hi2, rfl, hm⟩ := ils_mem hi
            obtain ⟨r1, r2⟩ := rl hi2
            exact ev_op (ev_var rfl) (ev_op (ev_var rfl) ev_c rv_I0) (rv_ix (hV.ex (e.trans (e2.trans e5))) (at_nth r1 (by rw [wl]; exact r2)))
          · exact ⟨t, b, _, _, _, rfl, hT2.ex (e3.trans (e4.trans e5)), .inl (sq_of hb), O2, W2, fun B hB t2 q2 H6 e6 ht2 h1 h2 => q1 t2 H6 (fresh_back (e4.trans e5) ht2) ((e4.trans e5).trans e6) ⟨B, q2, hB, h1, h2⟩⟩
        · obtain ⟨B, q2, hBe, h1, h2⟩ := hB
          have hA := KM.best_add hP hBe
          have hrng := hBe.cl.rng
          rw [hpl] at hrng
          have hbl : B.length ≤ 8 := by
            have := KM.cl_length hBe.cl
            omega
          refine s_retL (el_is (el_lcL (a := q2) (fun _ => true) (fun i => .int (nth left (B.getD i 0))) (ev_op (ev_var rfl) ev_c (rv_ixT (st_of h1) rfl)) (sq_of h2) (by rw [ils_length]; omega) (fun _ => rfl) (fun _ _ _ _ _ => et_yes) (fun i x H5 e5 hi _ => ?_)) (given_ils (ns := B) (g := nth left) (by rw [ils_length]))) fun r H5 hr0 e5 hr => k _ hA r H5 (fresh_back (e.trans (e2.trans e3)) hr0) (e.trans (e2.trans (e3.trans e5))) hr
          obtain ⟨hi2, rfl, hm⟩ := ils_mem hi
          obtain ⟨r1, r2⟩ := hrng _ hm
          exact ev_op (ev_var rfl) (ev_op (ev_var rfl) ev_c rv_I0) (rv_ixL (ex_l (e.trans (e2.trans (e3.trans e5))) hL) (at_nth r1 r2))
end
end K61
/-! stairs, corners -/
namespace K61
open PySem PySem.Spec PyProof.Rows L2 Evl
open KM (nth tot walls)
/-- a list of objects -/
def Refs {α : Type} (Pm : Addr → α → Prop) (rs : List V) (xs : List α) : Prop := rs.length = xs.length ∧ ∀ (i : Nat) (x : α), xs[i]? = some x → ∃ q, rs[i]? = some (V.ref q) ∧ Pm q x
section
variable {α : Type} {Pm Pm' : Addr → α → Prop} {rs : List V} {xs : List α} {q : Addr} {x : α}
theorem Refs.nil : Refs Pm [] [] := ⟨rfl, fun i x h => by simp at h⟩
theorem Refs.mono (h : Refs Pm rs xs) (m : ∀ q x, x ∈ xs → Pm q x → Pm' q x) : Refs Pm' rs xs := ⟨h.1, fun i x hx => by
  obtain ⟨q, h1, h2⟩ := h.2 i x hx
  exact ⟨q, h1, m q x (List.mem_of_getElem? hx) h2⟩⟩
theorem Refs.snoc (h : Refs Pm rs xs) (hq : Pm q x) : Refs Pm (rs ++ [.ref q]) (xs ++ [x]) := ⟨by rw [List.length_append, List.length_append, h.1]; rfl, fun i y hy => by
  by_cases c : i < xs.length
  · rw [List.getElem?_append_left c] at hy
    obtain ⟨q1, h1, h2⟩ := h.2 i y hy
    refine ⟨q1, ?_, h2⟩
    rw [List.getElem?_append_left (by rw [h.1]; exact c)]
    exact h1
  · have c2 := (List.getElem?_eq_some_iff.mp hy).1
    rw [List.length_append] at c2
    have c3 : i = xs.length := by simp at c2; omega
    subst c3
    rw [List.getElem?_append_right (Nat.le_refl _), Nat.sub_self] at hy
    obtain rfl := Option.some.inj hy
    refine ⟨q, ?_, hq⟩
    rw [← h.1, List.getElem?_append_right (Nat.le_refl _), Nat.sub_self]
    rfl⟩
theorem Refs.len (h : Refs Pm rs xs) : rs.length = xs.length := h.1
end
def PairAt (H : Hp) (q : Addr) (c : Int × Int) : Prop := H q = some (.tup [.int c.1, .int c.2])
def ListAt (H : Hp) (q : Addr) (B : List Int) : Prop := H q = some (.lst (ils B))
theorem cornersFrom_at (len wt : List Int) : ∀ (Bs : List (List Int)) (ws : List Int) (i : Nat), i ≤ Bs.length → (KM.cornersFrom len wt ws Bs)[i]? = some (KM.corn len wt (ws ++ (Bs.take i).flatten))
  | [], ws, i, h => by
    have : i = 0 := by simpa using h
    subst this
    simp [KM.cornersFrom]
  | B :: Bs, ws, 0, h => by simp [KM.cornersFrom]
  | B :: Bs, ws, i + 1, h => by
    show (KM.cornersFrom len wt (ws ++ B) Bs)[i]? = _
    rw [cornersFrom_at len wt Bs (ws ++ B) i (by simpa using h)]
    simp
structure Pre (K : PySem.W.Frag) (H : Hp) (p v : Addr) (par len ns : List Int) : Prop where
  t : TunAt K H p par len
  s : Sq K H v (ils ns)
  o : Ok par len
  l : ns.length ≤ 1000
  b : ∀ x ∈ ns, x ≤ 999
theorem Pre.ex {K : PySem.W.Frag} {H H' : Hp} {p v : Addr} {par len ns : List Int} (e : Ex H H') (h : Pre K H p v par len ns) : Pre K H' p v par len ns := ⟨h.t.ex e, h.s.ex e, h.o, h.l, h.b⟩
theorem wok_of {par ns : List Int} (h : wrong ns 0 par.length = none) (b : ∀ x ∈ ns, x ≤ 999) : WOk par ns := by
  unfold wrong at h
  cases hf : ns.findIdx? (fun v => decide (v < 0)) with
  | some i => rw [hf] at h; cases h
  | none =>
    rw [hf] at h
    rw [List.findIdx?_eq_none_iff] at hf
    refine ⟨?_, fun x hx => ⟨?_, b x hx⟩⟩
    · by_cases c : (ns.length : Int) = par.length
      · omega
      · have : (if (ns.length : Int) = par.length then none else some (ns.length : Int)) = none := h
        rw [if_neg c] at this
        cases this
    · have := hf x hx
      simpa using this
section
variable {K : PySem.W.Frag} {H H' : Hp} {σ : L2.St} {ta tb te tv : TE} {tt : TT} {D : Ends} {tu tz : TS}
theorem q_callS {sp : Sp} {vs : List V} {t : TA} {W : WX} (h : EvA t σ H vs) (k : ∀ H1, Ex H H1 → sp vs H1 (fun _ H2 => tz D σ H2) (WE W σ)) : tSeq (tDrop (tCallS sp (WE W) t)) tz D σ H := h H (Ex.refl H) _ k
theorem q_asgS {i : Nat} {sp : Sp} {vs : List V} {t : TA} {W : WX} (h : EvA t σ H vs) (k : ∀ H1, Ex H H1 → sp vs H1 (fun x H2 => tz D (σ.set i (some x)) H2) (WE W σ)) : tSeq (tAsg (tCallS sp (WE W) t) (gName i)) tz D σ H := h H (Ex.refl H) _ k
theorem ev_callM {Pm : Addr → Hp → Prop} {sp : Sp} {vs : List V} {t : TA} (h : EvA t σ H vs) (hs : ∀ H1, Ex H H1 → ∀ Q : VK, (∀ x H2, H1 x = none → Ex H1 H2 → Pm x H2 → Q (.ref x) H2) → sp vs H1 Q E0) :
    ∀ H1, Ex H H1 → ∀ Q : VK, (∀ x H2, H1 x = none → Ex H1 H2 → Pm x H2 → Q (.ref x) H2) → tCall sp [] E0 t σ H1 Q := fun H1 e1 Q q => h H1 e1 _ fun H2 e2 => by
  rw [List.append_nil]
  exact hs H2 (e1.trans e2) Q fun x H3 hx e3 hp => q x H3 (fresh_back e2 hx) (e2.trans e3) hp
theorem q_forS {j : Nat} {sp : Sp} {vs : List V} {t : TA} {W : WX} (h : EvA t σ H vs) (k : ∀ H1, Ex H H1 → ∀ Q : VK, (∀ a xs H2, SqL K H2 a xs → (∃ Pv : Nat → L2.St → Hp → Prop, Pv 0 σ H2 ∧ (∀ i σ' H', i ≤ xs.length → Pv i σ' H' → SqL K H' a xs) ∧
      (∀ i x σ' H', xs[i]? = some x → Pv i σ' H' → tu { D with nx := Pv (i + 1), ct := Pv (i + 1), bk := tz D } (σ'.set j (some x)) H') ∧ (∀ σ' H', Pv xs.length σ' H' → tz D σ' H')) → Q (.ref a) H2) → sp vs H1 Q (WE W σ)) :
    tSeq (tFor (iList K (tCallS sp (WE W) t)) (gName j) tu) tz D σ H := h H (Ex.refl H) _ fun H1 e => k H1 e _ fun a xs H2 hS ⟨Pv, h0, hl, hs, hd⟩ =>
  ⟨a, rfl, ⟨xs, hS⟩, for_list (D := { D with nx := tz D }) (g := gName j) Pv h0 hl hs hd⟩
theorem el_cat {a b : Addr} {xs ys : List V} (ha : Ev ta σ H (.ref a)) (hb : Ev tb σ H (.ref b)) (h1 : H a = some (.lst xs)) (h2 : H b = some (.lst ys)) (hl : xs.length + ys.length ≤ 100000) : EvL (tOp rCat ta tb) σ H (xs ++ ys) := fun H1 e1 Q q =>
  ha H1 e1 _ fun H2 e2 => hb H2 (e1.trans e2) _ fun H3 e3 => ⟨a, b, xs, ys, rfl, rfl, e3 _ _ (e2 _ _ (e1 _ _ h1)), e3 _ _ (e2 _ _ (e1 _ _ h2)), sz_of hl, fun r hr => q r _ (fresh_back (e2.trans e3) hr) ((e2.trans e3).trans (Ex.new hr)) upd_same⟩
end
section
variable {P : Program} {w : World} {K : PySem.W.Frag} {mg : Str → Option Value} {base : Heap} {f : Addr} {fd : FuncData} {CW : Addr}
abbrev s_stairs : Stmt := top 27
abbrev n_stairs : List Str := ["tunnels", "weights", "left", "blocks", "block", "wall"]
theorem sc_stairs : FnScope n_stairs ["tunnels", "weights"] (defScope s_stairs) := ⟨rfl, rfl, rfl, by decide +kernel, rfl, by decide +kernel, by decide +kernel⟩
theorem b_stairs : BindsOk "stairs" "stairs" s_stairs ["tunnels", "weights"] := fun _ _ _ _ _ _ us hl => match us, hl with | [_, _], _ => rfl
def spStairs (K : PySem.W.Frag) (CW : Addr) : Sp := fun vs H Q E => ∃ (p v : Addr) (par len ns : List Int), vs = [.ref p, .ref v] ∧ Pre K H p v par len ns ∧ (∀ i, wrong ns 0 par.length = some i → RaiseV CW "place" i H E) ∧
  (wrong ns 0 par.length = none → ∀ Bs, KM.Stairs par len ns (walls par.length) Bs → ∀ r rs H', H r = none → Ex H H' → H' r = some (.lst rs) → Refs (ListAt H') rs Bs → Q (.ref r) H')
def StI (par len ns : List Int) (p v l : Addr) (H : Hp) (m : Nat) (σ' : L2.St) (H' : Hp) : Prop :=
  ∃ (left ws : List Int) (Bs : List (List Int)) (q : Addr) (rs : List V) (u1 u2 : Option V), σ' = [some (.ref p), some (.ref v), some (.ref q), some (.ref l), u1, u2] ∧ Ex H H' ∧ H' q = some (.lst (ils left)) ∧ H' l = some (.lst rs) ∧ q ≠ l ∧ Refs (fun q B => q ≠ l ∧ ListAt H' q B) rs Bs ∧
    KM.Part par ws left ∧ left.length = m ∧ m ≤ par.length ∧ Bs.length + m ≤ par.length ∧ (∀ Cs, KM.Stairs par len ns left Cs → KM.Stairs par len ns (walls par.length) (Bs ++ Cs))
theorem ok_stairs (T : Txt K mg) (d_check_weights : Dfn P w K mg base 3 "check_weights" ["tunnels", "weights"] (spCheckW K CW)) (d_best_addition : Dfn P w K mg base 5 "best_addition" ["tunnels", "weights", "left"] (spAdd K))
    (F : FnP K "stairs" "stairs" s_stairs f fd) (g : mg "stairs" = some (.ref f)) : Dfn P w K mg base 6 "stairs" ["tunnels", "weights"] (spStairs K CW) := by
  refine dfn_of F g sc_stairs b_stairs (fun vs H Q E h => ?_) (fun cdv A outer s H vs Q E hr h => ?_)
  · obtain ⟨_, _, _, _, _, rfl, _⟩ := h
    rfl
  · obtain ⟨p, v, par, len, ns, rfl, hP, k1, k2⟩ := h
    refine ⟨_, (pss_cons (ps_expr (pe_fnS (L2N.takes_of rfl rfl rfl rfl) d_check_weights (hr.mono (by decide)) rfl (pa_cons (pv 0) (pa_cons (pv 1) pa_nil))))
    (pss_cons (ps_set (i := 2) sc_stairs.nd rfl (Or.inl rfl) (pe_listRg rfl rfl T.list (prg_2 rfl T.range pe_int (pe_op op_add (pe_fld (pe_fld (pv 0) rfl) rfl) pe_int))))
    (pss_cons (ps_set (i := 3) sc_stairs.nd rfl (Or.inl rfl) (pe_lst pa_nil))
    (pss_cons (ps_while PassesOwn.leaving (pt_truth (pv 2) (by intro _; rfl)) (pss_cons (ps_set (i := 4) sc_stairs.nd rfl (Or.inr rfl) (pe_fn d_best_addition (hr.mono (by decide)) rfl (pa_cons (pv 0) (pa_cons (pv 1) (pa_cons (pv 2) pa_nil)))))
    (pss_cons (ps_expr (pe_bm PySem.F.plainAttrs_list PySem.F.slot_list_append PySem.F.type_list_append mt_append (pv 3) (pa_cons (pv 4) pa_nil)))
    (pss_one (ps_setLc (i := 2) (own := [("wall", 5)]) (g := gName 5) rfl sc_stairs.nd rfl rfl (sw_true rfl rfl rfl (by decide +kernel)) (pi_list (pv 2)) (blkOk_by (own := [("wall", 5)]) (N := n_stairs) (sc := defScope s_stairs) (by decide +kernel)) (fun _ _ _ _ _ => pg_name (i := 5) sc_stairs.nd rfl (Or.inl rfl)) (fun _ _ _ _ _ => (pts_one (pt_cmpR (op_notIn_seqK (K := K) rfl) (pv 5) (pv 4) (by rfl)))) (fun _ _ _ _ _ => (pv 5)))))))
    (pss_one (ps_ret (pv 3))))))), ?_⟩
    have O := hP.o
    have n8 := O.n8
    refine q_callS (ea_cons (ev_var rfl) (ea_cons (ev_var rfl) ea_nil)) fun H1 e1 => ⟨p, v, par, len, ns, rfl, hP.t.ex e1, hP.s.ex e1, hP.l, fun hw H2 e2 => ?_, fun i hw => ?_⟩
    · have W := wok_of hw hP.b
      have e12 := e1.trans e2
      obtain ⟨dx, sh, lt, dx2, pt, ab, hTA⟩ := hP.t.ex e12
      refine q_asgL (xs := ils (walls par.length)) (el_is (el_rg2 ev_c (ev_op (ev_size T hTA (ev_var rfl)) ev_c rv_I0) (RgOk.of_le (by omega) (by omega) (by omega) (by omega))) (rg_walls _)) fun q0 H3 hq0 e3 hq => ?_
      refine q_asgL (el_lst ea_nil (Nat.zero_le _)) fun l H4 hl0 e4 hl => ?_
      have e13 := e12.trans e3
      have e14 := e13.trans e4
      have hlH : H l = none := fresh_back e13 hl0
      have ql : q0 ≠ l := fun c => by
        subst c
        rw [hq] at hl0
        cases hl0
      refine q_while (StI par len ns p v l H) par.length ⟨walls par.length, [], [], q0, [], none, none, rfl, e14, e4 _ _ hq, hl, ql, Refs.nil, KM.part_start par, KM.walls_length _, Nat.le_refl _, by simp, fun Cs h => h⟩ ?_
      rintro m σ' H' ⟨left, ws, Bs, q, rs, u1, u2, rfl, e, hq, hl, ql, hR, hPt, rfl, hm, hbl, hS⟩
      have rsl := hR.len
      refine ⟨!(ils left).isEmpty, et_truL (ev_var rfl) (sq_of hq), fun hb H5 e5 => ?_, fun hb H5 e5 => ?_⟩
      · have hne : left ≠ [] := fun c => by
          rw [c] at hb
          cases hb
        refine ⟨fun σ2 H2 => ∃ m', m' < left.length ∧ StI par len ns p v l H m' σ2 H2, fun _ _ h => h, ?_⟩
        have ee := e.trans e5
        refine q_asgM (Pm := fun b H1 => ∃ B, KM.BAdd par len ns left B ∧ H1 b = some (.lst (ils B))) (ev_callM (ea_cons (ev_var rfl) (ea_cons (ev_var rfl) (ea_cons (ev_var rfl) ea_nil)))
          (fun H6 e6 Q1 q1 => ⟨p, v, q, par, len, ns, left, ws, rfl, hP.t.ex (ee.trans e6), hP.s.ex (ee.trans e6), sq_of ((e5.trans e6) _ _ hq), O, W, hPt, hne, by omega, fun B hB r H7 hr e7 h7 => q1 r H7 hr e7 ⟨B, hB, h7⟩⟩)) fun b H6 hb0 e6 hB => ?_
        obtain ⟨B, hB, hb⟩ := hB
        have bl : b ≠ l := fun c => by
          subst c
          rw [e5 _ _ hl] at hb0
          cases hb0
        have e56 := e5.trans e6
        refine q_app (e56 _ _ hl) (ev_var rfl) (ev_var rfl) (by omega) fun H7 e7 => ?_
        have e57 := e56.trans e7
        have hq7 : (upd H7 l (.lst (rs ++ [.ref b]))) q = some (.lst (ils left)) := by
          rw [upd_ne ql]
          exact e57 _ _ hq
        have hb7 : (upd H7 l (.lst (rs ++ [.ref b]))) b = some (.lst (ils B)) := by
          rw [upd_ne bl]
          exact e7 _ _ hb
        refine s_asgL (el_is (el_lcL (fun i => !decide (left.getD i 0 ∈ B)) (fun i => .int (left.getD i 0)) (ev_var rfl) (sq_of hq7) (by rw [ils_length]; omega) (fun _ => rfl) (fun i x H8 e8 hi => ?_) (fun i x H8 e8 hi _ => ?_)) (given_filter (ns := left) (f := fun x => !decide (x ∈ B)) (by rw [ils_length]))) fun q2 H8 hq20 e8 hq2 => ?_
        · obtain ⟨hi2, rfl, hm⟩ := ils_mem hi
          exact et_test (ev_niI (ev_var rfl) (ev_var rfl) (sq_of (e8 _ _ hb7)))
        · obtain ⟨hi2, rfl, hm⟩ := ils_mem hi
          exact ev_var rfl
        · have q2l : q2 ≠ l := fun c => by
            subst c
            rw [upd_same] at hq20
            cases hq20
          have flt : (left.filter fun x => !decide (x ∈ B)).length < left.length := by
            obtain ⟨x, hx⟩ := List.exists_mem_of_ne_nil B hB.ne
            rw [List.length_filter_lt_length_iff_exists]
            exact ⟨x, hB.sub x hx, by simp [hx]⟩
          refine ⟨_, flt, left.filter fun x => !decide (x ∈ B), ws ++ B, Bs ++ [B], q2, rs ++ [.ref b], _, _, rfl, (Ex.mut (e.trans e57) hlH).trans e8, hq2, e8 _ _ upd_same, q2l, ?_, KM.part_next O.tr hPt hB, rfl, by omega, ?_, ?_⟩
          · refine Refs.snoc (hR.mono fun q x _ h => ⟨h.1, e8 _ _ ?_⟩) ⟨bl, e8 _ _ hb7⟩
            rw [upd_ne h.1]
            exact e57 _ _ h.2
          · rw [List.length_append, List.length_singleton]
            omega
          · intro Cs hC
            rw [List.append_assoc]
            exact hS _ (KM.Stairs.cons hB hC)
      · have hne : left = [] := by
          cases left with
          | nil => rfl
          | cons _ _ => cases hb
        subst hne
        have := hS [] KM.Stairs.nil
        rw [List.append_nil] at this
        refine s_ret (ev_var rfl) fun H6 e6 => k2 hw Bs this l rs H6 hlH (e.trans (e5.trans e6)) ((e5.trans e6) _ _ hl) (hR.mono fun q x _ h => (e5.trans e6) _ _ h.2)
    · exact (k1 i hw).go e1
end
end K61
/-! corners -/
namespace K61
open PySem PySem.Spec PyProof.Rows L2 Evl
open KM (nth tot walls)
section
variable {P : Program} {w : World} {K : PySem.W.Frag} {mg : Str → Option Value} {base : Heap} {f : Addr} {fd : FuncData} {CW : Addr}
abbrev s_corners : Stmt := top 28
abbrev n_corners : List Str := ["tunnels", "weights", "found", "walls", "block"]
theorem sc_corners : FnScope n_corners ["tunnels", "weights"] (defScope s_corners) := ⟨rfl, rfl, rfl, by decide +kernel, rfl, by decide +kernel, by decide +kernel⟩
theorem b_corners : BindsOk "corners" "corners" s_corners ["tunnels", "weights"] := fun _ _ _ _ _ _ us hl => match us, hl with | [_, _], _ => rfl
def spCorners (K : PySem.W.Frag) (CW : Addr) : Sp := fun vs H Q E => ∃ (p v : Addr) (par len ns : List Int), vs = [.ref p, .ref v] ∧ Pre K H p v par len ns ∧ (∀ i, wrong ns 0 par.length = some i → RaiseV CW "place" i H E) ∧
  (wrong ns 0 par.length = none → ∀ Bs, KM.Stairs par len ns (walls par.length) Bs → ∀ r rs H', H r = none → Ex H H' → H' r = some (.lst rs) → Refs (PairAt H') rs (KM.cornersFrom len ns [] Bs) → Q (.ref r) H')
def CoI (par len ns : List Int) (Bs : List (List Int)) (brs : List V) (p v f a : Addr) (H : Hp) (i : Nat) (σ' : L2.St) (H' : Hp) : Prop :=
  ∃ (wl : Addr) (u : Option V) (rs : List V), σ' = [some (.ref p), some (.ref v), some (.ref f), some (.ref wl), u] ∧ Ex H H' ∧ H' wl = some (.lst (ils (Bs.take i).flatten)) ∧ wl ≠ f ∧ H' f = some (.lst rs) ∧ Refs (PairAt H') rs ((KM.cornersFrom len ns [] Bs).take (i + 1)) ∧ H' a = some (.lst brs) ∧ Refs (fun q B => q ≠ f ∧ ListAt H' q B) brs Bs
theorem stairs_ne {par len wt : List Int} : ∀ {Bs : List (List Int)} {left : List Int}, KM.Stairs par len wt left Bs → ∀ B ∈ Bs, B ≠ []
  | [], _, _, B, h => by simp at h
  | B0 :: Bs, _, h, B, hm => by
    cases h with
    | cons hB h =>
      rcases List.mem_cons.mp hm with rfl | hm
      · exact hB.ne
      · exact stairs_ne h B hm
theorem flat_take {Bs : List (List Int)} {i : Nat} (h : i < Bs.length) : (Bs.take (i + 1)).flatten = (Bs.take i).flatten ++ Bs[i] := by
  rw [List.take_add_one, List.getElem?_eq_getElem h, List.flatten_append]
  show _ ++ ([Bs[i]] : List (List Int)).flatten = _
  simp
theorem ok_corners (T : Txt K mg) (d_stairs : Dfn P w K mg base 6 "stairs" ["tunnels", "weights"] (spStairs K CW)) (d_total : Mth P w K mg base 3 (He.ga K "Tunnels") "total" ["self", "values", "walls"] (spTotal K))
    (F : FnP K "corners" "corners" s_corners f fd) (g : mg "corners" = some (.ref f)) : Dfn P w K mg base 7 "corners" ["tunnels", "weights"] (spCorners K CW) := by
  refine dfn_of F g sc_corners b_corners (fun vs H Q E h => ?_) (fun cdv A outer s H vs Q E hr h => ?_)
  · obtain ⟨_, _, _, _, _, rfl, _⟩ := h
    rfl
  · obtain ⟨p, v, par, len, ns, rfl, hP, k1, k2⟩ := h
    refine ⟨_, (pss_cons (ps_set (i := 2) sc_corners.nd rfl (Or.inl rfl) (pe_lst (pa_cons (pe_tup (pa_cons pe_int (pa_cons pe_int pa_nil))) pa_nil)))
    (pss_cons (ps_set (i := 3) sc_corners.nd rfl (Or.inl rfl) (pe_lst pa_nil))
    (pss_cons (ps_for PassesOwn.leaving rfl (pi_list (pe_fnS (L2N.takes_of rfl rfl rfl rfl) d_stairs (hr.mono (by decide)) rfl (pa_cons (pv 0) (pa_cons (pv 1) pa_nil)))) (pg_name (i := 4) sc_corners.nd rfl (Or.inl rfl)) (pss_cons (ps_set (i := 3) sc_corners.nd rfl (Or.inl rfl) (pe_op op_cat (pv 3) (pv 4)))
    (pss_one (ps_expr (pe_bm PySem.F.plainAttrs_list PySem.F.slot_list_append PySem.F.type_list_append mt_append (pv 2) (pa_cons (pe_tup (pa_cons (pe_mth (pv 0) T.clT d_total (hr.mono (by decide)) (pa_cons (pe_fld (pv 0) rfl) (pa_cons (pv 3) pa_nil))) (pa_cons (pe_mth (pv 0) T.clT d_total (hr.mono (by decide)) (pa_cons (pv 1) (pa_cons (pv 3) pa_nil))) pa_nil))) pa_nil))))))
    (pss_one (ps_ret (pv 2)))))), ?_⟩
    have O := hP.o
    have n8 := O.n8
    refine q_asgLU (eu_tup (vs := [.int 0, .int 0]) (ea_cons ev_c (ea_cons ev_c ea_nil)) (by decide)) fun t0 f0 H1 hf0 e1 ht hf => ?_
    refine q_asgL (el_lst ea_nil (Nat.zero_le _)) fun w0 H2 hw0 e2 hw => ?_
    have e12 := e1.trans e2
    have wf : w0 ≠ f0 := fun c => by
      subst c
      rw [hf] at hw0
      cases hw0
    refine q_forS (ea_cons (ev_var rfl) (ea_cons (ev_var rfl) ea_nil)) fun H3 e3 Q1 q1 => ⟨p, v, par, len, ns, rfl, hP.ex (e12.trans e3), fun i hw => ?_, fun hwr Bs hS a brs H4 ha0 e4 ha hR => q1 a brs H4 (sq_of ha) ?_⟩
    · exact (k1 i hw).go (e12.trans e3)
    · have W := wok_of hwr hP.b
      have e34 := e3.trans e4
      obtain ⟨hfn, hfl⟩ := KM.stairs_flat hS (KM.Cl.all O.tr).nd
      have hbl := KM.stairs_length hS
      rw [KM.walls_length] at hbl
      have cl := KM.cornersFrom_length len ns Bs []
      have hf4 := e34 _ _ (e2 _ _ hf)
      have af : a ≠ f0 := fun c => by
        subst c
        rw [e3 _ _ (e2 _ _ hf)] at ha0
        cases ha0
      have nb : ∀ B ∈ Bs, B ≠ [] := stairs_ne hS
      refine ⟨CoI par len ns Bs brs p v f0 a H, ⟨w0, none, [.ref t0], rfl, e12.trans e34, by simpa using e34 _ _ hw, wf, hf4, ?_, ha, hR.mono fun q B hB hq => ⟨fun c => ?_, hq⟩⟩, fun i σ' H' _ h => ?_, ?_, ?_⟩
      · have h0 := cornersFrom_at len ns Bs [] 0 (Nat.zero_le _)
        have : (KM.cornersFrom len ns [] Bs).take (0 + 1) = [(0, 0)] := by
          rw [List.take_add_one, h0]
          rfl
        rw [this]
        exact Refs.snoc (rs := []) (xs := []) Refs.nil (e34 _ _ (e2 _ _ ht))
      · subst c
        have hq : H4 q = some (.lst (ils B)) := hq
        rw [hf4] at hq
        have := nb B hB
        cases B with
        | nil => exact this rfl
        | cons x B => simp [ils] at hq
      · obtain ⟨_, _, _, _, _, _, _, _, _, h, _⟩ := h
        exact sq_of h
      · rintro i x σ' H' hi ⟨wl, u, rs, rfl, e, hwl, wf, hf, hRc, ha, hRb⟩
        have hi2 : i < Bs.length := by
          rw [← hRb.len]
          exact (List.getElem?_eq_some_iff.mp hi).1
        obtain ⟨q, hq1, hqf, hq2⟩ := hRb.2 i _ (List.getElem?_eq_getElem hi2)
        rw [hi] at hq1
        obtain rfl := Option.some.inj hq1
        have hfs : (Bs.take (i + 1)).flatten = (Bs.take i).flatten ++ Bs[i] := flat_take hi2
        have pre : Bs.flatten = (Bs.take (i + 1)).flatten ++ (Bs.drop (i + 1)).flatten := by
          rw [← List.flatten_append, List.take_append_drop]
        have nd1 : ((Bs.take (i + 1)).flatten).Nodup := by
          rw [pre] at hfn
          exact (List.nodup_append.mp hfn).1
        have rg1 : ∀ x ∈ (Bs.take (i + 1)).flatten, 1 ≤ x ∧ x ≤ par.length := fun x hx => by
          have : x ∈ Bs.flatten := by
            rw [pre]
            exact List.mem_append_left _ hx
          exact KM.mem_walls.mp (hfl x this)
        have ln1 : ((Bs.take (i + 1)).flatten).length ≤ par.length := KM.length_le_of nd1 rg1
        have hcut : (Bs.take i).flatten.length + Bs[i].length ≤ 100000 := by
          rw [hfs, List.length_append] at ln1
          omega
        refine q_asgL (xs := ils (Bs.take (i + 1)).flatten) (el_is (el_cat (ev_var rfl) (ev_var rfl) hwl hq2 (by rw [ils_length, ils_length]; exact hcut)) (by rw [hfs]; simp [ils])) fun w2 H5 hw20 e5 hw2 => ?_
        have hT5 := hP.t.ex (e.trans e5)
        obtain ⟨dx, sh, lt, dx2, pt, ab, hTA⟩ := hT5
        have hw5 : SqL K H5 w2 (ils (Bs.take (i + 1)).flatten) := sq_of hw2
        have ll := O.ll
        have wl' := W.wl
        refine s_appU (e5 _ _ hf) (ev_var rfl) (eu_tup (ea_cons (ev_meth (vs := [.ref lt, .ref w2]) (ev_var rfl) hTA.o (lk_total ..) (ea_cons (ev_lengths T hTA (ev_var rfl)) (ea_cons (ev_var rfl) ea_nil)) (sv_total ⟨_, _, _, _, _, _, hTA⟩ (.inr hTA.lT) hw5 rg1 (by omega) nd1 n8))
          (ea_cons (ev_meth (vs := [.ref v, .ref w2]) (ev_var rfl) hTA.o (lk_total ..) (ea_cons (ev_var rfl) (ea_cons (ev_var rfl) ea_nil)) (sv_total ⟨_, _, _, _, _, _, hTA⟩ (hP.s.ex (e.trans e5)) hw5 rg1 (by omega) nd1 n8)) ea_nil)) (by show 2 ≤ 100000; decide)) (by have := hRc.len; rw [List.length_take] at this; omega) fun t H6 ht0 e6 ht => ?_
        have e56 := e5.trans e6
        have w2f : w2 ≠ f0 := fun c => by
          subst c
          rw [hf] at hw20
          cases hw20
        have tf : t ≠ f0 := fun c => by
          subst c
          rw [e5 _ _ hf] at ht0
          cases ht0
        have f0H : H f0 = none := hf0
        refine ⟨w2, _, _, rfl, Ex.mut (e.trans e56) f0H, by rw [upd_ne w2f]; exact e6 _ _ hw2, w2f, upd_same, ?_, by rw [upd_ne af]; exact e56 _ _ ha, hRb.mono fun q B _ h => ⟨h.1, ?_⟩⟩
        · have hat := cornersFrom_at len ns Bs [] (i + 1) hi2
          rw [List.nil_append] at hat
          rw [List.take_add_one, hat]
          refine Refs.snoc (hRc.mono fun q c _ h => ?_) ?_
          · have h : H' q = some (.tup [.int c.1, .int c.2]) := h
            have qf : q ≠ f0 := fun cc => by
              subst cc
              rw [hf] at h
              cases h
            show (upd H6 f0 _) q = _
            rw [upd_ne qf]
            exact e56 _ _ h
          · show (upd H6 f0 _) t = _
            rw [upd_ne tf]
            exact ht
        · show (upd H6 f0 _) q = _
          rw [upd_ne h.1]
          exact e56 _ _ h.2
      · rintro σ' H' ⟨wl, u, rs, rfl, e, hwl, wf, hf, hRc, ha, hRb⟩
        rw [hRb.len, ← cl, List.take_length] at hRc
        exact ⟨_, rfl, k2 hwr Bs hS f0 rs H' hf0 e hf hRc⟩
end
end K61
/-! lowest, height -/
namespace K61
open PySem PySem.Spec PyProof.Rows L2 Evl
open KM (nth tot walls)
section
variable {K : PySem.W.Frag} {H H' : Hp} {σ : L2.St} {ta tb te tv : TE} {tt : TT} {D : Ends} {tu tz : TS}
theorem ev_abs {i : Int} (ha : Ev ta σ H (.int i)) : Ev (tCB (fun xs H Q => ∃ i, xs = [V.int i] ∧ Q (.int (if i < 0 then -i else i)) H) (tCons ta tNil)) σ H (.int (if i < 0 then -i else i)) := fun H1 e Q q =>
  ha H1 e _ fun H2 e2 => ⟨i, rfl, q H2 e2⟩
theorem et_truI {i : Int} (ha : Ev ta σ H (.int i)) : EvT (fun σ H Q => ta σ H fun x H' => ∃ k, TruV K x H' k ∧ Q k H') σ H (i != 0) := fun H1 e Q q => ha H1 e _ fun H2 e2 => ⟨_, rfl, q H2 e2⟩
theorem s_par {i j : Nat} {t : TA} {x y : V} (h : EvA t σ H [x, y]) (k : ∀ H1, Ex H H1 → D.nx ((σ.set i (some x)).set j (some y)) H1) : tPar i j t D σ H := h H (Ex.refl H) _ fun H1 e => ⟨x, y, rfl, k H1 e⟩
theorem q_asgPair {i j : Nat} {q : Addr} {x y : V} (h : Ev te σ H (.ref q)) (hq : H q = some (.tup [x, y])) (k : ∀ H1, Ex H H1 → tz D ((σ.set i (some x)).set j (some y)) H1) : tSeq (tAsg te (gTup K 2 (gCons (gName i) (gCons (gName j) gNil)))) tz D σ H :=
  h H (Ex.refl H) _ fun H1 e => ⟨q, [x, y], rfl, st_of (e _ _ hq), rfl, x, [y], rfl, y, [], rfl, rfl, k H1 e⟩
theorem s_retC {sp : Sp} {vs : List V} {t : TA} (h : EvA t σ H vs) (k : ∀ H1, Ex H H1 → sp vs H1 D.rt E0) : tRet (tCall sp [] E0 t) D σ H := h H (Ex.refl H) _ fun H1 e => by
  rw [List.append_nil]
  exact k H1 e
theorem atI_neg1 {xs : List V} {v : V} {n : Nat} (h : xs[n]? = some v) (hn : xs.length = n + 1) : atI xs (-1) = some v := by
  have hne : xs ≠ [] := fun c => by rw [c] at hn; simp at hn
  have e : xs = xs.dropLast ++ [xs.getLast hne] := (List.dropLast_concat_getLast hne).symm
  have l : xs.dropLast.length = n := by rw [List.length_dropLast]; omega
  rw [e] at h
  rw [List.getElem?_append_right (by omega), l, Nat.sub_self] at h
  rw [e, ← Option.some.inj h]
  exact atI_last _ _
end
section
variable {P : Program} {w : World} {K : PySem.W.Frag} {mg : Str → Option Value} {base : Heap} {f : Addr} {fd : FuncData} {CW CC fC ccC cdC : Addr} {msgC qC : Str} {xpC : XPos}
abbrev s_lowest : Stmt := top 12
abbrev n_lowest : List Str := ["numerator", "denominator", "great", "small"]
theorem sc_lowest : FnScope n_lowest ["numerator", "denominator"] (defScope s_lowest) := ⟨rfl, rfl, rfl, by decide +kernel, rfl, by decide +kernel, by decide +kernel⟩
theorem b_lowest : BindsOk "lowest" "lowest" s_lowest ["numerator", "denominator"] := fun _ _ _ _ _ _ us hl => match us, hl with | [_, _], _ => rfl
def RetPair (p q : Int) (H : Hp) (Q : VK) : Prop := ∀ t H', H t = none → Ex H H' → H' t = some (.tup [.int p, .int q]) → Q (.ref t) H'
def spLowest (K : PySem.W.Frag) : Sp := fun vs H Q _ => ∃ n d : Int, vs = [.int n, .int d] ∧ 0 ≤ n ∧ 1 ≤ d ∧ d ≤ 100000 ∧ ∀ p q, KM.Lowest n d p q → RetPair p q H Q
theorem ok_lowest (T : Txt K mg) (F : FnP K "lowest" "lowest" s_lowest f fd) (g : mg "lowest" = some (.ref f)) : Dfn P w K mg base 1 "lowest" ["numerator", "denominator"] (spLowest K) := by
  refine dfn_of F g sc_lowest b_lowest (fun vs H Q E h => ?_) (BodyN.ok fun cdv A outer s H vs Q E hr h => ?_)
  · obtain ⟨_, _, rfl, _⟩ := h
    rfl
  · obtain ⟨n, d, rfl, hn, hd, hd2, k⟩ := h
    refine ⟨_, (pss_cons (ps_set (i := 2) sc_lowest.nd rfl (Or.inl rfl) (pe_callB call_abs rfl T.abs (by decide +kernel) (pa_cons (pv 0) pa_nil)))
    (pss_cons (ps_set (i := 3) sc_lowest.nd rfl (Or.inl rfl) (pv 1))
    (pss_cons (ps_while PassesOwn.never (pt_truth (pv 3) (by intro _; rfl)) (pss_one (ps_par (i := 2) (j := 3) rfl sc_lowest.nd rfl rfl (by decide) rfl rfl (pa_cons (pv 3) (pa_cons (pe_op op_mod (pv 2) (pv 3)) pa_nil)) (by rfl))))
    (pss_one (ps_ret (pe_tup (pa_cons (pe_op op_fdiv (pv 0) (pv 2)) (pa_cons (pe_op op_fdiv (pv 1) (pv 2)) pa_nil)))))))), ?_⟩
    refine q_asg (v := .int n) (ev_is (ev_abs (ev_var rfl)) (by rw [if_neg (by omega)])) fun H1 e1 => ?_
    refine q_asg (ev_var rfl) fun H2 e2 => ?_
    refine q_while (fun m σ' H' => Ex H H' ∧ ∃ a b : Int, σ' = [some (.int n), some (.int d), some (.int a), some (.int b)] ∧ 0 ≤ a ∧ 0 ≤ b ∧ m = b.toNat ∧ Int.gcd a b = Int.gcd n d) d.toNat ⟨e1.trans e2, n, d, rfl, hn, by omega, rfl, rfl⟩ ?_
    rintro m σ' H' ⟨e, a, b, rfl, ha, hb, rfl, hg⟩
    refine ⟨_, et_truI (ev_var rfl), fun hb2 H3 e3 => ?_, fun hb2 H3 e3 => ?_⟩
    · have hb0 : b ≠ 0 := by simpa using hb2
      refine ⟨_, fun _ _ h => h, ?_⟩
      refine s_par (ea_cons (ev_var rfl) (ea_cons (ev_op (ev_var rfl) (ev_var rfl) (rv_I (by omega))) ea_nil)) fun H4 e4 => ?_
      have h1 := Int.emod_nonneg a hb0
      have h2 := Int.emod_lt_of_pos a (by omega : 0 < b)
      exact ⟨(a % b).toNat, by omega, e.trans (e3.trans e4), b, a % b, rfl, hb, h1, rfl, by rw [KM.gcd_step a b ha (by omega)]; exact hg⟩
    · have hb0 : b = 0 := by simpa using hb2
      subst hb0
      have ea : a = (Int.gcd n d : Int) := by
        rw [← hg]
        simp
        omega
      have g0 : 0 < (Int.gcd n d : Int) := by
        have := Int.gcd_pos_of_ne_zero_right (b := d) n (by omega)
        omega
      have gle : (Int.gcd n d : Int) ≤ d := Int.le_of_dvd (by omega) (Int.gcd_dvd_right ..)
      have hc : ∀ i, CDiv i a := fun i => ⟨by omega, by omega⟩
      refine s_retU (xs := [.int (n / (Int.gcd n d : Int)), .int (d / (Int.gcd n d : Int))]) (eu_tup (ea_cons (ev_is (ev_op (ev_var rfl) (ev_var rfl) (rv_I (hc _))) (by rw [ea])) (ea_cons (ev_is (ev_op (ev_var rfl) (ev_var rfl) (rv_I (hc _))) (by rw [ea])) ea_nil)) (by show 2 ≤ 100000; decide)) fun t H4 ht0 e4 ht => ?_
      exact k _ _ (KM.lowest_of (by omega)) t H4 (fresh_back (e.trans e3) ht0) (e.trans (e3.trans e4)) ht
abbrev s_height : Stmt := top 29
abbrev n_height : List Str := ["tunnels", "weights", "length", "steps", "at", "low", "low_weight", "high", "high_weight"]
theorem sc_height : FnScope n_height ["tunnels", "weights", "length"] (defScope s_height) := ⟨rfl, rfl, rfl, by decide +kernel, rfl, by decide +kernel, by decide +kernel⟩
theorem b_height : BindsOk "height" "height" s_height ["tunnels", "weights", "length"] := fun _ _ _ _ _ _ us hl => match us, hl with | [_, _, _], _ => rfl
def spHeight (K : PySem.W.Frag) (CW CC : Addr) : Sp := fun vs H Q E => ∃ (p v : Addr) (par len ns : List Int) (x : Int), vs = [.ref p, .ref v, .int x] ∧ Pre K H p v par len ns ∧ (∀ i, wrong ns 0 par.length = some i → RaiseV CW "place" i H E) ∧
  (wrong ns 0 par.length = none → ((x < 0 ∨ len.sum < x) → RaiseV CC "number" x H E) ∧
    (0 ≤ x → x ≤ len.sum → ∀ Bs, KM.Stairs par len ns (walls par.length) Bs → ∀ i, KM.LineAt (KM.cornersFrom len ns [] Bs) x i → ∀ p' q', KM.Lowest (KM.lineNum (KM.cornersFrom len ns [] Bs) x i) (KM.lineDen (KM.cornersFrom len ns [] Bs) i) p' q' → RetPair p' q' H Q))
theorem refs_at {H : Hp} {rs : List V} {cs : List (Int × Int)} (h : Refs (PairAt H) rs cs) {i : Nat} (hi : i < cs.length) : ∃ q, rs[i]? = some (.ref q) ∧ H q = some (.tup [.int (KM.cAt cs i).1, .int (KM.cAt cs i).2]) := by
  obtain ⟨q, h1, h2⟩ := h.2 i _ (List.getElem?_eq_getElem hi)
  refine ⟨q, h1, ?_⟩
  have e : KM.cAt cs i = cs[i] := by
    unfold KM.cAt
    rw [List.getD_eq_getElem?_getD, List.getElem?_eq_getElem hi]
    rfl
  rw [e]
  exact h2
theorem ok_height (T : Txt K mg) (TC : XTxt P K mg "BadCount" "number" msgC qC xpC CC fC ccC cdC) (d_corners : Dfn P w K mg base 7 "corners" ["tunnels", "weights"] (spCorners K CW)) (d_lowest : Dfn P w K mg base 1 "lowest" ["numerator", "denominator"] (spLowest K))
    (F : FnP K "height" "height" s_height f fd) (g : mg "height" = some (.ref f)) : Dfn P w K mg base 8 "height" ["tunnels", "weights", "length"] (spHeight K CW CC) := by
  refine dfn_of F g sc_height b_height (fun vs H Q E h => ?_) (fun cdv A outer s H vs Q E hr h => ?_)
  · obtain ⟨_, _, _, _, _, _, rfl, _⟩ := h
    rfl
  · obtain ⟨p, v, par, len, ns, x, rfl, hP, k1, k2⟩ := h
    refine ⟨_, (pss_cons (ps_set (i := 3) sc_height.nd rfl (Or.inl rfl) (pe_fnS (L2N.takes_of rfl rfl rfl rfl) d_corners (hr.mono (by decide)) rfl (pa_cons (pv 0) (pa_cons (pv 1) pa_nil))))
    (pss_cons (ps_if (PW.pt (pw_or (pt_cmpR op_lt (pv 2) pe_int (nomark _)) (pw_or1 (pt_cmpR op_gt (pv 2) (pe_ix ix_tup (pe_ix ix_list (pv 3) (pe_un un_neg pe_int) (fun _ _ => rfl)) pe_int (fun _ _ => rfl)) (nomark _))))) (pss_one (ps_raiseX rfl TC (hr.mono (show 2 ≤ 7 by decide)) (L2N.takes_of rfl rfl rfl rfl) (pa_cons (pv 2) pa_nil) rfl)) pss_nil)
    (pss_cons (ps_set (i := 4) sc_height.nd rfl (Or.inl rfl) pe_int)
    (pss_cons (ps_while PassesOwn.leaving (pt_cmpR op_lt (pe_ix ix_tup (pe_ix ix_list (pv 3) (pv 4) (fun _ _ => rfl)) pe_int (fun _ _ => rfl)) (pv 2) (nomark _)) (pss_one (ps_aug (i := 4) sc_height.nd rfl (Or.inl rfl) pe_int ip_add)))
    (pss_cons (ps_asg (pe_ix ix_list (pv 3) (pe_op op_sub (pv 4) pe_int) (fun _ _ => rfl)) (pg_tup rfl (pgs_cons (pg_name (i := 5) sc_height.nd rfl (Or.inl rfl)) (pgs_cons (pg_name (i := 6) sc_height.nd rfl (Or.inl rfl)) pgs_nil))))
    (pss_cons (ps_asg (pe_ix ix_list (pv 3) (pv 4) (fun _ _ => rfl)) (pg_tup rfl (pgs_cons (pg_name (i := 7) sc_height.nd rfl (Or.inl rfl)) (pgs_cons (pg_name (i := 8) sc_height.nd rfl (Or.inl rfl)) pgs_nil))))
    (pss_one (ps_ret (pe_fn d_lowest (hr.mono (by decide)) rfl (pa_cons (pe_op op_add (pe_op op_mul (pv 6) (pe_op op_sub (pv 7) (pv 5))) (pe_op op_mul (pe_op op_sub (pv 8) (pv 6)) (pe_op op_sub (pv 2) (pv 5)))) (pa_cons (pe_op op_sub (pv 7) (pv 5)) pa_nil))))))))))), ?_⟩
    have O := hP.o
    have n8 := O.n8
    refine q_asgS (ea_cons (ev_var rfl) (ea_cons (ev_var rfl) ea_nil)) fun H1 e1 => ⟨p, v, par, len, ns, rfl, hP.ex e1, fun i hw => (k1 i hw).go e1, fun hw Bs hS l rs H2 hl0 e2 hl hR => ?_⟩
    have W := wok_of hw hP.b
    have C := KM.corners_of O.tr (fun v hv => (O.lb v hv).1) (fun v hv => (W.wb v hv).1) O.ll hS
    obtain ⟨k2, k3⟩ := k2 hw
    have k3 := fun a b => k3 a b Bs hS
    generalize KM.cornersFrom len ns [] Bs = cs at *
    have e12 := e1.trans e2
    have h2 := C.two
    have hlast := (KM.edges_last C.ed).1
    rw [← O.ll, KM.tot_walls] at hlast
    obtain ⟨q, hq1, hq2⟩ := refs_at hR (i := cs.length - 1) (by omega)
    refine q_when (b := decide (x < 0) || decide (len.sum < x)) (et_or (et_lt (ev_var rfl) ev_c) (fun _ => et_is (et_gt (ev_var rfl) (ev_op (ev_op (ev_var rfl) (ev_un ev_c ru_neg) (rv_ixL (sq_of hl) (atI_neg1 hq1 (by rw [hR.len]; omega)))) ev_c (rv_ixT (st_of hq2) rfl))) (by rw [hlast]))) (fun c H3 e3 => ?_) (fun c H3 e3 => ?_)
    · have c : x < 0 ∨ len.sum < x := by simpa using c
      exact s_raise (i := x) (ev_var rfl) (fun _ _ _ => rfl) ((k2 c).go (e12.trans e3))
    · have c : ¬ x < 0 ∧ ¬ len.sum < x := by simpa using c
      obtain ⟨i, hL⟩ := KM.line_exists h2 (x := x) (by rw [← hlast]; omega)
      have k3 := k3 (by omega) (by omega) i hL
      have e13 := e12.trans e3
      have R : ∀ {H' : Hp}, Ex H2 H' → ∀ {j : Nat}, j < cs.length → ∃ q, atI rs (j : Int) = some (.ref q) ∧ H' q = some (.tup [.int (KM.cAt cs j).1, .int (KM.cAt cs j).2]) := fun e j hj => by
        obtain ⟨q, h1, h2⟩ := refs_at hR hj
        exact ⟨q, atI_at h1, e _ _ h2⟩
      refine q_asg ev_c fun H4 e4 => ?_
      refine q_while (fun m σ' H' => Ex H2 H' ∧ ∃ j : Nat, 1 ≤ j ∧ j ≤ i ∧ m = i - j ∧ σ' = [some (.ref p), some (.ref v), some (.int x), some (.ref l), some (.int (j : Int)), none, none, none, none]) (i - 1) ⟨e3.trans e4, 1, Nat.le_refl _, hL.i1, rfl, rfl⟩ ?_
      rintro m σ' H' ⟨e, j, hj1, hj2, rfl, rfl⟩
      have hil := hL.il
      obtain ⟨q1, hq1, hq2⟩ := R e (j := j) (by omega)
      refine ⟨decide ((KM.cAt cs j).1 < x), et_lt (ev_op (ev_op (ev_var rfl) (ev_var rfl) (rv_ixL (sq_of (e _ _ hl)) hq1)) ev_c (rv_ixT (st_of hq2) rfl)) (ev_var rfl), fun hb H5 e5 => ?_, fun hb H5 e5 => ?_⟩
      · have hb := of_decide_eq_true hb
        have hji : j < i := by
          rcases Nat.lt_or_ge j i with h | h
          · exact h
          · have : j = i := by omega
            subst this
            have := hL.up
            omega
        refine ⟨_, fun _ _ h => h, ?_⟩
        exact s_aug (a := (j : Int)) rfl ev_c fun H6 e6 => ⟨i - (j + 1), by omega, e.trans (e5.trans e6), j + 1, by omega, by omega, rfl, rfl⟩
      · have hb := of_decide_eq_false hb
        have hji : j = i := by
          rcases Nat.lt_or_ge j i with h | h
          · have := hL.lo j hj1 h
            omega
          · omega
        subst hji
        have e5' := e.trans e5
        obtain ⟨q3, hq3, hq4⟩ := R e5' (j := j - 1) (by omega)
        have ej : (j : Int) - 1 = ((j - 1 : Nat) : Int) := by omega
        refine q_asgPair (ev_op (ev_var rfl) (ev_op (ev_var rfl) ev_c rv_I0) (rv_ixL (sq_of (e5' _ _ hl)) (by rw [ej]; exact hq3))) hq4 fun H6 e6 => ?_
        refine q_asgPair (ev_op (ev_var rfl) (ev_var rfl) (rv_ixL (sq_of (e5'.trans e6 _ _ hl)) hq1)) ((e5.trans e6) _ _ hq2) fun H7 e7 => ?_
        have hx0 : 0 ≤ x := by omega
        have hd := KM.lineDen_pos C hL
        have hlw := KM.line_low C hL hx0
        have hn := KM.lineNum_nonneg C hL (fun v hv => (W.wb v hv).1) hx0
        have le1 := KM.edges_le C.ed hil
        have b2 := tot_bound (vs := len) (m := 999) (fun v hv => ⟨by have := (O.lb v hv).1; omega, (O.lb v hv).2⟩) (by decide) (ws := walls par.length) (by rw [KM.walls_length]; exact n8)
        have lo0 : 0 ≤ (KM.cAt cs (j - 1)).1 := by
          obtain ⟨S, hS, hc⟩ := KM.edges_reach C.ed (j - 1) (by omega)
          rw [hc]
          exact KM.tot_nonneg (fun v hv => by have := (O.lb v hv).1; omega) S
        have hup := hL.up
        have hd' : 1 ≤ (KM.cAt cs j).1 - (KM.cAt cs (j - 1)).1 := hd
        refine s_retC (ea_cons (ev_op (ev_op (ev_var rfl) (ev_op (ev_var rfl) (ev_var rfl) rv_I0) (rv_I (.inr ⟨by omega, by omega⟩))) (ev_op (ev_op (ev_var rfl) (ev_var rfl) rv_I0) (ev_op (ev_var rfl) (ev_var rfl) rv_I0) (rv_I (.inr ⟨by omega, by omega⟩))) rv_I0) (ea_cons (ev_op (ev_var rfl) (ev_var rfl) rv_I0) ea_nil)) fun H8 e8 => ?_
        refine ⟨_, _, rfl, hn, hd, by omega, fun p' q' hlw t H9 ht0 e9 ht => ?_⟩
        have ee := e12.trans ((e5'.trans e6).trans (e7.trans e8))
        exact k3 p' q' hlw t H9 (fresh_back ee ht0) (ee.trans e9) ht
end
end K61
/-! xs[::k], k > 0 -/
namespace K61
open PySem PySem.Spec PyProof.Rows L2 Evl
theorem vals_pick {xs : List V} {us : List Value} (r : Vals xs us) : ∀ idx : List Nat, Vals (idx.filterMap (xs[·]?)) (idx.filterMap (us[·]?))
  | [] => .nil
  | i :: idx => by
    cases h : xs[i]? with
    | none =>
      have h2 := r.none_of h
      rw [List.filterMap_cons_none h, List.filterMap_cons_none h2]
      exact vals_pick r idx
    | some x =>
      obtain ⟨u, h2, hr⟩ := r.get h
      rw [List.filterMap_cons_some h, List.filterMap_cons_some h2]
      exact .cons hr (vals_pick r idx)
def tStepL (K : PySem.W.Frag) (te ts : TE) : TE := fun σ H Q => te σ H fun x H1 => ts σ H1 fun y H2 => ∃ a xs k, x = .ref a ∧ y = .int k ∧ 0 < k ∧ SqL K H2 a xs ∧ ∀ p ys, H2 p = none → (∀ v ∈ ys, v ∈ xs) → ys.length ≤ xs.length → Q (.ref p) (upd H2 p (.lst ys))
section
variable {X : Cx}
theorem pe_stepL {e st : Expr} {te ts : TE} {p3 pos : Pos} (he : PE X e te) (hs : PE X st ts) : PE X (.Subscript e (.Slice none none (some st) p3) pos) (tStepL X.K te ts) := by
  refine ⟨fun pins s σ H Q I h => ?_⟩
  refine Subscript_ (thn (he.run pins s σ H _ I h) fun v s1 ⟨x, H1, I1, r1, q1⟩ => ?_)
  refine wpAny_Slice (thn (po_none.run pins s1 σ H1 (fun o H2 => o = none ∧ H2 = H1) I1 ⟨rfl, rfl⟩) fun vl s2 ⟨l, H2, I2, pl, el, e2⟩ => ?_)
  subst el e2
  refine thn (po_none.run pins s2 σ H2 (fun o H3 => o = none ∧ H3 = H2) I2 ⟨rfl, rfl⟩) fun vu s3 ⟨u, H3, I3, pu, eu, e3⟩ => ?_
  subst eu e3
  rw [evalPart_some]
  refine thn (hs.run pins s3 σ H3 _ I3 q1) fun vs s4 ⟨o, H4, I4, ps, q4⟩ => ?_
  obtain ⟨a, xs, k, ex, eo, hk, hx, q⟩ := q4
  subst ex eo
  obtain ⟨t, rfl⟩ := ps
  cases r1
  have I5 : Inv X pins σ H4 { s4 with heap := s4.heap.push { cls := .type "slice", data := .fields #[vl, vu, .int k t] } } := I4.kept (t' := s4.toks) fun b ob q => Heap.get?_push_of_some _ q
  obtain ⟨its, r, ht, hz⟩ := I5.list hx
  have hlen := r.length
  show wpAny (model X.prog X.w) X.A (subscriptTail e (.Slice none none (some st) p3) (.ref a) (.ref s4.heap.objs.size)) (EP X pins σ Q) X.xe { s4 with heap := s4.heap.push { cls := .type "slice", data := .fields #[vl, vu, .int k t] } }
  refine tail_any (ops := [.ref a, .ref s4.heap.objs.size]) ht.isList.typeIs (PySem.slot_list_getitem.lookup) ?_ (by with_unfolding_all rfl)
  refine wpAny_getItem_list_slice ht.isList (Heap.IsSliceOf.new _ vl vu (.int k t)) pl pu (.int k t) (fun c => by cases c; omega) ?_ (by rw [List.size_toArray]; omega)
  have hp := slicePick_size_le its.toArray none none (some k)
  have ef : (fun (x : Nat) => its[x]?) = (fun x => its.toArray[x]?) := by
    funext x
    simp
  have rv := vals_pick r (sliceRange (sliceBounds none none (some k) its.toArray.size).1 (sliceBounds none none (some k) its.toArray.size).2.1 (sliceBounds none none (some k) its.toArray.size).2.2)
  rw [ef] at rv
  generalize hys : (sliceRange (sliceBounds none none (some k) its.toArray.size).1 (sliceBounds none none (some k) its.toArray.size).2.1 (sliceBounds none none (some k) its.toArray.size).2.2).filterMap (xs[·]?) = ys at rv
  have hyl : ys.length ≤ xs.length := by
    have h1 := rv.length
    have : (slicePick its.toArray none none (some k)).size = ys.length := by
      rw [h1]
      unfold slicePick
      rw [List.size_toArray]
    rw [this, List.size_toArray] at hp
    omega
  refine ⟨.ref _, _, I5.laid (t' := s4.toks) (o := .lst ys) (fun b ob q => Heap.get?_push_of_some _ q) (Nat.le_refl _) ?_, rfl, q _ ys (I5.hok.fresh (Nat.le_refl _)) (fun v hv => ?_) hyl⟩
  · exact ⟨by omega, _, 0, rv, Heap.get?_push_size _ rfl⟩
  · rw [← hys] at hv
    obtain ⟨i, _, hi⟩ := List.mem_filterMap.mp hv
    exact List.mem_of_getElem? hi
end
end K61
/-! the tape: _law_tape, _law_next, _law_parents -/
namespace K61
open PySem PySem.Spec PyProof.Rows L2 Evl
open KM (nth tot walls)
structure TapeIs (H : Hp) (t a : Addr) (cells : List Int) (c1 c2 c3 c4 : Int) : Prop where
  h : H t = some (.lst [.ref a, .int c1, .int c2, .int c3, .int c4])
  ha : H a = some (.lst (ils cells))
  p : 0 ≤ c1
  l : cells.length ≤ 1000
def TapeAt (H : Hp) (t a : Addr) : Prop := ∃ cells c1 c2 c3 c4, TapeIs H t a cells c1 c2 c3 c4
theorem TapeIs.ne {H : Hp} {t a : Addr} {cells : List Int} {c1 c2 c3 c4 : Int} (h : TapeIs H t a cells c1 c2 c3 c4) : a ≠ t := fun c => by
  subst c
  have h1 := h.h
  rw [h.ha] at h1
  cases cells with
  | nil => simp at h1
  | cons x xs => simp at h1
theorem TapeIs.ex {H H' : Hp} {t a : Addr} {cells : List Int} {c1 c2 c3 c4 : Int} (e : Ex H H') (h : TapeIs H t a cells c1 c2 c3 c4) : TapeIs H' t a cells c1 c2 c3 c4 := ⟨e _ _ h.h, e _ _ h.ha, h.p, h.l⟩
theorem TapeIs.set {H : Hp} {t a : Addr} {cells : List Int} {c1 c2 c3 c4 d1 d2 d3 d4 : Int} (h : TapeIs H t a cells c1 c2 c3 c4) (p : 0 ≤ d1) : TapeIs (upd H t (.lst [.ref a, .int d1, .int d2, .int d3, .int d4])) t a cells d1 d2 d3 d4 :=
  ⟨upd_same, by rw [upd_ne h.ne]; exact h.ha, p, h.l⟩
theorem TapeAt.ex {H H' : Hp} {t a : Addr} (e : Ex H H') (h : TapeAt H t a) : TapeAt H' t a := by
  obtain ⟨c, c1, c2, c3, c4, h⟩ := h
  exact ⟨c, c1, c2, c3, c4, h.ex e⟩
theorem TapeAt.upd {H : Hp} {t a l : Addr} {o : HO} (h : TapeAt H t a) (h1 : l ≠ t) (h2 : l ≠ a) : TapeAt (L2.upd H l o) t a := by
  obtain ⟨c, c1, c2, c3, c4, h⟩ := h
  exact ⟨c, c1, c2, c3, c4, by rw [upd_ne (Ne.symm h1)]; exact h.h, by rw [upd_ne (Ne.symm h2)]; exact h.ha, h.p, h.l⟩
theorem TapeAt.fresh {H : Hp} {t a l : Addr} (h : TapeAt H t a) (hl : H l = none) : l ≠ t ∧ l ≠ a := by
  obtain ⟨c, c1, c2, c3, c4, h⟩ := h
  refine ⟨fun c => ?_, fun c => ?_⟩
  · subst c
    have := h.h
    rw [hl] at this
    cases this
  · subst c
    have := h.ha
    rw [hl] at this
    cases this
/-- the tape goes on, all else stays -/
def XT (t a : Addr) (H H' : Hp) : Prop := ExB t H H' ∧ TapeAt H' t a
theorem XT.refl {H : Hp} {t a : Addr} (h : TapeAt H t a) : XT t a H H := ⟨fun _ _ _ h => h, h⟩
theorem XT.trans {H H1 H2 : Hp} {t a : Addr} (x : XT t a H H1) (y : XT t a H1 H2) : XT t a H H2 := ⟨x.1.trans y.1, y.2⟩
theorem XT.ex {H H1 H2 : Hp} {t a : Addr} (x : XT t a H H1) (e : Ex H1 H2) : XT t a H H2 := ⟨x.1.trans (Ex.exb e), x.2.ex e⟩
theorem XT.of {H H1 : Hp} {t a : Addr} (x : TapeAt H t a) (e : Ex H H1) : XT t a H H1 := ⟨(Ex.exb e), x.ex e⟩
theorem XT.at {H H1 : Hp} {t a l : Addr} {o : HO} (x : XT t a H H1) (hl : l ≠ t) (h : H l = some o) : H1 l = some o := x.1 _ _ hl h
theorem XT.back {H H1 : Hp} {t a l : Addr} (x : XT t a H H1) (ht : TapeAt H t a) (hl : H1 l = none) : H l = none := by
  have h1 := (x.2.fresh hl).1
  cases q : H l with
  | none => rfl
  | some o =>
    rw [x.at h1 q] at hl
    cases hl
/-- all but an object that is new stay -/
theorem XT.mut {H H1 : Hp} {t a l : Addr} {o : HO} (x : XT t a H H1) (ht : TapeAt H t a) (hl : H l = none) : XT t a H (upd H1 l o) := by
  obtain ⟨h1, h2⟩ := ht.fresh hl
  refine ⟨fun y u hy hu => ?_, x.2.upd h1 h2⟩
  have : y ≠ l := fun c => by
    subst c
    rw [hl] at hu
    cases hu
  rw [upd_ne this]
  exact x.1 y u hy hu
def EvI (t a : Addr) (te : TE) (σ : L2.St) (H : Hp) (P : Int → Prop) : Prop := ∀ H1, XT t a H H1 → ∀ Q : VK, (∀ i H2, P i → XT t a H1 H2 → Q (.int i) H2) → te σ H1 Q
section
variable {K : PySem.W.Frag} {H H' : Hp} {σ : L2.St} {ta tb te tv : TE} {tt : TT} {D : Ends} {tu tw tz : TS} {t a : Addr} {P A B : Int → Prop}
theorem ev_int1 {i : Int} (h : Ev te σ H (.int i)) : Ev (tCB (fun xs H Q => (∃ i, xs = [V.int i] ∧ Q (.int i) H) ∨ ∃ k, xs = [V.bl k] ∧ Q (.int (if k then 1 else 0)) H) (tCons te tNil)) σ H (.int i) := fun H1 e Q q => h H1 e _ fun H2 e2 => .inl ⟨i, rfl, q H2 e2⟩
theorem s_retL1 {xs : List V} {tx : TA} (h : EvL te σ H xs) (k : ∀ p H1, H p = none → Ex H H1 → H1 p = some (.lst xs) → tx σ H1 (fun vs H2 => (V.ref p :: vs).length ≤ sizeLine ∧ ∀ r, H2 r = none → D.rt (.ref r) (upd H2 r (.lst (.ref p :: vs))))) : tRet (tLst (tCons te tx)) D σ H := h H (Ex.refl H) _ k
theorem ei_ev {i : Int} (h : ∀ H1, XT t a H H1 → Ev te σ H1 (.int i)) (hp : P i) : EvI t a te σ H P := fun H1 e Q q => h H1 e H1 (Ex.refl H1) _ fun H2 e2 => q i H2 hp (XT.of e.2 e2)
theorem ei_c {i : Int} (hp : P i) : EvI t a (tC (.int i)) σ H P := ei_ev (fun _ _ => ev_c) hp
theorem ei_var {j : Nat} {i : Int} (h : σ[j]? = some (some (.int i))) (hp : P i) : EvI t a (tVar j) σ H P := ei_ev (fun _ _ => ev_var h) hp
theorem ei_op {C : Int → Int → Prop} {g : Int → Int → Int} (h1 : EvI t a ta σ H A) (h2 : EvI t a tb σ H B) (hc : ∀ i j, A i → B j → C i j ∧ P (g i j)) : EvI t a (tOp (rI C fun i j => .int (g i j)) ta tb) σ H P := fun H1 e Q q =>
  h1 H1 e _ fun i H2 hi e2 => h2 H2 (e.trans e2) _ fun j H3 hj e3 => ⟨i, j, rfl, rfl, (hc i j hi hj).1, q _ H3 (hc i j hi hj).2 (e2.trans e3)⟩
theorem ei_op0 {g : Int → Int → Int} (h1 : EvI t a ta σ H A) (h2 : EvI t a tb σ H B) (hc : ∀ i j, A i → B j → P (g i j)) : EvI t a (tOp (rI0 fun i j => .int (g i j)) ta tb) σ H P := fun H1 e Q q =>
  h1 H1 e _ fun i H2 hi e2 => h2 H2 (e.trans e2) _ fun j H3 hj e3 => ⟨i, j, rfl, rfl, q _ H3 (hc i j hi hj) (e2.trans e3)⟩
theorem q_asgI {j : Nat} (hT : TapeAt H t a) (h : EvI t a te σ H P) (k : ∀ i H1, P i → XT t a H H1 → tz D (σ.set j (some (.int i))) H1) : tSeq (tAsg te (gName j)) tz D σ H := h H (XT.refl hT) _ k
theorem s_asgI {j : Nat} (hT : TapeAt H t a) (h : EvI t a te σ H P) (k : ∀ i H1, P i → XT t a H H1 → D.nx (σ.set j (some (.int i))) H1) : tAsg te (gName j) D σ H := h H (XT.refl hT) _ k
theorem s_appI {j : Nat} {l : Addr} {xs : List V} (hT : TapeAt H t a) (hl : H l = some (.lst xs)) (hlt : l ≠ t) (hj : σ[j]? = some (some (.ref l))) (h : EvI t a te σ H P) (hz : xs.length < 100000) (k : ∀ i H1, P i → XT t a H H1 → D.nx σ (upd H1 l (.lst (xs ++ [.int i])))) :
    tDrop (tBM K "list" rAppend (tVar j) (tCons te tNil)) D σ H := ⟨_, hj, Or.inl ⟨rfl, xs, sq_of hl⟩, h H (XT.refl hT) _ fun i H2 hi e2 => ⟨l, xs, .int i, rfl, rfl, e2.at hlt hl, sz_lt hz, k i H2 hi e2⟩⟩
theorem s_ifI {i : Int} (hT : TapeAt H t a) (h : EvI t a te σ H P) (hu : ∀ d H1, P d → XT t a H H1 → (d = i → tu D σ H1) ∧ (d ≠ i → tw D σ H1)) : tIfS (tTest (tOp rEq te (tC (.int i)))) tu tw D σ H := h H (XT.refl hT) _ fun d H1 hd e1 => by
  show scal (.int d) (.int i) = true ∧ ∃ b, V.bl (decide (V.int d = V.int i)) = .bl b ∧ if b = true then tu D σ H1 else tw D σ H1
  refine ⟨rfl, _, rfl, ?_⟩
  by_cases c : d = i
  · subst c
    rw [if_pos (by simp)]
    exact (hu d H1 hd e1).1 rfl
  · rw [if_neg (by simpa using c)]
    exact (hu d H1 hd e1).2 c
end
section
variable {P : Program} {w : World} {K : PySem.W.Frag} {mg : Str → Option Value} {base : Heap} {f : Addr} {fd : FuncData}
abbrev s__law_tape : Stmt := top 31
abbrev n__law_tape : List Str := ["_law_script", "_law_cell"]
theorem sc__law_tape : FnScope n__law_tape ["_law_script"] (defScope s__law_tape) := ⟨rfl, rfl, rfl, by decide +kernel, rfl, by decide +kernel, by decide +kernel⟩
theorem b__law_tape : BindsOk "_law_tape" "_law_tape" s__law_tape ["_law_script"] := fun _ _ _ _ _ _ us hl => match us, hl with | [_], _ => rfl
def spTape (K : PySem.W.Frag) : Sp := fun vs H Q _ => ∃ (s : Addr) (ns : List Int), vs = [.ref s] ∧ SqL K H s (ils ns) ∧ ns.length ≤ 1000 ∧ ∀ t a H', H t = none → Ex H H' → TapeAt H' t a → H a = none → Q (.ref t) H'
theorem ok__law_tape (T : Txt K mg) (F : FnP K "_law_tape" "_law_tape" s__law_tape f fd) (g : mg "_law_tape" = some (.ref f)) : Dfn P w K mg base 1 "_law_tape" ["_law_script"] (spTape K) := by
  refine dfn_of F g sc__law_tape b__law_tape (fun vs H Q E h => ?_) (BodyN.ok fun cdv A outer s H vs Q E hr h => ?_)
  · obtain ⟨_, _, rfl, _⟩ := h
    rfl
  · obtain ⟨s0, ns, rfl, hS, hl, k⟩ := h
    refine ⟨_, (pss_one (ps_ret (pe_lst (pa_cons (pe_lc (own := [("_law_cell", 1)]) (g := gName 1) (tt := tYes) rfl sc__law_tape.nd (pi_list (pv 0)) (blkOk_by (own := [("_law_cell", 1)]) (N := n__law_tape) (sc := defScope s__law_tape) (by decide +kernel)) (fun _ _ _ _ _ => pg_name (i := 1) sc__law_tape.nd rfl (Or.inl rfl)) (fun _ _ _ _ _ => pts_nil) (fun _ _ _ _ _ => (pe_callB call_abs rfl T.abs (by decide +kernel) (pa_cons (pe_callTy call_int1 rfl T.int (by decide +kernel) (pa_cons (pv 1) pa_nil)) pa_nil)))) (pa_cons pe_int (pa_cons pe_int (pa_cons pe_int (pa_cons pe_int pa_nil)))))))), ?_⟩
    refine s_retL1 (el_is (el_lcL (fun _ => true) (fun i => .int (if ns.getD i 0 < 0 then -ns.getD i 0 else ns.getD i 0)) (ev_var rfl) hS (by rw [ils_length]; omega) (fun _ => rfl) (fun _ _ _ _ _ => et_yes) (fun i x H3 e3 hi _ => ?_)) (given_ils (ns := ns) (g := fun x => if x < 0 then -x else x) (by rw [ils_length]))) fun a H1 ha0 e1 ha => ?_
    · obtain ⟨hi2, rfl, hm⟩ := ils_mem hi
      exact ev_abs (ev_int1 (ev_var rfl))
    · exact ⟨by show 5 ≤ sizeLine; decide, fun t ht => k t a _ (fresh_back e1 ht) (e1.trans (Ex.new ht)) ⟨_, 0, 0, 0, 0, upd_same, Ex.new ht _ _ ha, Int.le_refl _, by rw [List.length_map]; exact hl⟩ ha0⟩
abbrev s__law_next : Stmt := top 32
abbrev n__law_next : List Str := ["_law_tape_here", "_law_size", "_law_cell", "_law_digit", "_law_mixed"]
theorem sc__law_next : FnScope n__law_next ["_law_tape_here", "_law_size"] (defScope s__law_next) := ⟨rfl, rfl, rfl, by decide +kernel, rfl, by decide +kernel, by decide +kernel⟩
theorem b__law_next : BindsOk "_law_next" "_law_next" s__law_next ["_law_tape_here", "_law_size"] := fun _ _ _ _ _ _ us hl => match us, hl with | [_, _], _ => rfl
def spNext : Sp := fun vs H Q _ => ∃ (t a : Addr) (size : Int), vs = [.ref t, .int size] ∧ TapeAt H t a ∧ 0 < size ∧ size < 1073741824 ∧ ∀ d H', 0 ≤ d → d < size → XT t a H H' → Q (.int d) H'
theorem ok__law_next (T : Txt K mg) (F : FnP K "_law_next" "_law_next" s__law_next f fd) (g : mg "_law_next" = some (.ref f)) : Dfn P w K mg base 1 "_law_next" ["_law_tape_here", "_law_size"] spNext := by
  refine dfn_of F g sc__law_next b__law_next (fun vs H Q E h => ?_) (BodyN.ok fun cdv A outer s H vs Q E hr h => ?_)
  · obtain ⟨_, _, _, rfl, _⟩ := h
    rfl
  · obtain ⟨t, a, size, rfl, ⟨cells, c1, c2, c3, c4, hT⟩, h0, h1, k⟩ := h
    refine ⟨_, (pss_cons (ps_asg (pe_op op_add (pe_ix ix_list (pv 0) pe_int (fun _ _ => rfl)) pe_int) (pg_sub (pv 0) pe_int set_list))
    (pss_cut (ps_if (PW.pt (pw_and (pt_cmpR op_eq (pe_ix ix_list (pv 0) pe_int (fun _ _ => rfl)) pe_int (nomark _)) (pw_and (pt_cmpR op_lt (pe_ix ix_list (pv 0) pe_int (fun _ _ => rfl)) (pe_callB call_len_seq rfl T.len PySem.boot_len (pa_cons (pe_ix ix_list (pv 0) pe_int (fun _ _ => rfl)) pa_nil)) (nomark _)) (pw_and1 (pt_cmpR op_eq (pe_op op_mod (pe_callTy call_int1 rfl T.int (by decide +kernel) (pa_cons (pe_ix ix_list (pv 0) pe_int (fun _ _ => rfl)) pa_nil)) pe_int) pe_int (nomark _)))))) (pss_cons (ps_set (i := 2) sc__law_next.nd rfl (Or.inl rfl) (pe_ix ix_list (pe_ix ix_list (pv 0) pe_int (fun _ _ => rfl)) (pe_ix ix_list (pv 0) pe_int (fun _ _ => rfl)) (fun _ _ => rfl)))
    (pss_cons (ps_asg (pe_op op_add (pe_ix ix_list (pv 0) pe_int (fun _ _ => rfl)) pe_int) (pg_sub (pv 0) pe_int set_list))
    (pss_one (ps_if (pt_cmpR op_ge (pv 2) (pe_op op_pow pe_int pe_int) (nomark _)) (pss_one (ps_asg (pv 2) (pg_sub (pv 0) pe_int set_list))) (pss_one (ps_asg (pv 2) (pg_sub (pv 0) pe_int set_list))))))) pss_nil)
    (pss_cons (ps_if (pt_cmpR op_gt (pe_ix ix_list (pv 0) pe_int (fun _ _ => rfl)) pe_int (nomark _)) (pss_cons (ps_set (i := 3) sc__law_next.nd rfl (Or.inl rfl) (pe_op op_mod (pe_callTy call_int1 rfl T.int (by decide +kernel) (pa_cons (pe_ix ix_list (pv 0) pe_int (fun _ _ => rfl)) pa_nil)) (pv 1)))
    (pss_cons (ps_asg (pe_op op_fdiv (pe_ix ix_list (pv 0) pe_int (fun _ _ => rfl)) (pv 1)) (pg_sub (pv 0) pe_int set_list))
    (pss_one (ps_ret (pv 3))))) pss_nil)
    (pss_cons (ps_set (i := 4) sc__law_next.nd rfl (Or.inl rfl) (pe_op op_mod (pe_callTy call_int1 rfl T.int (by decide +kernel) (pa_cons (pe_op op_add (pe_op op_add (pe_ix ix_list (pv 0) pe_int (fun _ _ => rfl)) (pe_op op_mul pe_int (pe_ix ix_list (pv 0) pe_int (fun _ _ => rfl)))) pe_int) pa_nil)) pe_int))
    (pss_cons (ps_set (i := 4) sc__law_next.nd rfl (Or.inl rfl) (pe_op op_mod (pe_callTy call_int1 rfl T.int (by decide +kernel) (pa_cons (pe_op op_mul (pv 4) (pe_op op_add (pv 4) pe_int)) pa_nil)) pe_int))
    (pss_cons (ps_set (i := 4) sc__law_next.nd rfl (Or.inl rfl) (pe_op op_mod (pe_callTy call_int1 rfl T.int (by decide +kernel) (pa_cons (pe_op op_add (pe_op op_mul (pv 4) (pe_op op_add (pv 4) pe_int)) (pe_op op_mul pe_int (pe_ix ix_list (pv 0) pe_int (fun _ _ => rfl)))) pa_nil)) pe_int))
    (pss_one (ps_ret (pe_op op_mod (pe_callTy call_int1 rfl T.int (by decide +kernel) (pa_cons (pe_op op_fdiv (pv 4) pe_int) pa_nil)) (pv 1)))))))))), ?_⟩
    refine q_setL (j := 4) hT.h (ev_op (ev_op (ev_var rfl) ev_c (rv_ixL (sq_of hT.h) rfl)) ev_c rv_I0) (ev_var rfl) (ev_is ev_c rfl) (by show 4 < 5; decide) fun H1 e1 => ?_
    have hT1 : TapeIs (upd H1 t (.lst ([.ref a, .int c1, .int c2, .int c3, .int c4].set 4 (.int (c4 + 1))))) t a cells c1 c2 c3 (c4 + 1) := (hT.ex e1).set hT.p
    have x1 : ExB t H (upd H1 t (.lst ([.ref a, .int c1, .int c2, .int c3, .int c4].set 4 (.int (c4 + 1))))) := (Ex.exb e1).trans ExB.upd
    generalize upd H1 t (.lst ([.ref a, .int c1, .int c2, .int c3, .int c4].set 4 (.int (c4 + 1)))) = H2 at *
    generalize c4 + 1 = c4 at *
    clear hT e1 H1
    refine q_cut (M := fun σ' H' => ∃ u c1 c2 c3 c4, σ' = [some (.ref t), some (.int size), u, none, none] ∧ ExB t H H' ∧ TapeIs H' t a cells c1 c2 c3 c4) ?_ ?_
    · refine s_when (et_and (et_eqI (ev_op (ev_var rfl) ev_c (rv_ixL (sq_of hT1.h) rfl)) ev_c) (fun _ => et_and (et_lt (ev_op (ev_var rfl) ev_c (rv_ixL (sq_of hT1.h) rfl)) (ev_is (ev_lenS (ev_op (ev_var rfl) ev_c (rv_ixL (sq_of hT1.h) rfl)) (.inl (sq_of hT1.ha))) (by rw [ils_length])))
        (fun _ => et_eqI (ev_op (ev_int1 (ev_op (ev_var rfl) ev_c (rv_ixL (sq_of hT1.h) rfl))) ev_c (rv_I (by decide))) ev_c))) (fun c H3 e3 => ?_) (fun c H3 e3 => ⟨_, c1, c2, c3, c4, rfl, x1.trans (Ex.exb e3), hT1.ex e3⟩)
      have c := (Bool.and_eq_true_iff.mp (Bool.and_eq_true_iff.mp c).2).1
      have c := of_decide_eq_true c
      have p := hT1.p
      have ei : c1 = ((c1.toNat : Nat) : Int) := by omega
      have hT3 := hT1.ex e3
      refine q_asg (ev_op (ev_op (ev_var rfl) ev_c (rv_ixL (sq_of hT3.h) rfl)) (ev_op (ev_var rfl) ev_c (rv_ixL (sq_of hT3.h) rfl)) (rv_ixL (sq_of hT3.ha) (by rw [ei]; exact at_ils (by omega)))) fun H4 e4 => ?_
      have hT4 := hT3.ex e4
      generalize cells.getD c1.toNat 0 = cell
      refine q_setL (j := 1) hT4.h (ev_op (ev_op (ev_var rfl) ev_c (rv_ixL (sq_of hT4.h) rfl)) ev_c rv_I0) (ev_var rfl) (ev_is ev_c rfl) (by show 1 < 5; decide) fun H5 e5 => ?_
      have hT5 : TapeIs (upd H5 t (.lst ([.ref a, .int c1, .int c2, .int c3, .int c4].set 1 (.int (c1 + 1))))) t a cells (c1 + 1) c2 c3 c4 := (hT4.ex e5).set (by omega)
      have x5 : ExB t H (upd H5 t (.lst ([.ref a, .int c1, .int c2, .int c3, .int c4].set 1 (.int (c1 + 1))))) := ((x1.trans (Ex.exb e3)).trans (Ex.exb (e4.trans e5))).trans ExB.upd
      generalize upd H5 t (.lst ([.ref a, .int c1, .int c2, .int c3, .int c4].set 1 (.int (c1 + 1)))) = H6 at *
      refine s_if (et_ge (ev_var rfl) (ev_op ev_c ev_c (rv_I ⟨by decide, by decide, by decide⟩))) (fun c H7 e7 => ?_) (fun c H7 e7 => ?_)
      · refine s_setL (j := 2) (e7 _ _ hT5.h) (ev_var rfl) (ev_var rfl) (ev_is ev_c rfl) (by show 2 < 5; decide) fun H8 e8 => ?_
        exact ⟨_, c1 + 1, cell, c3, c4, rfl, (x5.trans (Ex.exb (e7.trans e8))).trans ExB.upd, ((hT5.ex e7).ex e8).set (by omega)⟩
      · refine s_setL (j := 3) (e7 _ _ hT5.h) (ev_var rfl) (ev_var rfl) (ev_is ev_c rfl) (by show 3 < 5; decide) fun H8 e8 => ?_
        exact ⟨_, c1 + 1, c2, cell, c4, rfl, (x5.trans (Ex.exb (e7.trans e8))).trans ExB.upd, ((hT5.ex e7).ex e8).set (by omega)⟩
    · clear hT1 x1 c1 c2 c3 c4
      rintro σ' H3 ⟨u, c1, c2, c3, c4, rfl, x3, hT⟩
      refine q_when (et_gt (ev_op (ev_var rfl) ev_c (rv_ixL (sq_of hT.h) rfl)) ev_c) (fun c H4 e4 => ?_) (fun c H4 e4 => ?_)
      · have hT4 := hT.ex e4
        refine q_asg (ev_op (ev_int1 (ev_op (ev_var rfl) ev_c (rv_ixL (sq_of hT4.h) rfl))) (ev_var rfl) (rv_I h0)) fun H5 e5 => ?_
        have hT5 := hT4.ex e5
        refine q_setL (j := 2) hT5.h (ev_op (ev_op (ev_var rfl) ev_c (rv_ixL (sq_of hT5.h) rfl)) (ev_var rfl) (rv_I ⟨h0, h1⟩)) (ev_var rfl) (ev_is ev_c rfl) (by show 2 < 5; decide) fun H6 e6 => ?_
        refine s_ret (ev_var rfl) fun H7 e7 => ?_
        refine k _ H7 (Int.emod_nonneg _ (by omega)) (Int.emod_lt_of_pos _ h0) ⟨((x3.trans (Ex.exb (e4.trans (e5.trans e6)))).trans ExB.upd).trans (Ex.exb e7), cells, c1, _, c3, c4, ((hT5.ex e6).set hT.p).ex e7⟩
      · have hT4 := hT.ex e4
        refine q_asg (ev_op (ev_int1 (ev_op (ev_op (ev_op (ev_var rfl) ev_c (rv_ixL (sq_of hT4.h) rfl)) (ev_op ev_c (ev_op (ev_var rfl) ev_c (rv_ixL (sq_of hT4.h) rfl)) (rv_I (.inl (by decide)))) rv_I0) ev_c rv_I0)) ev_c (rv_I (by decide))) fun H5 e5 => ?_
        have m0 := Int.emod_nonneg (c3 + 7919 * c4 + 13) (by decide : (2147483647 : Int) ≠ 0)
        have m1 := Int.emod_lt_of_pos (c3 + 7919 * c4 + 13) (by decide : (0 : Int) < 2147483647)
        generalize (c3 + 7919 * c4 + 13) % 2147483647 = m at *
        refine q_asg (ev_op (ev_int1 (ev_op (ev_var rfl) (ev_op (ev_var rfl) ev_c rv_I0) (rv_I (.inl ⟨by omega, by omega⟩)))) ev_c (rv_I (by decide))) fun H6 e6 => ?_
        have n0 := Int.emod_nonneg (m * (m + 48271)) (by decide : (2147483629 : Int) ≠ 0)
        have n1 := Int.emod_lt_of_pos (m * (m + 48271)) (by decide : (0 : Int) < 2147483629)
        generalize m * (m + 48271) % 2147483629 = n at *
        have hT6 := hT4.ex (e5.trans e6)
        refine q_asg (ev_op (ev_int1 (ev_op (ev_op (ev_var rfl) (ev_op (ev_var rfl) ev_c rv_I0) (rv_I (.inl ⟨by omega, by omega⟩))) (ev_op ev_c (ev_op (ev_var rfl) ev_c (rv_ixL (sq_of hT6.h) rfl)) (rv_I (.inl (by decide)))) rv_I0)) ev_c (rv_I (by decide))) fun H7 e7 => ?_
        refine s_ret (ev_op (ev_int1 (ev_op (ev_var rfl) ev_c (rv_I ⟨by decide, by decide⟩))) (ev_var rfl) (rv_I h0)) fun H8 e8 => ?_
        have ee := e4.trans ((e5.trans e6).trans (e7.trans e8))
        exact k _ H8 (Int.emod_nonneg _ (by omega)) (Int.emod_lt_of_pos _ h0) ⟨x3.trans (Ex.exb ee), cells, c1, c2, c3, c4, hT.ex ee⟩
end
end K61
/-! _law_parents, _law_spoilt, _law_dug -/
namespace K61
open PySem PySem.Spec PyProof.Rows L2 Evl
open KM (nth tot walls)
theorem sq_exb {K : PySem.W.Frag} {H H' : Hp} {t l : Addr} {xs : List V} (e : ExB t H H') (n : l ≠ t) (h : SqL K H l xs) : SqL K H' l xs := by
  rcases h with (h | ⟨o, h⟩) | h
  · exact .inl (.inl (e _ _ n h))
  · exact .inl (.inr ⟨o, e _ _ n h⟩)
  · exact .inr h
section
variable {K : PySem.W.Frag} {H H' : Hp} {σ : L2.St} {ta tb te tv : TE} {tt : TT} {D : Ends} {tu tw tz : TS} {t a : Addr} {P A B : Int → Prop}
theorem ei_next {i : Nat} (hi : σ[i]? = some (some (.ref t))) (h : EvI t a te σ H (fun s => 0 < s ∧ s < 1073741824 ∧ ∀ d, 0 ≤ d → d < s → P d)) : EvI t a (tCall spNext [] E0 (tCons (tVar i) (tCons te tNil))) σ H P := fun H1 e Q q =>
  ⟨_, hi, h H1 e _ fun s H2 hs e2 => ⟨t, a, s, rfl, e2.2, hs.1, hs.2.1, fun d H3 h0 h1 e3 => q d H3 (hs.2.2 d h0 h1) (e2.trans e3)⟩⟩
theorem s_ifAI {b : Bool} {i : Int} {t1 : TT} (hT : TapeAt H t a) (h1 : EvT t1 σ H b) (h : b = true → EvI t a te σ H P) (hu : ∀ H1, XT t a H H1 → b = true → tu D σ H1) (hw : ∀ H1, XT t a H H1 → tw D σ H1) : tIfS (tAnd t1 (tTest (tOp rEq te (tC (.int i))))) tu tw D σ H := h1 H (Ex.refl H) _ fun H1 e1 => by
  have x1 := XT.of hT e1
  cases b with
  | false => exact hw H1 x1
  | true =>
    refine h rfl H1 x1 _ fun d H2 _ x2 => ?_
    show scal (.int d) (.int i) = true ∧ ∃ b, V.bl (decide (V.int d = V.int i)) = .bl b ∧ if b = true then tu D σ H2 else tw D σ H2
    refine ⟨rfl, _, rfl, ?_⟩
    by_cases c : d = i
    · subst c
      rw [if_pos (by simp)]
      exact hu H2 (x1.trans x2) rfl
    · rw [if_neg (by simpa using c)]
      exact hw H2 (x1.trans x2)
theorem s_setI {j : Nat} {l : Addr} {xs : List V} {v : V} (hT : TapeAt H t a) (hl : H l = some (.lst xs)) (hlt : l ≠ t) (hj : σ[j]? = some (some (.ref l))) (hv : Ev te σ H v) (hi : EvI t a ta σ H (fun d => 0 ≤ d ∧ d < xs.length)) (k : ∀ i H1, XT t a H H1 → D.nx σ (upd H1 l (.lst (xs.set i v)))) :
    tAsg te (gSub (tVar j) ta rSetL) D σ H := hv H (Ex.refl H) _ fun H1 e1 => ⟨_, hj, hi H1 (XT.of hT e1) _ fun d H2 hd x2 => ⟨l, xs, d, d.toNat, rfl, rfl, x2.at hlt (e1 _ _ hl), by
  have ed : d = ((d.toNat : Nat) : Int) := by omega
  rw [ed]
  exact ixN_nat (by omega), k _ H2 ((XT.of hT e1).trans x2)⟩⟩
theorem ei_mono (h : EvI t a te σ H A) (m : ∀ i, A i → B i) : EvI t a te σ H B := fun H1 e Q q => h H1 e Q fun i H2 hi e2 => q i H2 (m i hi) e2
theorem ei_ixN {xs : List Int} {args : TA} (ha : ∀ H1, XT t a H H1 → EvA args σ H1 (ils xs)) (hl : xs.length ≤ 1000) (he : EvI t a te σ H (fun d => 0 ≤ d ∧ d < xs.length)) (hp : ∀ v ∈ xs, P v) : EvI t a (tOp (rIxL K) (tLst args) te) σ H P := fun H1 e Q q =>
  ha H1 e H1 (Ex.refl H1) _ fun H2 e2 => ⟨by rw [ils_length]; exact sz_of (by omega), fun p hp0 => by
    have x2 := (XT.of e.2 e2)
    have x3 : XT t a H1 (upd H2 p (.lst (ils xs))) := x2.ex (Ex.new hp0)
    refine he _ (e.trans x3) _ fun d H3 hd x4 => ?_
    have hpt := (x2.2.fresh hp0).1
    have ed : d = ((d.toNat : Nat) : Int) := by omega
    refine ⟨p, ils xs, d, .int (xs.getD d.toNat 0), rfl, rfl, sq_of (x4.at hpt upd_same), by rw [ed]; exact at_ils (by omega), q _ H3 (hp _ (getD_mem (by omega))) (x3.trans x4)⟩⟩
theorem snoc_all {R : Nat → Int → Prop} {ns : List Int} {i : Nat} {d : Int} (hn : ns.length = i) (h : ∀ m, m < i → R m (ns.getD m 0)) (hd : R i d) : (ns ++ [d]).length = i + 1 ∧ ∀ m, m < i + 1 → R m ((ns ++ [d]).getD m 0) := by
  refine ⟨by rw [List.length_append, hn]; rfl, fun m hm => ?_⟩
  by_cases c : m < i
  · have : (ns ++ [d]).getD m 0 = ns.getD m 0 := by
      rw [List.getD_eq_getElem?_getD, List.getD_eq_getElem?_getD, List.getElem?_append_left (by omega)]
    rw [this]
    exact h m c
  · have : m = i := by omega
    subst this
    have : (ns ++ [d]).getD m 0 = d := by
      rw [List.getD_eq_getElem?_getD, List.getElem?_append_right (by omega), hn, Nat.sub_self]
      rfl
    rw [this]
    exact hd
/-- a comprehension whose turns draw -/
theorem lc_draw {l : Addr} {xs : List V} {j : Nat} {vs : List Nat} {tl : TE} (R : Nat → Int → Prop) (hT : TapeAt H t a) (hlt : l ≠ t) (hS : SqL K H l xs) (hl : Ev tl σ H (.ref l)) (hz : xs.length ≤ 1000) (hw : ∀ x, wipe ((wipe σ vs).set j (some x)) vs = wipe σ vs)
    (he : ∀ i x H1, XT t a H H1 → xs[i]? = some x → EvI t a te ((wipe σ vs).set j (some x)) H1 (R i)) (Q : VK) (q : ∀ p ns H2, H p = none → XT t a H H2 → H2 p = some (.lst (ils ns)) → ns.length = xs.length → (∀ i, i < ns.length → R i (ns.getD i 0)) → Q (.ref p) H2) : tLc (iList K tl) (gName j) tYes te vs σ H Q :=
  hl H (Ex.refl H) _ fun H1 e1 => ⟨l, rfl, ⟨xs, ex_l e1 hS⟩, fun Dl hD => by
    have x1 := XT.of hT e1
    have hDt := x1.2.fresh hD
    have hDH := fresh_back e1 hD
    refine lc_list (xs := xs) (fun i H' => XT t a H H' ∧ ∃ ns : List Int, H' Dl = some (.lst (ils ns)) ∧ ns.length = i ∧ ∀ m, m < i → R m (ns.getD m 0)) ⟨x1.mut hT hDH, [], upd_same, rfl, fun m hm => absurd hm (Nat.not_lt_zero m)⟩ (fun i H' _ p => sq_exb p.1.1 hlt hS) (fun i x H' hi p => ⟨hw x, ?_⟩) (fun H' p => ?_)
    · obtain ⟨x2, ns, h1, h2, h3⟩ := p
      have hil := (List.getElem?_eq_some_iff.mp hi).1
      show te ((wipe σ vs).set j (some x)) H' fun y H4 => ∃ acc, H4 Dl = some (.lst acc) ∧ acc.length < sizeLine ∧ (XT t a H (upd H4 Dl (.lst (acc ++ [y]))) ∧ ∃ ns : List Int, (upd H4 Dl (.lst (acc ++ [y]))) Dl = some (.lst (ils ns)) ∧ ns.length = i + 1 ∧ ∀ m, m < i + 1 → R m (ns.getD m 0))
      refine he i x H' x2 hi H' (XT.refl x2.2) _ fun d H4 hd x4 => ⟨ils ns, x4.at hDt.1 h1, by rw [ils_length]; exact sz_lt (by omega), (x2.trans x4).mut hT hDH, ns ++ [d], by rw [upd_same]; simp [ils], by rw [List.length_append, h2]; rfl, fun m hm => ?_⟩
      by_cases c : m < i
      · have : (ns ++ [d]).getD m 0 = ns.getD m 0 := by
          rw [List.getD_eq_getElem?_getD, List.getD_eq_getElem?_getD, List.getElem?_append_left (by omega)]
        rw [this]
        exact h3 m c
      · have : m = i := by omega
        subst this
        have : (ns ++ [d]).getD m 0 = d := by
          rw [List.getD_eq_getElem?_getD, List.getElem?_append_right (by omega), h2, Nat.sub_self]
          rfl
        rw [this]
        exact hd
    · obtain ⟨x2, ns, h1, h2, h3⟩ := p
      exact q Dl ns H' hDH x2 h1 h2 (fun i hi => h3 i (by omega))⟩
end
section
variable {P : Program} {w : World} {K : PySem.W.Frag} {mg : Str → Option Value} {base : Heap} {f : Addr} {fd : FuncData}
abbrev s__law_parents : Stmt := top 33
abbrev n__law_parents : List Str := ["_law_tape_here", "_law_most", "_law_many", "_law_kind", "_law_parents_here", "_law_k"]
theorem sc__law_parents : FnScope n__law_parents ["_law_tape_here", "_law_most"] (defScope s__law_parents) := ⟨rfl, rfl, rfl, by decide +kernel, rfl, by decide +kernel, by decide +kernel⟩
theorem b__law_parents : BindsOk "_law_parents" "_law_parents" s__law_parents ["_law_tape_here", "_law_most"] := fun _ _ _ _ _ _ us hl => match us, hl with | [_, _], _ => rfl
def spParents : Sp := fun vs H Q _ => ∃ (t a : Addr) (most : Int), vs = [.ref t, .int most] ∧ TapeAt H t a ∧ 1 ≤ most ∧ most ≤ 100 ∧ ∀ par r H', KM.Tree par → par.length ≤ most → XT t a H H' → H r = none → H' r = some (.lst (ils par)) → Q (.ref r) H'
theorem ok__law_parents (T : Txt K mg) (d__law_next : Dfn P w K mg base 1 "_law_next" ["_law_tape_here", "_law_size"] spNext) (F : FnP K "_law_parents" "_law_parents" s__law_parents f fd) (g : mg "_law_parents" = some (.ref f)) :
    Dfn P w K mg base 2 "_law_parents" ["_law_tape_here", "_law_most"] spParents := by
  refine dfn_of F g sc__law_parents b__law_parents (fun vs H Q E h => ?_) (BodyN.ok fun cdv A outer s H vs Q E hr h => ?_)
  · obtain ⟨_, _, _, rfl, _⟩ := h
    rfl
  · obtain ⟨t, a, most, rfl, hT, m1, m2, k⟩ := h
    refine ⟨_, (pss_cons (ps_set (i := 2) sc__law_parents.nd rfl (Or.inl rfl) (pe_op op_add pe_int (pe_fn d__law_next (hr.mono (by decide)) rfl (pa_cons (pv 0) (pa_cons (pv 1) pa_nil)))))
    (pss_cons (ps_set (i := 3) sc__law_parents.nd rfl (Or.inl rfl) (pe_fn d__law_next (hr.mono (by decide)) rfl (pa_cons (pv 0) (pa_cons pe_int pa_nil))))
    (pss_cons (ps_set (i := 4) sc__law_parents.nd rfl (Or.inl rfl) (pe_lst pa_nil))
    (pss_cons (ps_for PassesOwn.never rfl (pi_range1 rfl T.range (pa_cons (pv 2) pa_nil)) (pg_name (i := 5) sc__law_parents.nd rfl (Or.inl rfl)) (pss_one (ps_if (pt_cmpR op_eq (pv 3) pe_int (nomark _)) (pss_one (ps_expr (pe_bm PySem.F.plainAttrs_list PySem.F.slot_list_append PySem.F.type_list_append mt_append (pv 4) (pa_cons (pv 5) pa_nil)))) (pss_one (ps_expr (pe_bm PySem.F.plainAttrs_list PySem.F.slot_list_append PySem.F.type_list_append mt_append (pv 4) (pa_cons (pe_fn d__law_next (hr.mono (by decide)) rfl (pa_cons (pv 0) (pa_cons (pe_op op_add (pv 5) pe_int) pa_nil))) pa_nil)))))))
    (pss_one (ps_ret (pv 4))))))), ?_⟩
    refine q_asgI (P := fun i => 1 ≤ i ∧ i ≤ most) hT (ei_op0 (A := fun i => i = 1) (B := fun d => 0 ≤ d ∧ d < most) (ei_c rfl) (ei_next rfl (ei_var rfl ⟨by omega, by omega, fun d h0 h1 => ⟨h0, h1⟩⟩)) (fun i j hi hj => by subst hi; omega)) fun many H1 hm x1 => ?_
    refine q_asgI (P := fun _ => True) x1.2 (ei_next rfl (ei_c ⟨by decide, by decide, fun d h0 h1 => trivial⟩)) fun kind H2 _ x2 => ?_
    have x12 := x1.trans x2
    refine q_asgL (el_lst ea_nil (Nat.zero_le _)) fun l H3 hl0 e3 hl => ?_
    have hlH : H l = none := x12.back hT hl0
    have hlt := x12.2.fresh hl0
    refine q_forR1 (n := many) (ea_cons (ev_var rfl) ea_nil) (by omega) (fun i σ' H' => (∃ u, σ' = [some (.ref t), some (.int most), some (.int many), some (.int kind), some (.ref l), u]) ∧ XT t a H H' ∧ ∃ ns : List Int, H' l = some (.lst (ils ns)) ∧ ns.length = i ∧ ∀ j, j < i → 0 ≤ ns.getD j 0 ∧ ns.getD j 0 ≤ j)
      (fun H4 e4 => ⟨⟨_, rfl⟩, x12.ex (e3.trans e4), [], e4 _ _ hl, rfl, fun j hj => absurd hj (Nat.not_lt_zero j)⟩) ?_ ?_
    · rintro i σ' H' hi ⟨⟨u, rfl⟩, x, ns, hl, hn, hns⟩
      refine s_if (b := decide (kind = 0)) (et_eqI (ev_var rfl) ev_c) (fun _ H5 e5 => ?_) (fun _ H5 e5 => ?_)
      · refine s_app (e5 _ _ hl) (ev_var rfl) (ev_var rfl) (by rw [ils_length]; omega) fun H6 e6 => ?_
        obtain ⟨s1, s2⟩ := snoc_all (R := fun j d => 0 ≤ d ∧ d ≤ (j : Int)) (d := (i : Int)) hn hns ⟨by omega, by omega⟩
        exact ⟨⟨_, rfl⟩, (x.ex (e5.trans e6)).mut hT hlH, ns ++ [(i : Int)], by rw [upd_same]; simp [ils], s1, s2⟩
      · refine s_appI (P := fun d => 0 ≤ d ∧ d ≤ (i : Int)) (x.ex e5).2 (e5 _ _ hl) hlt.1 rfl (ei_next rfl (ei_op0 (A := fun y => y = i) (B := fun y => y = 1) (ei_var rfl rfl) (ei_c rfl) (fun p q hp hq => by subst hp hq; exact ⟨by omega, by omega, fun d h0 h1 => ⟨h0, by omega⟩⟩))) (by rw [ils_length]; omega) fun d H6 hd x6 => ?_
        obtain ⟨s1, s2⟩ := snoc_all (R := fun j d => 0 ≤ d ∧ d ≤ (j : Int)) (d := d) hn hns hd
        exact ⟨⟨_, rfl⟩, ((x.ex e5).trans x6).mut hT hlH, ns ++ [d], by rw [upd_same]; simp [ils], s1, s2⟩
    · rintro σ' H' ⟨⟨u, rfl⟩, x, ns, hl, hn, hns⟩
      have hn2 : (ns.length : Int) = many := by omega
      exact ⟨_, rfl, k ns l H' ⟨by omega, fun j hj => hns j (by omega)⟩ (by omega) x hlH hl⟩
abbrev s__law_spoilt : Stmt := top 37
abbrev n__law_spoilt : List Str := ["_law_tape_here", "_law_values", "_law_least", "_law_spoilt_here", "_law_kind", "_law_far", "_law_turn"]
theorem sc__law_spoilt : FnScope n__law_spoilt ["_law_tape_here", "_law_values", "_law_least"] (defScope s__law_spoilt) := ⟨rfl, rfl, rfl, by decide +kernel, rfl, by decide +kernel, by decide +kernel⟩
theorem b__law_spoilt : BindsOk "_law_spoilt" "_law_spoilt" s__law_spoilt ["_law_tape_here", "_law_values", "_law_least"] := fun _ _ _ _ _ _ us hl => match us, hl with | [_, _, _], _ => rfl
theorem cut_ils (ns : List Int) (lo hi : Option Int) : ∃ ms : List Int, cutV (ils ns) lo hi = ils ms ∧ ms.length ≤ ns.length ∧ ∀ x ∈ ms, x ∈ ns := by
  unfold cutV
  generalize HT.sIx (ils ns).length 0 lo = A
  generalize HT.sIx (ils ns).length (ils ns).length hi - A = B
  refine ⟨(ns.drop A).take B, ?_, ?_, fun x hx => List.mem_of_mem_drop (List.mem_of_mem_take hx)⟩
  · rw [show ils ns = ns.map V.int from rfl, show ils ((ns.drop A).take B) = ((ns.drop A).take B).map V.int from rfl, List.map_take, List.map_drop]
  · rw [List.length_take, List.length_drop]
    omega
def spSpoilt (K : PySem.W.Frag) : Sp := fun vs H Q _ => ∃ (t a v : Addr) (ns : List Int), vs = [.ref t, .ref v, .int 0] ∧ TapeAt H t a ∧ v ≠ t ∧ SqL K H v (ils ns) ∧ ns.length ≤ 100 ∧ (∀ x ∈ ns, x ≤ 999) ∧
  ∀ ms r H', ms.length ≤ 1000 → (∀ x ∈ ms, x ≤ 999) → XT t a H H' → H r = none → H' r = some (.lst (ils ms)) → Q (.ref r) H'
def SpI (t a v : Addr) (H : Hp) (n : Nat) (F G : Option V → Prop) (σ' : L2.St) (H' : Hp) : Prop := ∃ l ms u4 u5 u6, σ' = [some (.ref t), some (.ref v), some (.int 0), some (.ref l), u4, u5, u6] ∧ F u4 ∧ G u5 ∧ XT t a H H' ∧ H l = none ∧ H' l = some (.lst (ils ms)) ∧ ms.length ≤ n ∧ ∀ x ∈ ms, x ≤ 999
theorem ok__law_spoilt (T : Txt K mg) (d__law_next : Dfn P w K mg base 1 "_law_next" ["_law_tape_here", "_law_size"] spNext) (F : FnP K "_law_spoilt" "_law_spoilt" s__law_spoilt f fd) (g : mg "_law_spoilt" = some (.ref f)) :
    Dfn P w K mg base 2 "_law_spoilt" ["_law_tape_here", "_law_values", "_law_least"] (spSpoilt K) := by
  refine dfn_of F g sc__law_spoilt b__law_spoilt (fun vs H Q E h => ?_) (BodyN.ok fun cdv A outer s H vs Q E hr h => ?_)
  · obtain ⟨_, _, _, _, rfl, _⟩ := h
    rfl
  · obtain ⟨t, a, v, ns, rfl, hT, hvt, hV, hn, hb, k⟩ := h
    refine ⟨_, (pss_cons (ps_set (i := 3) sc__law_spoilt.nd rfl (Or.inl rfl) (pe_callTy call_list_of rfl T.list (by decide +kernel) (pa_cons (pv 1) pa_nil)))
    (pss_cons (ps_set (i := 4) sc__law_spoilt.nd rfl (Or.inl rfl) (pe_fn d__law_next (hr.mono (by decide)) rfl (pa_cons (pv 0) (pa_cons pe_int pa_nil))))
    (pss_cut (ps_if (pt_cmpR op_eq (pv 4) pe_int (nomark _)) (pss_one (ps_set (i := 3) sc__law_spoilt.nd rfl (Or.inl rfl) (pe_slice sl_list (pv 3) (po_some pe_int) po_none))) pss_nil)
    (pss_cut (ps_if (pt_cmpR op_eq (pv 4) pe_int (nomark _)) (pss_one (ps_expr (pe_bm PySem.F.plainAttrs_list PySem.F.slot_list_append PySem.F.type_list_append mt_append (pv 3) (pa_cons (pe_op op_add (pv 2) (pe_fn d__law_next (hr.mono (by decide)) rfl (pa_cons (pv 0) (pa_cons pe_int pa_nil)))) pa_nil)))) pss_nil)
    (pss_cons (ps_set (i := 5) sc__law_spoilt.nd rfl (Or.inl rfl) pe_int)
    (pss_cut (ps_if (pt_cmpR op_eq (pe_fn d__law_next (hr.mono (by decide)) rfl (pa_cons (pv 0) (pa_cons pe_int pa_nil))) pe_int (nomark _)) (pss_one (ps_set (i := 5) sc__law_spoilt.nd rfl (Or.inl rfl) (pe_fn d__law_next (hr.mono (by decide)) rfl (pa_cons (pv 0) (pa_cons pe_int pa_nil))))) pss_nil)
    (pss_cut (ps_if (PW.pt (pw_and (pt_truth (pv 3) (by intro _; rfl)) (pw_and1 (pt_cmpR op_eq (pe_fn d__law_next (hr.mono (by decide)) rfl (pa_cons (pv 0) (pa_cons pe_int pa_nil))) pe_int (nomark _))))) (pss_one (ps_for PassesOwn.never rfl (pi_range1 rfl T.range (pa_cons pe_int pa_nil)) (pg_name (i := 6) sc__law_spoilt.nd rfl (Or.inl rfl)) (pss_one (ps_asg (pe_op op_sub (pe_op op_sub (pv 2) pe_int) (pv 5)) (pg_sub (pv 3) (pe_fn d__law_next (hr.mono (by decide)) rfl (pa_cons (pv 0) (pa_cons (pe_callB call_len_seq rfl T.len PySem.boot_len (pa_cons (pv 3) pa_nil)) pa_nil))) set_list))))) pss_nil)
    (pss_one (ps_ret (pv 3)))))))))), ?_⟩
    refine q_asgL (el_list (ev_var rfl) hV) fun l H1 hl0 e1 hl => ?_
    have x1 := XT.of hT e1
    refine q_asgI (P := fun _ => True) x1.2 (ei_next rfl (ei_c ⟨by decide, by decide, fun _ _ _ => trivial⟩)) fun kind H2 _ x2 => ?_
    have lt1 := hT.fresh hl0
    refine q_cut (M := SpI t a v H 100 (fun u => u = some (.int kind)) (fun _ => True)) ?_ ?_
    · refine s_when (et_eqI (ev_var rfl) ev_c) (fun _ H3 e3 => ?_) (fun _ H3 e3 => ?_)
      · obtain ⟨ms, c1, c2, c3⟩ := cut_ils ns (some 1) none
        refine s_asgL (el_is (el_sl (ev_var rfl) (eo_some ev_c) eo_none (sq_of (e3 _ _ (x2.at lt1.1 hl)))) c1) fun r H4 hr0 e4 hr => ?_
        exact ⟨r, ms, _, _, _, rfl, rfl, trivial, (x1.trans x2).ex (e3.trans e4), ((x1.trans x2).ex e3).back hT hr0, hr, by omega, fun x hx => hb x (c3 x hx)⟩
      · exact ⟨l, ns, _, _, _, rfl, rfl, trivial, (x1.trans x2).ex e3, hl0, e3 _ _ (x2.at lt1.1 hl), hn, hb⟩
    · clear x1 x2 lt1 hl hl0 e1 H1 H2
      rintro σ' H1 ⟨l, ms, u4, u5, u6, rfl, rfl, _, x1, hl0, hl, hn, hb⟩
      have lt1 := hT.fresh hl0
      refine q_cut (M := SpI t a v H 101 (fun u => True) (fun _ => True)) ?_ ?_
      · refine s_when (et_eqI (ev_var rfl) ev_c) (fun _ H3 e3 => ?_) (fun _ H3 e3 => ?_)
        · refine s_appI (P := fun d => d ≤ 999) (x1.ex e3).2 (e3 _ _ hl) lt1.1 rfl (ei_op0 (A := fun y => y = 0) (B := fun y => y < 5) (ei_var rfl rfl) (ei_next rfl (ei_c ⟨by decide, by decide, fun d h0 h1 => h1⟩)) (fun p q hp hq => by subst hp; omega)) (by rw [ils_length]; omega) fun d H4 hd x4 => ?_
          refine ⟨l, ms ++ [d], _, _, _, rfl, trivial, trivial, ((x1.ex e3).trans x4).mut hT hl0, hl0, by rw [upd_same]; simp [ils], by rw [List.length_append]; show ms.length + 1 ≤ 101; omega, fun x hx => ?_⟩
          rcases List.mem_append.mp hx with h | h
          · exact hb x h
          · rw [List.mem_singleton.mp h]
            exact hd
        · exact ⟨l, ms, _, _, _, rfl, trivial, trivial, x1.ex e3, hl0, e3 _ _ hl, by omega, hb⟩
      · clear x1 hl hl0 lt1 H1 hn hb
        rintro σ' H1 ⟨l, ms, u4, u5, u6, rfl, _, _, x1, hl0, hl, hn, hb⟩
        refine q_asg ev_c fun H2 e2 => ?_
        refine q_cut (M := SpI t a v H 101 (fun u => True) (fun u => ∃ far : Int, 0 ≤ far ∧ u = some (.int far))) ?_ ?_
        · have x2 := x1.ex e2
          have lt1 := hT.fresh hl0
          refine s_ifI (P := fun _ => True) x2.2 (ei_next rfl (ei_c ⟨by decide, by decide, fun _ _ _ => trivial⟩)) fun d H3 _ x3 => ⟨fun _ => ?_, fun _ => ?_⟩
          · refine s_asgI (P := fun d => 0 ≤ d) x3.2 (ei_next rfl (ei_c ⟨by decide, by decide, fun _ h0 _ => h0⟩)) fun far H4 hfar x4 => ?_
            exact ⟨l, ms, _, _, _, rfl, trivial, ⟨far, hfar, rfl⟩, (x2.trans x3).trans x4, hl0, (x3.trans x4).at lt1.1 (e2 _ _ hl), hn, hb⟩
          · exact ⟨l, ms, _, _, _, rfl, trivial, ⟨0, Int.le_refl _, rfl⟩, x2.trans x3, hl0, x3.at lt1.1 (e2 _ _ hl), hn, hb⟩
        · clear x1 hl hl0 H1 hn hb e2 H2
          rintro σ' H1 ⟨l, ms, u4, u5, u6, rfl, _, ⟨far, hfar, rfl⟩, x1, hl0, hl, hn, hb⟩
          have lt1 := hT.fresh hl0
          refine q_cut (M := SpI t a v H 101 (fun u => True) (fun u => True)) ?_ ?_
          · refine s_ifAI (P := fun _ => True) x1.2 (et_truL (ev_var rfl) (sq_of hl)) (fun _ => ei_next rfl (ei_c ⟨by decide, by decide, fun _ _ _ => trivial⟩)) (fun H2 x2 hne => ?_) (fun H2 x2 => ⟨l, ms, _, _, _, rfl, trivial, trivial, x1.trans x2, hl0, x2.at lt1.1 hl, hn, hb⟩)
            have hpos : 0 < ms.length := by
              cases ms with
              | nil => cases hne
              | cons _ _ => simp
            refine s_forR1 (n := 2) (ea_cons ev_c ea_nil) (by omega) (fun i σ' H' => ∃ ms u4 u6, σ' = [some (.ref t), some (.ref v), some (.int 0), some (.ref l), u4, some (.int far), u6] ∧ XT t a H H' ∧ H' l = some (.lst (ils ms)) ∧ 0 < ms.length ∧ ms.length ≤ 101 ∧ ∀ x ∈ ms, x ≤ 999)
              (fun H3 e3 => ⟨ms, _, _, rfl, (x1.trans x2).ex e3, e3 _ _ (x2.at lt1.1 hl), hpos, hn, hb⟩) ?_ ?_
            · rintro i σ' H' _ ⟨ms, u4, u6, rfl, x3, hl3, p3, n3, b3⟩
              refine s_setI (v := .int (0 - 1 - far)) x3.2 hl3 lt1.1 rfl (ev_op (ev_op (ev_var rfl) ev_c rv_I0) (ev_var rfl) rv_I0) (ei_next rfl (ei_ev (i := (ms.length : Int)) (fun H1 x => ev_is (ev_lenS (ev_var rfl) (.inl (sq_of (x.at lt1.1 hl3)))) (by rw [ils_length])) ⟨by omega, by omega, fun d h0 h1 => ⟨h0, by rw [ils_length]; exact h1⟩⟩)) fun j H4 x4 => ?_
              refine ⟨ms.set j (0 - 1 - far), _, _, rfl, (x3.trans x4).mut hT hl0, by rw [upd_same]; simp [ils, List.map_set], by rw [List.length_set]; exact p3, by rw [List.length_set]; exact n3, fun x hx => ?_⟩
              rcases List.mem_or_eq_of_mem_set hx with h | h
              · exact b3 x h
              · omega
            · rintro σ' H' ⟨ms, u4, u6, rfl, x3, hl3, p3, n3, b3⟩
              exact ⟨l, ms, _, _, _, rfl, trivial, trivial, x3, hl0, hl3, n3, b3⟩
          · clear x1 hl hl0 H1 hn hb lt1
            rintro σ' H1 ⟨l, ms, u4, u5, u6, rfl, _, _, x1, hl0, hl, hn, hb⟩
            exact ⟨_, rfl, k ms l H1 (by omega) hb x1 hl0 hl⟩
end
end K61
/-! _law_dug -/
namespace K61
open PySem PySem.Spec PyProof.Rows L2 Evl
open KM (nth tot walls)
section
variable {K : PySem.W.Frag} {H H' : Hp} {σ : L2.St} {ta tb te tv tc : TE} {tt : TT} {D : Ends} {tu tw tz : TS} {t a : Addr} {P A B : Int → Prop}
theorem s_ret3 {i j : Nat} {x y : V} (hi : σ[i]? = some (some x)) (hj : σ[j]? = some (some y)) (h : tc σ H (fun z H3 => [x, y, z].length ≤ sizeLine ∧ ∀ r, H3 r = none → D.rt (.ref r) (upd H3 r (.tup [x, y, z])))) : tRet (tTup (tCons (tVar i) (tCons (tVar j) (tCons tc tNil)))) D σ H := ⟨x, hi, y, hj, h⟩
theorem q_asgT {j : Nat} (h : te σ H (fun x H1 => tz D (σ.set j (some x)) H1)) : tSeq (tAsg te (gName j)) tz D σ H := h
theorem len3 {x y z : V} : [x, y, z].length ≤ sizeLine := by show 3 ≤ sizeLine; decide
end
section
variable {P : Program} {w : World} {K : PySem.W.Frag} {mg : Str → Option Value} {base : Heap} {f : Addr} {fd : FuncData}
abbrev s__law_dug : Stmt := top 38
abbrev n__law_dug : List Str := ["_law_tape_here", "_law_parents_here", "_law_kind", "_law_bounds", "_law_lengths", "_law_k", "_law_length"]
theorem sc__law_dug : FnScope n__law_dug ["_law_tape_here"] (defScope s__law_dug) := ⟨rfl, rfl, rfl, by decide +kernel, rfl, by decide +kernel, by decide +kernel⟩
theorem b__law_dug : BindsOk "_law_dug" "_law_dug" s__law_dug ["_law_tape_here"] := fun _ _ _ _ _ _ us hl => match us, hl with | [_], _ => rfl
def spDug : Sp := fun vs H Q _ => ∃ (t a : Addr), vs = [.ref t] ∧ TapeAt H t a ∧ ∀ par len wt rp rl rw x H', Ok par len → WOk par wt → XT t a H H' → H rp = none → H rl = none → H rw = none → H x = none → H' x = some (.tup [.ref rp, .ref rl, .ref rw]) →
  H' rp = some (.lst (ils par)) → H' rl = some (.lst (ils len)) → H' rw = some (.lst (ils wt)) → Q (.ref x) H'
theorem mem_all {ns : List Int} {P : Int → Prop} (h : ∀ i, i < ns.length → P (ns.getD i 0)) : ∀ x ∈ ns, P x := fun x hx => by
  obtain ⟨i, hi, rfl⟩ := List.getElem_of_mem hx
  have := h i hi
  rw [getD_is hi] at this
  exact this
theorem ok__law_dug (T : Txt K mg) (d__law_next : Dfn P w K mg base 1 "_law_next" ["_law_tape_here", "_law_size"] spNext) (d__law_parents : Dfn P w K mg base 2 "_law_parents" ["_law_tape_here", "_law_most"] spParents) (F : FnP K "_law_dug" "_law_dug" s__law_dug f fd) (g : mg "_law_dug" = some (.ref f)) :
    Dfn P w K mg base 3 "_law_dug" ["_law_tape_here"] spDug := by
  refine dfn_of F g sc__law_dug b__law_dug (fun vs H Q E h => ?_) (BodyN.ok fun cdv A outer s H vs Q E hr h => ?_)
  · obtain ⟨_, _, rfl, _⟩ := h
    rfl
  · obtain ⟨t, a, rfl, hT, k⟩ := h
    refine ⟨_, (pss_cons (ps_set (i := 1) sc__law_dug.nd rfl (Or.inl rfl) (pe_fn d__law_parents (hr.mono (by decide)) rfl (pa_cons (pv 0) (pa_cons (pe_ix ix_list (pe_lst (pa_cons pe_int (pa_cons pe_int (pa_cons pe_int (pa_cons pe_int (pa_cons pe_int (pa_cons pe_int (pa_cons pe_int (pa_cons pe_int pa_nil))))))))) (pe_fn d__law_next (hr.mono (by decide)) rfl (pa_cons (pv 0) (pa_cons pe_int pa_nil))) (fun _ _ => rfl)) pa_nil))))
    (pss_cons (ps_set (i := 2) sc__law_dug.nd rfl (Or.inl rfl) (pe_fn d__law_next (hr.mono (by decide)) rfl (pa_cons (pv 0) (pa_cons pe_int pa_nil))))
    (pss_cons (ps_set (i := 3) sc__law_dug.nd rfl (Or.inr rfl) (pe_lst (pa_cons pe_int (pa_cons pe_int pa_nil))))
    (pss_cut (ps_if (pt_cmpR op_eq (pe_fn d__law_next (hr.mono (by decide)) rfl (pa_cons (pv 0) (pa_cons pe_int pa_nil))) pe_int (nomark _)) (pss_cons (ps_set (i := 3) sc__law_dug.nd rfl (Or.inr rfl) (pe_lst (pa_cons pe_int (pa_cons pe_int pa_nil))))
    (pss_one (ps_if (pt_cmpR op_lt (pv 2) pe_int (nomark _)) (pss_one (ps_set (i := 3) sc__law_dug.nd rfl (Or.inr rfl) (pe_lst (pa_cons pe_int (pa_cons pe_int pa_nil))))) pss_nil))) pss_nil)
    (pss_cons (ps_setLc (i := 4) (own := [("_law_k", 5)]) (g := gName 5) (tt := tYes) rfl sc__law_dug.nd rfl rfl (sw_true rfl rfl rfl (by decide +kernel)) (pi_list (pv 1)) (blkOk_by (own := [("_law_k", 5)]) (N := n__law_dug) (sc := defScope s__law_dug) (by decide +kernel)) (fun _ _ _ _ _ => pg_name (i := 5) sc__law_dug.nd rfl (Or.inl rfl)) (fun _ _ _ _ _ => pts_nil) (fun _ _ _ _ _ => (pe_op op_add pe_int (pe_fn d__law_next (hr.mono (by decide)) rfl (pa_cons (pv 0) (pa_cons (pe_ix (ix_listK (K := K) rfl) (pv 3) pe_int (fun _ _ => rfl)) pa_nil))))))
    (pss_cons (ps_if (pt_cmpR op_eq (pv 2) pe_int (nomark _)) (pss_one (ps_ret (pe_tup (pa_cons (pv 1) (pa_cons (pv 4) (pa_cons (pe_lc (own := [("_law_k", 5)]) (g := gName 5) (tt := tYes) rfl sc__law_dug.nd (pi_list (pv 1)) (blkOk_by (own := [("_law_k", 5)]) (N := n__law_dug) (sc := defScope s__law_dug) (by decide +kernel)) (fun _ _ _ _ _ => pg_name (i := 5) sc__law_dug.nd rfl (Or.inl rfl)) (fun _ _ _ _ _ => pts_nil) (fun _ _ _ _ _ => pe_int)) pa_nil)))))) pss_nil)
    (pss_cons (ps_if (pt_cmpR op_lt (pv 2) pe_int (nomark _)) (pss_one (ps_ret (pe_tup (pa_cons (pv 1) (pa_cons (pv 4) (pa_cons (pe_lc (own := [("_law_length", 6)]) (g := gName 6) (tt := tYes) rfl sc__law_dug.nd (pi_list (pv 4)) (blkOk_by (own := [("_law_length", 6)]) (N := n__law_dug) (sc := defScope s__law_dug) (by decide +kernel)) (fun _ _ _ _ _ => pg_name (i := 6) sc__law_dug.nd rfl (Or.inl rfl)) (fun _ _ _ _ _ => pts_nil) (fun _ _ _ _ _ => (pe_op op_mul (pv 6) (pe_fn d__law_next (hr.mono (by decide)) rfl (pa_cons (pv 0) (pa_cons pe_int pa_nil)))))) pa_nil)))))) pss_nil)
    (pss_one (ps_ret (pe_tup (pa_cons (pv 1) (pa_cons (pv 4) (pa_cons (pe_lc (own := [("_law_k", 5)]) (g := gName 5) (tt := tYes) rfl sc__law_dug.nd (pi_list (pv 1)) (blkOk_by (own := [("_law_k", 5)]) (N := n__law_dug) (sc := defScope s__law_dug) (by decide +kernel)) (fun _ _ _ _ _ => pg_name (i := 5) sc__law_dug.nd rfl (Or.inl rfl)) (fun _ _ _ _ _ => pts_nil) (fun _ _ _ _ _ => (pe_fn d__law_next (hr.mono (by decide)) rfl (pa_cons (pv 0) (pa_cons (pe_ix (ix_listK (K := K) rfl) (pv 3) pe_int (fun _ _ => rfl)) pa_nil))))) pa_nil))))))))))))), ?_⟩
    have ixs : EvI t a (tOp (rIxL K) (tLst (tCons (tC (.int 6)) (tCons (tC (.int 6)) (tCons (tC (.int 6)) (tCons (tC (.int 8)) (tCons (tC (.int 6)) (tCons (tC (.int 6)) (tCons (tC (.int 6)) (tCons (tC (.int 6)) tNil))))))))) (tCall spNext [] E0 (tCons (tVar 0) (tCons (tC (.int 8)) tNil)))) (L2.start n__law_dug [.ref t]) H (fun m => 1 ≤ m ∧ m ≤ 8) :=
      ei_ixN (xs := [6, 6, 6, 8, 6, 6, 6, 6]) (fun H1 _ => ea_cons ev_c (ea_cons ev_c (ea_cons ev_c (ea_cons ev_c (ea_cons ev_c (ea_cons ev_c (ea_cons ev_c (ea_cons ev_c ea_nil)))))))) (by decide) (ei_next rfl (ei_c ⟨by decide, by decide, fun d h0 h1 => ⟨h0, h1⟩⟩)) (by decide)
    refine q_asgT ?_
    refine ⟨.ref t, rfl, ixs H (XT.refl hT) _ fun most H1 hm x1 => ⟨t, a, most, rfl, x1.2, hm.1, by omega, fun par rp H2 hTr hpl x2 hrp0 hrp => ?_⟩⟩
    have x12 := x1.trans x2
    have rpH : H rp = none := x1.back hT hrp0
    have rpt := hT.fresh rpH
    refine q_asgI (P := fun _ => True) x2.2 (ei_next rfl (ei_c ⟨by decide, by decide, fun _ _ _ => trivial⟩)) fun kind H3 _ x3 => ?_
    have x13 := x12.trans x3
    have hrp3 := x3.at rpt.1 hrp
    refine q_asgL (xs := [.int 5, .int 7]) (el_lst (ea_cons ev_c (ea_cons ev_c ea_nil)) (by show 2 ≤ 100000; decide)) fun bl H4 hbl0 e4 hbl => ?_
    have x14 := x13.ex e4
    have blH := x13.back hT hbl0
    clear ixs
    refine q_cut (M := fun σ' H' => ∃ bl b0 b1, σ' = [some (.ref t), some (.ref rp), some (.int kind), some (.ref bl), none, none, none] ∧ XT t a H H' ∧ H bl = none ∧ H' bl = some (.lst [.int b0, .int b1]) ∧ 1 ≤ b0 ∧ b0 ≤ 999 ∧ 1 ≤ b1 ∧ b1 ≤ 1000 ∧ (kind < 4 → b0 ≤ 499) ∧ H' rp = some (.lst (ils par))) ?_ ?_
    · refine s_ifI (P := fun _ => True) x14.2 (ei_next rfl (ei_c ⟨by decide, by decide, fun _ _ _ => trivial⟩)) fun d H5 _ x5 => ⟨fun _ => ?_, fun _ => ?_⟩
      · refine q_asgL (xs := [.int 999, .int 1000]) (el_lst (ea_cons ev_c (ea_cons ev_c ea_nil)) (by show 2 ≤ 100000; decide)) fun b2 H6 hb20 e6 hb2 => ?_
        have x16 := (x14.trans x5).ex e6
        have b2H := (x14.trans x5).back hT hb20
        have hrp6 := e6 _ _ (x5.at rpt.1 (e4 _ _ hrp3))
        refine s_when (et_lt (ev_var rfl) ev_c) (fun c H7 e7 => ?_) (fun c H7 e7 => ?_)
        · refine s_asgL (xs := [.int 499, .int 1000]) (el_lst (ea_cons ev_c (ea_cons ev_c ea_nil)) (by show 2 ≤ 100000; decide)) fun b3 H8 hb30 e8 hb3 => ?_
          exact ⟨b3, 499, 1000, rfl, x16.ex (e7.trans e8), (x16.ex e7).back hT hb30, hb3, by decide, by decide, by decide, by decide, fun _ => by decide, (e7.trans e8) _ _ hrp6⟩
        · have c := of_decide_eq_false c
          exact ⟨b2, 999, 1000, rfl, x16.ex e7, b2H, e7 _ _ hb2, by decide, by decide, by decide, by decide, fun q => absurd q c, e7 _ _ hrp6⟩
      · exact ⟨bl, 5, 7, rfl, x14.trans x5, blH, x5.at (hT.fresh blH).1 hbl, by decide, by decide, by decide, by decide, fun _ => by decide, x5.at rpt.1 (e4 _ _ hrp3)⟩
    · clear x1 x2 x12 x3 x13 x14 hbl0 hbl blH hrp3 hrp hrp0 e4 H1 H2 H3 H4
      rintro σ' H1 ⟨bl, b0, b1, rfl, x1, blH, hbl, h1, h2, h3, h4, h5, hrp⟩
      have blt := hT.fresh blH
      have hT1 := x1.2
      refine q_asgT ?_
      refine lc_draw (fun _ d => 1 ≤ d ∧ d ≤ b0) hT1 rpt.1 (sq_of hrp) (ev_var rfl) (by rw [ils_length]; omega) (fun _ => rfl) (fun i x H2 x2 hi => ?_) _ fun rl len H2 rl0 x2 hrl hll hlb => ?_
      · refine ei_op0 (A := fun y => y = 1) (B := fun d => 0 ≤ d ∧ d < b0) (ei_c rfl) (ei_next rfl (ei_ev (i := b0) (fun H3 x3 => ev_op (ev_var rfl) ev_c (rv_ixL (sq_of (x3.at blt.1 (x2.at blt.1 hbl))) rfl)) ⟨by omega, by omega, fun d h0 h1 => ⟨h0, h1⟩⟩)) (fun p q hp hq => by subst hp; omega)
      · rw [ils_length] at hll
        have hlm := mem_all (P := fun d => 1 ≤ d ∧ d ≤ b0) hlb
        have rlH := x1.back hT rl0
        have rlt := hT.fresh rlH
        have O : Ok par len := ⟨hTr, hll, fun v hv => by have := hlm v hv; omega, by omega⟩
        have x12 := x1.trans x2
        have hrp2 := x2.at rpt.1 hrp
        have hbl2 := x2.at blt.1 hbl
        have fin : ∀ {H3 : Hp}, Ex H2 H3 → ∀ rw_ wt H4, H3 rw_ = none → XT t a H3 H4 → H4 rw_ = some (.lst (ils wt)) → WOk par wt → [V.ref rp, .ref rl, .ref rw_].length ≤ sizeLine ∧ ∀ r, H4 r = none → Q (.ref r) (upd H4 r (.tup [.ref rp, .ref rl, .ref rw_])) := fun {H3} e3 rw_ wt H4 rw0 x4 hrw W => by
          refine ⟨len3, fun r hr => ?_⟩
          have x14 := (x12.ex e3).trans x4
          have e := Ex.new (o := .tup [.ref rp, .ref rl, .ref rw_]) hr
          exact k par len wt rp rl rw_ r _ O W (x14.ex e) rpH rlH ((x12.ex e3).back hT rw0) (x14.back hT hr) upd_same (e _ _ (x4.at rpt.1 (e3 _ _ hrp2))) (e _ _ (x4.at rlt.1 (e3 _ _ hrl))) (e _ _ hrw)
        refine q_when (et_eqI (ev_var rfl) ev_c) (fun _ H3 e3 => ?_) (fun _ H3 e3 => ?_)
        · refine s_ret3 rfl rfl ?_
          refine lc_draw (fun _ d => d = 0) (x12.ex e3).2 rpt.1 (sq_of (e3 _ _ hrp2)) (ev_var rfl) (by rw [ils_length]; omega) (fun _ => rfl) (fun i x H2 x2 hi => ei_c rfl) _ fun rw_ wt H4 rw0 x4 hrw hwl hwb => ?_
          rw [ils_length] at hwl
          exact fin e3 rw_ wt H4 rw0 x4 hrw ⟨hwl, fun v hv => by have := mem_all (P := fun d => d = 0) hwb v hv; omega⟩
        · refine q_when (et_lt (ev_var rfl) ev_c) (fun c H4 e4 => ?_) (fun _ H4 e4 => ?_)
          · have c := of_decide_eq_true c
            refine s_ret3 rfl rfl ?_
            refine lc_draw (fun _ d => 0 ≤ d ∧ d ≤ 998) (x12.ex (e3.trans e4)).2 rlt.1 (sq_of ((e3.trans e4) _ _ hrl)) (ev_var rfl) (by rw [ils_length]; omega) (fun _ => rfl) (fun i x H5 x5 hi => ?_) _ fun rw_ wt H5 rw0 x5 hrw hwl hwb => ?_
            · obtain ⟨hi2, rfl, hm⟩ := ils_mem hi
              have hb := hlm _ hm
              generalize len.getD i 0 = y at *
              have b9 := h5 c
              exact ei_op (A := fun z => z = y) (B := fun d => 0 ≤ d ∧ d < 3) (ei_var rfl rfl) (ei_next rfl (ei_c ⟨by decide, by decide, fun d h0 h1 => ⟨h0, h1⟩⟩)) (fun p q hp hq => by
                subst hp
                refine ⟨.inl ⟨by omega, by omega⟩, Int.mul_nonneg (by omega) hq.1, ?_⟩
                have : p * q ≤ p * 2 := Int.mul_le_mul_of_nonneg_left (by omega) (by omega)
                omega)
            · rw [ils_length] at hwl
              exact fin (e3.trans e4) rw_ wt H5 rw0 x5 hrw ⟨by omega, fun v hv => by have := mem_all (P := fun d => 0 ≤ d ∧ d ≤ 998) hwb v hv; omega⟩
          · refine s_ret3 rfl rfl ?_
            refine lc_draw (fun _ d => 0 ≤ d ∧ d < b1) (x12.ex (e3.trans e4)).2 rpt.1 (sq_of ((e3.trans e4) _ _ hrp2)) (ev_var rfl) (by rw [ils_length]; omega) (fun _ => rfl) (fun i x H5 x5 hi => ?_) _ fun rw_ wt H5 rw0 x5 hrw hwl hwb => ?_
            · exact ei_next rfl (ei_ev (i := b1) (fun H6 x6 => ev_op (ev_var rfl) ev_c (rv_ixL (sq_of (x6.at blt.1 (x5.at blt.1 ((e3.trans e4) _ _ hbl2)))) rfl)) ⟨by omega, by omega, fun d h0 h1 => ⟨h0, h1⟩⟩)
            · rw [ils_length] at hwl
              exact fin (e3.trans e4) rw_ wt H5 rw0 x5 hrw ⟨hwl, fun v hv => by have := mem_all (P := fun d => 0 ≤ d ∧ d < b1) hwb v hv; omega⟩
end
end K61
/-! _law_closed -/
namespace K61
open PySem PySem.Spec PyProof.Rows L2 Evl
open KM (nth tot walls)
theorem Refs.append {α : Type} {Pm : Addr → α → Prop} {rs rs2 : List V} {xs ys : List α} (h : Refs Pm rs xs) (h2 : Refs Pm rs2 ys) : Refs Pm (rs ++ rs2) (xs ++ ys) := by
  refine ⟨by rw [List.length_append, List.length_append, h.1, h2.1], fun i x hx => ?_⟩
  by_cases c : i < xs.length
  · rw [List.getElem?_append_left c] at hx
    obtain ⟨q, h3, h4⟩ := h.2 i x hx
    exact ⟨q, by rw [List.getElem?_append_left (by rw [h.1]; exact c)]; exact h3, h4⟩
  · rw [List.getElem?_append_right (by omega)] at hx
    obtain ⟨q, h3, h4⟩ := h2.2 _ x hx
    exact ⟨q, by rw [List.getElem?_append_right (by rw [h.1]; omega), h.1]; exact h3, h4⟩
theorem Refs.at {α : Type} {Pm : Addr → α → Prop} {rs : List V} {xs : List α} (h : Refs Pm rs xs) {i : Nat} {v : V} (hv : rs[i]? = some v) : ∃ x q, xs[i]? = some x ∧ v = .ref q ∧ Pm q x := by
  have hi := (List.getElem?_eq_some_iff.mp hv).1
  rw [h.1] at hi
  obtain ⟨q, h1, h2⟩ := h.2 i _ (List.getElem?_eq_getElem hi)
  rw [hv] at h1
  exact ⟨_, q, List.getElem?_eq_getElem hi, Option.some.inj h1, h2⟩
def CsAt (H : Hp) (q : Addr) (c : KM.CS) : Prop := ∃ m, H q = some (.tup [.int c.1, .int c.2.1, .ref m]) ∧ H m = some (.lst (ils c.2.2))
theorem CsAt.ex {H H' : Hp} {q : Addr} {c : KM.CS} (e : Ex H H') (h : CsAt H q c) : CsAt H' q c := by
  obtain ⟨m, h1, h2⟩ := h
  exact ⟨m, e _ _ h1, e _ _ h2⟩
section
variable {K : PySem.W.Frag} {H H' : Hp} {σ : L2.St} {ta tb te tv tc : TE} {tt : TT} {D : Ends} {tu tw tz : TS}
theorem e3_tup {x y : V} {zs : List V} (h1 : Ev ta σ H x) (h2 : Ev tb σ H y) (h3 : EvL tc σ H zs) : ∀ H1, Ex H H1 → ∀ Q : VK, (∀ q m H2, H1 q = none → H1 m = none → Ex H1 H2 → H2 q = some (.tup [x, y, .ref m]) → H2 m = some (.lst zs) → Q (.ref q) H2) →
    tTup (tCons ta (tCons tb (tCons tc tNil))) σ H1 Q := fun H1 e Q q => h1 H1 e _ fun H2 e2 => h2 H2 (e.trans e2) _ fun H3 e3 => h3 H3 (e.trans (e2.trans e3)) _ fun m H4 hm e4 h4 =>
  ⟨len3, fun r hr => q r m _ (fresh_back (e2.trans (e3.trans e4)) hr) (fresh_back (e2.trans e3) hm) ((e2.trans (e3.trans e4)).trans (Ex.new hr)) upd_same (Ex.new hr _ _ h4)⟩
theorem q_asgT3 {x y : V} {zs : List V} {i : Nat} (h1 : Ev ta σ H x) (h2 : Ev tb σ H y) (h3 : EvL tc σ H zs) (k : ∀ q m l H1, H l = none → Ex H H1 → H1 l = some (.lst [.ref q]) → H1 q = some (.tup [x, y, .ref m]) → H1 m = some (.lst zs) → tz D (σ.set i (some (.ref l))) H1) :
    tSeq (tAsg (tLst (tCons (tTup (tCons ta (tCons tb (tCons tc tNil)))) tNil)) (gName i)) tz D σ H := e3_tup h1 h2 h3 H (Ex.refl H) (fun x H1 => ([x] : List V).length ≤ sizeLine ∧ ∀ p, H1 p = none → tz D (σ.set i (some (.ref p))) (upd H1 p (.lst [x]))) fun q m H1 hq hm e1 h4 h5 => ⟨by show 1 ≤ sizeLine; decide, fun l hl => k q m l _ (fresh_back e1 hl) (e1.trans (Ex.new hl)) upd_same (Ex.new hl _ _ h4) (Ex.new hl _ _ h5)⟩
theorem s_appT3 {x y : V} {zs xs : List V} {j : Nat} {l : Addr} (hl : H l = some (.lst xs)) (hj : σ[j]? = some (some (.ref l))) (hz : xs.length < 100000) (h1 : Ev ta σ H x) (h2 : Ev tb σ H y) (h3 : EvL tc σ H zs)
    (k : ∀ q m H1, H q = none → H m = none → Ex H H1 → H1 q = some (.tup [x, y, .ref m]) → H1 m = some (.lst zs) → D.nx σ (upd H1 l (.lst (xs ++ [.ref q])))) :
    tDrop (tBM K "list" rAppend (tVar j) (tCons (tTup (tCons ta (tCons tb (tCons tc tNil)))) tNil)) D σ H := ⟨_, hj, Or.inl ⟨rfl, xs, sq_of hl⟩, e3_tup h1 h2 h3 H (Ex.refl H) (fun x H1 => rAppend (.ref l) [x] H1 (fun _ H2 => D.nx σ H2)) fun q m H1 hq hm e1 h4 h5 => ⟨l, xs, .ref q, rfl, rfl, e1 _ _ hl, sz_lt hz, k q m H1 hq hm e1 h4 h5⟩⟩
end
section
variable {P : Program} {w : World} {K : PySem.W.Frag} {mg : Str → Option Value} {base : Heap} {f : Addr} {fd : FuncData}
abbrev s__law_closed : Stmt := top 39
abbrev n__law_closed : List Str := ["_law_parents_here", "_law_lengths", "_law_weights", "_law_sets", "_law_k", "_law_more", "_law_one"]
theorem sc__law_closed : FnScope n__law_closed ["_law_parents_here", "_law_lengths", "_law_weights"] (defScope s__law_closed) := ⟨rfl, rfl, rfl, by decide +kernel, rfl, by decide +kernel, by decide +kernel⟩
theorem b__law_closed : BindsOk "_law_closed" "_law_closed" s__law_closed ["_law_parents_here", "_law_lengths", "_law_weights"] := fun _ _ _ _ _ _ us hl => match us, hl with | [_, _, _], _ => rfl
def spClosed (K : PySem.W.Frag) : Sp := fun vs H Q _ => ∃ (p l v : Addr) (par len wt : List Int), vs = [.ref p, .ref l, .ref v] ∧ H p = some (.lst (ils par)) ∧ H l = some (.lst (ils len)) ∧ H v = some (.lst (ils wt)) ∧ len.length = par.length ∧ wt.length = par.length ∧ par.length ≤ 8 ∧
  ∀ r rs H', H r = none → Ex H H' → H' r = some (.lst rs) → Refs (CsAt H') rs (KM.closedUp par len wt par.length) → Q (.ref r) H'
theorem two_pow_le {k : Nat} (h : k ≤ 8) : 2 ^ k ≤ 256 := by
  have : (2 : Nat) ^ k ≤ 2 ^ 8 := Nat.pow_le_pow_right (by decide) h
  omega
theorem closed_inner {len wt : List Int} {xs : List KM.CS} {i : Nat} {c : KM.CS} {g : KM.CS → Option KM.CS} (h : xs[i]? = some c) : (xs.take (i + 1)).filterMap g = (xs.take i).filterMap g ++ (match g c with | none => [] | some d => [d]) := by
  rw [List.take_add_one, h, List.filterMap_append]
  congr 1
  show List.filterMap g [c] = _
  cases hg : g c with
  | none => rw [List.filterMap_cons_none hg]; rfl
  | some d => rw [List.filterMap_cons_some hg]; rfl
theorem ok__law_closed (T : Txt K mg) (F : FnP K "_law_closed" "_law_closed" s__law_closed f fd) (g : mg "_law_closed" = some (.ref f)) : Dfn P w K mg base 1 "_law_closed" ["_law_parents_here", "_law_lengths", "_law_weights"] (spClosed K) := by
  refine dfn_of F g sc__law_closed b__law_closed (fun vs H Q E h => ?_) (BodyN.ok fun cdv A outer s H vs Q E hr h => ?_)
  · obtain ⟨_, _, _, _, _, _, rfl, _⟩ := h
    rfl
  · obtain ⟨p, ln, v, par, len, wt, rfl, hp, hln, hv, ll, wl, n8, k⟩ := h
    refine ⟨_, (pss_cons (ps_set (i := 3) sc__law_closed.nd rfl (Or.inl rfl) (pe_lst (pa_cons (pe_tup (pa_cons pe_int (pa_cons pe_int (pa_cons (pe_lst pa_nil) pa_nil)))) pa_nil)))
    (pss_cons (ps_for PassesOwn.never rfl (pi_range2 rfl T.range (pa_cons pe_int (pa_cons (pe_op op_add (pe_callB call_len_seq rfl T.len PySem.boot_len (pa_cons (pv 0) pa_nil)) pe_int) pa_nil))) (pg_name (i := 4) sc__law_closed.nd rfl (Or.inl rfl)) (pss_cons (ps_set (i := 5) sc__law_closed.nd rfl (Or.inl rfl) (pe_lst pa_nil))
    (pss_cons (ps_for PassesOwn.never rfl (pi_list (pv 3)) (pg_name (i := 6) sc__law_closed.nd rfl (Or.inl rfl)) (pss_one (ps_if (PW.pt (pw_or (pt_cmpR op_eq (pe_ix ix_list (pv 0) (pe_op op_sub (pv 4) pe_int) (fun _ _ => rfl)) pe_int (nomark _)) (pw_or1 (pt_cmpR op_in_seq (pe_ix ix_list (pv 0) (pe_op op_sub (pv 4) pe_int) (fun _ _ => rfl)) (pe_ix ix_tup (pv 6) pe_int (fun _ _ => rfl)) (by rfl))))) (pss_one (ps_expr (pe_bm PySem.F.plainAttrs_list PySem.F.slot_list_append PySem.F.type_list_append mt_append (pv 5) (pa_cons (pe_tup (pa_cons (pe_op op_add (pe_ix ix_tup (pv 6) pe_int (fun _ _ => rfl)) (pe_ix ix_list (pv 1) (pe_op op_sub (pv 4) pe_int) (fun _ _ => rfl))) (pa_cons (pe_op op_add (pe_ix ix_tup (pv 6) pe_int (fun _ _ => rfl)) (pe_ix ix_list (pv 2) (pe_op op_sub (pv 4) pe_int) (fun _ _ => rfl))) (pa_cons (pe_op op_cat (pe_ix ix_tup (pv 6) pe_int (fun _ _ => rfl)) (pe_lst (pa_cons (pv 4) pa_nil))) pa_nil)))) pa_nil)))) pss_nil)))
    (pss_one (ps_set (i := 3) sc__law_closed.nd rfl (Or.inl rfl) (pe_op op_cat (pv 3) (pv 5)))))))
    (pss_one (ps_ret (pv 3))))), ?_⟩
    refine q_asgT3 ev_c ev_c (el_lst ea_nil (by decide)) fun q0 m0 l0 H1 hl0 e1 hl hq hm => ?_
    refine q_forR2 (lo := 1) (n := (par.length : Int) + 1) (ea_cons ev_c (ea_cons (ev_op (ev_is (ev_lenS (ev_var rfl) (.inl (sq_of (e1 _ _ hp)))) (by rw [ils_length])) ev_c rv_I0) ea_nil)) (by omega)
      (fun i σ' H' => ∃ l rs u4 u5 u6, σ' = [some (.ref p), some (.ref ln), some (.ref v), some (.ref l), u4, u5, u6] ∧ Ex H H' ∧ H l = none ∧ H' l = some (.lst rs) ∧ Refs (CsAt H') rs (KM.closedUp par len wt i)) (fun H3 e3 => ⟨l0, [.ref q0], _, _, _, rfl, e1.trans e3, hl0, e3 _ _ hl, Refs.snoc (rs := []) (xs := []) Refs.nil ⟨m0, e3 _ _ hq, e3 _ _ hm⟩⟩) ?_ ?_
    · rintro i σ' H' hi ⟨l, rs, u4, u5, u6, rfl, e, hl0, hl, hR⟩
      have hi' : i < par.length := by omega
      have ei : ((1 : Int) + (i : Int) - 1) = (i : Int) := by omega
      have ei2 : ((1 : Int) + (i : Int)) = (i : Int) + 1 := by omega
      have cl := KM.closed_length par len wt i
      have c2 := two_pow_le (k := i) (by omega)
      have hRl := hR.len
      refine q_asgL (el_lst ea_nil (Nat.zero_le _)) fun m H2 hm0 e2 hm => ?_
      refine q_forLn (ev_var rfl) (sq_of (e2 _ _ hl)) (fun j σ2 H3 => ∃ rs2 u6, σ2 = [some (.ref p), some (.ref ln), some (.ref v), some (.ref l), some (.int (1 + (i : Int))), some (.ref m), u6] ∧ Ex H' H3 ∧ H3 m = some (.lst rs2) ∧ Refs (fun q c => q ≠ m ∧ ∃ mm, mm ≠ m ∧ H3 q = some (.tup [.int c.1, .int c.2.1, .ref mm]) ∧ H3 mm = some (.lst (ils c.2.2))) rs2 (((KM.closedUp par len wt i).take j).filterMap (KM.nextC par len wt i)))
        (fun H3 e3 => ⟨[], _, rfl, e2.trans e3, e3 _ _ hm, Refs.nil⟩) (fun j σ2 H3 _ h => ?_) ?_ ?_
      · obtain ⟨_, _, _, e3, _⟩ := h
        exact sq_of (e3 _ _ hl)
      · rintro j x σ2 H3 hj ⟨rs2, u6, rfl, e3, hm, hR2⟩
        obtain ⟨c, q, hc, rfl, mm, hq, hmm⟩ := hR.at hj
        have hjl := (List.getElem?_eq_some_iff.mp hj).1
        have r2l : rs2.length ≤ 256 := by
          rw [hR2.len]
          refine Nat.le_trans (List.length_filterMap_le _ _) ?_
          rw [List.length_take]
          omega
        have st := closed_inner (len := len) (wt := wt) (g := KM.nextC par len wt i) hc
        have nx : KM.nextC par len wt i c = if par.getD i 0 = 0 ∨ par.getD i 0 ∈ c.2.2 then some (c.1 + len.getD i 0, c.2.1 + wt.getD i 0, c.2.2 ++ [(i : Int) + 1]) else none := rfl
        have P3 : ∀ {H4 : Hp}, Ex H3 H4 → Ev (tOp (rIxL K) (tVar 0) (tOp (rI0 fun i j => .int (i - j)) (tVar 4) (tC (.int 1)))) [some (.ref p), some (.ref ln), some (.ref v), some (.ref l), some (.int (1 + (i : Int))), some (.ref m), some (.ref q)] H4 (.int (par.getD i 0)) := fun e4 => ev_op (ev_var rfl) (ev_op (ev_var rfl) ev_c rv_I0) (rv_ixL (sq_of ((e.trans (e3.trans e4)) _ _ hp)) (by rw [ei]; exact at_ils hi'))
        refine s_when (b := decide (par.getD i 0 = 0) || decide (par.getD i 0 ∈ c.2.2)) (et_or (et_eqI (P3 (Ex.refl H3)) ev_c) (fun _ => et_test (ev_inI (P3 (Ex.refl H3)) (ev_op (ev_var rfl) ev_c (rv_ixT (st_of (e3 _ _ hq)) rfl)) (sq_of (e3 _ _ hmm))))) (fun cc H4 e4 => ?_) (fun cc H4 e4 => ?_)
        · have cc : par.getD i 0 = 0 ∨ par.getD i 0 ∈ c.2.2 := by simpa using cc
          rw [if_pos cc] at nx
          have e34 := e3.trans e4
          have cln : c.2.2.length ≤ 8 := by
            have := (KM.closed_is (len := len) (wt := wt) i (by omega) c (List.mem_of_getElem? hc)).cl
            have := KM.cl_length this
            omega
          refine s_appT3 (e4 _ _ hm) rfl (by omega) (ev_op (ev_op (ev_var rfl) ev_c (rv_ixT (st_of (e34 _ _ hq)) rfl)) (ev_op (ev_var rfl) (ev_op (ev_var rfl) ev_c rv_I0) (rv_ixL (sq_of ((e.trans e34) _ _ hln)) (by rw [ei]; exact at_ils (by omega)))) rv_I0)
            (ev_op (ev_op (ev_var rfl) ev_c (rv_ixT (st_of (e34 _ _ hq)) rfl)) (ev_op (ev_var rfl) (ev_op (ev_var rfl) ev_c rv_I0) (rv_ixL (sq_of ((e.trans e34) _ _ hv)) (by rw [ei]; exact at_ils (by omega)))) rv_I0)
            (zs := ils c.2.2 ++ [.int (1 + (i : Int))]) (fun H5 e5 Q5 q5 => ?_) fun q2 mm2 H5 hq20 hmm20 e5 hq2 hmm2 => ?_
          · refine ev_op (z := .ref mm) (ev_var rfl) ev_c (rv_ixT (st_of (e34 _ _ hq)) rfl) H5 e5 _ fun H6 e6 => ?_
            refine el_lst (vs := [.int (1 + (i : Int))]) (ea_cons (ev_var rfl) ea_nil) (by show 1 ≤ 100000; decide) H6 (e5.trans e6) _ fun r H7 hr0 e7 hr => ?_
            exact ⟨mm, r, ils c.2.2, _, rfl, rfl, (e5.trans (e6.trans e7)) _ _ (e34 _ _ hmm), hr, sz_of (by rw [ils_length]; show c.2.2.length + 1 ≤ 100000; omega), fun r2 hr2 => q5 r2 _ (fresh_back (e6.trans e7) hr2) ((e6.trans e7).trans (Ex.new hr2)) upd_same⟩
          · have q2m : q2 ≠ m := fun cq => by
              subst cq
              rw [e4 _ _ hm] at hq20
              cases hq20
            have mm2m : mm2 ≠ m := fun cq => by
              subst cq
              rw [e4 _ _ hm] at hmm20
              cases hmm20
            refine ⟨rs2 ++ [.ref q2], _, rfl, Ex.mut (e34.trans e5) hm0, upd_same, ?_⟩
            rw [st, nx]
            refine Refs.snoc (hR2.mono fun q c _ h => ?_) ⟨q2m, mm2, mm2m, by rw [upd_ne q2m]; exact hq2, ?_⟩
            · obtain ⟨h0, mm, h1, h2, h3⟩ := h
              exact ⟨h0, mm, h1, by rw [upd_ne h0]; exact (e4.trans e5) _ _ h2, by rw [upd_ne h1]; exact (e4.trans e5) _ _ h3⟩
            · rw [upd_ne mm2m, hmm2]
              simp [ils, ei2]
        · have cc : ¬ (par.getD i 0 = 0 ∨ par.getD i 0 ∈ c.2.2) := by simpa using cc
          rw [if_neg cc] at nx
          refine ⟨rs2, _, rfl, e3.trans e4, e4 _ _ hm, ?_⟩
          rw [st, nx, List.append_nil]
          exact hR2.mono fun q c _ ⟨h0, mm, h1, h2, h3⟩ => ⟨h0, mm, h1, e4 _ _ h2, e4 _ _ h3⟩
      · rintro σ2 H3 ⟨rs2, u6, rfl, e3, hm, hR2⟩
        rw [hRl, List.take_length] at hR2
        have r2l : rs2.length ≤ 256 := by
          rw [hR2.len]
          refine Nat.le_trans (List.length_filterMap_le _ _) ?_
          omega
        refine s_asgL (el_cat (ev_var rfl) (ev_var rfl) (e3 _ _ hl) hm (by omega)) fun l2 H4 hl20 e4 hl2 => ?_
        refine ⟨l2, _, _, _, _, rfl, e.trans (e3.trans e4), fresh_back (e.trans e3) hl20, hl2, ?_⟩
        exact Refs.append (hR.mono fun q c _ h => h.ex (e3.trans e4)) (hR2.mono fun q c _ ⟨h0, mm, h1, h2, h3⟩ => ⟨mm, e4 _ _ h2, e4 _ _ h3⟩)
    · rintro σ' H' ⟨l, rs, u4, u5, u6, rfl, e, hl0, hl, hR⟩
      have : ((par.length : Int) + 1 - 1).toNat = par.length := by omega
      rw [this] at hR
      exact ⟨_, rfl, k l rs H' hl0 e hl hR⟩
end
end K61
/-! _law_wrong, _law_steeper, _law_ends -/
namespace K61
open PySem PySem.Spec PyProof.Rows L2 Evl
open KM (nth tot walls)
section
variable {P : Program} {w : World} {K : PySem.W.Frag} {mg : Str → Option Value} {base : Heap} {f : Addr} {fd : FuncData}
abbrev s__law_wrong : Stmt := top 36
abbrev n__law_wrong : List Str := ["_law_values", "_law_least", "_law_many", "_law_at"]
theorem sc__law_wrong : FnScope n__law_wrong ["_law_values", "_law_least", "_law_many"] (defScope s__law_wrong) := ⟨rfl, rfl, rfl, by decide +kernel, rfl, by decide +kernel, by decide +kernel⟩
theorem b__law_wrong : BindsOk "_law_wrong" "_law_wrong" s__law_wrong ["_law_values", "_law_least", "_law_many"] := fun _ _ _ _ _ _ us hl => match us, hl with | [_, _, _], _ => rfl
theorem ok__law_wrong (T : Txt K mg) (F : FnP K "_law_wrong" "_law_wrong" s__law_wrong f fd) (g : mg "_law_wrong" = some (.ref f)) : Dfn P w K mg base 1 "_law_wrong" ["_law_values", "_law_least", "_law_many"] (spWrong K) := by
  refine dfn_of F g sc__law_wrong b__law_wrong (fun vs H Q E h => ?_) (BodyN.ok fun cdv A outer s H vs Q E hr h => ?_)
  · obtain ⟨_, _, _, _, rfl, _⟩ := h
    rfl
  · obtain ⟨a, ns, least, many, rfl, hS, hl, k⟩ := h
    refine ⟨_, (pss_cons (ps_for PassesOwn.never rfl (pi_range1 rfl T.range (pa_cons (pe_callB call_len_seq rfl T.len PySem.boot_len (pa_cons (pv 0) pa_nil)) pa_nil)) (pg_name (i := 3) sc__law_wrong.nd rfl (Or.inl rfl)) (pss_one (ps_if (pt_cmpR op_lt (pe_ix ix_seq (pv 0) (pv 3) (fun _ _ => rfl)) (pv 1) (nomark _)) (pss_one (ps_ret (pv 3))) pss_nil)))
    (pss_cons (ps_if (pt_cmpR op_ne (pe_callB call_len_seq rfl T.len PySem.boot_len (pa_cons (pv 0) pa_nil)) (pv 2) (nomark _)) (pss_one (ps_ret (pe_callB call_len_seq rfl T.len PySem.boot_len (pa_cons (pv 0) pa_nil)))) pss_nil)
    (pss_one (ps_ret pe_non)))), ?_⟩
    refine q_forR1 (n := (ns.length : Int)) (ea_cons (ev_is (ev_lenS (ev_var rfl) hS) (by rw [ils_length])) ea_nil) (by omega)
      (fun i σ' H' => (∃ v, σ' = [some (.ref a), some (.int least), some (.int many), v]) ∧ Ex H H' ∧ ∀ j, j < i → ¬ ns.getD j 0 < least) (fun H1 e => ⟨⟨_, rfl⟩, e, fun j hj => by omega⟩) ?_ ?_
    · rintro i σ' H' hi ⟨⟨v, rfl⟩, e, hb⟩
      have hi' : i < ns.length := by omega
      refine s_when (et_test (ev_op (ev_op (ev_var rfl) (ev_var rfl) (rv_ix (hS.ex e) (at_ils hi'))) (ev_var rfl) rv_I0)) (fun c H1 e1 => ?_) (fun c H1 e1 => ?_)
      · have c := of_decide_eq_true c
        refine s_ret (ev_var rfl) fun H2 e2 => ?_
        have e3 : wrong ns least many = some (i : Int) := by
          unfold wrong
          have : ns.findIdx? (fun v => decide (v < least)) = some i := by
            rw [List.findIdx?_eq_some_iff_getElem]
            refine ⟨hi', ?_, fun j hj => ?_⟩
            · rw [List.getD_eq_getElem?_getD, List.getElem?_eq_getElem hi'] at c
              exact decide_eq_true c
            · have := hb j hj
              rw [List.getD_eq_getElem?_getD, List.getElem?_eq_getElem (by omega)] at this
              simpa using this
          rw [this]
        rw [e3] at k
        exact k H2 (e.trans (e1.trans e2))
      · have c := of_decide_eq_false c
        refine ⟨⟨_, rfl⟩, e.trans e1, fun j hj => ?_⟩
        by_cases q : j = i
        · subst q; exact c
        · exact hb j (by omega)
    · rintro σ' H' ⟨⟨v, rfl⟩, e, hb⟩
      have e0 : ns.findIdx? (fun v => decide (v < least)) = none := by
        rw [List.findIdx?_eq_none_iff]
        intro x hx
        obtain ⟨j, hj, rfl⟩ := List.getElem_of_mem hx
        have := hb j (by omega)
        rw [List.getD_eq_getElem?_getD, List.getElem?_eq_getElem hj] at this
        simpa using this
      refine q_when (et_test (ev_op (ev_lenS (ev_var rfl) (hS.ex e)) (ev_var rfl) (rv_ne rfl))) (fun c H1 e1 => ?_) (fun c H1 e1 => ?_)
      · refine s_ret (ev_is (ev_lenS (ev_var rfl) ((hS.ex e).ex e1)) (by rw [ils_length])) fun H2 e2 => ?_
        have : wrong ns least many = some (ns.length : Int) := by
          unfold wrong
          rw [e0]
          rw [ils_length] at c
          have c' : ¬ (ns.length : Int) = many := by simpa using c
          show (if _ then _ else _) = _
          rw [if_neg c']
        rw [this] at k
        exact k H2 (e.trans (e1.trans e2))
      · refine s_ret ev_c fun H2 e2 => ?_
        have : wrong ns least many = none := by
          unfold wrong
          rw [e0]
          rw [ils_length] at c
          have c' : (ns.length : Int) = many := by simpa using c
          show (if _ then _ else _) = _
          rw [if_pos c']
        rw [this] at k
        exact k H2 (e.trans (e1.trans e2))
abbrev s__law_steeper : Stmt := top 41
abbrev n__law_steeper : List Str := ["_law_more", "_law_best"]
theorem sc__law_steeper : FnScope n__law_steeper ["_law_more", "_law_best"] (defScope s__law_steeper) := ⟨rfl, rfl, rfl, by decide +kernel, rfl, by decide +kernel, by decide +kernel⟩
theorem b__law_steeper : BindsOk "_law_steeper" "_law_steeper" s__law_steeper ["_law_more", "_law_best"] := fun _ _ _ _ _ _ us hl => match us, hl with | [_, _], _ => rfl
def Bd (c : Int × Int) : Prop := -100000 ≤ c.1 ∧ c.1 ≤ 100000 ∧ -100000 ≤ c.2 ∧ c.2 ≤ 100000
def spSteeper : Sp := fun vs H Q _ => ∃ (m b : Addr) (x y : Int × Int), vs = [.ref m, .ref b] ∧ PairAt H m x ∧ PairAt H b y ∧ Bd x ∧ RetV (.bl (KM.steeper x y)) H Q
theorem ok__law_steeper (T : Txt K mg) (F : FnP K "_law_steeper" "_law_steeper" s__law_steeper f fd) (g : mg "_law_steeper" = some (.ref f)) : Dfn P w K mg base 1 "_law_steeper" ["_law_more", "_law_best"] spSteeper := by
  refine dfn_of F g sc__law_steeper b__law_steeper (fun vs H Q E h => ?_) (BodyN.ok fun cdv A outer s H vs Q E hr h => ?_)
  · obtain ⟨_, _, _, _, rfl, _⟩ := h
    rfl
  · obtain ⟨m, b, x, y, rfl, hm, hb, ⟨b1, b2, b3, b4⟩, k⟩ := h
    refine ⟨_, (pss_cons (ps_if (pt_cmpR op_eq (pe_op op_mul (pe_ix ix_tup (pv 0) pe_int (fun _ _ => rfl)) (pe_ix ix_tup (pv 1) pe_int (fun _ _ => rfl))) (pe_op op_mul (pe_ix ix_tup (pv 1) pe_int (fun _ _ => rfl)) (pe_ix ix_tup (pv 0) pe_int (fun _ _ => rfl))) (nomark _)) (pss_one (ps_ret (pe_cmpR op_gt (pe_ix ix_tup (pv 0) pe_int (fun _ _ => rfl)) (pe_ix ix_tup (pv 1) pe_int (fun _ _ => rfl)) (nomark _)))) pss_nil)
    (pss_one (ps_ret (pe_cmpR op_gt (pe_op op_mul (pe_ix ix_tup (pv 0) pe_int (fun _ _ => rfl)) (pe_ix ix_tup (pv 1) pe_int (fun _ _ => rfl))) (pe_op op_mul (pe_ix ix_tup (pv 1) pe_int (fun _ _ => rfl)) (pe_ix ix_tup (pv 0) pe_int (fun _ _ => rfl))) (nomark _))))), ?_⟩
    have I : ∀ {H1 : Hp}, Ex H H1 → (Ev (tOp (rIxT K) (tVar 0) (tC (.int 0))) (L2.start n__law_steeper [.ref m, .ref b]) H1 (.int x.1) ∧ Ev (tOp (rIxT K) (tVar 0) (tC (.int 1))) (L2.start n__law_steeper [.ref m, .ref b]) H1 (.int x.2)) ∧
        (Ev (tOp (rIxT K) (tVar 1) (tC (.int 0))) (L2.start n__law_steeper [.ref m, .ref b]) H1 (.int y.1) ∧ Ev (tOp (rIxT K) (tVar 1) (tC (.int 1))) (L2.start n__law_steeper [.ref m, .ref b]) H1 (.int y.2)) := fun e =>
      ⟨⟨ev_op (ev_var rfl) ev_c (rv_ixT (st_of (e _ _ hm)) rfl), ev_op (ev_var rfl) ev_c (rv_ixT (st_of (e _ _ hm)) rfl)⟩, ⟨ev_op (ev_var rfl) ev_c (rv_ixT (st_of (e _ _ hb)) rfl), ev_op (ev_var rfl) ev_c (rv_ixT (st_of (e _ _ hb)) rfl)⟩⟩
    have i0 := I (Ex.refl H)
    refine q_when (et_eqI (ev_op i0.1.2 i0.2.1 (rv_I (.inl ⟨by omega, by omega⟩))) (ev_op i0.2.2 i0.1.1 (rv_I (.inr ⟨by omega, by omega⟩)))) (fun c H1 e1 => ?_) (fun c H1 e1 => ?_)
    · have c := of_decide_eq_true c
      refine s_ret (ev_gt (I e1).1.1 (I e1).2.1) fun H2 e2 => ?_
      have : KM.steeper x y = decide (y.1 < x.1) := by
        unfold KM.steeper
        rw [if_pos c]
      rw [this] at k
      exact k H2 (e1.trans e2)
    · have c := of_decide_eq_false c
      have i1 := I e1
      refine s_ret (ev_gt (ev_op i1.1.2 i1.2.1 (rv_I (.inl ⟨by omega, by omega⟩))) (ev_op i1.2.2 i1.1.1 (rv_I (.inr ⟨by omega, by omega⟩)))) fun H2 e2 => ?_
      have : KM.steeper x y = decide (y.2 * x.1 < x.2 * y.1) := by
        unfold KM.steeper
        rw [if_neg c]
      rw [this] at k
      exact k H2 (e1.trans e2)
abbrev s__law_ends : Stmt := top 42
abbrev n__law_ends : List Str := ["_law_parents_here", "_law_sets", "_law_found", "_law_turn", "_law_low", "_law_best", "_law_one", "_law_more"]
theorem sc__law_ends : FnScope n__law_ends ["_law_parents_here", "_law_sets"] (defScope s__law_ends) := ⟨rfl, rfl, rfl, by decide +kernel, rfl, by decide +kernel, by decide +kernel⟩
theorem b__law_ends : BindsOk "_law_ends" "_law_ends" s__law_ends ["_law_parents_here", "_law_sets"] := fun _ _ _ _ _ _ us hl => match us, hl with | [_, _], _ => rfl
theorem fold_mem {low : Int × Int} {T : List KM.CS} : ∀ (ts : List KM.CS) (best : Option (Int × Int)), (∀ c ∈ ts, c ∈ T) → (∀ m, best = some m → ∃ c ∈ T, m = KM.diff low c) → ∀ m, ts.foldl (KM.bestStep low) best = some m → ∃ c ∈ T, m = KM.diff low c
  | [], best, _, h, m, e => h m e
  | c :: ts, best, hs, h, m, e => by
    refine fold_mem ts (KM.bestStep low best c) (fun d hd => hs d (List.mem_cons_of_mem _ hd)) (fun m hm => ?_) m e
    unfold KM.bestStep at hm
    split at hm
    · exact ⟨c, hs c List.mem_cons_self, (Option.some.inj hm).symm⟩
    · exact h m hm
theorem ends_mem {ts : List KM.CS} : ∀ k c, c ∈ KM.endsUp ts k → c = (0, 0) ∨ ∃ o ∈ ts, c = (o.1, o.2.1)
  | 0, c, h => .inl (by simpa [KM.endsUp] using h)
  | k + 1, c, h => by
    have h : c ∈ KM.endStep ts (KM.endsUp ts k) := h
    unfold KM.endStep at h
    split at h
    · exact ends_mem k c h
    · rename_i m hm
      rcases List.mem_append.mp h with h | h
      · exact ends_mem k c h
      · obtain ⟨o, ho, rfl⟩ := fold_mem ts none (fun c h => h) (fun m e => by cases e) m hm
        refine .inr ⟨o, ho, ?_⟩
        rw [List.mem_singleton.mp h]
        unfold KM.diff
        ext <;> simp <;> omega
theorem ends_ne (ts : List KM.CS) : ∀ k, 1 ≤ (KM.endsUp ts k).length
  | 0 => Nat.le_refl _
  | k + 1 => by
    have := ends_ne ts k
    show 1 ≤ (KM.endStep ts (KM.endsUp ts k)).length
    unfold KM.endStep
    split
    · exact this
    · rw [List.length_append]
      omega
theorem ends_len (ts : List KM.CS) : ∀ k, (KM.endsUp ts k).length ≤ k + 1
  | 0 => Nat.le_refl _
  | k + 1 => by
    have := ends_len ts k
    show (KM.endStep ts (KM.endsUp ts k)).length ≤ _
    unfold KM.endStep
    split
    · omega
    · rw [List.length_append]
      show _ + 1 ≤ _
      omega
theorem lastD_at {xs : List (Int × Int)} (h : 1 ≤ xs.length) : xs[xs.length - 1]? = some (xs.getLastD (0, 0)) := by
  have hne : xs ≠ [] := fun c => by rw [c] at h; simp at h
  rw [← List.getLast?_eq_getElem?, List.getLastD_eq_getLast?, List.getLast?_eq_some_getLast hne]
  rfl
/-- a set's numbers as they stand -/
def CnAt (H : Hp) (q : Addr) (c : KM.CS) : Prop := ∃ m, H q = some (.tup [.int c.1, .int c.2.1, .ref m])
def BestV (H : Hp) (v : V) : Option (Int × Int) → Prop
  | none => v = .non
  | some m => ∃ q, v = .ref q ∧ PairAt H q m
theorem PairAt.ex {H H' : Hp} {q : Addr} {c : Int × Int} (e : Ex H H') (h : PairAt H q c) : PairAt H' q c := e _ _ h
theorem CnAt.ex {H H' : Hp} {q : Addr} {c : KM.CS} (e : Ex H H') (h : CnAt H q c) : CnAt H' q c := by
  obtain ⟨m, h1⟩ := h
  exact ⟨m, e _ _ h1⟩
theorem BestV.ex {H H' : Hp} {v : V} {o : Option (Int × Int)} (e : Ex H H') (h : BestV H v o) : BestV H' v o := by
  cases o with
  | none => exact h
  | some m =>
    obtain ⟨q, h1, h2⟩ := h
    exact ⟨q, h1, h2.ex e⟩
def CBd (c : KM.CS) : Prop := 0 ≤ c.1 ∧ c.1 ≤ 10000 ∧ 0 ≤ c.2.1 ∧ c.2.1 ≤ 10000
def spEnds (K : PySem.W.Frag) : Sp := fun vs H Q _ => ∃ (p s : Addr) (par : List Int) (rs : List V) (ts : List KM.CS), vs = [.ref p, .ref s] ∧ H p = some (.lst (ils par)) ∧ H s = some (.lst rs) ∧ Refs (CnAt H) rs ts ∧ (∀ c ∈ ts, CBd c) ∧ par.length ≤ 8 ∧
  ∀ r rs' H', H r = none → Ex H H' → H' r = some (.lst rs') → Refs (PairAt H') rs' (KM.endsUp ts par.length) → Q (.ref r) H'
theorem ok__law_ends (T : Txt K mg) (d__law_steeper : Dfn P w K mg base 1 "_law_steeper" ["_law_more", "_law_best"] spSteeper) (F : FnP K "_law_ends" "_law_ends" s__law_ends f fd) (g : mg "_law_ends" = some (.ref f)) : Dfn P w K mg base 2 "_law_ends" ["_law_parents_here", "_law_sets"] (spEnds K) := by
  refine dfn_of F g sc__law_ends b__law_ends (fun vs H Q E h => ?_) (BodyN.ok fun cdv A outer s H vs Q E hr h => ?_)
  · obtain ⟨_, _, _, _, _, rfl, _⟩ := h
    rfl
  · obtain ⟨p, s0, par, rs, ts, rfl, hp, hs, hR, hB, n8, k⟩ := h
    refine ⟨_, (pss_cons (ps_set (i := 2) sc__law_ends.nd rfl (Or.inl rfl) (pe_lst (pa_cons (pe_tup (pa_cons pe_int (pa_cons pe_int pa_nil))) pa_nil)))
    (pss_cons (ps_for PassesOwn.never rfl (pi_range1 rfl T.range (pa_cons (pe_callB call_len_seq rfl T.len PySem.boot_len (pa_cons (pv 0) pa_nil)) pa_nil)) (pg_name (i := 3) sc__law_ends.nd rfl (Or.inl rfl)) (pss_cons (ps_set (i := 4) sc__law_ends.nd rfl (Or.inl rfl) (pe_ix ix_list (pv 2) (pe_op op_sub (pe_callB call_len_seq rfl T.len PySem.boot_len (pa_cons (pv 2) pa_nil)) pe_int) (fun _ _ => rfl)))
    (pss_cons (ps_set (i := 5) sc__law_ends.nd rfl (Or.inl rfl) pe_non)
    (pss_cons (ps_for PassesOwn.never rfl (pi_list (pv 1)) (pg_name (i := 6) sc__law_ends.nd rfl (Or.inl rfl)) (pss_cons (ps_set (i := 7) sc__law_ends.nd rfl (Or.inl rfl) (pe_tup (pa_cons (pe_op op_sub (pe_ix ix_tup (pv 6) pe_int (fun _ _ => rfl)) (pe_ix ix_tup (pv 4) pe_int (fun _ _ => rfl))) (pa_cons (pe_op op_sub (pe_ix ix_tup (pv 6) pe_int (fun _ _ => rfl)) (pe_ix ix_tup (pv 4) pe_int (fun _ _ => rfl))) pa_nil))))
    (pss_one (ps_if (PW.pt (pw_and (pt_cmpR op_gt (pe_ix ix_tup (pv 7) pe_int (fun _ _ => rfl)) pe_int (nomark _)) (pw_and1 (PW.pt (pw_or (pt_cmpR op_isN (pv 5) pe_non (nomark _)) (pw_or1 (pt_val (pe_fn d__law_steeper (hr.mono (by decide)) rfl (pa_cons (pv 7) (pa_cons (pv 5) pa_nil)))))))))) (pss_one (ps_set (i := 5) sc__law_ends.nd rfl (Or.inl rfl) (pv 7))) pss_nil))))
    (pss_one (ps_if (pt_cmpR op_notN (pv 5) pe_non (nomark _)) (pss_one (ps_expr (pe_bm PySem.F.plainAttrs_list PySem.F.slot_list_append PySem.F.type_list_append mt_append (pv 2) (pa_cons (pe_tup (pa_cons (pe_op op_add (pe_ix ix_tup (pv 4) pe_int (fun _ _ => rfl)) (pe_ix ix_tup (pv 5) pe_int (fun _ _ => rfl))) (pa_cons (pe_op op_add (pe_ix ix_tup (pv 4) pe_int (fun _ _ => rfl)) (pe_ix ix_tup (pv 5) pe_int (fun _ _ => rfl))) pa_nil))) pa_nil)))) pss_nil))))))
    (pss_one (ps_ret (pv 2))))), ?_⟩
    refine q_asgLU (eu_tup (vs := [.int 0, .int 0]) (ea_cons ev_c (ea_cons ev_c ea_nil)) (by decide)) fun t0 f0 H1 hf0 e1 ht hf => ?_
    refine q_forR1 (n := (par.length : Int)) (ea_cons (ev_is (ev_lenS (ev_var rfl) (.inl (sq_of (e1 _ _ hp)))) (by rw [ils_length])) ea_nil) (by omega)
      (fun i σ' H' => ∃ rs' u3 u4 u5 u6 u7, σ' = [some (.ref p), some (.ref s0), some (.ref f0), u3, u4, u5, u6, u7] ∧ Ex H H' ∧ H' f0 = some (.lst rs') ∧ Refs (PairAt H') rs' (KM.endsUp ts i)) (fun H2 e2 => ⟨_, _, _, _, _, _, rfl, e1.trans e2, e2 _ _ hf, Refs.snoc (rs := []) (xs := []) Refs.nil (e2 _ _ ht)⟩) ?_ ?_
    · rintro i σ' H' hi ⟨rs', u3, u4, u5, u6, u7, rfl, e, hf, hRf⟩
      have fl := ends_ne ts i
      have fu := ends_len ts i
      have fm := ends_mem (ts := ts) i
      have est : KM.endsUp ts (i + 1) = KM.endStep ts (KM.endsUp ts i) := rfl
      rw [est]
      unfold KM.endStep
      generalize KM.endsUp ts i = fnd at *
      have hla := lastD_at fl
      generalize fnd.getLastD (0, 0) = low at *
      have lb : 0 ≤ low.1 ∧ low.1 ≤ 10000 ∧ 0 ≤ low.2 ∧ low.2 ≤ 10000 := by
        rcases fm low (List.mem_of_getElem? hla) with h | ⟨o, ho, h⟩
        · rw [h]; decide
        · rw [h]; exact hB o ho
      obtain ⟨ql, hq1, hq2⟩ := hRf.2 _ _ hla
      have hRl := hRf.len
      have ei : ((rs'.length : Nat) : Int) - 1 = ((fnd.length - 1 : Nat) : Int) := by omega
      refine q_asg (ev_op (ev_var rfl) (ev_op (ev_lenS (ev_var rfl) (.inl (sq_of hf))) ev_c rv_I0) (rv_ixL (sq_of hf) (by rw [ei]; exact atI_at hq1))) fun H2 e2 => ?_
      refine q_asg ev_c fun H3 e3 => ?_
      have e23 := e2.trans e3
      refine q_forLn (ev_var rfl) (sq_of ((e.trans e23) _ _ hs)) (fun j σ2 H4 => ∃ vb u6 u7, σ2 = [some (.ref p), some (.ref s0), some (.ref f0), some (.int (i : Int)), some (.ref ql), some vb, u6, u7] ∧ Ex H' H4 ∧ BestV H4 vb ((ts.take j).foldl (KM.bestStep low) none))
        (fun H4 e4 => ⟨_, _, _, rfl, e23.trans e4, rfl⟩) (fun j σ2 H4 _ h => ?_) ?_ ?_
      · obtain ⟨_, _, _, _, e4, _⟩ := h
        exact sq_of ((e.trans e4) _ _ hs)
      · rintro j x σ2 H4 hj ⟨vb, u6, u7, rfl, e4, hbv⟩
        obtain ⟨c, q, hc, rfl, mm, hq⟩ := hR.at hj
        have hq4 := (e.trans e4) _ _ hq
        have hl4 : PairAt H4 ql low := e4 _ _ hq2
        have cb := hB c (List.mem_of_getElem? hc)
        have step : (ts.take (j + 1)).foldl (KM.bestStep low) none = KM.bestStep low ((ts.take j).foldl (KM.bestStep low) none) c := by
          rw [List.take_add_one, hc, List.foldl_append]
          rfl
        rw [step]
        generalize (ts.take j).foldl (KM.bestStep low) none = best at *
        refine q_asgU (xs := [.int (KM.diff low c).1, .int (KM.diff low c).2]) (eu_tup (ea_cons (ev_op (ev_op (ev_var rfl) ev_c (rv_ixT (st_of hq4) rfl)) (ev_op (ev_var rfl) ev_c (rv_ixT (st_of hl4) rfl)) rv_I0) (ea_cons (ev_op (ev_op (ev_var rfl) ev_c (rv_ixT (st_of hq4) rfl)) (ev_op (ev_var rfl) ev_c (rv_ixT (st_of hl4) rfl)) rv_I0) ea_nil)) (by show 2 ≤ 100000; decide)) fun mo H5 hmo0 e5 hmo => ?_
        have bd : Bd (KM.diff low c) := by
          unfold Bd KM.diff
          unfold CBd at cb
          simp only
          omega
        unfold KM.bestStep
        generalize KM.diff low c = d at *
        have hbv5 := hbv.ex e5
        refine s_when (b := decide (0 < d.1) && KM.better d best) (et_and (et_gt (ev_op (ev_var rfl) ev_c (rv_ixT (st_of hmo) rfl)) ev_c) (fun _ => ?_)) (fun cc H6 e6 => ?_) (fun cc H6 e6 => ?_)
        · cases best with
          | none =>
            have hb0 : vb = .non := hbv5
            subst hb0
            exact et_or (a := true) (b := false) (et_test (ev_op (ev_var rfl) ev_c rv_isN)) (fun c => by cases c)
          | some m =>
            obtain ⟨qb, rfl, hqb⟩ := hbv5
            exact et_or (a := false) (et_test (ev_op (ev_var rfl) ev_c rv_isN)) (fun _ => et_B (ev_fn (ea_cons (ev_var rfl) (ea_cons (ev_var rfl) ea_nil)) (fun H6 e6 Q1 q1 E1 => ⟨mo, qb, d, m, rfl, e6 _ _ hmo, e6 _ _ hqb, bd, q1⟩)))
        · refine s_asg (ev_var rfl) fun H7 e7 => ?_
          rw [if_pos cc]
          exact ⟨_, _, _, rfl, e4.trans (e5.trans (e6.trans e7)), mo, rfl, (e6.trans e7) _ _ hmo⟩
        · rw [if_neg (by rw [cc]; decide)]
          exact ⟨_, _, _, rfl, e4.trans (e5.trans e6), hbv5.ex e6⟩
      · rintro σ2 H4 ⟨vb, u6, u7, rfl, e4, hbv⟩
        rw [hR.len, List.take_length] at hbv
        generalize ts.foldl (KM.bestStep low) none = best at *
        have hl4 : PairAt H4 ql low := e4 _ _ hq2
        cases best with
        | none =>
          have hb0 : vb = .non := hbv
          subst hb0
          refine s_when (b := false) (et_test (ev_op (ev_var rfl) ev_c rv_notN)) (fun c => by cases c) (fun _ H5 e5 => ?_)
          exact ⟨rs', _, _, _, _, _, rfl, e.trans (e4.trans e5), (e4.trans e5) _ _ hf, hRf.mono fun q c _ h => (h.ex (e4.trans e5))⟩
        | some m =>
          obtain ⟨qb, rfl, hqb⟩ := hbv
          refine s_when (b := true) (et_test (ev_op (ev_var rfl) ev_c rv_notN)) (fun _ H5 e5 => ?_) (fun c => by cases c)
          have hl5 := hl4.ex e5
          have hb5 := hqb.ex e5
          refine s_appU (xs := rs') (ys := [.int (low.1 + m.1), .int (low.2 + m.2)]) ((e4.trans e5) _ _ hf) (ev_var rfl) (eu_tup (ea_cons (ev_op (ev_op (ev_var rfl) ev_c (rv_ixT (st_of hl5) rfl)) (ev_op (ev_var rfl) ev_c (rv_ixT (st_of hb5) rfl)) rv_I0) (ea_cons (ev_op (ev_op (ev_var rfl) ev_c (rv_ixT (st_of hl5) rfl)) (ev_op (ev_var rfl) ev_c (rv_ixT (st_of hb5) rfl)) rv_I0) ea_nil)) (by show 2 ≤ 100000; decide)) (by omega) fun t H6 ht0 e6 ht => ?_
          have tf : t ≠ f0 := fun c => by
            subst c
            rw [(e4.trans e5) _ _ hf] at ht0
            cases ht0
          refine ⟨rs' ++ [.ref t], _, _, _, _, _, rfl, Ex.mut (e.trans (e4.trans (e5.trans e6))) hf0, upd_same, ?_⟩
          refine Refs.snoc (hRf.mono fun q c _ h => ?_) ?_
          · have h : H' q = some (.tup [.int c.1, .int c.2]) := h
            have qf : q ≠ f0 := fun cc => by
              subst cc
              rw [hf] at h
              cases h
            show (upd H6 f0 _) q = _
            rw [upd_ne qf]
            exact (e4.trans (e5.trans e6)) _ _ h
          · show (upd H6 f0 _) t = _
            rw [upd_ne tf]
            exact ht
    · rintro σ' H' ⟨rs', u3, u4, u5, u6, u7, rfl, e, hf, hRf⟩
      exact ⟨_, rfl, k f0 rs' H' hf0 e hf hRf⟩
end
end K61
/-! _law_is_number, _law_same: as they are, and called in an except suite -/
namespace K61
open PySem PySem.Spec PyProof.Rows L2 Evl L2H
structure DfnH (P : Program) (w : World) (K : PySem.W.Frag) (mg : Str → Option Value) (base : Heap) (k : Nat) (x : Str) (ps : List Str) (sp : Sp) : Prop where
  ex : ∃ (f : Addr) (fd : FuncData), FnH P w K mg base (L2N.CX P w) k f fd ps sp ∧ mg x = some (.ref f) ∧ PySem.W.keepIn K (.ref f) = true ∧ Binds K fd ps []
section
variable {P : Program} {w : World} {K : PySem.W.Frag} {mg : Str → Option Value} {base : Heap} {f : Addr} {fd : FuncData} {x q : Str} {st : Stmt} {N ps : List Str} {k : Nat} {sp : Sp}
abbrev BodyH (P : Program) (w : World) (K : PySem.W.Frag) (mg : Str → Option Value) (base : Heap) (N : List Str) (q : Str) (st : Stmt) (f : Addr) (k : Nat) (sp : Sp) : Prop :=
  ∀ (cdv : Value) (A : Around) (outer : List Env) (s : Shared) (H : Hp) (vs : List V) (Q : VK) (E : XK) (p : Addr × Obj), HotC (cxH (L2N.CX P w) P w K mg base N q (defScope st) f cdv A outer s H E p) → RoomH k (A.deeper (envOfC q (defScope st) s.heap.objs.size f cdv)) → sp vs H Q E →
    ∃ t, PSs (cxH (L2N.CX P w) P w K mg base N q (defScope st) f cdv A outer s H E p) (defBody st) t ∧ t { nx := fun _ H' => Q .non H', rt := Q } (L2.start N vs) H
theorem dfnH_of (F : FnP K x q st f fd) (g : mg x = some (.ref f)) (S : FnScope N ps (defScope st)) (hb : BindsOk x q st ps) (len : ∀ vs H Q E, sp vs H Q E → vs.length = ps.length) (hbody : BodyH P w K mg base N q st f k sp) :
    DfnH P w K mg base (k + 1) x ps sp := by
  refine ⟨⟨f, fd, ?_, g, F.kp, F.bindsN hb⟩⟩
  obtain ⟨oc, od, dV, kV, doc, pm, an, cdv, ct, osl, rfl, lk, hcd, _, _⟩ := F.ex
  exact fn_ofH lk hcd S len fun A outer s H vs Q E p hot hr hsp => hbody cdv A outer s H vs Q E p ⟨p, hot, List.mem_singleton.mpr rfl⟩ hr hsp
end
section
variable {X : Cx} {k : Nat} {ps : List Str} {sp : Sp} {x : Str} {p pos : Pos} {e : Expr} {es : List Expr} {t : TA}
theorem pe_fnH (D : DfnH X.prog X.w X.K X.mg X.base k x ps sp) (hr : RoomH k X.A) (hc : HotC X) (hg : Gl X x)
    (ha : PA X (e :: es) t) (hdb : (x == ("__debug__" : Str)) = false := by decide) (he : starEach (e :: es) X.env = (false, eval e X.env) :: starEach es X.env := by rfl) (hpl : (backTo pos (starEach es X.env)).any (·.1) = false := by rfl) :
    PE X (.Call (.Name x p) (e :: es) [] pos) (tCall sp [] E0 t) := by
  obtain ⟨f, fd, h1, h2, h3, h4⟩ := D.ex
  have ee : tCall sp [] E0 t = tCallS sp (fun _ => E0) t := by
    funext σ H Q
    unfold tCall tCallS
    simp
  rw [ee]
  exact pe_callH h1 hr hc hg h2 h3 h4 (fun σ pins H s e s1 I h => passN (X := X) pins σ H s e s1 I h) ha hdb he hpl
end
section
variable {K : PySem.W.Frag} {H H' : Hp} {σ : L2.St} {ta : TE} {x : V}
theorem ev_isi {n t : String} {b : Bool} (ha : Ev ta σ H x) (ty : ∀ H1, Ex H H1 → TyX K H1 x (.type t)) (h : kitB t n = some b) : Ev (tCB (rIsi K) (tCons ta (tCons (tC (.ty n)) tNil))) σ H (.bl b) := fun H1 e Q q =>
  ha H1 e _ fun H2 e2 => ⟨x, .ty n, .type t, .type n, b, rfl, .ty n, ty H2 (e.trans e2), kit_ty h, q H2 e2⟩
end
section
variable {P : Program} {w : World} {K : PySem.W.Frag} {mg : Str → Option Value} {base : Heap} {f : Addr} {fd : FuncData}
abbrev s__law_is_number : Stmt := top 34
abbrev n__law_is_number : List Str := ["_law_thing"]
theorem sc__law_is_number : FnScope n__law_is_number ["_law_thing"] (defScope s__law_is_number) := ⟨rfl, rfl, rfl, by decide +kernel, rfl, by decide +kernel, by decide +kernel⟩
theorem b__law_is_number : BindsOk "_law_is_number" "_law_is_number" s__law_is_number ["_law_thing"] := fun _ _ _ _ _ _ us hl => match us, hl with | [_], _ => rfl
def spNumber : Sp := fun vs H Q _ => ∃ i : Int, vs = [.int i] ∧ RetV (.bl true) H Q
theorem ok__law_is_number (T : Txt K mg) (F : FnP K "_law_is_number" "_law_is_number" s__law_is_number f fd) (g : mg "_law_is_number" = some (.ref f)) : Dfn P w K mg base 1 "_law_is_number" ["_law_thing"] spNumber := by
  refine dfn_of F g sc__law_is_number b__law_is_number (fun vs H Q E h => ?_) (BodyN.ok fun cdv A outer s H vs Q E hr h => ?_)
  · obtain ⟨_, rfl, _⟩ := h
    rfl
  · obtain ⟨i, rfl, k⟩ := h
    refine ⟨_, (pss_one (ps_ret (pe_and (pe_callB call_isi rfl T.isi (by decide +kernel) (pa_cons (pv 0) (pa_cons (pe_bltn (v := .ty "int") rfl T.int (by decide +kernel) rfl) pa_nil))) (pe_one (pe_not (pe_callB call_isi rfl T.isi (by decide +kernel) (pa_cons (pv 0) (pa_cons (pe_bltn (v := .ty "bool") rfl T.bool (by decide +kernel) rfl) pa_nil)))))))), ?_⟩
    exact s_ret (ev_is (ev_andV (a := true) (ev_isi (t := "int") (ev_var rfl) (fun _ _ => .base (.int i)) (by decide +kernel)) (fun _ => ev_notV (a := false) (ev_isi (t := "int") (ev_var rfl) (fun _ _ => .base (.int i)) (by decide +kernel)))) rfl) k
abbrev s__law_same : Stmt := top 35
abbrev n__law_same : List Str := ["_law_told", "_law_due", "_law_at"]
theorem sc__law_same : FnScope n__law_same ["_law_told", "_law_due"] (defScope s__law_same) := ⟨rfl, rfl, rfl, by decide +kernel, rfl, by decide +kernel, by decide +kernel⟩
theorem b__law_same : BindsOk "_law_same" "_law_same" s__law_same ["_law_told", "_law_due"] := fun _ _ _ _ _ _ us hl => match us, hl with | [_, _], _ => rfl
def spSame (K : PySem.W.Frag) : Sp := fun vs H Q _ => ∃ (a b : Addr) (ns : List Int), vs = [.ref a, .ref b] ∧ H a = some (.lst (ils ns)) ∧ H b = some (.lst (ils ns)) ∧ ns.length ≤ 1000 ∧ RetV (.bl true) H Q
theorem ok__law_same (T : Txt K mg) (d__law_is_number : Dfn P w K mg base 1 "_law_is_number" ["_law_thing"] spNumber) (F : FnP K "_law_same" "_law_same" s__law_same f fd) (g : mg "_law_same" = some (.ref f)) : Dfn P w K mg base 2 "_law_same" ["_law_told", "_law_due"] (spSame K) := by
  refine dfn_of F g sc__law_same b__law_same (fun vs H Q E h => ?_) (BodyN.ok fun cdv A outer s H vs Q E hr h => ?_)
  · obtain ⟨_, _, _, rfl, _⟩ := h
    rfl
  · obtain ⟨a, b, ns, rfl, ha, hb, hl, k⟩ := h
    refine ⟨_, (pss_cons (ps_if (PW.pt (pw_or (pt_not (pt_val (pe_callB call_isi rfl T.isi (by decide +kernel) (pa_cons (pv 0) (pa_cons (pe_bltn (v := .ty "list") rfl T.list (by decide +kernel) rfl) pa_nil))))) (pw_or1 (pt_cmpR op_ne (pe_callB call_len_seq rfl T.len PySem.boot_len (pa_cons (pv 0) pa_nil)) (pe_callB call_len_seq rfl T.len PySem.boot_len (pa_cons (pv 1) pa_nil)) (nomark _))))) (pss_one (ps_ret pe_bl)) pss_nil)
    (pss_cons (ps_for PassesOwn.never rfl (pi_range1 rfl T.range (pa_cons (pe_callB call_len_seq rfl T.len PySem.boot_len (pa_cons (pv 1) pa_nil)) pa_nil)) (pg_name (i := 2) sc__law_same.nd rfl (Or.inl rfl)) (pss_one (ps_if (PW.pt (pw_or (pt_not (pt_val (pe_fn d__law_is_number (hr.mono (by decide)) rfl (pa_cons (pe_ix ix_list (pv 0) (pv 2) (fun _ _ => rfl)) pa_nil)))) (pw_or1 (pt_cmpR op_ne (pe_ix ix_list (pv 0) (pv 2) (fun _ _ => rfl)) (pe_ix ix_list (pv 1) (pv 2) (fun _ _ => rfl)) (nomark _))))) (pss_one (ps_ret pe_bl)) pss_nil)))
    (pss_one (ps_ret pe_bl)))), ?_⟩
    refine q_when (b := false) (et_is (et_or (a := false) (b := false) (et_is (et_not (et_B (ev_isi (t := "list") (b := true) (ev_var rfl) (fun H1 e1 => .base (.lst (e1 _ _ ha))) (by decide +kernel)))) rfl) (fun _ => et_is (et_test (ev_op (ev_lenS (ev_var rfl) (.inl (sq_of ha))) (ev_lenS (ev_var rfl) (.inl (sq_of hb))) (rv_ne rfl))) (by simp))) rfl) (fun c => by cases c) fun _ H1 e1 => ?_
    refine q_forR1 (n := (ns.length : Int)) (ea_cons (ev_is (ev_lenS (ev_var rfl) (.inl (sq_of (e1 _ _ hb)))) (by rw [ils_length])) ea_nil) (by omega) (fun i σ' H' => (∃ u, σ' = [some (.ref a), some (.ref b), u]) ∧ Ex H H') (fun H2 e2 => ⟨⟨_, rfl⟩, e1.trans e2⟩) ?_ ?_
    · rintro i σ' H' hi ⟨⟨u, rfl⟩, e⟩
      have hi' : i < ns.length := by omega
      refine s_when (b := false) (et_is (et_or (a := false) (b := false) (et_is (et_not (et_B (ev_fn (ea_cons (ev_op (ev_var rfl) (ev_var rfl) (rv_ixL (sq_of (e _ _ ha)) (at_ils hi'))) ea_nil) (fun H2 e2 Q1 q1 E1 => ⟨_, rfl, q1⟩)))) rfl)
        (fun _ => et_is (et_test (ev_op (ev_op (ev_var rfl) (ev_var rfl) (rv_ixL (sq_of (e _ _ ha)) (at_ils hi'))) (ev_op (ev_var rfl) (ev_var rfl) (rv_ixL (sq_of (e _ _ hb)) (at_ils hi'))) (rv_ne rfl))) (by simp))) rfl) (fun c => by cases c) fun _ H2 e2 => ⟨⟨_, rfl⟩, e.trans e2⟩
    · rintro σ' H' ⟨⟨u, rfl⟩, e⟩
      exact s_ret ev_c fun H2 e2 => k H2 (e.trans e2)

theorem okH__law_is_number (T : Txt K mg) (F : FnP K "_law_is_number" "_law_is_number" s__law_is_number f fd) (g : mg "_law_is_number" = some (.ref f)) : DfnH P w K mg base 1 "_law_is_number" ["_law_thing"] spNumber := by
  refine dfnH_of F g sc__law_is_number b__law_is_number (fun vs H Q E h => ?_) (fun cdv A outer s H vs Q E p hc hr h => ?_)
  · obtain ⟨_, rfl, _⟩ := h
    rfl
  · obtain ⟨i, rfl, k⟩ := h
    refine ⟨_, (pss_one (ps_ret (pe_and (pe_callB call_isi rfl T.isi (by decide +kernel) (pa_cons (pv 0) (pa_cons (pe_bltn (v := .ty "int") rfl T.int (by decide +kernel) rfl) pa_nil))) (pe_one (pe_not (pe_callB call_isi rfl T.isi (by decide +kernel) (pa_cons (pv 0) (pa_cons (pe_bltn (v := .ty "bool") rfl T.bool (by decide +kernel) rfl) pa_nil)))))))), ?_⟩
    exact s_ret (ev_is (ev_andV (a := true) (ev_isi (t := "int") (ev_var rfl) (fun _ _ => .base (.int i)) (by decide +kernel)) (fun _ => ev_notV (a := false) (ev_isi (t := "int") (ev_var rfl) (fun _ _ => .base (.int i)) (by decide +kernel)))) rfl) k
theorem okH__law_same (T : Txt K mg) (dH__law_is_number : DfnH P w K mg base 1 "_law_is_number" ["_law_thing"] spNumber) (F : FnP K "_law_same" "_law_same" s__law_same f fd) (g : mg "_law_same" = some (.ref f)) : DfnH P w K mg base 2 "_law_same" ["_law_told", "_law_due"] (spSame K) := by
  refine dfnH_of F g sc__law_same b__law_same (fun vs H Q E h => ?_) (fun cdv A outer s H vs Q E p hc hr h => ?_)
  · obtain ⟨_, _, _, rfl, _⟩ := h
    rfl
  · obtain ⟨a, b, ns, rfl, ha, hb, hl, k⟩ := h
    refine ⟨_, (pss_cons (ps_if (PW.pt (pw_or (pt_not (pt_val (pe_callB call_isi rfl T.isi (by decide +kernel) (pa_cons (pv 0) (pa_cons (pe_bltn (v := .ty "list") rfl T.list (by decide +kernel) rfl) pa_nil))))) (pw_or1 (pt_cmpR op_ne (pe_callB call_len_seq rfl T.len PySem.boot_len (pa_cons (pv 0) pa_nil)) (pe_callB call_len_seq rfl T.len PySem.boot_len (pa_cons (pv 1) pa_nil)) (nomark _))))) (pss_one (ps_ret pe_bl)) pss_nil)
    (pss_cons (ps_forH PassesOwn.leaving hc (pi_range1H rfl T.range (pa_cons (pe_callB call_len_seq rfl T.len PySem.boot_len (pa_cons (pv 1) pa_nil)) pa_nil)) (pg_name (i := 2) sc__law_same.nd rfl (Or.inl rfl)) (pss_one (ps_if (PW.pt (pw_or (pt_not (pt_val (pe_fnH dH__law_is_number (hr.mono (by decide)) hc rfl (pa_cons (pe_ix ix_list (pv 0) (pv 2) (fun _ _ => rfl)) pa_nil)))) (pw_or1 (pt_cmpR op_ne (pe_ix ix_list (pv 0) (pv 2) (fun _ _ => rfl)) (pe_ix ix_list (pv 1) (pv 2) (fun _ _ => rfl)) (nomark _))))) (pss_one (ps_ret pe_bl)) pss_nil)))
    (pss_one (ps_ret pe_bl)))), ?_⟩
    refine q_when (b := false) (et_is (et_or (a := false) (b := false) (et_is (et_not (et_B (ev_isi (t := "list") (b := true) (ev_var rfl) (fun H1 e1 => .base (.lst (e1 _ _ ha))) (by decide +kernel)))) rfl) (fun _ => et_is (et_test (ev_op (ev_lenS (ev_var rfl) (.inl (sq_of ha))) (ev_lenS (ev_var rfl) (.inl (sq_of hb))) (rv_ne rfl))) (by simp))) rfl) (fun c => by cases c) fun _ H1 e1 => ?_
    refine q_forR1 (n := (ns.length : Int)) (ea_cons (ev_is (ev_lenS (ev_var rfl) (.inl (sq_of (e1 _ _ hb)))) (by rw [ils_length])) ea_nil) (by omega) (fun i σ' H' => (∃ u, σ' = [some (.ref a), some (.ref b), u]) ∧ Ex H H') (fun H2 e2 => ⟨⟨_, rfl⟩, e1.trans e2⟩) ?_ ?_
    · rintro i σ' H' hi ⟨⟨u, rfl⟩, e⟩
      have hi' : i < ns.length := by omega
      refine s_when (b := false) (et_is (et_or (a := false) (b := false) (et_is (et_not (et_B (ev_fn (ea_cons (ev_op (ev_var rfl) (ev_var rfl) (rv_ixL (sq_of (e _ _ ha)) (at_ils hi'))) ea_nil) (fun H2 e2 Q1 q1 E1 => ⟨_, rfl, q1⟩)))) rfl)
        (fun _ => et_is (et_test (ev_op (ev_op (ev_var rfl) (ev_var rfl) (rv_ixL (sq_of (e _ _ ha)) (at_ils hi'))) (ev_op (ev_var rfl) (ev_var rfl) (rv_ixL (sq_of (e _ _ hb)) (at_ils hi'))) (rv_ne rfl))) (by simp))) rfl) (fun c => by cases c) fun _ H2 e2 => ⟨⟨_, rfl⟩, e.trans e2⟩
    · rintro σ' H' ⟨⟨u, rfl⟩, e⟩
      exact s_ret ev_c fun H2 e2 => k H2 (e.trans e2)
end
end K61
/-! _law_rule, _law_line, _law_fraction, _law_asked -/
namespace K61
open PySem PySem.Spec PyProof.Rows L2 Evl
open KM (nth tot walls)
section
variable {K : PySem.W.Frag} {H H' : Hp} {σ : L2.St} {ta tb te tv tc : TE} {t tt : TT} {D : Ends} {tu tw tz : TS}
theorem el_lcR2 {ta : TA} {j : Nat} {vs : List Nat} {lo n : Int} (f : Nat → Bool) (v : Nat → V) (h : EvA ta σ H [.int lo, .int n]) (hn : 0 ≤ lo ∧ lo ≤ 1000 ∧ 0 ≤ n ∧ n ≤ 40000) (hw : ∀ x, wipe ((wipe σ vs).set j (some x)) vs = wipe σ vs)
    (ht : ∀ (i : Nat) H1, Ex H H1 → lo + (i : Int) < n → EvT t ((wipe σ vs).set j (some (.int (lo + (i : Int))))) H1 (f i)) (he : ∀ (i : Nat) H1, Ex H H1 → lo + (i : Int) < n → f i = true → Ev te ((wipe σ vs).set j (some (.int (lo + (i : Int))))) H1 (v i)) :
    EvL (tLc (iRng2 ta) (gName j) t te vs) σ H (given (n - lo).toNat f v) := fun H0 e Q q => h H0 e _ fun H1 e1 => ⟨lo, n, rfl, ⟨by omega, by omega, by omega, by omega⟩, fun Dl hD =>
  lc_range (lo := lo) (n := (n - lo).toNat) (Cw H1 f v Dl) ⟨hD, Ex.new hD, upd_same⟩ (fun i H' hi p => ⟨hw _, cw_turn p (by omega) (ht i H1 (e.trans e1) (by omega)) (fun hf => he i H1 (e.trans e1) (by omega) hf)⟩) (fun H' p => q Dl H' (fresh_back e1 p.1) (e1.trans p.2.1) p.2.2)⟩
/-- a comprehension over range(n) whose turns draw -/
theorem lc_drawR {t : Addr} {a : Addr} {j : Nat} {vs : List Nat} {ta : TA} {n : Nat} (R : Nat → Int → Prop) (hT : TapeAt H t a) (hl : EvA ta σ H [.int (n : Int)]) (hz : n ≤ 1000) (hw : ∀ x, wipe ((wipe σ vs).set j (some x)) vs = wipe σ vs)
    (he : ∀ (i : Nat) H1, XT t a H H1 → i < n → EvI t a te ((wipe σ vs).set j (some (.int (0 + (i : Int))))) H1 (R i)) (Q : VK) (q : ∀ p ns H2, H p = none → XT t a H H2 → H2 p = some (.lst (ils ns)) → ns.length = n → (∀ i, i < ns.length → R i (ns.getD i 0)) → Q (.ref p) H2) : tLc (iRng1 ta) (gName j) tYes te vs σ H Q :=
  hl H (Ex.refl H) _ fun H1 e1 => ⟨n, rfl, by omega, by omega, fun Dl hD => by
    have x1 := XT.of hT e1
    have hDt := x1.2.fresh hD
    have hDH := fresh_back e1 hD
    refine lc_range (lo := 0) (n := ((n : Int)).toNat) (fun i H' => XT t a H H' ∧ ∃ ns : List Int, H' Dl = some (.lst (ils ns)) ∧ ns.length = i ∧ ∀ m, m < i → R m (ns.getD m 0)) ⟨x1.mut hT hDH, [], upd_same, rfl, fun m hm => absurd hm (Nat.not_lt_zero m)⟩ (fun i H' hi p => ⟨hw _, ?_⟩) (fun H' p => ?_)
    · obtain ⟨x2, ns, h1, h2, h3⟩ := p
      have hil : i < n := by omega
      show te ((wipe σ vs).set j (some (.int (0 + (i : Int))))) H' fun y H4 => ∃ acc, H4 Dl = some (.lst acc) ∧ acc.length < sizeLine ∧ (XT t a H (upd H4 Dl (.lst (acc ++ [y]))) ∧ ∃ ns : List Int, (upd H4 Dl (.lst (acc ++ [y]))) Dl = some (.lst (ils ns)) ∧ ns.length = i + 1 ∧ ∀ m, m < i + 1 → R m (ns.getD m 0))
      refine he i H' x2 hil H' (XT.refl x2.2) _ fun d H4 hd x4 => ⟨ils ns, x4.at hDt.1 h1, by rw [ils_length]; exact sz_lt (by omega), (x2.trans x4).mut hT hDH, ns ++ [d], by rw [upd_same]; simp [ils], ?_⟩
      exact snoc_all h2 h3 hd
    · obtain ⟨x2, ns, h1, h2, h3⟩ := p
      exact q Dl ns H' hDH x2 h1 (by omega) (fun i hi => h3 i (by omega))⟩
theorem s_retOpL {r : R2} {xs : List V} (h : EvL ta σ H xs) (k : ∀ p H1, H p = none → Ex H H1 → H1 p = some (.lst xs) → tb σ H1 (fun y H2 => r (.ref p) y H2 D.rt)) : tRet (tOp r ta tb) D σ H := h H (Ex.refl H) _ k
theorem el_rg1 {n : Int} (h : Ev te σ H (.int n)) (hr : RgOk 0 n) : EvL (tLstRg (tRg1 te)) σ H (rgV 0 n) := fun H1 e1 Q q =>
  h H1 e1 _ fun H2 e2 => ⟨n, rfl, hr, fun r hr0 => q r _ (fresh_back e2 hr0) (e2.trans (Ex.new hr0)) upd_same⟩
theorem given_ints (n : Nat) (f : Nat → Bool) (g : Nat → Int) : given n f (fun i => V.int (g i)) = ils (((List.range n).filter f).map g) := by
  unfold given ils
  rw [List.map_map]
  rfl
end
section
variable {P : Program} {w : World} {K : PySem.W.Frag} {mg : Str → Option Value} {base : Heap} {f : Addr} {fd : FuncData}
abbrev s__law_rule : Stmt := top 40
abbrev n__law_rule : List Str := ["_law_parents_here", "_law_lengths", "_law_weights", "_law_a", "_law_b", "_law_offered", "_law_k", "_law_behind", "_law_c"]
theorem sc__law_rule : FnScope n__law_rule ["_law_parents_here", "_law_lengths", "_law_weights", "_law_a", "_law_b", "_law_offered"] (defScope s__law_rule) := ⟨rfl, rfl, rfl, by decide +kernel, rfl, by decide +kernel, by decide +kernel⟩
theorem b__law_rule : BindsOk "_law_rule" "_law_rule" s__law_rule ["_law_parents_here", "_law_lengths", "_law_weights", "_law_a", "_law_b", "_law_offered"] := fun _ _ _ _ _ _ us hl => match us, hl with | [_, _, _, _, _, _], _ => rfl
structure RuleOk (par len wt ns : List Int) (a b : Int) : Prop where
  l : ns.length = par.length
  r : ∀ k, k < par.length → 0 ≤ ns.getD k 0 ∧ (b * wt.getD k 0 - a * len.getD k 0) + KM.sumTo par.length (fun c => if par.getD c 0 = (k : Int) + 1 then ns.getD c 0 else 0) ≤ ns.getD k 0 ∧ (par.getD k 0 = 0 → ns.getD k 0 = 0)
def spRule (K : PySem.W.Frag) : Sp := fun vs H Q _ => ∃ (p l v o : Addr) (par len wt ns : List Int) (a b : Int), vs = [.ref p, .ref l, .ref v, .int a, .int b, .ref o] ∧ H p = some (.lst (ils par)) ∧ H l = some (.lst (ils len)) ∧ H v = some (.lst (ils wt)) ∧ H o = some (.lst (ils ns)) ∧
  Ok par len ∧ WOk par wt ∧ RuleOk par len wt ns a b ∧ RetV (.bl true) H Q
theorem ok__law_rule (T : Txt K mg) (F : FnP K "_law_rule" "_law_rule" s__law_rule f fd) (g : mg "_law_rule" = some (.ref f)) : Dfn P w K mg base 1 "_law_rule" ["_law_parents_here", "_law_lengths", "_law_weights", "_law_a", "_law_b", "_law_offered"] (spRule K) := by
  refine dfn_of F g sc__law_rule b__law_rule (fun vs H Q E h => ?_) (BodyN.ok fun cdv A outer s H vs Q E hr h => ?_)
  · obtain ⟨_, _, _, _, _, _, _, _, _, _, rfl, _⟩ := h
    rfl
  · obtain ⟨p, l, v, o, par, len, wt, ns, a, b, rfl, hp, hl, hv, ho, O, W, R, k⟩ := h
    refine ⟨_, (pss_cons (ps_if (pt_cmpR op_ne (pe_callB call_len_seq rfl T.len PySem.boot_len (pa_cons (pv 5) pa_nil)) (pe_callB call_len_seq rfl T.len PySem.boot_len (pa_cons (pv 0) pa_nil)) (nomark _)) (pss_one (ps_ret pe_bl)) pss_nil)
    (pss_cons (ps_for PassesOwn.never rfl (pi_range2 rfl T.range (pa_cons pe_int (pa_cons (pe_op op_add (pe_callB call_len_seq rfl T.len PySem.boot_len (pa_cons (pv 0) pa_nil)) pe_int) pa_nil))) (pg_name (i := 6) sc__law_rule.nd rfl (Or.inr rfl)) (pss_cons (ps_set (i := 7) sc__law_rule.nd rfl (Or.inl rfl) (pe_callB (cr_sum rfl) rfl T.sum (by decide +kernel) (pa_cons (pe_lc (own := [("_law_c", 8)]) (g := gName 8) rfl sc__law_rule.nd (pi_range2 rfl T.range (pa_cons pe_int (pa_cons (pe_op op_add (pe_callB call_len_seq rfl T.len PySem.boot_len (pa_cons (pv 0) pa_nil)) pe_int) pa_nil))) (blkOk_by (own := [("_law_c", 8)]) (N := n__law_rule) (sc := defScope s__law_rule) (by decide +kernel)) (fun _ _ _ _ _ => pg_name (i := 8) sc__law_rule.nd rfl (Or.inl rfl)) (fun _ _ _ _ _ => (pts_one (pt_cmpR op_eq (pe_ix (ix_listK (K := K) rfl) (pv 0) (pe_op op_sub (pv 8) pe_int) (fun _ _ => rfl)) (pv 6) (nomark _)))) (fun _ _ _ _ _ => (pe_ix (ix_listK (K := K) rfl) (pv 5) (pe_op op_sub (pv 8) pe_int) (fun _ _ => rfl)))) pa_nil)))
    (pss_cons (ps_if (PW.pt (pw_or (pt_cmpR op_lt (pe_ix ix_list (pv 5) (pe_op op_sub (pv 6) pe_int) (fun _ _ => rfl)) pe_int (nomark _)) (pw_or1 (pt_cmpR op_lt (pe_ix ix_list (pv 5) (pe_op op_sub (pv 6) pe_int) (fun _ _ => rfl)) (pe_op op_add (pe_op op_sub (pe_op op_mul (pv 4) (pe_ix ix_list (pv 2) (pe_op op_sub (pv 6) pe_int) (fun _ _ => rfl))) (pe_op op_mul (pv 3) (pe_ix ix_list (pv 1) (pe_op op_sub (pv 6) pe_int) (fun _ _ => rfl)))) (pv 7)) (nomark _))))) (pss_one (ps_ret pe_bl)) pss_nil)
    (pss_one (ps_if (PW.pt (pw_and (pt_cmpR op_eq (pe_ix ix_list (pv 0) (pe_op op_sub (pv 6) pe_int) (fun _ _ => rfl)) pe_int (nomark _)) (pw_and1 (pt_cmpR op_ne (pe_ix ix_list (pv 5) (pe_op op_sub (pv 6) pe_int) (fun _ _ => rfl)) pe_int (nomark _))))) (pss_one (ps_ret pe_bl)) pss_nil)))))
    (pss_one (ps_ret pe_bl)))), ?_⟩
    have n8 := O.n8
    have ll := O.ll
    have wl := W.wl
    have nl := R.l
    refine q_when (b := false) (et_is (et_test (ev_op (ev_lenS (ev_var rfl) (.inl (sq_of ho))) (ev_lenS (ev_var rfl) (.inl (sq_of hp))) (rv_ne rfl))) (by simp [nl])) (fun c => by cases c) fun _ H1 e1 => ?_
    refine q_forR2 (lo := 1) (n := (par.length : Int) + 1) (ea_cons ev_c (ea_cons (ev_op (ev_is (ev_lenS (ev_var rfl) (.inl (sq_of (e1 _ _ hp)))) (by rw [ils_length])) ev_c rv_I0) ea_nil)) (by omega)
      (fun i σ' H' => (∃ u6 u7 u8, σ' = [some (.ref p), some (.ref l), some (.ref v), some (.int a), some (.int b), some (.ref o), u6, u7, u8]) ∧ Ex H H') (fun H2 e2 => ⟨⟨_, _, _, rfl⟩, e1.trans e2⟩) ?_ ?_
    · rintro i σ' H' hi ⟨⟨u6, u7, u8, rfl⟩, e⟩
      have hi' : i < par.length := by omega
      have ei : ((1 : Int) + (i : Int) - 1) = (i : Int) := by omega
      obtain ⟨r1, r2, r3⟩ := R.r i hi'
      have hp' := e _ _ hp
      refine q_asg (v := .int (KM.sumTo par.length (fun c => if par.getD c 0 = (i : Int) + 1 then ns.getD c 0 else 0))) (ev_is (ev_sumL (el_is (el_lcR2 (lo := 1) (n := (par.length : Int) + 1) (fun c => decide (par.getD c 0 = 1 + (i : Int))) (fun c => .int (ns.getD c 0)) (ea_cons ev_c (ea_cons (ev_op (ev_is (ev_lenS (ev_var rfl) (.inl (sq_of hp'))) (by rw [ils_length])) ev_c rv_I0) ea_nil)) (by omega) (fun _ => rfl) (fun c H2 e2 hc => ?_) (fun c H2 e2 hc _ => ?_)) (given_ints _ _ _))) ?_) fun H2 e2 => ?_
      · have ec : ((1 : Int) + (c : Int) - 1) = (c : Int) := by omega
        exact et_eqI (ev_op (ev_var rfl) (ev_op (ev_var rfl) ev_c rv_I0) (rv_ixL (sq_of (e2 _ _ hp')) (by rw [ec]; exact at_ils (by omega)))) (ev_var rfl)
      · have ec : ((1 : Int) + (c : Int) - 1) = (c : Int) := by omega
        exact ev_op (ev_var rfl) (ev_op (ev_var rfl) ev_c rv_I0) (rv_ixL (sq_of ((e.trans e2) _ _ ho)) (by rw [ec]; exact at_ils (by omega)))
      · rw [KM.sum_given]
        have : ((par.length : Int) + 1 - 1).toNat = par.length := by omega
        rw [this]
        congr 2
        funext c
        have : (1 : Int) + (i : Int) = (i : Int) + 1 := by omega
        rw [this]
        by_cases q : par.getD c 0 = (i : Int) + 1
        · simp [q]
        · simp [q]
      · have O1 : ∀ {H3 : Hp}, Ex H2 H3 → Ev (tOp (rIxL K) (tVar 5) (tOp (rI0 fun i j => .int (i - j)) (tVar 6) (tC (.int 1)))) [some (.ref p), some (.ref l), some (.ref v), some (.int a), some (.int b), some (.ref o), some (.int (1 + (i : Int))), some (.int (KM.sumTo par.length (fun c => if par.getD c 0 = (i : Int) + 1 then ns.getD c 0 else 0))), u8] H3 (.int (ns.getD i 0)) := fun e3 => ev_op (ev_var rfl) (ev_op (ev_var rfl) ev_c rv_I0) (rv_ixL (sq_of ((e.trans (e2.trans e3)) _ _ ho)) (by rw [ei]; exact at_ils (by omega)))
        have b1 := W.wb _ (getD_mem (xs := wt) (i := i) (by omega))
        have b2 := O.lb _ (getD_mem (xs := len) (i := i) (by omega))
        refine q_when (b := false) (et_is (et_or (et_lt (O1 (Ex.refl H2)) ev_c) (fun _ => et_lt (O1 (Ex.refl H2)) (ev_op (ev_op (ev_op (ev_var rfl) (ev_op (ev_var rfl) (ev_op (ev_var rfl) ev_c rv_I0) (rv_ixL (sq_of ((e.trans e2) _ _ hv)) (by rw [ei]; exact at_ils (by omega)))) (rv_I (.inr (by omega)))) (ev_op (ev_var rfl) (ev_op (ev_var rfl) (ev_op (ev_var rfl) ev_c rv_I0) (rv_ixL (sq_of ((e.trans e2) _ _ hl)) (by rw [ei]; exact at_ils (by omega)))) (rv_I (.inr (by omega)))) rv_I0) (ev_var rfl) rv_I0))) ?_) (fun c => by cases c) fun _ H3 e3 => ?_
        · rw [decide_eq_false (by omega), decide_eq_false (by omega)]
          rfl
        · refine s_when (b := false) (et_is (et_and (et_eqI (ev_op (ev_var rfl) (ev_op (ev_var rfl) ev_c rv_I0) (rv_ixL (sq_of ((e2.trans e3) _ _ hp')) (by rw [ei]; exact at_ils hi'))) ev_c) (fun _ => et_is (et_test (ev_op (O1 e3) ev_c (rv_ne rfl))) rfl)) ?_) (fun c => by cases c) fun _ H4 e4 => ⟨⟨_, _, _, rfl⟩, e.trans (e2.trans (e3.trans e4))⟩
          by_cases q : par.getD i 0 = 0
          · rw [r3 q]
            simp
          · rw [decide_eq_false q, Bool.false_and]
    · rintro σ' H' ⟨⟨u6, u7, u8, rfl⟩, e⟩
      exact s_ret ev_c fun H2 e2 => k H2 (e.trans e2)
abbrev s__law_line : Stmt := top 43
abbrev n__law_line : List Str := ["_law_ends_here", "_law_length", "_law_at", "_law_low", "_law_base"]
theorem sc__law_line : FnScope n__law_line ["_law_ends_here", "_law_length"] (defScope s__law_line) := ⟨rfl, rfl, rfl, by decide +kernel, rfl, by decide +kernel, by decide +kernel⟩
theorem b__law_line : BindsOk "_law_line" "_law_line" s__law_line ["_law_ends_here", "_law_length"] := fun _ _ _ _ _ _ us hl => match us, hl with | [_, _], _ => rfl
def EBd (cs : List (Int × Int)) : Prop := cs.length ≤ 100 ∧ ∀ c ∈ cs, 0 ≤ c.1 ∧ c.1 ≤ 10000 ∧ 0 ≤ c.2 ∧ c.2 ≤ 10000
theorem cAt_mem {cs : List (Int × Int)} {i : Nat} (h : i < cs.length) : KM.cAt cs i ∈ cs := by
  unfold KM.cAt
  rw [List.getD_eq_getElem?_getD, List.getElem?_eq_getElem h]
  exact List.getElem_mem h
def spLine (K : PySem.W.Frag) : Sp := fun vs H Q _ => ∃ (e : Addr) (x : Int) (rs : List V) (cs : List (Int × Int)) (i : Nat), vs = [.ref e, .int x] ∧ H e = some (.lst rs) ∧ Refs (PairAt H) rs cs ∧ EBd cs ∧ KM.LineAt cs x i ∧ RetPair (KM.lineNum cs x i) (KM.lineDen cs i) H Q
theorem ok__law_line (T : Txt K mg) (F : FnP K "_law_line" "_law_line" s__law_line f fd) (g : mg "_law_line" = some (.ref f)) : Dfn P w K mg base 1 "_law_line" ["_law_ends_here", "_law_length"] (spLine K) := by
  refine dfn_of F g sc__law_line b__law_line (fun vs H Q E h => ?_) (BodyN.ok fun cdv A outer s H vs Q E hr h => ?_)
  · obtain ⟨_, _, _, _, _, rfl, _⟩ := h
    rfl
  · obtain ⟨e0, x, rs, cs, i, rfl, he, hR, hB, hL, k⟩ := h
    refine ⟨_, (pss_cons (ps_for PassesOwn.never rfl (pi_range2 rfl T.range (pa_cons pe_int (pa_cons (pe_callB call_len_seq rfl T.len PySem.boot_len (pa_cons (pv 0) pa_nil)) pa_nil))) (pg_name (i := 2) sc__law_line.nd rfl (Or.inl rfl)) (pss_cons (ps_set (i := 3) sc__law_line.nd rfl (Or.inl rfl) (pe_ix ix_list (pv 0) (pe_op op_sub (pv 2) pe_int) (fun _ _ => rfl)))
    (pss_cons (ps_set (i := 4) sc__law_line.nd rfl (Or.inl rfl) (pe_op op_sub (pe_ix ix_tup (pe_ix ix_list (pv 0) (pv 2) (fun _ _ => rfl)) pe_int (fun _ _ => rfl)) (pe_ix ix_tup (pv 3) pe_int (fun _ _ => rfl))))
    (pss_one (ps_if (pt_cmpR op_le (pv 1) (pe_ix ix_tup (pe_ix ix_list (pv 0) (pv 2) (fun _ _ => rfl)) pe_int (fun _ _ => rfl)) (nomark _)) (pss_one (ps_ret (pe_tup (pa_cons (pe_op op_add (pe_op op_mul (pe_ix ix_tup (pv 3) pe_int (fun _ _ => rfl)) (pv 4)) (pe_op op_mul (pe_op op_sub (pe_ix ix_tup (pe_ix ix_list (pv 0) (pv 2) (fun _ _ => rfl)) pe_int (fun _ _ => rfl)) (pe_ix ix_tup (pv 3) pe_int (fun _ _ => rfl))) (pe_op op_sub (pv 1) (pe_ix ix_tup (pv 3) pe_int (fun _ _ => rfl))))) (pa_cons (pv 4) pa_nil))))) pss_nil)))))
    (pss_one (ps_ret (pe_tup (pa_cons pe_int (pa_cons pe_int pa_nil)))))), ?_⟩
    have rl := hR.len
    have cl := hB.1
    have il := hL.il
    have i1 := hL.i1
    refine q_forR2 (lo := 1) (n := (rs.length : Int)) (ea_cons ev_c (ea_cons (ev_lenS (ev_var rfl) (.inl (sq_of he))) ea_nil)) (by omega) (fun j σ' H' => (∃ u2 u3 u4, σ' = [some (.ref e0), some (.int x), u2, u3, u4]) ∧ Ex H H' ∧ 1 + j ≤ i) (fun H1 e1 => ⟨⟨_, _, _, rfl⟩, e1, by omega⟩) ?_ ?_
    · rintro j σ' H' hj ⟨⟨u2, u3, u4, rfl⟩, e, hji⟩
      obtain ⟨q1, a1, t1⟩ := refs_at hR (i := j) (by omega)
      obtain ⟨q2, a2, t2⟩ := refs_at hR (i := 1 + j) (by omega)
      have ej : (1 : Int) + (j : Int) - 1 = (j : Int) := by omega
      have ej2 : (1 : Int) + (j : Int) = ((1 + j : Nat) : Int) := by omega
      refine q_asg (ev_op (ev_var rfl) (ev_op (ev_var rfl) ev_c rv_I0) (rv_ixL (sq_of (e _ _ he)) (by rw [ej]; exact atI_at a1))) fun H1 e1 => ?_
      have X1 : ∀ {σ1 : L2.St} {H2 : Hp}, Ex H' H2 → σ1[0]? = some (some (.ref e0)) → σ1[2]? = some (some (.int (1 + (j : Int)))) → Ev (tOp (rIxL K) (tVar 0) (tVar 2)) σ1 H2 (.ref q2) := fun e2 h1 h2 => ev_op (ev_var h1) (ev_var h2) (rv_ixL (sq_of ((e.trans e2) _ _ he)) (by rw [ej2]; exact atI_at a2))
      refine q_asg (ev_op (ev_op (X1 e1 rfl rfl) ev_c (rv_ixT (st_of ((e.trans e1) _ _ t2)) rfl)) (ev_op (ev_var rfl) ev_c (rv_ixT (st_of ((e.trans e1) _ _ t1)) rfl)) rv_I0) fun H2 e2 => ?_
      have e12 := e1.trans e2
      have m1 := hB.2 _ (cAt_mem (cs := cs) (i := j) (by omega))
      have m2 := hB.2 _ (cAt_mem (cs := cs) (i := 1 + j) (by omega))
      refine s_when (et_test (ev_op (ev_var rfl) (ev_op (X1 e12 rfl rfl) ev_c (rv_ixT (st_of ((e.trans e12) _ _ t2)) rfl)) rv_I0)) (fun c H3 e3 => ?_) (fun c H3 e3 => ?_)
      · have c := of_decide_eq_true c
        have hji2 : 1 + j = i := by
          rcases Nat.lt_or_ge (1 + j) i with h | h
          · have := hL.lo (1 + j) (by omega) h
            omega
          · omega
        subst hji2
        have e13 := e12.trans e3
        have et := e.trans e13
        refine s_retU (xs := [.int (KM.lineNum cs x (1 + j)), .int (KM.lineDen cs (1 + j))]) (eu_tup (ea_cons (ev_is (ev_op (ev_op (ev_op (ev_var rfl) ev_c (rv_ixT (st_of (et _ _ t1)) rfl)) (ev_var rfl) (rv_I (.inr ⟨by omega, by omega⟩))) (ev_op (ev_op (ev_op (X1 e13 rfl rfl) ev_c (rv_ixT (st_of (et _ _ t2)) rfl)) (ev_op (ev_var rfl) ev_c (rv_ixT (st_of (et _ _ t1)) rfl)) rv_I0) (ev_op (ev_var rfl) (ev_op (ev_var rfl) ev_c (rv_ixT (st_of (et _ _ t1)) rfl)) rv_I0) (rv_I (.inl ⟨by omega, by omega⟩))) rv_I0) ?_) (ea_cons (ev_is (ev_var rfl) ?_) ea_nil)) (by show 2 ≤ 100000; decide)) fun r H4 hr0 e4 hr => ?_
        · unfold KM.lineNum
          rw [show 1 + j - 1 = j by omega]
        · unfold KM.lineDen
          rw [show 1 + j - 1 = j by omega]
        · exact k r H4 (fresh_back et hr0) (et.trans e4) hr
      · have c := of_decide_eq_false c
        refine ⟨⟨_, _, _, rfl⟩, e.trans (e12.trans e3), ?_⟩
        rcases Nat.lt_or_ge (1 + j) i with h | h
        · omega
        · have : 1 + j = i := by omega
          rw [this] at c
          exact absurd hL.up c
    · rintro σ' H' ⟨_, _, h⟩
      omega
abbrev s__law_fraction : Stmt := top 44
abbrev n__law_fraction : List Str := ["_law_told", "_law_line_here", "_law_k"]
theorem sc__law_fraction : FnScope n__law_fraction ["_law_told", "_law_line_here"] (defScope s__law_fraction) := ⟨rfl, rfl, rfl, by decide +kernel, rfl, by decide +kernel, by decide +kernel⟩
theorem b__law_fraction : BindsOk "_law_fraction" "_law_fraction" s__law_fraction ["_law_told", "_law_line_here"] := fun _ _ _ _ _ _ us hl => match us, hl with | [_, _], _ => rfl
def spFraction (K : PySem.W.Frag) : Sp := fun vs H Q _ => ∃ (t l : Addr) (p q n d : Int), vs = [.ref t, .ref l] ∧ H t = some (.tup [.int p, .int q]) ∧ H l = some (.tup [.int n, .int d]) ∧ KM.Lowest n d p q ∧ d ≤ 50000 ∧ RetV (.bl true) H Q
theorem ok__law_fraction (T : Txt K mg) (d__law_is_number : Dfn P w K mg base 1 "_law_is_number" ["_law_thing"] spNumber) (F : FnP K "_law_fraction" "_law_fraction" s__law_fraction f fd) (g : mg "_law_fraction" = some (.ref f)) : Dfn P w K mg base 2 "_law_fraction" ["_law_told", "_law_line_here"] (spFraction K) := by
  refine dfn_of F g sc__law_fraction b__law_fraction (fun vs H Q E h => ?_) (BodyN.ok fun cdv A outer s H vs Q E hr h => ?_)
  · obtain ⟨_, _, _, _, _, _, rfl, _⟩ := h
    rfl
  · obtain ⟨t, l, p, q, n, d, rfl, ht, hl, L, hd, k⟩ := h
    refine ⟨_, (pss_cons (ps_if (PW.pt (pw_or (pt_not (pt_val (pe_callB call_isi rfl T.isi (by decide +kernel) (pa_cons (pv 0) (pa_cons (pe_bltn (v := .ty "tuple") rfl T.tuple (by decide +kernel) rfl) pa_nil))))) (pw_or (pt_cmpR op_ne (pe_callB call_len_seq rfl T.len PySem.boot_len (pa_cons (pv 0) pa_nil)) pe_int (nomark _)) (pw_or (pt_not (pt_val (pe_fn d__law_is_number (hr.mono (by decide)) rfl (pa_cons (pe_ix ix_tup (pv 0) pe_int (fun _ _ => rfl)) pa_nil)))) (pw_or1 (pt_not (pt_val (pe_fn d__law_is_number (hr.mono (by decide)) rfl (pa_cons (pe_ix ix_tup (pv 0) pe_int (fun _ _ => rfl)) pa_nil))))))))) (pss_one (ps_ret pe_bl)) pss_nil)
    (pss_cons (ps_if (PW.pt (pw_or (pt_cmpR op_lt (pe_ix ix_tup (pv 0) pe_int (fun _ _ => rfl)) pe_int (nomark _)) (pw_or (pt_cmpR op_gt (pe_ix ix_tup (pv 0) pe_int (fun _ _ => rfl)) (pe_ix ix_tup (pv 1) pe_int (fun _ _ => rfl)) (nomark _)) (pw_or1 (pt_cmpR op_ne (pe_op op_mul (pe_ix ix_tup (pv 0) pe_int (fun _ _ => rfl)) (pe_ix ix_tup (pv 1) pe_int (fun _ _ => rfl))) (pe_op op_mul (pe_ix ix_tup (pv 1) pe_int (fun _ _ => rfl)) (pe_ix ix_tup (pv 0) pe_int (fun _ _ => rfl))) (nomark _)))))) (pss_one (ps_ret pe_bl)) pss_nil)
    (pss_cons (ps_for PassesOwn.never rfl (pi_range2 rfl T.range (pa_cons pe_int (pa_cons (pe_op op_add (pe_ix ix_tup (pv 0) pe_int (fun _ _ => rfl)) pe_int) pa_nil))) (pg_name (i := 2) sc__law_fraction.nd rfl (Or.inl rfl)) (pss_one (ps_if (PW.pt (pw_and (pt_cmpR op_eq (pe_op op_mod (pe_callTy call_int1 rfl T.int (by decide +kernel) (pa_cons (pe_ix ix_tup (pv 0) pe_int (fun _ _ => rfl)) pa_nil)) (pv 2)) pe_int (nomark _)) (pw_and1 (pt_cmpR op_eq (pe_op op_mod (pe_callTy call_int1 rfl T.int (by decide +kernel) (pa_cons (pe_ix ix_tup (pv 0) pe_int (fun _ _ => rfl)) pa_nil)) (pv 2)) pe_int (nomark _))))) (pss_one (ps_ret pe_bl)) pss_nil)))
    (pss_one (ps_ret pe_bl))))), ?_⟩
    have q1 := L.q1
    have qd := L.qd
    have eq := L.eq
    have I : ∀ {σ1 : L2.St} {H1 : Hp}, Ex H H1 → σ1[0]? = some (some (.ref t)) → (Ev (tOp (rIxT K) (tVar 0) (tC (.int 0))) σ1 H1 (.int p) ∧ Ev (tOp (rIxT K) (tVar 0) (tC (.int 1))) σ1 H1 (.int q)) := fun e h => ⟨ev_op (ev_var h) ev_c (rv_ixT (st_of (e _ _ ht)) rfl), ev_op (ev_var h) ev_c (rv_ixT (st_of (e _ _ ht)) rfl)⟩
    have i0 := I (σ1 := L2.start n__law_fraction [.ref t, .ref l]) (Ex.refl H) rfl
    refine q_when (b := false) (et_is (et_or (a := false) (b := false) (et_is (et_not (et_B (ev_isi (t := "tuple") (b := true) (ev_var rfl) (fun H1 e1 => .base (.tup (e1 _ _ ht))) (by decide +kernel)))) rfl) (fun _ => et_is (et_or (a := false) (b := false) (et_is (et_test (ev_op (ev_lenS (ev_var rfl) (.inr (st_of ht))) ev_c (rv_ne rfl))) rfl)
      (fun _ => et_is (et_or (a := false) (b := false) (et_is (et_not (et_B (ev_fn (ea_cons i0.1 ea_nil) (fun H2 e2 Q1 q1 E1 => ⟨_, rfl, q1⟩)))) rfl) (fun _ => et_is (et_not (et_B (ev_fn (ea_cons i0.2 ea_nil) (fun H2 e2 Q1 q1 E1 => ⟨_, rfl, q1⟩)))) rfl)) rfl)) rfl)) rfl) (fun c => by cases c) fun _ H1 e1 => ?_
    have i1 := I (σ1 := L2.start n__law_fraction [.ref t, .ref l]) e1 rfl
    refine q_when (b := false) (et_is (et_or (et_lt i1.2 ev_c) (fun _ => et_or (et_gt i1.2 (ev_op (ev_var rfl) ev_c (rv_ixT (st_of (e1 _ _ hl)) rfl))) (fun _ => et_test (ev_op (ev_op i1.1 (ev_op (ev_var rfl) ev_c (rv_ixT (st_of (e1 _ _ hl)) rfl)) (rv_I (.inr ⟨by omega, by omega⟩))) (ev_op (ev_op (ev_var rfl) ev_c (rv_ixT (st_of (e1 _ _ hl)) rfl)) i1.2 (rv_I (.inr ⟨by omega, by omega⟩))) (rv_ne rfl))))) ?_) (fun c => by cases c) fun _ H2 e2 => ?_
    · rw [decide_eq_false (by omega), decide_eq_false (by omega), eq]
      simp
    have e12 := e1.trans e2
    refine q_forR2 (lo := 2) (n := q + 1) (ea_cons ev_c (ea_cons (ev_op (I e12 rfl).2 ev_c rv_I0) ea_nil)) (by omega) (fun i σ' H' => (∃ u, σ' = [some (.ref t), some (.ref l), u]) ∧ Ex H H') (fun H3 e3 => ⟨⟨_, rfl⟩, e12.trans e3⟩) ?_ ?_
    · rintro i σ' H' hi ⟨⟨u, rfl⟩, e⟩
      have low := L.low (2 + (i : Int)) (by omega) (by omega)
      have i3 := I (σ1 := [some (.ref t), some (.ref l), some (.int (2 + (i : Int)))]) e rfl
      refine s_when (b := false) (et_is (et_and (et_eqI (ev_op (ev_int1 i3.1) (ev_var rfl) (rv_I (by omega))) ev_c) (fun _ => et_eqI (ev_op (ev_int1 i3.2) (ev_var rfl) (rv_I (by omega))) ev_c)) ?_) (fun c => by cases c) fun _ H4 e4 => ⟨⟨_, rfl⟩, e.trans e4⟩
      by_cases c1 : p % (2 + (i : Int)) = 0
      · by_cases c2 : q % (2 + (i : Int)) = 0
        · exact absurd ⟨c1, c2⟩ low
        · simp [c2]
      · simp [c1]
    · rintro σ' H' ⟨⟨u, rfl⟩, e⟩
      exact s_ret ev_c fun H2 e2 => k H2 (e.trans e2)
abbrev s__law_asked : Stmt := top 48
abbrev n__law_asked : List Str := ["_law_tape_here", "_law_ends_here", "_law_whole", "_law_end", "_law_j"]
theorem sc__law_asked : FnScope n__law_asked ["_law_tape_here", "_law_ends_here"] (defScope s__law_asked) := ⟨rfl, rfl, rfl, by decide +kernel, rfl, by decide +kernel, by decide +kernel⟩
theorem b__law_asked : BindsOk "_law_asked" "_law_asked" s__law_asked ["_law_tape_here", "_law_ends_here"] := fun _ _ _ _ _ _ us hl => match us, hl with | [_, _], _ => rfl
def spAsked : Sp := fun vs H Q _ => ∃ (t a e : Addr) (rs : List V) (cs : List (Int × Int)), vs = [.ref t, .ref e] ∧ TapeAt H t a ∧ e ≠ t ∧ H e = some (.lst rs) ∧ Refs (PairAt H) rs cs ∧ 1 ≤ cs.length ∧ cs.length ≤ 100 ∧ 0 ≤ (KM.cAt cs (cs.length - 1)).1 ∧ (KM.cAt cs (cs.length - 1)).1 ≤ 10000 ∧
  ∀ ns r H', ns.length ≤ 1000 → (∀ x ∈ ns, (0 ≤ x ∧ x ≤ (KM.cAt cs (cs.length - 1)).1) ∨ ∃ j, j < cs.length ∧ x = (KM.cAt cs j).1) → XT t a H H' → H r = none → H' r = some (.lst (ils ns)) → Q (.ref r) H'
theorem ok__law_asked (T : Txt K mg) (d__law_next : Dfn P w K mg base 1 "_law_next" ["_law_tape_here", "_law_size"] spNext) (F : FnP K "_law_asked" "_law_asked" s__law_asked f fd) (g : mg "_law_asked" = some (.ref f)) : Dfn P w K mg base 2 "_law_asked" ["_law_tape_here", "_law_ends_here"] spAsked := by
  refine dfn_of F g sc__law_asked b__law_asked (fun vs H Q E h => ?_) (BodyN.ok fun cdv A outer s H vs Q E hr h => ?_)
  · obtain ⟨_, _, _, _, _, rfl, _⟩ := h
    rfl
  · obtain ⟨t, a, e, rs, cs, rfl, hT, het, he, hR, c1, c2, w0, w1, k⟩ := h
    refine ⟨_, (pss_cons (ps_set (i := 2) sc__law_asked.nd rfl (Or.inr rfl) (pe_ix ix_tup (pe_ix ix_list (pv 1) (pe_op op_sub (pe_callB call_len_seq rfl T.len PySem.boot_len (pa_cons (pv 1) pa_nil)) pe_int) (fun _ _ => rfl)) pe_int (fun _ _ => rfl)))
    (pss_cons (ps_if (pt_cmpR op_le (pv 2) pe_int (nomark _)) (pss_one (ps_ret (pe_listRg rfl rfl T.list (prg_1 rfl T.range (pe_op op_add (pv 2) pe_int))))) pss_nil)
    (pss_one (ps_ret (pe_op op_cat (pe_lc (own := [("_law_end", 3)]) (g := gName 3) (tt := tYes) rfl sc__law_asked.nd (pi_list (pv 1)) (blkOk_by (own := [("_law_end", 3)]) (N := n__law_asked) (sc := defScope s__law_asked) (by decide +kernel)) (fun _ _ _ _ _ => pg_name (i := 3) sc__law_asked.nd rfl (Or.inl rfl)) (fun _ _ _ _ _ => pts_nil) (fun _ _ _ _ _ => (pe_ix (ix_tupK (K := K) rfl) (pv 3) pe_int (fun _ _ => rfl)))) (pe_lc (own := [("_law_j", 4)]) (g := gName 4) (tt := tYes) rfl sc__law_asked.nd (pi_range1 rfl T.range (pa_cons pe_int pa_nil)) (blkOk_by (own := [("_law_j", 4)]) (N := n__law_asked) (sc := defScope s__law_asked) (by decide +kernel)) (fun _ _ _ _ _ => pg_name (i := 4) sc__law_asked.nd rfl (Or.inl rfl)) (fun _ _ _ _ _ => pts_nil) (fun _ _ _ _ _ => (pe_fn d__law_next (hr.mono (by decide)) rfl (pa_cons (pv 0) (pa_cons (pe_op op_add (pv 2) pe_int) pa_nil)))))))))), ?_⟩
    have rl := hR.len
    obtain ⟨ql, hq1, hq2⟩ := refs_at hR (i := cs.length - 1) (by omega)
    have ei : ((rs.length : Nat) : Int) - 1 = ((cs.length - 1 : Nat) : Int) := by omega
    generalize (KM.cAt cs (cs.length - 1)).1 = whole at *
    refine q_asg (v := .int whole) (ev_op (ev_op (ev_var rfl) (ev_op (ev_lenS (ev_var rfl) (.inl (sq_of he))) ev_c rv_I0) (rv_ixL (sq_of he) (by rw [ei]; exact atI_at hq1))) ev_c (rv_ixT (st_of hq2) rfl)) fun H1 e1 => ?_
    refine q_when (et_test (ev_op (ev_var rfl) ev_c rv_I0)) (fun c H2 e2 => ?_) (fun c H2 e2 => ?_)
    · have c := of_decide_eq_true c
      have e12 := e1.trans e2
      refine s_retL (el_rg1 (ev_op (ev_var rfl) ev_c rv_I0) (RgOk.of_le (by omega) (by omega) (by omega) (by omega))) fun r H3 hr0 e3 hr => ?_
      refine k ((List.range (whole + 1 - 0).toNat).map fun i => 0 + ((i : Nat) : Int)) r H3 (by rw [List.length_map, List.length_range]; omega) (fun x hx => ?_) (XT.of hT (e12.trans e3)) (fresh_back e12 hr0) ?_
      · obtain ⟨i, hi, rfl⟩ := List.mem_map.mp hx
        have := List.mem_range.mp hi
        exact .inl ⟨by omega, by omega⟩
      · rw [hr]
        unfold rgV ils
        rw [List.map_map]
        rfl
    · have e12 := e1.trans e2
      have hT2 := hT.ex e12
      refine s_retOpL (el_is (el_lcL (K := K) (fun _ => true) (fun i => .int (KM.cAt cs i).1) (ev_var rfl) (sq_of (e12 _ _ he)) (by omega) (fun _ => rfl) (fun _ _ _ _ _ => et_yes) (fun i x H3 e3 hi _ => ?_)) (given_ints rs.length (fun _ => true) (fun i => (KM.cAt cs i).1))) fun p1 H3 hp10 e3 hp1 => ?_
      · obtain ⟨c, q, hc, rfl, hq⟩ := hR.at hi
        have hi2 := (List.getElem?_eq_some_iff.mp hi).1
        have ec : KM.cAt cs i = c := by
          unfold KM.cAt
          rw [List.getD_eq_getElem?_getD, hc]
          rfl
        rw [ec]
        exact ev_op (ev_var rfl) ev_c (rv_ixT (st_of ((e12.trans e3) _ _ hq)) rfl)
      · have hT3 := hT2.ex e3
        have p1t := hT2.fresh hp10
        refine lc_drawR (n := 6) (fun _ d => 0 ≤ d ∧ d ≤ whole) hT3 (ea_cons ev_c ea_nil) (by decide) (fun _ => rfl) (fun i H4 x4 hi => ?_) _ fun p2 ns2 H4 hp20 x4 hp2 hl2 hb2 => ?_
        · exact ei_next rfl (ei_op0 (A := fun y => y = whole) (B := fun y => y = 1) (ei_var rfl rfl) (ei_c rfl) (fun p q hp hq => by subst hp hq; exact ⟨by omega, by omega, fun d h0 h1 => ⟨h0, by omega⟩⟩))
        · have x14 : XT t a H H4 := (XT.of hT (e12.trans e3)).trans x4
          refine ⟨p1, p2, _, _, rfl, rfl, x4.at p1t.1 hp1, hp2, sz_of ?_, fun r hr0 => ?_⟩
          · rw [ils_length, ils_length, List.length_map, hl2]
            have := List.length_filter_le (fun _ => true) (List.range rs.length)
            rw [List.length_range] at this
            omega
          · refine k (((List.range rs.length).filter fun _ => true).map (fun i => (KM.cAt cs i).1) ++ ns2) r _ ?_ (fun x hx => ?_) (x14.ex (Ex.new hr0)) (x14.back hT hr0) ?_
            · rw [List.length_append, List.length_map, hl2]
              have := List.length_filter_le (fun _ => true) (List.range rs.length)
              rw [List.length_range] at this
              omega
            · rcases List.mem_append.mp hx with h | h
              · obtain ⟨j, hj, rfl⟩ := List.mem_map.mp h
                have := List.mem_range.mp (List.mem_filter.mp hj).1
                exact .inr ⟨j, by omega, rfl⟩
              · exact .inl (mem_all (P := fun d => 0 ≤ d ∧ d ≤ whole) hb2 x h)
            · rw [upd_same]
              simp [ils]
end
end K61
/-! _law_heights -/
namespace K61
open PySem PySem.Spec PyProof.Rows L2 Evl
open KM (nth tot walls)
theorem room_u {k : Nat} {A : Around} (hr : Room k A) : A.units + 64 < cLine := by
  have := hr.un
  omega
section
variable {K : PySem.W.Frag} {H H' : Hp} {σ : L2.St} {ta tb te tv tc : TE} {t tt : TT} {D : Ends} {tu tw tz : TS}
theorem lay_ints : ∀ ns : List Int, PyData.canLayAll0 (ns.map PyData.int) = true
  | [] => by simp [PyData.canLayAll0]
  | n :: ns => by
    rw [List.map_cons, PyData.canLayAll0, lay_ints ns]
    simp [PyData.canLay0]
theorem dep_ints : ∀ ns : List Int, PyData.depthAll (ns.map PyData.int) = 0
  | [] => by simp [PyData.depthAll]
  | n :: ns => by
    rw [List.map_cons, PyData.depthAll, dep_ints ns]
    simp [PyData.depth]
theorem shaped_ints (ns : List Int) : SeqAt.shaped (.list (ns.map PyData.int)) = true := by
  unfold SeqAt.shaped
  rw [PyData.canLay0, lay_ints, PyData.depth, dep_ints]
  rfl
theorem dp_ints : ∀ ns : List Int, DpAll K H (ils ns) (ns.map PyData.int)
  | [] => .nil
  | n :: ns => .cons (.int n) (dp_ints ns)
theorem rv_neS {a b : Addr} {ns : List Int} (ha : SqL K H a (ils ns)) (hb : SqL K H b (ils ns)) : RV (rNeD K) (.ref a) (.ref b) H (.bl false) := fun H1 e Q q => by
  refine ⟨_, _, .lst (ex_l e ha) (dp_ints ns), .lst (ex_l e hb) (dp_ints ns), shaped_ints ns, shaped_ints ns, ?_⟩
  rw [PyData.eqv, PySem.SeqAt.eqvAll_refl _ (lay_ints ns)]
  exact q H1 (Ex.refl H1)
theorem el_listS {p : Addr} {xs : List V} (ha : Ev ta σ H (.ref p)) (h : Sq K H p xs) : EvL (tCB (rListS K) (tCons ta tNil)) σ H xs := fun H1 e Q q =>
  ha H1 e _ fun H2 e2 => ⟨p, xs, rfl, h.ex (e.trans e2), fun l hl => q l _ (fresh_back e2 hl) (e2.trans (Ex.new hl)) upd_same⟩
theorem et_truEL {xs : List V} (ha : EvL te σ H xs) : EvT (fun σ H Q => te σ H fun x H' => ∃ k, TruV K x H' k ∧ Q k H') σ H (!xs.isEmpty) := fun H1 e Q q =>
  ha H1 e _ fun p H2 _ e2 hp => ⟨_, .inl ⟨xs, sq_of hp, rfl⟩, q H2 e2⟩
theorem eu_pair {sp : Sp} {vs : List V} {ta : TA} {p q : Int} (h : EvA ta σ H vs) (hs : ∀ H1, Ex H H1 → ∀ Q : VK, RetPair p q H1 Q → sp vs H1 Q E0) : EvU (tCall sp [] E0 ta) σ H [.int p, .int q] := fun H1 e Q q => h H1 e _ fun H2 e2 => by
  rw [List.append_nil]
  exact hs H2 (e.trans e2) Q fun t H3 ht e3 h3 => q t H3 (fresh_back e2 ht) (e2.trans e3) h3
end
theorem refs_filter {α : Type} {Pm : Addr → α → Prop} {rs : List V} {ts : List α} (d : α) (g : α → Bool) (h : Refs Pm rs ts) : Refs Pm (given rs.length (fun i => g (ts.getD i d)) (fun i => rs.getD i .non)) (ts.filter g) := by
  have e : ts = (List.range rs.length).map fun i => ts.getD i d := by
    rw [h.1]
    apply List.ext_getElem
    · simp
    · intro i h1 h2
      simp only [List.getElem_map, List.getElem_range]
      rw [List.getD_eq_getElem?_getD, List.getElem?_eq_getElem h1]
      rfl
  have e2 : ts.filter g = ((List.range rs.length).filter (fun i => g (ts.getD i d))).map (fun i => ts.getD i d) := by
    conv => lhs; rw [e]
    rw [List.filter_map]
    rfl
  rw [e2]
  unfold given
  refine ⟨by rw [List.length_map, List.length_map], fun i x hx => ?_⟩
  rw [List.getElem?_map] at hx
  cases hL : ((List.range rs.length).filter (fun i => g (ts.getD i d)))[i]? with
  | none => rw [hL] at hx; cases hx
  | some j =>
    rw [hL] at hx
    obtain rfl := Option.some.inj hx
    have hj : j < rs.length := by
      have := List.mem_of_getElem? hL
      exact List.mem_range.mp (List.mem_filter.mp this).1
    have hj2 : j < ts.length := by rw [← h.1]; exact hj
    obtain ⟨q, h1, h2⟩ := h.2 j _ (List.getElem?_eq_getElem hj2)
    refine ⟨q, ?_, ?_⟩
    · rw [List.getElem?_map, hL]
      show some (rs.getD j .non) = _
      rw [List.getD_eq_getElem?_getD, h1]
      rfl
    · have : ts.getD j d = ts[j] := by
        rw [List.getD_eq_getElem?_getD, List.getElem?_eq_getElem hj2]
        rfl
      show Pm q (ts.getD j d)
      rw [this]
      exact h2
theorem refs_empty {α : Type} {Pm : Addr → α → Prop} {rs : List V} {ts : List α} (h : Refs Pm rs ts) : rs.isEmpty = ts.isEmpty := by
  have := h.1
  cases rs <;> cases ts <;> simp_all
section
variable {P : Program} {w : World} {K : PySem.W.Frag} {mg : Str → Option Value} {base : Heap} {f : Addr} {fd : FuncData} {CW CC : Addr}
abbrev s__law_heights : Stmt := top 45
abbrev n__law_heights : List Str := ["_law_made", "_law_weights", "_law_passed", "_law_sets", "_law_ends_here", "_law_asked_here", "_law_corner", "_law_end", "_law_length", "_law_told", "_law_here", "_law_one"]
theorem sc__law_heights : FnScope n__law_heights ["_law_made", "_law_weights", "_law_passed", "_law_sets", "_law_ends_here", "_law_asked_here"] (defScope s__law_heights) := ⟨rfl, rfl, rfl, by decide +kernel, rfl, by decide +kernel, by decide +kernel⟩
theorem b__law_heights : BindsOk "_law_heights" "_law_heights" s__law_heights ["_law_made", "_law_weights", "_law_passed", "_law_sets", "_law_ends_here", "_law_asked_here"] := fun _ _ _ _ _ _ us hl => match us, hl with | [_, _, _, _, _, _], _ => rfl
abbrev d0 : KM.CS := (0, 0, [])
/-- what the law knows of the corners that it found -/
structure EOk (par len wt : List Int) (E : List (Int × Int)) : Prop where
  c : KM.Corners par len wt E
  e : ∀ Bs, KM.Stairs par len wt (walls par.length) Bs → E = KM.cornersFrom len wt [] Bs
  b : EBd E
structure TsOk (par len wt : List Int) (ts : List KM.CS) : Prop where
  a : KM.All par len wt ts
  b : ∀ c ∈ ts, CBd c
  l : ts.length ≤ 256
def spHeights (K : PySem.W.Frag) : Sp := fun vs H Q _ => ∃ (m v p s e q : Addr) (par len wt ns : List Int) (rs re : List V) (ts : List KM.CS) (E : List (Int × Int)), vs = [.ref m, .ref v, .ref p, .ref s, .ref e, .ref q] ∧
  TunAt K H m par len ∧ H v = some (.lst (ils wt)) ∧ Sq K H p (ils wt) ∧ H s = some (.lst rs) ∧ Refs (CnAt H) rs ts ∧ H e = some (.lst re) ∧ Refs (PairAt H) re E ∧ H q = some (.lst (ils ns)) ∧ Ok par len ∧ WOk par wt ∧ TsOk par len wt ts ∧ EOk par len wt E ∧
  (∀ x ∈ ns, 0 ≤ x ∧ x ≤ len.sum) ∧ RetV (.bl true) H Q
theorem ok__law_heights (T : Txt K mg) (d_height : Dfn P w K mg base 8 "height" ["tunnels", "weights", "length"] (spHeight K CW CC)) (d__law_fraction : Dfn P w K mg base 2 "_law_fraction" ["_law_told", "_law_line_here"] (spFraction K)) (d__law_line : Dfn P w K mg base 1 "_law_line" ["_law_ends_here", "_law_length"] (spLine K))
    (F : FnP K "_law_heights" "_law_heights" s__law_heights f fd) (g : mg "_law_heights" = some (.ref f)) : Dfn P w K mg base 9 "_law_heights" ["_law_made", "_law_weights", "_law_passed", "_law_sets", "_law_ends_here", "_law_asked_here"] (spHeights K) := by
  refine dfn_of F g sc__law_heights b__law_heights (fun vs H Q E h => ?_) (BodyN.ok fun cdv A outer s H vs Q E hr h => ?_)
  · obtain ⟨_, _, _, _, _, _, _, _, _, _, _, _, _, _, rfl, _⟩ := h
    rfl
  · obtain ⟨m, v, p, s0, e0, q, par, len, wt, ns, rs, re, ts, E, rfl, hT, hv, hp, hs, hR, he, hE, hq, O, W, TS, EO, hx, k⟩ := h
    refine ⟨_, (pss_cons (ps_setLc (i := 6) (own := [("_law_end", 7)]) (g := gName 7) (tt := tYes) rfl sc__law_heights.nd rfl rfl (sw_true rfl rfl rfl (by decide +kernel)) (pi_list (pv 4)) (blkOk_by (own := [("_law_end", 7)]) (N := n__law_heights) (sc := defScope s__law_heights) (by decide +kernel)) (fun _ _ _ _ _ => pg_name (i := 7) sc__law_heights.nd rfl (Or.inl rfl)) (fun _ _ _ _ _ => pts_nil) (fun _ _ _ _ _ => (pe_ix (ix_tupK (K := K) rfl) (pv 7) pe_int (fun _ _ => rfl))))
    (pss_cons (ps_for PassesOwn.never rfl (pi_list (pv 5)) (pg_name (i := 8) sc__law_heights.nd rfl (Or.inr rfl)) (pss_cons (ps_set (i := 9) sc__law_heights.nd rfl (Or.inr rfl) (pe_fn d_height (hr.mono (by decide)) rfl (pa_cons (pv 0) (pa_cons (pv 2) (pa_cons (pv 8) pa_nil)))))
    (pss_cons (ps_if (PW.pt (pw_or (pt_cmpR (op_neD (room_u hr)) (pe_callTy call_list_of rfl T.list (by decide +kernel) (pa_cons (pv 2) pa_nil)) (pv 1) (nomark _)) (pw_or1 (pt_not (pt_val (pe_fn d__law_fraction (hr.mono (by decide)) rfl (pa_cons (pv 9) (pa_cons (pe_fn d__law_line (hr.mono (by decide)) rfl (pa_cons (pv 4) (pa_cons (pv 8) pa_nil))) pa_nil)))))))) (pss_one (ps_ret pe_bl)) pss_nil)
    (pss_cons (ps_setLc (i := 10) (own := [("_law_one", 11)]) (g := gName 11) rfl sc__law_heights.nd rfl rfl (sw_true rfl rfl rfl (by decide +kernel)) (pi_list (pv 3)) (blkOk_by (own := [("_law_one", 11)]) (N := n__law_heights) (sc := defScope s__law_heights) (by decide +kernel)) (fun _ _ _ _ _ => pg_name (i := 11) sc__law_heights.nd rfl (Or.inl rfl)) (fun _ _ _ _ _ => (pts_one (pt_cmpR op_eq (pe_ix (ix_tupK (K := K) rfl) (pv 11) pe_int (fun _ _ => rfl)) (pv 8) (nomark _)))) (fun _ _ _ _ _ => (pv 11)))
    (pss_cons (ps_if (pt_truth (pe_lc (own := [("_law_one", 11)]) (g := gName 11) rfl sc__law_heights.nd (pi_list (pv 10)) (blkOk_by (own := [("_law_one", 11)]) (N := n__law_heights) (sc := defScope s__law_heights) (by decide +kernel)) (fun _ _ _ _ _ => pg_name (i := 11) sc__law_heights.nd rfl (Or.inl rfl)) (fun _ _ _ _ _ => (pts_one (pt_cmpR op_gt (pe_op op_mul (pe_ix (ix_tupK (K := K) rfl) (pv 11) pe_int (fun _ _ => rfl)) (pe_ix (ix_tupK (K := K) rfl) (pv 9) pe_int (fun _ _ => rfl))) (pe_ix (ix_tupK (K := K) rfl) (pv 9) pe_int (fun _ _ => rfl)) (nomark _)))) (fun _ _ _ _ _ => (pv 11))) (by intro _; rfl)) (pss_one (ps_ret pe_bl)) pss_nil)
    (pss_one (ps_if (PW.pt (pw_and (pt_cmpR op_in_seq (pv 8) (pv 6) (by rfl)) (pw_and1 (pt_not (pt_truth (pe_lc (own := [("_law_one", 11)]) (g := gName 11) rfl sc__law_heights.nd (pi_list (pv 10)) (blkOk_by (own := [("_law_one", 11)]) (N := n__law_heights) (sc := defScope s__law_heights) (by decide +kernel)) (fun _ _ _ _ _ => pg_name (i := 11) sc__law_heights.nd rfl (Or.inl rfl)) (fun _ _ _ _ _ => (pts_one (pt_cmpR op_eq (pe_op op_mul (pe_ix (ix_tupK (K := K) rfl) (pv 11) pe_int (fun _ _ => rfl)) (pe_ix (ix_tupK (K := K) rfl) (pv 9) pe_int (fun _ _ => rfl))) (pe_ix (ix_tupK (K := K) rfl) (pv 9) pe_int (fun _ _ => rfl)) (nomark _)))) (fun _ _ _ _ _ => (pv 11))) (by intro _; rfl)))))) (pss_one (ps_ret pe_bl)) pss_nil)))))))
    (pss_one (ps_ret pe_bl)))), ?_⟩
    have rel := hE.len
    have rl := hR.len
    have tl := TS.l
    have eb := EO.b
    have ebl := eb.1
    have wl := W.wl
    have n8 := O.n8
    have C := EO.c
    refine q_asgL (el_is (el_lcL (K := K) (fun _ => true) (fun i => .int (KM.cAt E i).1) (ev_var rfl) (sq_of he) (by omega) (fun _ => rfl) (fun _ _ _ _ _ => et_yes) (fun i x H3 e3 hi _ => ?_)) (given_ints re.length (fun _ => true) (fun i => (KM.cAt E i).1))) fun co H1 hco0 e1 hco => ?_
    · obtain ⟨c, q, hc, rfl, hq⟩ := hE.at hi
      have ec : KM.cAt E i = c := by
        unfold KM.cAt
        rw [List.getD_eq_getElem?_getD, hc]
        rfl
      rw [ec]
      exact ev_op (ev_var rfl) ev_c (rv_ixT (st_of (e3 _ _ hq)) rfl)
    have hcor : ∀ x, x ∈ ((List.range re.length).filter fun _ => true).map (fun i => (KM.cAt E i).1) → ∃ j, j < E.length ∧ (KM.cAt E j).1 = x := fun x hx => by
      obtain ⟨j, hj, rfl⟩ := List.mem_map.mp hx
      have := List.mem_range.mp (List.mem_filter.mp hj).1
      exact ⟨j, by omega, rfl⟩
    generalize ((List.range re.length).filter fun _ => true).map (fun i => (KM.cAt E i).1) = cor at *
    refine q_forLn (ev_var rfl) (sq_of (e1 _ _ hq)) (fun i σ' H' => (∃ u7 u8 u9 u10 u11, σ' = [some (.ref m), some (.ref v), some (.ref p), some (.ref s0), some (.ref e0), some (.ref q), some (.ref co), u7, u8, u9, u10, u11]) ∧ Ex H1 H') (fun H2 e2 => ⟨⟨_, _, _, _, _, rfl⟩, e2⟩) (fun i σ' H' _ h => sq_of (h.2 _ _ (e1 _ _ hq))) ?_ ?_
    · rintro j x σ' H2 hj ⟨⟨u7, u8, u9, u10, u11, rfl⟩, e2⟩
      obtain ⟨hj2, rfl, hxm⟩ := ils_mem hj
      obtain ⟨x0, x1⟩ := hx _ hxm
      generalize ns.getD j 0 = x at *
      have e := e1.trans e2
      refine q_asgM (Pm := fun t H => ∃ i p' q', KM.LineAt E x i ∧ KM.Lowest (KM.lineNum E x i) (KM.lineDen E i) p' q' ∧ H t = some (.tup [.int p', .int q'])) (ev_callM (ea_cons (ev_var rfl) (ea_cons (ev_var rfl) (ea_cons (ev_var rfl) ea_nil)))
        (fun H3 e3 Q1 q1 => ⟨m, p, par, len, wt, x, rfl, ⟨hT.ex (e.trans e3), hp.ex (e.trans e3), O, by omega, fun y hy => (W.wb y hy).2⟩, fun i q => (by rw [wok_wrong W] at q; cases q), fun _ => ⟨fun c => by omega, fun _ _ Bs hS i hL p' q' hlow t H4 ht e4 h4 => q1 t H4 ht e4 ?_⟩⟩)) fun told H3 ht0 e3 hPm => ?_
      · have eE := EO.e Bs hS
        rw [← eE] at hL hlow
        exact ⟨i, p', q', hL, hlow, h4⟩
      obtain ⟨i, p', q', hL, hlow, htold⟩ := hPm
      have e13 := e.trans e3
      have hden : KM.lineDen E i ≤ 50000 := by
        have := eb.2 _ (cAt_mem hL.il)
        have := eb.2 _ (cAt_mem (cs := E) (i := i - 1) (by have := hL.il; omega))
        unfold KM.lineDen
        omega
      refine q_when (b := false) (et_is (et_or (a := false) (b := false) (et_test (ev_opL1 (el_listS (ev_var rfl) (hp.ex e13)) (fun _ _ => ev_var rfl) (fun r H4 hr4 e4 => rv_neS (sq_of hr4) (sq_of ((e13.trans e4) _ _ hv)))))
        (fun _ => et_is (et_not (et_B (b := true) (fun H4 e4 Q1 q1 => ⟨_, rfl, eu_pair (p := KM.lineNum E x i) (q := KM.lineDen E i) (ea_cons (ev_var rfl) (ea_cons (ev_var rfl) ea_nil)) (fun H5 e5 Q2 q2 => ⟨e0, x, re, E, i, rfl, (e13.trans (e4.trans e5)) _ _ he, hE.mono fun q c _ h => h.ex (e13.trans (e4.trans e5)), eb, hL, q2⟩) H4 (Ex.refl H4) _ fun l H5 hl0 e5 hl => ⟨told, l, p', q', _, _, rfl, (e4.trans e5) _ _ htold, hl, hlow, hden, fun H6 e6 => q1 H6 (e5.trans e6)⟩⟩))) rfl)) rfl) (fun c => by cases c) fun _ H4 e4 => ?_
      have e14 := e13.trans e4
      have told4 := e4 _ _ htold
      have CA : ∀ {i : Nat} {y : V}, rs[i]? = some y → ∃ q mm, y = .ref q ∧ rs.getD i .non = .ref q ∧ ts.getD i d0 ∈ ts ∧ H q = some (.tup [.int (ts.getD i d0).1, .int (ts.getD i d0).2.1, .ref mm]) := fun {i y} h => by
        obtain ⟨c, q, hc, rfl, mm, hq⟩ := hR.at h
        have e1 : ts.getD i d0 = c := by rw [List.getD_eq_getElem?_getD, hc]; rfl
        have e2 : rs.getD i .non = .ref q := by rw [List.getD_eq_getElem?_getD, h]; rfl
        exact ⟨q, mm, rfl, e2, by rw [e1]; exact List.mem_of_getElem? hc, by rw [e1]; exact hq⟩
      refine q_asgL (el_lcL (K := K) (fun i => decide ((ts.getD i d0).1 = x)) (fun i => rs.getD i .non) (ev_var rfl) (sq_of (e14 _ _ hs)) (by omega) (fun _ => rfl) (fun i y H5 e5 hi => ?_) (fun i y H5 e5 hi _ => ?_)) fun hh H5 hh0 e5 hhh => ?_
      · obtain ⟨q, mm, rfl, _, _, hq⟩ := CA hi
        exact et_eqI (ev_op (ev_var rfl) ev_c (rv_ixT (st_of ((e14.trans e5) _ _ hq)) rfl)) (ev_var rfl)
      · obtain ⟨q, mm, rfl, e2, _, _⟩ := CA hi
        rw [e2]
        exact ev_var rfl
      have hF := refs_filter d0 (fun c => decide (c.1 = x)) hR
      have hFm : ∀ c ∈ ts.filter (fun c => decide (c.1 = x)), c ∈ ts ∧ c.1 = x := fun c hc => by
        obtain ⟨h1, h2⟩ := List.mem_filter.mp hc
        exact ⟨h1, of_decide_eq_true h2⟩
      have hFh : ∀ c ∈ ts, c.1 = x → c ∈ ts.filter (fun c => decide (c.1 = x)) := fun c hc h => List.mem_filter.mpr ⟨hc, decide_eq_true h⟩
      have hFl : (ts.filter (fun c => decide (c.1 = x))).length ≤ 256 := Nat.le_trans (List.length_filter_le _ _) tl
      generalize given rs.length (fun i => decide ((ts.getD i d0).1 = x)) (fun i => rs.getD i .non) = hs2 at *
      generalize ts.filter (fun c => decide (c.1 = x)) = us at *
      have hFlen := hF.len
      have UA : ∀ {i : Nat} {y : V}, hs2[i]? = some y → ∃ q mm, y = .ref q ∧ hs2.getD i .non = .ref q ∧ us.getD i d0 ∈ us ∧ H q = some (.tup [.int (us.getD i d0).1, .int (us.getD i d0).2.1, .ref mm]) := fun {i y} h => by
        obtain ⟨c, q, hc, rfl, mm, hq⟩ := hF.at h
        have e1 : us.getD i d0 = c := by rw [List.getD_eq_getElem?_getD, hc]; rfl
        have e2 : hs2.getD i .non = .ref q := by rw [List.getD_eq_getElem?_getD, h]; rfl
        exact ⟨q, mm, rfl, e2, by rw [e1]; exact List.mem_of_getElem? hc, by rw [e1]; exact hq⟩
      have CB : ∀ c ∈ us, CBd c := fun c hc => TS.b c (hFm c hc).1
      have e15 := e14.trans e5
      have told5 := e5 _ _ told4
      refine q_when (b := false) (et_is (et_truEL (el_lcL (K := K) (fun i => decide (p' < (us.getD i d0).2.1 * q')) (fun i => hs2.getD i .non) (ev_var rfl) (sq_of hhh) (by omega) (fun _ => rfl) (fun i y H6 e6 hi => ?_) (fun i y H6 e6 hi _ => ?_))) ?_) (fun c => by cases c) fun _ H6 e6 => ?_
      · obtain ⟨q, mm, rfl, _, hm, hq⟩ := UA hi
        have cb := CB _ hm
        unfold CBd at cb
        exact et_gt (ev_op (ev_op (ev_var rfl) ev_c (rv_ixT (st_of ((e15.trans e6) _ _ hq)) rfl)) (ev_op (ev_var rfl) ev_c (rv_ixT (st_of (e6 _ _ told5)) rfl)) (rv_I (.inl ⟨by omega, by omega⟩))) (ev_op (ev_var rfl) ev_c (rv_ixT (st_of (e6 _ _ told5)) rfl))
      · obtain ⟨q, mm, rfl, e2, _, _⟩ := UA hi
        rw [e2]
        exact ev_var rfl
      · have hz := refs_empty (refs_filter d0 (fun c => decide (p' < c.2.1 * q')) hF)
        have : us.filter (fun c => decide (p' < c.2.1 * q')) = [] := by
          rw [List.filter_eq_nil_iff]
          intro c hc
          obtain ⟨h1, h2⟩ := hFm c hc
          obtain ⟨S, hS, s1, s2⟩ := TS.a.is c h1
          have := KM.line_top C hL hlow hS (by rw [← s1]; exact h2)
          rw [s2]
          simpa using this
        rw [this] at hz
        rw [hz]
        rfl
      have told6 := e6 _ _ told5
      have e16 := e15.trans e6
      refine s_when (b := false) (et_is (et_and (a := decide (x ∈ cor)) (b := false) (et_test (ev_inI (ev_var rfl) (ev_var rfl) (sq_of ((e2.trans (e3.trans (e4.trans (e5.trans e6)))) _ _ hco)))) (fun hin => et_is (et_not (et_truEL (el_lcL (K := K) (fun i => decide ((us.getD i d0).2.1 * q' = p')) (fun i => hs2.getD i .non) (ev_var rfl) (sq_of (e6 _ _ hhh)) (by omega) (fun _ => rfl) (fun i y H7 e7 hi => ?_) (fun i y H7 e7 hi _ => ?_)))) ?_)) (by simp)) (fun c => by cases c) fun _ H7 e7 => ⟨⟨_, _, _, _, _, rfl⟩, e2.trans (e3.trans (e4.trans (e5.trans (e6.trans e7))))⟩
      · obtain ⟨q, mm, rfl, _, hm, hq⟩ := UA hi
        have cb := CB _ hm
        unfold CBd at cb
        exact et_eqI (ev_op (ev_op (ev_var rfl) ev_c (rv_ixT (st_of ((e16.trans e7) _ _ hq)) rfl)) (ev_op (ev_var rfl) ev_c (rv_ixT (st_of (e7 _ _ told6)) rfl)) (rv_I (.inl ⟨by omega, by omega⟩))) (ev_op (ev_var rfl) ev_c (rv_ixT (st_of (e7 _ _ told6)) rfl))
      · obtain ⟨q, mm, rfl, e2, _, _⟩ := UA hi
        rw [e2]
        exact ev_var rfl
      · have hz := refs_empty (refs_filter d0 (fun c => decide (c.2.1 * q' = p')) hF)
        have hin := of_decide_eq_true hin
        obtain ⟨j2, hj2, hjx⟩ := hcor x hin
        obtain ⟨S, hS, s1, s2⟩ := KM.line_corner C hL hlow hj2 hjx
        obtain ⟨c, hc, c1, c2⟩ := TS.a.has S hS
        have hm : c ∈ us.filter (fun c => decide (c.2.1 * q' = p')) := List.mem_filter.mpr ⟨hFh c hc (by rw [c1, s1]), decide_eq_true (by rw [c2]; exact s2)⟩
        rw [hz]
        cases hu : us.filter (fun c => decide (c.2.1 * q' = p')) with
        | nil => rw [hu] at hm; simp at hm
        | cons _ _ => rfl
    · rintro σ' H2 ⟨⟨u7, u8, u9, u10, u11, rfl⟩, e2⟩
      exact s_ret ev_c fun H3 e3 => k H3 (e1.trans (e2.trans e3))
end
end K61
/-! _law_cornered, _law_priced -/
namespace K61
open PySem PySem.Spec PyProof.Rows L2 Evl
open KM (nth tot walls)
section
variable {K : PySem.W.Frag} {H H' : Hp} {σ : L2.St} {ta tb te tv tc : TE} {t tt : TT} {D : Ends} {tu tw tz : TS}
theorem q_setU {j : Nat} {l : Addr} {xs ys : List V} {i : Int} {jj : Nat} (hl : H l = some (.lst xs)) (hj : σ[j]? = some (some (.ref l))) (hv : EvU te σ H ys) (hi : ixN xs.length i = some jj) (k : ∀ p H1, H p = none → Ex H H1 → H1 p = some (.tup ys) → tz D σ (upd H1 l (.lst (xs.set jj (.ref p))))) :
    tSeq (tAsg te (gSub (tVar j) (tC (.int i)) rSetL)) tz D σ H := hv H (Ex.refl H) _ fun p H1 hp e1 h1 => ⟨_, hj, l, xs, i, jj, rfl, rfl, e1 _ _ hl, hi, k p H1 hp e1 h1⟩
end
section
variable {P : Program} {w : World} {K : PySem.W.Frag} {mg : Str → Option Value} {base : Heap} {f : Addr} {fd : FuncData} {CW CC : Addr}
abbrev s__law_cornered : Stmt := top 46
abbrev n__law_cornered : List Str := ["_law_made", "_law_weights", "_law_ends_here", "_law_told", "_law_at"]
theorem sc__law_cornered : FnScope n__law_cornered ["_law_made", "_law_weights", "_law_ends_here"] (defScope s__law_cornered) := ⟨rfl, rfl, rfl, by decide +kernel, rfl, by decide +kernel, by decide +kernel⟩
theorem b__law_cornered : BindsOk "_law_cornered" "_law_cornered" s__law_cornered ["_law_made", "_law_weights", "_law_ends_here"] := fun _ _ _ _ _ _ us hl => match us, hl with | [_, _, _], _ => rfl
def spCornered (K : PySem.W.Frag) : Sp := fun vs H Q _ => ∃ (m v e : Addr) (par len wt : List Int) (re : List V) (E : List (Int × Int)), vs = [.ref m, .ref v, .ref e] ∧ TunAt K H m par len ∧ H v = some (.lst (ils wt)) ∧ H e = some (.lst re) ∧ Refs (PairAt H) re E ∧ Ok par len ∧ WOk par wt ∧ 1 ≤ E.length ∧ E.length ≤ 100 ∧
  (∀ Bs, KM.Stairs par len wt (walls par.length) Bs → E = KM.cornersFrom len wt [] Bs) ∧ (∀ Bs, KM.Stairs par len wt (walls par.length) Bs → RetV (.bl true) H Q)
theorem ev_same {σ : L2.St} {H : Hp} {ta tb : TE} {ns : List Int} (ha : EvL ta σ H (ils ns)) (hb : ∀ H1, Ex H H1 → EvL tb σ H1 (ils ns)) (hl : ns.length ≤ 1000) : Ev (tCall (spSame K) [] E0 (tCons ta (tCons tb tNil))) σ H (.bl true) := fun H1 e1 Q q =>
  ha H1 e1 _ fun l1 H2 _ e2 h1 => hb H2 (e1.trans e2) H2 (Ex.refl H2) _ fun l2 H3 _ e3 h2 => ⟨l1, l2, ns, rfl, e3 _ _ h1, h2, hl, fun H4 e4 => q H4 (e2.trans (e3.trans e4))⟩
theorem ok__law_cornered (T : Txt K mg) (d_corners : Dfn P w K mg base 7 "corners" ["tunnels", "weights"] (spCorners K CW)) (d__law_same : Dfn P w K mg base 2 "_law_same" ["_law_told", "_law_due"] (spSame K))
    (F : FnP K "_law_cornered" "_law_cornered" s__law_cornered f fd) (g : mg "_law_cornered" = some (.ref f)) : Dfn P w K mg base 8 "_law_cornered" ["_law_made", "_law_weights", "_law_ends_here"] (spCornered K) := by
  refine dfn_of F g sc__law_cornered b__law_cornered (fun vs H Q E h => ?_) (BodyN.ok fun cdv A outer s H vs Q E hr h => ?_)
  · obtain ⟨_, _, _, _, _, _, _, _, rfl, _⟩ := h
    rfl
  · obtain ⟨m, v, e0, par, len, wt, re, E, rfl, hT, hv, he, hE, O, W, E1, E2, hEq, k⟩ := h
    refine ⟨_, (pss_cons (ps_set (i := 3) sc__law_cornered.nd rfl (Or.inl rfl) (pe_fn d_corners (hr.mono (by decide)) rfl (pa_cons (pv 0) (pa_cons (pe_callTy call_list_of rfl T.list (by decide +kernel) (pa_cons (pv 1) pa_nil)) pa_nil))))
    (pss_cons (ps_if (PW.pt (pw_or (pt_not (pt_val (pe_callB call_isi rfl T.isi (by decide +kernel) (pa_cons (pv 3) (pa_cons (pe_bltn (v := .ty "list") rfl T.list (by decide +kernel) rfl) pa_nil))))) (pw_or1 (pt_cmpR op_ne (pe_callB call_len_seq rfl T.len PySem.boot_len (pa_cons (pv 3) pa_nil)) (pe_callB call_len_seq rfl T.len PySem.boot_len (pa_cons (pv 2) pa_nil)) (nomark _))))) (pss_one (ps_ret pe_bl)) pss_nil)
    (pss_cons (ps_for PassesOwn.never rfl (pi_range1 rfl T.range (pa_cons (pe_callB call_len_seq rfl T.len PySem.boot_len (pa_cons (pv 2) pa_nil)) pa_nil)) (pg_name (i := 4) sc__law_cornered.nd rfl (Or.inl rfl)) (pss_one (ps_if (PW.pt (pw_or (pt_not (pt_val (pe_callB call_isi rfl T.isi (by decide +kernel) (pa_cons (pe_ix ix_list (pv 3) (pv 4) (fun _ _ => rfl)) (pa_cons (pe_bltn (v := .ty "tuple") rfl T.tuple (by decide +kernel) rfl) pa_nil))))) (pw_or1 (pt_not (pt_val (pe_fn d__law_same (hr.mono (by decide)) rfl (pa_cons (pe_callTy call_list_of rfl T.list (by decide +kernel) (pa_cons (pe_ix ix_list (pv 3) (pv 4) (fun _ _ => rfl)) pa_nil)) (pa_cons (pe_callTy call_list_of rfl T.list (by decide +kernel) (pa_cons (pe_ix ix_list (pv 2) (pv 4) (fun _ _ => rfl)) pa_nil)) pa_nil)))))))) (pss_one (ps_ret pe_bl)) pss_nil)))
    (pss_cons (ps_expr (pe_bm PySem.F.plainAttrs_list PySem.F.slot_list_append PySem.F.type_list_append mt_append (pv 3) (pa_cons (pe_tup (pa_cons pe_int (pa_cons pe_int pa_nil))) pa_nil)))
    (pss_cons (ps_asg (pe_tup (pa_cons pe_int (pa_cons pe_int pa_nil))) (pg_sub (pv 3) pe_int set_list))
    (pss_one (ps_ret pe_bl))))))), ?_⟩
    have n8 := O.n8
    have wl := W.wl
    have rel := hE.len
    refine q_asgM (Pm := fun r H => ∃ Bs rs, KM.Stairs par len wt (walls par.length) Bs ∧ H r = some (.lst rs) ∧ Refs (PairAt H) rs (KM.cornersFrom len wt [] Bs)) (fun H1 e1 Q1 q1 => ⟨.ref m, rfl, el_listS (ev_var rfl) (.inl (sq_of hv)) H1 e1 _ fun l H2 hl0 e2 hl =>
      ⟨m, l, par, len, wt, rfl, ⟨hT.ex (e1.trans e2), .inl (sq_of hl), O, by omega, fun y hy => (W.wb y hy).2⟩, fun i q => (by rw [wok_wrong W] at q; cases q), fun _ Bs hS r rs H3 hr0 e3 hr hR => q1 r H3 (fresh_back e2 hr0) (e2.trans e3) ⟨Bs, rs, hS, hr, hR⟩⟩⟩) fun told H1 ht0 e1 hPm => ?_
    obtain ⟨Bs, rs, hS, hr, hR⟩ := hPm
    have k := k Bs hS
    rw [← hEq Bs hS] at hR
    have rl := hR.len
    refine q_when (b := false) (et_is (et_or (a := false) (b := false) (et_is (et_not (et_B (b := true) (ev_isi (t := "list") (b := true) (ev_var rfl) (fun H2 e2 => .base (.lst (e2 _ _ hr))) (by decide +kernel)))) rfl) (fun _ => et_is (et_test (ev_op (ev_lenS (ev_var rfl) (.inl (sq_of hr))) (ev_lenS (ev_var rfl) (.inl (sq_of (e1 _ _ he)))) (rv_ne rfl))) (by rw [rl, rel]; simp))) rfl) (fun c => by cases c) fun _ H2 e2 => ?_
    have e12 := e1.trans e2
    refine q_forR1 (n := (E.length : Int)) (ea_cons (ev_is (ev_lenS (ev_var rfl) (.inl (sq_of (e12 _ _ he)))) (by rw [rel])) ea_nil) (by omega) (fun i σ' H' => (∃ u, σ' = [some (.ref m), some (.ref v), some (.ref e0), some (.ref told), u]) ∧ Ex H1 H') (fun H3 e3 => ⟨⟨_, rfl⟩, e2.trans e3⟩) ?_ ?_
    · rintro i σ' H' hi ⟨⟨u, rfl⟩, e⟩
      have hi' : i < E.length := by omega
      obtain ⟨q1, a1, t1⟩ := refs_at hR hi'
      obtain ⟨q2, a2, t2⟩ := refs_at hE hi'
      have V1 : ∀ {H3 : Hp}, Ex H' H3 → Ev (tOp (rIxL K) (tVar 3) (tVar 4)) [some (.ref m), some (.ref v), some (.ref e0), some (.ref told), some (.int (i : Int))] H3 (.ref q1) := fun e3 => ev_op (ev_var rfl) (ev_var rfl) (rv_ixL (sq_of ((e.trans e3) _ _ hr)) (atI_at a1))
      have V2 : ∀ {H3 : Hp}, Ex H' H3 → Ev (tOp (rIxL K) (tVar 2) (tVar 4)) [some (.ref m), some (.ref v), some (.ref e0), some (.ref told), some (.int (i : Int))] H3 (.ref q2) := fun e3 => ev_op (ev_var rfl) (ev_var rfl) (rv_ixL (sq_of ((e1.trans (e.trans e3)) _ _ he)) (atI_at a2))
      refine s_when (b := false) (et_is (et_or (a := false) (b := false) (et_is (et_not (et_B (b := true) (ev_isi (t := "tuple") (b := true) (V1 (Ex.refl H')) (fun H2 e2 => .base (.tup ((e.trans e2) _ _ t1))) (by decide +kernel)))) rfl) (fun _ => et_is (et_not (et_B (b := true) (ev_same (ns := [(KM.cAt E i).1, (KM.cAt E i).2]) (el_listS (V1 (Ex.refl H')) (.inr (st_of (e _ _ t1)))) (fun H4 e4 => el_listS (V2 e4) (.inr (st_of ((e1.trans (e.trans e4)) _ _ t2)))) (by show 2 ≤ 1000; decide)))) rfl)) rfl) (fun c => by cases c) fun _ H2 e2 => ⟨⟨_, rfl⟩, e.trans e2⟩
    · rintro σ' H' ⟨⟨u, rfl⟩, e⟩
      refine q_appU (xs := rs) (ys := [.int 1, .int 1]) (e _ _ hr) (ev_var rfl) (eu_tup (ea_cons ev_c (ea_cons ev_c ea_nil)) (by decide)) (by omega) fun t H3 ht0' e3 ht => ?_
      refine q_setU (jj := 0) upd_same rfl (eu_tup (vs := [.int 1, .int 0]) (ea_cons ev_c (ea_cons ev_c ea_nil)) (by decide)) (ixN_nat (j := 0) (by rw [List.length_append]; show 0 < _ + 1; omega)) fun t2 H4 ht20 e4 ht2 => ?_
      refine s_ret ev_c fun H5 e5 => k H5 ?_
      exact (Ex.mut ((Ex.mut ((e1.trans e).trans e3) ht0).trans e4) ht0).trans e5
abbrev s__law_priced : Stmt := top 47
abbrev n__law_priced : List Str := ["_law_made", "_law_parents_here", "_law_lengths", "_law_weights", "_law_end", "_law_times", "_law_pair", "_law_told", "_law_price"]
theorem sc__law_priced : FnScope n__law_priced ["_law_made", "_law_parents_here", "_law_lengths", "_law_weights", "_law_end", "_law_times", "_law_pair"] (defScope s__law_priced) := ⟨rfl, rfl, rfl, by decide +kernel, rfl, by decide +kernel, by decide +kernel⟩
theorem b__law_priced : BindsOk "_law_priced" "_law_priced" s__law_priced ["_law_made", "_law_parents_here", "_law_lengths", "_law_weights", "_law_end", "_law_times", "_law_pair"] := fun _ _ _ _ _ _ us hl => match us, hl with | [_, _, _, _, _, _, _], _ => rfl
def spPriced (K : PySem.W.Frag) : Sp := fun vs H Q _ => ∃ (m p l v d r : Addr) (par len wt : List Int) (E : List (Int × Int)) (times a b : Int), vs = [.ref m, .ref p, .ref l, .ref v, .ref d, .int times, .ref r] ∧ TunAt K H m par len ∧ H p = some (.lst (ils par)) ∧ H l = some (.lst (ils len)) ∧ H v = some (.lst (ils wt)) ∧
  PairAt H d (KM.cAt E 1) ∧ H r = some (.tup [.int a, .int b]) ∧ Ok par len ∧ WOk par wt ∧ EOk par len wt E ∧ 1 ≤ times ∧ times ≤ 100 ∧ 0 ≤ a ∧ a ≤ 100 ∧ 1 ≤ b ∧ b ≤ 100 ∧ RetV (.bl true) H Q
theorem pr_call {σ : L2.St} {H : Hp} {ta tb : TE} {m v : Addr} {par len wt : List Int} {a b : Int} (h0 : σ[0]? = some (some (.ref m))) (h3 : σ[3]? = some (some (.ref v))) (hT : TunAt K H m par len) (hv : H v = some (.lst (ils wt))) (O : Ok par len) (W : WOk par wt)
    (ha : Ev ta σ H (.int a)) (hb : Ev tb σ H (.int b)) (a0 : 0 ≤ a) (b1 : 1 ≤ b) :
    (KM.gain par (KM.terms par len wt a b) = true → Ev (tCall (spPrices K) [] E0 (tCons (tVar 0) (tCons (tCB (rListS K) (tCons (tVar 3) tNil)) (tCons ta (tCons tb tNil))))) σ H .non) ∧
    (KM.gain par (KM.terms par len wt a b) = false → EvL (tCall (spPrices K) [] E0 (tCons (tVar 0) (tCons (tCB (rListS K) (tCons (tVar 3) tNil)) (tCons ta (tCons tb tNil))))) σ H (ils ((KM.terms par len wt a b).map KM.pos))) := by
  constructor
  · intro hg H1 e1 Q q
    exact ⟨_, h0, el_listS (ev_var h3) (.inl (sq_of hv)) H1 e1 _ fun l H2 hl0 e2 hl => ha H2 (e1.trans e2) _ fun H3 e3 => hb H3 (e1.trans (e2.trans e3)) _ fun H4 e4 =>
      ⟨m, l, par, len, wt, a, b, rfl, hT.ex (e1.trans (e2.trans (e3.trans e4))), .inl (sq_of ((e3.trans e4) _ _ hl)), O, W, a0, b1, fun _ H5 e5 => q H5 (e2.trans (e3.trans (e4.trans e5))), fun c => by rw [hg] at c; cases c⟩⟩
  · intro hg H1 e1 Q q
    exact ⟨_, h0, el_listS (ev_var h3) (.inl (sq_of hv)) H1 e1 _ fun l H2 hl0 e2 hl => ha H2 (e1.trans e2) _ fun H3 e3 => hb H3 (e1.trans (e2.trans e3)) _ fun H4 e4 =>
      ⟨m, l, par, len, wt, a, b, rfl, hT.ex (e1.trans (e2.trans (e3.trans e4))), .inl (sq_of ((e3.trans e4) _ _ hl)), O, W, a0, b1, fun c => (by rw [hg] at c; cases c), fun _ r H5 hr0 e5 hr => q r H5 (fresh_back (e2.trans (e3.trans e4)) hr0) (e2.trans (e3.trans (e4.trans e5))) hr⟩⟩
theorem rule_of {par len wt : List Int} {a b : Int} (O : Ok par len) (hg : KM.gain par (KM.terms par len wt a b) = false) : RuleOk par len wt ((KM.terms par len wt a b).map KM.pos) a b := by
  have hl := KM.terms_length par len wt a b
  have e : ∀ c, c < par.length → ((KM.terms par len wt a b).map KM.pos).getD c 0 = KM.pos ((KM.terms par len wt a b).getD c 0) := fun c hc => by
    rw [List.getD_eq_getElem?_getD, List.getElem?_map, List.getD_eq_getElem?_getD, List.getElem?_eq_getElem (by omega)]
    rfl
  refine ⟨by rw [List.length_map, hl], fun k hk => ?_⟩
  have := KM.price_rule O.tr hg hk
  rw [e k hk]
  refine ⟨this.1, ?_, this.2.2⟩
  refine Int.le_trans (Int.le_of_eq ?_) this.2.1
  congr 1
  refine KM.sumTo_congr fun c hc => ?_
  rw [e c hc]
theorem ok__law_priced (T : Txt K mg) (d_prices : Dfn P w K mg base 5 "prices" ["tunnels", "weights", "a", "b"] (spPrices K)) (d__law_is_number : Dfn P w K mg base 1 "_law_is_number" ["_law_thing"] spNumber) (d__law_rule : Dfn P w K mg base 1 "_law_rule" ["_law_parents_here", "_law_lengths", "_law_weights", "_law_a", "_law_b", "_law_offered"] (spRule K))
    (F : FnP K "_law_priced" "_law_priced" s__law_priced f fd) (g : mg "_law_priced" = some (.ref f)) : Dfn P w K mg base 6 "_law_priced" ["_law_made", "_law_parents_here", "_law_lengths", "_law_weights", "_law_end", "_law_times", "_law_pair"] (spPriced K) := by
  refine dfn_of F g sc__law_priced b__law_priced (fun vs H Q E h => ?_) (BodyN.ok fun cdv A outer s H vs Q E hr h => ?_)
  · obtain ⟨_, _, _, _, _, _, _, _, _, _, _, _, _, rfl, _⟩ := h
    rfl
  · obtain ⟨m, p, l, v, d, r, par, len, wt, E, times, a, b, rfl, hT, hp, hl, hv, hd, hrp, O, W, EO, t1, t2, a0, a1, b0, b1, k⟩ := h
    refine ⟨_, (pss_cons (ps_set (i := 7) sc__law_priced.nd rfl (Or.inl rfl) (pe_fn d_prices (hr.mono (by decide)) rfl (pa_cons (pv 0) (pa_cons (pe_callTy call_list_of rfl T.list (by decide +kernel) (pa_cons (pv 3) pa_nil)) (pa_cons (pe_ix ix_tup (pv 4) pe_int (fun _ _ => rfl)) (pa_cons (pe_ix ix_tup (pv 4) pe_int (fun _ _ => rfl)) pa_nil))))))
    (pss_cons (ps_if (PW.pt (pw_or (pt_not (pt_val (pe_callB call_isi rfl T.isi (by decide +kernel) (pa_cons (pv 7) (pa_cons (pe_bltn (v := .ty "list") rfl T.list (by decide +kernel) rfl) pa_nil))))) (pw_or1 (pt_not (pt_val (pe_callB (cr_all rfl) rfl T.all (by decide +kernel) (pa_cons (pe_lc (own := [("_law_price", 8)]) (g := gName 8) (tt := tYes) rfl sc__law_priced.nd (pi_list (pv 7)) (blkOk_by (own := [("_law_price", 8)]) (N := n__law_priced) (sc := defScope s__law_priced) (by decide +kernel)) (fun _ _ _ _ _ => pg_name (i := 8) sc__law_priced.nd rfl (Or.inl rfl)) (fun _ _ _ _ _ => pts_nil) (fun _ _ _ _ _ => (pe_fn d__law_is_number (hr.mono (by decide)) rfl (pa_cons (pv 8) pa_nil)))) pa_nil))))))) (pss_one (ps_ret pe_bl)) pss_nil)
    (pss_cons (ps_if (pt_not (pt_val (pe_fn d__law_rule (hr.mono (by decide)) rfl (pa_cons (pv 1) (pa_cons (pv 2) (pa_cons (pv 3) (pa_cons (pe_ix ix_tup (pv 4) pe_int (fun _ _ => rfl)) (pa_cons (pe_ix ix_tup (pv 4) pe_int (fun _ _ => rfl)) (pa_cons (pv 7) pa_nil))))))))) (pss_one (ps_ret pe_bl)) pss_nil)
    (pss_cons (ps_set (i := 7) sc__law_priced.nd rfl (Or.inl rfl) (pe_fn d_prices (hr.mono (by decide)) rfl (pa_cons (pv 0) (pa_cons (pe_callTy call_list_of rfl T.list (by decide +kernel) (pa_cons (pv 3) pa_nil)) (pa_cons (pe_ix ix_tup (pv 6) pe_int (fun _ _ => rfl)) (pa_cons (pe_ix ix_tup (pv 6) pe_int (fun _ _ => rfl)) pa_nil))))))
    (pss_cons (ps_if (pt_cmpR op_ne (pe_cmpR op_isN (pv 7) pe_non (nomark _)) (pe_cmpR op_lt (pe_op op_mul (pe_ix ix_tup (pv 6) pe_int (fun _ _ => rfl)) (pe_ix ix_tup (pv 4) pe_int (fun _ _ => rfl))) (pe_op op_mul (pe_ix ix_tup (pv 6) pe_int (fun _ _ => rfl)) (pe_ix ix_tup (pv 4) pe_int (fun _ _ => rfl))) (nomark _)) (nomark _)) (pss_one (ps_ret pe_bl)) pss_nil)
    (pss_cons (ps_if (pt_cmpR op_eq (pe_ix ix_tup (pv 4) pe_int (fun _ _ => rfl)) pe_int (nomark _)) (pss_one (ps_ret pe_bl)) pss_nil)
    (pss_one (ps_ret (pe_cmpR op_isN (pe_fn d_prices (hr.mono (by decide)) rfl (pa_cons (pv 0) (pa_cons (pe_callTy call_list_of rfl T.list (by decide +kernel) (pa_cons (pv 3) pa_nil)) (pa_cons (pe_op op_sub (pe_op op_mul (pe_ix ix_tup (pv 4) pe_int (fun _ _ => rfl)) (pv 5)) pe_int) (pa_cons (pe_op op_mul (pe_ix ix_tup (pv 4) pe_int (fun _ _ => rfl)) (pv 5)) pa_nil))))) pe_non (nomark _)))))))))), ?_⟩
    have GE := fun (x y : Int) (hy : 0 ≤ y) => KM.gain_edge O.tr (fun v hv => by have := (O.lb v hv).1; omega) EO.c (a := x) (b := y) hy
    have ed := KM.edges_at EO.c.ed 0 (by have := EO.c.two; omega)
    rw [EO.c.zero] at ed
    have up : 0 < (KM.cAt E 1).1 := ed.up
    have eb := EO.b.2 _ (cAt_mem (cs := E) (i := 1) (by have := EO.c.two; omega))
    have hd : H d = some (.tup [.int (KM.cAt E 1).1, .int (KM.cAt E 1).2]) := hd
    generalize (KM.cAt E 1).1 = L at *
    generalize (KM.cAt E 1).2 = Wt at *
    have I : ∀ {σ1 : L2.St} {H1 : Hp}, Ex H H1 → σ1[4]? = some (some (.ref d)) → (Ev (tOp (rIxT K) (tVar 4) (tC (.int 0))) σ1 H1 (.int L) ∧ Ev (tOp (rIxT K) (tVar 4) (tC (.int 1))) σ1 H1 (.int Wt)) := fun e h => ⟨ev_op (ev_var h) ev_c (rv_ixT (st_of (e _ _ hd)) rfl), ev_op (ev_var h) ev_c (rv_ixT (st_of (e _ _ hd)) rfl)⟩
    have J : ∀ {σ1 : L2.St} {H1 : Hp}, Ex H H1 → σ1[6]? = some (some (.ref r)) → (Ev (tOp (rIxT K) (tVar 6) (tC (.int 0))) σ1 H1 (.int a) ∧ Ev (tOp (rIxT K) (tVar 6) (tC (.int 1))) σ1 H1 (.int b)) := fun e h => ⟨ev_op (ev_var h) ev_c (rv_ixT (st_of (e _ _ hrp)) rfl), ev_op (ev_var h) ev_c (rv_ixT (st_of (e _ _ hrp)) rfl)⟩
    have g1 : KM.gain par (KM.terms par len wt Wt L) = false := by
      cases q : KM.gain par (KM.terms par len wt Wt L) with
      | false => rfl
      | true =>
        have := (GE Wt L (by omega)).mp q
        rw [Int.mul_comm] at this
        omega
    have tl := KM.terms_length par len wt Wt L
    have n8 := O.n8
    have i0 := I (σ1 := L2.start n__law_priced [.ref m, .ref p, .ref l, .ref v, .ref d, .int times, .ref r]) (Ex.refl H) rfl
    refine q_asgL ((pr_call rfl rfl hT hv O W i0.2 i0.1 (by omega) (by omega)).2 g1) fun told H1 ht0 e1 ht => ?_
    have RO := rule_of (wt := wt) O g1
    have rol : ((KM.terms par len wt Wt L).map KM.pos).length ≤ 8 := by rw [List.length_map, tl]; exact n8
    generalize (KM.terms par len wt Wt L).map KM.pos = ns at *
    refine q_when (b := false) (et_is (et_or (a := false) (b := false) (et_is (et_not (et_B (b := true) (ev_isi (t := "list") (b := true) (ev_var rfl) (fun H2 e2 => .base (.lst (e2 _ _ ht))) (by decide +kernel)))) rfl)
      (fun _ => et_is (et_not (et_B (b := true) (ev_is (ev_allL (el_is (el_lcL (K := K) (fun _ => true) (fun _ => .bl true) (ev_var rfl) (sq_of ht) (by rw [ils_length]; omega) (fun _ => rfl) (fun _ _ _ _ _ => et_yes) (fun i x H2 e2 hi _ => ?_)) (given_bl _ (fun _ => true)))) ?_))) rfl)) rfl) (fun c => by cases c) fun _ H2 e2 => ?_
    · obtain ⟨hi2, rfl, hm⟩ := ils_mem hi
      exact ev_fn (ea_cons (ev_var rfl) ea_nil) (fun H3 e3 Q1 q1 E1 => ⟨_, rfl, q1⟩)
    · congr 1
      rw [List.all_map, List.all_eq_true]
      intro x _
      rfl
    have e12 := e1.trans e2
    have i1 := I (σ1 := [some (.ref m), some (.ref p), some (.ref l), some (.ref v), some (.ref d), some (.int times), some (.ref r), some (.ref told), none]) e12 rfl
    refine q_when (b := false) (et_is (et_not (et_B (b := true) (ev_fn (ea_cons (ev_var rfl) (ea_cons (ev_var rfl) (ea_cons (ev_var rfl) (ea_cons i1.2 (ea_cons i1.1 (ea_cons (ev_var rfl) ea_nil)))))) (fun H3 e3 Q1 q1 E1 => ⟨p, l, v, told, par, len, wt, ns, Wt, L, rfl, (e12.trans e3) _ _ hp, (e12.trans e3) _ _ hl, (e12.trans e3) _ _ hv, (e2.trans e3) _ _ ht, O, W, RO, q1⟩)))) rfl) (fun c => by cases c) fun _ H3 e3 => ?_
    have e13 := e12.trans e3
    have j1 := J (σ1 := [some (.ref m), some (.ref p), some (.ref l), some (.ref v), some (.ref d), some (.int times), some (.ref r), some (.ref told), none]) e13 rfl
    have P2 := pr_call (K := K) (σ := [some (.ref m), some (.ref p), some (.ref l), some (.ref v), some (.ref d), some (.int times), some (.ref r), some (.ref told), none]) rfl rfl (hT.ex e13) (e13 _ _ hv) O W j1.1 j1.2 a0 b0
    have G2 := GE a b (by omega)
    -- the last part, whatever was told
    have fin : ∀ (y : V) (H4 : Hp), Ex H3 H4 → (decide (y = .non) = KM.gain par (KM.terms par len wt a b)) → tSeq (tIfS (tTest (tOp rNe (tOp (fun x y H Q => y = .non ∧ Q (.bl (decide (x = .non))) H) (tVar 7) (tC .non)) (tOp (rI0 fun i j => .bl (decide (i < j))) (tOp (rI CMul fun i j => .int (i * j)) (tOp (rIxT K) (tVar 6) (tC (.int 0))) (tOp (rIxT K) (tVar 4) (tC (.int 0)))) (tOp (rI CMul fun i j => .int (i * j)) (tOp (rIxT K) (tVar 6) (tC (.int 1))) (tOp (rIxT K) (tVar 4) (tC (.int 1))))))) (tRet (tC (.bl false))) tNext)
        (tSeq (tIfS (tTest (tOp rEq (tOp (rIxT K) (tVar 4) (tC (.int 1))) (tC (.int 0)))) (tRet (tC (.bl true))) tNext)
          (tRet (tOp (fun x y H Q => y = .non ∧ Q (.bl (decide (x = .non))) H) (tCall (spPrices K) [] E0 (tCons (tVar 0) (tCons (tCB (rListS K) (tCons (tVar 3) tNil)) (tCons (tOp (rI0 fun i j => .int (i - j)) (tOp (rI CMul fun i j => .int (i * j)) (tOp (rIxT K) (tVar 4) (tC (.int 1))) (tVar 5)) (tC (.int 1))) (tCons (tOp (rI CMul fun i j => .int (i * j)) (tOp (rIxT K) (tVar 4) (tC (.int 0))) (tVar 5)) tNil))))) (tC .non))))
        { nx := fun _ H' => Q .non H', rt := Q } [some (.ref m), some (.ref p), some (.ref l), some (.ref v), some (.ref d), some (.int times), some (.ref r), some y, none] H4 := fun y H4 e4 hy => by
      have e14 := e13.trans e4
      have i2 := fun {H5 : Hp} (e : Ex H4 H5) => I (σ1 := [some (.ref m), some (.ref p), some (.ref l), some (.ref v), some (.ref d), some (.int times), some (.ref r), some y, none]) (e14.trans e) rfl
      have j2 := J (σ1 := [some (.ref m), some (.ref p), some (.ref l), some (.ref v), some (.ref d), some (.int times), some (.ref r), some y, none]) e14 rfl
      refine q_when (b := false) (et_is (et_test (ev_op (ev_op (ev_var rfl) ev_c rv_isN) (ev_op (ev_op j2.1 (i2 (Ex.refl H4)).1 (rv_I (.inl ⟨by omega, by omega⟩))) (ev_op j2.2 (i2 (Ex.refl H4)).2 (rv_I (.inl ⟨by omega, by omega⟩))) rv_I0) (rv_ne rfl))) ?_) (fun c => by cases c) fun _ H5 e5 => ?_
      · rw [hy]
        cases hg : KM.gain par (KM.terms par len wt a b) with
        | true =>
          rw [decide_eq_true (G2.mp hg)]
          simp
        | false =>
          have : ¬ a * L < b * Wt := fun c => by
            rw [G2.mpr c] at hg
            cases hg
          rw [decide_eq_false this]
          simp
      · refine q_when (et_eqI (i2 e5).2 ev_c) (fun _ H6 e6 => s_ret ev_c fun H7 e7 => k H7 (e14.trans (e5.trans (e6.trans e7)))) (fun c H6 e6 => ?_)
        have c := of_decide_eq_false c
        have W1 : 1 ≤ Wt := by omega
        have wt1 : times ≤ Wt * times := by
          have := Int.mul_le_mul_of_nonneg_right W1 (by omega : 0 ≤ times)
          omega
        have lt1 : times ≤ L * times := by
          have := Int.mul_le_mul_of_nonneg_right (show 1 ≤ L by omega) (by omega : 0 ≤ times)
          omega
        have e16 := e14.trans (e5.trans e6)
        have g3 : KM.gain par (KM.terms par len wt (Wt * times - 1) (L * times)) = true := by
          refine (GE _ _ (by omega)).mpr ?_
          rw [Int.sub_mul, Int.one_mul]
          have : Wt * times * L = L * times * Wt := by
            rw [Int.mul_comm Wt times, Int.mul_assoc, Int.mul_comm Wt L, ← Int.mul_assoc, Int.mul_comm times L]
          omega
        refine s_ret (ev_is (ev_op ((pr_call rfl rfl (hT.ex e16) (e16 _ _ hv) O W (ev_op (ev_op (i2 (e5.trans e6)).2 (ev_var rfl) (rv_I (.inl ⟨by omega, by omega⟩))) ev_c rv_I0) (ev_op (i2 (e5.trans e6)).1 (ev_var rfl) (rv_I (.inl ⟨by omega, by omega⟩))) (by omega) (by omega)).1 g3) ev_c rv_isN) rfl) fun H7 e7 => k H7 (e16.trans e7)
    cases hg : KM.gain par (KM.terms par len wt a b) with
    | true => exact q_asg (P2.1 hg) fun H4 e4 => fin .non H4 e4 (by rw [hg]; rfl)
    | false => exact q_asgL (P2.2 hg) fun t4 H4 _ e4 _ => fin (.ref t4) H4 e4 (by rw [hg]; rfl)
end
end K61
/-! _law_refused -/
namespace K61
open PySem PySem.Spec PyProof.Rows L2 Evl L2H
open KM (nth tot walls)
theorem roomS {k : Nat} {A : Around} {h : Option Value} (r : Room k A) : RoomH k (A.mark h) := ⟨r.dp, r.un⟩
theorem room_uS {k : Nat} {A : Around} {h : Option Value} (hr : Room k A) : (A.mark h).units + 64 < cLine := by
  have := hr.un
  show A.units + 64 < cLine
  omega
theorem hotS {X : Cx} {a : Addr} {cls : Value} {oe : Obj} {d : Option Addr} {pn : List (Addr × Obj)} (hz : L2N.Zn cls d oe) (hf : ∃ vs, oe.data = .fields vs) : HotC (X.suite a ((a, oe) :: pn)) := by
  obtain ⟨vs, hd⟩ := hf
  exact ⟨(a, oe), ⟨rfl, vs, hd, hz.2.2 vs hd⟩, List.mem_cons_self⟩
/-- isinstance(e, c) of the error that the suite holds, whatever its class -/
def rIsY (K : PySem.W.Frag) (cls : Value) (a : Addr) (d : Option Addr) : List V → Hp → VK → Prop := fun xs H Q => ∃ D : Addr, cls = .ref D ∧ ExcC K D ∧ rIsX K D a d xs H Q
theorem call_isY {X : Cx} {a : Addr} {cls : Value} {oe : Obj} {d : Option Addr} {pn : List (Addr × Obj)} (hz : Zc cls d oe) (hf : ∃ vs, oe.data = .fields vs) : CallR (X.suite a ((a, oe) :: pn)) (.builtin "isinstance") (rIsY X.K cls a d) := by
  intro pins s σ H xs us Q I r h
  obtain ⟨D, rfl, C, h⟩ := h
  exact call_isX C hz hf pins s σ H xs us Q I r h
theorem cr_sumHK {X : Cx} {K : PySem.W.Frag} (h : X.K = K) (hc : HotC X) : CallR X (.builtin "sum") (rSum K) := h ▸ cr_sumH hc
theorem op_neDK {X : Cx} {K : PySem.W.Frag} (h : X.K = K) (hu : X.A.units + 64 < cLine) : OpR X (compareOp .NotEq) (rNeD K) := h ▸ op_neD hu
theorem call_isYK {X : Cx} {K : PySem.W.Frag} {a : Addr} {cls : Value} {oe : Obj} {d : Option Addr} {pn : List (Addr × Obj)} (h : X.K = K) (hz : Zc cls d oe) (hf : ∃ vs, oe.data = .fields vs) : CallR (X.suite a ((a, oe) :: pn)) (.builtin "isinstance") (rIsY K cls a d) := h ▸ call_isY hz hf
theorem q_try {ts : L2.TS} {D : Ends} {σ : L2.St} {H : Hp} {tz : L2.TS} (h : ts { D with nx := tz D } σ H) : tSeq ts tz D σ H := h
section
variable {P : Program} {w : World} {K : PySem.W.Frag} {mg : Str → Option Value} {base : Heap} {f : Addr} {fd : FuncData} {CF CW CC : Addr}
theorem s_callS {sp : Sp} {vs : List V} {t : TA} {W : WX} {D : Ends} {σ : L2.St} {H : Hp} (h : EvA t σ H vs) (k : ∀ H1, Ex H H1 → sp vs H1 (fun _ H2 => D.nx σ H2) (WE W σ)) : tDrop (tCallS sp (WE W) t) D σ H := h H (Ex.refl H) _ k
theorem ev_isY {σ : L2.St} {H : Hp} {a D c dd : Addr} {fs : List (Str × V)} {b : Bool} (hv : σ[6]? = some (some (.ref a))) (C : ExcC K D) (k : PySem.W.kitOne K (.ref D) (.ref c) = some b) (hd : H dd = some (.xd fs)) : Ev (tCB (rIsY K (.ref D) a (some dd)) (tCons (tVar 6) (tCons (tC (.ref c)) tNil))) σ H (.bl b) := fun H1 e Q q =>
  ⟨_, hv, D, rfl, C, .ref c, .ref c, b, dd, fs, rfl, fun u h => h, k, rfl, e _ _ hd, q H1 (Ex.refl H1)⟩
theorem ev_xf {σ : L2.St} {H : Hp} {a C dd : Addr} {fs : List (Str × V)} {f : Str} {v : V} (hv : σ[6]? = some (some (.ref a))) (hd : H dd = some (.xd fs)) (hl : fs.lookup f = some v) : Ev (tXf a (.ref C) (some dd) C f (tVar 6)) σ H v := fun H1 e Q q =>
  ⟨_, hv, rfl, rfl, dd, fs, v, rfl, e _ _ hd, hl, q H1 (Ex.refl H1)⟩
/-- the facts of the two errors -/
structure ETxt (K : PySem.W.Frag) (mg : Str → Option Value) (CF CW CC : Addr) : Prop where
  gF : mg "FindsError" = some (.ref CF)
  gW : mg "BadWeight" = some (.ref CW)
  gC : mg "BadCount" = some (.ref CC)
  xW : ExcC K CW
  xC : ExcC K CC
  fW : XfC K CW
  fC : XfC K CC
  nW : PySem.W.findIn K (.ref CW) "place" = some none
  nC : PySem.W.findIn K (.ref CC) "number" = some none
  mW : PySem.W.exmOne K (.ref CW) (.ref CF) = some true
  mC : PySem.W.exmOne K (.ref CC) (.ref CF) = some true
  kWW : PySem.W.kitOne K (.ref CW) (.ref CW) = some true
  kWC : PySem.W.kitOne K (.ref CW) (.ref CC) = some false
  kCW : PySem.W.kitOne K (.ref CC) (.ref CW) = some false
  kCC : PySem.W.kitOne K (.ref CC) (.ref CC) = some true
abbrev s__law_refused : Stmt := top 49
abbrev n__law_refused : List Str := ["_law_made", "_law_weights", "_law_length", "_law_lengths", "_law_place", "_law_passed", "e"]
theorem sc__law_refused : FnScope n__law_refused ["_law_made", "_law_weights", "_law_length", "_law_lengths"] (defScope s__law_refused) := ⟨rfl, rfl, rfl, by decide +kernel, rfl, by decide +kernel, by decide +kernel⟩
theorem b__law_refused : BindsOk "_law_refused" "_law_refused" s__law_refused ["_law_made", "_law_weights", "_law_length", "_law_lengths"] := fun _ _ _ _ _ _ us hl => match us, hl with | [_, _, _, _], _ => rfl
def spRefused : Sp := fun vs H Q _ => ∃ (m v l : Addr) (par len ns : List Int) (x : Int), vs = [.ref m, .ref v, .int x, .ref l] ∧ TunAt K H m par len ∧ H v = some (.lst (ils ns)) ∧ H l = some (.lst (ils len)) ∧ Ok par len ∧ ns.length ≤ 1000 ∧ (∀ y ∈ ns, y ≤ 999) ∧ RetV (.bl true) H Q
theorem ok__law_refused (T : Txt K mg) (ET : ETxt K mg CF CW CC) (d_height : Dfn P w K mg base 8 "height" ["tunnels", "weights", "length"] (spHeight K CW CC)) (d__law_wrong : Dfn P w K mg base 1 "_law_wrong" ["_law_values", "_law_least", "_law_many"] (spWrong K)) (dH__law_same : DfnH P w K mg base 2 "_law_same" ["_law_told", "_law_due"] (spSame K))
    (F : FnP K "_law_refused" "_law_refused" s__law_refused f fd) (g : mg "_law_refused" = some (.ref f)) : Dfn P w K mg base 9 "_law_refused" ["_law_made", "_law_weights", "_law_length", "_law_lengths"] (spRefused (K := K)) := by
  refine dfn_of F g sc__law_refused b__law_refused (fun vs H Q E h => ?_) (fun cdv A outer s H vs Q E hr h => ?_)
  · obtain ⟨_, _, _, _, _, _, _, rfl, _⟩ := h
    rfl
  · obtain ⟨m, v, l, par, len, ns, x, rfl, hT, hv, hl, O, nl, nb, k⟩ := h
    refine ⟨_, pss_cons (ps_set (i := 4) sc__law_refused.nd rfl (Or.inl rfl) (pe_fn d__law_wrong (hr.mono (by decide)) rfl (pa_cons (pv 1) (pa_cons pe_int (pa_cons (pe_callB call_len_seq rfl T.len PySem.boot_len (pa_cons (pv 3) pa_nil)) pa_nil))))) (pss_cons (ps_set (i := 5) sc__law_refused.nd rfl (Or.inl rfl) (pe_callTy call_list_of rfl T.list (by decide +kernel) (pa_cons (pv 1) pa_nil))) (pss_cons (L2N.ps_try_as (i := 6) (c := .ref CF) rfl rfl sc__law_refused.nd rfl rfl ⟨rfl, by decide, .inl ET.gF⟩ (L2N.takes_of rfl rfl rfl rfl)
      (fun W pn xe tk _ => pss_one (ps_expr (pe_fnS tk d_height (hr.mono (by decide)) rfl (pa_cons (pv 0) (pa_cons (pv 5) (pa_cons (pv 2) pa_nil))))))
      (fun a oe cls d pn hz hf => (pss_cons (ps_if (pt_cmpR (op_neDK (K := K) rfl (room_uS hr)) (pv 5) (pv 1) (nomark _)) (pss_one (ps_ret pe_bl)) pss_nil)
    (pss_cons (ps_if (pt_cmpR op_notN (pv 4) pe_non (nomark _)) (pss_one (ps_ret (pe_and (pe_callB (call_isYK (K := K) rfl hz.zc hf) rfl T.isi (by decide +kernel) (pa_cons (pv 6) (pa_cons (pe_glob (v := .ref CW) rfl ET.gW rfl) pa_nil))) (pe_and (pe_not (pe_callB (call_isYK (K := K) rfl hz.zc hf) rfl T.isi (by decide +kernel) (pa_cons (pv 6) (pa_cons (pe_glob (v := .ref CC) rfl ET.gC rfl) pa_nil)))) (pe_one (pe_fnH dH__law_same (roomS (k := 2) (hr.mono (by decide))) (hotS hz hf) rfl (pa_cons (pe_lst (pa_cons (pe_xf ET.fW ET.nW hz.zc hf (pv 6)) pa_nil)) (pa_cons (pe_lst (pa_cons (pv 4) pa_nil)) pa_nil)))))))) pss_nil)
    (pss_cons (ps_if (PW.pt (pw_or (pt_not (pt_val (pe_callB (call_isYK (K := K) rfl hz.zc hf) rfl T.isi (by decide +kernel) (pa_cons (pv 6) (pa_cons (pe_glob (v := .ref CC) rfl ET.gC rfl) pa_nil))))) (pw_or (pt_val (pe_callB (call_isYK (K := K) rfl hz.zc hf) rfl T.isi (by decide +kernel) (pa_cons (pv 6) (pa_cons (pe_glob (v := .ref CW) rfl ET.gW rfl) pa_nil)))) (pw_or1 (pt_not (pt_val (pe_fnH dH__law_same (roomS (k := 2) (hr.mono (by decide))) (hotS hz hf) rfl (pa_cons (pe_lst (pa_cons (pe_xf ET.fC ET.nC hz.zc hf (pv 6)) pa_nil)) (pa_cons (pe_lst (pa_cons (pv 2) pa_nil)) pa_nil))))))))) (pss_one (ps_ret pe_bl)) pss_nil)
    (pss_one (ps_ret (pe_or (pe_cmpR op_lt (pv 2) pe_int (nomark _)) (pe_one (pe_cmpR op_gt (pv 2) (pe_callB (cr_sumHK (K := K) rfl (hotS hz hf)) rfl T.sum (by decide +kernel) (pa_cons (pv 3) pa_nil)) (nomark _))))))))))) (pss_one (ps_ret (pe_and (pe_cmpR op_isN (pv 4) pe_non (nomark _)) (pe_and (pe_cmpR op_ge (pv 2) pe_int (nomark _)) (pe_one (pe_cmpR op_le (pv 2) (pe_callB (cr_sum rfl) rfl T.sum (by decide +kernel) (pa_cons (pv 3) pa_nil)) (nomark _))))))))), ?_⟩
    have n8 := O.n8
    have ll := O.ll
    refine q_asg (v := valO (wrong ns 0 par.length)) (ev_fn (ea_cons (ev_var rfl) (ea_cons ev_c (ea_cons (ev_is (ev_lenS (ev_var rfl) (.inl (sq_of hl))) (by rw [ils_length, ll])) ea_nil))) (fun H1 e Q1 q1 E1 => ⟨v, ns, 0, par.length, rfl, .inl (sq_of (e _ _ hv)), nl, q1⟩)) fun H1 e1 => ?_
    refine q_asgL (el_list (ev_var rfl) (sq_of (e1 _ _ hv))) fun ps H2 hps0 e2 hps => ?_
    have e12 := e1.trans e2
    refine q_try ?_
    refine s_callS (ea_cons (ev_var rfl) (ea_cons (ev_var rfl) (ea_cons (ev_var rfl) ea_nil))) fun H3 e3 => ⟨m, ps, par, len, ns, x, rfl, ⟨hT.ex (e12.trans e3), .inl (sq_of (e3 _ _ hps)), O, nl, nb⟩, fun i hw d H4 hd e4 hxd => ⟨true, ET.mW, fun _ a ha => ?_, fun c => (by cases c)⟩, fun hw => ⟨fun hx d H4 hd e4 hxd => ⟨true, ET.mC, fun _ a ha => ?_, fun c => (by cases c)⟩, fun x0 x1 Bs hS i hL p' q' hlow t H4 ht e4 h4 => ?_⟩⟩
    · have e34 := e3.trans e4
      have e14 := e12.trans e34
      refine q_when (b := false) (et_test (ev_op (ev_var rfl) (ev_var rfl) (rv_neS (sq_of (e34 _ _ hps)) (sq_of (e14 _ _ hv))))) (fun c => by cases c) fun _ H5 e5 => ?_
      refine q_when (b := true) (et_is (et_test (ev_op (ev_var rfl) ev_c rv_notN)) (by rw [hw]; rfl)) (fun _ H6 e6 => ?_) (fun c => by cases c)
      have hx6 := (e5.trans e6) _ _ hxd
      have hpl : valO (wrong ns 0 par.length) = .int i := by rw [hw]; rfl
      refine s_ret (ev_is (ev_andV (a := true) (ev_isY rfl ET.xW ET.kWW hx6) (fun _ => ev_andV (a := true) (ev_is (ev_notV (ev_isY rfl ET.xW ET.kWC hx6)) rfl) (fun _ => ev_same (ns := [i]) (el_lst (ea_cons (ev_xf rfl hx6 (by simp [List.lookup])) ea_nil) (by show 1 ≤ 100000; decide)) (fun H7 e7 => el_lst (ea_cons (ev_is (ev_var rfl) hpl) ea_nil) (by show 1 ≤ 100000; decide)) (by show 1 ≤ 1000; decide)))) rfl) fun H7 e7 => k H7 (e14.trans (e5.trans (e6.trans e7)))
    · have e34 := e3.trans e4
      have e14 := e12.trans e34
      have hpl : valO (wrong ns 0 par.length) = .non := by rw [hw]; rfl
      refine q_when (b := false) (et_test (ev_op (ev_var rfl) (ev_var rfl) (rv_neS (sq_of (e34 _ _ hps)) (sq_of (e14 _ _ hv))))) (fun c => by cases c) fun _ H5 e5 => ?_
      refine q_when (b := false) (et_is (et_test (ev_op (ev_var rfl) ev_c rv_notN)) (by rw [hpl]; rfl)) (fun c => by cases c) (fun _ H6 e6 => ?_)
      have hx6 := (e5.trans e6) _ _ hxd
      refine q_when (b := false) (et_is (et_or (a := false) (b := false) (et_is (et_not (et_B (b := true) (ev_isY rfl ET.xC ET.kCC hx6))) rfl) (fun _ => et_is (et_or (a := false) (b := false) (et_B (ev_isY rfl ET.xC ET.kCW hx6)) (fun _ => et_is (et_not (et_B (b := true) (ev_same (ns := [x]) (el_lst (ea_cons (ev_xf rfl hx6 (by simp [List.lookup])) ea_nil) (by show 1 ≤ 100000; decide)) (fun H7 e7 => el_lst (ea_cons (ev_var rfl) ea_nil) (by show 1 ≤ 100000; decide)) (by show 1 ≤ 1000; decide)))) rfl)) rfl)) rfl) (fun c => by cases c) fun _ H7 e7 => ?_
      have e17 := e14.trans (e5.trans (e6.trans e7))
      refine s_ret (ev_is (ev_orV (a := decide (x < 0)) (b := decide (len.sum < x)) (ev_op (ev_var rfl) ev_c rv_I0) (fun _ => ev_gt (ev_var rfl) (ev_sumS (ev_var rfl) (sq_of (e17 _ _ hl))))) ?_) fun H8 e8 => k H8 (e17.trans e8)
      rcases hx with h | h
      · rw [decide_eq_true h]
        rfl
      · rw [decide_eq_true h, Bool.or_true]
    · have hpl : valO (wrong ns 0 par.length) = .non := by rw [hw]; rfl
      have e14 := e12.trans (e3.trans e4)
      refine s_ret (ev_is (ev_andV (a := true) (ev_is (ev_op (ev_var rfl) ev_c rv_isN) (by rw [hpl]; rfl)) (fun _ => ev_andV (a := true) (ev_is (ev_op (ev_var rfl) ev_c rv_I0) (by rw [decide_eq_true x0])) (fun _ => ev_is (ev_op (ev_var rfl) (ev_sumS (ev_var rfl) (sq_of (e14 _ _ hl))) rv_I0) (by rw [decide_eq_true x1])))) rfl) fun H8 e8 => k H8 (e14.trans e8)
end
end K61
/-! what the law's own body needs -/
namespace K61
open PySem PySem.Spec PyProof.Rows L2 Evl
open KM (nth tot walls)
/-! ### plain -/
theorem ts_ok {par len wt : List Int} (O : Ok par len) (W : WOk par wt) : TsOk par len wt (KM.closedUp par len wt par.length) := by
  refine ⟨KM.closed_All O.tr, fun c hc => ?_, ?_⟩
  · have q := KM.closed_is par.length (Nat.le_refl _) c hc
    have hl := KM.cl_length q.cl
    have n8 := O.n8
    have b1 := tot_bound (vs := len) (m := 999) (fun v hv => ⟨by have := (O.lb v hv).1; omega, (O.lb v hv).2⟩) (by decide) (ws := c.2.2) (by omega)
    have b2 := tot_bound (vs := wt) (m := 999) W.wb (by decide) (ws := c.2.2) (by omega)
    unfold CBd
    rw [q.l, q.w]
    omega
  · have h1 := KM.closed_length par len wt par.length
    have h2 := two_pow_le O.n8
    omega
theorem e_bd {ts : List KM.CS} {n : Nat} (h : ∀ c ∈ ts, CBd c) (hn : n ≤ 8) : EBd (KM.endsUp ts n) := by
  refine ⟨by have := ends_len ts n; omega, fun c hc => ?_⟩
  rcases ends_mem n c hc with rfl | ⟨o, ho, rfl⟩
  · decide
  · exact h o ho
theorem e_ok {par len wt : List Int} (O : Ok par len) (W : WOk par wt) {Bs : List (List Int)} (h : KM.Stairs par len wt (walls par.length) Bs) : EOk par len wt (KM.endsUp (KM.closedUp par len wt par.length) par.length) := by
  have hl := fun v hv => (O.lb v hv).1
  have hw := fun v hv => (W.wb v hv).1
  have he : ∀ Bs, KM.Stairs par len wt (walls par.length) Bs → KM.endsUp (KM.closedUp par len wt par.length) par.length = KM.cornersFrom len wt [] Bs := fun Bs h => (KM.ends_corners O.tr hl hw O.ll h).1
  refine ⟨?_, he, e_bd (ts_ok O W).b O.n8⟩
  rw [he Bs h]
  exact KM.corners_of O.tr hl hw O.ll h
theorem asked_ok {par len wt : List Int} {E : List (Int × Int)} (O : Ok par len) (EO : EOk par len wt E) {x : Int} (h : (0 ≤ x ∧ x ≤ (KM.cAt E (E.length - 1)).1) ∨ ∃ j, j < E.length ∧ x = (KM.cAt E j).1) : 0 ≤ x ∧ x ≤ len.sum := by
  have hlast := (KM.edges_last EO.c.ed).1
  rw [← O.ll, KM.tot_walls] at hlast
  rcases h with h | ⟨j, hj, rfl⟩
  · omega
  · have h1 := KM.edges_le EO.c.ed hj
    rw [← O.ll, KM.tot_walls] at h1
    exact ⟨(EO.b.2 _ (cAt_mem hj)).1, h1⟩
theorem wok_rev {par wt : List Int} (W : WOk par wt) : WOk par wt.reverse := ⟨by rw [List.length_reverse]; exact W.wl, fun v hv => W.wb v (List.mem_reverse.mp hv)⟩
/-! ### what is known of the heap while the tape is read -/
structure KN (t a : Addr) (S : List (Addr × HO)) (H : Hp) : Prop where
  T : TapeAt H t a
  k : ∀ x ∈ S, x.1 ≠ t ∧ H x.1 = some x.2
section
variable {t a q l : Addr} {S : List (Addr × HO)} {H H' : Hp} {o : HO}
theorem KN.xt (x : XT t a H H') (h : KN t a S H) : KN t a S H' := ⟨x.2, fun y hy => ⟨(h.k y hy).1, x.at (h.k y hy).1 (h.k y hy).2⟩⟩
theorem KN.ex (e : Ex H H') (h : KN t a S H) : KN t a S H' := ⟨h.T.ex e, fun y hy => ⟨(h.k y hy).1, e _ _ (h.k y hy).2⟩⟩
theorem KN.add (h : KN t a S H) (hq : q ≠ t) (ho : H q = some o) : KN t a ((q, o) :: S) H := ⟨h.T, fun y hy => by
  rcases List.mem_cons.mp hy with rfl | hy
  · exact ⟨hq, ho⟩
  · exact h.k y hy⟩
theorem KN.at (h : KN t a S H) (i : Nat) (e : S[i]? = some (q, o)) : H q = some o := (h.k _ (List.mem_of_getElem? e)).2
theorem KN.ne (h : KN t a S H) (i : Nat) (e : S[i]? = some (q, o)) : q ≠ t := (h.k _ (List.mem_of_getElem? e)).1
theorem KN.off (h : KN t a S H) (hl : H l = none) : ∀ x ∈ S, x.1 ≠ l := fun x hx c => by
  have := (h.k x hx).2
  rw [c, hl] at this
  cases this
theorem KN.upd (h : KN t a S H) (n : ∀ x ∈ S, x.1 ≠ l) (n1 : l ≠ t) (n2 : l ≠ a) : KN t a S (L2.upd H l o) := ⟨h.T.upd n1 n2, fun y hy => ⟨(h.k y hy).1, by rw [upd_ne (n y hy)]; exact (h.k y hy).2⟩⟩
/-- all but two lists stay -/
def Ex2 (t l : Addr) (H H' : Hp) : Prop := ∀ y o, y ≠ t → y ≠ l → H y = some o → H' y = some o
structure FoundAt (t l : Addr) (par len : List Int) (H : Hp) (f : Addr) (wt : List Int) : Prop where
  ex : ∃ (s e q : Addr) (rs re : List V) (ns : List Int), f ≠ t ∧ f ≠ l ∧ s ≠ t ∧ s ≠ l ∧ e ≠ t ∧ e ≠ l ∧ q ≠ t ∧ q ≠ l ∧ H f = some (.lst [.ref s, .ref e, .ref q]) ∧ H s = some (.lst rs) ∧ Refs (CnAt H) rs (KM.closedUp par len wt par.length) ∧
    H e = some (.lst re) ∧ Refs (PairAt H) re (KM.endsUp (KM.closedUp par len wt par.length) par.length) ∧ H q = some (.lst (ils ns)) ∧ ns.length ≤ 1000 ∧
    (∀ x ∈ ns, (0 ≤ x ∧ x ≤ (KM.cAt (KM.endsUp (KM.closedUp par len wt par.length) par.length) ((KM.endsUp (KM.closedUp par len wt par.length) par.length).length - 1)).1) ∨ ∃ j, j < (KM.endsUp (KM.closedUp par len wt par.length) par.length).length ∧ x = (KM.cAt (KM.endsUp (KM.closedUp par len wt par.length) par.length) j).1)
theorem FoundAt.mono {par len wt : List Int} {f : Addr} (e : Ex2 t l H H') (ht : ∃ xs, H t = some (.lst xs)) (hl : ∃ xs, H l = some (.lst xs)) (h : FoundAt t l par len H f wt) : FoundAt t l par len H' f wt := by
  obtain ⟨s, e0, q, rs, re, ns, n1, n2, n3, n4, n5, n6, n7, n8, h1, h2, h3, h4, h5, h6, h7⟩ := h.ex
  obtain ⟨xs, ht⟩ := ht
  obtain ⟨ys, hl⟩ := hl
  have tup : ∀ {p : Addr} {zs : List V}, H p = some (.tup zs) → H' p = some (.tup zs) := fun {p zs} hp => e _ _ (fun c => by
    subst c
    rw [ht] at hp
    cases hp) (fun c => by
    subst c
    rw [hl] at hp
    cases hp) hp
  exact ⟨s, e0, q, rs, re, ns, n1, n2, n3, n4, n5, n6, n7, n8, e _ _ n1 n2 h1, e _ _ n3 n4 h2, h3.mono fun q c _ ⟨m, hm⟩ => ⟨m, tup hm⟩, e _ _ n5 n6 h4, h5.mono fun q c _ h => tup h, e _ _ n7 n8 h6, h7⟩
end
section
variable {K : PySem.W.Frag} {H H' : Hp} {σ : L2.St} {ta tb te tv tc : TE} {tt : TT} {D : Ends} {tu tw tz : TS} {t a : Addr} {P A B : Int → Prop}
theorem q_asgPairI {j : Nat} (hT : TapeAt H t a) (h1 : EvI t a ta σ H A) (h2 : EvI t a tb σ H B) (k : ∀ x y q H1, A x → B y → XT t a H H1 → H q = none → H1 q = some (.tup [.int x, .int y]) → tz D (σ.set j (some (.ref q))) H1) : tSeq (tAsg (tTup (tCons ta (tCons tb tNil))) (gName j)) tz D σ H :=
  h1 H (XT.refl hT) _ fun x H1 hx x1 => h2 H1 x1 _ fun y H2 hy x2 => ⟨by show 2 ≤ sizeLine; decide, fun q hq => k x y q _ hx hy ((x1.trans x2).ex (Ex.new hq)) ((x1.trans x2).back hT hq) upd_same⟩
/-- [list(xs), tuple(xs)][i] -/
theorem e_either {wt : List Int} {i : Nat} {ti : TE} (hi : i < 2) {r : Addr} (h1 : ∀ H1, Ex H H1 → Ev ta σ H1 (.ref r)) (h2 : ∀ H1, Ex H H1 → Ev tb σ H1 (.ref r)) (hr : H r = some (.lst (ils wt))) (hti : ∀ H1, Ex H H1 → Ev ti σ H1 (.int (i : Int))) : ∀ H1, Ex H H1 → ∀ Q : VK, (∀ x H2, H1 x = none → Ex H1 H2 → Sq K H2 x (ils wt) → Q (.ref x) H2) →
    tOp (rIxL K) (tLst (tCons (tCB (rListS K) (tCons ta tNil)) (tCons (tCB (fun xs H Q => ∃ p ys, xs = [.ref p] ∧ ((SqL K H p ys ∧ ∀ l, H l = none → Q (.ref l) (upd H l (.tup ys))) ∨ (SqT K H p ys ∧ Q (.ref p) H))) (tCons tb tNil)) tNil))) ti σ H1 Q := fun H1 e1 Q q =>
  el_list (h1 H1 e1) (sq_of (e1 _ _ hr)) H1 (Ex.refl H1) _ fun x1 H2 hx10 e2 hx1 => eu_tupL (h2 H2 (e1.trans e2)) (sq_of ((e1.trans e2) _ _ hr)) H2 (Ex.refl H2) _ fun x2 H3 hx20 e3 hx2 => ⟨by show 2 ≤ sizeLine; decide, fun p hp => by
    have e4 := Ex.new (o := .lst [.ref x1, .ref x2]) hp
    refine hti _ (e1.trans (e2.trans (e3.trans e4))) _ (Ex.refl _) _ fun H5 e5 => ?_
    have e35 := e4.trans e5
    match i, hi with
    | 0, _ => exact ⟨p, _, 0, .ref x1, rfl, rfl, sq_of (e5 _ _ upd_same), rfl, q x1 H5 hx10 (e2.trans (e3.trans e35)) (.inl (sq_of ((e3.trans e35) _ _ hx1)))⟩
    | 1, _ => exact ⟨p, _, 1, .ref x2, rfl, rfl, sq_of (e5 _ _ upd_same), rfl, q x2 H5 (fresh_back e2 hx20) (e2.trans (e3.trans e35)) (.inr (st_of (e35 _ _ hx2)))⟩⟩
theorem q_cornered {par len wt : List Int} {re : List V} {E : List (Int × Int)} {m v e : Addr} {args : TA} (h : EvA args σ H [.ref m, .ref v, .ref e]) (hm : TunAt K H m par len) (hv : H v = some (.lst (ils wt))) (he : H e = some (.lst re)) (hE : Refs (PairAt H) re E) (O : Ok par len) (W : WOk par wt) (E1 : 1 ≤ E.length) (E2 : E.length ≤ 100)
    (hEq : ∀ Bs, KM.Stairs par len wt (walls par.length) Bs → E = KM.cornersFrom len wt [] Bs) (k : ∀ Bs, KM.Stairs par len wt (walls par.length) Bs → ∀ H1, Ex H H1 → tz D σ H1) :
    tSeq (tIfS (tNot (tB (tCall (spCornered K) [] E0 args))) tu tNext) tz D σ H := h H (Ex.refl H) _ fun H1 e1 => by
  rw [List.append_nil]
  refine ⟨m, v, e, par, len, wt, re, E, rfl, hm.ex e1, e1 _ _ hv, e1 _ _ he, hE.mono fun q c _ h => h.ex e1, O, W, E1, E2, hEq, fun Bs hS H2 e2 => ⟨true, rfl, ?_⟩⟩
  exact k Bs hS H2 (e1.trans e2)
end
end K61
/-! the law -/
namespace K61
open PySem PySem.Spec PyProof.Rows L2 Evl
open KM (nth tot walls)
theorem TapeAt.lst {H : Hp} {t a : Addr} (h : TapeAt H t a) : ∃ xs, H t = some (.lst xs) := by
  obtain ⟨c, c1, c2, c3, c4, h⟩ := h
  exact ⟨_, h.h⟩
theorem TapeAt.neT {H : Hp} {t a q : Addr} {xs : List V} (h : TapeAt H t a) (hq : H q = some (.tup xs)) : q ≠ t := fun c => by
  obtain ⟨ys, h⟩ := h.lst
  subst c
  rw [h] at hq
  cases hq
theorem TapeAt.neI {H : Hp} {t a q C dx : Addr} {fs : List (Str × V)} (h : TapeAt H t a) (hq : H q = some (.ins C dx fs)) : q ≠ t := fun c => by
  obtain ⟨ys, h⟩ := h.lst
  subst c
  rw [h] at hq
  cases hq
theorem q_dug {K : PySem.W.Frag} {H : Hp} {σ : L2.St} {tz : L2.TS} {D : Ends} {t a : Addr} (h1 : σ[1]? = some (some (.ref t))) (hT : TapeAt H t a) (k : ∀ par len wt rp rl rw H', Ok par len → WOk par wt → XT t a H H' → H rp = none → H rl = none → H rw = none →
    H' rp = some (.lst (ils par)) → H' rl = some (.lst (ils len)) → H' rw = some (.lst (ils wt)) → tz D (((σ.set 2 (some (.ref rp))).set 3 (some (.ref rl))).set 4 (some (.ref rw))) H') :
    tSeq (tAsg (tCall spDug [] E0 (tCons (tVar 1) tNil)) (gTup K 3 (gCons (gName 2) (gCons (gName 3) (gCons (gName 4) gNil))))) tz D σ H :=
  ⟨_, h1, t, a, rfl, hT, fun par len wt rp rl rw x H2 O W x2 rp0 rl0 rw0 x0 hx hp hl hw => ⟨x, _, rfl, st_of hx, rfl, .ref rp, _, rfl, .ref rl, _, rfl, .ref rw, _, rfl, rfl, k par len wt rp rl rw H2 O W x2 rp0 rl0 rw0 hp hl hw⟩⟩
theorem ils_of {ys : List V} {ns : List Int} (h : ∀ v ∈ ys, v ∈ ils ns) : ∃ ms : List Int, ys = ils ms ∧ ∀ x ∈ ms, x ∈ ns := by
  induction ys with
  | nil => exact ⟨[], rfl, fun x hx => by simp at hx⟩
  | cons v ys ih =>
    obtain ⟨ms, rfl, h2⟩ := ih fun w hw => h w (List.mem_cons_of_mem _ hw)
    obtain ⟨n, hn, rfl⟩ := List.mem_map.mp (h v List.mem_cons_self)
    refine ⟨n :: ms, rfl, fun x hx => ?_⟩
    rcases List.mem_cons.mp hx with rfl | hx
    · exact hn
    · exact h2 x hx
section
variable {P : Program} {w : World} {K : PySem.W.Frag} {mg : Str → Option Value} {base : Heap} {f : Addr} {fd : FuncData} {CW CC : Addr}
abbrev s_law : Stmt := top 50
abbrev n_law : List Str := ["_law_script", "_law_tape_here", "_law_parents_here", "_law_lengths", "_law_weights", "_law_heavy", "_law_spoilt_here", "_law_far", "_law_times", "_law_pair", "_law_whole", "_law_made", "_law_found", "_law_one", "_law_sets", "_law_ends_here", "_law_turn", "_law_at", "_law_passed", "_law_length"]
theorem sc_law : FnScope n_law ["_law_script"] (defScope s_law) := ⟨rfl, rfl, rfl, by decide +kernel, rfl, by decide +kernel, by decide +kernel⟩
theorem b_law : BindsOk "law" "law" s_law ["_law_script"] := fun _ _ _ _ _ _ us hl => match us, hl with | [_], _ => rfl
def spLaw (K : PySem.W.Frag) : Sp := fun vs H Q _ => ∃ (s : Addr) (ns : List Int), vs = [.ref s] ∧ SqL K H s (ils ns) ∧ ns.length ≤ 63 ∧ ∀ H', Q (.bl true) H'
theorem ok_law (T : Txt K mg) (d__law_tape : Dfn P w K mg base 1 "_law_tape" ["_law_script"] (spTape K)) (d__law_next : Dfn P w K mg base 1 "_law_next" ["_law_tape_here", "_law_size"] spNext) (d__law_dug : Dfn P w K mg base 3 "_law_dug" ["_law_tape_here"] spDug)
    (d__law_spoilt : Dfn P w K mg base 2 "_law_spoilt" ["_law_tape_here", "_law_values", "_law_least"] (spSpoilt K)) (d_Tunnels_init : Mkr P w K mg base 3 "Tunnels" (He.ga K "Tunnels") ["self", "parents", "lengths"] (spTun K))
    (d__law_closed : Dfn P w K mg base 1 "_law_closed" ["_law_parents_here", "_law_lengths", "_law_weights"] (spClosed K)) (d__law_ends : Dfn P w K mg base 2 "_law_ends" ["_law_parents_here", "_law_sets"] (spEnds K)) (d__law_asked : Dfn P w K mg base 2 "_law_asked" ["_law_tape_here", "_law_ends_here"] spAsked)
    (d__law_cornered : Dfn P w K mg base 8 "_law_cornered" ["_law_made", "_law_weights", "_law_ends_here"] (spCornered K)) (d__law_heights : Dfn P w K mg base 9 "_law_heights" ["_law_made", "_law_weights", "_law_passed", "_law_sets", "_law_ends_here", "_law_asked_here"] (spHeights K))
    (d__law_priced : Dfn P w K mg base 6 "_law_priced" ["_law_made", "_law_parents_here", "_law_lengths", "_law_weights", "_law_end", "_law_times", "_law_pair"] (spPriced K)) (d__law_refused : Dfn P w K mg base 9 "_law_refused" ["_law_made", "_law_weights", "_law_length", "_law_lengths"] (spRefused (K := K)))
    (F : FnP K "law" "law" s_law f fd) : FnOk P w K mg base (L2N.CX P w) 10 f fd ["_law_script"] (spLaw K) := by
  refine fnok_of F sc_law (fun vs H Q E h => ?_) (BodyN.ok fun cdv A outer s H vs Q E hr h => ?_)
  · obtain ⟨_, _, rfl, _⟩ := h
    rfl
  · obtain ⟨s0, ns0, rfl, hS, hl0, k⟩ := h
    refine ⟨_, (pss_cons (ps_set (i := 1) sc_law.nd rfl (Or.inl rfl) (pe_fn d__law_tape (hr.mono (by decide)) rfl (pa_cons (pv 0) pa_nil)))
    (pss_cons (ps_asg (pe_fn d__law_dug (hr.mono (by decide)) rfl (pa_cons (pv 1) pa_nil)) (pg_tup rfl (pgs_cons (pg_name (i := 2) sc_law.nd rfl (Or.inl rfl)) (pgs_cons (pg_name (i := 3) sc_law.nd rfl (Or.inl rfl)) (pgs_cons (pg_name (i := 4) sc_law.nd rfl (Or.inl rfl)) pgs_nil)))))
    (pss_cons (ps_set (i := 5) sc_law.nd rfl (Or.inl rfl) (pe_lst (pa_cons (pv 4) (pa_cons (pe_revL (pv 4)) pa_nil))))
    (pss_cons (ps_set (i := 6) sc_law.nd rfl (Or.inl rfl) (pe_fn d__law_spoilt (hr.mono (by decide)) rfl (pa_cons (pv 1) (pa_cons (pv 4) (pa_cons pe_int pa_nil)))))
    (pss_cons (ps_set (i := 7) sc_law.nd rfl (Or.inl rfl) (pe_op op_mul (pe_fn d__law_next (hr.mono (by decide)) rfl (pa_cons (pv 1) (pa_cons pe_int pa_nil))) (pe_fn d__law_next (hr.mono (by decide)) rfl (pa_cons (pv 1) (pa_cons pe_int pa_nil)))))
    (pss_cons (ps_set (i := 8) sc_law.nd rfl (Or.inl rfl) (pe_op op_add pe_int (pe_fn d__law_next (hr.mono (by decide)) rfl (pa_cons (pv 1) (pa_cons pe_int pa_nil)))))
    (pss_cons (ps_set (i := 9) sc_law.nd rfl (Or.inl rfl) (pe_tup (pa_cons (pe_fn d__law_next (hr.mono (by decide)) rfl (pa_cons (pv 1) (pa_cons pe_int pa_nil))) (pa_cons (pe_op op_add pe_int (pe_fn d__law_next (hr.mono (by decide)) rfl (pa_cons (pv 1) (pa_cons pe_int pa_nil)))) pa_nil))))
    (pss_cons (ps_set (i := 10) sc_law.nd rfl (Or.inl rfl) (pe_callB (cr_sum rfl) rfl T.sum (by decide +kernel) (pa_cons (pv 3) pa_nil)))
    (pss_cons (ps_set (i := 11) sc_law.nd rfl (Or.inl rfl) (pe_mk d_Tunnels_init (hr.mono (by decide)) rfl (pa_cons (pe_callTy call_list_of rfl T.list (by decide +kernel) (pa_cons (pv 2) pa_nil)) (pa_cons (pe_callTy call_list_of rfl T.list (by decide +kernel) (pa_cons (pv 3) pa_nil)) pa_nil))))
    (pss_cons (ps_set (i := 12) sc_law.nd rfl (Or.inl rfl) (pe_lst pa_nil))
    (pss_cut (ps_for PassesOwn.never rfl (pi_list (pv 5)) (pg_name (i := 13) sc_law.nd rfl (Or.inl rfl)) (pss_cons (ps_set (i := 14) sc_law.nd rfl (Or.inl rfl) (pe_fn d__law_closed (hr.mono (by decide)) rfl (pa_cons (pv 2) (pa_cons (pv 3) (pa_cons (pv 13) pa_nil)))))
    (pss_cons (ps_set (i := 15) sc_law.nd rfl (Or.inl rfl) (pe_fn d__law_ends (hr.mono (by decide)) rfl (pa_cons (pv 2) (pa_cons (pv 14) pa_nil))))
    (pss_one (ps_expr (pe_bm PySem.F.plainAttrs_list PySem.F.slot_list_append PySem.F.type_list_append mt_append (pv 12) (pa_cons (pe_lst (pa_cons (pv 14) (pa_cons (pv 15) (pa_cons (pe_fn d__law_asked (hr.mono (by decide)) rfl (pa_cons (pv 1) (pa_cons (pv 15) pa_nil))) pa_nil)))) pa_nil)))))))
    (pss_cons (ps_for PassesOwn.never rfl (pi_range1 rfl T.range (pa_cons pe_int pa_nil)) (pg_name (i := 16) sc_law.nd rfl (Or.inl rfl)) (pss_cons (ps_for PassesOwn.never rfl (pi_range1 rfl T.range (pa_cons pe_int pa_nil)) (pg_name (i := 17) sc_law.nd rfl (Or.inl rfl)) (pss_cons (ps_set (i := 18) sc_law.nd rfl (Or.inl rfl) (pe_ix ix_list (pe_lst (pa_cons (pe_callTy call_list_of rfl T.list (by decide +kernel) (pa_cons (pe_ix ix_list (pv 5) (pv 17) (fun _ _ => rfl)) pa_nil)) (pa_cons (pe_callTy call_tuple_of rfl T.tuple (by decide +kernel) (pa_cons (pe_ix ix_list (pv 5) (pv 17) (fun _ _ => rfl)) pa_nil)) pa_nil))) (pv 16) (fun _ _ => rfl)))
    (pss_cons (ps_set (i := 15) sc_law.nd rfl (Or.inl rfl) (pe_ix ix_list (pe_ix ix_list (pv 12) (pv 17) (fun _ _ => rfl)) pe_int (fun _ _ => rfl)))
    (pss_cons (ps_if (pt_not (pt_val (pe_fn d__law_cornered (hr.mono (by decide)) rfl (pa_cons (pv 11) (pa_cons (pe_ix ix_list (pv 5) (pv 17) (fun _ _ => rfl)) (pa_cons (pv 15) pa_nil)))))) (pss_one (ps_ret pe_bl)) pss_nil)
    (pss_cons (ps_if (pt_not (pt_val (pe_fn d__law_heights (hr.mono (by decide)) rfl (pa_cons (pv 11) (pa_cons (pe_ix ix_list (pv 5) (pv 17) (fun _ _ => rfl)) (pa_cons (pv 18) (pa_cons (pe_ix ix_list (pe_ix ix_list (pv 12) (pv 17) (fun _ _ => rfl)) pe_int (fun _ _ => rfl)) (pa_cons (pv 15) (pa_cons (pe_stepL (pe_ix ix_list (pe_ix ix_list (pv 12) (pv 17) (fun _ _ => rfl)) pe_int (fun _ _ => rfl)) (pe_op op_add pe_int (pe_op op_mul pe_int (pv 16)))) pa_nil))))))))) (pss_one (ps_ret pe_bl)) pss_nil)
    (pss_one (ps_if (pt_not (pt_val (pe_fn d__law_priced (hr.mono (by decide)) rfl (pa_cons (pv 11) (pa_cons (pv 2) (pa_cons (pv 3) (pa_cons (pe_ix ix_list (pv 5) (pv 17) (fun _ _ => rfl)) (pa_cons (pe_ix ix_list (pv 15) pe_int (fun _ _ => rfl)) (pa_cons (pv 8) (pa_cons (pv 9) pa_nil)))))))))) (pss_one (ps_ret pe_bl)) pss_nil)))))))
    (pss_one (ps_for PassesOwn.never rfl (pi_list (pe_lst (pa_cons (pe_op op_sub (pe_op op_sub pe_int pe_int) (pv 7)) (pa_cons (pe_op op_add (pe_op op_add (pv 10) pe_int) (pv 7)) (pa_cons (pv 10) (pa_cons pe_int pa_nil)))))) (pg_name (i := 19) sc_law.nd rfl (Or.inl rfl)) (pss_cons (ps_if (PW.pt (pw_and (pt_cmpR op_eq (pv 16) pe_int (nomark _)) (pw_and1 (pt_not (pt_val (pe_fn d__law_refused (hr.mono (by decide)) rfl (pa_cons (pv 11) (pa_cons (pv 4) (pa_cons (pv 19) (pa_cons (pv 3) pa_nil)))))))))) (pss_one (ps_ret pe_bl)) pss_nil)
    (pss_one (ps_if (PW.pt (pw_and (pt_cmpR op_eq (pv 16) pe_int (nomark _)) (pw_and1 (pt_not (pt_val (pe_fn d__law_refused (hr.mono (by decide)) rfl (pa_cons (pv 11) (pa_cons (pv 6) (pa_cons (pv 19) (pa_cons (pv 3) pa_nil)))))))))) (pss_one (ps_ret pe_bl)) pss_nil)))))))
    (pss_one (ps_ret pe_bl)))))))))))))), ?_⟩
    refine q_asgT ?_
    refine ⟨.ref s0, rfl, s0, ns0, rfl, hS, by omega, fun t a H1 ht0 e1 hT ha0 => ?_⟩
    refine q_dug rfl hT fun par len wt rp rl rw_ H2 O W x2 rp0 rl0 rw0 hp hl hw => ?_
    have n8 := O.n8
    have ll := O.ll
    have wl := W.wl
    have K2 := (((⟨x2.2, fun y hy => by simp at hy⟩ : KN t a [] H2).add (hT.fresh rw0).1 hw).add (hT.fresh rl0).1 hl).add (hT.fresh rp0).1 hp
    clear x2 rp0 rl0 rw0 hp hl hw e1 ha0 ht0 hT hS
    refine q_asgT ?_
    refine ⟨.ref rw_, rfl, .ref rw_, rfl, rw_, ils wt, rfl, sq_of (K2.at 2 rfl), fun rv hrv0 => ⟨by show 2 ≤ sizeLine; decide, fun hv hhv0 => ?_⟩⟩
    have hrvr : (ils wt).reverse = ils wt.reverse := by
      show (wt.map V.int).reverse = wt.reverse.map V.int
      rw [List.map_reverse]
    have ea := Ex.new (o := .lst (ils wt).reverse) hrv0
    have eb := Ex.new (o := .lst [.ref rw_, .ref rv]) hhv0
    have K3a := (K2.ex ea).add (K2.T.fresh hrv0).1 (o := .lst (ils wt.reverse)) (by rw [upd_same, hrvr])
    have K3 := (K3a.ex eb).add (K3a.T.fresh hhv0).1 upd_same
    clear ea eb K3a K2
    generalize upd (upd H2 rv (.lst (ils wt).reverse)) hv (.lst [.ref rw_, .ref rv]) = H3 at *
    clear hhv0 hrv0
    refine q_asgT ?_
    refine ⟨.ref t, rfl, .ref rw_, rfl, t, a, rw_, wt, rfl, K3.T, K3.ne 4 rfl, sq_of (K3.at 4 rfl), by omega, fun y hy => (W.wb y hy).2, fun ms sp H4 hml hmb x4 sp0 hsp => ?_⟩
    have K4 := (K3.xt x4).add (K3.T.fresh sp0).1 hsp
    clear K3 x4 sp0 hsp
    refine q_asgI (P := fun f => 0 ≤ f ∧ f ≤ 24000) K4.T (ei_op (A := fun x => 0 ≤ x ∧ x < 2) (B := fun x => 0 ≤ x ∧ x < 12000) (ei_next rfl (ei_c ⟨by decide, by decide, fun d h0 h1 => ⟨h0, h1⟩⟩)) (ei_next rfl (ei_c ⟨by decide, by decide, fun d h0 h1 => ⟨h0, h1⟩⟩)) (fun i j hi hj => ⟨.inl ⟨by omega, by omega⟩, Int.mul_nonneg hi.1 hj.1, by
      have : i * j ≤ 2 * j := Int.mul_le_mul_of_nonneg_right (by omega) hj.1
      omega⟩)) fun far H5 hfar x5 => ?_
    have K5 := K4.xt x5
    clear K4 x5
    refine q_asgI (P := fun f => 1 ≤ f ∧ f ≤ 60) K5.T (ei_op0 (A := fun x => x = 1) (B := fun x => 0 ≤ x ∧ x < 60) (ei_c rfl) (ei_next rfl (ei_c ⟨by decide, by decide, fun d h0 h1 => ⟨h0, h1⟩⟩)) (fun i j hi hj => by subst hi; omega)) fun times H6 htm x6 => ?_
    have K6 := K5.xt x6
    clear K5 x6
    refine q_asgPairI (A := fun x => 0 ≤ x ∧ x ≤ 20) (B := fun x => 1 ≤ x ∧ x ≤ 6) K6.T (ei_next rfl (ei_c ⟨by decide, by decide, fun d h0 h1 => ⟨h0, by omega⟩⟩)) (ei_op0 (A := fun x => x = 1) (B := fun x => 0 ≤ x ∧ x < 6) (ei_c rfl) (ei_next rfl (ei_c ⟨by decide, by decide, fun d h0 h1 => ⟨h0, h1⟩⟩)) (fun i j hi hj => by subst hi; omega)) fun pa pb pr H7 hpa hpb x7 _ hpr => ?_
    have K7 := (K6.xt x7).add ((K6.xt x7).T.neT hpr) hpr
    clear K6 x7 hpr
    refine q_asg (ev_sumS (ev_var rfl) (sq_of (K7.at 5 rfl))) fun H8 e8 => ?_
    have K8 := K7.ex e8
    clear K7 e8
    refine q_asgM (el_mkTun (par := par) (len := len) (fun H9 e9 Q1 q1 => el_listS (ev_var rfl) (.inl (sq_of (K8.at 4 rfl))) H9 e9 _ fun l1 H10 _ e10 h1 => el_listS (ev_var rfl) (.inl (sq_of (K8.at 5 rfl))) H10 (e9.trans e10) _ fun l2 H11 _ e11 h2 => q1 l1 l2 H11 (e10.trans e11) (sq_of (e11 _ _ h1)) (sq_of h2)) O) fun m H9 _ e9 hm => ?_
    obtain ⟨dx, sh, lt, dx2, pt, ab, hmA⟩ := hm
    have K9a := K8.ex e9
    have K9 : KN t a [(pt, .tup (ils par)), (sh, .ins (He.ga K "Shape") dx2 (shFs pt par.length ab)), (lt, .tup (ils len)), (m, .ins (He.ga K "Tunnels") dx (tuFs sh lt)), (pr, .tup [.int pa, .int pb]), (sp, .lst (ils ms)), (hv, .lst [.ref rw_, .ref rv]), (rv, .lst (ils wt.reverse)), (rp, .lst (ils par)), (rl, .lst (ils len)), (rw_, .lst (ils wt))] H9 := (((K9a.add (K9a.T.neI hmA.o) hmA.o).add (K9a.T.neT hmA.l) hmA.l).add (K9a.T.neI hmA.s) hmA.s).add (K9a.T.neT hmA.p) hmA.p
    clear K8 K9a e9 hmA
    refine q_asgL (el_lst ea_nil (Nat.zero_le _)) fun fl H10 hfl0 e10 hfl => ?_
    have K10 := K9.ex e10
    have off := K9.off hfl0
    have flt := K9.T.fresh hfl0
    clear K9 hfl0 e10
    refine q_cut (M := fun σ' H' => ∃ u13 u14 u15, σ' = ([some (.ref s0), some (.ref t), some (.ref rp), some (.ref rl), some (.ref rw_), some (.ref hv), some (.ref sp), some (.int far), some (.int times), some (.ref pr), some (.int len.sum), some (.ref m), some (.ref fl), u13, u14, u15, none, none, none, none] : L2.St) ∧ KN t a [(pt, .tup (ils par)), (sh, .ins (He.ga K "Shape") dx2 (shFs pt par.length ab)), (lt, .tup (ils len)), (m, .ins (He.ga K "Tunnels") dx (tuFs sh lt)), (pr, .tup [.int pa, .int pb]), (sp, .lst (ils ms)), (hv, .lst [.ref rw_, .ref rv]), (rv, .lst (ils wt.reverse)), (rp, .lst (ils par)), (rl, .lst (ils len)), (rw_, .lst (ils wt))] H' ∧ ∃ rsF, H' fl = some (.lst rsF) ∧ Refs (FoundAt t fl par len H') rsF [wt, wt.reverse]) ?_ ?_
    · refine s_forLn (ev_var rfl) (sq_of (K10.at 6 rfl)) (fun i σ' H' => ∃ u13 u14 u15, σ' = ([some (.ref s0), some (.ref t), some (.ref rp), some (.ref rl), some (.ref rw_), some (.ref hv), some (.ref sp), some (.int far), some (.int times), some (.ref pr), some (.int len.sum), some (.ref m), some (.ref fl), u13, u14, u15, none, none, none, none] : L2.St) ∧ KN t a [(pt, .tup (ils par)), (sh, .ins (He.ga K "Shape") dx2 (shFs pt par.length ab)), (lt, .tup (ils len)), (m, .ins (He.ga K "Tunnels") dx (tuFs sh lt)), (pr, .tup [.int pa, .int pb]), (sp, .lst (ils ms)), (hv, .lst [.ref rw_, .ref rv]), (rv, .lst (ils wt.reverse)), (rp, .lst (ils par)), (rl, .lst (ils len)), (rw_, .lst (ils wt))] H' ∧ ∃ rsF, H' fl = some (.lst rsF) ∧ Refs (FoundAt t fl par len H') rsF ([wt, wt.reverse].take i)) (fun H11 e11 => ⟨_, _, _, rfl, K10.ex e11, [], e11 _ _ hfl, Refs.nil⟩) (fun i σ' H' _ h => ?_) ?_ ?_
      · obtain ⟨_, _, _, _, h, _⟩ := h
        exact sq_of (h.at 6 rfl)
      · rintro i x σ' H' hi ⟨u13, u14, u15, rfl, hK, rsF, hfl, hRF⟩
        have hx : ∃ wa wt', x = .ref wa ∧ H' wa = some (.lst (ils wt')) ∧ WOk par wt' ∧ [wt, wt.reverse][i]? = some wt' := by
          match i, hi with
          | 0, hi => exact ⟨rw_, wt, (Option.some.inj hi).symm, hK.at 10 rfl, W, rfl⟩
          | 1, hi => exact ⟨rv, wt.reverse, (Option.some.inj hi).symm, hK.at 7 rfl, wok_rev W, rfl⟩
          | n + 2, hi => simp at hi
        obtain ⟨wa, wt', rfl, hwa, W', hwt⟩ := hx
        have TS := ts_ok O W'
        have hil : i < 2 := by
          have := (List.getElem?_eq_some_iff.mp hwt).1
          simpa using this
        have tk : ([wt, wt.reverse] : List (List Int)).take (i + 1) = [wt, wt.reverse].take i ++ [wt'] := by
          rw [List.take_add_one, hwt]
          rfl
        rw [tk]
        refine q_asgM (Pm := fun r H => ∃ rs, H r = some (.lst rs) ∧ Refs (CsAt H) rs (KM.closedUp par len wt' par.length)) (ev_callM (ea_cons (ev_var rfl) (ea_cons (ev_var rfl) (ea_cons (ev_var rfl) ea_nil))) (fun H11 e11 Q1 q1 => ⟨rp, rl, wa, par, len, wt', rfl, e11 _ _ (hK.at 8 rfl), e11 _ _ (hK.at 9 rfl), e11 _ _ hwa, O.ll, W'.wl, O.n8, fun r rs H12 hr0 e12 hr hR => q1 r H12 hr0 e12 ⟨rs, hr, hR⟩⟩)) fun sa H11 sa0 e11 hsa => ?_
        obtain ⟨rs, hsa, hRs⟩ := hsa
        have hRn : Refs (CnAt H11) rs (KM.closedUp par len wt' par.length) := hRs.mono fun q c _ ⟨mm, h, _⟩ => ⟨mm, h⟩
        refine q_asgM (Pm := fun r H => ∃ re, H r = some (.lst re) ∧ Refs (PairAt H) re (KM.endsUp (KM.closedUp par len wt' par.length) par.length)) (ev_callM (ea_cons (ev_var rfl) (ea_cons (ev_var rfl) ea_nil)) (fun H12 e12 Q1 q1 => ⟨rp, sa, par, rs, _, rfl, (e11.trans e12) _ _ (hK.at 8 rfl), e12 _ _ hsa, hRn.mono fun q c _ h => h.ex e12, TS.b, O.n8, fun r re H13 hr0 e13 hr hR => q1 r H13 hr0 e13 ⟨re, hr, hR⟩⟩)) fun ea H12 ea0 e12 hea => ?_
        obtain ⟨re, hea, hRe⟩ := hea
        have e112 := e11.trans e12
        have hK12 := hK.ex e112
        have EB := e_bd TS.b O.n8
        have E1 := ends_ne (KM.closedUp par len wt' par.length) par.length
        have wb := EB.2 _ (cAt_mem (cs := KM.endsUp (KM.closedUp par len wt' par.length) par.length) (i := (KM.endsUp (KM.closedUp par len wt' par.length) par.length).length - 1) (by omega))
        have eat := (hK.T.ex e11).fresh ea0
        have rsFl : rsF.length ≤ 2 := by
          have := hRF.len
          rw [List.length_take] at this
          omega
        refine ⟨.ref fl, rfl, Or.inl ⟨rfl, rsF, sq_of (e112 _ _ hfl)⟩, .ref sa, rfl, .ref ea, rfl, .ref t, rfl, .ref ea, rfl, t, a, ea, re, _, rfl, hK12.T, eat.1, hea, hRe, E1, EB.1, wb.1, wb.2.1, fun ns q H13 nl nb x13 q0 hq => ⟨by show 3 ≤ sizeLine; decide, fun fo fo0 => ?_⟩⟩
        have x03 : XT t a H' H13 := (XT.of hK.T e112).trans x13
        have hfl13 : H13 fl = some (.lst rsF) := x13.at flt.1 (e112 _ _ hfl)
        have e14 := Ex.new (o := .lst [.ref sa, .ref ea, .ref q]) fo0
        refine ⟨fl, rsF, .ref fo, rfl, rfl, e14 _ _ hfl13, sz_lt (by omega), ⟨_, _, _, rfl, ((hK.xt x03).ex e14).upd off flt.1 flt.2, rsF ++ [.ref fo], upd_same, ?_⟩⟩
        have sat := hK.T.fresh sa0
        have qt := hK12.T.fresh q0
        have fot := x13.2.fresh fo0
        have safl : sa ≠ fl := fun c => by
          subst c
          rw [hfl] at sa0
          cases sa0
        have eafl : ea ≠ fl := fun c => by
          subst c
          rw [e11 _ _ hfl] at ea0
          cases ea0
        have qfl : q ≠ fl := fun c => by
          subst c
          rw [e112 _ _ hfl] at q0
          cases q0
        have fofl : fo ≠ fl := fun c => by
          subst c
          rw [hfl13] at fo0
          cases fo0
        have go : Ex2 t fl H13 (upd (upd H13 fo (.lst [.ref sa, .ref ea, .ref q])) fl (.lst (rsF ++ [.ref fo]))) := fun y o n1 n2 hy => by
          rw [upd_ne n2]
          exact e14 _ _ hy
        have go2 : Ex2 t fl H12 (upd (upd H13 fo (.lst [.ref sa, .ref ea, .ref q])) fl (.lst (rsF ++ [.ref fo]))) := fun y o n1 n2 hy => go y o n1 n2 (x13.1 _ _ n1 hy)
        have tupg : ∀ {p : Addr} {zs : List V}, H12 p = some (.tup zs) → (upd (upd H13 fo (.lst [.ref sa, .ref ea, .ref q])) fl (.lst (rsF ++ [.ref fo]))) p = some (.tup zs) := fun {p zs} hp => go2 _ _ (hK12.T.neT hp) (fun c => by
          subst c
          rw [e112 _ _ hfl] at hp
          cases hp) hp
        refine Refs.snoc (hRF.mono fun f w _ h => h.mono (fun y o n1 n2 hy => go2 y o n1 n2 (e112 _ _ hy)) hK.T.lst ⟨_, hfl⟩) ⟨sa, ea, q, rs, re, ns, fot.1, fofl, sat.1, safl, eat.1, eafl, qt.1, qfl, ?_, go2 _ _ sat.1 safl (e12 _ _ hsa), hRn.mono fun q c _ ⟨mm, h⟩ => ⟨mm, tupg (e12 _ _ h)⟩, go2 _ _ eat.1 eafl hea, hRe.mono fun q c _ h => tupg h, go _ _ qt.1 qfl hq, nl, nb⟩
        rw [upd_ne fofl]
        exact upd_same
      · rintro σ' H' ⟨u13, u14, u15, rfl, hK, rsF, hfl, hRF⟩
        exact ⟨_, _, _, rfl, hK, rsF, hfl, hRF⟩
    · clear hfl K10 H10
      rintro σ' Hn ⟨u13, u14, u15, rfl, hK, rsF, hfl, hRF⟩
      have hTn : TunAt K Hn m par len := ⟨dx, sh, lt, dx2, pt, ab, ⟨hK.at 3 rfl, hK.at 2 rfl, hK.at 1 rfl, hK.at 0 rfl⟩⟩
      have hp := hK.at 8 rfl
      have hl := hK.at 9 rfl
      have hw := hK.at 10 rfl
      have hrv := hK.at 7 rfl
      have hhv := hK.at 6 rfl
      have hsp := hK.at 5 rfl
      have hpr := hK.at 4 rfl
      clear hK off flt
      refine q_forR1 (n := 2) (ea_cons ev_c ea_nil) (by omega) (fun i σ' H' => (∃ u13 u14 u15 u16 u17 u18 u19, σ' = ([some (.ref s0), some (.ref t), some (.ref rp), some (.ref rl), some (.ref rw_), some (.ref hv), some (.ref sp), some (.int far), some (.int times), some (.ref pr), some (.int len.sum), some (.ref m), some (.ref fl), u13, u14, u15, u16, u17, u18, u19] : L2.St)) ∧ Ex Hn H') (fun H1 e1 => ⟨⟨_, _, _, _, _, _, _, rfl⟩, e1⟩) ?_ (fun σ' H' _ => s_ret ev_c fun H2 _ => k H2)
      rintro turn σ' H1 hturn ⟨⟨v13, v14, v15, v16, v17, v18, v19, rfl⟩, e1⟩
      have hturn : turn < 2 := by omega
      refine q_forR1 (n := 2) (ea_cons ev_c ea_nil) (by omega) (fun i σ' H' => (∃ u13 u14 u15 u17 u18 u19, σ' = ([some (.ref s0), some (.ref t), some (.ref rp), some (.ref rl), some (.ref rw_), some (.ref hv), some (.ref sp), some (.int far), some (.int times), some (.ref pr), some (.int len.sum), some (.ref m), some (.ref fl), u13, u14, u15, some (.int (turn : Int)), u17, u18, u19] : L2.St)) ∧ Ex Hn H') (fun H2 e2 => ⟨⟨_, _, _, _, _, _, rfl⟩, e1.trans e2⟩) ?_ ?_
      · rintro at_ σ' H2 hat ⟨⟨v13, v14, v15, v17, v18, v19, rfl⟩, e2⟩
        have hat : at_ < 2 := by omega
        have hx : ∃ wa wt', ([.ref rw_, .ref rv] : List V)[at_]? = some (.ref wa) ∧ Hn wa = some (.lst (ils wt')) ∧ WOk par wt' ∧ [wt, wt.reverse][at_]? = some wt' := by
          match at_, hat with
          | 0, _ => exact ⟨rw_, wt, rfl, hw, W, rfl⟩
          | 1, _ => exact ⟨rv, wt.reverse, rfl, hrv, wok_rev W, rfl⟩
        obtain ⟨wa, wt', hwx, hwa, W', hwt⟩ := hx
        obtain ⟨fo, hfo, hF⟩ := hRF.2 at_ wt' hwt
        obtain ⟨sa, ea, q, rs, re, ns, _, _, _, _, _, _, _, _, hfo3, hsa, hRs, hea, hRe, hq, nl, nb⟩ := hF.ex
        have TS := ts_ok O W'
        have E1 := ends_ne (KM.closedUp par len wt' par.length) par.length
        have EB := e_bd TS.b O.n8
        have EOf := fun Bs h => e_ok (Bs := Bs) O W' h
        generalize KM.closedUp par len wt' par.length = ts at *
        generalize KM.endsUp ts par.length = E at *
        have Vh : ∀ {σ1 : L2.St} {H3 : Hp}, Ex Hn H3 → σ1[5]? = some (some (.ref hv)) → σ1[17]? = some (some (.int (at_ : Int))) → Ev (tOp (rIxL K) (tVar 5) (tVar 17)) σ1 H3 (.ref wa) := fun e h1 h2 => ev_op (ev_var h1) (ev_var h2) (rv_ixL (sq_of (e _ _ hhv)) (atI_at hwx))
        have Vf : ∀ {σ1 : L2.St} {H3 : Hp}, Ex Hn H3 → σ1[12]? = some (some (.ref fl)) → σ1[17]? = some (some (.int (at_ : Int))) → Ev (tOp (rIxL K) (tVar 12) (tVar 17)) σ1 H3 (.ref fo) := fun e h1 h2 => ev_op (ev_var h1) (ev_var h2) (rv_ixL (sq_of (e _ _ hfl)) (atI_at hfo))
        refine q_asgM (Pm := fun x H => Sq K H x (ils wt')) (e_either hturn (r := wa) (fun H3 e3 => Vh (e2.trans e3) rfl rfl) (fun H3 e3 => Vh (e2.trans e3) rfl rfl) (e2 _ _ hwa) (fun H3 e3 => ev_var rfl)) fun px H3 _ e3 hpx => ?_
        have e13 := e2.trans e3
        refine q_asg (v := .ref ea) (ev_op (Vf e13 rfl rfl) ev_c (rv_ixL (sq_of (e13 _ _ hfo3)) rfl)) fun H4 e4 => ?_
        have e14 := e13.trans e4
        refine q_cornered (ea_cons (ev_var rfl) (ea_cons (Vh e14 rfl rfl) (ea_cons (ev_var rfl) ea_nil))) (hTn.ex e14) (e14 _ _ hwa) (e14 _ _ hea) (hRe.mono fun q c _ h => h.ex e14) O W' E1 EB.1 (fun Bs h => (EOf Bs h).e Bs h) fun Bs hBs H5 e5 => ?_
        have EO := EOf Bs hBs
        clear EOf
        have e15 := e14.trans e5
        refine q_when (b := false) (et_is (et_not (et_B (b := true) (fun H6 e6 Q1 q1 => ⟨.ref m, rfl, Vh (e15.trans e6) rfl rfl H6 (Ex.refl H6) _ fun H7 e7 => ⟨.ref px, rfl, ev_op (Vf (e15.trans (e6.trans e7)) rfl rfl) ev_c (rv_ixL (sq_of ((e15.trans (e6.trans e7)) _ _ hfo3)) rfl) H7 (Ex.refl H7) _ fun H8 e8 => ⟨.ref ea, rfl,
          ev_op (Vf (e15.trans (e6.trans (e7.trans e8))) rfl rfl) ev_c (rv_ixL (sq_of ((e15.trans (e6.trans (e7.trans e8))) _ _ hfo3)) rfl) H8 (Ex.refl H8) _ fun H9 e9 => ev_op (z := .int (1 + 2 * (turn : Int))) ev_c (ev_op ev_c (ev_var rfl) (rv_I (.inl (by decide)))) rv_I0 H9 (Ex.refl H9) _ fun H10 e10 => ?_⟩⟩⟩))) rfl) (fun c => by cases c) fun _ H6 e6 => ?_
        · have e610 := e6.trans (e7.trans (e8.trans (e9.trans e10)))
          refine ⟨q, ils ns, 1 + 2 * (turn : Int), rfl, rfl, by omega, sq_of ((e15.trans e610) _ _ hq), fun p ys hp0 hys hyl => ?_⟩
          obtain ⟨ms2, rfl, hms⟩ := ils_of hys
          have e11 := e610.trans (Ex.new (o := .lst (ils ms2)) hp0)
          have eh := e15.trans e11
          exact ⟨m, wa, px, sa, ea, p, par, len, wt', ms2, rs, re, ts, E, rfl, hTn.ex eh, eh _ _ hwa, hpx.ex (e4.trans (e5.trans e11)), eh _ _ hsa, hRs.mono fun q c _ h => h.ex eh, eh _ _ hea, hRe.mono fun q c _ h => h.ex eh, upd_same, O, W', TS, EO, fun x hx => asked_ok O EO (nb x (hms x hx)), fun H12 e12 => q1 H12 ((e7.trans (e8.trans (e9.trans e10))).trans ((Ex.new hp0).trans e12))⟩
        have e16 := e15.trans e6
        have two := EO.c.two
        obtain ⟨d, hd1, hd2⟩ := refs_at hRe (i := 1) (by omega)
        refine s_when (b := false) (et_is (et_not (et_B (b := true) (ev_fn (ea_cons (ev_var rfl) (ea_cons (ev_var rfl) (ea_cons (ev_var rfl) (ea_cons (Vh e16 rfl rfl) (ea_cons (ev_op (ev_var rfl) ev_c (rv_ixL (sq_of (e16 _ _ hea)) (atI_at (i := 1) hd1))) (ea_cons (ev_var rfl) (ea_cons (ev_var rfl) ea_nil))))))) (fun H7 e7 Q1 q1 E2 => ⟨m, rp, rl, wa, d, pr, par, len, wt', E, times, pa, pb, rfl, hTn.ex (e16.trans e7), (e16.trans e7) _ _ hp, (e16.trans e7) _ _ hl, (e16.trans e7) _ _ hwa, (e16.trans e7) _ _ hd2, (e16.trans e7) _ _ hpr, O, W', EO, htm.1, by omega, hpa.1, by omega, hpb.1, by omega, q1⟩)))) rfl) (fun c => by cases c) fun _ H7 e7 => ⟨⟨_, _, _, _, _, _, rfl⟩, e16.trans e7⟩
      · rintro σ' H2 ⟨⟨v13, v14, v15, v17, v18, v19, rfl⟩, e2⟩
        refine s_forNL (g := gName 19) (el_lst (vs := ils [0 - 1 - far, len.sum + 1 + far, len.sum, 0]) (ea_cons (ev_op (ev_op ev_c ev_c rv_I0) (ev_var rfl) rv_I0) (ea_cons (ev_op (ev_op (ev_var rfl) ev_c rv_I0) (ev_var rfl) rv_I0) (ea_cons (ev_var rfl) (ea_cons ev_c ea_nil)))) (by show 4 ≤ 100000; decide)) (fun p i σ' H' => (∃ u13 u14 u15 u17 u18 u19, σ' = ([some (.ref s0), some (.ref t), some (.ref rp), some (.ref rl), some (.ref rw_), some (.ref hv), some (.ref sp), some (.int far), some (.int times), some (.ref pr), some (.int len.sum), some (.ref m), some (.ref fl), u13, u14, u15, some (.int (turn : Int)), u17, u18, u19] : L2.St)) ∧ Ex Hn H' ∧ H' p = some (.lst (ils [0 - 1 - far, len.sum + 1 + far, len.sum, 0]))) (fun p H3 _ e3 hp => ⟨⟨_, _, _, _, _, _, rfl⟩, e2.trans e3, hp⟩) (fun p i σ' H' _ h => sq_of h.2.2) ?_ ?_
        · rintro p i x σ' H3 hi ⟨⟨v13, v14, v15, v17, v18, v19, rfl⟩, e3, hp3⟩
          obtain ⟨_, rfl, _⟩ := ils_mem hi
          generalize ([0 - 1 - far, len.sum + 1 + far, len.sum, 0] : List Int).getD i 0 = x at *
          have go : ∀ (j : Nat) (b : Addr) (vals : List Int) {H4 : Hp}, Ex H3 H4 → ([some (.ref s0), some (.ref t), some (.ref rp), some (.ref rl), some (.ref rw_), some (.ref hv), some (.ref sp), some (.int far), some (.int times), some (.ref pr), some (.int len.sum), some (.ref m), some (.ref fl), v13, v14, v15, some (.int (turn : Int)), v17, v18, some (.int x)] : L2.St)[j]? = some (some (.ref b)) → Hn b = some (.lst (ils vals)) → vals.length ≤ 1000 → (∀ y ∈ vals, y ≤ 999) → EvT (tAnd (tTest (tOp rEq (tVar 16) (tC (.int 0)))) (tNot (tB (tCall (spRefused (K := K)) [] E0 (tCons (tVar 11) (tCons (tVar j) (tCons (tVar 19) (tCons (tVar 3) tNil)))))))) ([some (.ref s0), some (.ref t), some (.ref rp), some (.ref rl), some (.ref rw_), some (.ref hv), some (.ref sp), some (.int far), some (.int times), some (.ref pr), some (.int len.sum), some (.ref m), some (.ref fl), v13, v14, v15, some (.int (turn : Int)), v17, v18, some (.int x)] : L2.St) H4 false := fun j b vals H4 e4 hj hb hvl hvb =>
            et_is (et_and (b := false) (et_eqI (ev_var rfl) ev_c) (fun _ => et_is (et_not (et_B (b := true) (ev_fn (ea_cons (ev_var rfl) (ea_cons (ev_var hj) (ea_cons (ev_var rfl) (ea_cons (ev_var rfl) ea_nil)))) (fun H5 e5 Q1 q1 E2 => ⟨m, b, rl, par, len, vals, x, rfl, hTn.ex (e3.trans (e4.trans e5)), (e3.trans (e4.trans e5)) _ _ hb, (e3.trans (e4.trans e5)) _ _ hl, O, hvl, hvb, q1⟩)))) rfl)) (by simp)
          refine q_when (b := false) (go 4 rw_ wt (Ex.refl H3) rfl hw (by omega) (fun y hy => (W.wb y hy).2)) (fun c => by cases c) fun _ H4 e4 => ?_
          refine s_when (b := false) (go 6 sp ms e4 rfl hsp hml hmb) (fun c => by cases c) fun _ H5 e5 => ⟨⟨_, _, _, _, _, _, rfl⟩, e3.trans (e4.trans e5), (e4.trans e5) _ _ hp3⟩
        · rintro p σ' H3 ⟨⟨v13, v14, v15, v17, v18, v19, rfl⟩, e3, hp3⟩
          exact ⟨⟨_, _, _, _, _, _, _, rfl⟩, e3⟩
end
end K61
/-! The facts of an own exception, read by a Hook. -/
namespace K61
open PySem PySem.Spec PyProof.Rows L2 PySem.W PySem.HandSPX
/-! ### what is read of the class at C: mro, slots -/
def xcB (K : Frag) (C : Addr) : Bool := match K.lookup C with
  | some ⟨.type "type", _, .cls cd, sl⟩ => (match cd.mro, sl.toList with
    | .ref C' :: bm, [_, _, _, _, some (.builtin n), _] => C' == C && n == "ValueError.__new__" && !cd.hasDel && cd.hasDict && refsVE bm && decide (alongIn K "__init__" bm = some (some (.builtin "ValueError.__init__")))
    | _, _ => false)
  | _ => false
theorem xcB_ok {K : Frag} {C : Addr} (q : xcB K C = true) : ∃ nm qn N bs bm sn sub ab col dd k0 k1 k2 k3 k5, K.lookup C = some (excClassObj nm qn C N bs bm true sn sub ab col dd k0 k1 k2 k3 k5 "ValueError.__new__") ∧ refsVE bm = true ∧ alongIn K "__init__" bm = some (some (.builtin "ValueError.__init__")) := by
  unfold xcB at q
  split at q
  · rename_i dd cd sl ho
    split at q
    · rename_i C' bm k0 k1 k2 k3 n k5 hm hs
      simp only [Bool.and_eq_true, beq_iff_eq, Bool.not_eq_true', decide_eq_true_eq] at q
      obtain ⟨⟨⟨⟨⟨rfl, rfl⟩, hdel⟩, hd1⟩, hr⟩, ha⟩ := q
      obtain ⟨nm, bs, mro, ns, qn, hd, sn, sub, ab, col, del⟩ := cd
      dsimp only at hm hdel hd1
      subst hm hdel hd1
      have hsl : sl = #[k0, k1, k2, k3, some (.builtin "ValueError.__new__"), k5] := by
        obtain ⟨l⟩ := sl
        simp only at hs
        rw [hs]
      subst hsl
      exact ⟨nm, qn, ns, bs, bm, sn, sub, ab, col, dd, k0, k1, k2, k3, k5, ho, hr, ha⟩
    · cases q
  · cases q
def cellB (K : Frag) (cl : List (Str × Addr)) (C : Addr) : Bool := match cl with
  | [(n, cc)] => decide (n = "__class__") && (match K.lookup cc with
    | some ⟨_, _, .cell (some (.ref b)), _⟩ => b == C
    | _ => false)
  | _ => false
def fileB (K : Frag) (code : Value) (file : Str) : Bool := match code with
  | .ref c => (match K.lookup c with
    | some ⟨_, _, .fields vs, _⟩ => (match (vs[2]? : Option Value) with
      | some (.str t _) => file == t
      | _ => false)
    | _ => false)
  | _ => false
def xfnB (K : Frag) (f C : Addr) (q file : Str) : Bool := match K.lookup f with
  | some ⟨_, _, .func fd, _⟩ => decide (fd.defaults = .none) && (codeIn K fd.code q && (fileB K fd.code file && cellB K fd.closure C))
  | _ => false
abbrev FnX : Type := Option (Str × Str × Arguments × FuncBody × Scope × Addr × Addr)
def fnX_obs (K : Frag) (x : Str) : FnX := match K.lookup (He.ma K (He.ga K x) "__init__") with
  | some ⟨_, _, .func fd, _⟩ => some (fd.name, fd.qualname, fd.params, fd.body, fd.scope, fd.globals, fd.builtins)
  | _ => none
theorem xfn_ok {K : Frag} {x q file : Str} {C : Addr} {params : Arguments} {body : List Stmt} {scope : Scope} (e : fnX_obs K x = (some ("__init__", q, params, .stmts body, scope, mainGlobals, builtinsNs) : FnX)) (h : xfnB K (He.ma K (He.ga K x) "__init__") C q file = true) :
    ∃ cc cda, (∃ (oc : Value) (od : Option Addr) (kV doc pm : Value) (an : Option Addr) (ct : Value) (osl : Array (Option Value)), K.lookup (He.ma K (He.ga K x) "__init__") = some ⟨oc, od, .func (fnX "__init__" q params body scope [("__class__", cc)] .none kV doc pm an (.ref cda) ct), osl⟩ ∧ codeIn K (.ref cda) q = true) ∧
      (∃ c d sl, K.lookup cc = some ⟨c, d, .cell (some (.ref C)), sl⟩) ∧ (∃ c d vs sl fl tf, K.lookup cda = some ⟨c, d, .fields vs, sl⟩ ∧ vs[2]? = some (.str fl tf) ∧ ((file : Str) == fl) = true) := by
  unfold fnX_obs at e
  unfold xfnB at h
  cases q1 : K.lookup (He.ma K (He.ga K x) "__init__") with
  | none =>
    rw [q1] at e
    cases e
  | some o =>
    obtain ⟨oc, od, dt, osl⟩ := o
    rw [q1] at h e
    cases dt with
    | func fd =>
      obtain ⟨n1, n2, n3, n4, n5, n6, n7, n8, n9, n10, n11, n12, n13, n14, n15⟩ := fd
      have e2 : (some (n1, n2, n3, n4, n5, n6, n15) : FnX) = some (("__init__" : Str), q, params, FuncBody.stmts body, scope, mainGlobals, builtinsNs) := e
      simp only [Option.some.injEq, Prod.mk.injEq] at e2
      obtain ⟨h1, h2, h3, h4, h5, h6, h7⟩ := e2
      subst h1 h2 h3 h4 h5 h6 h7
      have h : (decide (n8 = .none) && (codeIn K n13 n2 && (fileB K n13 file && cellB K n7 C))) = true := h
      obtain ⟨k1, h⟩ := Bool.and_eq_true_iff.mp h
      obtain ⟨k2, h⟩ := Bool.and_eq_true_iff.mp h
      obtain ⟨k3, k4⟩ := Bool.and_eq_true_iff.mp h
      have k1 := of_decide_eq_true k1
      subst k1
      cases n7 with
      | nil => cases k4
      | cons p r =>
        obtain ⟨n, cc⟩ := p
        cases r with
        | cons _ _ => cases k4
        | nil =>
          have k4 : (decide (n = "__class__") && (match K.lookup cc with
            | some ⟨_, _, .cell (some (.ref b)), _⟩ => b == C
            | _ => false)) = true := k4
          obtain ⟨k5, k6⟩ := Bool.and_eq_true_iff.mp k4
          have k5 := of_decide_eq_true k5
          subst k5
          have c1 : ∃ c d sl, K.lookup cc = some ⟨c, d, .cell (some (.ref C)), sl⟩ := by
            split at k6
            · rename_i c d b sl hcc
              have hb : b = C := beq_iff_eq.mp k6
              subst hb
              exact ⟨c, d, sl, hcc⟩
            · cases k6
          cases n13 with
          | ref cda =>
            have k3 : (match K.lookup cda with
              | some ⟨_, _, .fields vs, _⟩ => (match (vs[2]? : Option Value) with
                | some (.str t _) => file == t
                | _ => false)
              | _ => false) = true := k3
            have c2 : ∃ c d vs sl fl tf, K.lookup cda = some ⟨c, d, .fields vs, sl⟩ ∧ vs[2]? = some (.str fl tf) ∧ ((file : Str) == fl) = true := by
              split at k3
              · rename_i c2 d2 vs sl2 hcd
                split at k3
                · rename_i t tk hv
                  exact ⟨c2, d2, vs, sl2, t, tk, hcd, hv, k3⟩
                · cases k3
              · cases k3
            exact ⟨cc, cda, ⟨oc, od, n9, n10, n11, n12, n14, osl, rfl, k2⟩, c1, c2⟩
          | _ => cases k3
    | _ => cases e
/-! ### the facts, one by one -/
def xFacts (K : Frag) (x fld q file : Str) : List Bool :=
  let C := He.ga K x
  let f := He.ma K C "__init__"
  [He.eqO (nsIn K mainGlobals x) (some (some (.ref C))), xcB K C, He.eqO (findIn K (.ref C) "__setattr__") (some (some (.builtin "object.__setattr__"))), He.eqO (findIn K (.ref C) fld) (some none),
   He.eqO (findIn K (.ref C) "__init__") (some (some (.ref f))), decide (typeIn K (.ref f) = some (.type "function")), keepIn K (.ref C), decide (subIn K (.ref C) (.type "BaseException") = some true), decide (typeIn K (.ref C) = some (.type "type")), xfnB K f C q file,
   He.eqO (nsIn K cStatics "thirdparty.any") (some none), decide (subIn K (.ref C) (.type "ValueError") = some true), decide (mroIn K C (.ref C) = some true), He.eqO (findIn K (.ref C) "__getattribute__") (some (some (.builtin "BaseException.__getattribute__"))),
   He.eqO (findIn K (.ref C) "__getattr__") (some none), hasDictIn K C, He.eqO (findIn K (.ref C) "__class__") (some (some (.builtin "object.__class__"))), He.eqO (specialIn K (.builtin "object.__class__") "__get__") (some (some (.builtin "getset_descriptor.__get__"))),
   decide (takesIn K (.builtin "object.__class__") = some true), decide (mroIn K C (.type "object") = some true), decide (exmOne K (.ref C) (.ref (He.ga K "FindsError")) = some true)]
def kFacts (K : Frag) : List Bool :=
  let W := He.ga K "BadWeight"
  let C := He.ga K "BadCount"
  [decide (kitOne K (.ref W) (.ref W) = some true), decide (kitOne K (.ref W) (.ref C) = some false), decide (kitOne K (.ref C) (.ref W) = some false), decide (kitOne K (.ref C) (.ref C) = some true)]
end K61
/-! The head: the text's defs, the facts that are read, the top's run. -/
namespace K61
open PySem PySem.Spec PyProof.Rows L2 PySem.W
abbrev s_BW : Stmt := inClass (top 5) 0
abbrev s_BC : Stmt := inClass (top 6) 0
def p0 : Pos := ⟨0, 0, 0, 0⟩
def xpOf (a : Arguments) (b : List Stmt) : XPos := match a.args, b with
  | [x, y], [.Expr (.Call (.Attribute (.Call (.Name _ q1) _ _ q2) _ q3) [.Constant _ _ q4] _ q5) q6, .Assign [.Attribute (.Name _ q7) _ q8] (.Name _ q9) q10] => ⟨x.pos, y.pos, q1, q2, q3, q4, q5, q6, q7, q8, q9, q10⟩
  | _, _ => ⟨p0, p0, p0, p0, p0, p0, p0, p0, p0, p0, p0, p0⟩
def xpW : XPos := xpOf (defArgs s_BW) (defBody s_BW)
def xpC : XPos := xpOf (defArgs s_BC) (defBody s_BC)
theorem aW : defArgs s_BW = xA "place" xpW.a1 xpW.a2 := rfl
theorem bW : defBody s_BW = xB "place" "invalid weights" xpW := rfl
theorem cW : defScope s_BW = xS "place" := rfl
theorem aC : defArgs s_BC = xA "number" xpC.a1 xpC.a2 := rfl
theorem bC : defBody s_BC = xB "number" "number out of bounds" xpC := rfl
theorem cC : defScope s_BC = xS "number" := rfl
def dd_wrong_item : He.DefD := ⟨("wrong_item", none), "wrong_item", "wrong_item", defArgs s_wrong_item, defBody s_wrong_item, defScope s_wrong_item, [], []⟩
def dd_unlike : He.DefD := ⟨("unlike", none), "unlike", "unlike", defArgs s_unlike, defBody s_unlike, defScope s_unlike, [], []⟩
def dd_Tunnels__check_tunnels : He.DefD := ⟨("Tunnels", some "_check_tunnels"), "_check_tunnels", "Tunnels._check_tunnels", defArgs s_Tunnels__check_tunnels, defBody s_Tunnels__check_tunnels, defScope s_Tunnels__check_tunnels, [], []⟩
def dd_Tunnels_total : He.DefD := ⟨("Tunnels", some "total"), "total", "Tunnels.total", defArgs s_Tunnels_total, defBody s_Tunnels_total, defScope s_Tunnels_total, [], []⟩
def dd_price_terms : He.DefD := ⟨("price_terms", none), "price_terms", "price_terms", defArgs s_price_terms, defBody s_price_terms, defScope s_price_terms, [], []⟩
def dd_some_gain : He.DefD := ⟨("some_gain", none), "some_gain", "some_gain", defArgs s_some_gain, defBody s_some_gain, defScope s_some_gain, [], []⟩
def dd_greatest_set : He.DefD := ⟨("greatest_set", none), "greatest_set", "greatest_set", defArgs s_greatest_set, defBody s_greatest_set, defScope s_greatest_set, [], []⟩
def dd_check_weights : He.DefD := ⟨("check_weights", none), "check_weights", "check_weights", defArgs s_check_weights, defBody s_check_weights, defScope s_check_weights, [], []⟩
def dd_check_ratio : He.DefD := ⟨("check_ratio", none), "check_ratio", "check_ratio", defArgs s_check_ratio, defBody s_check_ratio, defScope s_check_ratio, [], []⟩
def dd_prices : He.DefD := ⟨("prices", none), "prices", "prices", defArgs s_prices, defBody s_prices, defScope s_prices, [], []⟩
def dd_best_set : He.DefD := ⟨("best_set", none), "best_set", "best_set", defArgs s_best_set, defBody s_best_set, defScope s_best_set, [], []⟩
def dd_Shape_init : He.DefD := ⟨("Shape", some "__init__"), "__init__", "Shape.__init__", defArgs s_Shape_init, defBody s_Shape_init, defScope s_Shape_init, [], []⟩
def dd_Tunnels_init : He.DefD := ⟨("Tunnels", some "__init__"), "__init__", "Tunnels.__init__", defArgs s_Tunnels_init, defBody s_Tunnels_init, defScope s_Tunnels_init, [], []⟩
def dd_best_addition : He.DefD := ⟨("best_addition", none), "best_addition", "best_addition", defArgs s_best_addition, defBody s_best_addition, defScope s_best_addition, [], []⟩
def dd_stairs : He.DefD := ⟨("stairs", none), "stairs", "stairs", defArgs s_stairs, defBody s_stairs, defScope s_stairs, [], []⟩
def dd_corners : He.DefD := ⟨("corners", none), "corners", "corners", defArgs s_corners, defBody s_corners, defScope s_corners, [], []⟩
def dd_lowest : He.DefD := ⟨("lowest", none), "lowest", "lowest", defArgs s_lowest, defBody s_lowest, defScope s_lowest, [], []⟩
def dd_height : He.DefD := ⟨("height", none), "height", "height", defArgs s_height, defBody s_height, defScope s_height, [], []⟩
def dd__law_tape : He.DefD := ⟨("_law_tape", none), "_law_tape", "_law_tape", defArgs s__law_tape, defBody s__law_tape, defScope s__law_tape, [], []⟩
def dd__law_next : He.DefD := ⟨("_law_next", none), "_law_next", "_law_next", defArgs s__law_next, defBody s__law_next, defScope s__law_next, [], []⟩
def dd__law_parents : He.DefD := ⟨("_law_parents", none), "_law_parents", "_law_parents", defArgs s__law_parents, defBody s__law_parents, defScope s__law_parents, [], []⟩
def dd__law_is_number : He.DefD := ⟨("_law_is_number", none), "_law_is_number", "_law_is_number", defArgs s__law_is_number, defBody s__law_is_number, defScope s__law_is_number, [], []⟩
def dd__law_same : He.DefD := ⟨("_law_same", none), "_law_same", "_law_same", defArgs s__law_same, defBody s__law_same, defScope s__law_same, [], []⟩
def dd__law_wrong : He.DefD := ⟨("_law_wrong", none), "_law_wrong", "_law_wrong", defArgs s__law_wrong, defBody s__law_wrong, defScope s__law_wrong, [], []⟩
def dd__law_spoilt : He.DefD := ⟨("_law_spoilt", none), "_law_spoilt", "_law_spoilt", defArgs s__law_spoilt, defBody s__law_spoilt, defScope s__law_spoilt, [], []⟩
def dd__law_dug : He.DefD := ⟨("_law_dug", none), "_law_dug", "_law_dug", defArgs s__law_dug, defBody s__law_dug, defScope s__law_dug, [], []⟩
def dd__law_closed : He.DefD := ⟨("_law_closed", none), "_law_closed", "_law_closed", defArgs s__law_closed, defBody s__law_closed, defScope s__law_closed, [], []⟩
def dd__law_rule : He.DefD := ⟨("_law_rule", none), "_law_rule", "_law_rule", defArgs s__law_rule, defBody s__law_rule, defScope s__law_rule, [], []⟩
def dd__law_steeper : He.DefD := ⟨("_law_steeper", none), "_law_steeper", "_law_steeper", defArgs s__law_steeper, defBody s__law_steeper, defScope s__law_steeper, [], []⟩
def dd__law_ends : He.DefD := ⟨("_law_ends", none), "_law_ends", "_law_ends", defArgs s__law_ends, defBody s__law_ends, defScope s__law_ends, [], []⟩
def dd__law_line : He.DefD := ⟨("_law_line", none), "_law_line", "_law_line", defArgs s__law_line, defBody s__law_line, defScope s__law_line, [], []⟩
def dd__law_fraction : He.DefD := ⟨("_law_fraction", none), "_law_fraction", "_law_fraction", defArgs s__law_fraction, defBody s__law_fraction, defScope s__law_fraction, [], []⟩
def dd__law_heights : He.DefD := ⟨("_law_heights", none), "_law_heights", "_law_heights", defArgs s__law_heights, defBody s__law_heights, defScope s__law_heights, [], []⟩
def dd__law_cornered : He.DefD := ⟨("_law_cornered", none), "_law_cornered", "_law_cornered", defArgs s__law_cornered, defBody s__law_cornered, defScope s__law_cornered, [], []⟩
def dd__law_priced : He.DefD := ⟨("_law_priced", none), "_law_priced", "_law_priced", defArgs s__law_priced, defBody s__law_priced, defScope s__law_priced, [], []⟩
def dd__law_asked : He.DefD := ⟨("_law_asked", none), "_law_asked", "_law_asked", defArgs s__law_asked, defBody s__law_asked, defScope s__law_asked, [], []⟩
def dd__law_refused : He.DefD := ⟨("_law_refused", none), "_law_refused", "_law_refused", defArgs s__law_refused, defBody s__law_refused, defScope s__law_refused, [], []⟩
def dd_law : He.DefD := ⟨("law", none), "law", "law", defArgs s_law, defBody s_law, defScope s_law, [], []⟩
def fn : List He.DefD := [dd_wrong_item, dd_unlike, dd_Tunnels__check_tunnels, dd_Tunnels_total, dd_price_terms, dd_some_gain, dd_greatest_set, dd_check_weights, dd_check_ratio, dd_prices, dd_best_set, dd_Shape_init, dd_Tunnels_init, dd_best_addition, dd_stairs, dd_corners, dd_lowest, dd_height, dd__law_tape, dd__law_next, dd__law_parents, dd__law_is_number, dd__law_same, dd__law_wrong, dd__law_spoilt, dd__law_dug, dd__law_closed, dd__law_rule, dd__law_steeper, dd__law_ends, dd__law_line, dd__law_fraction, dd__law_heights, dd__law_cornered, dd__law_priced, dd__law_asked, dd__law_refused, dd_law]
def fa : List He.Fa := [.glo "wrong_item", .glo "unlike", .glo "price_terms", .glo "some_gain", .glo "greatest_set", .glo "check_weights", .glo "check_ratio", .glo "prices", .glo "best_set", .glo "best_addition", .glo "stairs", .glo "corners", .glo "lowest", .glo "height", .glo "_law_tape", .glo "_law_next", .glo "_law_parents", .glo "_law_is_number", .glo "_law_same", .glo "_law_wrong", .glo "_law_spoilt", .glo "_law_dug", .glo "_law_closed", .glo "_law_rule", .glo "_law_steeper", .glo "_law_ends", .glo "_law_line", .glo "_law_fraction", .glo "_law_heights", .glo "_law_cornered", .glo "_law_priced", .glo "_law_asked", .glo "_law_refused", .glo "law", .glo "Shape", .glo "Tunnels", .glo "FindsError", .free "len", .free "range", .free "list", .free "tuple", .free "int", .free "sum", .free "any", .free "all", .free "sorted", .free "abs", .free "max", .free "isinstance", .free "bool", .free "super", .cls "Shape", .cls "Tunnels", .noat "Shape" "parents", .noat "Shape" "size", .noat "Shape" "above", .noat "Tunnels" "shape", .noat "Tunnels" "lengths", .meth "Tunnels" "total", .meth "Tunnels" "_check_tunnels", .mkr "Shape", .mkr "Tunnels"]
abbrev R : OpenRow := OpenLaw.row PySem.Challenge.rw_everypast_k61_whole_stairs
def file_ : Str := PySem.Challenge.pw_everypast_k61_whole_stairs.main.file
abbrev AlK : Type := He.AlD × (List FnX × Bool)
def allFacts (K : Frag) : List Bool := xFacts K "BadWeight" "place" "BadWeight.__init__" file_ ++ (xFacts K "BadCount" "number" "BadCount.__init__" file_ ++ kFacts K)
def obsK (K : Frag) : AlK := (He.obsD fa fn K, ([fnX_obs K "BadWeight", fnX_obs K "BadCount"], (allFacts K).all id))
def valX (q : Str) (s : Stmt) : FnX := some ("__init__", q, defArgs s, .stmts (defBody s), defScope s, mainGlobals, builtinsNs)
def valK : AlK := (He.valD fn, ([valX "BadWeight.__init__" s_BW, valX "BadCount.__init__" s_BC], true))
def asK (g : Addr → Option Obj) : List Addr := He.asD g 4 ++ [cStatics]
def obsKG (g : Addr → Option Obj) : AlK := obsK (He.frG g (asK g))
def hookK : Hook where
  α := AlK
  obs := fun s => obsKG s.heap.get?
  val := fun _ => valK
  says := fun _ h => ∃ K : Frag, K.In h ∧ obsK K = valK
  of := fun _ _ e => ⟨_, He.frG_in, e⟩
  keeps := fun _ _ _ ⟨K, hK, c⟩ k => ⟨K, Frag.In.keeps hK k, c⟩
def obK (s : SharedT) : AlK := obsKG (HandSHeadRun.getT s)
theorem obK_eq (s : SharedT) : obK s = hookK.obs s.abs := by
  have e : HandSHeadRun.getT s = s.abs.heap.get? := funext (HandSHeadRun.getT_eq s)
  show obsKG (HandSHeadRun.getT s) = obsKG s.abs.heap.get?
  rw [e]
def loose : List PySem.Str := (["_wall", "FindsError", "BadShape", "BadLength", "BadWeight", "BadCount", "BadPosition", "BadSide", "Shape", "lowest", "unlike", "wrong_item", "Tunnels", "check_weights", "check_ratio", "price_terms", "some_gain", "greatest_set", "best_set", "prices"] : List PySem.Str) ++ (["best_addition", "stairs", "corners", "height", "_law_tape", "_law_next", "_law_parents", "_law_is_number", "_law_same", "_law_wrong", "_law_spoilt", "_law_dug", "_law_closed", "_law_rule", "_law_steeper", "_law_ends", "_law_line", "_law_fraction", "_law_heights", "_law_cornered"] : List PySem.Str) ++ (["_law_priced", "_law_asked", "_law_refused"] : List PySem.Str)
theorem run (w : World) : HandSHeadRun.RunEq R (view R.prog [50]) hookK obK 6000 loose w := by
  intro os
  kernel_rfl
end K61
/-! The end: all defs by their promises, the law. -/
namespace K61
open PySem PySem.Spec PyProof.Rows L2 PySem.W
theorem fact_at {l : List Bool} (h : l.all id = true) (i : Nat) {b : Bool} (e : l[i]? = some b) : b = true := List.all_eq_true.mp h b (List.mem_of_getElem? e)
theorem xt_BadWeight {K : Frag} {h : Heap} {mg : Str → Option Value} (X : K.In h) (G : h.Ns mainGlobals mg) (c : obsK K = valK) (hs : mg "super" = none) : ∃ cc cda, XTxt R.prog K mg "BadWeight" "place" "invalid weights" "BadWeight.__init__" xpW (He.ga K "BadWeight") (He.ma K (He.ga K "BadWeight") "__init__") cc cda := by
  have cA : (allFacts K).all id = true := congrArg (fun z : AlK => z.2.2) c
  have cF : [fnX_obs K "BadWeight", fnX_obs K "BadCount"] = [valX "BadWeight.__init__" s_BW, valX "BadCount.__init__" s_BC] := congrArg (fun z : AlK => z.2.1) c
  have e : fnX_obs K "BadWeight" = valX "BadWeight.__init__" s_BW := by
    have := congrArg (fun z : List FnX => z[0]?) cF
    exact Option.some.inj this
  obtain ⟨cc, cda, h1, h2, h3⟩ := xfn_ok e (fact_at cA 9 rfl)
  refine ⟨cc, cda, ⟨mg_of X G (He.eqO_ok (fact_at cA 0 rfl)), ?_, He.eqO_ok (fact_at cA 2 rfl), He.eqO_ok (fact_at cA 3 rfl), He.eqO_ok (fact_at cA 4 rfl), of_decide_eq_true (fact_at cA 5 rfl), (fact_at cA 6 rfl), of_decide_eq_true (fact_at cA 7 rfl), of_decide_eq_true (fact_at cA 8 rfl), h1, h2, h3, He.eqO_ok (fact_at cA 10 rfl), hs, by decide +kernel, of_decide_eq_true (fact_at cA 11 rfl), of_decide_eq_true (fact_at cA 12 rfl),
    fun _ _ _ _ _ _ _ _ => rfl, fun _ _ => ⟨_, rfl⟩, fun _ _ => rfl, fun _ _ => rfl, fun _ _ => rfl, by decide +kernel, by decide +kernel, by decide +kernel, by decide +kernel⟩⟩
  obtain ⟨nm, qn, N, bs, bm, sn, sub, ab, col, dd, k0, k1, k2, k3, k5, r1, r2, r3⟩ := xcB_ok (fact_at cA 1 rfl)
  exact ⟨nm, qn, N, bs, bm, sn, sub, ab, col, dd, k0, k1, k2, k3, k5, r1, r2, r3⟩
theorem xt_BadCount {K : Frag} {h : Heap} {mg : Str → Option Value} (X : K.In h) (G : h.Ns mainGlobals mg) (c : obsK K = valK) (hs : mg "super" = none) : ∃ cc cda, XTxt R.prog K mg "BadCount" "number" "number out of bounds" "BadCount.__init__" xpC (He.ga K "BadCount") (He.ma K (He.ga K "BadCount") "__init__") cc cda := by
  have cA : (allFacts K).all id = true := congrArg (fun z : AlK => z.2.2) c
  have cF : [fnX_obs K "BadWeight", fnX_obs K "BadCount"] = [valX "BadWeight.__init__" s_BW, valX "BadCount.__init__" s_BC] := congrArg (fun z : AlK => z.2.1) c
  have e : fnX_obs K "BadCount" = valX "BadCount.__init__" s_BC := by
    have := congrArg (fun z : List FnX => z[1]?) cF
    exact Option.some.inj this
  obtain ⟨cc, cda, h1, h2, h3⟩ := xfn_ok e (fact_at cA 30 rfl)
  refine ⟨cc, cda, ⟨mg_of X G (He.eqO_ok (fact_at cA 21 rfl)), ?_, He.eqO_ok (fact_at cA 23 rfl), He.eqO_ok (fact_at cA 24 rfl), He.eqO_ok (fact_at cA 25 rfl), of_decide_eq_true (fact_at cA 26 rfl), (fact_at cA 27 rfl), of_decide_eq_true (fact_at cA 28 rfl), of_decide_eq_true (fact_at cA 29 rfl), h1, h2, h3, He.eqO_ok (fact_at cA 31 rfl), hs, by decide +kernel, of_decide_eq_true (fact_at cA 32 rfl), of_decide_eq_true (fact_at cA 33 rfl),
    fun _ _ _ _ _ _ _ _ => rfl, fun _ _ => ⟨_, rfl⟩, fun _ _ => rfl, fun _ _ => rfl, fun _ _ => rfl, by decide +kernel, by decide +kernel, by decide +kernel, by decide +kernel⟩⟩
  obtain ⟨nm, qn, N, bs, bm, sn, sub, ab, col, dd, k0, k1, k2, k3, k5, r1, r2, r3⟩ := xcB_ok (fact_at cA 22 rfl)
  exact ⟨nm, qn, N, bs, bm, sn, sub, ab, col, dd, k0, k1, k2, k3, k5, r1, r2, r3⟩
theorem facts {w : World} {K : Frag} {h : Heap} {mg : Str → Option Value} {f : Addr} (X : K.In h) (G : h.Ns mainGlobals mg) (hfa : mg ("law" : Str) = some (.ref f)) (c : obsK K = valK) :
    ∃ fd : FuncData, (∀ (s : Shared) (v : Value), BindsTo s fd ⟨[v], []⟩ [("_law_script", v)]) ∧ ∀ base : Heap, K.In base → base.Ns mainGlobals mg → FnOk R.prog w K mg base (L2N.CX R.prog w) 10 f fd ["_law_script"] (spLaw K) := by
  have c1 : He.SaysD fa fn K := congrArg (fun z : AlK => z.1) c
  have cA : (allFacts K).all id = true := congrArg (fun z : AlK => z.2.2) c
  obtain ⟨fd_wrong_item, F_wrong_item⟩ := c1.def_ 0 (d := dd_wrong_item) rfl
  obtain ⟨fd_unlike, F_unlike⟩ := c1.def_ 1 (d := dd_unlike) rfl
  obtain ⟨fd_Tunnels__check_tunnels, F_Tunnels__check_tunnels⟩ := c1.def_ 2 (d := dd_Tunnels__check_tunnels) rfl
  obtain ⟨fd_Tunnels_total, F_Tunnels_total⟩ := c1.def_ 3 (d := dd_Tunnels_total) rfl
  obtain ⟨fd_price_terms, F_price_terms⟩ := c1.def_ 4 (d := dd_price_terms) rfl
  obtain ⟨fd_some_gain, F_some_gain⟩ := c1.def_ 5 (d := dd_some_gain) rfl
  obtain ⟨fd_greatest_set, F_greatest_set⟩ := c1.def_ 6 (d := dd_greatest_set) rfl
  obtain ⟨fd_check_weights, F_check_weights⟩ := c1.def_ 7 (d := dd_check_weights) rfl
  obtain ⟨fd_check_ratio, F_check_ratio⟩ := c1.def_ 8 (d := dd_check_ratio) rfl
  obtain ⟨fd_prices, F_prices⟩ := c1.def_ 9 (d := dd_prices) rfl
  obtain ⟨fd_best_set, F_best_set⟩ := c1.def_ 10 (d := dd_best_set) rfl
  obtain ⟨fd_Shape_init, F_Shape_init⟩ := c1.def_ 11 (d := dd_Shape_init) rfl
  obtain ⟨fd_Tunnels_init, F_Tunnels_init⟩ := c1.def_ 12 (d := dd_Tunnels_init) rfl
  obtain ⟨fd_best_addition, F_best_addition⟩ := c1.def_ 13 (d := dd_best_addition) rfl
  obtain ⟨fd_stairs, F_stairs⟩ := c1.def_ 14 (d := dd_stairs) rfl
  obtain ⟨fd_corners, F_corners⟩ := c1.def_ 15 (d := dd_corners) rfl
  obtain ⟨fd_lowest, F_lowest⟩ := c1.def_ 16 (d := dd_lowest) rfl
  obtain ⟨fd_height, F_height⟩ := c1.def_ 17 (d := dd_height) rfl
  obtain ⟨fd__law_tape, F__law_tape⟩ := c1.def_ 18 (d := dd__law_tape) rfl
  obtain ⟨fd__law_next, F__law_next⟩ := c1.def_ 19 (d := dd__law_next) rfl
  obtain ⟨fd__law_parents, F__law_parents⟩ := c1.def_ 20 (d := dd__law_parents) rfl
  obtain ⟨fd__law_is_number, F__law_is_number⟩ := c1.def_ 21 (d := dd__law_is_number) rfl
  obtain ⟨fd__law_same, F__law_same⟩ := c1.def_ 22 (d := dd__law_same) rfl
  obtain ⟨fd__law_wrong, F__law_wrong⟩ := c1.def_ 23 (d := dd__law_wrong) rfl
  obtain ⟨fd__law_spoilt, F__law_spoilt⟩ := c1.def_ 24 (d := dd__law_spoilt) rfl
  obtain ⟨fd__law_dug, F__law_dug⟩ := c1.def_ 25 (d := dd__law_dug) rfl
  obtain ⟨fd__law_closed, F__law_closed⟩ := c1.def_ 26 (d := dd__law_closed) rfl
  obtain ⟨fd__law_rule, F__law_rule⟩ := c1.def_ 27 (d := dd__law_rule) rfl
  obtain ⟨fd__law_steeper, F__law_steeper⟩ := c1.def_ 28 (d := dd__law_steeper) rfl
  obtain ⟨fd__law_ends, F__law_ends⟩ := c1.def_ 29 (d := dd__law_ends) rfl
  obtain ⟨fd__law_line, F__law_line⟩ := c1.def_ 30 (d := dd__law_line) rfl
  obtain ⟨fd__law_fraction, F__law_fraction⟩ := c1.def_ 31 (d := dd__law_fraction) rfl
  obtain ⟨fd__law_heights, F__law_heights⟩ := c1.def_ 32 (d := dd__law_heights) rfl
  obtain ⟨fd__law_cornered, F__law_cornered⟩ := c1.def_ 33 (d := dd__law_cornered) rfl
  obtain ⟨fd__law_priced, F__law_priced⟩ := c1.def_ 34 (d := dd__law_priced) rfl
  obtain ⟨fd__law_asked, F__law_asked⟩ := c1.def_ 35 (d := dd__law_asked) rfl
  obtain ⟨fd__law_refused, F__law_refused⟩ := c1.def_ 36 (d := dd__law_refused) rfl
  obtain ⟨fd_law, F_law⟩ := c1.def_ 37 (d := dd_law) rfl
  have e := hfa.symm.trans (He.glo_ok X G (c1.fact 33 (f := .glo "law") rfl))
  cases e
  obtain ⟨ccW, cdW, TW⟩ := xt_BadWeight X G c (He.free_ok X G (c1.fact 50 (f := .free "super") rfl))
  obtain ⟨ccC, cdC, TC⟩ := xt_BadCount X G c (He.free_ok X G (c1.fact 50 (f := .free "super") rfl))
  have b := FunD.bindsA (ps := ["_law_script"]) F_law fun _ _ _ _ _ _ us hl => match us, hl with | [_], _ => rfl
  refine ⟨fd_law, fun s v => b s [v] rfl, fun base _ _ => ?_⟩
  have T : Txt K mg := ⟨(He.free_ok X G (c1.fact 37 (f := .free "len") rfl)), (He.free_ok X G (c1.fact 38 (f := .free "range") rfl)), (He.free_ok X G (c1.fact 39 (f := .free "list") rfl)), (He.free_ok X G (c1.fact 40 (f := .free "tuple") rfl)), (He.free_ok X G (c1.fact 41 (f := .free "int") rfl)), (He.free_ok X G (c1.fact 42 (f := .free "sum") rfl)), (He.free_ok X G (c1.fact 43 (f := .free "any") rfl)), (He.free_ok X G (c1.fact 44 (f := .free "all") rfl)), (He.free_ok X G (c1.fact 45 (f := .free "sorted") rfl)), (He.free_ok X G (c1.fact 46 (f := .free "abs") rfl)), (He.free_ok X G (c1.fact 47 (f := .free "max") rfl)), (He.free_ok X G (c1.fact 48 (f := .free "isinstance") rfl)), (He.free_ok X G (c1.fact 49 (f := .free "bool") rfl)), (He.cls_ok (c1.fact 51 (f := .cls "Shape") rfl)), (He.cls_ok (c1.fact 52 (f := .cls "Tunnels") rfl)), (He.noat_ok (c1.fact 53 (f := .noat "Shape" "parents") rfl)), (He.noat_ok (c1.fact 54 (f := .noat "Shape" "size") rfl)), (He.noat_ok (c1.fact 55 (f := .noat "Shape" "above") rfl)), (He.noat_ok (c1.fact 56 (f := .noat "Tunnels" "shape") rfl)), (He.noat_ok (c1.fact 57 (f := .noat "Tunnels" "lengths") rfl))⟩
  have ET : ETxt K mg (He.ga K "FindsError") (He.ga K "BadWeight") (He.ga K "BadCount") := ⟨(He.glo_ok X G (c1.fact 36 (f := .glo "FindsError") rfl)), TW.gC, TC.gC, ⟨He.eqO_ok (fact_at cA 13 rfl), He.eqO_ok (fact_at cA 14 rfl), of_decide_eq_true (fact_at cA 7 rfl), (fact_at cA 15 rfl), He.eqO_ok (fact_at cA 16 rfl), He.eqO_ok (fact_at cA 17 rfl), of_decide_eq_true (fact_at cA 18 rfl), of_decide_eq_true (fact_at cA 19 rfl)⟩, ⟨He.eqO_ok (fact_at cA 34 rfl), He.eqO_ok (fact_at cA 35 rfl), of_decide_eq_true (fact_at cA 28 rfl), (fact_at cA 36 rfl), He.eqO_ok (fact_at cA 37 rfl), He.eqO_ok (fact_at cA 38 rfl), of_decide_eq_true (fact_at cA 39 rfl), of_decide_eq_true (fact_at cA 40 rfl)⟩, ⟨He.eqO_ok (fact_at cA 13 rfl), He.eqO_ok (fact_at cA 14 rfl), of_decide_eq_true (fact_at cA 7 rfl), (fact_at cA 15 rfl)⟩, ⟨He.eqO_ok (fact_at cA 34 rfl), He.eqO_ok (fact_at cA 35 rfl), of_decide_eq_true (fact_at cA 28 rfl), (fact_at cA 36 rfl)⟩, TW.noN, TC.noN, of_decide_eq_true (fact_at cA 20 rfl), of_decide_eq_true (fact_at cA 41 rfl), of_decide_eq_true (fact_at cA 42 rfl), of_decide_eq_true (fact_at cA 43 rfl), of_decide_eq_true (fact_at cA 44 rfl), of_decide_eq_true (fact_at cA 45 rfl)⟩
  have d_wrong_item := ok_wrong_item (P := R.prog) (w := w) (base := base) T F_wrong_item (He.glo_ok X G (c1.fact 0 (f := .glo "wrong_item") rfl))
  have d_unlike := ok_unlike (P := R.prog) (w := w) (base := base) T F_unlike (He.glo_ok X G (c1.fact 1 (f := .glo "unlike") rfl))
  have d_check := ok_check_tunnels (P := R.prog) (w := w) (base := base) T F_Tunnels__check_tunnels (He.meth_ok (c1.fact 59 (f := .meth "Tunnels" "_check_tunnels") rfl))
  have d_total := ok_total T d_unlike d_check F_Tunnels_total (He.meth_ok (c1.fact 58 (f := .meth "Tunnels" "total") rfl))
  have d_price_terms := ok_price_terms (P := R.prog) (w := w) (base := base) T F_price_terms (He.glo_ok X G (c1.fact 2 (f := .glo "price_terms") rfl))
  have d_some_gain := ok_some_gain (P := R.prog) (w := w) (base := base) T F_some_gain (He.glo_ok X G (c1.fact 3 (f := .glo "some_gain") rfl))
  have d_greatest_set := ok_greatest_set (P := R.prog) (w := w) (base := base) T F_greatest_set (He.glo_ok X G (c1.fact 4 (f := .glo "greatest_set") rfl))
  have d_check_weights := ok_check_weights T TW d_wrong_item F_check_weights (He.glo_ok X G (c1.fact 5 (f := .glo "check_weights") rfl))
  have d_check_ratio := ok_check_ratio T d_check_weights F_check_ratio (He.glo_ok X G (c1.fact 6 (f := .glo "check_ratio") rfl))
  have d_prices := ok_prices T d_check_ratio d_price_terms F_prices (He.glo_ok X G (c1.fact 7 (f := .glo "prices") rfl))
  have d_best_set := ok_best_set T d_check_weights d_price_terms d_some_gain d_greatest_set d_total F_best_set (He.glo_ok X G (c1.fact 8 (f := .glo "best_set") rfl))
  have d_Shape := ok_Shape_init (P := R.prog) (w := w) (base := base) T (He.mkr_ok (c1.fact 60 (f := .mkr "Shape") rfl)) (He.glo_ok X G (c1.fact 34 (f := .glo "Shape") rfl)) F_Shape_init
  have d_Tunnels := ok_Tunnels_init T d_Shape d_wrong_item (He.mkr_ok (c1.fact 61 (f := .mkr "Tunnels") rfl)) (He.glo_ok X G (c1.fact 35 (f := .glo "Tunnels") rfl)) F_Tunnels_init
  have d_best_addition := ok_best_addition T d_Tunnels d_best_set F_best_addition (He.glo_ok X G (c1.fact 9 (f := .glo "best_addition") rfl))
  have d_stairs := ok_stairs T d_check_weights d_best_addition F_stairs (He.glo_ok X G (c1.fact 10 (f := .glo "stairs") rfl))
  have d_corners := ok_corners T d_stairs d_total F_corners (He.glo_ok X G (c1.fact 11 (f := .glo "corners") rfl))
  have d_lowest := ok_lowest (P := R.prog) (w := w) (base := base) T F_lowest (He.glo_ok X G (c1.fact 12 (f := .glo "lowest") rfl))
  have d_height := ok_height T TC d_corners d_lowest F_height (He.glo_ok X G (c1.fact 13 (f := .glo "height") rfl))
  have e_tape := ok__law_tape (P := R.prog) (w := w) (base := base) T F__law_tape (He.glo_ok X G (c1.fact 14 (f := .glo "_law_tape") rfl))
  have e_next := ok__law_next (P := R.prog) (w := w) (base := base) T F__law_next (He.glo_ok X G (c1.fact 15 (f := .glo "_law_next") rfl))
  have e_parents := ok__law_parents T e_next F__law_parents (He.glo_ok X G (c1.fact 16 (f := .glo "_law_parents") rfl))
  have e_num := ok__law_is_number (P := R.prog) (w := w) (base := base) T F__law_is_number (He.glo_ok X G (c1.fact 17 (f := .glo "_law_is_number") rfl))
  have e_same := ok__law_same T e_num F__law_same (He.glo_ok X G (c1.fact 18 (f := .glo "_law_same") rfl))
  have h_num := okH__law_is_number (P := R.prog) (w := w) (base := base) T F__law_is_number (He.glo_ok X G (c1.fact 17 (f := .glo "_law_is_number") rfl))
  have h_same := okH__law_same T h_num F__law_same (He.glo_ok X G (c1.fact 18 (f := .glo "_law_same") rfl))
  have e_wrong := ok__law_wrong (P := R.prog) (w := w) (base := base) T F__law_wrong (He.glo_ok X G (c1.fact 19 (f := .glo "_law_wrong") rfl))
  have e_spoilt := ok__law_spoilt T e_next F__law_spoilt (He.glo_ok X G (c1.fact 20 (f := .glo "_law_spoilt") rfl))
  have e_dug := ok__law_dug T e_next e_parents F__law_dug (He.glo_ok X G (c1.fact 21 (f := .glo "_law_dug") rfl))
  have e_closed := ok__law_closed (P := R.prog) (w := w) (base := base) T F__law_closed (He.glo_ok X G (c1.fact 22 (f := .glo "_law_closed") rfl))
  have e_rule := ok__law_rule (P := R.prog) (w := w) (base := base) T F__law_rule (He.glo_ok X G (c1.fact 23 (f := .glo "_law_rule") rfl))
  have e_steeper := ok__law_steeper (P := R.prog) (w := w) (base := base) T F__law_steeper (He.glo_ok X G (c1.fact 24 (f := .glo "_law_steeper") rfl))
  have e_ends := ok__law_ends T e_steeper F__law_ends (He.glo_ok X G (c1.fact 25 (f := .glo "_law_ends") rfl))
  have e_line := ok__law_line (P := R.prog) (w := w) (base := base) T F__law_line (He.glo_ok X G (c1.fact 26 (f := .glo "_law_line") rfl))
  have e_fraction := ok__law_fraction T e_num F__law_fraction (He.glo_ok X G (c1.fact 27 (f := .glo "_law_fraction") rfl))
  have e_heights := ok__law_heights T d_height e_fraction e_line F__law_heights (He.glo_ok X G (c1.fact 28 (f := .glo "_law_heights") rfl))
  have e_cornered := ok__law_cornered T d_corners e_same F__law_cornered (He.glo_ok X G (c1.fact 29 (f := .glo "_law_cornered") rfl))
  have e_priced := ok__law_priced T d_prices e_num e_rule F__law_priced (He.glo_ok X G (c1.fact 30 (f := .glo "_law_priced") rfl))
  have e_asked := ok__law_asked T e_next F__law_asked (He.glo_ok X G (c1.fact 31 (f := .glo "_law_asked") rfl))
  have e_refused := ok__law_refused T ET d_height e_wrong h_same F__law_refused (He.glo_ok X G (c1.fact 32 (f := .glo "_law_refused") rfl))
  exact ok_law T e_tape e_next e_dug e_spoilt d_Tunnels e_closed e_ends e_asked e_cornered e_heights e_priced e_refused F_law
/-- the walk that the head asks for: what a def lets out may hang on the world -/
theorem walk_ofW {l : OpenLaw} {n k : Nat} {q : Program} {loose : List Str} {XP : (Str → Option Value) → Heap → Prop} {YP : World → Heap → Prop} {d : DefRec} {CX : World → CXT} {x : Str}
    (hn : l.most = some n) (hn2 : n ≤ sizeLine) (hdf : d.params.defaults = []) (hr : Room k callerA)
    (F : ∀ (w : World) (mg : Str → Option Value) (fa : Addr) (h : Heap), YP w h → h.Ns mainGlobals mg → mg d.name = some (.ref fa) →
      ∃ (K : Frag) (fd : FuncData) (sp : Sp), K.In h ∧ (∀ (s : Shared) (u : Value), BindsTo s fd ⟨[u], []⟩ [(x, u)]) ∧
        (∀ (H : Hp) (a : Addr) (ns : List Int), ns.length ≤ n → Only H → SqL K H a (ns.map V.int) → sp [.ref a] H (fun v _ => v = .bl true) fun _ _ _ => False) ∧
        ∀ base : Heap, K.In base → base.Ns mainGlobals mg → FnOk l.prog w K mg base (CX w) k fa fd [x] sp)
    (hCX : ∀ (w : World) (H : Hp) (s : Shared) (e : Value) (s' : Shared), CX w [] H s (fun _ _ _ => False) e s' → False) :
    WalkO q loose XP YP l.row.toRowW d [] (fun f vs => PySem.call f vs) := by
  refine Att.attach_call hn hdf fun w s₀ s₁ mg mb fa o pm cd doc a vs ns G Y ho hd hcd hmg hobj hints hlen hg => ?_
  obtain ⟨K, fd, sp, KX, hb, hsp, hF⟩ := F w mg fa _ Y G.T.g hmg
  exact law_call KX G.T.g G.T.b G.T.builtins G.T.nolimit hg hobj hints (Nat.le_trans hlen hn2) hr hF hb (fun H hO hS => hsp H a ns hlen hO hS) fun H e s' => hCX w H s₁ e s'
end K61
open PySem PySem.W PySem.Calls PyProof.Rows
theorem PySem.Challenge.cw_everypast_k61_whole_stairs_holds : PySem.Challenge.rw_everypast_k61_whole_stairs.Holds := by
  w_on; o_law
  refine HandSHeadRun.head_any (r := OpenLaw.row PySem.Challenge.rw_everypast_k61_whole_stairs) (q := view (OpenLaw.row PySem.Challenge.rw_everypast_k61_whole_stairs).prog [50]) (H := K61.hookK) (ob := K61.obK) (M := 6000) (loose := K61.loose) (d := HandSHeadRun.topDef (OpenLaw.row PySem.Challenge.rw_everypast_k61_whole_stairs).prog 50) (kwd := []) K61.obK_eq
    (by kernel_rfl) (fun s => by kernel_rfl) K61.run (by kernel_rfl) (by kernel_rfl) (by kernel_rfl) (by rfl) (by first | assumption | decide +kernel) (by decide +kernel) ⟨rfl, rfl, rfl, rfl, rfl, by decide +kernel⟩ ?hw ?hc
  case hw => w_witness2
  case hc =>
    refine K61.walk_ofW (l := PySem.Challenge.rw_everypast_k61_whole_stairs) (n := 63) (k := 10) (x := "_law_script") (CX := L2N.CX PySem.Challenge.rw_everypast_k61_whole_stairs.prog) rfl (by decide) (by kernel_rfl) ⟨rfl, by decide, by decide⟩ ?F ?X
    case X =>
      intro w H s e s' h
      obtain ⟨_, _, _, _, _, _, _, _, _, _, _, _, z⟩ := h
      exact z
    case F =>
      intro w mg fa h Y G hmg0
      obtain ⟨K, KX, c⟩ := Y
      have hmg : mg ("law" : PySem.Str) = some (.ref fa) := by
        have e : (HandSHeadRun.topDef (OpenLaw.row PySem.Challenge.rw_everypast_k61_whole_stairs).prog 50).name = ("law" : PySem.Str) := by kernel_rfl
        rw [← e]
        exact hmg0
      obtain ⟨fd, hb, hF⟩ := K61.facts (w := w) KX G hmg c
      exact ⟨K, fd, K61.spLaw K, KX, hb, fun H a ns hl _ hS => ⟨a, ns, rfl, hS, hl, fun _ => rfl⟩, hF⟩
