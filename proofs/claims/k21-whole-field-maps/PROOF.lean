import PyProof.Rows.All
import Wide.All
import OpenK.AllK
import Wide.FinOn
import HandS.ForMost
import PySem.Challenge.RW_fieldmaps_k21_whole_field_maps
import HandS.Exc
import HandS.TryOnly
import HandS.ExcOwn
import HandS.WordsExc
import HandS.Evl
import HandS.IsInst
import HandS.Zip
import HandS.Deep
import HandS.Defaults
import HandS.Star
import HandS.OwnEq
import HandS.GenList
import KE.GoesNew
import PyProof.WalksMore
import HandS.Comp
set_option Elab.async false
set_option maxRecDepth 100000
set_option maxHeartbeats 4000000
/-! The mirrors: what each def computes, as plain Lean over lists of ints. -/
namespace Fm
def loopN {α : Type} : Nat → (Nat → α → α) → α → α
  | 0, _, s => s
  | n + 1, f, s => f n (loopN n f s)
theorem loopN_succ {α : Type} (n : Nat) (f : Nat → α → α) (s : α) : loopN (n + 1) f s = f n (loopN n f s) := rfl
theorem loopN_inv {α : Type} {P : α → Prop} {f : Nat → α → α} {s : α} (h0 : P s) (hs : ∀ i x, P x → P (f i x)) : ∀ n, P (loopN n f s)
  | 0 => h0
  | n + 1 => hs n _ (loopN_inv h0 hs n)
theorem loopN_length {f : Nat → List Int → List Int} {s : List Int} (hf : ∀ i x, (f i x).length = x.length) (n : Nat) : (loopN n f s).length = s.length :=
  loopN_inv (P := fun x => x.length = s.length) rfl (fun i x h => (hf i x).trans h) n

/-- zeros at the end left out -/
def strip (xs : List Int) : List Int := (xs.reverse.dropWhile (fun x => x == 0)).reverse
theorem strip_nil : strip [] = [] := rfl
theorem strip_zero (xs : List Int) : strip (xs ++ [0]) = strip xs := by
  unfold strip
  rw [List.reverse_append]
  simp
theorem strip_last (xs : List Int) (x : Int) (h : x ≠ 0) : strip (xs ++ [x]) = xs ++ [x] := by
  unfold strip
  rw [List.reverse_append]
  have e : (x == 0) = false := by simpa using h
  simp [List.dropWhile_cons, e]
theorem strip_length (xs : List Int) : (strip xs).length ≤ xs.length := by
  unfold strip
  rw [List.length_reverse]
  exact Nat.le_trans (List.dropWhile_sublist (fun x => x == 0)).length_le (by simp)
theorem strip_mem {xs : List Int} {x : Int} (h : x ∈ strip xs) : x ∈ xs := by
  unfold strip at h
  rw [List.mem_reverse] at h
  have := (List.dropWhile_sublist (fun x => x == 0)).mem h
  simpa using this
def trim (p : Int) (xs : List Int) : List Int := strip (xs.map (· % p))
/-- all items from 0 to p - 1 -/
def Rw (p : Int) (xs : List Int) : Prop := ∀ x ∈ xs, 0 ≤ x ∧ x < p
theorem trim_length (p : Int) (xs : List Int) : (trim p xs).length ≤ xs.length := Nat.le_trans (strip_length _) (by simp)
theorem trim_rw {p : Int} (hp : 0 < p) (xs : List Int) : Rw p (trim p xs) := fun x hx => by
  have h := strip_mem hx
  rw [List.mem_map] at h
  obtain ⟨y, _, rfl⟩ := h
  exact ⟨Int.emod_nonneg _ (by omega), Int.emod_lt_of_pos _ hp⟩
def padR (row : List Int) (n : Int) : List Int := row ++ List.replicate (n - row.length).toNat 0
theorem padR_length (row : List Int) (n : Int) (h : (row.length : Int) ≤ n) : ((padR row n).length : Int) = n := by
  unfold padR
  rw [List.length_append, List.length_replicate]
  omega
theorem padR_rw {p n : Int} {row : List Int} (hp : 0 < p) (h : Rw p row) : Rw p (padR row n) := fun x hx => by
  unfold padR at hx
  rcases List.mem_append.mp hx with q | q
  · exact h x q
  · rw [List.eq_of_mem_replicate q]; omega
def addR (a b : List Int) (p : Int) : List Int :=
  trim p (List.zipWith (· + ·) (padR a (max a.length b.length : Nat)) (padR b (max a.length b.length : Nat)))
def subR (a b : List Int) (p : Int) : List Int := addR a (b.map (- ·)) p
/-- the products' sums -/
def convIn (a b : List Int) (i : Nat) (out : List Int) : List Int := loopN b.length (fun k o => o.set (i + k) (o.getD (i + k) 0 + a.getD i 0 * b.getD k 0)) out
def conv (a b : List Int) : List Int := loopN a.length (convIn a b) (List.replicate (a.length + b.length) 0)
theorem convIn_length (a b : List Int) (i : Nat) (out : List Int) : (convIn a b i out).length = out.length := loopN_length (fun _ _ => by simp) _
theorem conv_length (a b : List Int) : (conv a b).length = a.length + b.length := by
  unfold conv
  rw [loopN_length (convIn_length a b), List.length_replicate]
def mulR (a b : List Int) (p : Int) : List Int := trim p (conv a b)
/-- Euclid on numbers, its numbers looked at -/
def eu : Nat → Int → Int → Int → Int → Option Int
  | 0, _, _, _, _ => none
  | n + 1, old, new, u, v =>
    if new = 0 then (if old = 1 then some u else none)
    else if 0 < new ∧ new ≤ 1000 ∧ 0 ≤ old ∧ old ≤ 1000 then eu n new (old - old / new * new) v (u - old / new * v) else none
def invM (a p : Int) : Option Int := (eu 30 p (a % p) 0 1).map (· % p)
theorem invM_one {p : Int} (h : 1 < p) (h2 : p ≤ 1000) : invM 1 p = some 1 := by
  unfold invM
  have e : (1 : Int) % p = 1 := Int.emod_eq_of_lt (by omega) h
  rw [e]
  show Option.map (· % p) (if (1 : Int) = 0 then _ else if (0 : Int) < 1 ∧ (1 : Int) ≤ 1000 ∧ 0 ≤ p ∧ p ≤ 1000 then eu 29 1 (p - p / 1 * 1) 1 (0 - p / 1 * 1) else none) = some 1
  rw [if_neg (by omega), if_pos (by omega)]
  have e2 : p - p / 1 * 1 = 0 := by omega
  rw [e2]
  show Option.map (· % p) (if (0 : Int) = 0 then (if (1 : Int) = 1 then some 1 else none) else _) = some 1
  rw [if_pos rfl, if_pos rfl]
  show some (1 % p) = some 1
  rw [e]
def divIn (b : List Int) (p factor : Int) (k : Nat) (rest : List Int) : List Int := loopN b.length (fun i r => r.set (k + i) ((r.getD (k + i) 0 - factor * b.getD i 0) % p)) rest
def divTurn (b : List Int) (p last : Int) (nq : Nat) (t : Nat) (s : List Int × List Int) : List Int × List Int :=
  (s.1.set (nq - 1 - t) (s.2.getD (nq - 1 - t + b.length - 1) 0 * last % p), divIn b p (s.2.getD (nq - 1 - t + b.length - 1) 0 * last % p) (nq - 1 - t) s.2)
def divQ (a b : List Int) : Nat := a.length + 1 - b.length
def divL (a b : List Int) (p last : Int) (t : Nat) : List Int × List Int := loopN t (divTurn b p last (divQ a b)) (List.replicate (divQ a b) 0, a)
theorem divIn_length (b : List Int) (p factor : Int) (k : Nat) (rest : List Int) : (divIn b p factor k rest).length = rest.length := loopN_length (fun _ _ => by simp) _
theorem divL_length (a b : List Int) (p last : Int) (t : Nat) : (divL a b p last t).1.length = divQ a b ∧ (divL a b p last t).2.length = a.length := by
  unfold divL
  refine loopN_inv (P := fun s : List Int × List Int => s.1.length = divQ a b ∧ s.2.length = a.length) ⟨by simp, rfl⟩ (fun i x h => ?_) t
  unfold divTurn
  exact ⟨by simp [h.1], by rw [divIn_length]; exact h.2⟩
def divR (a b : List Int) (p last : Int) : List Int × List Int := (trim p (divL a b p last (divQ a b)).1, trim p (divL a b p last (divQ a b)).2)
theorem divR_length (a b : List Int) (p last : Int) : (divR a b p last).2.length ≤ a.length := by
  unfold divR
  refine Nat.le_trans (trim_length _ _) ?_
  rw [(divL_length a b p last _).2]
  exact Nat.le_refl _
theorem divR_rw {p : Int} (hp : 0 < p) (a b : List Int) (last : Int) : Rw p (divR a b p last).1 ∧ Rw p (divR a b p last).2 := ⟨trim_rw hp _, trim_rw hp _⟩
def lastD (b : List Int) : Int := b.getD (b.length - 1) 0
/-- the remainder, if the last coefficient has an inverse -/
def remO (a b : List Int) (p : Int) : Option (List Int) := (invM (lastD b) p).map fun r => (divR a b p r).2
def gcdR (p : Int) : Nat → List Int → List Int → Option (List Int)
  | 0, _, _ => none
  | n + 1, a, b => if b.length = 0 then (if a.length = 0 then some [] else (invM (lastD a) p).map fun r => mulR a [r] p)
    else match remO a b p with
      | some r => gcdR p n b r
      | none => none
/-- the remainder by a monic polynomial -/
def remM (a m : List Int) (p : Int) : List Int := (divR a m p 1).2
def powL (m : List Int) (p : Int) : Nat → Int → List Int → List Int → List Int
  | 0, _, out, _ => out
  | n + 1, k, out, base => if 0 < k then powL m p n (k / 2) (if k % 2 = 1 then remM (mulR out base p) m p else out) (remM (mulR base base p) m p) else out
def powR (a : List Int) (k : Int) (m : List Int) (p : Int) : List Int := powL m p 10 k (remM [1] m p) (remM a m p)
def irrS (m : List Int) (p : Int) : Nat → Option (List Int)
  | 0 => some (remM [0, 1] m p)
  | t + 1 => match irrS m p t with
    | some w => match gcdR p 20 m (subR (powR w p m p) [0, 1] p) with
      | some g => if g.length = 1 then some (powR w p m p) else none
      | none => none
    | none => none
def irrP (m : List Int) (p : Int) : Bool := (irrS m p ((m.length - 1) / 2)).isSome
def sumP (a b : List Int) (p : Int) : List Int := List.zipWith (fun x y => (x + y) % p) a b
def prodP (a b m : List Int) (p : Int) : List Int := padR (remM (mulR (trim p a) (trim p b) p) m p) ((m.length : Int) - 1)
end Fm
set_option Elab.async false
set_option linter.all false
set_option maxRecDepth 100000
set_option maxHeartbeats 4000000
/-! Division by a monic polynomial leaves a shorter row. -/
namespace Fm
theorem getD_set (xs : List Int) (i j : Nat) (x : Int) : (xs.set i x).getD j 0 = if i = j ∧ j < xs.length then x else xs.getD j 0 := by
  rw [List.getD_eq_getElem?_getD, List.getD_eq_getElem?_getD, List.getElem?_set]
  by_cases h : i = j
  · subst h
    by_cases h2 : i < xs.length
    · simp [h2]
    · simp [h2, List.getElem?_eq_none (Nat.le_of_not_lt h2)]
  · simp [h]
theorem getD_ge {xs : List Int} {i : Nat} (h : xs.length ≤ i) : xs.getD i 0 = 0 := by
  rw [List.getD_eq_getElem?_getD, List.getElem?_eq_none h]
  rfl
theorem loopSet (g : Nat → Int → Int) (k : Nat) (xs : List Int) (j : Nat) : ∀ n, (loopN n (fun i r => r.set (k + i) (g i (r.getD (k + i) 0))) xs).getD j 0 = if k ≤ j ∧ j < k + n ∧ j < xs.length then g (j - k) (xs.getD j 0) else xs.getD j 0
  | 0 => by
    rw [if_neg (by omega)]
    rfl
  | n + 1 => by
    have ih := fun j => loopSet g k xs j n
    have hl : (loopN n (fun i r => r.set (k + i) (g i (r.getD (k + i) 0))) xs).length = xs.length := loopN_length (fun _ _ => by simp) n
    rw [loopN_succ, getD_set, hl, ih (k + n)]
    by_cases h : k + n = j
    · subst h
      by_cases h2 : k + n < xs.length
      · rw [if_pos ⟨rfl, h2⟩, if_neg (by omega), if_pos ⟨by omega, by omega, h2⟩, show k + n - k = n by omega]
      · rw [if_neg (by omega), ih (k + n), if_neg (by omega), if_neg (by omega)]
    · rw [if_neg (by omega), ih j]
      by_cases h2 : k ≤ j ∧ j < k + n ∧ j < xs.length
      · rw [if_pos h2, if_pos (by omega)]
      · rw [if_neg h2, if_neg (by omega)]
theorem strip_le : ∀ (l : Nat) (xs : List Int) (n : Nat), xs.length = l → (∀ i, n ≤ i → xs.getD i 0 = 0) → (strip xs).length ≤ n
  | 0, xs, n, hl, _ => by
    rw [List.length_eq_zero_iff.mp hl]
    exact Nat.zero_le _
  | l + 1, xs, n, hl, h => by
    have hne : xs ≠ [] := by
      intro q
      rw [q] at hl
      cases hl
    have e := (List.dropLast_concat_getLast hne).symm
    by_cases hz : xs.getLast hne = 0
    · rw [e, hz, strip_zero]
      refine strip_le l xs.dropLast n (by rw [List.length_dropLast]; omega) fun i hi => ?_
      by_cases h2 : i < xs.dropLast.length
      · have q := h i hi
        rw [e, List.getD_eq_getElem?_getD, List.getElem?_append_left h2] at q
        rw [List.getD_eq_getElem?_getD]
        exact q
      · exact getD_ge (by omega)
    · rw [e, strip_last _ _ hz]
      rw [List.length_append, List.length_dropLast]
      by_cases h2 : n ≤ l
      · exfalso
        have q := h l h2
        rw [List.getLast_eq_getElem] at hz
        rw [List.getD_eq_getElem?_getD, List.getElem?_eq_getElem (by omega)] at q
        refine hz ?_
        have : xs.length - 1 = l := by omega
        simp only [this]
        exact q
      · simp; omega
theorem divIn_getD (b : List Int) (p fac : Int) (k : Nat) (rest : List Int) (j : Nat) :
    (divIn b p fac k rest).getD j 0 = if k ≤ j ∧ j < k + b.length ∧ j < rest.length then (rest.getD j 0 - fac * b.getD (j - k) 0) % p else rest.getD j 0 :=
  loopSet (fun i x => (x - fac * b.getD i 0) % p) k rest j b.length
theorem sub_mod_mod (x p : Int) : (x - x % p) % p = 0 := by
  have e : x - x % p = p * (x / p) := by rw [Int.emod_def]; omega
  rw [e, Int.mul_emod_right]
/-- the rest's upper places are clear -/
theorem divL_clear {a b : List Int} {p : Int} (hb : b ≠ []) (hm : lastD b = 1) (t : Nat) (ht : t ≤ divQ a b) (j : Nat) (hj : divQ a b - t + b.length ≤ j + 1) : (divL a b p 1 t).2.getD j 0 = 0 := by
  have hpos : 0 < b.length := List.length_pos_iff.mpr hb
  induction t with
  | zero =>
    unfold divL
    refine getD_ge ?_
    show a.length ≤ j
    unfold divQ at hj
    omega
  | succ t ih =>
    have hl := (divL_length a b p 1 t).2
    show (divTurn b p 1 (divQ a b) t (divL a b p 1 t)).2.getD j 0 = 0
    unfold divTurn
    simp only
    rw [divIn_getD, hl]
    generalize hk : divQ a b - 1 - t = k
    have hkq : k + b.length = divQ a b - t - 1 + b.length := by omega
    have hql : divQ a b + b.length = a.length + 1 := by unfold divQ at *; omega
    by_cases h1 : k ≤ j ∧ j < k + b.length ∧ j < a.length
    · rw [if_pos h1]
      have hj2 : j = k + b.length - 1 := by omega
      have e : b.getD (j - k) 0 = 1 := by
        rw [← hm, hj2]
        unfold lastD
        congr 1
        omega
      rw [e, ← hj2, Int.mul_one, Int.mul_one]
      exact sub_mod_mod _ _
    · rw [if_neg h1]
      by_cases h2 : j < a.length
      · refine ih (by omega) ?_
        omega
      · exact getD_ge (by omega)
theorem remM_length {a m : List Int} {p : Int} (hb : m ≠ []) (hm : lastD m = 1) : (remM a m p).length < m.length := by
  have hpos : 0 < m.length := List.length_pos_iff.mpr hb
  have : (remM a m p).length ≤ m.length - 1 := by
    unfold remM divR trim
    refine strip_le _ _ _ rfl fun i hi => ?_
    have q := divL_clear (p := p) hb hm (divQ a m) (Nat.le_refl _) i (by omega)
    rw [List.getD_eq_getElem?_getD] at q ⊢
    rw [List.getElem?_map]
    cases e : (divL a m p 1 (divQ a m)).2[i]? with
    | none => rfl
    | some x =>
      rw [e] at q
      have : x = 0 := q
      rw [this]
      simp
  omega
theorem remM_rw {p : Int} (hp : 0 < p) (a m : List Int) : Rw p (remM a m p) := trim_rw hp _
end Fm
set_option Elab.async false
set_option linter.all false
set_option maxRecDepth 100000
set_option maxHeartbeats 4000000
/-! Mirrors of the law's own defs. -/
namespace Fm
def anyI (xs : List Int) : Bool := xs.any fun x => x != 0
def ldS (p : Int) (low rest : List Int) : List Int := (divIn low p (rest.getD (rest.length - 1) 0) (rest.length - low.length) rest).dropLast
def lawDivG (p : Int) (low : List Int) : Nat → List Int → List Int
  | 0, r => r
  | n + 1, r => if low.length ≤ r.length then lawDivG p low n (ldS p low r) else r
theorem lawDivG_ge {p : Int} {low r : List Int} {n : Nat} (h : low.length ≤ r.length) : lawDivG p low (n + 1) r = lawDivG p low n (ldS p low r) := by
  show (if low.length ≤ r.length then _ else _) = _
  rw [if_pos h]
theorem lawDivG_lt {p : Int} {low r : List Int} {n : Nat} (h : ¬ low.length ≤ r.length) : lawDivG p low n r = r := by
  cases n with
  | zero => rfl
  | succ n =>
    show (if low.length ≤ r.length then _ else _) = _
    rw [if_neg h]
def lawDiv (p : Int) (low row : List Int) : Bool := !anyI (lawDivG p low row.length row)
theorem ldS_length {p : Int} {low rest : List Int} : (ldS p low rest).length = rest.length - 1 := by
  unfold ldS
  rw [List.length_dropLast, divIn_length]
def lowL (p : Int) : Nat → Int → List Int
  | 0, _ => []
  | n + 1, x => x % p :: lowL p n (x / p)
def lowQ (p : Int) : Nat → Int → Int
  | 0, x => x
  | n + 1, x => lowQ p n (x / p)
theorem lowQ_succ (p : Int) : ∀ (n : Nat) (x : Int), lowQ p (n + 1) x = lowQ p n x / p
  | 0, _ => rfl
  | n + 1, x => lowQ_succ p n (x / p)
theorem lowL_succ (p : Int) : ∀ (n : Nat) (x : Int), lowL p (n + 1) x = lowL p n x ++ [lowQ p n x % p]
  | 0, _ => rfl
  | n + 1, x => congrArg (x % p :: ·) (lowL_succ p n (x / p))
theorem lowL_length (p : Int) : ∀ (n : Nat) (x : Int), (lowL p n x).length = n
  | 0, _ => rfl
  | n + 1, x => congrArg (· + 1) (lowL_length p n (x / p))
theorem lowL_rw {p : Int} (hp : 0 < p) : ∀ (n : Nat) (x : Int), Rw p (lowL p n x)
  | 0, _ => fun y hy => nomatch hy
  | n + 1, x => fun y hy => by
    rcases List.mem_cons.mp hy with e | e
    · rw [e]; exact ⟨Int.emod_nonneg _ (by omega), Int.emod_lt_of_pos _ hp⟩
    · exact lowL_rw hp n (x / p) y e
/-- no monic row of degree d ≥ 1, numbers below, divides -/
def irrN (p : Int) (row : List Int) (d : Nat) : Bool := (List.range (p ^ d).toNat).all fun c => !lawDiv p (lowL p d c ++ [1]) row
def irrL (p : Int) (row : List Int) : Bool := (List.range ((row.length - 1) / 2)).all fun d => irrN p row (d + 1)
/-- the law's product -/
def redIn (m : List Int) (fac : Int) (b : Nat) (o : List Int) : List Int := loopN m.length (fun k o => o.set (b + k) (o.getD (b + k) 0 - fac * m.getD k 0)) o
def redT (m : List Int) (n : Nat) (t : Nat) (o : List Int) : List Int := redIn m (o.getD (2 * n - 1 - t) 0) (n - 1 - t) o
def redA (m : List Int) (n : Nat) (o : List Int) (t : Nat) : List Int := loopN t (redT m n) o
def timesL (m : List Int) (p : Int) (a b : List Int) : List Int := ((redA m (m.length - 1) (conv a b) (m.length - 1)).take (m.length - 1)).map (· % p)
theorem redIn_length (m : List Int) (fac : Int) (b : Nat) (o : List Int) : (redIn m fac b o).length = o.length := loopN_length (fun _ _ => by simp) _
theorem redA_length (m : List Int) (n : Nat) (o : List Int) (t : Nat) : (redA m n o t).length = o.length := loopN_length (fun _ _ => redIn_length _ _ _ _) _
theorem redA_succ (m : List Int) (n : Nat) (o : List Int) (t : Nat) : redA m n o (t + 1) = redT m n t (redA m n o t) := rfl
def stepL (s m : List Int) (p : Int) (total : List Int) (c : Int) : List Int := sumP (timesL m p total s) (lowL p (m.length - 1) (c % p)) p
def valL (s m : List Int) (p : Int) (a : List Int) : List Int := a.reverse.foldl (stepL s m p) (lowL p (m.length - 1) 0)
end Fm
set_option Elab.async false
set_option linter.all false
set_option maxRecDepth 100000
set_option maxHeartbeats 4000000
namespace Fm
open PySem PySem.Spec PyProof.Rows L2 Evl RZ

/-! ### the text by places -/
def top (i : Nat) : Stmt := PySem.Challenge.pw_fieldmaps_k21_whole_field_maps.main.body.getD i (.Pass ⟨0, 0, 0, 0⟩)

/-! ### bundles: a def as it stands, a def with its promise -/
structure GS (K : PySem.W.Frag) (mg : Str → Option Value) (x : Str) (st : Stmt) : Prop where
  ex : ∃ f fd, Fun K x x st f fd ∧ mg x = some (.ref f)
structure MS (K : PySem.W.Frag) (C : Addr) (x q : Str) (st : Stmt) : Prop where
  ex : ∃ f fd, Fun K x q st f fd ∧ Meth K C x f
structure Fn (P : Program) (w : World) (K : PySem.W.Frag) (mg : Str → Option Value) (base : Heap) (x : Str) (k : Nat) (ps : List Str) (sp : Sp) : Prop where
  ex : ∃ f fd, FnOk P w K mg base CX0 k f fd ps sp ∧ mg x = some (.ref f) ∧ PySem.W.keepIn K (.ref f) = true ∧ Binds K fd ps []
structure Mt (P : Program) (w : World) (K : PySem.W.Frag) (mg : Str → Option Value) (base : Heap) (C : Addr) (x : Str) (k : Nat) (ps : List Str) (sp : Sp) : Prop where
  ex : ∃ f fd, FnOk P w K mg base CX0 k f fd ps sp ∧ Meth K C x f ∧ Binds K fd ps []

section
variable {X : Cx} {k : Nat} {ps : List Str} {sp : Sp} {x : Str} {e o : Expr} {es : List Expr} {t : TA} {ta : TE} {p pos apos : Pos} {C : Addr}
theorem pcall (F : Fn X.prog X.w X.K X.mg X.base x k ps sp) (hr : Room k X.A) (ha : PA X (e :: es) t) (hg : Gl X x := by rfl) (hd : (x == ("__debug__" : Str)) = false := by decide)
    (he : starEach (e :: es) X.env = (false, eval e X.env) :: starEach es X.env := by rfl) (hpl : (backTo pos (starEach es X.env)).any (·.1) = false := by rfl) :
    PE X (.Call (.Name x p) (e :: es) [] pos) (tCall sp [] E0 t) := by
  obtain ⟨f, fd, G, hm, kp, b⟩ := F.ex
  exact pe_call G hr hg hm kp b .nil pass0 ha hd he hpl
theorem pmeth0 (he : PE X o ta) (c : Cls X.K C) (F : Mt X.prog X.w X.K X.mg X.base C x k ps sp) (hr : Room k X.A) {pl : Sem Bool}
    (ht : eval (.Call (.Attribute o x apos) [] [] pos) X.env = (do
      let ov ← eval o X.env
      standAt apos.atName
      let (f, first) ← holding [ov] (getMethod ov x pl)
      callWith pos f first (backTo pos (starEach [] X.env)) (backToKw pos (keywordEach [] X.env))) := by rfl) :
    PE X (.Call (.Attribute o x apos) [] [] pos) (tMeth C x sp [] E0 ta tNil) := by
  obtain ⟨f, fd, G, hm, b⟩ := F.ex
  exact pe_meth0 he c hm G hr b .nil pass0 ht
theorem pmeth (he : PE X o ta) (c : Cls X.K C) (F : Mt X.prog X.w X.K X.mg X.base C x k ps sp) (hr : Room k X.A) (ha : PA X (e :: es) t) {pl : Sem Bool}
    (hst : starEach (e :: es) X.env = (false, eval e X.env) :: starEach es X.env := by rfl) (hpl : (backTo pos (starEach es X.env)).any (·.1) = false := by rfl)
    (ht : eval (.Call (.Attribute o x apos) (e :: es) [] pos) X.env = (do
      let ov ← eval o X.env
      standAt apos.atName
      let (f, first) ← holding [ov] (getMethod ov x pl)
      callWith pos f first (backTo pos (starEach (e :: es) X.env)) (backToKw pos (keywordEach [] X.env))) := by rfl) :
    PE X (.Call (.Attribute o x apos) (e :: es) [] pos) (tMeth C x sp [] E0 ta t) := by
  obtain ⟨f, fd, G, hm, b⟩ := F.ex
  exact pe_meth he c hm G hr b .nil pass0 ha hst hpl ht
end

/-! ### the built-ins' names are free -/
structure Bi (mg : Str → Option Value) : Prop where
  len : mg "len" = none
  list : mg "list" = none
  tuple : mg "tuple" = none
  range : mg "range" = none
  max : mg "max" = none
  zip : mg "zip" = none
  enumerate : mg "enumerate" = none
  reversed : mg "reversed" = none
  isinstance : mg "isinstance" = none
  int : mg "int" = none
  bool : mg "bool" = none
  abs : mg "abs" = none
  any : mg "any" = none

section
variable {X : Cx} {e e2 : Expr} {ta tb : TE} {p pos : Pos}
theorem bLen (B : Bi X.mg) (ha : PE X e ta) (hg : Gl X "len" := by rfl) (he : starEach [e] X.env = (false, eval e X.env) :: starEach [] X.env := by rfl) : PE X (.Call (.Name "len" p) [e] [] pos) (tCB (rLenS X.K) (tCons ta tNil)) :=
  pe_callB (call_len_seq (X := X)) hg B.len PySem.boot_len (pa_cons ha pa_nil he) (he := he)
theorem bList (B : Bi X.mg) (ha : PE X e ta) (hg : Gl X "list" := by rfl) (he : starEach [e] X.env = (false, eval e X.env) :: starEach [] X.env := by rfl) : PE X (.Call (.Name "list" p) [e] [] pos) (tCB (rListS X.K) (tCons ta tNil)) :=
  pe_callTy (call_list_of (X := X)) hg B.list (by decide +kernel) (pa_cons ha pa_nil he) (he := he)
def rTupS (K : PySem.W.Frag) : List V → Hp → VK → Prop := fun xs H Q => ∃ p ys, xs = [.ref p] ∧ ((SqL K H p ys ∧ ∀ l, H l = none → Q (.ref l) (upd H l (.tup ys))) ∨ (SqT K H p ys ∧ Q (.ref p) H))
theorem bTuple (B : Bi X.mg) (ha : PE X e ta) (hg : Gl X "tuple" := by rfl) (he : starEach [e] X.env = (false, eval e X.env) :: starEach [] X.env := by rfl) : PE X (.Call (.Name "tuple" p) [e] [] pos) (tCB (rTupS X.K) (tCons ta tNil)) :=
  pe_callTy (call_tuple_of (X := X)) hg B.tuple (by decide +kernel) (pa_cons ha pa_nil he) (he := he)
theorem bMax (B : Bi X.mg) (ha : PE X e ta) (hb : PE X e2 tb) (hc : X.calm = true := by rfl) (hg : Gl X "max" := by rfl) (he : starEach [e, e2] X.env = (false, eval e X.env) :: starEach [e2] X.env := by rfl) (he2 : starEach [e2] X.env = (false, eval e2 X.env) :: starEach [] X.env := by rfl) : PE X (.Call (.Name "max" p) [e, e2] [] pos) (tCB rMax2 (tCons ta (tCons tb tNil))) :=
  pe_callB (call_max2 (X := X) hc) hg B.max (by decide +kernel) (pa_cons ha (pa_cons hb pa_nil he2) he) (he := he) (hpl := by rw [he2] <;> rfl)
def rAbs : List V → Hp → VK → Prop := fun xs H Q => ∃ i, xs = [.int i] ∧ Q (.int (if i < 0 then -i else i)) H
theorem bAbs (B : Bi X.mg) (ha : PE X e ta) (hg : Gl X "abs" := by rfl) (he : starEach [e] X.env = (false, eval e X.env) :: starEach [] X.env := by rfl) : PE X (.Call (.Name "abs" p) [e] [] pos) (tCB rAbs (tCons ta tNil)) :=
  pe_callB (call_abs (X := X)) hg B.abs (by decide +kernel) (pa_cons ha pa_nil he) (he := he)
def rInt : List V → Hp → VK → Prop := fun xs H Q => (∃ i, xs = [.int i] ∧ Q (.int i) H) ∨ ∃ k, xs = [.bl k] ∧ Q (.int (if k then 1 else 0)) H
theorem bInt (B : Bi X.mg) (ha : PE X e ta) (hg : Gl X "int" := by rfl) (he : starEach [e] X.env = (false, eval e X.env) :: starEach [] X.env := by rfl) : PE X (.Call (.Name "int" p) [e] [] pos) (tCB rInt (tCons ta tNil)) :=
  pe_callTy (call_int1 (X := X)) hg B.int (by decide +kernel) (pa_cons ha pa_nil he) (he := he)
end

/-! ### readings, step by step -/
section
variable {K : PySem.W.Frag} {σ : L2.St} {H : Hp} {Q : VK} {ta tb te : TE} {t u : TT} {D : Ends} {tA : TA}
theorem d_var {i : Nat} {v : V} (h : σ[i]? = some (some v)) (q : Q v H) : tVar i σ H Q := ⟨v, h, q⟩
theorem d_c {v : V} (q : Q v H) : tC v σ H Q := q
theorem d_op {r : R2} (q : ta σ H fun x H1 => tb σ H1 fun y H2 => r x y H2 Q) : tOp r ta tb σ H Q := q
theorem d_un {r : V → Hp → VK → Prop} (q : ta σ H fun x H1 => r x H1 Q) : tUn r ta σ H Q := q
theorem d_I0 {g : Int → Int → V} {i j : Int} (q : Q (g i j) H) : rI0 g (.int i) (.int j) H Q := ⟨i, j, rfl, rfl, q⟩
theorem d_I {c : Int → Int → Prop} {g : Int → Int → V} {i j : Int} (hc : c i j) (q : Q (g i j) H) : rI c g (.int i) (.int j) H Q := ⟨i, j, rfl, rfl, hc, q⟩
theorem d_U {g : Int → V} {i : Int} (q : Q (g i) H) : rU g (.int i) H Q := ⟨i, rfl, q⟩
theorem d_mulL {g : Int → Int → V} {i j : Int} (h : -1000000000 < i ∧ i < 1000000000) (q : Q (g i j) H) : rI CMul g (.int i) (.int j) H Q := ⟨i, j, rfl, rfl, .inl ⟨by omega, by omega⟩, q⟩
theorem d_mulR {g : Int → Int → V} {i j : Int} (h : -1000000000 < j ∧ j < 1000000000) (q : Q (g i j) H) : rI CMul g (.int i) (.int j) H Q := ⟨i, j, rfl, rfl, .inr ⟨by omega, by omega⟩, q⟩
theorem d_modN {g : Int → Int → V} {i j : Int} (h : 0 < j) (q : Q (g i j) H) : rI (fun _ j => j ≠ 0) g (.int i) (.int j) H Q := ⟨i, j, rfl, rfl, by omega, q⟩
theorem d_divN {g : Int → Int → V} {i j : Int} (h : 0 < j ∧ j < 1000000000) (q : Q (g i j) H) : rI CDivN g (.int i) (.int j) H Q := ⟨i, j, rfl, rfl, ⟨by omega, by omega⟩, q⟩
theorem d_eq {i j : Int} (q : Q (.bl (decide (i = j))) H) : rEq (.int i) (.int j) H Q := ⟨rfl, by
  have e : decide (V.int i = V.int j) = decide (i = j) := by
    by_cases h : i = j
    · rw [h]; simp
    · have h2 : ¬ V.int i = V.int j := fun z => h (V.int.inj z)
      rw [decide_eq_false h, decide_eq_false h2]
  rw [e]; exact q⟩
theorem d_ne {i j : Int} (q : Q (.bl (!decide (i = j))) H) : rNe (.int i) (.int j) H Q := ⟨rfl, by
  have e : decide (V.int i = V.int j) = decide (i = j) := by
    by_cases h : i = j
    · rw [h]; simp
    · have h2 : ¬ V.int i = V.int j := fun z => h (V.int.inj z)
      rw [decide_eq_false h, decide_eq_false h2]
  rw [e]; exact q⟩
theorem d_cb {r : List V → Hp → VK → Prop} (q : tA σ H fun vs H1 => r vs H1 Q) : tCB r tA σ H Q := q
theorem d_nil {Qa : List V → Hp → Prop} (q : Qa [] H) : tNil σ H Qa := q
theorem d_cons {Qa : List V → Hp → Prop} (q : ta σ H fun x H1 => tA σ H1 fun xs H2 => Qa (x :: xs) H2) : tCons ta tA σ H Qa := q
theorem d_call {sp : Sp} {dvs : List V} {E : XK} (q : tA σ H fun vs H1 => sp (vs ++ dvs) H1 Q E) : tCall sp dvs E tA σ H Q := q
theorem d_meth {C : Addr} {m : Str} {sp : Sp} {dvs : List V} {E : XK} (q : ta σ H fun x H1 => ∃ a dx fs, x = .ref a ∧ H1 a = some (.ins C dx fs) ∧ fs.lookup m = none ∧ tA σ H1 fun vs H2 => sp (x :: (vs ++ dvs)) H2 Q E) :
    tMeth C m sp dvs E ta tA σ H Q := q
def nFld (K : PySem.W.Frag) (f : Str) (x : V) (H : Hp) (Q : VK) : Prop := ∃ a C dx fs v, x = .ref a ∧ H a = some (.ins C dx fs) ∧ Cls K C ∧ NoAttr K C f ∧ fs.lookup f = some v ∧ Q v H
theorem d_fld {f : Str} (q : ta σ H fun x H1 => nFld K f x H1 Q) : tFld K ta f σ H Q := q
theorem d_test {Qb : Bool → Hp → Prop} (q : te σ H fun x H' => ∃ k, x = .bl k ∧ Qb k H') : tTest te σ H Qb := q
theorem d_B {Qb : Bool → Hp → Prop} (q : te σ H fun x H' => ∃ k, x = .bl k ∧ Qb k H') : tB te σ H Qb := q
theorem d_bl {b : Bool} {Qb : Bool → Prop} (q : Qb b) : ∃ k, V.bl b = .bl k ∧ Qb k := ⟨b, rfl, q⟩
theorem d_and {Qb : Bool → Hp → Prop} (q : t σ H fun c H1 => if c = true then u σ H1 Qb else Qb false H1) : tAnd t u σ H Qb := q
theorem d_or {Qb : Bool → Hp → Prop} (q : t σ H fun c H1 => if c = true then Qb true H1 else u σ H1 Qb) : tOr t u σ H Qb := q
theorem d_not {Qb : Bool → Hp → Prop} (q : t σ H fun c H1 => Qb (!c) H1) : tNot t σ H Qb := q
theorem d_andV (q : ta σ H fun x H1 => ∃ c, x = .bl c ∧ if c = true then tb σ H1 Q else Q (.bl false) H1) : tAndV ta tb σ H Q := q
theorem d_orV (q : ta σ H fun x H1 => ∃ c, x = .bl c ∧ if c = true then Q (.bl true) H1 else tb σ H1 Q) : tOrV ta tb σ H Q := q
theorem d_notV (q : ta σ H fun x H1 => ∃ c, x = .bl c ∧ Q (.bl (!c)) H1) : tNotV ta σ H Q := q
theorem d_if (q : t σ H fun c H1 => if c = true then ta σ H1 Q else tb σ H1 Q) : tIf t ta tb σ H Q := q
def nMake (C : Addr) (sp : Sp) (dvs vs : List V) (E : XK) (H1 : Hp) (Q : VK) : Prop := ∀ x dx, H1 x = none → H1 dx = none → dx ≠ x → sp (.ref x :: (vs ++ dvs)) (upd (upd H1 dx (.own x)) x (.ins C dx [])) (fun v H2 => v = .non ∧ Q (.ref x) H2) E
theorem d_make {C : Addr} {sp : Sp} {dvs : List V} {E : XK} (q : tA σ H fun vs H1 => nMake C sp dvs vs E H1 Q) : tMake C sp dvs E tA σ H Q := q
def nTup (xs : List V) (H : Hp) (Q : VK) : Prop := xs.length ≤ sizeLine ∧ ∀ p, H p = none → Q (.ref p) (upd H p (.tup xs))
theorem d_tup (q : tA σ H fun xs H1 => nTup xs H1 Q) : tTup tA σ H Q := q
def nLst (xs : List V) (H : Hp) (Q : VK) : Prop := xs.length ≤ sizeLine ∧ ∀ p, H p = none → Q (.ref p) (upd H p (.lst xs))
theorem d_lst (q : tA σ H fun xs H1 => nLst xs H1 Q) : tLst tA σ H Q := q
/-! new objects: the heap behind is any that extends -/
theorem n_tup {xs : List V} (hl : xs.length ≤ 100000) (k : ∀ p H2, H p = none → Ex H H2 → H2 p = some (.tup xs) → Q (.ref p) H2) : nTup xs H Q :=
  ⟨sz_of hl, fun p hp => k p _ hp (Ex.new hp) upd_same⟩
theorem n_lst {xs : List V} (hl : xs.length ≤ 100000) (k : ∀ p H2, H p = none → Ex H H2 → H2 p = some (.lst xs) → Q (.ref p) H2) : nLst xs H Q :=
  ⟨sz_of hl, fun p hp => k p _ hp (Ex.new hp) upd_same⟩
theorem n_tup0 (k : ∀ p H2, H p = none → Ex H H2 → H2 p = some (.tup ([] : List V)) → Q (.ref p) H2) : nTup ([] : List V) H Q := n_tup (by simp) k
theorem n_tup1 {x : V} (k : ∀ p H2, H p = none → Ex H H2 → H2 p = some (.tup [x]) → Q (.ref p) H2) : nTup [x] H Q := n_tup (by simp) k
theorem n_tup2 {x y : V} (k : ∀ p H2, H p = none → Ex H H2 → H2 p = some (.tup [x, y]) → Q (.ref p) H2) : nTup [x, y] H Q := n_tup (by simp) k
theorem n_tup3 {x y z : V} (k : ∀ p H2, H p = none → Ex H H2 → H2 p = some (.tup [x, y, z]) → Q (.ref p) H2) : nTup [x, y, z] H Q := n_tup (by simp) k
theorem n_tup4 {x y z z2 : V} (k : ∀ p H2, H p = none → Ex H H2 → H2 p = some (.tup [x, y, z, z2]) → Q (.ref p) H2) : nTup [x, y, z, z2] H Q := n_tup (by simp) k
theorem n_lst0 (k : ∀ p H2, H p = none → Ex H H2 → H2 p = some (.lst ([] : List V)) → Q (.ref p) H2) : nLst ([] : List V) H Q := n_lst (by simp) k
theorem n_lst1 {x : V} (k : ∀ p H2, H p = none → Ex H H2 → H2 p = some (.lst [x]) → Q (.ref p) H2) : nLst [x] H Q := n_lst (by simp) k
theorem n_lst2 {x y : V} (k : ∀ p H2, H p = none → Ex H H2 → H2 p = some (.lst [x, y]) → Q (.ref p) H2) : nLst [x, y] H Q := n_lst (by simp) k
theorem n_lst3 {x y z : V} (k : ∀ p H2, H p = none → Ex H H2 → H2 p = some (.lst [x, y, z]) → Q (.ref p) H2) : nLst [x, y, z] H Q := n_lst (by simp) k
theorem n_lst4 {x y z z2 : V} (k : ∀ p H2, H p = none → Ex H H2 → H2 p = some (.lst [x, y, z, z2]) → Q (.ref p) H2) : nLst [x, y, z, z2] H Q := n_lst (by simp) k
theorem n_list {a : Addr} {ys : List V} (h : SqL K H a ys ∨ SqT K H a ys) (k : ∀ p H2, H p = none → Ex H H2 → H2 p = some (.lst ys) → Q (.ref p) H2) : rListS K [.ref a] H Q :=
  ⟨a, ys, rfl, h, fun p hp => k p _ hp (Ex.new hp) upd_same⟩
theorem n_tupleL {a : Addr} {ys : List V} (h : SqL K H a ys) (k : ∀ p H2, H p = none → Ex H H2 → H2 p = some (.tup ys) → Q (.ref p) H2) : rTupS K [.ref a] H Q :=
  ⟨a, ys, rfl, .inl ⟨h, fun p hp => k p _ hp (Ex.new hp) upd_same⟩⟩
theorem n_tupleT {a : Addr} {ys : List V} (h : SqT K H a ys) (k : Q (.ref a) H) : rTupS K [.ref a] H Q := ⟨a, ys, rfl, .inr ⟨h, k⟩⟩
theorem n_cat {a b : Addr} {xs ys : List V} (h1 : H a = some (.lst xs)) (h2 : H b = some (.lst ys)) (hl : xs.length + ys.length ≤ 100000) (k : ∀ p H2, H p = none → Ex H H2 → H2 p = some (.lst (xs ++ ys)) → Q (.ref p) H2) : rCat (.ref a) (.ref b) H Q :=
  ⟨a, b, xs, ys, rfl, rfl, h1, h2, sz_of hl, fun p hp => k p _ hp (Ex.new hp) upd_same⟩
theorem n_rep {a : Addr} {v : V} {n : Int} (h1 : H a = some (.lst [v])) (hl : -100000 ≤ n ∧ n ≤ 100000) (k : ∀ p H2, H p = none → Ex H H2 → H2 p = some (.lst (List.replicate n.toNat v)) → Q (.ref p) H2) : rRep (.ref a) (.int n) H Q := by
  refine ⟨a, n, [v], rfl, rfl, h1, by omega, by omega, ?_, fun p hp => ?_⟩
  · exact sz_of (by simp; omega)
  · have e : (List.replicate n.toNat [v]).flatten = List.replicate n.toNat v := by simp
    first
      | (rw [e]; exact k p _ hp (Ex.new hp) upd_same)
      | exact k p _ hp (Ex.new hp) (by rw [upd_same]; simp)
theorem n_len {a : Addr} {ys : List V} (h : SqL K H a ys ∨ SqT K H a ys) (k : Q (.int ys.length) H) : rLenS K [.ref a] H Q := ⟨a, ys, rfl, h, k⟩
theorem n_max {i j : Int} (k : Q (.int (if j > i then j else i)) H) : rMax2 [.int i, .int j] H Q := ⟨i, j, rfl, k⟩
theorem n_abs {i : Int} (k : Q (.int (if i < 0 then -i else i)) H) : rAbs [.int i] H Q := ⟨i, rfl, k⟩
theorem n_int {i : Int} (k : Q (.int i) H) : rInt [.int i] H Q := .inl ⟨i, rfl, k⟩
theorem n_ixL {a : Addr} {ys : List V} {j : Nat} {v : V} (h : SqL K H a ys) (hv : ys[j]? = some v) (k : Q v H) : rIxL K (.ref a) (.int (j : Int)) H Q := ⟨a, ys, _, v, rfl, rfl, h, atI_nat hv, k⟩
theorem n_ixT {a : Addr} {ys : List V} {j : Nat} {v : V} (h : SqT K H a ys) (hv : ys[j]? = some v) (k : Q v H) : rIxT K (.ref a) (.int (j : Int)) H Q := ⟨a, ys, _, v, rfl, rfl, h, atI_nat hv, k⟩
theorem n_ixLi {a : Addr} {ys : List V} {i : Int} {v : V} (h : SqL K H a ys) (h0 : 0 ≤ i) (hv : ys[i.toNat]? = some v) (k : Q v H) : rIxL K (.ref a) (.int i) H Q :=
  ⟨a, ys, _, v, rfl, rfl, h, by have e := atI_nat hv; rw [Int.toNat_of_nonneg h0] at e; exact e, k⟩
theorem n_ixTi {a : Addr} {ys : List V} {i : Int} {v : V} (h : SqT K H a ys) (h0 : 0 ≤ i) (hv : ys[i.toNat]? = some v) (k : Q v H) : rIxT K (.ref a) (.int i) H Q :=
  ⟨a, ys, _, v, rfl, rfl, h, by have e := atI_nat hv; rw [Int.toNat_of_nonneg h0] at e; exact e, k⟩
theorem n_fld {a C dx : Addr} {fs : List (Str × V)} {f : Str} {v : V} (h : H a = some (.ins C dx fs)) (c : Cls K C) (n : NoAttr K C f) (l : fs.lookup f = some v) (k : Q v H) : nFld K f (.ref a) H Q := ⟨a, C, dx, fs, v, rfl, h, c, n, l, k⟩
end

/-! ### tests decided -/
theorem b_if {c : Prop} [Decidable c] {A B : Prop} (h1 : c → A) (h2 : ¬ c → B) : if decide c = true then A else B := by
  by_cases h : c
  · rw [decide_eq_true h, if_pos rfl]; exact h1 h
  · rw [decide_eq_false h, if_neg Bool.false_ne_true]; exact h2 h
theorem b_ifN {c : Prop} [Decidable c] {A B : Prop} (h1 : ¬ c → A) (h2 : c → B) : if (!decide c) = true then A else B := by
  by_cases h : c
  · rw [decide_eq_true h]; exact h2 h
  · rw [decide_eq_false h]; exact h1 h
theorem b_ifB {b : Bool} {A B : Prop} (h1 : b = true → A) (h2 : b = false → B) : if b = true then A else B := by
  cases b with
  | true => exact h1 rfl
  | false => exact h2 rfl
theorem b_T {c : Prop} [Decidable c] {A B : Prop} (h : c) (q : A) : if decide c = true then A else B := by rw [decide_eq_true h, if_pos rfl]; exact q
theorem b_F {c : Prop} [Decidable c] {A B : Prop} (h : ¬ c) (q : B) : if decide c = true then A else B := by rw [decide_eq_false h, if_neg Bool.false_ne_true]; exact q
theorem b_NT {c : Prop} [Decidable c] {A B : Prop} (h : ¬ c) (q : A) : if (!decide c) = true then A else B := by rw [decide_eq_false h]; exact q
theorem b_NF {c : Prop} [Decidable c] {A B : Prop} (h : c) (q : B) : if (!decide c) = true then A else B := by rw [decide_eq_true h]; exact q
theorem b_tt {A B : Prop} (q : A) : if true = true then A else B := q
theorem b_nt {A B : Prop} (q : B) : if (!true) = true then A else B := q
theorem b_nf {A B : Prop} (q : A) : if (!false) = true then A else B := q
theorem b_ff {A B : Prop} (q : B) : if false = true then A else B := q

/-! ### statements, the four ends told -/
section
variable {K : PySem.W.Frag} {σ : L2.St} {H : Hp} {nx bk ct : L2.St → Hp → Prop} {rt : VK} {t u tb : TS} {te ta tv : TE} {c : TT} {g : TG} {tA : TA} {i j : Nat} {x y : V}
theorem s_seq (q : t ⟨u ⟨nx, rt, bk, ct⟩, rt, bk, ct⟩ σ H) : tSeq t u ⟨nx, rt, bk, ct⟩ σ H := q
theorem s_next (q : nx σ H) : tNext ⟨nx, rt, bk, ct⟩ σ H := q
theorem s_brk (q : bk σ H) : tBreak ⟨nx, rt, bk, ct⟩ σ H := q
theorem s_asg (q : te σ H fun x H1 => g x σ H1 nx) : tAsg te g ⟨nx, rt, bk, ct⟩ σ H := q
theorem s_drop (q : te σ H fun _ H1 => nx σ H1) : tDrop te ⟨nx, rt, bk, ct⟩ σ H := q
theorem s_ret (q : te σ H rt) : tRet te ⟨nx, rt, bk, ct⟩ σ H := q
theorem s_ifs (q : c σ H fun b H1 => if b = true then t ⟨nx, rt, bk, ct⟩ σ H1 else u ⟨nx, rt, bk, ct⟩ σ H1) : tIfS c t u ⟨nx, rt, bk, ct⟩ σ H := q
theorem s_par (q : tA σ H fun vs H1 => ∃ v w, vs = [v, w] ∧ nx ((σ.set i (some v)).set j (some w)) H1) : tPar i j tA ⟨nx, rt, bk, ct⟩ σ H := q
theorem s_two {Qn : V → V → Prop} (q : Qn x y) : ∃ v w, [x, y] = [v, w] ∧ Qn v w := ⟨x, y, rfl, q⟩
theorem g_name {Qn : L2.St → Hp → Prop} (q : Qn (σ.set i (some x)) H) : gName i x σ H Qn := q
theorem g_sub {to ti : TE} {r : TSet} {Qn : L2.St → Hp → Prop} (q : to σ H fun o H1 => ti σ H1 fun i H2 => r o i x H2 fun H3 => Qn σ H3) : gSub to ti r x σ H Qn := q
theorem g_two {a : Addr} {n : Nat} {gs : TGs} {Qn : L2.St → Hp → Prop} {xs : List V} (h : SqT K H a xs) (hl : xs.length = n) (q : gs xs σ H Qn) : gTup K n gs (.ref a) σ H Qn := ⟨a, xs, rfl, h, hl, q⟩
theorem g_cons {gs : TGs} {Qn : L2.St → Hp → Prop} {xs : List V} (q : g x σ H fun σ' H' => gs xs σ' H' Qn) : gCons g gs (x :: xs) σ H Qn := ⟨x, xs, rfl, q⟩
theorem g_nil {Qn : L2.St → Hp → Prop} (q : Qn σ H) : gNil [] σ H Qn := ⟨rfl, q⟩
theorem s_fld {f : Str} (q : tv σ H fun y H1 => ta σ H1 fun x H2 => ∃ a C dx fs, x = .ref a ∧ H2 a = some (.ins C dx fs) ∧ Cls K C ∧ NoAttr K C f ∧ fs.length < 1000 ∧ nx σ (upd H2 a (.ins C dx (putF f y fs)))) :
    sFld K ta tv f ⟨nx, rt, bk, ct⟩ σ H := q
theorem n_setL {l : Addr} {xs : List V} {k : Int} {Qh : Hp → Prop} (h : H l = some (.lst xs)) (h0 : 0 ≤ k) (h1 : k < xs.length) (q : Qh (upd H l (.lst (xs.set k.toNat x)))) : rSetL (.ref l) (.int k) x H Qh :=
  ⟨l, xs, k, k.toNat, rfl, rfl, h, by unfold ixN; rw [if_pos h0, if_pos h1], q⟩
theorem s_app {l : Addr} {xs : List V} (hl : H l = some (.lst xs)) (hz : xs.length < 100000) (q : nx σ (upd H l (.lst (xs ++ [y])))) :
    rAppend (.ref l) [y] H fun _ H1 => nx σ H1 := ⟨l, xs, y, rfl, rfl, hl, sz_lt hz, q⟩
theorem d_bm {T : String} {r : V → List V → Hp → VK → Prop} {Q : VK} (q : ta σ H fun x H1 => tyV K T x H1 ∧ tA σ H1 fun xs H2 => r x xs H2 Q) : tBM K T r ta tA σ H Q := q
theorem d_bm0 {T : String} {r : V → List V → Hp → VK → Prop} {Q : VK} (q : ta σ H fun x H1 => tyV K T x H1 ∧ r x [] H1 Q) : tBM0 K T r ta σ H Q := q
/-- what a for asks once its iterator is there -/
def ForW (J : It) (g : TG) (tb : TS) (D : Ends) (σ : L2.St) (H1 : Hp) : Prop := ∃ W : Nat → Nat → L2.St → Hp → Prop, (∃ m, W 0 m σ H1) ∧ ∀ i m σ H, W i m σ H →
  (J.stop i H ∧ D.nx σ H) ∨ (J.go i H ∧ ∃ N : L2.St → Hp → Prop, (∀ σ' H', N σ' H' → ∃ m', m' < m ∧ W (i + 1) m' σ' H') ∧ ∀ x H', J.yld i H x H' → g x σ H' fun σ2 H2 => tb { D with nx := N, ct := N, bk := D.nx } σ2 H2)
theorem s_for {wi : TI} (q : wi σ H fun J H1 => ForW J g tb ⟨nx, rt, bk, ct⟩ σ H1) : tFor wi g tb ⟨nx, rt, bk, ct⟩ σ H := q
theorem w_rng1 {R : It → Hp → Prop} (q : tA σ H fun vs H1 => ∃ n : Int, vs = [.int n] ∧ -(2 ^ 62) ≤ n ∧ n < 2 ^ 62 ∧ R (Itr 0 n.toNat) H1) : iRng1 tA σ H R := q
theorem w_rng2 {R : It → Hp → Prop} (q : tA σ H fun vs H1 => ∃ i j : Int, vs = [.int i, .int j] ∧ (-(2 ^ 62) ≤ i ∧ i < 2 ^ 62 ∧ -(2 ^ 62) ≤ j ∧ j < 2 ^ 62) ∧ R (Itr i (j - i).toNat) H1) : iRng2 tA σ H R := q
theorem w_rng3 {R : It → Hp → Prop} (q : tA σ H fun vs H1 => ∃ (i j c : Int) (n : Nat), vs = [.int i, .int j, .int c] ∧ RgC i j c n ∧ R (Itc i c n) H1) : iRng3 tA σ H R := q
theorem w_list {R : It → Hp → Prop} (q : te σ H fun x H1 => ∃ a, x = .ref a ∧ (∃ xs, SqL K H1 a xs) ∧ R (Itl K a) H1) : iList K te σ H R := q
theorem w_tup {R : It → Hp → Prop} (q : te σ H fun x H1 => ∃ a, x = .ref a ∧ (∃ xs, SqT K H1 a xs) ∧ R (Itt K a) H1) : iTup K te σ H R := q
theorem w_rev {R : It → Hp → Prop} (q : tA σ H fun vs H1 => ∃ (a : Addr) (xs : List V), vs = [.ref a] ∧ SqL K H1 a xs ∧ R (Itv K a xs.length) H1) : iRev K tA σ H R := q
theorem w_zip {R : It → Hp → Prop} (q : tA σ H fun vs H1 => ∃ a b xs ys, vs = [.ref a, .ref b] ∧ SqL K H1 a xs ∧ SqL K H1 b ys ∧ R (Itz K a b) H1) : iZip K tA σ H R := q
theorem w_zipA {R : It → Hp → Prop} (q : tA σ H fun vs H1 => ∃ a b xs ys, vs = [.ref a, .ref b] ∧ ((SqL K H1 a xs ∧ SqL K H1 b ys ∧ R (Itz K a b) H1) ∨ (SqT K H1 a xs ∧ SqT K H1 b ys ∧ R (ItzT K a b) H1))) : iZipA K tA σ H R := q
/-- for k in range(n) -/
theorem f_rng1 {n : Int} (hn : -100000 ≤ n ∧ n ≤ 100000) (Pv : Nat → L2.St → Hp → Prop) (h0 : Pv 0 σ H)
    (hs : ∀ (i : Nat) σ' H', (i : Int) < n → Pv i σ' H' → g (.int (i : Int)) σ' H' fun σ2 H2 => tb ⟨Pv (i + 1), rt, nx, Pv (i + 1)⟩ σ2 H2) (hd : ∀ σ' H', Pv n.toNat σ' H' → nx σ' H') :
    ∃ n' : Int, [V.int n] = [.int n'] ∧ -(2 ^ 62) ≤ n' ∧ n' < 2 ^ 62 ∧ ForW (Itr 0 n'.toNat) g tb ⟨nx, rt, bk, ct⟩ σ H :=
  ⟨n, rfl, by omega, by omega, for_range (lo := 0) (n := n.toNat) Pv h0 (fun i σ' H' hi p => by
    have e0 : (0 : Int) + (i : Int) = (i : Int) := Int.zero_add _
    rw [e0]
    exact hs i σ' H' (by omega) p) hd⟩
theorem f_rng2 {lo n : Int} (hn : -100000 ≤ lo ∧ lo ≤ 100000 ∧ -100000 ≤ n ∧ n ≤ 100000) (Pv : Nat → L2.St → Hp → Prop) (h0 : Pv 0 σ H)
    (hs : ∀ (i : Nat) σ' H', lo + (i : Int) < n → Pv i σ' H' → g (.int (lo + (i : Int))) σ' H' fun σ2 H2 => tb ⟨Pv (i + 1), rt, nx, Pv (i + 1)⟩ σ2 H2) (hd : ∀ σ' H', Pv (n - lo).toNat σ' H' → nx σ' H') :
    ∃ i j : Int, [V.int lo, V.int n] = [.int i, .int j] ∧ (-(2 ^ 62) ≤ i ∧ i < 2 ^ 62 ∧ -(2 ^ 62) ≤ j ∧ j < 2 ^ 62) ∧ ForW (Itr i (j - i).toNat) g tb ⟨nx, rt, bk, ct⟩ σ H :=
  ⟨lo, n, rfl, ⟨by omega, by omega, by omega, by omega⟩, for_range (lo := lo) (n := (n - lo).toNat) Pv h0 (fun i σ' H' hi p => hs i σ' H' (by omega) p) hd⟩
/-- downwards -/
theorem f_rngD {lo n : Int} (hn : -100000 ≤ lo ∧ lo ≤ 100000 ∧ -100000 ≤ n ∧ n ≤ 100000) (Pv : Nat → L2.St → Hp → Prop) (h0 : Pv 0 σ H)
    (hs : ∀ (i : Nat) σ' H', n < lo - (i : Int) → Pv i σ' H' → g (.int (lo - (i : Int))) σ' H' fun σ2 H2 => tb ⟨Pv (i + 1), rt, nx, Pv (i + 1)⟩ σ2 H2) (hd : ∀ σ' H', Pv (lo - n).toNat σ' H' → nx σ' H') :
    ∃ (i j c : Int) (m : Nat), [V.int lo, V.int n, V.int (-1)] = [.int i, .int j, .int c] ∧ RgC i j c m ∧ ForW (Itc i c m) g tb ⟨nx, rt, bk, ct⟩ σ H :=
  ⟨lo, n, -1, (lo - n).toNat, rfl, RgC.neg (by omega) (by omega) (by omega) (by omega), for_rangeC (lo := lo) (c := -1) (n := (lo - n).toNat) Pv h0 (fun i σ' H' hi p => by
    have e0 : lo + (i : Nat) * (-1) = lo - (i : Int) := by omega
    rw [e0]
    exact hs i σ' H' (by omega) p) hd⟩
theorem f_tup {a : Addr} {xs : List V} (hx : SqT K H a xs) (Pv : Nat → L2.St → Hp → Prop) (h0 : Pv 0 σ H) (hl : ∀ i σ' H', Pv i σ' H' → SqT K H' a xs)
    (hs : ∀ i x σ' H', xs[i]? = some x → Pv i σ' H' → g x σ' H' fun σ2 H2 => tb ⟨Pv (i + 1), rt, nx, Pv (i + 1)⟩ σ2 H2) (hd : ∀ σ' H', Pv xs.length σ' H' → nx σ' H') :
    ∃ a', V.ref a = .ref a' ∧ (∃ xs, SqT K H a' xs) ∧ ForW (Itt K a') g tb ⟨nx, rt, bk, ct⟩ σ H :=
  ⟨a, rfl, ⟨xs, hx⟩, for_tup Pv h0 (fun i σ' H' _ p => hl i σ' H' p) hs hd⟩
theorem f_list {a : Addr} {xs : List V} (hx : SqL K H a xs) (Pv : Nat → L2.St → Hp → Prop) (h0 : Pv 0 σ H) (hl : ∀ i σ' H', Pv i σ' H' → SqL K H' a xs)
    (hs : ∀ i x σ' H', xs[i]? = some x → Pv i σ' H' → g x σ' H' fun σ2 H2 => tb ⟨Pv (i + 1), rt, nx, Pv (i + 1)⟩ σ2 H2) (hd : ∀ σ' H', Pv xs.length σ' H' → nx σ' H') :
    ∃ a', V.ref a = .ref a' ∧ (∃ xs, SqL K H a' xs) ∧ ForW (Itl K a') g tb ⟨nx, rt, bk, ct⟩ σ H :=
  ⟨a, rfl, ⟨xs, hx⟩, for_list Pv h0 (fun i σ' H' _ p => hl i σ' H' p) hs hd⟩
/-- reversed(a list): the turns see the reversed list's items -/
theorem f_rev {a : Addr} {xs : List V} (hx : SqL K H a xs) (Pv : Nat → L2.St → Hp → Prop) (h0 : Pv 0 σ H) (hl : ∀ i σ' H', Pv i σ' H' → SqL K H' a xs)
    (hs : ∀ i x σ' H', xs.reverse[i]? = some x → Pv i σ' H' → g x σ' H' fun σ2 H2 => tb ⟨Pv (i + 1), rt, nx, Pv (i + 1)⟩ σ2 H2) (hd : ∀ σ' H', Pv xs.length σ' H' → nx σ' H') :
    ∃ (a' : Addr) (ys : List V), [V.ref a] = [.ref a'] ∧ SqL K H a' ys ∧ ForW (Itv K a' ys.length) g tb ⟨nx, rt, bk, ct⟩ σ H := by
  refine ⟨a, xs, rfl, hx, fun i m σ H => m = xs.length - i ∧ i ≤ xs.length ∧ Pv i σ H, ⟨xs.length, by simp, Nat.zero_le _, h0⟩, ?_⟩
  rintro i m σ H ⟨rfl, hi, p⟩
  have q := hl i σ H p
  by_cases hlt : i < xs.length
  · refine .inr ⟨⟨hlt, xs, xs[xs.length - 1 - i], q, by simp [show xs.length - 1 - i < xs.length by omega]⟩, Pv (i + 1), fun σ' H' p' => ⟨xs.length - (i + 1), by omega, rfl, hlt, p'⟩, fun x H' y => ?_⟩
    obtain ⟨e, y⟩ := y
    subst e
    refine hs i x σ _ ?_ p
    rw [List.getElem?_reverse hlt]
    exact y xs q
  · have e : i = xs.length := by omega
    subst e
    exact .inl ⟨Nat.le_refl _, hd σ H p⟩
/-- while -/
theorem s_while (W : Nat → L2.St → Hp → Prop) (m0 : Nat) (h0 : W m0 σ H)
    (hs : ∀ m σ' H', W m σ' H' → c σ' H' fun b H1 => if b = true then ∃ N : L2.St → Hp → Prop, (∀ σ2 H2, N σ2 H2 → ∃ m', m' < m ∧ W m' σ2 H2) ∧ tb ⟨N, rt, nx, N⟩ σ' H1 else nx σ' H1) : tWhile c tb ⟨nx, rt, bk, ct⟩ σ H :=
  ⟨W, ⟨m0, h0⟩, hs⟩
theorem w_true {W : Nat → L2.St → Hp → Prop} {m : Nat} (q : tb ⟨fun σ2 H2 => ∃ m', m' < m ∧ W m' σ2 H2, rt, nx, fun σ2 H2 => ∃ m', m' < m ∧ W m' σ2 H2⟩ σ H) :
    ∃ N : L2.St → Hp → Prop, (∀ σ2 H2, N σ2 H2 → ∃ m', m' < m ∧ W m' σ2 H2) ∧ tb ⟨N, rt, nx, N⟩ σ H := ⟨_, fun _ _ z => z, q⟩
/-- what a comprehension asks once its iterator is there -/
def LcW (J : It) (g : TG) (tt : TT) (te : TE) (vs : List Nat) (σ : L2.St) (Q : VK) (H1 : Hp) : Prop := ∀ D, H1 D = none → ∃ W : Nat → Nat → Hp → Prop, (∃ m, W 0 m (upd H1 D (.lst []))) ∧ ∀ i m H, W i m H →
  (J.stop i H ∧ Q (.ref D) H) ∨ (J.go i H ∧ ∃ Nx : Hp → Prop, (∀ H', Nx H' → ∃ m', m' < m ∧ W (i + 1) m' H') ∧ ∀ x H', J.yld i H x H' → g x (wipe σ vs) H' fun σ2 H2 => wipe σ2 vs = wipe σ vs ∧ tt σ2 H2 fun b H3 =>
    if b = true then te σ2 H3 fun y H4 => ∃ acc, H4 D = some (.lst acc) ∧ acc.length < sizeLine ∧ Nx (upd H4 D (.lst (acc ++ [y]))) else Nx H3)
theorem d_lc {wi : TI} {tt : TT} {vs : List Nat} {Q : VK} (q : wi σ H fun J H1 => LcW J g tt te vs σ Q H1) : tLc wi g tt te vs σ H Q := q
end

/-! ### comprehensions: a list by the turns -/
section
variable {K : PySem.W.Frag} {σ : L2.St} {H : Hp} {te : TE} {tt : TT} {vs : List Nat} {j j2 : Nat} {Q : VK}
theorem cw_step {D : Addr} {b : Nat → Bool} {f : Nat → V} {i n : Nat} {σ2 : L2.St} {H' H3 : Hp} (hn : n ≤ 50000) (hi : i < n) (hD : H D = none) (e : Ex H H') (hl : H' D = some (.lst (given i b f)))
    (ht : ∀ Qb : Bool → Hp → Prop, (∀ H'', Ex H' H'' → Qb (b i) H'') → tt σ2 H' Qb) (he : b i = true → ∀ H'', Ex H' H'' → ∀ Qv : VK, (∀ H3, Ex H'' H3 → Qv (f i) H3) → te σ2 H'' Qv) :
    tt σ2 H' fun bb H3 => if bb = true then te σ2 H3 fun y H4 => ∃ acc, H4 D = some (.lst acc) ∧ acc.length < sizeLine ∧ (Ex H (upd H4 D (.lst (acc ++ [y]))) ∧ upd H4 D (.lst (acc ++ [y])) D = some (.lst (given (i + 1) b f))) else Ex H H3 ∧ H3 D = some (.lst (given (i + 1) b f)) := by
  refine ht _ fun H3 e3 => ?_
  cases hb : b i with
  | true =>
    show te σ2 H3 _
    refine he hb H3 e3 _ fun H4 e4 => ⟨_, e4 D _ (e3 D _ hl), sz_lt (by have := given_len i b f; omega), Ex.mut ((e.trans e3).trans e4) hD, ?_⟩
    rw [given_yes hb]
    exact upd_same
  | false =>
    show Ex H H3 ∧ _
    rw [given_no hb]
    exact ⟨e.trans e3, e3 D _ hl⟩
/-- the items stand, each the i-th turn's -/
theorem l_lc {J : It} {n : Nat} (item : Nat → V) (hgo : ∀ i H', i < n → Ex H H' → J.go i H') (hst : ∀ H', Ex H H' → J.stop n H') (hyl : ∀ i H' x H'', i < n → Ex H H' → J.yld i H' x H'' → x = item i ∧ H'' = H')
    (b : Nat → Bool) (f : Nat → V) (hn : n ≤ 50000) (hw : ∀ i, wipe ((wipe σ vs).set j (some (item i))) vs = wipe σ vs)
    (ht : ∀ i H', i < n → Ex H H' → ∀ Qb : Bool → Hp → Prop, (∀ H'', Ex H' H'' → Qb (b i) H'') → tt ((wipe σ vs).set j (some (item i))) H' Qb)
    (he : ∀ i H', i < n → b i = true → Ex H H' → ∀ Qv : VK, (∀ H'', Ex H' H'' → Qv (f i) H'') → te ((wipe σ vs).set j (some (item i))) H' Qv)
    (k : ∀ D H2, H D = none → Ex H H2 → H2 D = some (.lst (given n b f)) → Q (.ref D) H2) : LcW J (gName j) tt te vs σ Q H := fun D hD => by
  refine ⟨fun i m H' => m = n - i ∧ i ≤ n ∧ Ex H H' ∧ H' D = some (.lst (given i b f)), ⟨n, by simp, Nat.zero_le _, Ex.new hD, upd_same⟩, ?_⟩
  rintro i m H' ⟨rfl, hi, e, hl⟩
  by_cases hlt : i < n
  · refine .inr ⟨hgo i H' hlt e, fun H2 => Ex H H2 ∧ H2 D = some (.lst (given (i + 1) b f)), fun H2 p => ⟨n - (i + 1), by omega, rfl, hlt, p⟩, fun x H2 y => ?_⟩
    obtain ⟨rfl, rfl⟩ := hyl i H' x H2 hlt e y
    exact ⟨hw i, cw_step (H3 := H) hn hlt hD e hl (ht i _ hlt e) fun hb H3 e3 => he i H3 hlt hb (e.trans e3)⟩
  · have q : i = n := by omega
    subst q
    exact .inl ⟨hst H' e, k D H' hD e hl⟩
/-- over a new pair each turn -/
theorem l_lc2 {J : It} {n : Nat} (it1 it2 : Nat → V) (hgo : ∀ i H', i < n → Ex H H' → J.go i H') (hst : ∀ H', Ex H H' → J.stop n H')
    (hyl : ∀ i H' x H'', i < n → Ex H H' → J.yld i H' x H'' → ∃ T, x = .ref T ∧ H' T = none ∧ H'' = upd H' T (.tup [it1 i, it2 i]))
    (b : Nat → Bool) (f : Nat → V) (hn : n ≤ 50000) (hw : ∀ i, wipe (((wipe σ vs).set j (some (it1 i))).set j2 (some (it2 i))) vs = wipe σ vs)
    (ht : ∀ i H', i < n → Ex H H' → ∀ Qb : Bool → Hp → Prop, (∀ H'', Ex H' H'' → Qb (b i) H'') → tt (((wipe σ vs).set j (some (it1 i))).set j2 (some (it2 i))) H' Qb)
    (he : ∀ i H', i < n → b i = true → Ex H H' → ∀ Qv : VK, (∀ H'', Ex H' H'' → Qv (f i) H'') → te (((wipe σ vs).set j (some (it1 i))).set j2 (some (it2 i))) H' Qv)
    (k : ∀ D H2, H D = none → Ex H H2 → H2 D = some (.lst (given n b f)) → Q (.ref D) H2) : LcW J (gTup K 2 (gCons (gName j) (gCons (gName j2) gNil))) tt te vs σ Q H := fun D hD => by
  refine ⟨fun i m H' => m = n - i ∧ i ≤ n ∧ Ex H H' ∧ H' D = some (.lst (given i b f)), ⟨n, by simp, Nat.zero_le _, Ex.new hD, upd_same⟩, ?_⟩
  rintro i m H' ⟨rfl, hi, e, hl⟩
  by_cases hlt : i < n
  · refine .inr ⟨hgo i H' hlt e, fun H2 => Ex H H2 ∧ H2 D = some (.lst (given (i + 1) b f)), fun H2 p => ⟨n - (i + 1), by omega, rfl, hlt, p⟩, fun x H2 y => ?_⟩
    obtain ⟨T, rfl, hT, rfl⟩ := hyl i H' x H2 hlt e y
    have e2 : Ex H' (upd H' T (.tup [it1 i, it2 i])) := Ex.new hT
    refine ⟨T, _, rfl, SqT.of upd_same, rfl, ?_⟩
    refine ⟨_, _, rfl, ?_⟩
    refine ⟨_, _, rfl, rfl, ?_⟩
    exact ⟨hw i, cw_step (H3 := H) hn hlt hD (e.trans e2) (e2 D _ hl) (ht i _ hlt (e.trans e2)) fun hb H3 e3 => he i H3 hlt hb ((e.trans e2).trans e3)⟩
  · have q : i = n := by omega
    subst q
    exact .inl ⟨hst H' e, k D H' hD e hl⟩
theorem given_all {n : Nat} {f : Nat → V} : given n (fun _ => true) f = (List.range n).map f := by
  unfold given
  rw [List.filter_eq_self.mpr (fun _ _ => rfl)]
theorem range_map_get {α : Type} {xs : List α} {f : Nat → V} {g : α → V} (h : ∀ i x, xs[i]? = some x → f i = g x) : (List.range xs.length).map f = xs.map g := by
  refine List.ext_getElem? fun i => ?_
  rw [List.getElem?_map, List.getElem?_map]
  by_cases hi : i < xs.length
  · rw [List.getElem?_range hi, List.getElem?_eq_getElem hi]
    exact congrArg some (h i _ (List.getElem?_eq_getElem hi))
  · rw [List.getElem?_eq_none (by simp; omega), List.getElem?_eq_none (by omega)] <;> rfl
theorem getD_get {xs : List V} {i : Nat} (h : i < xs.length) : xs[i]? = some (xs.getD i .non) := by
  rw [List.getD_eq_getElem?_getD, List.getElem?_eq_getElem h]; rfl
/-- [.. for x in t], t a tuple: with a test | without -/
theorem l_tup {a : Addr} {xs : List V} (hx : SqT K H a xs) (b : V → Bool) (F : V → V) (hn : xs.length ≤ 50000) (hw : ∀ x, wipe ((wipe σ vs).set j (some x)) vs = wipe σ vs)
    (ht : ∀ x H', x ∈ xs → Ex H H' → ∀ Qb : Bool → Hp → Prop, (∀ H'', Ex H' H'' → Qb (b x) H'') → tt ((wipe σ vs).set j (some x)) H' Qb)
    (he : ∀ x H', x ∈ xs → b x = true → Ex H H' → ∀ Qv : VK, (∀ H'', Ex H' H'' → Qv (F x) H'') → te ((wipe σ vs).set j (some x)) H' Qv)
    (k : ∀ D H2, H D = none → Ex H H2 → H2 D = some (.lst ((xs.filter b).map F)) → Q (.ref D) H2) :
    ∃ a', V.ref a = .ref a' ∧ (∃ xs, SqT K H a' xs) ∧ LcW (Itt K a') (gName j) tt te vs σ Q H := by
  refine ⟨a, rfl, ⟨xs, hx⟩, l_lc (n := xs.length) (fun i => xs.getD i .non) (fun i H' hi e => ⟨xs, _, ex_t e hx, getD_get hi⟩) (fun H' e => ⟨xs, ex_t e hx, Nat.le_refl _⟩) (fun i H' x H'' hi e y => ⟨?_, y.1⟩)
    (fun i => b (xs.getD i .non)) (fun i => F (xs.getD i .non)) hn (fun i => hw _) (fun i H' hi e => ht _ H' ?_ e) (fun i H' hi hb e => he _ H' ?_ hb e) fun D H2 h1 e h2 => k D H2 h1 e ?_⟩
  · have q := y.2 xs (ex_t e hx)
    rw [getD_get hi] at q
    exact (Option.some.inj q).symm
  · exact List.mem_of_getElem? (getD_get hi)
  · exact List.mem_of_getElem? (getD_get hi)
  · rw [h2]
    congr 2
    unfold given
    have e1 : xs = (List.range xs.length).map (fun i => xs.getD i .non) := by
      rw [range_map_get (g := id) (fun i x hi => by rw [List.getD_eq_getElem?_getD, hi]; rfl)]
      simp
    conv => rhs; rw [e1]
    rw [List.filter_map, List.map_map]
    rfl
theorem l_list {a : Addr} {xs : List V} (hx : SqL K H a xs) (b : V → Bool) (F : V → V) (hn : xs.length ≤ 50000) (hw : ∀ x, wipe ((wipe σ vs).set j (some x)) vs = wipe σ vs)
    (ht : ∀ x H', x ∈ xs → Ex H H' → ∀ Qb : Bool → Hp → Prop, (∀ H'', Ex H' H'' → Qb (b x) H'') → tt ((wipe σ vs).set j (some x)) H' Qb)
    (he : ∀ x H', x ∈ xs → b x = true → Ex H H' → ∀ Qv : VK, (∀ H'', Ex H' H'' → Qv (F x) H'') → te ((wipe σ vs).set j (some x)) H' Qv)
    (k : ∀ D H2, H D = none → Ex H H2 → H2 D = some (.lst ((xs.filter b).map F)) → Q (.ref D) H2) :
    ∃ a', V.ref a = .ref a' ∧ (∃ xs, SqL K H a' xs) ∧ LcW (Itl K a') (gName j) tt te vs σ Q H := by
  refine ⟨a, rfl, ⟨xs, hx⟩, l_lc (n := xs.length) (fun i => xs.getD i .non) (fun i H' hi e => ⟨xs, _, ex_l e hx, getD_get hi⟩) (fun H' e => ⟨xs, ex_l e hx, Nat.le_refl _⟩) (fun i H' x H'' hi e y => ⟨?_, y.1⟩)
    (fun i => b (xs.getD i .non)) (fun i => F (xs.getD i .non)) hn (fun i => hw _) (fun i H' hi e => ht _ H' ?_ e) (fun i H' hi hb e => he _ H' ?_ hb e) fun D H2 h1 e h2 => k D H2 h1 e ?_⟩
  · have q := y.2 xs (ex_l e hx)
    rw [getD_get hi] at q
    exact (Option.some.inj q).symm
  · exact List.mem_of_getElem? (getD_get hi)
  · exact List.mem_of_getElem? (getD_get hi)
  · rw [h2]
    congr 2
    unfold given
    have e1 : xs = (List.range xs.length).map (fun i => xs.getD i .non) := by
      rw [range_map_get (g := id) (fun i x hi => by rw [List.getD_eq_getElem?_getD, hi]; rfl)]
      simp
    conv => rhs; rw [e1]
    rw [List.filter_map, List.map_map]
    rfl
theorem filter_yes {α : Type} (xs : List α) : xs.filter (fun _ => true) = xs := List.filter_eq_self.mpr fun _ _ => rfl
/-- [.. for k in range(n)] -/
theorem l_rng {n : Int} (hn : -100000 ≤ n ∧ n ≤ 50000) (f : Nat → V) (hw : ∀ x, wipe ((wipe σ vs).set j (some x)) vs = wipe σ vs)
    (he : ∀ (i : Nat) H', (i : Int) < n → Ex H H' → ∀ Qv : VK, (∀ H'', Ex H' H'' → Qv (f i) H'') → te ((wipe σ vs).set j (some (.int (i : Int)))) H' Qv)
    (k : ∀ D H2, H D = none → Ex H H2 → H2 D = some (.lst ((List.range n.toNat).map f)) → Q (.ref D) H2) :
    ∃ n' : Int, [V.int n] = [.int n'] ∧ -(2 ^ 62) ≤ n' ∧ n' < 2 ^ 62 ∧ LcW (Itr 0 n'.toNat) (gName j) tYes te vs σ Q H := by
  refine ⟨n, rfl, by omega, by omega, l_lc (n := n.toNat) (fun i => .int (i : Int)) (fun i H' hi e => hi) (fun H' e => Nat.le_refl _) (fun i H' x H'' hi e y => ⟨?_, y.1⟩)
    (fun _ => true) f (by omega) (fun i => hw _) (fun i H' hi e Qb q => q H' (Ex.refl _)) (fun i H' hi hb e => he i H' (by omega) e) fun D H2 h1 e h2 => k D H2 h1 e ?_⟩
  · rw [y.2, Int.zero_add]
  · rw [h2, given_all]
/-- [.. for x, y in zip(xs, ys)], lists | tuples -/
theorem zip_map {xs ys : List V} (hl : xs.length = ys.length) (F : V → V → V) : (List.range xs.length).map (fun i => F (xs.getD i .non) (ys.getD i .non)) = List.zipWith F xs ys := by
  refine List.ext_getElem? fun i => ?_
  rw [List.getElem?_map, List.getElem?_zipWith]
  by_cases hi : i < xs.length
  · rw [List.getElem?_range hi, getD_get hi, getD_get (xs := ys) (by omega)]
    rfl
  · rw [List.getElem?_eq_none (by simp; omega), List.getElem?_eq_none (l := xs) (by omega)] <;> rfl
theorem l_zip {a1 a2 : Addr} {xs ys : List V} (hx : SqL K H a1 xs) (hy : SqL K H a2 ys) (hl : xs.length = ys.length) (F : V → V → V) (hn : xs.length ≤ 50000) (hw : ∀ x y, wipe (((wipe σ vs).set j (some x)).set j2 (some y)) vs = wipe σ vs)
    (he : ∀ x y H', x ∈ xs → y ∈ ys → Ex H H' → ∀ Qv : VK, (∀ H'', Ex H' H'' → Qv (F x y) H'') → te (((wipe σ vs).set j (some x)).set j2 (some y)) H' Qv)
    (k : ∀ D H2, H D = none → Ex H H2 → H2 D = some (.lst (List.zipWith F xs ys)) → Q (.ref D) H2) : LcW (Itz K a1 a2) (gTup K 2 (gCons (gName j) (gCons (gName j2) gNil))) tYes te vs σ Q H := by
  refine l_lc2 (n := xs.length) (fun i => xs.getD i .non) (fun i => ys.getD i .non) (fun i H' hi e => ⟨xs, ys, _, _, ex_l e hx, ex_l e hy, getD_get hi, getD_get (by omega)⟩)
    (fun H' e => ⟨xs, ys, ex_l e hx, ex_l e hy, .inl (Nat.le_refl _)⟩) (fun i H' x H'' hi e y => ?_)
    (fun _ => true) (fun i => F (xs.getD i .non) (ys.getD i .non)) hn (fun i => hw _ _) (fun i H' hi e Qb q => q H' (Ex.refl _)) (fun i H' hi hb e => he _ _ H' (List.mem_of_getElem? (getD_get hi)) (List.mem_of_getElem? (getD_get (by omega))) e) fun D H2 h1 e h2 => k D H2 h1 e ?_
  · obtain ⟨T, x1, x2, h1, h2, h3, h4, h5⟩ := y
    have q1 := h4 xs (ex_l e hx)
    have q2 := h5 ys (ex_l e hy)
    rw [getD_get hi] at q1
    rw [getD_get (xs := ys) (by omega)] at q2
    rw [← Option.some.inj q1, ← Option.some.inj q2] at h3
    exact ⟨T, h1, h2, h3⟩
  · rw [h2, given_all, zip_map hl]
theorem l_zipT {a1 a2 : Addr} {xs ys : List V} (hx : SqT K H a1 xs) (hy : SqT K H a2 ys) (hl : xs.length = ys.length) (F : V → V → V) (hn : xs.length ≤ 50000) (hw : ∀ x y, wipe (((wipe σ vs).set j (some x)).set j2 (some y)) vs = wipe σ vs)
    (he : ∀ x y H', x ∈ xs → y ∈ ys → Ex H H' → ∀ Qv : VK, (∀ H'', Ex H' H'' → Qv (F x y) H'') → te (((wipe σ vs).set j (some x)).set j2 (some y)) H' Qv)
    (k : ∀ D H2, H D = none → Ex H H2 → H2 D = some (.lst (List.zipWith F xs ys)) → Q (.ref D) H2) : LcW (ItzT K a1 a2) (gTup K 2 (gCons (gName j) (gCons (gName j2) gNil))) tYes te vs σ Q H := by
  refine l_lc2 (n := xs.length) (fun i => xs.getD i .non) (fun i => ys.getD i .non) (fun i H' hi e => ⟨xs, ys, _, _, ex_t e hx, ex_t e hy, getD_get hi, getD_get (by omega)⟩)
    (fun H' e => ⟨xs, ys, ex_t e hx, ex_t e hy, .inl (Nat.le_refl _)⟩) (fun i H' x H'' hi e y => ?_)
    (fun _ => true) (fun i => F (xs.getD i .non) (ys.getD i .non)) hn (fun i => hw _ _) (fun i H' hi e Qb q => q H' (Ex.refl _)) (fun i H' hi hb e => he _ _ H' (List.mem_of_getElem? (getD_get hi)) (List.mem_of_getElem? (getD_get (by omega))) e) fun D H2 h1 e h2 => k D H2 h1 e ?_
  · obtain ⟨T, x1, x2, h1, h2, h3, h4, h5⟩ := y
    have q1 := h4 xs (ex_t e hx)
    have q2 := h5 ys (ex_t e hy)
    rw [getD_get hi] at q1
    rw [getD_get (xs := ys) (by omega)] at q2
    rw [← Option.some.inj q1, ← Option.some.inj q2] at h3
    exact ⟨T, h1, h2, h3⟩
  · rw [h2, given_all, zip_map hl]
end
end Fm
set_option Elab.async false
set_option linter.all false
set_option maxRecDepth 100000
set_option maxHeartbeats 4000000
/-! for i, x in enumerate(a tuple) -/
namespace Fm
open PySem PySem.Spec PyProof.Rows L2 Evl RZ
/-- the new object enumerate(t) -/
theorem enumT_new (t : Addr) (its : Array Value) : Meets (Builtin.«enumerate.__new__» ⟨[.type "enumerate", .ref t], []⟩) (fun _ R s => s.heap.IsTuple t its ∧
      R (.ok (.ret (.ref (s.heap.push { cls := .type "tuple_iterator", data := .fields #[.ref t, .int 0 0] }).objs.size)))
        { s with heap := (s.heap.push { cls := .type "tuple_iterator", data := .fields #[.ref t, .int 0 0] }).push { cls := .type "enumerate", data := .fields #[.none, .bool false, .ref s.heap.objs.size, rawInt 0, .none, .none] } }) :=
  .of_wp fun prog w A R s h => by
    obtain ⟨hp, g, d, tk, os⟩ := s
    obtain ⟨ht, h⟩ := h
    have hsub := sub_enumerate
    have q1 : ∀ {A' : Around} {E Q : Value → Shared → Prop}, Q (.ref hp.objs.size) ⟨hp.push { cls := .type "tuple_iterator", data := .fields #[.ref t, .int 0 0] }, g, d, tk, os⟩ → wpAny (model prog w) A' (pyIter (.ref t)) Q E ⟨hp, g, d, tk, os⟩ :=
      fun q => wpAny_pyIter_tuple ht q
    wp_walk using q1
    refine wpAny_stack_any fun st => wpAny_pure ?_
    split
    · rename_i c _ _ _ _ _
      cases (c == Value.type "enumerate") <;> (wp_walk using q1; exact ⟨_, rfl, h⟩)
    · wp_walk using q1
      exact ⟨_, rfl, h⟩
theorem enumT_call {prog : Program} {w : World} {A : Around} {E Q : Value → Shared → Prop} {s : Shared} {t : Addr} {its : Array Value} (ht : s.heap.IsTuple t its)
    (h : ∀ h', IsEnum h' (s.heap.objs.size + 1) s.heap.objs.size 0 .none → h'.IsTupleIter s.heap.objs.size t 0 → (∀ b o, s.heap.get? b = some o → h'.get? b = some o) → Q (.ref (s.heap.objs.size + 1)) { s with heap := h' }) :
    wpAny (model prog w) A (call (.type "enumerate") [.ref t]) Q E s := by
  refine callType_new F.called_enumerate (by decide) (F.typeCall_enumerate_1 _) (F.newCall_enumerate_1 _) (fun obj => F.args_object_init_2 obj _) F.entry_enumerate_new (enumT_new t its) ⟨ht, ?_⟩
  have hz : (s.heap.push { cls := .type "tuple_iterator", data := .fields #[.ref t, .int 0 0] }).objs.size = s.heap.objs.size + 1 := Heap.size_push ..
  show _ ∧ _
  rw [hz]
  have e1 := Heap.get?_push_size (s.heap.push { cls := .type "tuple_iterator", data := .fields #[.ref t, .int 0 0] }) (o := { cls := .type "enumerate", data := .fields #[.none, .bool false, .ref s.heap.objs.size, rawInt 0, .none, .none] }) rfl
  rw [hz] at e1
  exact ⟨⟨_, e1, rfl⟩, h _ e1 ⟨_, Heap.get?_push_of_some _ (Heap.get?_push_size _ rfl), rfl, rfl⟩ fun b o x => Heap.get?_push_of_some _ (Heap.get?_push_of_some _ x)⟩
/-- the turns: a new pair of the place and the item -/
def IteT (K : PySem.W.Frag) (a : Addr) : It :=
  ⟨fun i H => ∃ (xs : List V) (x : V), SqT K H a xs ∧ xs[i]? = some x, fun i H v H' => ∃ T x, v = .ref T ∧ H T = none ∧ H' = upd H T (.tup [.int (i : Nat), x]) ∧ ∀ xs, SqT K H a xs → xs[i]? = some x,
    fun i H => ∃ xs : List V, SqT K H a xs ∧ xs.length = i⟩
theorem turn_enT {P : Program} {w : World} {K : PySem.W.Frag} {elts : List Expr} {kk : Nat} {tpos : Pos} (a e it : Addr) :
    Turn P w K (.Tuple elts kk tpos) (IteT K a) [e, it] e (fun i h => (∃ old, IsEnum h e it ((i : Nat) : Int) old) ∧ h.IsTupleIter it a i ∧ e ≠ it ∧ a ≠ it ∧ a ≠ e) where
  mem := by simp
  obj := fun i h st b hb => by
    obtain ⟨⟨old, he⟩, ⟨o, ho, hc, hd⟩, _⟩ := st
    rcases List.mem_cons.mp hb with z | z
    · rw [z]; exact ⟨_, he, fun v q => nomatch q⟩
    · rw [List.mem_singleton.mp z]; exact ⟨o, ho, fun v q => by rw [hd] at q; cases q⟩
  keep := fun i h h' st k => by
    obtain ⟨⟨old, he⟩, hi, hne⟩ := st
    exact ⟨⟨old, k e (by simp) _ he⟩, hi.at fun o q => k it (by simp) o q, hne⟩
  item := by
    intro X hP hw hK hc i pins s σ H E I hf st hg
    subst hP hw hK
    obtain ⟨⟨old, he⟩, hit, hne, ha1, ha2⟩ := st
    obtain ⟨xs, x, hq, hx⟩ := hg
    obtain ⟨its, rv, p, hz⟩ := I.tuple hq
    obtain ⟨u, hu, ru⟩ := rv.get hx
    have pt : s.heap.IsTuple a its.toArray := p
    have hil : i < its.toArray.size := by
      have := (List.getElem?_eq_some_iff.mp hu).1
      simpa using this
    have Gs := GoesN.enumFrom (elts := elts) (x1 := kk) (pos := tpos) (A := X.A) 0 (Draws.tuple (prog := X.prog) (w := X.w) (A := X.A.in1) (I.ok.hd hc) it a ha1 its.toArray) e hne (by simp [hne, Ne.symm ha2]) (by simp)
    have e0 : (0 : Int) + ((i : Nat) : Int) = ((i : Nat) : Int) := Int.zero_add _
    refine wpAny_mono (Gs.goes i s (fun v s2 => ∃ x H', Inv X pins σ H' s2 ∧ RelV x v ∧ (IteT X.K a).yld i H x H' ∧ ((∃ old, IsEnum s2.heap e it (((i + 1 : Nat)) : Int) old) ∧ s2.heap.IsTupleIter it a (i + 1) ∧ e ≠ it ∧ a ≠ it ∧ a ≠ e) ∧ ∀ b ∈ [e, it], H' b = none) E hil
      ⟨⟨old, by rw [e0]; exact he⟩, hit, pt⟩ (fun v h' tk y st' hk htk => ?_)) (fun r s1 q => q) fun _ _ q => q
    obtain ⟨T, t, z, rfl, hT, hz1, hz2⟩ := y
    obtain ⟨⟨old', he'⟩, hit', _⟩ := st'
    have ez : z = u := by
      have q : its.toArray[i]? = some u := by simpa using hu
      rw [q] at hz1
      exact (Option.some.inj hz1).symm
    subst ez
    have new : ObjOk X.prog X.w (upd H T (.tup [.int (i : Nat), x])) h' T (.tup [.int (i : Nat), x]) := by
      refine ⟨by show 2 ≤ sizeLine; decide, [.int (i : Nat) t, z], .cons ⟨_, rfl⟩ (.cons ru .nil), ?_⟩
      rw [e0] at hz2
      exact hz2
    have I1 : Inv X pins σ (upd H T (.tup [.int (i : Nat), x])) { s with heap := h', toks := tk } := I.turnedNew (ch := [e, it]) hk hf hT new
    have e1 : (0 : Int) + ((i + 1 : Nat) : Int) = ((i + 1 : Nat) : Int) := Int.zero_add _
    rw [e1] at he'
    refine ⟨.ref T, _, I1, rfl, ⟨T, x, rfl, I.hok.fresh hT, rfl, fun ys hy => by rw [I.tuple_inj hy hq]; exact hx⟩, ⟨⟨old', he'⟩, hit', hne, ha1, ha2⟩, fun b hb => ?_⟩
    have hb' : b < s.heap.objs.size := by
      rcases List.mem_cons.mp hb with q | q
      · rw [q]; exact Heap.lt_size he
      · obtain ⟨_, q2, _⟩ := hit
        rw [List.mem_singleton.mp q]; exact Heap.lt_size q2
    rw [upd_ne (Nat.ne_of_lt (Nat.lt_of_lt_of_le hb' hT))]
    exact (hf b hb).1
  done := by
    intro X hP hw hK hc i pins s σ H E I hf st hg
    subst hP hw hK
    obtain ⟨⟨old, he⟩, hit, hne, ha1, ha2⟩ := st
    obtain ⟨xs, hq, hx⟩ := hg
    obtain ⟨its, rv, p, hz⟩ := I.tuple hq
    have pt : s.heap.IsTuple a its.toArray := p
    have hl := rv.length
    have Gs := GoesN.enumFrom (elts := elts) (x1 := kk) (pos := tpos) (A := X.A) 0 (Draws.tuple (prog := X.prog) (w := X.w) (A := X.A.in1) (I.ok.hd hc) it a ha1 its.toArray) e hne (by simp [hne, Ne.symm ha2]) (by simp)
    have hi : i = its.toArray.size := by
      rw [← hx, hl]
      simp
    subst hi
    have e0 : (0 : Int) + ((its.toArray.size : Nat) : Int) = ((its.toArray.size : Nat) : Int) := Int.zero_add _
    exact wpAny_mono (Gs.stops s (fun s1 => Inv X pins σ H s1) E ⟨⟨old, by rw [e0]; exact he⟩, hit, pt⟩ fun h' tk hk htk => I.turnedL (ch := [e, it]) hk hf) (fun r s1 q => q) fun _ _ q => q
  self := fun A i s Q E st h => let ⟨⟨_, he⟩, _⟩ := st; wpAny_pyIter_enum he h
def iEnT (K : PySem.W.Frag) (te : TE) : TI := fun σ H R => te σ H fun x H1 => ∃ a xs, x = .ref a ∧ SqT K H1 a xs ∧ R (IteT K a) H1
theorem pi_enumT {X : Cx} {e : Expr} {ta : TE} {p pos tpos : Pos} {elts : List Expr} {kk : Nat} (hg : Gl X "enumerate") (hm : X.mg "enumerate" = none) (ha : PE X e ta) (hs : starEach [e] X.env = [(false, eval e X.env)] := by rfl) :
    PI X (.Tuple elts kk tpos) (.Call (.Name "enumerate" p) [e] [] pos) (iEnT X.K ta) := by
  refine ⟨fun pins s σ H R I h => ?_⟩
  have h2 : tCons ta tNil σ H fun vs H1 => ∃ a xs, vs = [.ref a] ∧ SqT X.K H1 a xs ∧ R (IteT X.K a) H1 := by
    refine (show ta σ H fun x H1 => ∃ a xs, [x] = [.ref a] ∧ SqT X.K H1 a xs ∧ R (IteT X.K a) H1 from ?_)
    have e : (fun (x : V) (H1 : Hp) => ∃ a xs, [x] = [.ref a] ∧ SqT X.K H1 a xs ∧ R (IteT X.K a) H1) = fun x H1 => ∃ a xs, x = .ref a ∧ SqT X.K H1 a xs ∧ R (IteT X.K a) H1 := by
      funext x H1
      simp
    rw [e]
    exact h
  refine Call_ (ld_blt I hg hm boot_enumerate (PyProof.Rows.callWith_type1 (thn ((pa_cons ha pa_nil hs).run pos pins s σ H _ I h2) fun us s1 ⟨vs, H1, I1, r1, q1⟩ => ?_) hs rfl))
  obtain ⟨a, xs, rfl, hq, q⟩ := q1
  cases r1 with
  | cons r rr =>
    cases rr
    cases r
    obtain ⟨its, rv, p', hz⟩ := I1.tuple hq
    have hlt : a < s1.heap.objs.size := by
      obtain ⟨_, q2, _⟩ := id p'
      exact Heap.lt_size q2
    refine enumT_call (t := a) (its := its.toArray) p' fun h' he hit hk => wpAny_pyIter_enum he ?_
    refine ⟨s1.heap.objs.size + 1, [s1.heap.objs.size + 1, s1.heap.objs.size], _, _, H1, rfl, I1.kept (t' := s1.toks) hk, turn_enT a (s1.heap.objs.size + 1) s1.heap.objs.size,
      ⟨⟨.none, he⟩, hit, Nat.succ_ne_self _, Nat.ne_of_lt hlt, Nat.ne_of_lt (Nat.lt_succ_of_lt hlt)⟩, fun b hb => ?_, q⟩
    have hle : s1.heap.objs.size ≤ b := by
      rcases List.mem_cons.mp hb with z | z
      · rw [z]; exact Nat.le_succ _
      · rw [List.mem_singleton.mp z]; exact Nat.le_refl _
    exact I1.fpOk hle (I1.hok.fresh hle)
section
variable {K : PySem.W.Frag} {σ : L2.St} {H : Hp} {te : TE} {nx bk ct : L2.St → Hp → Prop} {rt : VK} {tb : TS} {i1 i2 : Nat}
theorem w_enT {R : It → Hp → Prop} (q : te σ H fun x H1 => ∃ a xs, x = .ref a ∧ SqT K H1 a xs ∧ R (IteT K a) H1) : iEnT K te σ H R := q
theorem f_enT {a : Addr} {xs : List V} (hx : SqT K H a xs) (Pv : Nat → L2.St → Hp → Prop) (h0 : Pv 0 σ H) (hl : ∀ i σ' H', Pv i σ' H' → SqT K H' a xs)
    (hs : ∀ i x σ' H' H'', xs[i]? = some x → Pv i σ' H' → Ex H' H'' → (∃ T, H' T = none ∧ H'' = upd H' T (.tup [.int (i : Nat), x])) → tb ⟨Pv (i + 1), rt, nx, Pv (i + 1)⟩ ((σ'.set i1 (some (.int (i : Nat)))).set i2 (some x)) H'') (hd : ∀ σ' H', Pv xs.length σ' H' → nx σ' H') :
    ∃ (a' : Addr) (ys : List V), V.ref a = .ref a' ∧ SqT K H a' ys ∧ ForW (IteT K a') (gTup K 2 (gCons (gName i1) (gCons (gName i2) gNil))) tb ⟨nx, rt, bk, ct⟩ σ H := by
  refine ⟨a, xs, rfl, hx, fun i m σ H => m = xs.length - i ∧ i ≤ xs.length ∧ Pv i σ H, ⟨xs.length, by simp, Nat.zero_le _, h0⟩, ?_⟩
  rintro i m σ H ⟨rfl, hi, p⟩
  have q := hl i σ H p
  by_cases hlt : i < xs.length
  · refine .inr ⟨⟨xs, xs[i], q, by simp [hlt]⟩, Pv (i + 1), fun σ' H' p' => ⟨xs.length - (i + 1), by omega, rfl, hlt, p'⟩, fun v H' y => ?_⟩
    obtain ⟨T, x, rfl, hT, rfl, hy⟩ := y
    refine ⟨T, _, rfl, SqT.of upd_same, rfl, ?_⟩
    refine ⟨_, _, rfl, ?_⟩
    refine ⟨_, _, rfl, rfl, ?_⟩
    exact hs i x σ H _ (hy xs q) p (Ex.new hT) ⟨T, hT, rfl⟩
  · have e : i = xs.length := by omega
    subst e
    exact .inl ⟨⟨xs, q, rfl⟩, hd σ H p⟩
end
end Fm
set_option Elab.async false
set_option linter.all false
set_option maxRecDepth 100000
set_option maxHeartbeats 4000000
/-! x == y by an own __eq__ that may answer False; y another such object or a tuple -/
namespace Fm
open PySem PySem.Spec PyProof.Rows L2 Evl RZ
def OtherR (K : PySem.W.Frag) (C : Addr) (H : Hp) (b : Addr) : Prop := (∃ dy gs, H b = some (.ins C dy gs)) ∨ ((∃ xs, SqT K H b xs) ∧ PySem.W.notFirst K C (.type "tuple") = true)
def rOwn (K : PySem.W.Frag) (C : Addr) (sp : Sp) : R2 := fun x y H Q => ∃ a b dx fs, x = .ref a ∧ y = .ref b ∧ H a = some (.ins C dx fs) ∧ OtherR K C H b ∧ sp [.ref a, .ref b] H (fun v H' => ∃ k, v = .bl k ∧ Q (.bl k) H') E0
theorem op_own {X : Cx} {C : Addr} {k : Nat} {ps : List Str} {sp : Sp} (M : Mt X.prog X.w X.K X.mg X.base C "__eq__" k ps sp) (hr : Room k X.A) : OpR X (compareOp .Eq) (rOwn X.K C sp) := by
  intro pins s σ H x y u v Q I rx ry h
  obtain ⟨a, b, dx, fs, rfl, rfl, ha, hb, hsp⟩ := h
  obtain ⟨f, fd, F, hM, hB⟩ := M.ex
  cases rx
  cases ry
  obtain ⟨mA, J, _⟩ := ins_get I.hok ha
  obtain ⟨od, J, _⟩ := J.look
  obtain ⟨m, hF⟩ := I.fr
  have own : wpAny (model X.prog X.w) X.A (call (.ref f) [.ref a, .ref b]) (PySem.W.CmpBack (EP X pins σ Q)) X.xe s := by
    have e0 : Env0 X.prog X.w X.K X.mg X.base X.A X.stack s H := I.env0
    have hl := F.len _ _ _ _ hsp
    have r2 : Vals [V.ref a, V.ref b] [Value.ref a, Value.ref b] := .cons rfl (.cons rfl .nil)
    have hb2 := hB s [.ref a, .ref b] I.kIn (by simpa using hl)
    refine wpAny_call (codeAny_mono (F.run X.A X.stack s H ⟨[.ref a, .ref b], []⟩ [.ref a, .ref b] [.ref a, .ref b] _ E0 hr e0 (by simpa using hb2) r2 hsp) fun r s' hq => ?_)
    cases r with
    | error e => exact False.elim hq
    | ok fl =>
      cases fl with
      | ret w =>
        obtain ⟨z, H', I', rz, k, ez, q⟩ := I.after hq
        subst ez
        cases rz
        exact ⟨.bl k, H', I', rfl, q⟩
      | next => exact False.elim hq
      | brk => exact False.elim hq
      | cont => exact False.elim hq
  rcases hb with ⟨dy, gs, hb⟩ | ⟨⟨xs, hb⟩, nf⟩
  · obtain ⟨mB, J', _⟩ := ins_get I.hok hb
    obtain ⟨od', J', _⟩ := J'.look
    exact PySem.W.cmp_K (op := .Eq) (tb := .ref C) hr.units0 hF I.ok.mod.kin J J'.type (by simp [PySem.W.notFirst]) hM.at_ hM.fn own
  · obtain ⟨its, r, p, hz⟩ := I.tuple hb
    obtain ⟨o, h1, h2, _⟩ := id p
    exact PySem.W.cmp_K (op := .Eq) (tb := .type "tuple") hr.units0 hF I.ok.mod.kin J (fun A Q E s k q => wpAny_typeOf ⟨o, k _ _ h1, h2⟩ q) nf hM.at_ hM.fn own
end Fm
set_option Elab.async false
set_option linter.all false
set_option maxRecDepth 100000
set_option maxHeartbeats 4000000
/-! any(a list or tuple of whole numbers) -/
namespace Fm
open PySem PySem.Spec PyProof.Rows L2 Evl RZ
def rAnyI (K : PySem.W.Frag) : List V → Hp → VK → Prop := fun vs H Q => ∃ (a : Addr) (xs : List Int), vs = [V.ref a] ∧ (SqL K H a (xs.map V.int) ∨ SqT K H a (xs.map V.int)) ∧ Q (.bl (anyI xs)) H
theorem truth_ints {prog : Program} {w : World} {A : Around} {xs : List Int} {its : List Value} (rv : Vals (xs.map V.int) its) :
    TruthOf prog w A (fun i v => its.toArray[i]? = some v) (fun i => xs.getD i 0 != 0) := fun i v s Q E hv hq => by
  have hv' : its[i]? = some v := by simpa using hv
  have hl := rv.length
  rw [List.length_map] at hl
  have hi : i < xs.length := by
    have := (List.getElem?_eq_some_iff.mp hv').1
    omega
  have hx : (xs.map V.int)[i]? = some (.int (xs.getD i 0)) := by
    rw [List.getElem?_map, List.getD_eq_getElem?_getD, List.getElem?_eq_getElem hi]
    rfl
  obtain ⟨u, hu, t, ru⟩ := rv.get hx
  rw [hv'] at hu
  cases hu
  rw [ru]
  exact truthy_int hq
theorem anyI_range : ∀ xs : List Int, (List.range xs.length).any (fun i => xs.getD i 0 != 0) = anyI xs
  | [] => rfl
  | b :: bs => by
    unfold anyI
    rw [List.length_cons, List.range_succ_eq_map, List.any_cons, List.any_map, List.any_cons]
    have := anyI_range bs
    unfold anyI at this
    rw [← this]
    rfl
theorem cr_anyI {X : Cx} (hc : X.calm = true) : CallR X (.builtin "any") (rAnyI X.K) := by
  intro pins s σ H vs us Q I r h
  obtain ⟨a, xs, rfl, hs | hs, q⟩ := h
  · obtain ⟨its, rv, hl, _⟩ := I.list hs
    rw [Vals.ref1 r]
    have hz := rv.length
    refine call_any_walk (iter_any hl.isList fun s₂ e2 st hne => ?_)
    subst e2
    refine ⟨_, _, _, _, _, _, _, rfl, Walks.list (A := X.A.in1) (I.ok.hd hc) _ a hne its.toArray, st, truth_ints rv, fun h' tk hk => ?_⟩
    refine ⟨.bl _, H, I.kept fun b o eo => hk b o (fun hmem => ?_) (Heap.get?_push_of_some _ eo), ?_, q⟩
    · rcases List.mem_cons.mp hmem with e1 | hmem
      · exact absurd (e1 ▸ Heap.lt_size eo) (Nat.lt_irrefl _)
      · cases hmem
    · show Value.bool _ = Value.bool _
      rw [← anyI_range, List.size_toArray, ← hz, List.length_map]
  · obtain ⟨its, rv, hl, _⟩ := I.tuple hs
    rw [Vals.ref1 r]
    have hz := rv.length
    have hlt : a < s.heap.objs.size := by
      obtain ⟨_, e, _⟩ := id hl
      exact Heap.lt_size e
    refine call_any_walk (wpAny_pyIter_tuple hl ?_)
    refine ⟨_, _, _, _, _, _, _, rfl, Walks.tuple (A := X.A.in1) (I.ok.hd hc) _ a (Nat.ne_of_lt hlt) its.toArray, ⟨⟨_, Heap.get?_push_size _ rfl, rfl, rfl⟩, hl.push _⟩, truth_ints rv, fun h' tk hk => ?_⟩
    refine ⟨.bl _, H, I.kept fun b o eo => hk b o (fun hmem => ?_) (Heap.get?_push_of_some _ eo), ?_, q⟩
    · rcases List.mem_cons.mp hmem with e1 | hmem
      · exact absurd (e1 ▸ Heap.lt_size eo) (Nat.lt_irrefl _)
      · cases hmem
    · show Value.bool _ = Value.bool _
      rw [← anyI_range, List.size_toArray, ← hz, List.length_map]
section
variable {X : Cx} {e : Expr} {ta : TE} {p pos : Pos} {K : PySem.W.Frag} {H : Hp} {Q : VK}
theorem bAny (B : Bi X.mg) (ha : PE X e ta) (hc : X.calm = true := by rfl) (hg : Gl X "any" := by rfl) (he : starEach [e] X.env = (false, eval e X.env) :: starEach [] X.env := by rfl) : PE X (.Call (.Name "any" p) [e] [] pos) (tCB (rAnyI X.K) (tCons ta tNil)) :=
  pe_callB (cr_anyI (X := X) hc) hg B.any (by decide +kernel) (pa_cons ha pa_nil he) (he := he)
theorem n_any {a : Addr} {xs : List Int} (h : SqL K H a (xs.map V.int) ∨ SqT K H a (xs.map V.int)) (k : Q (.bl (anyI xs)) H) : rAnyI K [.ref a] H Q := ⟨a, xs, rfl, h, k⟩
/-! slices of a list -/
theorem d_sl {r : V → Option Int → Option Int → Hp → VK → Prop} {te : TE} {tl th : TO} {σ : L2.St} (q : te σ H fun x H1 => tl σ H1 fun l H2 => th σ H2 fun u H3 => r x l u H3 Q) : tSl r te tl th σ H Q := q
theorem d_np {Qo : Option Int → Hp → Prop} {σ : L2.St} (q : Qo none H) : tNoPart σ H Qo := q
def nPart (x : V) (H : Hp) (Qo : Option Int → Hp → Prop) : Prop := ∃ i, x = .int i ∧ Qo (some i) H
theorem d_pt {te : TE} {Qo : Option Int → Hp → Prop} {σ : L2.St} (q : te σ H fun x H1 => nPart x H1 Qo) : tPart te σ H Qo := q
theorem d_pi {i : Int} {Qo : Option Int → Hp → Prop} (q : Qo (some i) H) : nPart (.int i) H Qo := ⟨i, rfl, q⟩
theorem cut_take (xs : List V) (n : Nat) : cutV xs none (some (n : Int)) = xs.take n := by
  unfold cutV
  rw [HT.sIx_none, HT.sIx_nat, List.drop_zero, Nat.sub_zero]
  by_cases h : n ≤ xs.length
  · rw [Nat.min_eq_left h]
  · rw [Nat.min_eq_right (by omega), List.take_of_length_le (Nat.le_refl _), List.take_of_length_le (by omega)]
theorem n_slL {a : Addr} {xs : List V} {n : Nat} (h : SqL K H a xs) (k : ∀ p H2, H p = none → Ex H H2 → H2 p = some (.lst (xs.take n)) → Q (.ref p) H2) : rSlL K (.ref a) none (some (n : Int)) H Q :=
  ⟨a, xs, rfl, h, fun p hp => by
    rw [cut_take]
    exact k p _ hp (Ex.new hp) upd_same⟩
end
end Fm
set_option Elab.async false
set_option linter.all false
set_option maxRecDepth 100000
set_option maxHeartbeats 4000000
/-! A run that is there for every table of generators resumes none of those that sleep: they stay as they are. -/
namespace Fm
open PySem PySem.Spec PyProof.Rows
/-- a frame that no generator's is, at the same place -/
def plainF (F : Frame) : Frame := .ret (fun _ => .unsupported "") none false [] F.where_.1 F.where_.2 []
/-- a sleeping one that can't be woken -/
def deadG : GenState → GenState
  | .suspended _ l c p fs cl => .suspended (fun _ => .unsupported "") l c p (fs.map plainF) cl
  | x => x
def sleeps : GenState → Bool
  | .suspended .. => true
  | _ => false
theorem dead_seen (x : GenState) : (deadG x).seen = x.seen := by
  cases x with
  | suspended k l c p fs cl =>
    show (_, some ((c, p) :: (fs.map plainF).map Frame.where_)) = (_, some ((c, p) :: fs.map Frame.where_))
    rw [List.map_map]
    rfl
  | _ => rfl
theorem plain_split (fs : List Frame) : splitAtGen (fs.map plainF) = none := by
  induction fs with
  | nil => rfl
  | cons F fs ih =>
    show splitAtGen (plainF F :: fs.map plainF) = none
    unfold plainF at ih ⊢
    rw [splitAtGen_ret, ih]
    rfl
def GoodX : GenState → Prop
  | .suspended _ _ _ _ fs _ => splitAtGen fs = none
  | _ => True
def GoodG (G : Array GenState) : Prop := ∀ (i : Nat) x, G[i]? = some x → GoodX x
def GoodE : End → Prop
  | .susp _ _ _ _ _ _ fs => splitAtGen fs = none
  | _ => True
theorem goodE_gen {e : End} (h : GoodE e) : GoodX e.genState := by
  cases e with
  | ret r => exact True.intro
  | susp v g l k c p fs => exact h
/-- the two tables: where O tells a sleeper, G1 has its dead one and G2 itself; else they agree -/
structure RelG (O : Nat → Option GenState) (G1 G2 : Array GenState) : Prop where
  size : G1.size = G2.size
  lt : ∀ i x, O i = some x → i < G1.size
  at_ : ∀ i x, O i = some x → sleeps x = true ∧ G1[i]? = some (deadG x) ∧ G2[i]? = some x
  eq : ∀ i, O i = none → G1[i]? = G2[i]?
section
variable {O : Nat → Option GenState} {G1 G2 : Array GenState} {g : Nat} {x : GenState}
theorem RelG.seen (h : RelG O G1 G2) (e : G1[g]? = some x) : ∃ y, G2[g]? = some y ∧ y.seen = x.seen := by
  cases q : O g with
  | none => exact ⟨x, by rw [← h.eq g q]; exact e, rfl⟩
  | some z =>
    obtain ⟨_, h1, h2⟩ := h.at_ g z q
    rw [e] at h1
    cases h1
    exact ⟨z, h2, (dead_seen z).symm⟩
theorem RelG.push (h : RelG O G1 G2) (x : GenState) : RelG O (G1.push x) (G2.push x) where
  size := by rw [Array.size_push, Array.size_push, h.size]
  lt := fun i y e => by rw [Array.size_push]; exact Nat.lt_succ_of_lt (h.lt i y e)
  at_ := fun i y e => by
    obtain ⟨h1, h2, h3⟩ := h.at_ i y e
    have hl := h.lt i y e
    refine ⟨h1, ?_, ?_⟩
    · rw [Array.getElem?_push, if_neg (Nat.ne_of_lt hl)]; exact h2
    · rw [Array.getElem?_push, if_neg (by rw [← h.size]; exact Nat.ne_of_lt hl)]; exact h3
  eq := fun i e => by
    rw [Array.getElem?_push, Array.getElem?_push, h.size, h.eq i e]
theorem RelG.set (h : RelG O G1 G2) (hg : O g = none) (x : GenState) : RelG O (G1.setIfInBounds g x) (G2.setIfInBounds g x) where
  size := by rw [Array.size_setIfInBounds, Array.size_setIfInBounds, h.size]
  lt := fun i y e => by rw [Array.size_setIfInBounds]; exact h.lt i y e
  at_ := fun i y e => by
    obtain ⟨h1, h2, h3⟩ := h.at_ i y e
    have hne : g ≠ i := fun z => by rw [z, e] at hg; cases hg
    refine ⟨h1, ?_, ?_⟩
    · rw [Array.getElem?_setIfInBounds_ne hne]; exact h2
    · rw [Array.getElem?_setIfInBounds_ne hne]; exact h3
  eq := fun i e => by
    rw [Array.getElem?_setIfInBounds, Array.getElem?_setIfInBounds, h.size, h.eq i e]
theorem RelG.awake (h : RelG O G1 G2) (e : G1[g]? = some x) (hx : sleeps x = false) : O g = none ∧ G2[g]? = some x := by
  cases q : O g with
  | none => exact ⟨rfl, by rw [← h.eq g q]; exact e⟩
  | some z =>
    obtain ⟨h0, h1, h2⟩ := h.at_ g z q
    rw [e] at h1
    cases h1
    cases z <;> cases hx <;> cases h0
theorem GoodG.push (h : GoodG G1) {c : Code} : GoodG (G1.push (.fresh c)) := fun i y e => by
  rw [Array.getElem?_push] at e
  split at e
  · cases e; exact True.intro
  · exact h i y e
theorem GoodG.set (h : GoodG G1) (hx : GoodX x) : GoodG (G1.setIfInBounds g x) := fun i y e => by
  rw [Array.getElem?_setIfInBounds] at e
  split at e
  · split at e
    · cases e; exact hx
    · cases e
  · exact h i y e
end
theorem no_unsup {M : Model} {Γ : PySem.Ctx} {p : Pos} {t : Sem PySem.Fin} {fs : List Frame} {s s' : Shared} {e : End} (h : Runs M Γ p t fs s e s') : ∀ w, t = .unsupported w → False := by
  induction h <;> intro w q <;> first | (cases q; done) | (rename_i ih _; exact ih w q) | (rename_i ih; exact ih w q) | (rename_i ih _ _; exact ih w q) | (rename_i _ ih _ _; exact ih w q)
theorem split_one {k : Result → Sem PySem.Fin} {h : Option Value} {g : Bool} {l : List Value} {c : Code} {p : Pos} {kp : List Value} {fs : List Frame} (hf : splitAtGen fs = none) : splitAtGen (fs ++ [.ret k h g l c p kp]) = none := by
  rw [splitAtGen_append_none _ hf]
  rfl
theorem split_tail {F : Frame} {fs : List Frame} (h : splitAtGen (F :: fs) = none) : splitAtGen fs = none := by
  cases F with
  | ret k h g l c p kp =>
    rw [splitAtGen_ret] at h
    cases q : splitAtGen fs with
    | none => rfl
    | some z => rw [q] at h; cases h
  | gen g k l c p => rw [splitAtGen_gen] at h; cases h
/-- the same run over the other table -/
theorem keepGen {M : Model} {O : Nat → Option GenState} {Γ : PySem.Ctx} {p : Pos} {t : Sem PySem.Fin} {fs : List Frame} {s s' : Shared} {e : End} (h : Runs M Γ p t fs s e s') :
    splitAtGen fs = none → GoodG s.gens → ∀ G2, RelG O s.gens G2 → GoodE e ∧ GoodG s'.gens ∧ ∃ G3, RelG O s'.gens G3 ∧ Runs M Γ p t fs { s with gens := G2 } e { s' with gens := G3 } := by
  induction h with
  | done => exact fun _ hg G2 r => ⟨True.intro, hg, G2, r, .done⟩
  | raise => exact fun _ hg G2 r => ⟨True.intro, hg, G2, r, .raise⟩
  | again hq _ ih => exact fun hf hg G2 r => let ⟨h1, h2, G3, r3, h3⟩ := ih hf hg G2 r; ⟨h1, h2, G3, r3, .again hq h3⟩
  | rule _ ih => exact fun hf hg G2 r => let ⟨h1, h2, G3, r3, h3⟩ := ih hf hg G2 r; ⟨h1, h2, G3, r3, .rule h3⟩
  | «at» _ ih => exact fun hf hg G2 r => let ⟨h1, h2, G3, r3, h3⟩ := ih hf hg G2 r; ⟨h1, h2, G3, r3, .at h3⟩
  | load ha _ ih => exact fun hf hg G2 r => let ⟨h1, h2, G3, r3, h3⟩ := ih hf hg G2 r; ⟨h1, h2, G3, r3, .load ha h3⟩
  | update ha _ ih => exact fun hf hg G2 r => let ⟨h1, h2, G3, r3, h3⟩ := ih hf hg G2 r; ⟨h1, h2, G3, r3, .update ha h3⟩
  | loadIfAlive _ ih => exact fun hf hg G2 r => let ⟨h1, h2, G3, r3, h3⟩ := ih hf hg G2 r; ⟨h1, h2, G3, r3, .loadIfAlive h3⟩
  | point _ ih => exact fun hf hg G2 r => let ⟨h1, h2, G3, r3, h3⟩ := ih hf hg G2 r; ⟨h1, h2, G3, r3, .point h3⟩
  | alloc _ ih => exact fun hf hg G2 r => let ⟨h1, h2, G3, r3, h3⟩ := ih hf hg G2 r; ⟨h1, h2, G3, r3, .alloc h3⟩
  | fresh _ ih => exact fun hf hg G2 r => let ⟨h1, h2, G3, r3, h3⟩ := ih hf hg G2 r; ⟨h1, h2, G3, r3, .fresh h3⟩
  | ask _ ih => exact fun hf hg G2 r => let ⟨h1, h2, G3, r3, h3⟩ := ih hf hg G2 r; ⟨h1, h2, G3, r3, .ask h3⟩
  | choose hn _ ih => exact fun hf hg G2 r => let ⟨h1, h2, G3, r3, h3⟩ := ih hf hg G2 r; ⟨h1, h2, G3, r3, .choose hn h3⟩
  | os _ ih => exact fun hf hg G2 r => let ⟨h1, h2, G3, r3, h3⟩ := ih hf hg G2 r; ⟨h1, h2, G3, r3, .os h3⟩
  | handled _ ih => exact fun hf hg G2 r => let ⟨h1, h2, G3, r3, h3⟩ := ih hf hg G2 r; ⟨h1, h2, G3, r3, .handled h3⟩
  | stack _ ih => exact fun hf hg G2 r => let ⟨h1, h2, G3, r3, h3⟩ := ih hf hg G2 r; ⟨h1, h2, G3, r3, .stack h3⟩
  | thread _ ih => exact fun hf hg G2 r => let ⟨h1, h2, G3, r3, h3⟩ := ih hf hg G2 r; ⟨h1, h2, G3, r3, .thread h3⟩
  | genState hst _ ih =>
    intro hf hg G2 r
    obtain ⟨h1, h2, G3, r3, h3⟩ := ih hf hg G2 r
    obtain ⟨y, hy, hs⟩ := r.seen hst
    rw [← hs] at h3
    exact ⟨h1, h2, G3, r3, .genState hy h3⟩
  | newGen _ ih =>
    intro hf hg G2 r
    obtain ⟨h1, h2, G3, r3, h3⟩ := ih hf hg.push _ (r.push (.fresh _))
    rw [r.size] at h3
    exact ⟨h1, h2, G3, r3, .newGen h3⟩
  | call _ _ ih1 ih2 =>
    intro hf hg G2 r
    obtain ⟨_, g1, G3, r3, h3⟩ := ih1 rfl hg G2 r
    obtain ⟨e2, g2, G4, r4, h4⟩ := ih2 rfl g1 G3 r3
    exact ⟨e2, g2, G4, r4, .call h3 h4⟩
  | callSusp _ ih =>
    intro hf hg G2 r
    obtain ⟨h1, h2, G3, r3, h3⟩ := ih rfl hg G2 r
    exact ⟨split_one h1, h2, G3, r3, .callSusp h3⟩
  | yield => exact fun _ hg G2 r => ⟨rfl, hg, G2, r, .yield⟩
  | @resumeFresh _ _ g l k s c e₁ s₁ _ _ hst _ hq _ ih1 ih2 =>
    intro hf hg G2 r
    obtain ⟨ho, h2⟩ := r.awake hst rfl
    obtain ⟨a1, a2, G3, r3, h3⟩ := ih1 rfl (hg.set (g := g) (x := .running) True.intro) _ (r.set ho .running)
    obtain ⟨b1, b2, G4, r4, h4⟩ := ih2 rfl (a2.set (g := g) (goodE_gen a1)) _ (r3.set ho e₁.genState)
    exact ⟨b1, b2, G4, r4, .resumeFresh (s := { s with gens := G2 }) (s₁ := { s₁ with gens := G3 }) h2 h3 hq h4⟩
  | @resumeSuspended _ _ g rr l k s k₀ l₀ c₀ p₀ fs₀ cl e₁ s₁ _ _ hst h1 hq _ ih1 ih2 =>
    intro hf hg G2 r
    cases q : O g with
    | some x =>
      obtain ⟨z1, z2, _⟩ := r.at_ g x q
      rw [hst] at z2
      cases x with
      | suspended k' l' c' p' fs' cl' =>
        cases z2
        exact (no_unsup h1 _ rfl).elim
      | fresh c => cases z1
      | running => cases z1
      | finished => cases z1
    | none =>
      have h2 : G2[g]? = some (.suspended k₀ l₀ c₀ p₀ fs₀ cl) := by rw [← r.eq g q]; exact hst
      obtain ⟨a1, a2, G3, r3, h3⟩ := ih1 (hg g _ hst) (hg.set (g := g) (x := .running) True.intro) _ (r.set q .running)
      obtain ⟨b1, b2, G4, r4, h4⟩ := ih2 rfl (a2.set (g := g) (goodE_gen a1)) _ (r3.set q e₁.genState)
      exact ⟨b1, b2, G4, r4, .resumeSuspended (s := { s with gens := G2 }) (s₁ := { s₁ with gens := G3 }) h2 h3 hq h4⟩
  | resumeJustStarted hst hv _ ih =>
    intro hf hg G2 r
    obtain ⟨ho, h2⟩ := r.awake hst rfl
    obtain ⟨h1, h2', G3, r3, h3⟩ := ih hf hg G2 r
    exact ⟨h1, h2', G3, r3, .resumeJustStarted h2 hv h3⟩
  | resumeThrowFresh hst _ ih =>
    intro hf hg G2 r
    obtain ⟨ho, h2⟩ := r.awake hst rfl
    obtain ⟨h1, h2', G3, r3, h3⟩ := ih hf (hg.set (x := .finished) True.intro) _ (r.set ho .finished)
    exact ⟨h1, h2', G3, r3, .resumeThrowFresh h2 h3⟩
  | resumeRunning hst _ ih =>
    intro hf hg G2 r
    obtain ⟨ho, h2⟩ := r.awake hst rfl
    obtain ⟨h1, h2', G3, r3, h3⟩ := ih hf hg G2 r
    exact ⟨h1, h2', G3, r3, .resumeRunning h2 h3⟩
  | resumeFinished hst _ ih =>
    intro hf hg G2 r
    obtain ⟨ho, h2⟩ := r.awake hst rfl
    obtain ⟨h1, h2', G3, r3, h3⟩ := ih hf hg G2 r
    exact ⟨h1, h2', G3, r3, .resumeFinished h2 h3⟩
  | segRet _ _ ih1 ih2 =>
    intro hf hg G2 r
    obtain ⟨_, g1, G3, r3, h3⟩ := ih1 rfl hg G2 r
    obtain ⟨e2, g2, G4, r4, h4⟩ := ih2 (split_tail hf) g1 G3 r3
    exact ⟨e2, g2, G4, r4, .segRet h3 h4⟩
  | segGen _ _ _ _ =>
    intro hf
    rw [splitAtGen_gen] at hf
    cases hf
  | segSuspOut hs _ ih =>
    intro hf hg G2 r
    obtain ⟨h1, h2, G3, r3, h3⟩ := ih rfl hg G2 r
    refine ⟨?_, h2, G3, r3, .segSuspOut hs h3⟩
    show splitAtGen _ = none
    rw [splitAtGen_append_none _ h1, hs]
    rfl
  | segSuspGen hs _ _ _ _ _ =>
    intro hf
    rw [hs] at hf
    cases hf
/-- the same end over the other table -/
def SimS (O : Nat → Option GenState) (s1 s' : Shared) : Prop := GoodG s1.gens ∧ RelG O s1.gens s'.gens ∧ s' = { s1 with gens := s'.gens }
theorem wp_keep {α : Type} {M : Model} {O : Nat → Option GenState} {Γ : PySem.Ctx} (t : Sem α) : ∀ {Q : α → Pos → Shared → Prop} {E : Value → Pos → Shared → Prop} {p : Pos} {s : Shared} {G2 : Array GenState},
    Sem.wp M Γ t Q E p s → GoodG s.gens → RelG O s.gens G2 → Sem.wp M Γ t (fun a p' s' => ∃ s1, Q a p' s1 ∧ SimS O s1 s') (fun e p' s' => ∃ s1, E e p' s1 ∧ SimS O s1 s') p { s with gens := G2 } := by
  induction t with
  | pure a => exact fun h hg r => ⟨_, h, hg, r, rfl⟩
  | raise x => exact fun h hg r => ⟨_, h, hg, r, rfl⟩
  | unsupported what => exact fun h _ _ => h.elim
  | finish x => exact fun h _ _ => h.elim
  | register a k => exact fun h _ _ => h.elim
  | yield v g l k => exact fun h _ _ => h.elim
  | fork c k => exact fun h _ _ => h.elim
  | await a f d l k => exact fun h _ _ => h.elim
  | rule tag k ih => exact fun h hg r => ih () h hg r
  | «at» p' k ih => exact fun h hg r => ih () h hg r
  | load a part k ih => exact fun h hg r => let ⟨o, ho, h⟩ := h; ⟨o, ho, ih o h hg r⟩
  | update a part f k ih => exact fun h hg r => let ⟨ha, h⟩ := h; ⟨ha, ih () h hg r⟩
  | alloc o k ih => exact fun h hg r => ih _ h hg r
  | loadIfAlive a k ih => exact fun h hg r => ih _ h hg r
  | point l k ih => exact fun h hg r => ih () h hg r
  | fresh k ih => exact fun h hg r => ih _ h hg r
  | ask k ih => exact fun h hg r => ih _ h hg r
  | choose src n k ih => exact fun h hg r => let ⟨hn, h⟩ := h; ⟨hn, ih _ h hg r⟩
  | os q l k ih => exact fun h hg r => ih _ h hg r
  | handled own k ih => exact fun h hg r => ih _ h hg r
  | stack k ih => exact fun h hg r => ih _ h hg r
  | thread k ih => exact fun h hg r => ih _ h hg r
  | newGen c k ih =>
    intro Q E p s G2 h hg r
    have z := ih _ h hg.push (r.push (.fresh c))
    rw [r.size] at z
    exact z
  | genState g k ih =>
    intro Q E p s G2 h hg r
    obtain ⟨st, hst, h⟩ := h
    obtain ⟨y, hy, hs⟩ := r.seen hst
    have z := ih _ h hg r
    rw [← hs] at z
    exact ⟨y, hy, z⟩
  | call c h g l k ih =>
    intro Q E p s G2 hw hg r
    obtain ⟨rr, s₁, hret, hw⟩ := hw
    obtain ⟨_, g1, G3, r3, h3⟩ := keepGen hret rfl hg G2 r
    exact ⟨rr, { s₁ with gens := G3 }, h3, ih rr hw g1 r3⟩
  | resume g rr l k ih =>
    intro Q E p s G2 hw hg r
    obtain ⟨res, s₁, hwk, hw⟩ := hw
    unfold Wakes at hwk
    cases q : s.gens[g]? with
    | none => rw [q] at hwk; exact hwk.elim
    | some st =>
      rw [q] at hwk
      cases st with
      | suspended k₀ l₀ c₀ p₀ fs₀ cl =>
        obtain ⟨e₁, s₂, hr, hq, rfl, rfl⟩ := hwk
        cases ho : O g with
        | some x =>
          obtain ⟨z1, z2, _⟩ := r.at_ g x ho
          rw [q] at z2
          cases x with
          | suspended k' l' c' p' fs' cl' =>
            cases z2
            exact (no_unsup hr _ rfl).elim
          | fresh c => cases z1
          | running => cases z1
          | finished => cases z1
        | none =>
          have h2 : G2[g]? = some (.suspended k₀ l₀ c₀ p₀ fs₀ cl) := by rw [← r.eq g ho]; exact q
          obtain ⟨a1, a2, G3, r3, h3⟩ := keepGen hr (hg g _ q) (hg.set (g := g) (x := .running) True.intro) _ (r.set ho .running)
          have z := ih _ hw (a2.set (g := g) (goodE_gen a1)) (r3.set ho e₁.genState)
          refine ⟨e₁.result, Shared.setGen { s₂ with gens := G3 } g e₁.genState, ?_, z⟩
          unfold Wakes
          rw [show ({ s with gens := G2 } : Shared).gens[g]? = some (.suspended k₀ l₀ c₀ p₀ fs₀ cl) from h2]
          exact ⟨e₁, _, h3, hq, rfl, rfl⟩
      | fresh c =>
        obtain ⟨ho, h2⟩ := r.awake q rfl
        cases rr with
        | send v =>
          by_cases hv : v = .none
          · subst hv
            obtain ⟨e₁, s₂, hr, hq, rfl, rfl⟩ := hwk
            obtain ⟨a1, a2, G3, r3, h3⟩ := keepGen hr rfl (hg.set (g := g) (x := .running) True.intro) _ (r.set ho .running)
            have z := ih _ hw (a2.set (g := g) (goodE_gen a1)) (r3.set ho e₁.genState)
            refine ⟨e₁.result, Shared.setGen { s₂ with gens := G3 } g e₁.genState, ?_, z⟩
            unfold Wakes
            rw [show ({ s with gens := G2 } : Shared).gens[g]? = some (.fresh c) from h2]
            exact ⟨e₁, _, h3, hq, rfl, rfl⟩
          · have z : res = .justStarted ∧ s₁ = s := by
              cases v <;> first | exact absurd rfl hv | exact hwk
            obtain ⟨rfl, rfl⟩ := z
            refine ⟨.justStarted, _, ?_, ih _ hw hg r⟩
            unfold Wakes
            rw [show ({ s₁ with gens := G2 } : Shared).gens[g]? = some (.fresh c) from h2]
            cases v <;> first | exact absurd rfl hv | exact ⟨rfl, rfl⟩
        | throw x =>
          obtain ⟨rfl, rfl⟩ := hwk
          have z := ih _ hw (hg.set (g := g) (x := .finished) True.intro) (r.set ho .finished)
          refine ⟨.raised x, Shared.setGen { s with gens := G2 } g .finished, ?_, z⟩
          unfold Wakes
          rw [show ({ s with gens := G2 } : Shared).gens[g]? = some (.fresh c) from h2]
          exact ⟨rfl, rfl⟩
      | running =>
        obtain ⟨ho, h2⟩ := r.awake q rfl
        obtain ⟨rfl, rfl⟩ := hwk
        refine ⟨.running, _, ?_, ih _ hw hg r⟩
        unfold Wakes
        rw [show ({ s₁ with gens := G2 } : Shared).gens[g]? = some .running from h2]
        exact ⟨rfl, rfl⟩
      | finished =>
        obtain ⟨ho, h2⟩ := r.awake q rfl
        obtain ⟨rfl, rfl⟩ := hwk
        refine ⟨.finished, _, ?_, ih _ hw hg r⟩
        unfold Wakes
        rw [show ({ s₁ with gens := G2 } : Shared).gens[g]? = some .finished from h2]
        exact ⟨rfl, rfl⟩
/-- the table with its sleepers dead -/
def deadAll (G : Array GenState) : Array GenState := G.map deadG
def asleep (G : Array GenState) (i : Nat) : Option GenState := match G[i]? with
  | some x => if sleeps x = true then some x else none
  | none => none
theorem rel_dead (G : Array GenState) : RelG (asleep G) (deadAll G) G where
  size := by unfold deadAll; rw [Array.size_map]
  lt := fun i x e => by
    unfold deadAll
    rw [Array.size_map]
    unfold asleep at e
    split at e
    · rename_i y hy
      exact (Array.getElem?_eq_some_iff.mp hy).1
    · cases e
  at_ := fun i x e => by
    unfold asleep at e
    split at e
    · rename_i y hy
      split at e
      · rename_i hs
        cases e
        refine ⟨hs, ?_, hy⟩
        unfold deadAll
        rw [Array.getElem?_map, hy]
        rfl
      · cases e
    · cases e
  eq := fun i e => by
    unfold deadAll
    rw [Array.getElem?_map]
    unfold asleep at e
    split at e
    · rename_i y hy
      split at e
      · cases e
      · rename_i hs
        rw [hy]
        cases y <;> first | rfl | exact absurd rfl hs
    · rename_i hy
      rw [hy]
      rfl
theorem good_dead (G : Array GenState) : GoodG (deadAll G) := fun i x e => by
  unfold deadAll at e
  rw [Array.getElem?_map] at e
  cases q : G[i]? with
  | none => rw [q] at e; cases e
  | some y =>
    rw [q] at e
    have z : deadG y = x := Option.some.inj e
    rw [← z]
    cases y with
    | suspended k l c p fs cl => exact plain_split fs
    | fresh c => exact True.intro
    | running => exact True.intro
    | finished => exact True.intro
theorem dead_bare (x : GenState) : (deadG x).bare = x.bare := by cases x <;> rfl
theorem bare_dead {G : Array GenState} (h : AllBare G) : AllBare (deadAll G) := fun y hy => by
  unfold deadAll at hy
  obtain ⟨x, hx, rfl⟩ := Array.mem_map.mp hy
  rw [dead_bare]
  exact h x hx
/-- what is kept: all that slept at s -/
structure GKept (s s1 s' : Shared) : Prop where
  eq : s' = { s1 with gens := s'.gens }
  bare : AllBare s.gens → AllBare s1.gens → AllBare s'.gens
  at_ : ∀ (i : Nat) x, s.gens[i]? = some x → sleeps x = true → s'.gens[i]? = some x
theorem wpAny_kept {α : Type} {M : Model} {A : Around} {t : Sem α} {Q : α → Shared → Prop} {E : Value → Shared → Prop} {s : Shared} (h : wpAny M A t Q E { s with gens := deadAll s.gens }) :
    wpAny M A t (fun a s' => ∃ s1, Q a s1 ∧ GKept s s1 s') (fun e s' => ∃ s1, E e s1 ∧ GKept s s1 s') s := by
  have fin : ∀ {s1 s' : Shared}, SimS (asleep s.gens) s1 s' → GKept s s1 s' := fun {s1 s'} ⟨hg, r, e⟩ => by
    refine ⟨e, fun h1 h2 y hy => ?_, fun i x hx hs => ?_⟩
    · obtain ⟨i, hi, ey⟩ := Array.mem_iff_getElem.mp hy
      have e2 : s'.gens[i]? = some y := by rw [Array.getElem?_eq_getElem hi, ey]
      cases q : asleep s.gens i with
      | none =>
        rw [← r.eq i q] at e2
        exact h2 y (Array.mem_of_getElem? e2)
      | some x =>
        obtain ⟨_, _, e3⟩ := r.at_ i x q
        rw [e3] at e2
        cases e2
        obtain ⟨_, _, e4⟩ := (rel_dead s.gens).at_ i _ q
        exact h1 _ (Array.mem_of_getElem? e4)
    · have q : asleep s.gens i = some x := by
        unfold asleep
        rw [hx]
        simp [hs]
      exact (r.at_ i x q).2.2
  intro Γ p hΓ
  have z := wp_keep t (h Γ p hΓ) (good_dead s.gens) (rel_dead s.gens)
  exact Sem.wp_mono _ _ _ (fun a _ s' ⟨s1, q, k⟩ => ⟨s1, q, fin k⟩) (fun e _ s' ⟨s1, q, k⟩ => ⟨s1, q, fin k⟩) _ _ z
end Fm
set_option Elab.async false
set_option linter.all false
set_option maxRecDepth 100000
set_option maxHeartbeats 4000000
/-! for in a generator's body, its turns as segments -/
namespace Fm
open PySem PySem.Spec PyProof.Rows
section
variable {prog : Program} {w : World} {A : Around} {R : GenEnd} {Y : Protocol} {n : Nat} {s₀ : Shared} {c : Code} {fs : List Frame} {s : Shared} {env : Env} {K : Flow → Sem PySem.Fin} {J : Value → Sem PySem.Fin} {gd : Bool → Bool} {lv : List Value → List Value}
abbrev NoX : Value → Shared → Prop := fun _ _ => False
theorem toX {α : Type} {M : Model} {A : Around} {t : Sem α} {Q : α → Shared → Prop} {E : Value → Shared → Prop} {s : Shared} (h : wpAny M A t Q NoX s) : wpAny M A t Q E s := wpAny_mono h (fun _ _ q => q) fun _ _ z => z.elim
theorem seg_step {α : Type} {m : Sem α} {k : α → Sem Flow} (h : wpAny (model prog w) (A.over c fs) m (fun a s' => Seg (model prog w) A R Y n s₀ c ((k a).wrap K J gd lv) fs s') NoX s) : Seg (model prog w) A R Y n s₀ c ((m >>= k).wrap K J gd lv) fs s := by
  rw [Sem.bind_eq_wrap', Sem.wrap_wrap]
  exact seg_wrap (toX h)
theorem seg_stepF {α : Type} {m : Sem α} {k : α → Sem PySem.Fin} {K' : PySem.Fin → Sem PySem.Fin} (h : wpAny (model prog w) (A.over c fs) m (fun a s' => Seg (model prog w) A R Y n s₀ c ((k a).wrap K' J gd lv) fs s') NoX s) : Seg (model prog w) A R Y n s₀ c ((m >>= k).wrap K' J gd lv) fs s := by
  rw [Sem.bind_eq_wrap', Sem.wrap_wrap]
  exact seg_wrap (toX h)
/-- what the code of a loop gives back to the statement -/
abbrev backK (env : Env) (K : Flow → Sem PySem.Fin) (J : Value → Sem PySem.Fin) (gd : Bool → Bool) (lv : List Value → List Value) : Result → Sem PySem.Fin := fun r =>
  ((match r with | .ok f => (.pure f : Sem Flow) | .error e => .raise e).onRaise (L2.cameBack env)).wrap K J gd lv
theorem seg_For {tg iter : Expr} {body : List Stmt} {pos : Pos} (hs : ∀ x, foldedSetIterable iter env x = pure x)
    (h : wpAny (model prog w) (A.over c fs) (eval iter env) (fun x s₁ => wpAny (model prog w) (A.over c fs) (pyIter x) (fun itv s₂ => ∀ p, Seg (model prog w) A R Y n s₀ (.forLoop tg itv body [] env) ((model prog w).den (.forLoop tg itv body [] env)) (.ret (backK env K J gd lv) none (gd false) (lv []) c p [] :: fs) s₂) NoX s₁) NoX s) :
    Seg (model prog w) A R Y n s₀ c ((exec (.For tg iter body [] pos) env).wrap K J gd lv) fs s := by
  rw [exec_For]
  refine seg_step (wpAny_standAt ?_)
  refine seg_step (wpAny_mono h (fun x s₁ h₁ => ?_) fun _ _ z => z)
  refine seg_step (wpAny_of_eq (hs x) ?_)
  refine seg_step (wpAny_standAt ?_)
  refine seg_step (wpAny_holding (wpAny_mono h₁ (fun itv s₂ h₂ => ?_) fun _ _ z => z))
  exact seg_call h₂
abbrev turnK (tg : Expr) (itv : Value) (body : List Stmt) (env : Env) : Flow → Sem PySem.Fin := fun f => match f with
  | .next | .cont => .pure (.again (.forLoop tg itv body [] env))
  | .brk => .pure (.done .next)
  | .ret v => .pure (.done (.ret v))
abbrev turnJ (env : Env) : Value → Sem PySem.Fin := fun e => (do noteFrame e env; theTreesLotGoes e : Sem Unit).bind fun _ => .raise e
theorem seg_forLoop {tg : Expr} {itv : Value} {body : List Stmt}
    (h : wpAny (model prog w) (A.over (.forLoop tg itv body [] env) fs) (pyNext itv) (fun r s₁ => match r with
      | none => Seg (model prog w) A R Y n s₀ (.forLoop tg itv body [] env) (.pure (.again (.block [] env))) fs s₁
      | some v => wpAny (model prog w) (A.over (.forLoop tg itv body [] env) fs) (letOwnedTupleGo tg itv v) (fun _ s₂ => wpAny (model prog w) (A.over (.forLoop tg itv body [] env) fs) (assign tg env v) (fun _ s₃ =>
          Seg (model prog w) A R Y n s₀ (.forLoop tg itv body [] env) ((execs body env).wrap (turnK tg itv body env) (turnJ env) id id) fs s₃) NoX s₂) NoX s₁) NoX s) :
    Seg (model prog w) A R Y n s₀ (.forLoop tg itv body [] env) ((model prog w).den (.forLoop tg itv body [] env)) fs s := by
  show Seg _ A R Y n s₀ _ ((forTurn tg itv body [] env).onRaise (fun x => do noteFrame x env; theTreesLotGoes x)) fs s
  rw [Sem.onRaise_eq_wrap]
  unfold forTurn
  refine seg_stepF (wpAny_standAt ?_)
  refine seg_stepF (wpAny_onRaise (wpAny_mono h (fun r s₁ h₁ => ?_) fun _ _ z => z.elim))
  cases r with
  | none => exact h₁
  | some v =>
    refine seg_stepF (wpAny_mono h₁ (fun _ s₂ h₂ => ?_) fun _ _ z => z)
    refine seg_stepF (wpAny_mono h₂ (fun _ s₃ h₃ => ?_) fun _ _ z => z)
    rw [Sem.bind_eq_wrap', Sem.wrap_wrap]
    refine Eq.mp (congrArg (fun t => Seg (model prog w) A R Y n s₀ (.forLoop tg itv body [] env) t fs s₃) (Sem.wrap_congr (execs body env) (K := turnK tg itv body env) (H := turnJ env) id id (fun f => ?_) (fun e => ?_))) h₃
    · cases f <;> rfl
    · rfl
theorem seg_block0 (h : ∀ {c' : Code}, Seg (model prog w) A R Y n s₀ c' (.pure (.done .next)) fs s) : Seg (model prog w) A R Y n s₀ c (.pure (.again (.block [] env))) fs s := by
  refine seg_again rfl ?_
  exact h
end
end Fm
set_option Elab.async false
set_option linter.all false
set_option maxRecDepth 100000
set_option maxHeartbeats 4000000
/-! A generator that reads one instance: what it needs of the state when it is woken, what it changes till it sleeps. -/
namespace Fm
open PySem PySem.Spec PyProof.Rows L2 Evl
/-- fixed: the written part's heap, the callers' frames, the state at the call, the instance (of class C, its dict at dx, its fields) -/
structure GD where
  base : Heap
  outer : List Env
  sc : Shared
  b : Addr
  C : Addr
  dx : Addr
  fs : List (Str × V)
/-- the frame's own dict -/
abbrev GD.L (D : GD) : Addr := D.sc.heap.objs.size
/-- all stays but the dict at L, the iterator at it, the instance's dict, the slots of the callers' frames -/
structure Keep (D : GD) (it : Addr) (s s' : Shared) : Prop where
  os : s'.os = s.os
  keep : ∀ a o, s.heap.get? a = some o → a ≠ D.L → a ≠ it → a ≠ D.dx → a ∉ frs D.outer → s'.heap.get? a = some o
  slot : ∀ a o, s.heap.get? a = some o → a ≠ D.L → a ≠ it → a ≠ D.dx → ∃ sl, s'.heap.get? a = some { o with slots := sl }
  there : ∀ a o, s.heap.get? a = some o → (a = it → a = D.L) → ∃ o', s'.heap.get? a = some o'
theorem Keep.of {D : GD} {it : Addr} {s s' : Shared} (o : s'.os = s.os) (h : ∀ a o, s.heap.get? a = some o → s'.heap.get? a = some o) : Keep D it s s' :=
  ⟨o, fun a o e _ _ _ _ => h a o e, fun a o e _ _ _ => ⟨o.slots, h a o e⟩, fun a o e _ => ⟨o, h a o e⟩⟩
theorem Keep.trans {D : GD} {it : Addr} {s s1 s2 : Shared} (x : Keep D it s s1) (y : Keep D it s1 s2) : Keep D it s s2 where
  os := y.os.trans x.os
  keep := fun a o e h1 h2 h3 h4 => y.keep a o (x.keep a o e h1 h2 h3 h4) h1 h2 h3 h4
  slot := fun a o e h1 h2 h3 => by
    obtain ⟨sl, e1⟩ := x.slot a o e h1 h2 h3
    obtain ⟨sl2, e2⟩ := y.slot a _ e1 h1 h2 h3
    exact ⟨sl2, e2⟩
  there := fun a o e h => by
    obtain ⟨o1, e1⟩ := x.there a o e h
    exact y.there a o1 e1 h
/-- less is left out -/
theorem Keep.weak {D : GD} {it : Addr} {s s' : Shared} (x : Keep D D.L s s') : Keep D it s s' :=
  ⟨x.os, fun a o e h1 _ h3 h4 => x.keep a o e h1 h1 h3 h4, fun a o e h1 _ h3 => x.slot a o e h1 h1 h3, fun a o e _ => x.there a o e fun z => z⟩
theorem Keep.but {D : GD} {it : Addr} {s : Shared} {h' : Heap} {tk : Nat} {a0 : Addr} (h0 : a0 = D.L ∨ a0 = it) (sb : Heap.SameBut a0 s.heap h') (hx : ∃ o', h'.get? a0 = some o') : Keep D it s { s with heap := h', toks := tk } where
  os := rfl
  keep := fun a o e h1 h2 _ _ => (sb.2 a (by rcases h0 with z | z <;> rw [z] <;> assumption)).trans e
  slot := fun a o e h1 h2 _ => ⟨o.slots, (sb.2 a (by rcases h0 with z | z <;> rw [z] <;> assumption)).trans e⟩
  there := fun a o e _ => by
    by_cases z : a = a0
    · rw [z]; exact hx
    · exact ⟨o, (sb.2 a z).trans e⟩
/-- the instance stands -/
structure PInst (D : GD) (h : Heap) : Prop where
  obj : h.get? D.b = some (PySem.W.instObj D.C D.dx)
  len : D.fs.length ≤ 1000
  ns : ∃ mA, h.Ns1 D.dx mA ∧ (∀ f, RelO (D.fs.lookup f) (mA f)) ∧ PySem.Within mA (D.fs.map (·.1))
/-- the addresses lie apart -/
structure Sep (D : GD) : Prop where
  bL : D.b ≠ D.L
  xL : D.dx ≠ D.L
  xb : D.dx ≠ D.b
  bb : D.base.get? D.b = none
  xB : D.base.get? D.dx = none
  bf : D.b ∉ frs D.outer
  xf : D.dx ∉ frs D.outer
  sub : ∀ a o, D.base.get? a = some o → D.sc.heap.get? a = some o
  fr : ∀ a ∈ frs D.outer, ∃ o, D.sc.heap.get? a = some o
  frb : ∀ a ∈ frs D.outer, D.base.get? a = none
/-- it may be woken at s -/
structure Rdy (D : GD) (s : Shared) : Prop where
  os : s.os = D.sc.os
  bare : AllBare s.gens
  base : ∀ a o, D.base.get? a = some o → s.heap.get? a = some o
  slot : ∀ a o, a ∈ frs D.outer → D.sc.heap.get? a = some o → ∃ sl, s.heap.get? a = some { o with slots := sl }
  there : ∀ a o, D.sc.heap.get? a = some o → ∃ o', s.heap.get? a = some o'
  inst : PInst D s.heap
theorem Sep.baseL {D : GD} (S : Sep D) {a : Addr} {o : Obj} (e : D.base.get? a = some o) : a ≠ D.L ∧ a ≠ D.dx ∧ a ≠ D.b ∧ a ∉ frs D.outer :=
  ⟨Nat.ne_of_lt (Heap.lt_size (S.sub a o e)), fun z => (by rw [z, S.xB] at e; cases e), fun z => (by rw [z, S.bb] at e; cases e), fun z => (by rw [S.frb a z] at e; cases e)⟩
theorem Rdy.trans {D : GD} {it : Addr} {s s' : Shared} (S : Sep D) (hit : D.sc.heap.get? it = none) (r : Rdy D s) (k : Keep D it s s') (hb : AllBare s'.gens) (hi : PInst D s'.heap) : Rdy D s' where
  os := k.os.trans r.os
  bare := hb
  base := fun a o e => by
    obtain ⟨h1, h2, _, h3⟩ := S.baseL e
    exact k.keep a o (r.base a o e) h1 (fun z => by rw [z] at e; rw [S.sub _ _ e] at hit; cases hit) h2 h3
  slot := fun a o hf e => by
    obtain ⟨sl, e1⟩ := r.slot a o hf e
    obtain ⟨sl2, e2⟩ := k.slot a _ e1 (Nat.ne_of_lt (Heap.lt_size e)) (fun z => by rw [z, hit] at e; cases e) (fun z => S.xf (by rw [← z]; exact hf))
    exact ⟨sl2, e2⟩
  there := fun a o e => by
    obtain ⟨o1, e1⟩ := r.there a o e
    exact k.there a o1 e1 fun z => by rw [z, hit] at e; cases e
  inst := hi
/-- the instance tracked, all else that it doesn't own held as it stands (but what is at it) -/
def exH (D : GD) (it : Addr) (h : Heap) : Hp := fun a =>
  if a = D.b then some (.ins D.C D.dx D.fs) else if a = D.dx then some (.own D.b) else if a = D.L ∨ a = it ∨ (D.base.get? a).isSome = true ∨ a ∈ frs D.outer then none
  else match h.get? a with
    | some o => some (.ext fun h' => h'.get? a = some o)
    | none => none
section
variable {D : GD} {it a : Addr} {h : Heap} {o : Obj}
theorem exH_b : exH D it h D.b = some (.ins D.C D.dx D.fs) := by unfold exH; rw [if_pos rfl]
theorem exH_dx (S : Sep D) : exH D it h D.dx = some (.own D.b) := by unfold exH; rw [if_neg S.xb, if_pos rfl]
theorem exH_none (S : Sep D) (e : a = D.L ∨ (a = it ∧ it ≠ D.b ∧ it ≠ D.dx) ∨ (D.base.get? a).isSome = true ∨ a ∈ frs D.outer) : exH D it h a = none := by
  unfold exH
  have hb : a ≠ D.b := fun z => by
    rcases e with e | ⟨e, e2, _⟩ | e | e
    · exact S.bL (z.symm.trans e)
    · exact e2 (e.symm.trans z)
    · rw [z, S.bb] at e; cases e
    · exact S.bf (by rw [← z]; exact e)
  have hx : a ≠ D.dx := fun z => by
    rcases e with e | ⟨e, _, e2⟩ | e | e
    · exact S.xL (z.symm.trans e)
    · exact e2 (e.symm.trans z)
    · rw [z, S.xB] at e; cases e
    · exact S.xf (by rw [← z]; exact e)
  rw [if_neg hb, if_neg hx, if_pos]
  rcases e with e | ⟨e, _⟩ | e | e
  · exact .inl e
  · exact .inr (.inl e)
  · exact .inr (.inr (.inl e))
  · exact .inr (.inr (.inr e))
theorem exH_ext (hb : a ≠ D.b) (hx : a ≠ D.dx) (hL : a ≠ D.L) (hi : a ≠ it) (hB : D.base.get? a = none) (hf : a ∉ frs D.outer) (e : h.get? a = some o) : exH D it h a = some (.ext fun h' => h'.get? a = some o) := by
  unfold exH
  rw [if_neg hb, if_neg hx, if_neg, e]
  rintro (z | z | z | z)
  · exact hL z
  · exact hi z
  · rw [hB] at z; cases z
  · exact hf z
theorem exH_cases (S : Sep D) {u : HO} (q : exH D it h a = some u) : (a = D.b ∧ u = .ins D.C D.dx D.fs) ∨ (a = D.dx ∧ u = .own D.b) ∨ ∃ o, h.get? a = some o ∧ u = .ext fun h' => h'.get? a = some o := by
  unfold exH at q
  split at q
  · cases q; exact .inl ⟨by assumption, rfl⟩
  · split at q
    · cases q; exact .inr (.inl ⟨by assumption, rfl⟩)
    · split at q
      · cases q
      · split at q
        · rename_i o e
          cases q
          exact .inr (.inr ⟨o, e, rfl⟩)
        · cases q
theorem exH_hok {P : Program} {w : World} (S : Sep D) (p : PInst D h) : HOk P w (exH D it h) h := fun a u q => by
  rcases exH_cases S q with ⟨rfl, rfl⟩ | ⟨rfl, rfl⟩ | ⟨o, e, rfl⟩
  · obtain ⟨mA, n, r, wi⟩ := p.ns
    exact ⟨exH_dx S, p.len, S.xb, p.obj, mA, n, r, wi⟩
  · obtain ⟨mA, ⟨o, es, ep, e, _⟩, _⟩ := p.ns
    exact ⟨o, e⟩
  · exact ⟨e, ⟨o, e⟩, fun h1 h2 q k => k _ q⟩
end
/-- the generator's context: its frame's dict at L -/
abbrev Gx (P : Program) (w : World) (K : PySem.W.Frag) (mg : Str → Option Value) (D : GD) (N : List Str) (qual : Str) (scope : Scope) (f : Addr) (cd : Value) (A : Around) : Cx :=
  (cxOf CX0 P w K mg D.base N qual scope f cd A D.outer D.sc (exH D D.L D.sc.heap) E0).nox
section
variable {P : Program} {w : World} {K : PySem.W.Frag} {mg : Str → Option Value} {D : GD} {N : List Str} {qual : Str} {scope : Scope} {f : Addr} {cd : Value} {A : Around} {it : Addr} {s s' : Shared} {σ : L2.St} {m : Str → Option Value} {H' : Hp}
/-- no cell, all names local -/
structure Flat (N : List Str) (scope : Scope) : Prop where
  nc : ∀ n, cellsFrom n scope.names [] = []
  loc : ∀ x ∈ N, scope.names.lookup x = some .local
theorem mkInv (ok : (Gx P w K mg D N qual scope f cd A).Ok) (S : Sep D) (F : Flat N scope) (r : Rdy D s) (hi : it ≠ D.b ∧ it ≠ D.dx ∧ D.sc.heap.get? it = none) (hn : s.heap.Ns D.L m) (hl : σ.length = N.length)
    (hs : ∀ (i : Nat) x v, N[i]? = some x → σ[i]? = some (some v) → ∃ u, RelV v u ∧ m x = some u) : Inv (Gx P w K mg D N qual scope f cd A) [] σ (exH D it s.heap) s := by
  have nc : ∀ x c, (Gx P w K mg D N qual scope f cd A).env.cells.lookup x = some c → False := fun x c e => by
    have z : (cellsFrom (D.sc.heap.objs.size + 1) scope.names []).lookup x = some c := e
    rw [F.nc] at z
    cases z
  have zero : ∀ {a o}, D.sc.heap.get? a = some o → exH D D.L D.sc.heap a = none → (D.base.get? a).isSome = true ∨ a ∈ frs D.outer := fun {a o} e n => by
    by_cases hB : D.base.get? a = none
    · by_cases hf : a ∈ frs D.outer
      · exact .inr hf
      · exfalso
        by_cases hb : a = D.b
        · rw [hb, exH_b] at n; cases n
        · by_cases hx : a = D.dx
          · rw [hx, exH_dx S] at n; cases n
          · have hL : a ≠ D.L := Nat.ne_of_lt (Heap.lt_size e)
            rw [exH_ext hb hx hL hL hB hf e] at n
            cases n
    · left
      cases q : D.base.get? a with
      | none => exact absurd q hB
      | some _ => rfl
  have un : Un (frs D.outer) [] (exH D D.L D.sc.heap) (exH D it s.heap) D.sc.heap s.heap := {
    keep := fun a o e n hf _ => by
      rcases zero e n with z | z
      · obtain ⟨o2, e2⟩ := Option.isSome_iff_exists.mp z
        have := S.sub a o2 e2
        rw [e] at this
        cases this
        exact r.base a o e2
      · exact absurd z hf
    slot := fun a o e n hf _ => r.slot a o hf e
    free := fun a o e n _ => exH_none S (by
      rcases zero e n with z | z
      · exact .inr (.inr (.inl z))
      · exact .inr (.inr (.inr z)))
    there := fun a o e _ => r.there a o e
    tups := fun a xs q => by
      rcases exH_cases S q with ⟨_, z⟩ | ⟨_, z⟩ | ⟨_, _, z⟩ <;> cases z
    frzs := fun a o u q => by
      rcases exH_cases S q with ⟨_, z⟩ | ⟨_, z⟩ | ⟨_, _, z⟩ <;> cases z
    tbls := fun a ps q => by
      rcases exH_cases S q with ⟨_, z⟩ | ⟨_, z⟩ | ⟨_, _, z⟩ <;> cases z }
  refine ⟨ok, r.os, r.bare, un, ⟨m, hn, fun i x v h1 h2 h3 => ?_⟩, fun x c e => (nc x c e).elim, exH_none S (.inl rfl), fun x c e => (nc x c e).elim, fun p hp => absurd (show p ∈ ([] : List (Addr × Obj)) from hp) (by simp), exH_hok S r.inst, hl⟩
  obtain ⟨u, ru, hu⟩ := hs i x v h1 h2
  exact ⟨u, ru, .inl ⟨F.loc x (List.mem_of_getElem? h1), hu⟩⟩
/-- behind a run that keeps all that was tracked -/
theorem after (S : Sep D) (r : Rdy D s) (I : Inv (Gx P w K mg D N qual scope f cd A) [] σ H' s') (e : Ex (exH D D.L s.heap) H') : Keep D D.L s s' ∧ Rdy D s' := by
  have hb : H' D.b = some (.ins D.C D.dx D.fs) := e _ _ exH_b
  obtain ⟨d1, d2, d3, d4, d5⟩ := (show ObjOk P w H' s'.heap D.b (.ins D.C D.dx D.fs) from I.hok _ _ hb)
  have pi : PInst D s'.heap := ⟨d4, d2, d5⟩
  have key : ∀ a o, s.heap.get? a = some o → a ≠ D.L → a ≠ D.dx → a ∉ frs D.outer → s'.heap.get? a = some o := fun a o q hL hx hf => by
    by_cases z : a = D.b
    · rw [z] at q ⊢
      rw [r.inst.obj] at q
      rw [d4, ← q]
    · cases hB : D.base.get? a with
      | some o2 =>
        have q2 := r.base a o2 hB
        rw [q] at q2
        cases q2
        exact (I.bs a o hB).1
      | none =>
        have q2 := e _ _ (exH_ext (it := D.L) z hx hL hL hB hf q)
        obtain ⟨y, _⟩ := (show ObjOk P w H' s'.heap a (.ext fun h' => h'.get? a = some o) from I.hok _ _ q2)
        exact y
  have frame : ∀ a o, s.heap.get? a = some o → a ∈ frs D.outer → ∃ sl, s'.heap.get? a = some { o with slots := sl } := fun a o q hf => by
    obtain ⟨o0, e0⟩ := S.fr a hf
    obtain ⟨sl1, e1⟩ := r.slot a o0 hf e0
    obtain ⟨sl2, e2⟩ := I.base.slot a o0 e0 (exH_none S (.inr (.inr (.inr hf)))) hf (by intro z; cases z)
    rw [q] at e1
    cases e1
    exact ⟨sl2, e2⟩
  have k : Keep D D.L s s' := {
    os := I.os.trans r.os.symm
    keep := fun a o q h1 _ h3 h4 => key a o q h1 h3 h4
    slot := fun a o q h1 _ h3 => by
      by_cases hf : a ∈ frs D.outer
      · exact frame a o q hf
      · exact ⟨o.slots, key a o q h1 h3 hf⟩
    there := fun a o q _ => by
      by_cases hL : a = D.L
      · obtain ⟨m', ⟨o1, es, ep, e1, _⟩, _⟩ := I.loc
        rw [hL]
        exact ⟨o1, e1⟩
      · by_cases hx : a = D.dx
        · obtain ⟨mA, ⟨o1, es, ep, e1, _⟩, _⟩ := d5
          rw [hx]
          exact ⟨o1, e1⟩
        · by_cases hf : a ∈ frs D.outer
          · obtain ⟨sl, e1⟩ := frame a o q hf
            exact ⟨_, e1⟩
          · exact ⟨o, key a o q hL hx hf⟩ }
  refine ⟨k, ⟨I.os, I.bare, fun a o q => (I.bs a o q).1, fun a o hf q => I.base.slot a o q (exH_none S (.inr (.inr (.inr hf)))) hf (by intro z; cases z), fun a o q => ?_, pi⟩⟩
  exact I.base.there a o q (by intro z; cases z)
end
end Fm
set_option Elab.async false
set_option linter.all false
set_option maxRecDepth 100000
set_option maxHeartbeats 4000000
/-! for x in range(self.f): yield e, as a generator's body -/
namespace Fm
open PySem PySem.Spec PyProof.Rows L2 Evl GenW
theorem PInst.at {D : GD} {h h' : Heap} (p : PInst D h) (k : ∀ a o, a = D.b ∨ a = D.dx → h.get? a = some o → h'.get? a = some o) : PInst D h' := by
  obtain ⟨mA, n, r⟩ := p.ns
  exact ⟨k _ _ (.inl rfl) p.obj, p.len, mA, n.at fun o e => k _ _ (.inr rfl) e, r⟩
/-- the frame's own dict knows the instance -/
def LocS (D : GD) (nm : Str) (s : Shared) : Prop := ∃ m, s.heap.Ns D.L m ∧ m nm = some (.ref D.b)
theorem LocS.at {D : GD} {nm : Str} {s s' : Shared} (l : LocS D nm s) (k : ∀ o, s.heap.get? D.L = some o → s'.heap.get? D.L = some o) : LocS D nm s' := by
  obtain ⟨m, ⟨o, es, ep, e, r⟩, h⟩ := l
  exact ⟨m, ⟨o, es, ep, k o e, r⟩, h⟩
def TupI (h : Heap) (q : Addr) (xs : List Int) : Prop := xs.length ≤ sizeLine ∧ ∃ its : List Value, Vals (xs.map V.int) its ∧ IsTup h q its.toArray
/-- the end; what is handed out: the (Nn - 1 - n)-th, a new tuple -/
def RE (D : GD) (it : Addr) : GenEnd := fun n s₀ r s1 => ((r = .ok (.ret .none) ∨ r = .ok .next) ∧ (n = 0 ∧ Keep D it s₀ s1 ∧ Rdy D s1)) ∨ ∃ e, r = .error e ∧ (fun (_ : Value) (_ : Shared) => False) e s1
def YE (D : GD) (nm : Str) (it : Addr) (Nn : Nat) (dg : Nat → List Int) : Protocol := fun n s₀ v s1 kap =>
  Keep D it s₀ s1 ∧ Rdy D s1 ∧ (∃ q, v = .ref q ∧ s₀.heap.get? q = none ∧ TupI s1.heap q (dg (Nn - 1 - n))) ∧ LocS D nm s1 ∧ IsRangeIter s1.heap it ((Nn - 1 - n + 1 : Nat) : Int) ((n : Nat) : Int) 1 ∧
    ∀ s2, Rdy D s2 → (∀ o, s1.heap.get? D.L = some o → s2.heap.get? D.L = some o) → (∀ o, s1.heap.get? it = some o → s2.heap.get? it = some o) → kap (.send .none) s2 ∧ kap (.send (.bool true)) s2
section
variable {P : Program} {w : World} {K : PySem.W.Frag} {mg : Str → Option Value} {D : GD} {N : List Str} {qual : Str} {scope : Scope} {f : Addr} {cd : Value} {A : Around} {it : Addr} {s s' : Shared}
  {e : Expr} {te : TE} {nm x : Str} {dg : Nat → List Int} {Nn : Nat}
/-- what the handed out expression is to read -/
def Gives (D : GD) (te : TE) (Nn : Nat) (dg : Nat → List Int) : Prop := ∀ (i : Nat) (H : Hp), i < Nn → H D.b = some (.ins D.C D.dx D.fs) →
  te [some (.ref D.b), some (.int (i : Nat))] H fun v H' => ∃ q, v = .ref q ∧ H q = none ∧ Ex H H' ∧ H' q = some (.tup ((dg i).map V.int))
theorem gen_pe (ok : (Gx P w K mg D [nm, x] qual scope f cd A).Ok) (S : Sep D) (F : Flat [nm, x] scope) (he : PE (Gx P w K mg D [nm, x] qual scope f cd A) e te) (hg : Gives D te Nn dg) (hz : ∀ i, (dg i).length ≤ sizeLine)
    (r : Rdy D s) {m : Str → Option Value} (hn : s.heap.Ns D.L m) (h1 : m nm = some (.ref D.b)) {i : Nat} {t : Tok} (h2 : m x = some (.int (i : Nat) t)) (hi : i < Nn) :
    wpAny (model P w) (Gx P w K mg D [nm, x] qual scope f cd A).A (eval e (Gx P w K mg D [nm, x] qual scope f cd A).env) (fun v s' => ∃ q, v = .ref q ∧ s.heap.get? q = none ∧ TupI s'.heap q (dg i) ∧ Keep D D.L s s' ∧ Rdy D s' ∧ LocS D nm s') NoX s := by
  have I : Inv (Gx P w K mg D [nm, x] qual scope f cd A) [] [some (.ref D.b), some (.int (i : Nat))] (exH D D.L s.heap) s := by
    refine mkInv ok S F r ⟨fun z => S.bL z.symm, fun z => S.xL z.symm, ?_⟩ hn rfl fun j y v hj hv => ?_
    · cases q : D.sc.heap.get? D.L with
      | none => rfl
      | some o => exact absurd (Heap.lt_size q) (Nat.lt_irrefl _)
    · match j, hj, hv with
      | 0, hj, hv => cases hj; cases hv; exact ⟨_, rfl, h1⟩
      | 1, hj, hv => cases hj; cases hv; exact ⟨_, ⟨t, rfl⟩, h2⟩
      | j + 2, hj, hv => cases hj
  refine wpAny_mono (he.run [] s _ _ _ I (hg i _ hi exH_b)) (fun v s' h => ?_) fun _ _ z => z
  obtain ⟨v', H', I', rv, q, ev, hq, ex, hq'⟩ := h
  subst ev
  cases rv
  obtain ⟨k, r'⟩ := after S r I' ex
  refine ⟨q, rfl, ?_, ?_, k, r', ?_⟩
  · cases z : s.heap.get? q with
    | none => rfl
    | some o =>
      exfalso
      by_cases hL : q = D.L
      · have := I'.free
        rw [hL] at hq'
        have h3 : H' D.L = none := this
        rw [h3] at hq'
        cases hq'
      · by_cases hb : q = D.b
        · rw [hb, exH_b] at hq; cases hq
        · by_cases hx : q = D.dx
          · rw [hx, exH_dx S] at hq; cases hq
          · cases hB : D.base.get? q with
            | some o2 =>
              have := (I'.bs q o2 hB).2
              rw [this] at hq'
              cases hq'
            | none =>
              by_cases hf : q ∈ frs D.outer
              · obtain ⟨o0, e0⟩ := S.fr q hf
                have := I'.base.free q o0 e0 (exH_none S (.inr (.inr (.inr hf)))) (by intro z; cases z)
                rw [this] at hq'
                cases hq'
              · rw [exH_ext hb hx hL hL hB hf z] at hq
                cases hq
  · obtain ⟨z, its, rr, p⟩ := (show ObjOk P w H' s'.heap q (.tup ((dg i).map V.int)) from I'.hok _ _ hq')
    exact ⟨hz i, its, rr, p⟩
  · obtain ⟨m', hn', hl⟩ := I'.loc
    obtain ⟨u, ru, look⟩ := hl 0 nm (.ref D.b) rfl rfl (.inl (F.loc nm (by simp)))
    cases ru
    refine ⟨m', hn', ?_⟩
    rcases look with ⟨_, z⟩ | ⟨z, c, hc, _⟩
    · exact z
    · have z2 : (cellsFrom (D.sc.heap.objs.size + 1) scope.names []).lookup nm = some c := hc
      rw [F.nc] at z2
      cases z2
variable {tg : Expr} {px yp ep : Pos} {fb : List Stmt} {Kf : Flow → Sem PySem.Fin} {Jf : Value → Sem PySem.Fin}
/-- the loop -/
theorem gen_loop (hh : A.handled = none) (ok : (Gx P w K mg D [nm, x] qual scope f cd A).Ok) (S : Sep D) (F : Flat [nm, x] scope) (hk : scope.kind = .function) (hco : scope.isCoroutine = false) (hin : interactive (envOfC qual scope D.L f cd) = false) (he : PE (Gx P w K mg D [nm, x] qual scope f cd A) e te) (hg : Gives D te Nn dg) (hz : ∀ i, (dg i).length ≤ sizeLine)
    (hxn : x ≠ nm) (hi : it ≠ D.b ∧ it ≠ D.dx ∧ D.sc.heap.get? it = none) (hiL : it ≠ D.L)
    (hend : ∀ s₀ s', Keep D it s₀ s' → Rdy D s' → Seg (model P w) A (RE D it) (YE D nm it Nn dg) 0 s₀ (.func fb (envOfC qual scope D.L f cd)) (Kf .next) [] s') :
    ∀ (n i : Nat) (s₀ s : Shared) (p : Pos), n + i = Nn → Keep D it s₀ s → Rdy D s → LocS D nm s → IsRangeIter s.heap it ((i : Nat) : Int) ((n : Nat) : Int) 1 →
      Seg (model P w) A (RE D it) (YE D nm it Nn dg) n s₀ (.forLoop (.Name x px) (.ref it) [.Expr (.Yield (some e) yp) ep] [] (envOfC qual scope D.L f cd)) ((model P w).den (.forLoop (.Name x px) (.ref it) [.Expr (.Yield (some e) yp) ep] [] (envOfC qual scope D.L f cd)))
        [.ret (backK (envOfC qual scope D.L f cd) Kf Jf id id) none (id false) (id []) (.func fb (envOfC qual scope D.L f cd)) p []] s := by
  have ar : ∀ p, A.over (.forLoop (.Name x px) (.ref it) [.Expr (.Yield (some e) yp) ep] [] (envOfC qual scope D.L f cd)) [.ret (backK (envOfC qual scope D.L f cd) Kf Jf id id) none (id false) (id []) (.func fb (envOfC qual scope D.L f cd)) p []] = A.deeper (envOfC qual scope D.L f cd) :=
    fun p => (over_loop rfl rfl).trans over_func
  intro n
  induction n with
  | zero =>
    intro i s₀ s p hn k r l st
    refine seg_forLoop ?_
    rw [ar]
    refine wpAny_pyNext_range_end hh st (by omega) fun h' eb => ?_
    refine seg_block0 (seg_leaf (.ok .next) ?_)
    have k1 : Keep D it s { s with heap := h' } := ⟨rfl, fun a o q _ h2 _ _ => eb a o h2 q, fun a o q _ h2 _ => ⟨o.slots, eb a o h2 q⟩, fun a o q h => by
      by_cases z : a = it
      · exact absurd ((z.symm.trans (h z)) : it = D.L) hiL
      · exact ⟨o, eb a o z q⟩⟩
    exact hend s₀ _ (k.trans k1) (r.trans S hi.2.2 k1 r.bare (r.inst.at fun a o ha q => eb a o (by
      rcases ha with z | z
      · exact fun y => hi.1 (y.symm.trans z)
      · exact fun y => hi.2.1 (y.symm.trans z)) q))
  | succ n ih =>
    intro i s₀ s p hn k r l st
    refine seg_forLoop ?_
    rw [ar]
    refine wpAny_pyNext_range_item st (by omega) fun h1 st1 sb1 => ?_
    show wpAny _ _ (letOwnedTupleGo (.Name x px) (.ref it) (.int (i : Nat) s.toks)) _ _ _
    refine wpAny_pure ?_
    obtain ⟨m, hm, hm0⟩ := l
    have hm1 : Heap.Ns h1 D.L m := hm.sameBut sb1 (Ne.symm hiL)
    refine wpAny_assign_Name (wpAny_storeName_local (m := m) (F.loc x (by simp)) hm1 (fun h2 hm2 sb2 => ?_) (by
      show ((scope.kind == .class) || (scope.kind == .module && _)) = false
      rw [hk]
      rfl))
    have k1 : Keep D it s { s with heap := h1, toks := s.toks + 1 } := Keep.but (.inr rfl) sb1 ⟨_, st1⟩
    have k2 : Keep D it { s with heap := h1, toks := s.toks + 1 } { s with heap := h2, toks := s.toks + 1 + 1 } := Keep.but (s := { s with heap := h1, toks := s.toks + 1 }) (.inl rfl) sb2 (by
      obtain ⟨o, _, _, e, _⟩ := hm2
      exact ⟨o, e⟩)
    have k12 := k1.trans k2
    have pi : PInst D h2 := r.inst.at fun a o ha q => by
      have ha1 : a ≠ it ∧ a ≠ D.L := by
        rcases ha with z | z
        · exact ⟨fun y => hi.1 (y.symm.trans z), fun y => S.bL (z.symm.trans y)⟩
        · exact ⟨fun y => hi.2.1 (y.symm.trans z), fun y => S.xL (z.symm.trans y)⟩
      exact (sb2.2 a ha1.2).trans ((sb1.2 a ha1.1).trans q)
    have r3 : Rdy D { s with heap := h2, toks := s.toks + 1 + 1 } := r.trans S hi.2.2 k12 r.bare pi
    have st3 : IsRangeIter h2 it (((i : Nat) : Int) + 1) (((n + 1 : Nat) : Int) - 1) 1 := (sb2.2 it hiL).trans st1
    refine seg_execs_cons (seg_Expr_Yield rfl rfl rfl ?_ hco hin)
    rw [ar]
    have hiN : i < Nn := by omega
    refine wpAny_mono (gen_pe (s := { s with heap := h2, toks := s.toks + 1 + 1 }) ok S F he hg hz r3 (m := fun y => if y = x then some (.int (i : Nat) s.toks) else m y) hm2 (by rw [if_neg (Ne.symm hxn)]; exact hm0) (t := s.toks) (by rw [if_pos rfl]) hiN) (fun v s4 h => ?_) fun _ _ z => z.elim
    obtain ⟨q, rfl, hq, tq, k4, r4, l4⟩ := h
    intro kap hkap
    have st4 : IsRangeIter s4.heap it (((i : Nat) : Int) + 1) (((n + 1 : Nat) : Int) - 1) 1 := by
      by_cases hf : it ∈ frs D.outer
      · obtain ⟨o0, e0⟩ := S.fr it hf
        rw [hi.2.2] at e0
        cases e0
      · exact k4.keep it _ st3 hiL hiL hi.2.1 hf
    have e1 : Nn - 1 - n = i := by omega
    have e2 : (((Nn - 1 - n + 1 : Nat)) : Int) = ((i : Nat) : Int) + 1 := by omega
    have e3 : ((n : Nat) : Int) = ((n + 1 : Nat) : Int) - 1 := by omega
    refine ⟨(k.trans k12).trans k4.weak, r4, ⟨q, rfl, ?_, by rw [e1]; exact tq⟩, l4, by rw [e2, e3]; exact st4, fun s5 r5 hL5 hi5 => ?_⟩
    · cases z : s₀.heap.get? q with
      | none => rfl
      | some o =>
        exfalso
        by_cases zi : q = it
        · rw [zi] at hq
          rw [show h2.get? it = some _ from st3] at hq
          cases hq
        · obtain ⟨o1, e1⟩ := (k.trans k12).there q o z fun y => absurd y zi
          rw [hq] at e1
          cases e1
    · have st5 : IsRangeIter s5.heap it ((i + 1 : Nat) : Int) ((n : Nat) : Int) 1 := by
        rw [e3, show ((i + 1 : Nat) : Int) = ((i : Nat) : Int) + 1 by omega]
        exact hi5 _ st4
      have go := fun p => ih (i + 1) s5 s5 p (by omega) (Keep.of rfl fun _ _ z => z) r5 (l4.at hL5) st5
      exact ⟨hkap .none s5 (seg_execs_nil (seg_again rfl (go _))), hkap (.bool true) s5 (seg_execs_nil (seg_again rfl (go _)))⟩
/-- the body, from its start -/
theorem gen_func {fq : Str} {p1 p2 p3 p4 p5 : Pos} (hh : A.handled = none) (ok : (Gx P w K mg D [nm, x] qual scope f cd A).Ok) (S : Sep D) (F : Flat [nm, x] scope) (hk : scope.kind = .function) (hco : scope.isCoroutine = false) (hin : interactive (envOfC qual scope D.L f cd) = false)
    (he : PE (Gx P w K mg D [nm, x] qual scope f cd A) e te) (hg : Gives D te Nn dg) (hz : ∀ i, (dg i).length ≤ sizeLine) (hxn : x ≠ nm) (hN : Nn < 2 ^ 62) (hq : D.fs.lookup fq = some (.int (Nn : Int))) (c : Cls K D.C) (na : NoAttr K D.C fq)
    (hgl : Gl (Gx P w K mg D [nm, x] qual scope f cd A) "range") (hmg : mg "range" = none) (hdb : (nm == ("__debug__" : Str)) = false)
    (hst : starEach [.Attribute (.Name nm p2) fq p3] (envOfC qual scope D.L f cd) = (false, eval (.Attribute (.Name nm p2) fq p3) (envOfC qual scope D.L f cd)) :: starEach [] (envOfC qual scope D.L f cd))
    (hab : attributeBase (.Name nm p2) fq (envOfC qual scope D.L f cd) (eval (.Name nm p2) (envOfC qual scope D.L f cd)) = eval (.Name nm p2) (envOfC qual scope D.L f cd)) (r : Rdy D s) (l : LocS D nm s) :
    Seg (model P w) A (RE D (s.heap.objs.size + 1)) (YE D nm (s.heap.objs.size + 1) Nn dg) Nn s
      (.func [.For (.Name x px) (.Call (.Name "range" p1) [.Attribute (.Name nm p2) fq p3] [] p4) [.Expr (.Yield (some e) yp) ep] [] p5] (envOfC qual scope D.L f cd))
      ((model P w).den (.func [.For (.Name x px) (.Call (.Name "range" p1) [.Attribute (.Name nm p2) fq p3] [] p4) [.Expr (.Yield (some e) yp) ep] [] p5] (envOfC qual scope D.L f cd))) [] s := by
  obtain ⟨m, hm, hm0⟩ := l
  have hLs : D.L < s.heap.objs.size := hm.lt
  have scL : D.sc.heap.get? D.L = none := by
    cases q : D.sc.heap.get? D.L with
    | none => rfl
    | some o => exact absurd (Heap.lt_size q) (Nat.lt_irrefl _)
  have I : Inv (Gx P w K mg D [nm, x] qual scope f cd A) [] [some (.ref D.b), none] (exH D D.L s.heap) s := by
    refine mkInv ok S F r ⟨fun z => S.bL z.symm, fun z => S.xL z.symm, scL⟩ hm rfl fun j y v hj hv => ?_
    match j, hj, hv with
    | 0, hj, hv => cases hj; cases hv; exact ⟨_, rfl, hm0⟩
    | 1, hj, hv => cases hv
    | j + 2, hj, hv => cases hj
  refine seg_func (seg_execs_cons (seg_For (fun _ => rfl) ?_))
  rw [over_func]
  refine Call_ (ld_blt (X := Gx P w K mg D [nm, x] qual scope f cd A) I hgl hmg boot_range (PyProof.Rows.callWith_type1 ?_ hst rfl))
  rw [hst]
  refine Calls.spliced_cons (attr_of hab (wpAny_Name (wpAny_loadName_local hk (F.loc nm (by simp)) hm hm0 ?_) hdb))
  obtain ⟨mA, hn1, hr1, _⟩ := r.inst.ns
  obtain ⟨u, hu, t, ru⟩ := RelO.some_of (v := .int (Nn : Int)) (o := mA fq) (by rw [← hq]; exact hr1 fq)
  subst ru
  refine get_map I.kIn ⟨r.inst.obj, hn1, S.xb⟩ (c.get fq) c.hd na hu (handed_of (v := .int (Nn : Int)) ⟨t, rfl⟩) ?_
  refine Calls.spliced_nil (call_range_1 ?_)
  refine wpAny_pyIter_range (IsRange.new ..) (small_one (by omega) (by omega) (by omega) (by omega)) ?_
  intro p
  have sz : (s.heap.push { cls := .type "range", data := .fields #[.int 0 (s.toks + 1), .int (Nn : Int) t, .int 1 (s.toks + 1 + 1)] }).objs.size = s.heap.objs.size + 1 := Heap.size_push ..
  have kp : ∀ a o, s.heap.get? a = some o → ((s.heap.push { cls := .type "range", data := .fields #[.int 0 (s.toks + 1), .int (Nn : Int) t, .int 1 (s.toks + 1 + 1)] }).push { cls := .type "range_iterator", data := .fields #[rawInt 0, rawInt (Builtin.Range.rangeSize 0 (Nn : Int) 1), rawInt 1] }).get? a = some o :=
    fun a o q => Heap.get?_push_of_some _ (Heap.get?_push_of_some _ q)
  have st : ((s.heap.push { cls := .type "range", data := .fields #[.int 0 (s.toks + 1), .int (Nn : Int) t, .int 1 (s.toks + 1 + 1)] }).push { cls := .type "range_iterator", data := .fields #[rawInt 0, rawInt (Builtin.Range.rangeSize 0 (Nn : Int) 1), rawInt 1] }).get? (s.heap.objs.size + 1) =
      some { cls := .type "range_iterator", data := .fields #[rawInt 0, rawInt (Builtin.Range.rangeSize 0 (Nn : Int) 1), rawInt 1] } := by
    rw [← sz]
    exact Heap.get?_push_size _ rfl
  have e2 : Builtin.Range.rangeSize 0 (Nn : Int) 1 = ((Nn : Nat) : Int) := by
    rw [rangeSize_one]
    split <;> omega
  rw [e2] at st
  show Seg _ _ _ _ _ _ (.forLoop _ (.ref (s.heap.push { cls := .type "range", data := .fields #[.int 0 (s.toks + 1), .int (Nn : Int) t, .int 1 (s.toks + 1 + 1)] }).objs.size) _ _ _) _ _ _
  rw [sz]
  have lt : ∀ a o, s.heap.get? a = some o → a ≠ s.heap.objs.size + 1 := fun a o q z => by
    have h := Heap.lt_size q
    rw [z] at h
    exact Nat.not_succ_lt_self h
  refine gen_loop hh ok S F hk hco hin he hg hz hxn ⟨(lt _ _ r.inst.obj).symm, ?_, ?_⟩ (Nat.ne_of_gt (Nat.lt_succ_of_lt hLs)) (fun s₀ s' k r' => ?_) Nn 0 s _ p (by omega) (Keep.of rfl kp) ?_ ?_ ?_
  · obtain ⟨o, _, _, q, _⟩ := hn1
    exact (lt _ _ q).symm
  · cases q : D.sc.heap.get? (s.heap.objs.size + 1) with
    | none => rfl
    | some o =>
      exact absurd (Nat.lt_trans (Nat.lt_trans hLs (Nat.lt_succ_self _)) (Heap.lt_size q)) (Nat.lt_irrefl _)
  · refine seg_execs_nil (seg_end (.ok (.ret .none)) (.inl ⟨.inl rfl, rfl, k, r'⟩))
  · exact ⟨r.os, r.bare, fun a o q => kp a o (r.base a o q), fun a o h q => (let ⟨sl, z⟩ := r.slot a o h q; ⟨sl, kp _ _ z⟩), fun a o q => (let ⟨o2, z⟩ := r.there a o q; ⟨o2, kp _ _ z⟩), r.inst.at fun a o _ q => kp a o q⟩
  · exact LocS.at ⟨m, hm, hm0⟩ fun o q => kp _ o q
  · show IsRangeIter _ (s.heap.objs.size + 1) ((0 : Nat) : Int) _ 1
    exact (by rw [e2]; exact st)
end
end Fm
set_option Elab.async false
set_option linter.all false
set_option maxRecDepth 100000
set_option maxHeartbeats 4000000
/-! The call of such a generator method. -/
namespace Fm
open PySem PySem.Spec PyProof.Rows L2 Evl GenW
section
variable {P : Program} {w : World} {K : PySem.W.Frag} {mg : Str → Option Value} {base : Heap} {A : Around} {outer : List Env} {s : Shared} {H : Hp} {b C dx : Addr} {fs : List (Str × V)}
/-- the addresses lie apart, told of a state -/
theorem sep_of (e0 : Env0 P w K mg base A outer s H) (hb : H b = some (.ins C dx fs)) : Sep ⟨base, outer, s, b, C, dx, fs⟩ ∧ PInst ⟨base, outer, s, b, C, dx, fs⟩ s.heap := by
  obtain ⟨d1, d2, d3, d4, d5⟩ := (show ObjOk P w H s.heap b (.ins C dx fs) from e0.hok _ _ hb)
  have hx : ∃ o, s.heap.get? dx = some o := by
    obtain ⟨mA, ⟨o, _, _, e, _⟩, _⟩ := d5
    exact ⟨o, e⟩
  obtain ⟨ox, hx⟩ := hx
  refine ⟨⟨Nat.ne_of_lt (Heap.lt_size d4), Nat.ne_of_lt (Heap.lt_size hx), d3, ?_, ?_, ?_, ?_, fun a o e => (e0.bs a o e).1, fun a ha => ?_, fun a ha => (e0.funs.mem ha).1⟩, ⟨d4, d2, d5⟩⟩
  · cases q : base.get? b with
    | none => rfl
    | some o => have := (e0.bs b o q).2; rw [hb] at this; cases this
  · cases q : base.get? dx with
    | none => rfl
    | some o => have := (e0.bs dx o q).2; rw [d1] at this; cases this
  · intro z
    have := e0.frf b z
    rw [hb] at this; cases this
  · intro z
    have := e0.frf dx z
    rw [d1] at this; cases this
  · obtain ⟨o, ho, _⟩ := (e0.funs.mem ha).2
    exact ⟨o, ho⟩
theorem env_ex (e0 : Env0 P w K mg base A outer s H) (hb : H b = some (.ins C dx fs)) {Aw : Around} (hf : Aw.frames = some outer) : Env0 P w K mg base Aw outer s (exH ⟨base, outer, s, b, C, dx, fs⟩ s.heap.objs.size s.heap) := by
  obtain ⟨S, p⟩ := sep_of e0 hb
  refine ⟨hf, e0.mod, fun a o e => ⟨(e0.bs a o e).1, exH_none S (.inr (.inr (.inl (by show (base.get? a).isSome = true; rw [e]; rfl))))⟩, e0.bsz, e0.funs, fun a ha => exH_none S (.inr (.inr (.inr ha))), exH_hok S p, e0.bare⟩
/-- what the call gives: a generator that has not begun -/
structure GM (P : Program) (w : World) (D : GD) (k : Nat) (nm : Str) (Nn : Nat) (dg : Nat → List Int) (a g : Nat) (c : Code) (s' : Shared) : Prop where
  a1 : D.L < a
  a2 : a < s'.heap.objs.size
  gen : s'.heap.IsGen a g
  st : s'.gens[g]? = some (.fresh c)
  os : s'.os = D.sc.os
  bare : AllBare s'.gens
  keep : ∀ b o, D.sc.heap.get? b = some o → s'.heap.get? b = some o
  loc : LocS D nm s'
  wake : ∀ (Aw : Around) (s2 : Shared), Room k Aw → Aw.frames = some D.outer → Rdy D s2 → LocS D nm s2 → Seg (model P w) Aw (RE D (s2.heap.objs.size + 1)) (YE D nm (s2.heap.objs.size + 1) Nn dg) Nn s2 c ((model P w).den c) [] s2
variable {k : Nat} {f : Addr} {name qual : Str} {params : Arguments} {scope : Scope} {dV kV doc pm cdv ct oc : Value} {an od : Option Addr} {osl : Array (Option Value)} {nm x fq : Str} {px p1 p2 p3 p4 p5 yp ep : Pos} {e : Expr} {te : TE} {Nn : Nat} {dg : Nat → List Int}
theorem gen_call (lk : K.lookup f = some ⟨oc, od, .func (PySem.W.fnOf name qual params [.For (.Name x px) (.Call (.Name "range" p1) [.Attribute (.Name nm p2) fq p3] [] p4) [.Expr (.Yield (some e) yp) ep] [] p5] scope dV kV doc pm an cdv ct), osl⟩)
    (hcd : PySem.W.codeIn K cdv qual = true) (S : GScope [nm, x] [nm] scope) (F : Flat [nm, x] scope) (hxn : x ≠ nm) (hz : ∀ i, (dg i).length ≤ sizeLine) (hN : Nn < 2 ^ 62) (c : Cls K C) (na : NoAttr K C fq) (hq : fs.lookup fq = some (.int (Nn : Int)))
    (hgl : ∀ (D : GD) (A : Around), Gl (Gx P w K mg D [nm, x] qual scope f cdv A) "range") (hmg : mg "range" = none) (hdb : (nm == ("__debug__" : Str)) = false)
    (hst : ∀ L, starEach [.Attribute (.Name nm p2) fq p3] (envOfC qual scope L f cdv) = (false, eval (.Attribute (.Name nm p2) fq p3) (envOfC qual scope L f cdv)) :: starEach [] (envOfC qual scope L f cdv))
    (hab : ∀ L, attributeBase (.Name nm p2) fq (envOfC qual scope L f cdv) (eval (.Name nm p2) (envOfC qual scope L f cdv)) = eval (.Name nm p2) (envOfC qual scope L f cdv))
    (he : ∀ (D : GD) (A : Around), D.C = C → D.base = base → Room k (A.deeper (envOfC qual scope D.L f cdv)) → PE (Gx P w K mg D [nm, x] qual scope f cdv A) e te) (hg : ∀ D : GD, D.C = C → D.fs = fs → Gives D te Nn dg)
    (hr : Room (k + 1) A) (e0 : Env0 P w K mg base A outer s H) (hb : H b = some (.ins C dx fs)) (hbd : BindsTo s (PySem.W.fnOf name qual params [.For (.Name x px) (.Call (.Name "range" p1) [.Attribute (.Name nm p2) fq p3] [] p4) [.Expr (.Yield (some e) yp) ep] [] p5] scope dV kV doc pm an cdv ct) ⟨[.ref b], []⟩ [(nm, .ref b)]) :
    codeAny (model P w) A (.call (.ref f) ⟨[.ref b], []⟩) (fun r s' => match r with | .ok (.ret u) => ∃ a g c, u = .ref a ∧ GM P w ⟨base, outer, s, b, C, dx, fs⟩ (k + 1) nm Nn dg a g c s' | _ => False) s := by
  have KX : K.In s.heap := e0.mod.kin.keeps fun b o e => (e0.bs b o e).1
  have lim : s.heap.NoLimit := e0.mod.nolimit.keeps fun b o e => (e0.bs b o e).1
  have hnm : scope.names.lookup nm = some .local := F.loc nm (by simp)
  obtain ⟨Sp, pi⟩ := sep_of e0 hb
  refine codeAny_call_generator hr.depth (KX _ _ lk) rfl S.co S.gen rfl (PySem.W.codeRec_of KX hcd) (hbd _ _ _ _ ?_)
  refine wpAny_newFunctionEnv_cells S.kind (fun y hy => ?_) fun env hv s1 z => ?_
  · rw [List.mem_singleton.mp hy]
    exact .inl hnm
  · subst hv
    have lim1 : s1.heap.NoLimit := lim.keeps z.toInCall.keep
    refine ⟨lim1, ?_⟩
    obtain ⟨h1, tk, es1, hk1⟩ := z.done
    have os1 : s1.os = s.os := by rw [es1]
    have gen1 : s1.gens = s.gens := by rw [es1]
    have lt1 : s.heap.objs.size < s1.heap.objs.size := z.toInCall.ns.lt
    have go : ∀ (o : Obj) (q1 q2 : Value), o.cls = .type "generator" → o.data = .fields #[.int s1.gens.size 0, q1, q2] → o.slots = #[] → (s1.heap.push o).get? s1.heap.objs.size = some o → ∀ tk2 : Nat,
        GM P w ⟨base, outer, s, b, C, dx, fs⟩ (k + 1) nm Nn dg s1.heap.objs.size s1.gens.size (.func [.For (.Name x px) (.Call (.Name "range" p1) [.Attribute (.Name nm p2) fq p3] [] p4) [.Expr (.Yield (some e) yp) ep] [] p5] (envOfC qual scope s.heap.objs.size f cdv))
          { s1 with gens := s1.gens.push (.fresh (.func [.For (.Name x px) (.Call (.Name "range" p1) [.Attribute (.Name nm p2) fq p3] [] p4) [.Expr (.Yield (some e) yp) ep] [] p5] (envOfC qual scope s.heap.objs.size f cdv))), toks := tk2, heap := s1.heap.push o } := by
      intro o q1 q2 o1 o2 o3 o4 tk2
      refine ⟨lt1, ?_, ⟨o, q1, q2, o4, o1, o2, o3⟩, Array.getElem?_push_size .., os1, AllBare.push (by rw [gen1]; exact e0.bare) rfl, fun b o e => Heap.get?_push_of_some _ (z.toInCall.keep b o e), ?_, ?_⟩
      · show _ < (s1.heap.push _).objs.size
        rw [Heap.size_push]; exact Nat.lt_succ_self _
      · refine LocS.at (s := s1) ⟨_, z.toInCall.ns, ?_⟩ fun o e => Heap.get?_push_of_some _ e
        exact bindL_get (P := [nm]) (vs := [Value.ref b]) (i := 0) (by simp) rfl rfl hnm
      · intro Aw s2 hrw hfr r2 l2
        have e0w := env_ex e0 hb hfr
        have I1 : Inv (gcxOf P w K mg base [nm, x] qual scope f cdv Aw outer s (exH ⟨base, outer, s, b, C, dx, fs⟩ s.heap.objs.size s.heap) E0 []) [] (L2.start [nm, x] [.ref b]) (exH ⟨base, outer, s, b, C, dx, fs⟩ s.heap.objs.size s.heap) s1 :=
          inv_startG (ps := [nm]) (us := [.ref b]) (vs := [.ref b]) S hrw.hd e0w rfl (.cons rfl .nil) z
        have ok : (Gx P w K mg ⟨base, outer, s, b, C, dx, fs⟩ [nm, x] qual scope f cdv Aw).Ok :=
          ⟨I1.ok.mod, I1.ok.kind, I1.ok.glob, I1.ok.blt, I1.ok.above, I1.ok.inj, I1.ok.has, I1.ok.cab, I1.ok.hd, I1.ok.frames, I1.ok.stk, I1.ok.exf, I1.ok.bs, I1.ok.bsz, I1.ok.noex, I1.ok.exfs, I1.ok.funs, I1.ok.frf⟩
        exact gen_func hrw.hd ok Sp F S.kind S.co (by
            show (scope.kind == .module && _) = false
            rw [S.kind]
            rfl) (he ⟨base, outer, s, b, C, dx, fs⟩ Aw rfl rfl (hrw.deeper _)) (hg ⟨base, outer, s, b, C, dx, fs⟩ rfl rfl) hz hxn hN hq c na (hgl _ _) hmg hdb (hst _) (hab _) r2 l2
    exact ⟨_, _, _, rfl, go _ _ _ rfl rfl rfl (Heap.get?_push_size _ rfl) _⟩
end
end Fm
set_option Elab.async false
set_option linter.all false
set_option maxRecDepth 100000
set_option maxHeartbeats 4000000
/-! [.. for x in o.m() if ..] over such a generator, the consumer's side -/
namespace Fm
open PySem PySem.Spec PyProof.Rows L2 Evl GenW
theorem otherGens {X : Cx} {pins : List (Addr × Obj)} {σ : L2.St} {H : Hp} {s : Shared} {G : Array GenState} (I : Inv X pins σ H s) (hb : AllBare G) : Inv X pins σ H { s with gens := G } :=
  ⟨I.ok, I.os, hb, I.base, I.loc, I.cell, I.free, I.freeC, I.pin, I.hok, I.len⟩
/-- what runs in a context leaves a sleeper as it is -/
theorem stay {α : Type} {Z : Cx} {pins : List (Addr × Obj)} {M : Model} {A : Around} {t : Sem α} {Φ : α → L2.St → Hp → Prop} {E : Value → Shared → Prop} {s : Shared} {g : Nat} {gs : GenState} (hb : AllBare s.gens) (hg : s.gens[g]? = some gs) (hs : sleeps gs = true)
    (h : wpAny M A t (fun a s' => ∃ σ' H', Inv Z pins σ' H' s' ∧ Φ a σ' H') NoX { s with gens := deadAll s.gens }) :
    wpAny M A t (fun a s' => ∃ σ' H', Inv Z pins σ' H' s' ∧ Φ a σ' H' ∧ s'.gens[g]? = some gs) E s := by
  refine wpAny_mono (wpAny_kept h) (fun a s' hh => ?_) fun _ _ hh => ?_
  · obtain ⟨s1, ⟨σ', H', I', q⟩, k⟩ := hh
    refine ⟨σ', H', ?_, q, k.at_ g gs hg hs⟩
    rw [k.eq]
    exact otherGens I' (k.bare hb I'.bare)
  · obtain ⟨_, z, _⟩ := hh
    exact z.elim
section
variable {Z : Cx} {D : GD} {it q : Addr} {xs : List Int} {σ : L2.St} {H H2 : Hp} {s s' : Shared}
/-- the generator was awake for a while -/
theorem awake (I : Inv Z [] σ H s) (hst : Z.stack = D.outer) (hb : H D.b = some (.ins D.C D.dx D.fs)) (k : Keep D it s s') (hg : AllBare s'.gens) (hL : FpOk Z [] H D.L) (hi : FpOk Z [] H it)
    (h2 : ∀ b u, H b = some u → H2 b = some u) (h3 : ∀ b o, s.heap.get? b = some o → H b = none → H2 b = none) (hok : HOk Z.prog Z.w H2 s'.heap) : Inv Z [] σ H2 s' := by
  obtain ⟨d1, _⟩ := (show ObjOk Z.prog Z.w H s.heap D.b (.ins D.C D.dx D.fs) from I.hok _ _ hb)
  have nx : ∀ b, H b = none → b ≠ D.dx := fun b hn z => by rw [z, d1] at hn; cases hn
  refine I.call' (ch := [D.L, it]) k.os ⟨fun b o e n hf hc => ?_, fun b o e n hf hc => ?_, fun b o e n _ => h3 b o e n, fun b o e hc => ?_, fun b ys e => h2 b _ e, fun b o u e => h2 b _ e, fun b ps e => ⟨#[], by rw [h2 b _ e]; simp⟩⟩ hok hg fun b hbm => ?_
  · simp only [List.mem_cons, List.mem_singleton, not_or, List.not_mem_nil, or_false] at hc
    exact k.keep b o e hc.1 hc.2 (nx b n) (by rw [← hst]; exact hf)
  · simp only [List.mem_cons, List.mem_singleton, not_or, List.not_mem_nil, or_false] at hc
    exact k.slot b o e hc.1 hc.2 (nx b n)
  · simp only [List.mem_cons, List.mem_singleton, not_or, List.not_mem_nil, or_false] at hc
    exact k.there b o e fun y => absurd y hc.2
  · have one : ∀ c, FpOk Z [] H c → b = c → (b ∈ Z.ex ∨ Z.s_0.heap.objs.size ≤ b) ∧ b ≠ Z.env.locals ∧ (∀ x c, Z.env.cells.lookup x = some c → c ≠ b) ∧ ∀ p ∈ Z.pn ++ [], p.1 ≠ b := fun c hc e => by
      rw [e]
      exact ⟨hc.2.2.2.1, hc.2.1, hc.2.2.2.2.1, hc.2.2.2.2.2⟩
    rcases List.mem_cons.mp hbm with e | e
    · exact one _ hL e
    · exact one _ hi (List.mem_singleton.mp e)
theorem awake_hok (I : Inv Z [] σ H s) (hst : Z.stack = D.outer) (hb : H D.b = some (.ins D.C D.dx D.fs)) (k : Keep D it s s') (p : PInst D s'.heap) (hL : H D.L = none) (hi : H it = none) : HOk Z.prog Z.w H s'.heap := fun a u e => by
  obtain ⟨d1, d2, d3, _⟩ := (show ObjOk Z.prog Z.w H s.heap D.b (.ins D.C D.dx D.fs) from I.hok _ _ hb)
  have nf : ∀ c v, H c = some v → c ∉ frs D.outer := fun c v ec hf => by
    have := I.stkSub c (by rw [hst]; exact hf)
    rcases List.mem_cons.mp this with z | z
    · rw [z, I.free] at ec; cases ec
    · obtain ⟨_, o, ho, _⟩ := I.ok.funs.mem z
      by_cases hx : c ∈ Z.ex
      · exact I.ok.exfs c hx z
      · have := I.base.free c o ho (I.ok.frf c z) hx
        rw [this] at ec; cases ec
  by_cases hab : a = D.b
  · subst hab
    rw [hb] at e
    cases e
    exact ⟨d1, d2, d3, p.obj, p.ns⟩
  · by_cases hax : a = D.dx
    · subst hax
      rw [d1] at e
      cases e
      obtain ⟨mA, ⟨o, _, _, e1, _⟩, _⟩ := p.ns
      exact ⟨o, e1⟩
    · refine (I.hok a u e).stay (fun c v hc ec => ?_) (fun _ z => z) fun _ _ z => z
      have ht : ∃ v, H c = some v := by
        rcases hc with z | z
        · rw [z]; exact ⟨u, e⟩
        · exact ⟨_, z⟩
      obtain ⟨v', ev⟩ := ht
      refine k.keep c v ec (fun z => ?_) (fun z => ?_) (fun z => ?_) (nf c v' ev)
      · rw [z, hL] at ev; cases ev
      · rw [z, hi] at ev; cases ev
      · rcases hc with y | y
        · exact hax (y.symm.trans z)
        · rw [z, d1] at y
          cases y
          exact hab rfl
theorem woke (I : Inv Z [] σ H s) (hst : Z.stack = D.outer) (hb : H D.b = some (.ins D.C D.dx D.fs)) (k : Keep D it s s') (hg : AllBare s'.gens) (p : PInst D s'.heap) (hL : FpOk Z [] H D.L) (hi : FpOk Z [] H it) (hq : s.heap.get? q = none) (tq : TupI s'.heap q xs) :
    H q = none ∧ Inv Z [] σ (upd H q (.tup (xs.map V.int))) s' := by
  have hqn : H q = none := I.hok.gone hq
  refine ⟨hqn, awake I hst hb k hg hL hi (fun b u e => ?_) (fun b o e n => ?_) fun a u e => ?_⟩
  · rw [upd_ne (ne_of_none e hqn)]; exact e
  · rw [upd_ne (fun z => by rw [z, hq] at e; cases e)]; exact n
  · by_cases ha : a = q
    · subst ha
      rw [upd_same] at e
      cases e
      obtain ⟨z, its, rv, tp⟩ := tq
      exact ⟨by rw [List.length_map]; exact z, its, rv, tp⟩
    · rw [upd_ne ha] at e
      exact (awake_hok I hst hb k p hL.1 hi.1 a u e).stay (fun _ _ _ z => z) (fun c z => by rw [upd_ne (ne_of_none z hqn)]; exact z) fun c ys z => by rw [upd_ne (ne_of_none z hqn)]; exact z
theorem ended (I : Inv Z [] σ H s) (hst : Z.stack = D.outer) (hb : H D.b = some (.ins D.C D.dx D.fs)) (k : Keep D it s s') (hg : AllBare s'.gens) (p : PInst D s'.heap) (hL : FpOk Z [] H D.L) (hi : FpOk Z [] H it) : Inv Z [] σ H s' :=
  awake I hst hb k hg hL hi (fun _ _ e => e) (fun _ _ _ n => n) (awake_hok I hst hb k p hL.1 hi.1)
end
end Fm
set_option Elab.async false
set_option linter.all false
set_option maxRecDepth 100000
set_option maxHeartbeats 4000000
/-! [.. for x in o.m() if ..] over such a generator: the rule -/
namespace Fm
open PySem PySem.Spec PyProof.Rows L2 Evl GenW
/-- the turns: the i-th row, a new tuple -/
def ItG (b C dx : Addr) (fs : List (Str × V)) (Nn : Nat) (dg : Nat → List Int) : It :=
  ⟨fun i H => i < Nn ∧ H b = some (.ins C dx fs), fun i H x H' => ∃ q, x = .ref q ∧ H q = none ∧ H' = upd H q (.tup ((dg i).map V.int)), fun i H => i = Nn ∧ H b = some (.ins C dx fs)⟩
theorem rdy_of {Z : Cx} {D : GD} {pins : List (Addr × Obj)} {σ : L2.St} {H : Hp} {s : Shared} (I : Inv Z pins σ H s) (hB : Z.base = D.base) (hfs : Z.outer = D.outer) (kp : ∀ b o, D.sc.heap.get? b = some o → Z.s_0.heap.get? b = some o ∧ b ∉ Z.ex) (os : Z.s_0.os = D.sc.os)
    (hb : H D.b = some (.ins D.C D.dx D.fs)) : Rdy D s := by
  obtain ⟨d1, d2, d3, d4, d5⟩ := (show ObjOk Z.prog Z.w H s.heap D.b (.ins D.C D.dx D.fs) from I.hok _ _ hb)
  refine ⟨I.os.trans os, I.bare, fun a o e => I.bk a o (by rw [hB]; exact e), fun a o ha e => ?_, fun a o e => I.base.there a o (kp a o e).1 (kp a o e).2, ⟨d4, d2, d5⟩⟩
  have hz : a ∈ Z.fs := by show a ∈ frs Z.outer; rw [hfs]; exact ha
  exact I.base.slot a o (kp a o e).1 (I.ok.frf a hz) hz (kp a o e).2
/-- the generator ahead of its i-th item -/
structure GSt (Z : Cx) (D : GD) (nm : Str) (Nn : Nat) (dg : Nat → List Int) (a g : Nat) (c : Code) (i : Nat) (H : Hp) (s : Shared) : Prop where
  gen : s.heap.IsGen a g
  loc : LocS D nm s
  fa : FpOk Z [] H a
  fL : FpOk Z [] H D.L
  st : (i = 0 ∧ s.gens[g]? = some (.fresh c)) ∨ ∃ it gs, 0 < i ∧ s.gens[g]? = some gs ∧ sleeps gs = true ∧ FpOk Z [] H it ∧ IsRangeIter s.heap it ((i : Nat) : Int) ((Nn - i : Nat) : Int) 1 ∧
    ∀ s2, Rdy D s2 → (∀ o, s.heap.get? D.L = some o → s2.heap.get? D.L = some o) → (∀ o, s.heap.get? it = some o → s2.heap.get? it = some o) → gs.Goes (model Z.prog Z.w) Z.A.in1 (RE D it) (YE D nm it Nn dg) (Nn - i) (.send .none) s2
section
variable {Z : Cx} {D : GD} {nm : Str} {Nn : Nat} {dg : Nat → List Int} {a g k : Nat} {c : Code} {i : Nat} {σ : L2.St} {H : Hp} {s s0 : Shared}
/-- where it stands, whether it has begun or not -/
theorem at_wake (I : Inv Z [] σ H s) (hr : Room (k + 1) Z.A) (hfr : Z.A.frames = some D.outer) (gm : GM Z.prog Z.w D k nm Nn dg a g c s0) (r : Rdy D s) (t : GSt Z D nm Nn dg a g c i H s) :
    ∃ it gs, s.gens[g]? = some gs ∧ FpOk Z [] H it ∧ it ≠ a ∧ gs.Goes (model Z.prog Z.w) Z.A.in1 (RE D it) (YE D nm it Nn dg) (Nn - i) (.send .none) (s.setGen g .running) := by
  have r' : Rdy D (s.setGen g .running) := ⟨r.os, allBare_setGen r.bare rfl, r.base, r.slot, r.there, r.inst⟩
  obtain ⟨o, q1, q2, ho, hcl, _⟩ := id t.gen
  rcases t.st with ⟨rfl, e⟩ | ⟨it, gs, _, e, _, fi, st, go⟩
  · refine ⟨s.heap.objs.size + 1, .fresh c, e, I.fpOk (Nat.le_succ _) (I.hok.fresh (Nat.le_succ _)), fun z => ?_, rfl, gm.wake Z.A.in1 (s.setGen g .running) hr.in1 hfr r' t.loc⟩
    have := Heap.lt_size ho
    rw [← z] at this
    exact Nat.not_succ_lt_self this
  · refine ⟨it, gs, e, fi, fun z => ?_, go _ r' (fun _ z => z) fun _ z => z⟩
    rw [z] at st
    rw [show s.heap.get? a = some _ from st] at ho
    cases ho
    injection hcl with h
    exact absurd h (by decide)
theorem wakeG (I : Inv Z [] σ H s) (hst : Z.stack = D.outer) (hou : Z.outer = D.outer) (hr : Room (k + 1) Z.A) (gm : GM Z.prog Z.w D k nm Nn dg a g c s0) (r : Rdy D s) (hb : H D.b = some (.ins D.C D.dx D.fs)) (t : GSt Z D nm Nn dg a g c i H s) (hi : i < Nn) {E : Value → Shared → Prop} :
    wpAny (model Z.prog Z.w) Z.A (pyNext (.ref a)) (fun x s' => ∃ q, x = some (.ref q) ∧ H q = none ∧ Inv Z [] σ (upd H q (.tup ((dg i).map V.int))) s' ∧ GSt Z D nm Nn dg a g c (i + 1) (upd H q (.tup ((dg i).map V.int))) s') E s := by
  have hfr : Z.A.frames = some D.outer := by rw [I.ok.frames, hst]
  obtain ⟨it, gs, hgs, fi, hne, hgo⟩ := at_wake I hr hfr gm r t
  obtain ⟨m, hm⟩ : ∃ m, Nn - i = m + 1 := ⟨Nn - i - 1, by omega⟩
  rw [hm] at hgo
  have hlt : g < s.gens.size := (Array.getElem?_eq_some_iff.mp hgs).1
  obtain ⟨d1, _⟩ := (show ObjOk Z.prog Z.w H s.heap D.b (.ins D.C D.dx D.fs) from I.hok _ _ hb)
  refine wpAny_gsz (n := g + 1) hlt (next_genG (F := fun n s₀ s1 => n = 0 ∧ Keep D it s₀ s1 ∧ Rdy D s1) (Er := fun _ _ => False) hr.hd I.nolimit hr.depth t.gen hgs hgo (fun v s1 gs' hbare hv => ?_) (fun s1 hF => ?_) fun e s1 z => z.elim)
  · intro hsz
    obtain ⟨k1, r1, ⟨q, rfl, hq, tq⟩, l1, st1, kap⟩ := hv
    have ei : Nn - 1 - (m + 1 - 1) = i := by omega
    rw [ei] at tq st1
    have k2 : Keep D it s (s1.setGen g gs') := ⟨k1.os, k1.keep, k1.slot, k1.there⟩
    obtain ⟨hqn, I7⟩ := woke (s' := s1.setGen g gs') I hst hb k2 (allBare_setGen r1.bare hbare) r1.inst t.fL fi hq tq
    have hsz1 : g < s1.gens.size := by
      have z : (s1.setGen g gs').gens.size = s1.gens.size := setGen_size _ _ _
      have z2 : g + 1 ≤ (s1.setGen g gs').gens.size := hsz
      omega
    obtain ⟨o, q1, q2, ho, hgr⟩ := id t.gen
    have nd : ∀ b, H b = none → b ≠ D.dx := fun b hn z => by rw [z, d1] at hn; cases hn
    have qne : ∀ b, FpOk Z [] H b → b ≠ q → FpOk Z [] (upd H q (.tup ((dg i).map V.int))) b := fun b hf hbq => ⟨by rw [upd_ne hbq]; exact hf.1, hf.2⟩
    have ex : ∀ b o, s.heap.get? b = some o → b ≠ q := fun b o e z => by rw [z] at e; rw [show s.heap.get? q = none from hq] at e; cases e
    refine ⟨q, rfl, hqn, I7, ⟨o, q1, q2, ?_, hgr⟩, l1, qne a t.fa (ex a o ho), qne D.L t.fL ?_, .inr ⟨it, gs', by omega, setGen_at hsz1, ?_, qne it fi ?_, ?_, fun s2 r2 e1 e2 => ?_⟩⟩
    · refine k1.keep a o ho (Nat.ne_of_gt gm.a1) hne.symm (nd a t.fa.1) ?_
      have := t.fa.2.2.1
      rw [show Z.fs = frs D.outer by show frs Z.outer = _; rw [hou]] at this
      exact this
    · obtain ⟨_, ⟨o2, _, _, e2, _⟩, _⟩ := t.loc
      exact ex _ _ e2
    · have z := (kap s1 r1 (fun _ z => z) fun _ z => z).2
      cases gs' with
      | suspended => rfl
      | fresh c2 =>
        obtain ⟨z1, _⟩ := (show Resume.send (Value.bool true) = Resume.send .none ∧ _ from z)
        cases z1
      | running => exact z.elim
      | finished => exact z.elim
    · intro z
      obtain ⟨_, its, _, o2, e2, c2, _⟩ := tq
      rw [← z, show s1.heap.get? it = some _ from st1] at e2
      cases e2
      injection c2 with h
      exact absurd h (by decide)
    · rw [show Nn - (i + 1) = m + 1 - 1 by omega]
      exact st1
    · have z := (kap s2 r2 e1 e2).1
      rw [show Nn - (i + 1) = m by omega]
      exact z
  · exact absurd hF.1 (Nat.succ_ne_zero m)
theorem wakeE (I : Inv Z [] σ H s) (hst : Z.stack = D.outer) (hr : Room (k + 1) Z.A) (gm : GM Z.prog Z.w D k nm Nn dg a g c s0) (r : Rdy D s) (hb : H D.b = some (.ins D.C D.dx D.fs)) (t : GSt Z D nm Nn dg a g c Nn H s) {E : Value → Shared → Prop} :
    wpAny (model Z.prog Z.w) Z.A (pyNext (.ref a)) (fun x s' => x = none ∧ Inv Z [] σ H s') E s := by
  have hfr : Z.A.frames = some D.outer := by rw [I.ok.frames, hst]
  obtain ⟨it, gs, hgs, fi, hne, hgo⟩ := at_wake I hr hfr gm r t
  rw [Nat.sub_self] at hgo
  refine next_genG (F := fun n s₀ s1 => n = 0 ∧ Keep D it s₀ s1 ∧ Rdy D s1) (Er := fun _ _ => False) hr.hd I.nolimit hr.depth t.gen hgs hgo (fun v s1 gs' hbare hv => ?_) (fun s1 hF h' hk => ?_) fun e s1 z => z.elim
  · obtain ⟨_, r1, _, _, _, kap⟩ := hv
    exact (kap s1 r1 (fun _ z => z) fun _ z => z).1.elim
  · obtain ⟨_, k1, r1⟩ := hF
    have k2 : Keep D it s { s1.setGen g .finished with heap := h' } := Keep.trans (s1 := s1) ⟨k1.os, k1.keep, k1.slot, k1.there⟩ (Keep.of rfl hk)
    have p2 : PInst D h' := r1.inst.at fun b o _ q => hk b o q
    exact ⟨rfl, ended I hst hb k2 (allBare_setGen r1.bare rfl) p2 t.fL fi⟩
end
end Fm
set_option Elab.async false
set_option linter.all false
set_option maxRecDepth 100000
set_option maxHeartbeats 4000000
namespace Fm
open PySem PySem.Spec PyProof.Rows L2 Evl GenW
/-- an expression that gives such a generator, which has not begun -/
def GenV (X : Cx) (k : Nat) (pins : List (Addr × Obj)) (σ : L2.St) (R : It → Hp → Prop) (u : Value) (s2 : Shared) : Prop :=
  ∃ nm Nn dg sc H1 b C dx fs a g c, Inv X pins σ H1 sc ∧ H1 b = some (.ins C dx fs) ∧ u = .ref a ∧ GM X.prog X.w ⟨X.base, X.stack, sc, b, C, dx, fs⟩ k nm Nn dg a g c s2 ∧ 0 < Nn ∧ R (ItG b C dx fs Nn dg) H1
structure PGe (X : Cx) (k : Nat) (iter : Expr) (wi : TI) : Prop where
  run : ∀ (pins : List (Addr × Obj)) (s : Shared) (σ : L2.St) (H : Hp) (R : It → Hp → Prop), Inv X pins σ H s → wi σ H R → wpAny (model X.prog X.w) X.A (eval iter X.env) (GenV X k pins σ R) X.xe s
section
variable {X : Cx} {k : Nat} {elt iter : Expr} {x : Str} {px : Pos} {ifs : List Expr} {scope : Scope} {own : List (Str × Nat)} {pos : Pos} {wi : TI} {g : TG} {tt : TT} {te : TE}
theorem pe_lcG (hc : X.calm = true) (hN : X.N.Nodup) (hr : Room (k + 1) X.A) (hi : PGe X k iter wi) (ok : BlkOk X.N X.env.scope scope own)
    (hg : ∀ (s : Shared) (H : Hp) (C : Addr) (cl : List (Str × Addr)) (fp : List Addr), PG (X.blk s H scope (compEnvC scope cl C X.env) fp) (.Name x px) g)
    (ht : ∀ (s : Shared) (H : Hp) (C : Addr) (cl : List (Str × Addr)) (fp : List Addr), PTs (X.blk s H scope (compEnvC scope cl C X.env) fp) ifs tt)
    (he : ∀ (s : Shared) (H : Hp) (C : Addr) (cl : List (Str × Addr)) (fp : List Addr), PE (X.blk s H scope (compEnvC scope cl C X.env) fp) elt te) (hs : ∀ y, foldedSetIterable iter X.env y = pure y := by intro _; rfl) :
    PE X (.ListComp elt [⟨.Name x px, iter, ifs, 0⟩] scope pos) (tLc wi g tt te (own.map (·.2))) := by
  refine ⟨fun pins s σ H Q I h => ?_⟩
  rw [eval_ListComp]
  have outF : ∀ y ∈ scope.names, y.2 = .free → ∃ c, X.env.cells.lookup y.1 = some c := fun y hy e => (ok.free y hy e).elim (fun z => I.ok.has _ (.inl z)) fun z => I.ok.has _ (.inr z)
  refine wpAny_comprehension_free rfl hs (closure_ok outF) ok.kind (fun y hy e => (ok.uniq y hy).trans (congrArg some e)) (thn (hi.run pins s σ H _ I h) fun u s2 h2 => ?_)
  obtain ⟨nm, Nn, dg, sc, H1, b, C, dx, fs, a, gn, c, Ic, hb, rfl, gm, hpos, q⟩ := h2
  refine wpAny_pyIter_gen gm.gen (wpAny_newObj_type (newEnv_comp ?_) (Nat.zero_le _))
  -- the state behind the call
  have I2 : Inv X pins σ H1 s2 := Ic.call' (ch := []) gm.os (Un.kept gm.keep) (Ic.hok.kept gm.keep) gm.bare fun b z => by cases z
  have scs2 : sc.heap.objs.size < s2.heap.objs.size := by
    obtain ⟨_, hn, _⟩ := gm.loc
    exact hn.lt
  -- the new list at Dl
  generalize hDl : s2.heap.objs.size = Dl
  have fD : H1 Dl = none := I2.hok.fresh (Nat.le_of_eq hDl)
  obtain ⟨W, ⟨m0, w0⟩, turn⟩ := q Dl fD
  generalize hs3 : ({ s2 with heap := s2.heap.push { cls := .type "list", data := .seq ([] : List Value).toArray } } : Shared) = s3
  have up3 : ∀ b o, s2.heap.get? b = some o → s3.heap.get? b = some o := fun b o e => by rw [← hs3]; exact Heap.get?_push_of_some _ e
  have sz3 : s3.heap.objs.size = Dl + 1 := by rw [← hs3, ← hDl]; exact Heap.size_push ..
  have I3 : Inv X pins σ (upd H1 Dl (.lst [])) s3 := by
    subst hs3
    exact I2.laid (t' := s2.toks) (fun b o e => Heap.get?_push_of_some _ e) (Nat.le_of_eq hDl) ⟨Nat.zero_le _, [], 0, .nil, hDl ▸ Heap.get?_push_size _ rfl⟩
  generalize hH3 : upd H1 Dl (.lst []) = H3 at I3 w0
  -- all that the call has laid, but for the list
  generalize hfp : (List.range s3.heap.objs.size).filter (fun b => decide (sc.heap.objs.size ≤ b ∧ b ≠ Dl)) = fp
  have mem : ∀ b, b ∈ fp ↔ b < s3.heap.objs.size ∧ sc.heap.objs.size ≤ b ∧ b ≠ Dl := fun b => by
    rw [← hfp, List.mem_filter, List.mem_range, decide_eq_true_iff]
  have none3 : ∀ b, sc.heap.objs.size ≤ b → b ≠ Dl → H3 b = none := fun b h1 h2 => by rw [← hH3, upd_ne h2]; exact Ic.hok.fresh h1
  have f3 : ∀ b ∈ fp, FpOk X pins H3 b ∧ b < s3.heap.objs.size := fun b hm => by
    obtain ⟨h1, h2, h4⟩ := (mem b).mp hm
    exact ⟨Ic.fpOk h2 (none3 b h2 h4), h1⟩
  have I4 := block_start I3 ok hN f3
  have pg := hg s3 H3 s3.heap.objs.size (cellsFrom (s3.heap.objs.size + 1) scope.names (cloFrom X.env.cells scope.names [])) fp
  have pt := ht s3 H3 s3.heap.objs.size (cellsFrom (s3.heap.objs.size + 1) scope.names (cloFrom X.env.cells scope.names [])) fp
  have pe := he s3 H3 s3.heap.objs.size (cellsFrom (s3.heap.objs.size + 1) scope.names (cloFrom X.env.cells scope.names [])) fp
  change codeAny _ _ (Code.compStart _ 0 (.ref a) (.ref Dl) (compEnvC scope (cellsFrom (s3.heap.objs.size + 1) scope.names (cloFrom X.env.cells scope.names [])) s3.heap.objs.size X.env)) (compPost _ _ _ _ _ (.ref Dl) s3.heap.objs.size) ({ s3 with heap := pushCells (s3.heap.push { cls := .type "dict", data := .dict #[] }) scope.names } : Shared)
  have ceL : (compEnvC scope (cellsFrom (s3.heap.objs.size + 1) scope.names (cloFrom X.env.cells scope.names [])) s3.heap.objs.size X.env).locals = s3.heap.objs.size := rfl
  generalize compEnvC scope (cellsFrom (s3.heap.objs.size + 1) scope.names (cloFrom X.env.cells scope.names [])) s3.heap.objs.size X.env = ce at I4 pg pt pe ceL ⊢
  have up4 : ∀ b o, s3.heap.get? b = some o → ({ s3 with heap := pushCells (s3.heap.push { cls := .type "dict", data := .dict #[] }) scope.names } : Shared).heap.get? b = some o := fun b o e => pushCells_keeps _ _ _ _ (Heap.get?_push_of_some _ e)
  have gens4 : ({ s3 with heap := pushCells (s3.heap.push { cls := .type "dict", data := .dict #[] }) scope.names } : Shared).gens = s2.gens := by rw [← hs3]
  generalize ({ s3 with heap := pushCells (s3.heap.push { cls := .type "dict", data := .dict #[] }) scope.names } : Shared) = s4 at I4 up4 gens4 ⊢
  have fpZ : ∀ {σ' : L2.St} {H' : Hp} {s' : Shared}, Inv (X.blk s3 H3 scope ce fp) [] σ' H' s' → ∀ b ∈ fp, H' b = none → FpOk (X.blk s3 H3 scope ce fp) [] H' b := fun {σ' H' s'} I' b hm hn =>
    ⟨hn, (I'.ok.exf b hm).1, I'.ok.exfs b hm, .inl hm, fun y c e => (I'.ok.exf b hm).2 y c e, fun p hp => absurd (show p ∈ ([] : List (Addr × Obj)) from hp) (by simp)⟩
  have a2 : a < Dl := by rw [← hDl]; exact gm.a2
  have a1 : sc.heap.objs.size < a := gm.a1
  have memA : a ∈ fp := (mem a).mpr ⟨by rw [sz3]; exact Nat.lt_succ_of_lt a2, Nat.le_of_lt a1, Nat.ne_of_lt a2⟩
  have memL : sc.heap.objs.size ∈ fp := (mem _).mpr ⟨by rw [sz3]; exact Nat.lt_succ_of_lt (Nat.lt_trans a1 a2), Nat.le_refl _, Nat.ne_of_lt (Nat.lt_trans a1 a2)⟩
  have rd : ∀ {pn : List (Addr × Obj)} {σ' : L2.St} {H' : Hp} {s' : Shared}, Inv (X.blk s3 H3 scope ce fp) pn σ' H' s' → H' b = some (.ins C dx fs) → Rdy ⟨X.base, X.stack, sc, b, C, dx, fs⟩ s' := fun {pn σ' H' s'} I' hb' =>
    rdy_of (D := ⟨X.base, X.stack, sc, b, C, dx, fs⟩) I' rfl rfl (fun d o e => ⟨up3 d o (gm.keep d o e), fun z => absurd (Nat.lt_of_lt_of_le (Heap.lt_size e) ((mem d).mp z).2.1) (Nat.lt_irrefl _)⟩) (by show s3.os = sc.os; rw [← hs3]; exact gm.os) hb'
  have t4 : GSt (X.blk s3 H3 scope ce fp) ⟨X.base, X.stack, sc, b, C, dx, fs⟩ nm Nn dg a gn c 0 H3 s4 := by
    obtain ⟨o, q1, q2, ho, hgr⟩ := gm.gen
    refine ⟨⟨o, q1, q2, up4 _ _ (up3 _ _ ho), hgr⟩, gm.loc.at fun o e => up4 _ _ (up3 _ _ e), fpZ I4 a memA (none3 a (Nat.le_of_lt a1) (Nat.ne_of_lt a2)), fpZ I4 _ memL (none3 _ (Nat.le_refl _) (Nat.ne_of_lt (Nat.lt_trans a1 a2))), .inl ⟨rfl, ?_⟩⟩
    rw [gens4]
    exact gm.st
  have loop : codeAny (model X.prog X.w) X.A (.compLoop (.ListComp elt [⟨.Name x px, iter, ifs, 0⟩] scope pos) 0 (.ref a) (.ref Dl) ce) (compPost (model X.prog X.w) X.A X.xe none (EP X pins σ Q) (.ref Dl) s3.heap.objs.size) s4 := by
    refine compLoop_any (fun n s' => ∃ i H', Inv (X.blk s3 H3 scope ce fp) [] (wipe σ (own.map (·.2))) H' s' ∧ GSt (X.blk s3 H3 scope ce fp) ⟨X.base, X.stack, sc, b, C, dx, fs⟩ nm Nn dg a gn c i H' s' ∧ W i n H') ?_ m0 ⟨0, H3, I4, t4, w0⟩
    rintro n s5 ⟨i, H5, I5, t5, w5⟩
    rcases turn i n H5 w5 with ⟨⟨rfl, hb5⟩, qq⟩ | ⟨⟨hlt, hb5⟩, Nx, hNx, step⟩
    · -- all is handed out
      refine thnF (wakeE I5 rfl hr gm (rd I5 hb5) hb5 t5) fun r s6 ⟨hr6, I6⟩ => ?_
      subst hr6
      have I7 : Inv X pins σ H5 s6 := I3.call' (ch := fp) I6.os I6.base I6.hok I6.bare fun d hm => by
        obtain ⟨_, e1, _, e3, e4, e5⟩ := (f3 d hm).1
        exact ⟨e3, e1, e4, e5⟩
      have nC : H5 s3.heap.objs.size = none := by rw [← ceL]; exact I6.free
      obtain ⟨m, hm, _⟩ := I6.loc
      have hm2 : s6.heap.Ns s3.heap.objs.size m := by rw [← ceL]; exact hm
      obtain ⟨z0, z1, z2, z3, z4, z5⟩ := I3.fpOk (Nat.le_refl s3.heap.objs.size) nC
      exact ⟨m, hm2, fun h'' sb => ⟨.ref Dl, H5, I7.turned (t' := s6.toks) (fun d o hd e => (sb.2 d hd).trans e) z0 z1 z3 z4 z5, rfl, qq⟩⟩
    · refine thnF (wakeG I5 rfl rfl hr gm (rd I5 hb5) hb5 t5 hlt) fun r s6 ⟨qa, hr6, hq6, I6, t6⟩ => ?_
      subst hr6
      obtain ⟨it, gs, _, g6, sl6, fi6, st6, go6⟩ : ∃ it gs, 0 < i + 1 ∧ s6.gens[gn]? = some gs ∧ sleeps gs = true ∧ FpOk (X.blk s3 H3 scope ce fp) [] (upd H5 qa (.tup ((dg i).map V.int))) it ∧ IsRangeIter s6.heap it ((i + 1 : Nat) : Int) ((Nn - (i + 1) : Nat) : Int) 1 ∧
          ∀ s2, Rdy ⟨X.base, X.stack, sc, b, C, dx, fs⟩ s2 → (∀ o, s6.heap.get? sc.heap.objs.size = some o → s2.heap.get? sc.heap.objs.size = some o) → (∀ o, s6.heap.get? it = some o → s2.heap.get? it = some o) →
            gs.Goes (model X.prog X.w) X.A.in1 (RE ⟨X.base, X.stack, sc, b, C, dx, fs⟩ it) (YE ⟨X.base, X.stack, sc, b, C, dx, fs⟩ nm it Nn dg) (Nn - (i + 1)) (.send .none) s2 := by
        rcases t6.st with ⟨z, _⟩ | z
        · cases z
        · exact z
      refine wpAny_pure ?_
      obtain ⟨ga, ga1, ga2, hga, gac, gad, gas⟩ := id t6.gen
      obtain ⟨lm, ⟨lo, les, lep, hlo, lod, lor⟩, lm0⟩ := id t6.loc
      -- what must stay while the consumer works
      have I6p : Inv (X.blk s3 H3 scope ce fp) ([] ++ pinsAt [a, sc.heap.objs.size, it] s6.heap) (wipe σ (own.map (·.2))) (upd H5 qa (.tup ((dg i).map V.int))) s6 := by
        refine I6.pinned (fun d hd => ?_) fun d hd => ?_
        · simp only [List.mem_cons, List.not_mem_nil, or_false] at hd
          rcases hd with rfl | rfl | rfl
          · exact t6.fa
          · exact t6.fL
          · exact fi6
        · simp only [List.mem_cons, List.not_mem_nil, or_false] at hd
          rcases hd with rfl | rfl | rfl
          · exact ⟨ga, hga, fun v z => by rw [gad] at z; cases z⟩
          · exact ⟨lo, hlo, fun v z => by rw [lod] at z; cases z⟩
          · exact ⟨_, st6, fun v z => by cases (show Data.fields _ = Data.cell v from z)⟩
      generalize hpn : ([] ++ pinsAt [a, sc.heap.objs.size, it] s6.heap : List (Addr × Obj)) = pn at I6p
      have pinned : ∀ {σ' : L2.St} {H' : Hp} {s' : Shared}, Inv (X.blk s3 H3 scope ce fp) pn σ' H' s' → ∀ d o, d ∈ [a, sc.heap.objs.size, it] → s6.heap.get? d = some o → s'.heap.get? d = some o ∧ H' d = none := fun {σ' H' s'} I' d o hd e => by
        have z := I'.pin (d, o) (List.mem_append_right _ (by rw [← hpn]; exact List.mem_append_right _ (mem_pinsAt hd e)))
        exact ⟨z.1, z.2.1⟩
      -- the turn's end
      have fin : ∀ {σ' : L2.St} {H' : Hp} {s' : Shared}, Inv (X.blk s3 H3 scope ce fp) pn σ' H' s' → s'.gens[gn]? = some gs → wipe σ' (own.map (·.2)) = wipe σ (own.map (·.2)) → Nx H' →
          ∃ m, m < n ∧ ∃ i H', Inv (X.blk s3 H3 scope ce fp) [] (wipe σ (own.map (·.2))) H' s' ∧ GSt (X.blk s3 H3 scope ce fp) ⟨X.base, X.stack, sc, b, C, dx, fs⟩ nm Nn dg a gn c i H' s' ∧ W i m H' := fun {σ' H' s'} I' g' hw nx => by
        obtain ⟨m', hm, w'⟩ := hNx H' nx
        have pA := pinned I' a ga (by simp) hga
        have pL := pinned I' sc.heap.objs.size lo (by simp) hlo
        have pI := pinned I' it _ (by simp) st6
        refine ⟨m', hm, i + 1, H', (I'.pins_of (pins' := []) fun p hp => absurd hp (by simp)).weak (by rw [← hw, wipe_length]) (fun j v e => ?_), ⟨⟨ga, ga1, ga2, pA.1, gac, gad, gas⟩, ⟨lm, ⟨lo, les, lep, pL.1, lod, lor⟩, lm0⟩, ⟨pA.2, t6.fa.2⟩, ⟨pL.2, t6.fL.2⟩,
          .inr ⟨it, gs, Nat.succ_pos i, g', sl6, ⟨pI.2, fi6.2⟩, pI.1, fun s2 r2 e1 e2 => ?_⟩⟩, w'⟩
        · rw [← hw] at e
          exact (wipe_some e).1
        · refine go6 s2 r2 (fun o e => e1 o ?_) fun o e => e2 o ?_
          · rw [hlo] at e; cases e; exact pL.1
          · rw [show s6.heap.get? it = some _ from st6] at e; cases e; exact pI.1
      have dead : ∀ {σ' : L2.St} {H' : Hp} {s' : Shared}, Inv (X.blk s3 H3 scope ce fp) pn σ' H' s' → Inv (X.blk s3 H3 scope ce fp) pn σ' H' { s' with gens := deadAll s'.gens } := fun {σ' H' s'} I' => otherGens I' (bare_dead I'.bare)
      refine thnF (stay I6p.bare g6 sl6 (pg.run pn _ _ _ (.ref qa) (.ref qa) _ (dead I6p) rfl (step (.ref qa) _ ⟨qa, rfl, hq6, rfl⟩))) fun _ s8 ⟨σ8, H8, I8, ⟨hw8, q8⟩, g8⟩ => ?_
      refine thnF (stay (Φ := fun bb σ' H' => σ' = σ8 ∧ (if bb = true then te σ8 H' fun y H4 => ∃ acc, H4 Dl = some (.lst acc) ∧ acc.length < sizeLine ∧ Nx (upd H4 Dl (.lst (acc ++ [y]))) else Nx H')) I8.bare g8 sl6 (wpAny_mono (pt.run pn _ σ8 H8 _ (dead I8) q8) (fun bb s9 ⟨H9, I9, q9⟩ => ⟨σ8, H9, I9, rfl, q9⟩) fun _ _ z => z)) fun bb s9 ⟨σ9, H9, I9, ⟨e9, q9⟩, g9⟩ => ?_
      subst e9
      cases bb with
      | false =>
        simp only [Bool.false_eq_true, if_false] at q9 ⊢
        exact fin I9 g9 hw8 q9
      | true =>
        simp only [if_true] at q9 ⊢
        refine thnF (stay (Φ := fun z σ' H' => σ' = σ9 ∧ ∃ y, RelV y z ∧ ∃ acc, H' Dl = some (.lst acc) ∧ acc.length < sizeLine ∧ Nx (upd H' Dl (.lst (acc ++ [y])))) I9.bare g9 sl6 (wpAny_mono (pe.run pn _ σ9 H9 _ (dead I9) q9) (fun z s10 ⟨y, H10, I10, r10, q10⟩ => ⟨σ9, H10, I10, rfl, y, r10, q10⟩) fun _ _ z => z)) fun z s10 ⟨σ10, H10, I10, ⟨e10, y, r10, acc, hD10, hz10, nx⟩, g10⟩ => ?_
        subst e10
        refine thnF (stay (Z := X.blk s3 H3 scope ce fp) (pins := pn) (Φ := fun _ σ' H' => σ' = σ10 ∧ H' = upd H10 Dl (.lst (acc ++ [y]))) I10.bare g10 sl6 (app_ok (X := X.blk s3 H3 scope ce fp) (dead I10) hD10 hz10 r10 fun s11 I11 => ⟨σ10, _, I11, rfl, rfl⟩)) fun _ s11 ⟨σ11, H11, I11, ⟨e11, e12⟩, g11⟩ => ?_
        subst e11 e12
        exact fin I11 g11 hw8 nx
  exact codeAny_compStart_list loop (wpAny_pyIter_gen t4.gen loop)
end
end Fm
set_option Elab.async false
set_option linter.all false
set_option maxRecDepth 100000
set_option maxHeartbeats 4000000
namespace Fm
open PySem PySem.Spec PyProof.Rows L2 Evl RZ
local macro_rules | `(tactic| walk_at "r1") => `(tactic| first
  | ((with_reducible refine d_var (v := ?v1) ?h1 ?q1); (case h1 => rfl))
  | with_reducible (first
  | refine d_c ?_ | refine d_op ?_ | refine d_un ?_ | refine d_I0 ?_ | refine d_U ?_ | refine d_eq ?_ | refine d_ne ?_ | refine d_cb ?_ | refine d_nil ?_ | refine d_cons ?_ | refine d_call ?_
  | refine d_fld ?_ | refine d_test ?_ | refine d_B ?_ | refine d_bl ?_ | refine d_and ?_ | refine d_or ?_ | refine d_not ?_ | refine d_andV ?_ | refine d_orV ?_ | refine d_notV ?_ | refine d_if ?_
  | refine d_tup ?_ | refine d_lst ?_ | refine d_lc ?_ | refine d_bm ?_ | refine d_bm0 ?_ | refine d_meth ?_ | refine d_make ?_
  | refine s_seq ?_ | refine s_next ?_ | refine s_brk ?_ | refine s_asg ?_ | refine s_drop ?_ | refine s_ret ?_ | refine s_ifs ?_ | refine s_par ?_ | refine s_two ?_ | refine s_fld ?_
  | refine g_name ?_ | refine g_sub ?_ | refine g_cons ?_ | refine g_nil ?_
  | refine s_for ?_ | refine w_rng1 ?_ | refine w_rng2 ?_ | refine w_rng3 ?_ | refine w_list ?_ | refine w_tup ?_ | refine w_rev ?_ | refine w_enT ?_ | refine w_zip ?_ | refine w_zipA ?_
  | refine n_int ?_ | refine n_max ?_ | refine n_abs ?_ | refine b_tt ?_ | refine b_ff ?_ | refine b_nt ?_ | refine b_nf ?_))
local macro_rules | `(tactic| walk_at "rd") => `(tactic| repeat walk_at "r1")
abbrev sMemberOf : Stmt := top 21
/-- what stands behind the top: the defs, the classes at C (Field), D (FieldMap), E (Malformed) -/
structure Txt (K : PySem.W.Frag) (mg : Str → Option Value) : Prop where
  B : Bi mg
  MOST : ∃ t, mg "MOST" = some (.int 400 t)
  is_integer : GS K mg "is_integer" (top 7)
  prime_powers : GS K mg "prime_powers" (top 8)
  is_prime : GS K mg "is_prime" (top 9)
  inverse_modulo : GS K mg "inverse_modulo" (top 10)
  trimmed : GS K mg "trimmed" (top 12)
  add_rows : GS K mg "add_rows" (top 13)
  subtract_rows : GS K mg "subtract_rows" (top 14)
  multiply_rows : GS K mg "multiply_rows" (top 15)
  divide_rows : GS K mg "divide_rows" (top 16)
  common_row : GS K mg "common_row" (top 17)
  power_row : GS K mg "power_row" (top 18)
  is_irreducible_row : GS K mg "is_irreducible_row" (top 19)
  is_member_row : GS K mg "is_member_row" (top 20)
  member_of : GS K mg "member_of" (top 21)
  member_sum : GS K mg "member_sum" (top 22)
  member_product : GS K mg "member_product" (top 24)
  checked_modulus : GS K mg "_checked_modulus" (top 28)
  at_image : GS K mg "at_image" (top 31)
  is_root : GS K mg "is_root" (top 32)
  all_maps : GS K mg "all_maps" (top 34)
  isomorphisms : GS K mg "isomorphisms" (top 35)
  law_state : GS K mg "_law_state" (top 37)
  law_take : GS K mg "_law_take" (top 38)
  law_divides : GS K mg "_law_divides" (top 39)
  law_lower : GS K mg "_law_lower" (top 40)
  law_is_irreducible : GS K mg "_law_is_irreducible" (top 41)
  law_power_of : GS K mg "_law_power_of" (top 42)
  law_modulus : GS K mg "_law_modulus" (top 43)
  law_plus : GS K mg "_law_plus" (top 44)
  law_times : GS K mg "_law_times" (top 45)
  law_member : GS K mg "_law_member" (top 46)
  law_size : GS K mg "_law_size" (top 47)
  law_any : GS K mg "_law_any" (top 48)
  law_pair_of_fields : GS K mg "_law_pair_of_fields" (top 49)
  law_value : GS K mg "_law_value" (top 50)
  law_malformed : GS K mg "_law_malformed" (top 51)
  law : GS K mg "law" (top 52)

abbrev IT (K : PySem.W.Frag) (H : Hp) (a : Addr) (xs : List Int) : Prop := SqT K H a (xs.map V.int)
abbrev IL (K : PySem.W.Frag) (H : Hp) (a : Addr) (xs : List Int) : Prop := SqL K H a (xs.map V.int)
/-- a function on ints, on values -/
def fI (g : Int → Int) : V → V
  | .int x => .int (g x)
  | v => v
def fI2 (g : Int → Int → Int) : V → V → V
  | .int x, .int y => .int (g x y)
  | v, _ => v
theorem mapI (xs : List Int) (g : Int → Int) : ((xs.map V.int).filter fun _ => true).map (fI g) = (xs.map g).map V.int := by
  rw [filter_yes, List.map_map, List.map_map]
  rfl
theorem zipI (g : Int → Int → Int) : ∀ xs ys : List Int, List.zipWith (fI2 g) (xs.map V.int) (ys.map V.int) = (List.zipWith g xs ys).map V.int
  | [], _ => by simp
  | _ :: _, [] => by simp
  | x :: xs, y :: ys => by
    show fI2 g (.int x) (.int y) :: List.zipWith (fI2 g) (xs.map V.int) (ys.map V.int) = _
    rw [zipI g xs ys]
    rfl
theorem memI {xs : List Int} {v : V} (h : v ∈ xs.map V.int) : ∃ x, x ∈ xs ∧ v = .int x := by
  obtain ⟨x, hx, e⟩ := List.mem_map.mp h
  exact ⟨x, hx, e.symm⟩
theorem getI {xs : List Int} {i : Nat} {v : V} (h : (xs.map V.int)[i]? = some v) : ∃ x, xs[i]? = some x ∧ v = .int x := by
  rw [List.getElem?_map] at h
  cases e : xs[i]? with
  | none => rw [e] at h; cases h
  | some x => rw [e] at h; exact ⟨x, rfl, (Option.some.inj h).symm⟩
theorem atD {xs : List Int} {i : Nat} (h : i < xs.length) : (xs.map V.int)[i]? = some (.int (xs.getD i 0)) := by
  rw [List.getElem?_map, List.getD_eq_getElem?_getD, List.getElem?_eq_getElem h]
  rfl
theorem setI (xs : List Int) (i : Nat) (x : Int) : (xs.map V.int).set i (.int x) = (xs.set i x).map V.int := by
  rw [List.map_set]
theorem lenI (xs : List Int) : (xs.map V.int).length = xs.length := List.length_map _
def spMemberOf (K : PySem.W.Frag) : Sp := fun vs H Q _ => ∃ (a : Addr) (row : List Int) (n : Int), vs = [.ref a, .int n] ∧ SqT K H a (row.map V.int) ∧ row.length ≤ 1000 ∧ 0 ≤ n ∧ n ≤ 1000 ∧
  ∀ p H', Ex H H' → IT K H' p (padR row n) → Q (.ref p) H'
section
variable {P : Program} {w : World} {K : PySem.W.Frag} {mg : Str → Option Value} {base : Heap}
theorem scMemberOf : FnScope ["row", "n"] ["row", "n"] (defScope sMemberOf) := ⟨rfl, rfl, rfl, by decide +kernel, rfl, by decide +kernel, by decide +kernel⟩
theorem fn_member_of (T : Txt K mg) : Fn P w K mg base "member_of" 1 ["row", "n"] (spMemberOf K) := by
  obtain ⟨f, fd, F, hm⟩ := T.member_of.ex
  have B := T.B
  refine ⟨f, fd, F.ok scMemberOf (fun vs H Q E h => ?_) (fun cdv A outer s H vs Q E hr h => ?_), hm, F.kp, F.binds fun _ _ _ _ _ _ us hl => match us, hl with | [_, _], _ => rfl⟩
  · obtain ⟨a, row, n, rfl, _⟩ := h
    rfl
  · obtain ⟨a, row, n, rfl, ha, hl, hn0, hn1, k⟩ := h
    refine ⟨_, (pss_one (ps_ret (bTuple B (pe_op op_cat (bList B (pv 0)) (pe_op op_rep (pe_lst (pa_cons pe_int pa_nil)) (pe_op op_sub (pv 1) (bLen B (pv 0)))))))), ?_⟩
    walk_at "rd"
    refine n_list (.inr ha) fun p1 H1 hp1 e1 h1 => ?_
    walk_at "rd"
    refine n_lst1 fun p2 H2 hp2 e2 h2 => ?_
    walk_at "rd"
    refine n_len (.inr (ex_t (e1.trans e2) ha)) ?_
    walk_at "rd"
    refine n_rep h2 ⟨by simp; omega, by simp; omega⟩ fun p3 H3 hp3 e3 h3 => ?_
    refine n_cat ((e2.trans e3) _ _ h1) h3 (by simp; omega) fun p4 H4 hp4 e4 h4 => ?_
    refine n_tupleL (.inl (.inl h4)) fun p5 H5 hp5 e5 h5 => ?_
    refine k p5 H5 ((((e1.trans e2).trans e3).trans e4).trans e5) (.inl (.inl ?_))
    rw [h5]
    unfold padR
    simp

/-! ### trimmed -/
abbrev sTrimmed : Stmt := top 12
def spTrimmed (K : PySem.W.Frag) : Sp := fun vs H Q _ => ∃ (a : Addr) (xs : List Int) (p : Int), vs = [.ref a, .int p] ∧ (IL K H a xs ∨ IT K H a xs) ∧ xs.length ≤ 1000 ∧ 0 < p ∧
  ∀ q H', Ex H H' → IT K H' q (trim p xs) → Q (.ref q) H'
theorem scTrimmed : FnScope ["row", "p", "out", "x"] ["row", "p"] (defScope sTrimmed) := ⟨rfl, rfl, rfl, by decide +kernel, rfl, by decide +kernel, by decide +kernel⟩
def tTrimmedEnd (K : PySem.W.Frag) : TS :=
  tSeq (tWhile (tAnd (tTest (tOp (rI0 fun (i j : Int) => .bl (decide (j < i))) (tCB (rLenS K) (tCons (tVar 2) tNil)) (tC (.int 0)))) (tTest (tOp rEq (tOp (rIxL K) (tVar 2) (tOp (rI0 fun (i j : Int) => .int (i - j)) (tCB (rLenS K) (tCons (tVar 2) tNil)) (tC (.int 1)))) (tC (.int 0)))))
    (tDrop (tBM0 K "list" rPop (tVar 2)))) (tRet (tCB (rTupS K) (tCons (tVar 2) tNil)))
theorem trimmed_end {a l : Addr} {p : Int} {H H0 : Hp} {ys : List Int} {nx bk ct : L2.St → Hp → Prop} {rt : VK} (h0 : H0 l = none) (e0 : Ex H0 H) (hl : H l = some (.lst (ys.map V.int))) (hz : ys.length ≤ 1000)
    (k : ∀ q H', Ex H0 H' → IT K H' q (strip ys) → rt (.ref q) H') : tTrimmedEnd K ⟨nx, rt, bk, ct⟩ [some (.ref a), some (.int p), some (.ref l), none] H := by
  unfold tTrimmedEnd
  walk_at "r1"
  refine s_while (fun m σ H' => ∃ zs : List Int, σ = [some (.ref a), some (.int p), some (.ref l), none] ∧ Ex H0 H' ∧ H' l = some (.lst (zs.map V.int)) ∧ strip zs = strip ys ∧ zs.length = m ∧ m ≤ 1000) ys.length ⟨ys, rfl, e0, hl, rfl, rfl, hz⟩ ?_
  · rintro m σ H' ⟨zs, rfl, e1, h1, hs, hm, hm2⟩
    walk_at "rd"
    refine n_len (.inl (.inl (.inl h1))) ?_
    walk_at "rd"
    refine b_if (fun hpos => ?_) (fun hneg => ?_)
    · rw [lenI] at hpos
      walk_at "rd"
      refine n_len (.inl (.inl (.inl h1))) ?_
      walk_at "rd"
      have hne : zs ≠ [] := by
        intro q
        rw [q] at hpos
        simp at hpos
      refine n_ixLi (v := .int (zs.getD (zs.length - 1) 0)) (.inl (.inl h1)) (by rw [lenI]; omega) (by rw [lenI, show (((zs.length : Nat) : Int) - 1).toNat = zs.length - 1 by omega]; exact atD (by omega)) ?_
      walk_at "rd"
      have hsplit : zs = zs.dropLast ++ [zs.getD (zs.length - 1) 0] := by
        have e := (List.dropLast_concat_getLast hne).symm
        rw [List.getLast_eq_getElem] at e
        rw [List.getD_eq_getElem?_getD, List.getElem?_eq_getElem (by omega)]
        exact e
      refine b_if (fun hz0 => ?_) (fun hz1 => ?_)
      · refine w_true ?_
        walk_at "rd"
        refine ⟨.inl ⟨rfl, _, .inl (.inl h1)⟩, l, _, .int (zs.getD (zs.length - 1) 0), rfl, rfl, h1, by rw [lenI]; exact atD (by omega), ?_⟩
        walk_at "rd"
        refine ⟨m - 1, by omega, zs.dropLast, rfl, Ex.mut e1 h0, ?_, ?_, by rw [List.length_dropLast, hm], by omega⟩
        · rw [upd_same, List.map_dropLast]
        · rw [hsplit, hz0, strip_zero] at hs
          exact hs
      · walk_at "rd"
        refine n_tupleL (.inl (.inl h1)) fun q H2 hq e2 h2 => ?_
        refine k q H2 (e1.trans e2) (.inl (.inl ?_))
        rw [h2, ← hs, hsplit, strip_last _ _ hz1, ← hsplit]
    · rw [lenI] at hneg
      walk_at "rd"
      refine n_tupleL (.inl (.inl h1)) fun q H2 hq e2 h2 => ?_
      refine k q H2 (e1.trans e2) (.inl (.inl ?_))
      have hz : zs = [] := List.length_eq_zero_iff.mp (by omega)
      rw [h2, ← hs, hz]
      rfl
theorem fn_trimmed (T : Txt K mg) : Fn P w K mg base "trimmed" 1 ["row", "p"] (spTrimmed K) := by
  obtain ⟨f, fd, F, hm⟩ := T.trimmed.ex
  have B := T.B
  refine ⟨f, fd, F.ok scTrimmed (fun vs H Q E h => ?_) (fun cdv A outer s H vs Q E hr h => ?_), hm, F.kp, F.binds fun _ _ _ _ _ _ us hl => match us, hl with | [_, _], _ => rfl⟩
  · obtain ⟨a, xs, p, rfl, _⟩ := h
    rfl
  · obtain ⟨a, xs, p, rfl, ha | ha, hl, hp, k⟩ := h
    · refine ⟨_, (pss_cons (ps_setLc (i := 2) (own := [("x", 3)]) (g := gName 3) (tt := tYes) rfl scTrimmed.nd rfl rfl (sw_true rfl rfl rfl (by decide +kernel)) (pi_list (pv 0)) (blkOk_by (N := ["row", "p", "out", "x"]) (sc := defScope (top 12)) (by decide +kernel)) (fun _ _ _ _ _ => pg_name (i := 3) scTrimmed.nd rfl (Or.inl rfl)) (fun _ _ _ _ _ => pts_nil) (fun _ _ _ _ _ => (pe_op op_mod (pv 3) (pv 1)))) (pss_cons (ps_while PassesOwn.never (PW.pt (pw_and (pt_cmpR op_gt (bLen B (pv 2)) pe_int (nomark _)) (pw_and1 (pt_cmpR op_eq (pe_ix ix_list (pv 2) (pe_op op_sub (bLen B (pv 2)) pe_int) (fun _ _ => rfl)) pe_int (nomark _))))) (pss_one (ps_expr (pe_bm0 PySem.F.plainAttrs_list PySem.F.slot_list_pop PySem.F.type_list_pop mt_pop (pv 2))))) (pss_one (ps_ret (bTuple B (pv 2)))))), ?_⟩
      walk_at "rd"
      refine l_list ha (fun _ => true) (fI (· % p)) (by rw [lenI]; omega) (fun x => rfl) (fun x H' _ e Qb q => q H' (Ex.refl _)) (fun x H' hx _ e Qv q => ?_) fun D H2 hD e h2 => ?_
      · obtain ⟨x, _, rfl⟩ := memI hx
        walk_at "rd"
        refine d_I hp ?_
        exact q H' (Ex.refl _)
      · rw [mapI] at h2
        walk_at "rd"
        exact trimmed_end hD e h2 (by simp; omega) k
    · refine ⟨_, (pss_cons (ps_setLc (i := 2) (own := [("x", 3)]) (g := gName 3) (tt := tYes) rfl scTrimmed.nd rfl rfl (sw_true rfl rfl rfl (by decide +kernel)) (pi_tup (pv 0)) (blkOk_by (N := ["row", "p", "out", "x"]) (sc := defScope (top 12)) (by decide +kernel)) (fun _ _ _ _ _ => pg_name (i := 3) scTrimmed.nd rfl (Or.inl rfl)) (fun _ _ _ _ _ => pts_nil) (fun _ _ _ _ _ => (pe_op op_mod (pv 3) (pv 1)))) (pss_cons (ps_while PassesOwn.never (PW.pt (pw_and (pt_cmpR op_gt (bLen B (pv 2)) pe_int (nomark _)) (pw_and1 (pt_cmpR op_eq (pe_ix ix_list (pv 2) (pe_op op_sub (bLen B (pv 2)) pe_int) (fun _ _ => rfl)) pe_int (nomark _))))) (pss_one (ps_expr (pe_bm0 PySem.F.plainAttrs_list PySem.F.slot_list_pop PySem.F.type_list_pop mt_pop (pv 2))))) (pss_one (ps_ret (bTuple B (pv 2)))))), ?_⟩
      walk_at "rd"
      refine l_tup ha (fun _ => true) (fI (· % p)) (by rw [lenI]; omega) (fun x => rfl) (fun x H' _ e Qb q => q H' (Ex.refl _)) (fun x H' hx _ e Qv q => ?_) fun D H2 hD e h2 => ?_
      · obtain ⟨x, _, rfl⟩ := memI hx
        walk_at "rd"
        refine d_I hp ?_
        exact q H' (Ex.refl _)
      · rw [mapI] at h2
        walk_at "rd"
        exact trimmed_end hD e h2 (by simp; omega) k
end
end Fm
set_option Elab.async false
set_option linter.all false
set_option maxRecDepth 100000
set_option maxHeartbeats 4000000
namespace Fm
open PySem PySem.Spec PyProof.Rows L2 Evl RZ
local macro_rules | `(tactic| walk_at "r1") => `(tactic| first
  | ((with_reducible refine d_var (v := ?v1) ?h1 ?q1); (case h1 => rfl))
  | with_reducible (first
  | refine d_c ?_ | refine d_op ?_ | refine d_un ?_ | refine d_I0 ?_ | refine d_U ?_ | refine d_eq ?_ | refine d_ne ?_ | refine d_cb ?_ | refine d_nil ?_ | refine d_cons ?_ | refine d_call ?_
  | refine d_fld ?_ | refine d_test ?_ | refine d_B ?_ | refine d_bl ?_ | refine d_and ?_ | refine d_or ?_ | refine d_not ?_ | refine d_andV ?_ | refine d_orV ?_ | refine d_notV ?_ | refine d_if ?_
  | refine d_tup ?_ | refine d_lst ?_ | refine d_lc ?_ | refine d_bm ?_ | refine d_bm0 ?_ | refine d_meth ?_ | refine d_make ?_
  | refine s_seq ?_ | refine s_next ?_ | refine s_brk ?_ | refine s_asg ?_ | refine s_drop ?_ | refine s_ret ?_ | refine s_ifs ?_ | refine s_par ?_ | refine s_two ?_ | refine s_fld ?_
  | refine g_name ?_ | refine g_sub ?_ | refine g_cons ?_ | refine g_nil ?_
  | refine s_for ?_ | refine w_rng1 ?_ | refine w_rng2 ?_ | refine w_rng3 ?_ | refine w_list ?_ | refine w_tup ?_ | refine w_rev ?_ | refine w_enT ?_ | refine w_zip ?_ | refine w_zipA ?_
  | refine n_int ?_ | refine n_max ?_ | refine n_abs ?_ | refine b_tt ?_ | refine b_ff ?_ | refine b_nt ?_ | refine b_nf ?_))
local macro_rules | `(tactic| walk_at "rd") => `(tactic| repeat walk_at "r1")
section
variable {P : Program} {w : World} {K : PySem.W.Frag} {mg : Str → Option Value} {base : Heap}

/-! ### add_rows -/
abbrev sAddRows : Stmt := top 13
def spAddRows (K : PySem.W.Frag) : Sp := fun vs H Q _ => ∃ (a b : Addr) (xs ys : List Int) (p : Int), vs = [.ref a, .ref b, .int p] ∧ IT K H a xs ∧ IL K H b ys ∧ xs.length ≤ 500 ∧ ys.length ≤ 500 ∧ 0 < p ∧
  ∀ q H', Ex H H' → IT K H' q (addR xs ys p) → Q (.ref q) H'
theorem scAddRows : FnScope ["a", "b", "p", "size", "low", "high", "x", "y"] ["a", "b", "p"] (defScope sAddRows) := ⟨rfl, rfl, rfl, by decide +kernel, rfl, by decide +kernel, by decide +kernel⟩
theorem max_nat (m n : Nat) : (if ((n : Int)) > (m : Int) then (n : Int) else (m : Int)) = ((max m n : Nat) : Int) := by
  split <;> omega
theorem padV (row : List Int) (n : Int) : row.map V.int ++ List.replicate (n - row.length).toNat (V.int 0) = (padR row n).map V.int := by
  unfold padR
  simp
theorem fn_add_rows (T : Txt K mg) : Fn P w K mg base "add_rows" 2 ["a", "b", "p"] (spAddRows K) := by
  obtain ⟨f, fd, F, hm⟩ := T.add_rows.ex
  have B := T.B
  have F_trimmed := fn_trimmed (P := P) (w := w) (base := base) T
  refine ⟨f, fd, F.ok scAddRows (fun vs H Q E h => ?_) (fun cdv A outer s H vs Q E hr h => ?_), hm, F.kp, F.binds fun _ _ _ _ _ _ us hl => match us, hl with | [_, _, _], _ => rfl⟩
  · obtain ⟨a, b, xs, ys, p, rfl, _⟩ := h
    rfl
  · obtain ⟨a, b, xs, ys, p, rfl, ha, hb, hl1, hl2, hp, k⟩ := h
    refine ⟨_, (pss_cons (ps_set (i := 3) scAddRows.nd rfl (Or.inl rfl) (bMax B (bLen B (pv 0)) (bLen B (pv 1)))) (pss_cons (ps_set (i := 4) scAddRows.nd rfl (Or.inl rfl) (pe_op op_cat (bList B (pv 0)) (pe_op op_rep (pe_lst (pa_cons pe_int pa_nil)) (pe_op op_sub (pv 3) (bLen B (pv 0)))))) (pss_cons (ps_set (i := 5) scAddRows.nd rfl (Or.inl rfl) (pe_op op_cat (bList B (pv 1)) (pe_op op_rep (pe_lst (pa_cons pe_int pa_nil)) (pe_op op_sub (pv 3) (bLen B (pv 1)))))) (pss_one (ps_ret (pcall F_trimmed (hr.mono (by decide)) (pa_cons (pe_lc (own := [("x", 6), ("y", 7)]) (g := gTup K 2 (gCons (gName 6) (gCons (gName 7) gNil))) (tt := tYes) rfl scAddRows.nd (pi_zip rfl B.zip (pa_cons (pv 4) (pa_cons (pv 5) pa_nil))) (blkOk_by (N := ["a", "b", "p", "size", "low", "high", "x", "y"]) (sc := defScope (top 13)) (by decide +kernel)) (fun _ _ _ _ _ => pg_tup rfl (pgs_cons (pg_name (i := 6) scAddRows.nd rfl (Or.inl rfl)) (pgs_cons (pg_name (i := 7) scAddRows.nd rfl (Or.inl rfl)) pgs_nil))) (fun _ _ _ _ _ => pts_nil) (fun _ _ _ _ _ => (pe_op op_add (pv 6) (pv 7)))) (pa_cons (pv 2) pa_nil)))))))), ?_⟩
    walk_at "rd"
    refine n_len (.inr ha) ?_
    walk_at "rd"
    refine n_len (.inl hb) ?_
    walk_at "rd"
    rw [lenI, lenI, max_nat]
    generalize hn : max xs.length ys.length = n
    have hn1 : n ≤ 500 := by omega
    have hx : xs.length ≤ n := by omega
    have hy : ys.length ≤ n := by omega
    refine n_list (.inr ha) fun p1 H1 hp1 e1 h1 => ?_
    walk_at "rd"
    refine n_lst1 fun p2 H2 hp2 e2 h2 => ?_
    walk_at "rd"
    refine n_len (.inr (ex_t (e1.trans e2) ha)) ?_
    walk_at "rd"
    rw [lenI]
    refine n_rep h2 ⟨by omega, by omega⟩ fun p3 H3 hp3 e3 h3 => ?_
    refine n_cat ((e2.trans e3) _ _ h1) h3 (by simp; omega) fun p4 H4 hp4 e4 h4 => ?_
    rw [padV] at h4
    have e04 := ((e1.trans e2).trans e3).trans e4
    walk_at "rd"
    refine n_list (.inl (ex_l e04 hb)) fun p5 H5 hp5 e5 h5 => ?_
    walk_at "rd"
    refine n_lst1 fun p6 H6 hp6 e6 h6 => ?_
    walk_at "rd"
    refine n_len (.inl (ex_l ((e04.trans e5).trans e6) hb)) ?_
    walk_at "rd"
    rw [lenI]
    refine n_rep h6 ⟨by omega, by omega⟩ fun p7 H7 hp7 e7 h7 => ?_
    refine n_cat ((e6.trans e7) _ _ h5) h7 (by simp; omega) fun p8 H8 hp8 e8 h8 => ?_
    rw [padV] at h8
    have e48 := ((e5.trans e6).trans e7).trans e8
    walk_at "rd"
    have l1 : (padR xs (n : Int)).length = n := by have := padR_length xs (n : Int) (by omega); omega
    have l2 : (padR ys (n : Int)).length = n := by have := padR_length ys (n : Int) (by omega); omega
    refine ⟨_, _, _, _, rfl, .inl (.inl (e48 _ _ h4)), .inl (.inl h8), l_zip (.inl (.inl (e48 _ _ h4))) (.inl (.inl h8)) (by rw [lenI, lenI, l1, l2]) (fI2 (· + ·)) (by rw [lenI, l1]; omega) (fun x y => rfl) (fun x y H' hx hy e Qv q => ?_) fun D H9 hD e9 h9 => ?_⟩
    · obtain ⟨x, _, rfl⟩ := memI hx
      obtain ⟨y, _, rfl⟩ := memI hy
      walk_at "rd"
      exact q H' (Ex.refl _)
    · rw [zipI] at h9
      walk_at "rd"
      refine ⟨D, _, p, rfl, .inl (.inl (.inl h9)), ?_, hp, fun q H' e h => ?_⟩
      · rw [List.length_zipWith, l1, l2]; omega
      · refine k q H' (((e04.trans e48).trans e9).trans e) ?_
        unfold addR
        rw [hn]
        exact h

/-! ### subtract_rows -/
abbrev sSubtractRows : Stmt := top 14
def spSubtractRows (K : PySem.W.Frag) : Sp := fun vs H Q _ => ∃ (a b : Addr) (xs ys : List Int) (p : Int), vs = [.ref a, .ref b, .int p] ∧ IT K H a xs ∧ IT K H b ys ∧ xs.length ≤ 500 ∧ ys.length ≤ 500 ∧ 0 < p ∧
  ∀ q H', Ex H H' → IT K H' q (subR xs ys p) → Q (.ref q) H'
theorem scSubtractRows : FnScope ["a", "b", "p", "x"] ["a", "b", "p"] (defScope sSubtractRows) := ⟨rfl, rfl, rfl, by decide +kernel, rfl, by decide +kernel, by decide +kernel⟩
theorem fn_subtract_rows (T : Txt K mg) : Fn P w K mg base "subtract_rows" 3 ["a", "b", "p"] (spSubtractRows K) := by
  obtain ⟨f, fd, F, hm⟩ := T.subtract_rows.ex
  have B := T.B
  have F_add_rows := fn_add_rows (P := P) (w := w) (base := base) T
  refine ⟨f, fd, F.ok scSubtractRows (fun vs H Q E h => ?_) (fun cdv A outer s H vs Q E hr h => ?_), hm, F.kp, F.binds fun _ _ _ _ _ _ us hl => match us, hl with | [_, _, _], _ => rfl⟩
  · obtain ⟨a, b, xs, ys, p, rfl, _⟩ := h
    rfl
  · obtain ⟨a, b, xs, ys, p, rfl, ha, hb, hl1, hl2, hp, k⟩ := h
    refine ⟨_, (pss_one (ps_ret (pcall F_add_rows (hr.mono (by decide)) (pa_cons (pv 0) (pa_cons (pe_lc (own := [("x", 3)]) (g := gName 3) (tt := tYes) rfl scSubtractRows.nd (pi_tup (pv 1)) (blkOk_by (N := ["a", "b", "p", "x"]) (sc := defScope (top 14)) (by decide +kernel)) (fun _ _ _ _ _ => pg_name (i := 3) scSubtractRows.nd rfl (Or.inl rfl)) (fun _ _ _ _ _ => pts_nil) (fun _ _ _ _ _ => (pe_un un_neg (pv 3)))) (pa_cons (pv 2) pa_nil)))))), ?_⟩
    walk_at "rd"
    refine l_tup hb (fun _ => true) (fI (- ·)) (by rw [lenI]; omega) (fun x => rfl) (fun x H' _ e Qb q => q H' (Ex.refl _)) (fun x H' hx _ e Qv q => ?_) fun D H2 hD e h2 => ?_
    · obtain ⟨x, _, rfl⟩ := memI hx
      walk_at "rd"
      exact q H' (Ex.refl _)
    · rw [mapI] at h2
      walk_at "rd"
      exact ⟨a, D, xs, _, p, rfl, ex_t e ha, .inl (.inl h2), hl1, by rw [List.length_map]; exact hl2, hp, fun q H' e2 h => k q H' (e.trans e2) h⟩

/-! ### multiply_rows -/
abbrev sMultiplyRows : Stmt := top 15
def spMultiplyRows (K : PySem.W.Frag) : Sp := fun vs H Q _ => ∃ (a b : Addr) (xs ys : List Int) (p : Int), vs = [.ref a, .ref b, .int p] ∧ IT K H a xs ∧ IT K H b ys ∧ xs.length ≤ 500 ∧ ys.length ≤ 500 ∧ 0 < p ∧ Rw 1000 xs ∧
  ∀ q H', Ex H H' → IT K H' q (mulR xs ys p) → Q (.ref q) H'
theorem scMultiplyRows : FnScope ["a", "b", "p", "out", "i", "x", "k", "y", "_"] ["a", "b", "p"] (defScope sMultiplyRows) := ⟨rfl, rfl, rfl, by decide +kernel, rfl, by decide +kernel, by decide +kernel⟩
theorem getD_of {xs : List Int} {i : Nat} {x : Int} (h : xs[i]? = some x) : xs.getD i 0 = x := by
  rw [List.getD_eq_getElem?_getD, h]
  rfl
theorem zerosV (n : Nat) : (List.range n).map (fun _ => V.int 0) = (List.replicate n (0 : Int)).map V.int := by
  rw [List.map_replicate]
  induction n with
  | zero => rfl
  | succ n ih => rw [List.range_succ, List.map_append, ih, List.replicate_succ']; rfl
theorem fn_multiply_rows (T : Txt K mg) : Fn P w K mg base "multiply_rows" 2 ["a", "b", "p"] (spMultiplyRows K) := by
  obtain ⟨f, fd, F, hm⟩ := T.multiply_rows.ex
  have B := T.B
  have F_trimmed := fn_trimmed (P := P) (w := w) (base := base) T
  refine ⟨f, fd, F.ok scMultiplyRows (fun vs H Q E h => ?_) (fun cdv A outer s H vs Q E hr h => ?_), hm, F.kp, F.binds fun _ _ _ _ _ _ us hl => match us, hl with | [_, _, _], _ => rfl⟩
  · obtain ⟨a, b, xs, ys, p, rfl, _⟩ := h
    rfl
  · obtain ⟨a, b, xs, ys, p, rfl, ha, hb, hl1, hl2, hp, hrw, k⟩ := h
    refine ⟨_, (pss_cons (ps_setLc (i := 3) (own := [("_", 8)]) (g := gName 8) (tt := tYes) rfl scMultiplyRows.nd rfl rfl (sw_true rfl rfl rfl (by decide +kernel)) (pi_range1 rfl B.range (pa_cons (pe_op op_add (bLen B (pv 0)) (bLen B (pv 1))) pa_nil)) (blkOk_by (N := ["a", "b", "p", "out", "i", "x", "k", "y", "_"]) (sc := defScope (top 15)) (by decide +kernel)) (fun _ _ _ _ _ => pg_name (i := 8) scMultiplyRows.nd rfl (Or.inl rfl)) (fun _ _ _ _ _ => pts_nil) (fun _ _ _ _ _ => pe_int)) (pss_cons (ps_for PassesOwn.never rfl (pi_enumT rfl B.enumerate (pv 0)) (pg_tup rfl (pgs_cons (pg_name (i := 4) scMultiplyRows.nd rfl (Or.inl rfl)) (pgs_cons (pg_name (i := 5) scMultiplyRows.nd rfl (Or.inl rfl)) pgs_nil))) (pss_one (ps_for PassesOwn.never rfl (pi_enumT rfl B.enumerate (pv 1)) (pg_tup rfl (pgs_cons (pg_name (i := 6) scMultiplyRows.nd rfl (Or.inl rfl)) (pgs_cons (pg_name (i := 7) scMultiplyRows.nd rfl (Or.inl rfl)) pgs_nil))) (pss_one (ps_asg (pe_op op_add (pe_ix ix_list (pv 3) (pe_op op_add (pv 4) (pv 6)) (fun _ _ => rfl)) (pe_op op_mul (pv 5) (pv 7))) (pg_sub (pv 3) (pe_op op_add (pv 4) (pv 6)) set_list)))))) (pss_one (ps_ret (pcall F_trimmed (hr.mono (by decide)) (pa_cons (pv 3) (pa_cons (pv 2) pa_nil))))))), ?_⟩
    walk_at "rd"
    refine n_len (.inr ha) ?_
    walk_at "rd"
    refine n_len (.inr hb) ?_
    walk_at "rd"
    rw [lenI, lenI]
    refine l_rng (by omega) (fun _ => .int 0) (fun x => rfl) (fun i H' _ e Qv q => ?_) fun l H1 hl e1 h1 => ?_
    · walk_at "rd"
      exact q H' (Ex.refl _)
    rw [zerosV, show ((xs.length : Int) + (ys.length : Int)).toNat = xs.length + ys.length by omega] at h1
    walk_at "rd"
    have cl : ∀ i, (loopN i (convIn xs ys) (List.replicate (xs.length + ys.length) 0)).length = xs.length + ys.length := fun i => by
      rw [loopN_length (convIn_length xs ys), List.length_replicate]
    refine f_enT (ex_t e1 ha) (fun i σ H' => ∃ v1 v2 v3 v4, σ = [some (.ref a), some (.ref b), some (.int p), some (.ref l), v1, v2, v3, v4, none] ∧ Ex H H' ∧ H' l = some (.lst ((loopN i (convIn xs ys) (List.replicate (xs.length + ys.length) 0)).map V.int)))
      ⟨_, _, _, _, rfl, e1, h1⟩ (fun i σ' H' ⟨_, _, _, _, _, e, _⟩ => ex_t e ha) ?_ ?_
    · rintro i v σ' H2 H3 hv ⟨v1, v2, v3, v4, rfl, e2, h2⟩ e3 _
      obtain ⟨x, hx, rfl⟩ := getI hv
      have hi : i < xs.length := (List.getElem?_eq_some_iff.mp hx).1
      have bx := hrw x (List.mem_of_getElem? hx)
      walk_at "rd"
      refine f_enT (ex_t (e2.trans e3) hb) (fun j σ H' => ∃ v3 v4, σ = [some (.ref a), some (.ref b), some (.int p), some (.ref l), some (.int (i : Nat)), some (.int x), v3, v4, none] ∧ Ex H H' ∧
        H' l = some (.lst ((loopN j (fun k o => o.set (i + k) (o.getD (i + k) 0 + xs.getD i 0 * ys.getD k 0)) (loopN i (convIn xs ys) (List.replicate (xs.length + ys.length) 0))).map V.int)))
        ⟨_, _, rfl, e2.trans e3, e3 _ _ h2⟩ (fun j σ' H' ⟨_, _, _, e, _⟩ => ex_t e hb) ?_ ?_
      · rintro j v σ' H4 H5 hv2 ⟨w3, w4, rfl, e4, h4⟩ e5 _
        obtain ⟨y, hy, rfl⟩ := getI hv2
        have hj : j < ys.length := (List.getElem?_eq_some_iff.mp hy).1
        have cl2 : (loopN j (fun k o => o.set (i + k) (o.getD (i + k) 0 + xs.getD i 0 * ys.getD k 0)) (loopN i (convIn xs ys) (List.replicate (xs.length + ys.length) 0))).length = xs.length + ys.length := by
          rw [loopN_length (fun _ _ => by simp), cl]
        generalize hg : loopN j (fun k o => o.set (i + k) (o.getD (i + k) 0 + xs.getD i 0 * ys.getD k 0)) (loopN i (convIn xs ys) (List.replicate (xs.length + ys.length) 0)) = o at h4 cl2
        have tn : ((i : Int) + (j : Int)).toNat = i + j := by omega
        have h4' := e5 _ _ h4
        walk_at "rd"
        refine n_ixLi (v := .int (o.getD (i + j) 0)) (.inl (.inl h4')) (by omega) (by rw [tn]; exact atD (by omega)) ?_
        walk_at "rd"
        refine d_mulL (by omega) ?_
        walk_at "rd"
        refine n_setL h4' (by omega) (by rw [lenI]; omega) ?_
        refine ⟨_, _, rfl, Ex.mut (e4.trans e5) hl, ?_⟩
        rw [upd_same, tn, setI, loopN_succ, hg, getD_of hx, getD_of hy]
      · rintro σ' H4 ⟨w3, w4, rfl, e4, h4⟩
        rw [lenI] at h4
        exact ⟨_, _, _, _, rfl, e4, h4⟩
    · rintro σ' H2 ⟨v1, v2, v3, v4, rfl, e2, h2⟩
      rw [lenI] at h2
      walk_at "rd"
      exact ⟨l, _, p, rfl, .inl (.inl (.inl h2)), by rw [cl]; omega, hp, fun q H' e h => k q H' (e2.trans e) h⟩

/-! ### inverse_modulo -/
abbrev sInverseModulo : Stmt := top 10
def spInverseModulo : Sp := fun vs H Q _ => ∃ (a p r : Int), vs = [.int a, .int p] ∧ 0 < p ∧ invM a p = some r ∧ ∀ H', Ex H H' → Q (.int r) H'
theorem scInverseModulo : FnScope ["a", "p", "old", "new", "u", "v", "q"] ["a", "p"] (defScope sInverseModulo) := ⟨rfl, rfl, rfl, by decide +kernel, rfl, by decide +kernel, by decide +kernel⟩
theorem eu_none {m : Nat} {o n u v r : Int} (h : eu m o n u v = some r) : ∃ m', m = m' + 1 ∧ (n = 0 → o = 1 ∧ u = r) ∧ (n ≠ 0 → (0 < n ∧ n ≤ 1000 ∧ 0 ≤ o ∧ o ≤ 1000) ∧ eu m' n (o - o / n * n) v (u - o / n * v) = some r) := by
  cases m with
  | zero => cases h
  | succ m' =>
    refine ⟨m', rfl, fun hn => ?_, fun hn => ?_⟩
    · unfold eu at h
      rw [if_pos hn] at h
      by_cases ho : o = 1
      · rw [if_pos ho] at h
        exact ⟨ho, Option.some.inj h⟩
      · rw [if_neg ho] at h
        cases h
    · unfold eu at h
      rw [if_neg hn] at h
      by_cases hb : 0 < n ∧ n ≤ 1000 ∧ 0 ≤ o ∧ o ≤ 1000
      · rw [if_pos hb] at h
        exact ⟨hb, h⟩
      · rw [if_neg hb] at h
        cases h
theorem fn_inverse_modulo (T : Txt K mg) : Fn P w K mg base "inverse_modulo" 1 ["a", "p"] spInverseModulo := by
  obtain ⟨f, fd, F, hm⟩ := T.inverse_modulo.ex
  have B := T.B
  refine ⟨f, fd, F.ok scInverseModulo (fun vs H Q E h => ?_) (fun cdv A outer s H vs Q E hr h => ?_), hm, F.kp, F.binds fun _ _ _ _ _ _ us hl => match us, hl with | [_, _], _ => rfl⟩
  · obtain ⟨a, p, r, rfl, _⟩ := h
    rfl
  · obtain ⟨a, p, r, rfl, hp, hi, k⟩ := h
    obtain ⟨r0, hr0, rfl⟩ : ∃ r0, eu 30 p (a % p) 0 1 = some r0 ∧ r0 % p = r := by
      unfold invM at hi
      cases e : eu 30 p (a % p) 0 1 with
      | none => rw [e] at hi; cases hi
      | some r0 => rw [e] at hi; exact ⟨r0, rfl, Option.some.inj hi⟩
    refine ⟨_, (pss_cons (ps_par (i := 2) (j := 3) rfl scInverseModulo.nd rfl rfl (by decide) rfl rfl (pa_cons (pv 1) (pa_cons (pe_op op_mod (pv 0) (pv 1)) pa_nil)) (by rfl)) (pss_cons (ps_asg (pe_tup (pa_cons pe_int (pa_cons pe_int pa_nil))) (pg_tup rfl (pgs_cons (pg_name (i := 4) scInverseModulo.nd rfl (Or.inl rfl)) (pgs_cons (pg_name (i := 5) scInverseModulo.nd rfl (Or.inl rfl)) pgs_nil)))) (pss_cons (ps_while PassesOwn.never (pt_cmpR op_ne (pv 3) pe_int (nomark _)) (pss_cons (ps_set (i := 6) scInverseModulo.nd rfl (Or.inl rfl) (pe_op op_fdiv (pv 2) (pv 3))) (pss_cons (ps_par (i := 2) (j := 3) rfl scInverseModulo.nd rfl rfl (by decide) rfl rfl (pa_cons (pv 3) (pa_cons (pe_op op_sub (pv 2) (pe_op op_mul (pv 6) (pv 3))) pa_nil)) (by rfl)) (pss_one (ps_par (i := 4) (j := 5) rfl scInverseModulo.nd rfl rfl (by decide) rfl rfl (pa_cons (pv 5) (pa_cons (pe_op op_sub (pv 4) (pe_op op_mul (pv 6) (pv 5))) pa_nil)) (by rfl)))))) (pss_cons (ps_if (pt_cmpR op_ne (pv 2) pe_int (nomark _)) (pss_one ps_never) pss_nil) (pss_one (ps_ret (pe_op op_mod (pv 4) (pv 1)))))))), ?_⟩
    walk_at "rd"
    refine d_I hp ?_
    walk_at "rd"
    refine n_tup2 fun q0 H0 hq0 e0 h0 => ?_
    walk_at "rd"
    refine g_two (.inl (.inl h0)) rfl ?_
    walk_at "rd"
    refine s_while (fun m σ H' => H' = H0 ∧ ∃ (o n u v : Int) (qv : Option V), σ = [some (.int a), some (.int p), some (.int o), some (.int n), some (.int u), some (.int v), qv] ∧ eu m o n u v = some r0) 30 ⟨rfl, _, _, _, _, _, rfl, hr0⟩ ?_
    rintro m σ H' ⟨rfl, o, n, u, v, qv, rfl, he⟩
    obtain ⟨m', rfl, hz, hnz⟩ := eu_none he
    walk_at "rd"
    refine b_ifN (fun hn => ?_) (fun hn => ?_)
    · obtain ⟨hb, he2⟩ := hnz hn
      refine w_true ?_
      walk_at "rd"
      refine d_I ⟨hb.1, by omega⟩ ?_
      have hq0 : 0 ≤ o / n := Int.ediv_nonneg hb.2.2.1 (by omega)
      have hq1 : o / n ≤ 1000 := Int.le_trans (Int.ediv_le_self _ hb.2.2.1) hb.2.2.2
      walk_at "rd"
      refine d_mulL ⟨by omega, by omega⟩ ?_
      walk_at "rd"
      refine d_mulL ⟨by omega, by omega⟩ ?_
      walk_at "rd"
      exact ⟨m', Nat.lt_succ_self _, rfl, _, _, _, _, _, rfl, he2⟩
    · obtain ⟨ho, hu⟩ := hz hn
      walk_at "rd"
      refine b_NF ho ?_
      walk_at "rd"
      refine d_I hp ?_
      rw [hu]
      exact k _ e0
end
end Fm
set_option Elab.async false
set_option linter.all false
set_option maxRecDepth 100000
set_option maxHeartbeats 4000000
namespace Fm
open PySem PySem.Spec PyProof.Rows L2 Evl RZ
local macro_rules | `(tactic| walk_at "r1") => `(tactic| first
  | ((with_reducible refine d_var (v := ?v1) ?h1 ?q1); (case h1 => rfl))
  | with_reducible (first
  | refine d_c ?_ | refine d_op ?_ | refine d_un ?_ | refine d_I0 ?_ | refine d_U ?_ | refine d_eq ?_ | refine d_ne ?_ | refine d_cb ?_ | refine d_nil ?_ | refine d_cons ?_ | refine d_call ?_
  | refine d_fld ?_ | refine d_test ?_ | refine d_B ?_ | refine d_bl ?_ | refine d_and ?_ | refine d_or ?_ | refine d_not ?_ | refine d_andV ?_ | refine d_orV ?_ | refine d_notV ?_ | refine d_if ?_
  | refine d_tup ?_ | refine d_lst ?_ | refine d_lc ?_ | refine d_bm ?_ | refine d_bm0 ?_ | refine d_meth ?_ | refine d_make ?_
  | refine s_seq ?_ | refine s_next ?_ | refine s_brk ?_ | refine s_asg ?_ | refine s_drop ?_ | refine s_ret ?_ | refine s_ifs ?_ | refine s_par ?_ | refine s_two ?_ | refine s_fld ?_
  | refine g_name ?_ | refine g_sub ?_ | refine g_cons ?_ | refine g_nil ?_
  | refine s_for ?_ | refine w_rng1 ?_ | refine w_rng2 ?_ | refine w_rng3 ?_ | refine w_list ?_ | refine w_tup ?_ | refine w_rev ?_ | refine w_enT ?_ | refine w_zip ?_ | refine w_zipA ?_
  | refine n_int ?_ | refine n_max ?_ | refine n_abs ?_ | refine b_tt ?_ | refine b_ff ?_ | refine b_nt ?_ | refine b_nf ?_))
local macro_rules | `(tactic| walk_at "rd") => `(tactic| repeat walk_at "r1")
section
variable {P : Program} {w : World} {K : PySem.W.Frag} {mg : Str → Option Value} {base : Heap}

/-! ### divide_rows -/
abbrev sDivideRows : Stmt := top 16
/-- a pair of two rows -/
def TwoR (K : PySem.W.Frag) (H : Hp) (t : Addr) (q r : List Int) : Prop := ∃ a b, SqT K H t [.ref a, .ref b] ∧ IT K H a q ∧ IT K H b r
def spDivideRows (K : PySem.W.Frag) : Sp := fun vs H Q _ => ∃ (a b : Addr) (xs ys : List Int) (p r : Int), vs = [.ref a, .ref b, .int p] ∧ IT K H a xs ∧ IT K H b ys ∧ xs.length ≤ 900 ∧ ys.length ≤ 900 ∧ ys ≠ [] ∧ 0 < p ∧ p ≤ 1000 ∧
  invM (lastD ys) p = some r ∧ ∀ t H', Ex H H' → TwoR K H' t (divR xs ys p r).1 (divR xs ys p r).2 → Q (.ref t) H'
theorem scDivideRows : FnScope ["a", "b", "p", "rest", "last", "quotient", "k", "factor", "i", "y", "_"] ["a", "b", "p"] (defScope sDivideRows) := ⟨rfl, rfl, rfl, by decide +kernel, rfl, by decide +kernel, by decide +kernel⟩
theorem invM_range {a p r : Int} (hp : 0 < p) (h : invM a p = some r) : 0 ≤ r ∧ r < p := by
  unfold invM at h
  cases e : eu 30 p (a % p) 0 1 with
  | none => rw [e] at h; cases h
  | some r0 =>
    rw [e] at h
    have q : r0 % p = r := Option.some.inj h
    rw [← q]
    exact ⟨Int.emod_nonneg _ (by omega), Int.emod_lt_of_pos _ hp⟩
theorem divL_succ (a b : List Int) (p last : Int) (t : Nat) : divL a b p last (t + 1) = divTurn b p last (divQ a b) t (divL a b p last t) := rfl
theorem fn_divide_rows (T : Txt K mg) : Fn P w K mg base "divide_rows" 2 ["a", "b", "p"] (spDivideRows K) := by
  obtain ⟨f, fd, F, hm⟩ := T.divide_rows.ex
  have B := T.B
  have F_trimmed := fn_trimmed (P := P) (w := w) (base := base) T
  have F_inverse_modulo := fn_inverse_modulo (P := P) (w := w) (base := base) T
  refine ⟨f, fd, F.ok scDivideRows (fun vs H Q E h => ?_) (fun cdv A outer s H vs Q E hr h => ?_), hm, F.kp, F.binds fun _ _ _ _ _ _ us hl => match us, hl with | [_, _, _], _ => rfl⟩
  · obtain ⟨a, b, xs, ys, p, r, rfl, _⟩ := h
    rfl
  · obtain ⟨a, b, xs, ys, p, r, rfl, ha, hb, hl1, hl2, hne, hp, hp2, hi, k⟩ := h
    have hyp : 0 < ys.length := List.length_pos_iff.mpr hne
    have hr01 := invM_range hp hi
    refine ⟨_, (pss_cons (ps_if (pt_cmpR op_eq (bLen B (pv 1)) pe_int (nomark _)) (pss_one ps_never) pss_nil) (pss_cons (ps_set (i := 3) scDivideRows.nd rfl (Or.inl rfl) (bList B (pv 0))) (pss_cons (ps_set (i := 4) scDivideRows.nd rfl (Or.inl rfl) (pcall F_inverse_modulo (hr.mono (by decide)) (pa_cons (pe_ix ix_tup (pv 1) (pe_op op_sub (bLen B (pv 1)) pe_int) (fun _ _ => rfl)) (pa_cons (pv 2) pa_nil)))) (pss_cons (ps_setLc (i := 5) (own := [("_", 10)]) (g := gName 10) (tt := tYes) rfl scDivideRows.nd rfl rfl (sw_true rfl rfl rfl (by decide +kernel)) (pi_range1 rfl B.range (pa_cons (bMax B (pe_op op_add (pe_op op_sub (bLen B (pv 0)) (bLen B (pv 1))) pe_int) pe_int) pa_nil)) (blkOk_by (N := ["a", "b", "p", "rest", "last", "quotient", "k", "factor", "i", "y", "_"]) (sc := defScope (top 16)) (by decide +kernel)) (fun _ _ _ _ _ => pg_name (i := 10) scDivideRows.nd rfl (Or.inl rfl)) (fun _ _ _ _ _ => pts_nil) (fun _ _ _ _ _ => pe_int)) (pss_cons (ps_for PassesOwn.never rfl (pi_range3 rfl B.range (pa_cons (pe_op op_sub (bLen B (pv 5)) pe_int) (pa_cons (pe_un un_neg pe_int) (pa_cons (pe_un un_neg pe_int) pa_nil)))) (pg_name (i := 6) scDivideRows.nd rfl (Or.inl rfl)) (pss_cons (ps_set (i := 7) scDivideRows.nd rfl (Or.inl rfl) (pe_op op_mod (pe_op op_mul (pe_ix ix_list (pv 3) (pe_op op_sub (pe_op op_add (pv 6) (bLen B (pv 1))) pe_int) (fun _ _ => rfl)) (pv 4)) (pv 2))) (pss_cons (ps_asg (pv 7) (pg_sub (pv 5) (pv 6) set_list)) (pss_one (ps_for PassesOwn.never rfl (pi_enumT rfl B.enumerate (pv 1)) (pg_tup rfl (pgs_cons (pg_name (i := 8) scDivideRows.nd rfl (Or.inl rfl)) (pgs_cons (pg_name (i := 9) scDivideRows.nd rfl (Or.inl rfl)) pgs_nil))) (pss_one (ps_asg (pe_op op_mod (pe_op op_sub (pe_ix ix_list (pv 3) (pe_op op_add (pv 6) (pv 8)) (fun _ _ => rfl)) (pe_op op_mul (pv 7) (pv 9))) (pv 2)) (pg_sub (pv 3) (pe_op op_add (pv 6) (pv 8)) set_list)))))))) (pss_one (ps_ret (pe_tup (pa_cons (pcall F_trimmed (hr.mono (by decide)) (pa_cons (pv 5) (pa_cons (pv 2) pa_nil))) (pa_cons (pcall F_trimmed (hr.mono (by decide)) (pa_cons (pv 3) (pa_cons (pv 2) pa_nil))) pa_nil)))))))))), ?_⟩
    walk_at "rd"
    refine n_len (.inr hb) ?_
    walk_at "rd"
    rw [lenI]
    refine b_F (by omega) ?_
    walk_at "rd"
    refine n_list (.inr ha) fun l H1 hl e1 h1 => ?_
    walk_at "rd"
    refine n_len (.inr (ex_t e1 hb)) ?_
    walk_at "rd"
    rw [lenI]
    refine n_ixTi (v := .int (lastD ys)) (ex_t e1 hb) (by omega) (by rw [show (((ys.length : Nat) : Int) - 1).toNat = ys.length - 1 by omega]; exact atD (by omega)) ?_
    walk_at "rd"
    refine ⟨lastD ys, p, r, rfl, hp, hi, fun H1' e1' => ?_⟩
    replace h1 := e1' _ _ h1
    replace e1 := e1.trans e1'
    clear e1'
    walk_at "rd"
    refine n_len (.inr (ex_t e1 ha)) ?_
    walk_at "rd"
    refine n_len (.inr (ex_t e1 hb)) ?_
    walk_at "rd"
    rw [lenI, lenI]
    have hq : (if (0 : Int) > (xs.length : Int) - (ys.length : Int) + 1 then (0 : Int) else (xs.length : Int) - (ys.length : Int) + 1) = ((divQ xs ys : Nat) : Int) := by
      unfold divQ
      split <;> omega
    rw [hq]
    have hqb : divQ xs ys ≤ 901 := by unfold divQ; omega
    have hql : divQ xs ys = 0 ∨ divQ xs ys + ys.length = xs.length + 1 := by unfold divQ; omega
    generalize hN : divQ xs ys = N at *
    refine l_rng (by omega) (fun _ => .int 0) (fun x => rfl) (fun i H' _ e Qv q => ?_) fun l2 H2 hl2' e2 h2 => ?_
    · walk_at "rd"
      exact q H' (Ex.refl _)
    rw [zerosV, show ((N : Nat) : Int).toNat = N by omega] at h2
    have hne2 : l ≠ l2 := ne_of_none h1 hl2'
    have hl20 : H l2 = none := fresh_back e1 hl2'
    walk_at "rd"
    refine n_len (.inl (.inl (.inl h2))) ?_
    walk_at "rd"
    rw [lenI, List.length_replicate]
    have dl : ∀ t, (divL xs ys p r t).1.length = N ∧ (divL xs ys p r t).2.length = xs.length := fun t => by
      have := divL_length xs ys p r t
      rw [hN] at this
      exact this
    refine f_rngD (by omega) (fun t σ H' => ∃ v1 v2 v3 v4, σ = [some (.ref a), some (.ref b), some (.int p), some (.ref l), some (.int r), some (.ref l2), v1, v2, v3, v4, none] ∧ Ex H H' ∧
      H' l = some (.lst ((divL xs ys p r t).2.map V.int)) ∧ H' l2 = some (.lst ((divL xs ys p r t).1.map V.int))) ⟨_, _, _, _, rfl, e1.trans e2, e2 _ _ h1, by rw [h2]; unfold divL; rw [hN]; rfl⟩ ?_ ?_
    · rintro t σ' H3 ht ⟨v1, v2, v3, v4, rfl, e3, h3, h3'⟩
      have htN : t < N := by omega
      have hk : ((N : Int) - 1 - (t : Int)) = ((N - 1 - t : Nat) : Int) := by omega
      rw [hk]
      generalize hkk : N - 1 - t = kk at *
      obtain ⟨d1, d2⟩ := dl t
      have hyl : N + ys.length = xs.length + 1 := by omega
      walk_at "rd"
      refine n_len (.inr (ex_t e3 hb)) ?_
      walk_at "rd"
      rw [lenI]
      have tn : ((kk : Int) + (ys.length : Int) - 1).toNat = kk + ys.length - 1 := by omega
      refine n_ixLi (v := .int ((divL xs ys p r t).2.getD (kk + ys.length - 1) 0)) (.inl (.inl h3)) (by omega) (by rw [tn]; exact atD (by rw [d2]; omega)) ?_
      walk_at "rd"
      refine d_mulR (by omega) ?_
      walk_at "rd"
      refine d_I hp ?_
      have hf0 := Int.emod_nonneg ((divL xs ys p r t).2.getD (kk + ys.length - 1) 0 * r) (show p ≠ 0 by omega)
      have hf1 := Int.emod_lt_of_pos ((divL xs ys p r t).2.getD (kk + ys.length - 1) 0 * r) hp
      generalize hfac : (divL xs ys p r t).2.getD (kk + ys.length - 1) 0 * r % p = fac at *
      walk_at "rd"
      refine n_setL h3' (by omega) (by rw [lenI, d1]; omega) ?_
      have e4 : Ex H (upd H3 l2 (.lst (((divL xs ys p r t).1.map V.int).set ((kk : Int)).toNat (.int fac)))) := Ex.mut e3 hl20
      have h4 : upd H3 l2 (.lst (((divL xs ys p r t).1.map V.int).set ((kk : Int)).toNat (.int fac))) l = some (.lst ((divL xs ys p r t).2.map V.int)) := by rw [upd_ne hne2]; exact h3
      have h4' : upd H3 l2 (.lst (((divL xs ys p r t).1.map V.int).set ((kk : Int)).toNat (.int fac))) l2 = some (.lst ((divL xs ys p r (t + 1)).1.map V.int)) := by
        rw [upd_same, show ((kk : Int)).toNat = kk by omega, setI]
        rw [divL_succ]
        unfold divTurn
        simp only [hN, hkk, hfac]
      generalize upd H3 l2 (.lst (((divL xs ys p r t).1.map V.int).set ((kk : Int)).toNat (.int fac))) = H4 at e4 h4 h4' ⊢
      walk_at "rd"
      refine f_enT (ex_t e4 hb) (fun j σ H' => ∃ v3 v4, σ = [some (.ref a), some (.ref b), some (.int p), some (.ref l), some (.int r), some (.ref l2), some (.int (kk : Nat)), some (.int fac), v3, v4, none] ∧ Ex H H' ∧
        H' l = some (.lst ((loopN j (fun i q => q.set (kk + i) ((q.getD (kk + i) 0 - fac * ys.getD i 0) % p)) (divL xs ys p r t).2).map V.int)) ∧ H' l2 = some (.lst ((divL xs ys p r (t + 1)).1.map V.int)))
        ⟨_, _, rfl, e4, h4, h4'⟩ (fun j σ' H' ⟨_, _, _, e, _⟩ => ex_t e hb) ?_ ?_
      · rintro j v σ' H5 H6 hv ⟨w3, w4, rfl, e5, h5, h5'⟩ e6 _
        obtain ⟨y, hy, rfl⟩ := getI hv
        have hj : j < ys.length := (List.getElem?_eq_some_iff.mp hy).1
        have cl2 : (loopN j (fun i q => q.set (kk + i) ((q.getD (kk + i) 0 - fac * ys.getD i 0) % p)) (divL xs ys p r t).2).length = xs.length := by
          rw [loopN_length (fun _ _ => by simp), d2]
        generalize hg : loopN j (fun i q => q.set (kk + i) ((q.getD (kk + i) 0 - fac * ys.getD i 0) % p)) (divL xs ys p r t).2 = o at h5 cl2
        have tn : ((kk : Int) + (j : Int)).toNat = kk + j := by omega
        have h6 := e6 _ _ h5
        walk_at "rd"
        refine n_ixLi (v := .int (o.getD (kk + j) 0)) (.inl (.inl h6)) (by omega) (by rw [tn]; exact atD (by omega)) ?_
        walk_at "rd"
        refine d_mulL (by omega) ?_
        walk_at "rd"
        refine d_I hp ?_
        walk_at "rd"
        refine n_setL h6 (by omega) (by rw [lenI]; omega) ?_
        refine ⟨_, _, rfl, Ex.mut (e5.trans e6) hl, ?_, ?_⟩
        · rw [upd_same, tn, setI, loopN_succ, hg, getD_of hy]
        · rw [upd_ne hne2.symm]
          exact e6 _ _ h5'
      · rintro σ' H5 ⟨w3, w4, rfl, e5, h5, h5'⟩
        rw [lenI] at h5
        refine ⟨_, _, _, _, rfl, e5, ?_, h5'⟩
        rw [h5, divL_succ]
        unfold divTurn
        simp only [hN, hkk, hfac]
        rfl
    · rintro σ' H3 ⟨v1, v2, v3, v4, rfl, e3, h3, h3'⟩
      have hN2 : ((N : Int) - 1 - -1).toNat = N := by omega
      rw [hN2] at h3 h3'
      walk_at "rd"
      refine ⟨l2, _, p, rfl, .inl (.inl (.inl h3')), by rw [(dl N).1]; omega, hp, fun q1 H4 e4 h4 => ?_⟩
      walk_at "rd"
      refine ⟨l, _, p, rfl, .inl (.inl (.inl (e4 _ _ h3))), by rw [(dl N).2]; omega, hp, fun q2 H5 e5 h5 => ?_⟩
      walk_at "rd"
      refine n_tup2 fun t H6 ht e6 h6 => ?_
      refine k t H6 (((e3.trans e4).trans e5).trans e6) ⟨q1, q2, .inl (.inl h6), ex_t (e5.trans e6) ?_, ex_t e6 ?_⟩
      · unfold divR
        rw [hN]
        exact h4
      · unfold divR
        rw [hN]
        exact h5
/-- what the one index reads of the pair -/
theorem TwoR.snd {K : PySem.W.Frag} {H : Hp} {t : Addr} {q r : List Int} {Q : VK} (h : TwoR K H t q r) (k : ∀ b, IT K H b r → Q (.ref b) H) : rIxT K (.ref t) (.int 1) H Q := by
  obtain ⟨a, b, h1, h2, h3⟩ := h
  exact n_ixT (j := 1) h1 rfl (k b h3)

/-! ### member_sum -/
abbrev sMemberSum : Stmt := top 22
def spMemberSum (K : PySem.W.Frag) : Sp := fun vs H Q _ => ∃ (a b : Addr) (xs ys : List Int) (p : Int), vs = [.ref a, .ref b, .int p] ∧ IT K H a xs ∧ IT K H b ys ∧ xs.length = ys.length ∧ ys.length ≤ 500 ∧ 0 < p ∧
  ∀ q H', Ex H H' → IT K H' q (sumP xs ys p) → Q (.ref q) H'
theorem scMemberSum : FnScope ["a", "b", "p", "x", "y"] ["a", "b", "p"] (defScope sMemberSum) := ⟨rfl, rfl, rfl, by decide +kernel, rfl, by decide +kernel, by decide +kernel⟩
theorem fn_member_sum (T : Txt K mg) : Fn P w K mg base "member_sum" 1 ["a", "b", "p"] (spMemberSum K) := by
  obtain ⟨f, fd, F, hm⟩ := T.member_sum.ex
  have B := T.B
  refine ⟨f, fd, F.ok scMemberSum (fun vs H Q E h => ?_) (fun cdv A outer s H vs Q E hr h => ?_), hm, F.kp, F.binds fun _ _ _ _ _ _ us hl => match us, hl with | [_, _, _], _ => rfl⟩
  · obtain ⟨a, b, xs, ys, p, rfl, _⟩ := h
    rfl
  · obtain ⟨a, b, xs, ys, p, rfl, ha, hb, hl1, hl2, hp, k⟩ := h
    refine ⟨_, (pss_one (ps_ret (bTuple B (pe_lc (own := [("x", 3), ("y", 4)]) (g := gTup K 2 (gCons (gName 3) (gCons (gName 4) gNil))) (tt := tYes) rfl scMemberSum.nd (pi_zipA rfl B.zip (pa_cons (pv 0) (pa_cons (pv 1) pa_nil))) (blkOk_by (N := ["a", "b", "p", "x", "y"]) (sc := defScope (top 22)) (by decide +kernel)) (fun _ _ _ _ _ => pg_tup rfl (pgs_cons (pg_name (i := 3) scMemberSum.nd rfl (Or.inl rfl)) (pgs_cons (pg_name (i := 4) scMemberSum.nd rfl (Or.inl rfl)) pgs_nil))) (fun _ _ _ _ _ => pts_nil) (fun _ _ _ _ _ => (pe_op op_mod (pe_op op_add (pv 3) (pv 4)) (pv 2))))))), ?_⟩
    walk_at "rd"
    refine ⟨_, _, _, _, rfl, .inr ⟨ha, hb, l_zipT ha hb (by rw [lenI, lenI, hl1]) (fI2 fun x y => (x + y) % p) (by rw [lenI]; omega) (fun x y => rfl) (fun x y H' hx hy e Qv q => ?_) fun D H9 hD e9 h9 => ?_⟩⟩
    · obtain ⟨x, _, rfl⟩ := memI hx
      obtain ⟨y, _, rfl⟩ := memI hy
      walk_at "rd"
      refine d_I hp ?_
      exact q H' (Ex.refl _)
    · rw [zipI] at h9
      walk_at "rd"
      exact n_tupleL (.inl (.inl h9)) fun q H' hq e h => k q H' (e9.trans e) (.inl (.inl h))

/-! ### member_product -/
abbrev sMemberProduct : Stmt := top 24
/-- the modulus: monic, from 0 to p - 1 -/
structure Mon (m : List Int) (p : Int) : Prop where
  len : 2 ≤ m.length
  top : m.length ≤ 200
  last : lastD m = 1
  rw : Rw p m
  p1 : 1 < p
  p2 : p ≤ 1000
theorem Mon.ne {m : List Int} {p : Int} (h : Mon m p) : m ≠ [] := fun e => by
  have := h.len
  rw [e] at this
  simp at this
theorem Mon.inv {m : List Int} {p : Int} (h : Mon m p) : invM (lastD m) p = some 1 := by
  rw [h.last]
  exact invM_one h.p1 h.p2
theorem Rw.le {p q : Int} {xs : List Int} (h : Rw p xs) (hq : p ≤ q) : Rw q xs := fun x hx => ⟨(h x hx).1, by have := (h x hx).2; omega⟩
def spMemberProduct (K : PySem.W.Frag) : Sp := fun vs H Q _ => ∃ (a b c : Addr) (xs ys m : List Int) (p : Int), vs = [.ref a, .ref b, .ref c, .int p] ∧ IT K H a xs ∧ IT K H b ys ∧ IT K H c m ∧ xs.length ≤ 200 ∧ ys.length ≤ 200 ∧ Mon m p ∧
  ∀ q H', Ex H H' → IT K H' q (prodP xs ys m p) → Q (.ref q) H'
theorem scMemberProduct : FnScope ["a", "b", "modulus", "p", "row"] ["a", "b", "modulus", "p"] (defScope sMemberProduct) := ⟨rfl, rfl, rfl, by decide +kernel, rfl, by decide +kernel, by decide +kernel⟩
theorem mulR_length (a b : List Int) (p : Int) : (mulR a b p).length ≤ a.length + b.length := by
  have h := trim_length p (conv a b)
  rw [conv_length] at h
  exact h
theorem fn_member_product (T : Txt K mg) : Fn P w K mg base "member_product" 3 ["a", "b", "modulus", "p"] (spMemberProduct K) := by
  obtain ⟨f, fd, F, hm⟩ := T.member_product.ex
  have B := T.B
  have F_trimmed := fn_trimmed (P := P) (w := w) (base := base) T
  have F_multiply_rows := fn_multiply_rows (P := P) (w := w) (base := base) T
  have F_divide_rows := fn_divide_rows (P := P) (w := w) (base := base) T
  have F_member_of := fn_member_of (P := P) (w := w) (base := base) T
  refine ⟨f, fd, F.ok scMemberProduct (fun vs H Q E h => ?_) (fun cdv A outer s H vs Q E hr h => ?_), hm, F.kp, F.binds fun _ _ _ _ _ _ us hl => match us, hl with | [_, _, _, _], _ => rfl⟩
  · obtain ⟨a, b, c, xs, ys, m, p, rfl, _⟩ := h
    rfl
  · obtain ⟨a, b, c, xs, ys, m, p, rfl, ha, hb, hc, hl1, hl2, M, k⟩ := h
    have hp : 0 < p := by have := M.p1; omega
    have hm1 := M.len
    have hm2 := M.top
    have t1 := trim_length p xs
    have t2 := trim_length p ys
    have t3 := mulR_length (trim p xs) (trim p ys) p
    refine ⟨_, (pss_cons (ps_set (i := 4) scMemberProduct.nd rfl (Or.inl rfl) (pcall F_multiply_rows (hr.mono (by decide)) (pa_cons (pcall F_trimmed (hr.mono (by decide)) (pa_cons (pv 0) (pa_cons (pv 3) pa_nil))) (pa_cons (pcall F_trimmed (hr.mono (by decide)) (pa_cons (pv 1) (pa_cons (pv 3) pa_nil))) (pa_cons (pv 3) pa_nil))))) (pss_one (ps_ret (pcall F_member_of (hr.mono (by decide)) (pa_cons (pe_ix ix_tup (pcall F_divide_rows (hr.mono (by decide)) (pa_cons (pv 4) (pa_cons (pv 2) (pa_cons (pv 3) pa_nil)))) pe_int (fun _ _ => rfl)) (pa_cons (pe_op op_sub (bLen B (pv 2)) pe_int) pa_nil)))))), ?_⟩
    walk_at "rd"
    refine ⟨a, xs, p, rfl, .inr ha, by omega, hp, fun q1 H1 e1 h1 => ?_⟩
    walk_at "rd"
    refine ⟨b, ys, p, rfl, .inr (ex_t e1 hb), by omega, hp, fun q2 H2 e2 h2 => ?_⟩
    walk_at "rd"
    refine ⟨q1, q2, _, _, p, rfl, ex_t e2 h1, h2, by omega, by omega, hp, (trim_rw hp xs).le M.p2, fun q3 H3 e3 h3 => ?_⟩
    walk_at "rd"
    have e13 := (e1.trans e2).trans e3
    refine ⟨q3, c, _, m, p, 1, rfl, h3, ex_t e13 hc, by omega, by omega, M.ne, hp, M.p2, M.inv, fun t H4 e4 h4 => ?_⟩
    walk_at "rd"
    refine h4.snd fun r hr' => ?_
    walk_at "rd"
    refine n_len (.inr (ex_t (e13.trans e4) hc)) ?_
    walk_at "rd"
    rw [lenI]
    have t4 := divR_length (mulR (trim p xs) (trim p ys) p) m p 1
    refine ⟨r, _, _, rfl, hr', by omega, by omega, by omega, fun q H5 e5 h5 => k q H5 ((e13.trans e4).trans e5) h5⟩
end
end Fm
set_option Elab.async false
set_option linter.all false
set_option maxRecDepth 100000
set_option maxHeartbeats 4000000
namespace Fm
open PySem PySem.Spec PyProof.Rows L2 Evl RZ
local macro_rules | `(tactic| walk_at "r1") => `(tactic| first
  | ((with_reducible refine d_var (v := ?v1) ?h1 ?q1); (case h1 => rfl))
  | with_reducible (first
  | refine d_c ?_ | refine d_op ?_ | refine d_un ?_ | refine d_I0 ?_ | refine d_U ?_ | refine d_eq ?_ | refine d_ne ?_ | refine d_cb ?_ | refine d_nil ?_ | refine d_cons ?_ | refine d_call ?_
  | refine d_fld ?_ | refine d_test ?_ | refine d_B ?_ | refine d_bl ?_ | refine d_and ?_ | refine d_or ?_ | refine d_not ?_ | refine d_andV ?_ | refine d_orV ?_ | refine d_notV ?_ | refine d_if ?_
  | refine d_tup ?_ | refine d_lst ?_ | refine d_lc ?_ | refine d_bm ?_ | refine d_bm0 ?_ | refine d_meth ?_ | refine d_make ?_
  | refine s_seq ?_ | refine s_next ?_ | refine s_brk ?_ | refine s_asg ?_ | refine s_drop ?_ | refine s_ret ?_ | refine s_ifs ?_ | refine s_par ?_ | refine s_two ?_ | refine s_fld ?_
  | refine g_name ?_ | refine g_sub ?_ | refine g_cons ?_ | refine g_nil ?_
  | refine s_for ?_ | refine w_rng1 ?_ | refine w_rng2 ?_ | refine w_rng3 ?_ | refine w_list ?_ | refine w_tup ?_ | refine w_rev ?_ | refine w_enT ?_ | refine w_zip ?_ | refine w_zipA ?_
  | refine n_int ?_ | refine n_max ?_ | refine n_abs ?_ | refine b_tt ?_ | refine b_ff ?_ | refine b_nt ?_ | refine b_nf ?_))
local macro_rules | `(tactic| walk_at "rd") => `(tactic| repeat walk_at "r1")
section
variable {P : Program} {w : World} {K : PySem.W.Frag} {mg : Str → Option Value} {base : Heap}

/-! ### common_row -/
def spCommonRow (K : PySem.W.Frag) : Sp := fun vs H Q _ => ∃ (a b : Addr) (xs ys g : List Int) (p : Int) (n : Nat), vs = [.ref a, .ref b, .int p] ∧ IT K H a xs ∧ IT K H b ys ∧ xs.length ≤ 400 ∧ ys.length ≤ 400 ∧ Rw p xs ∧ Rw p ys ∧ 1 < p ∧ p ≤ 1000 ∧
  gcdR p n xs ys = some g ∧ ∀ q H', Ex H H' → IT K H' q g → Q (.ref q) H'
theorem gcd_none {p : Int} {n : Nat} {xs ys g : List Int} (h : gcdR p n xs ys = some g) : ∃ n', n = n' + 1 ∧
    (ys.length = 0 → (xs.length = 0 → g = []) ∧ (xs.length ≠ 0 → ∃ r, invM (lastD xs) p = some r ∧ g = mulR xs [r] p)) ∧
    (ys.length ≠ 0 → ∃ r, invM (lastD ys) p = some r ∧ gcdR p n' ys (divR xs ys p r).2 = some g) := by
  cases n with
  | zero => cases h
  | succ n' =>
    refine ⟨n', rfl, fun h0 => ?_, fun h0 => ?_⟩
    · unfold gcdR at h
      rw [if_pos h0] at h
      refine ⟨fun h1 => ?_, fun h1 => ?_⟩
      · rw [if_pos h1] at h
        exact (Option.some.inj h).symm
      · rw [if_neg h1] at h
        cases e : invM (lastD xs) p with
        | none => rw [e] at h; cases h
        | some r => rw [e] at h; exact ⟨r, rfl, (Option.some.inj h).symm⟩
    · unfold gcdR at h
      rw [if_neg h0] at h
      unfold remO at h
      cases e : invM (lastD ys) p with
      | none => rw [e] at h; cases h
      | some r => rw [e] at h; exact ⟨r, rfl, h⟩
theorem sc_common_row : FnScope ["a", "b", "p"] ["a", "b", "p"] (defScope (top 17)) := ⟨rfl, rfl, rfl, by decide +kernel, rfl, by decide +kernel, by decide +kernel⟩
theorem fn_common_row (T : Txt K mg) : Fn P w K mg base "common_row" 3 ["a", "b", "p"] (spCommonRow K) := by
  obtain ⟨f, fd, F, hm⟩ := T.common_row.ex
  have B := T.B
  have F_divide_rows := fn_divide_rows (P := P) (w := w) (base := base) T
  have F_multiply_rows := fn_multiply_rows (P := P) (w := w) (base := base) T
  have F_inverse_modulo := fn_inverse_modulo (P := P) (w := w) (base := base) T
  refine ⟨f, fd, F.ok sc_common_row (fun vs H Q E h => ?_) (fun cdv A outer s H vs Q E hr h => ?_), hm, F.kp, F.binds fun _ _ _ _ _ _ us hl => match us, hl with | [_, _, _], _ => rfl⟩
  · obtain ⟨a, b, xs, ys, g, p, n, rfl, _⟩ := h
    rfl
  · obtain ⟨a, b, xs, ys, g, p, n, rfl, ha, hb, hl1, hl2, rx, ry, hp, hp2, hg, k⟩ := h
    refine ⟨_, (pss_cons (ps_while PassesOwn.never (pt_cmpR op_gt (bLen B (pv 1)) pe_int (nomark _)) (pss_one (ps_par (i := 0) (j := 1) rfl sc_common_row.nd rfl rfl (by decide) rfl rfl (pa_cons (pv 1) (pa_cons (pe_ix ix_tup (pcall F_divide_rows (hr.mono (by decide)) (pa_cons (pv 0) (pa_cons (pv 1) (pa_cons (pv 2) pa_nil)))) pe_int (fun _ _ => rfl)) pa_nil)) (by rfl)))) (pss_cons (ps_if (pt_cmpR op_eq (bLen B (pv 0)) pe_int (nomark _)) (pss_one (ps_ret (pe_tup pa_nil))) pss_nil) (pss_one (ps_ret (pcall F_multiply_rows (hr.mono (by decide)) (pa_cons (pv 0) (pa_cons (pe_tup (pa_cons (pcall F_inverse_modulo (hr.mono (by decide)) (pa_cons (pe_ix ix_tup (pv 0) (pe_op op_sub (bLen B (pv 0)) pe_int) (fun _ _ => rfl)) (pa_cons (pv 2) pa_nil))) pa_nil)) (pa_cons (pv 2) pa_nil)))))))), ?_⟩
    walk_at "rd"
    refine s_while (fun m σ H' => ∃ (a b : Addr) (xs ys : List Int), σ = [some (.ref a), some (.ref b), some (.int p)] ∧ Ex H H' ∧ IT K H' a xs ∧ IT K H' b ys ∧ xs.length ≤ 400 ∧ ys.length ≤ 400 ∧ Rw p xs ∧ Rw p ys ∧ gcdR p m xs ys = some g)
      n ⟨a, b, xs, ys, rfl, Ex.refl _, ha, hb, hl1, hl2, rx, ry, hg⟩ ?_
    clear ha hb hl1 hl2 rx ry hg xs ys a b
    rintro m σ H' ⟨a, b, xs, ys, rfl, e0, ha, hb, hl1, hl2, rx, ry, hg⟩
    obtain ⟨m', rfl, hz, hnz⟩ := gcd_none hg
    walk_at "rd"
    refine n_len (.inr hb) ?_
    walk_at "rd"
    rw [lenI]
    refine b_if (fun hpos => ?_) (fun hneg => ?_)
    · obtain ⟨r, hi, hg2⟩ := hnz (by omega)
      refine w_true ?_
      walk_at "rd"
      refine ⟨a, b, xs, ys, p, r, rfl, ha, hb, by omega, by omega, fun q => by rw [q] at hpos; simp at hpos, by omega, hp2, hi, fun t H1 e1 h1 => ?_⟩
      walk_at "rd"
      refine h1.snd fun c hc => ?_
      walk_at "rd"
      refine ⟨m', Nat.lt_succ_self _, b, c, _, _, rfl, e0.trans e1, ex_t e1 hb, hc, hl2, ?_, ry, (divR_rw (by omega) _ _ _).2, hg2⟩
      have := divR_length xs ys p r
      omega
    · obtain ⟨h1, h2⟩ := hz (by omega)
      walk_at "rd"
      refine n_len (.inr ha) ?_
      walk_at "rd"
      rw [lenI]
      refine b_if (fun hx => ?_) (fun hx => ?_)
      · walk_at "rd"
        refine n_tup0 fun q H2 hq e2 h3 => ?_
        refine k q H2 (e0.trans e2) ?_
        rw [h1 (by omega)]
        exact .inl (.inl h3)
      · obtain ⟨r, hi, rfl⟩ := h2 (by omega)
        walk_at "rd"
        refine n_len (.inr ha) ?_
        walk_at "rd"
        rw [lenI]
        refine n_ixTi (v := .int (lastD xs)) ha (by omega) (by rw [show (((xs.length : Nat) : Int) - 1).toNat = xs.length - 1 by omega]; exact atD (by omega)) ?_
        walk_at "rd"
        refine ⟨lastD xs, p, r, rfl, by omega, hi, fun H1 e1 => ?_⟩
        walk_at "rd"
        refine n_tup1 fun q1 H2 hq e2 h3 => ?_
        walk_at "rd"
        refine ⟨a, q1, xs, [r], p, rfl, ex_t (e1.trans e2) ha, .inl (.inl h3), by omega, by simp, by omega, rx.le hp2, fun q H3 e3 h4 => k q H3 (((e0.trans e1).trans e2).trans e3) h4⟩

/-! ### power_row -/
def spPowerRow (K : PySem.W.Frag) : Sp := fun vs H Q _ => ∃ (a b : Addr) (xs m : List Int) (k p : Int), vs = [.ref a, .int k, .ref b, .int p] ∧ IT K H a xs ∧ IT K H b m ∧ xs.length ≤ 400 ∧ Mon m p ∧ 0 ≤ k ∧ k < 1024 ∧
  ∀ q H', Ex H H' → IT K H' q (powR xs k m p) → Q (.ref q) H'
theorem powL_zero {m : List Int} {p : Int} {n : Nat} {out bs : List Int} : powL m p n 0 out bs = out := by
  cases n with
  | zero => rfl
  | succ n => unfold powL; rw [if_neg (by omega)]
theorem sc_power_row : FnScope ["a", "k", "m", "p", "out", "base"] ["a", "k", "m", "p"] (defScope (top 18)) := ⟨rfl, rfl, rfl, by decide +kernel, rfl, by decide +kernel, by decide +kernel⟩
theorem fn_power_row (T : Txt K mg) : Fn P w K mg base "power_row" 3 ["a", "k", "m", "p"] (spPowerRow K) := by
  obtain ⟨f, fd, F, hm⟩ := T.power_row.ex
  have B := T.B
  have F_divide_rows := fn_divide_rows (P := P) (w := w) (base := base) T
  have F_multiply_rows := fn_multiply_rows (P := P) (w := w) (base := base) T
  refine ⟨f, fd, F.ok sc_power_row (fun vs H Q E h => ?_) (fun cdv A outer s H vs Q E hr h => ?_), hm, F.kp, F.binds fun _ _ _ _ _ _ us hl => match us, hl with | [_, _, _, _], _ => rfl⟩
  · obtain ⟨a, b, xs, m, k, p, rfl, _⟩ := h
    rfl
  · obtain ⟨a, b, xs, m, k0, p, rfl, ha, hb, hl1, M, hk0, hk1, kont⟩ := h
    have hp : 0 < p := by have := M.p1; omega
    have hm1 := M.len
    have hm2 := M.top
    have rl : ∀ zs, (remM zs m p).length ≤ 200 := fun zs => by have := remM_length (a := zs) (p := p) M.ne M.last; omega
    have rr : ∀ zs, Rw 1000 (remM zs m p) := fun zs => (remM_rw hp zs m).le M.p2
    have ml : ∀ ys zs, (mulR (remM ys m p) (remM zs m p) p).length ≤ 400 := fun ys zs => by have := mulR_length (remM ys m p) (remM zs m p) p; have := rl ys; have := rl zs; omega
    refine ⟨_, (pss_cons (ps_set (i := 4) sc_power_row.nd rfl (Or.inl rfl) (pe_ix ix_tup (pcall F_divide_rows (hr.mono (by decide)) (pa_cons (pe_tup (pa_cons pe_int pa_nil)) (pa_cons (pv 2) (pa_cons (pv 3) pa_nil)))) pe_int (fun _ _ => rfl))) (pss_cons (ps_set (i := 5) sc_power_row.nd rfl (Or.inl rfl) (pe_ix ix_tup (pcall F_divide_rows (hr.mono (by decide)) (pa_cons (pv 0) (pa_cons (pv 2) (pa_cons (pv 3) pa_nil)))) pe_int (fun _ _ => rfl))) (pss_cons (ps_while PassesOwn.never (pt_cmpR op_gt (pv 1) pe_int (nomark _)) (pss_cons (ps_if (pt_cmpR op_eq (pe_op op_mod (pv 1) pe_int) pe_int (nomark _)) (pss_one (ps_set (i := 4) sc_power_row.nd rfl (Or.inl rfl) (pe_ix ix_tup (pcall F_divide_rows (hr.mono (by decide)) (pa_cons (pcall F_multiply_rows (hr.mono (by decide)) (pa_cons (pv 4) (pa_cons (pv 5) (pa_cons (pv 3) pa_nil)))) (pa_cons (pv 2) (pa_cons (pv 3) pa_nil)))) pe_int (fun _ _ => rfl)))) pss_nil) (pss_cons (ps_set (i := 5) sc_power_row.nd rfl (Or.inl rfl) (pe_ix ix_tup (pcall F_divide_rows (hr.mono (by decide)) (pa_cons (pcall F_multiply_rows (hr.mono (by decide)) (pa_cons (pv 5) (pa_cons (pv 5) (pa_cons (pv 3) pa_nil)))) (pa_cons (pv 2) (pa_cons (pv 3) pa_nil)))) pe_int (fun _ _ => rfl))) (pss_one (ps_set (i := 1) sc_power_row.nd rfl (Or.inl rfl) (pe_op op_fdiv (pv 1) pe_int)))))) (pss_one (ps_ret (pv 4)))))), ?_⟩
    walk_at "rd"
    refine n_tup1 fun q1 H1 hq1 e1 h1 => ?_
    walk_at "rd"
    refine ⟨q1, b, [1], m, p, 1, rfl, .inl (.inl h1), ex_t e1 hb, by simp, by omega, M.ne, hp, M.p2, M.inv, fun t H2 e2 h2 => ?_⟩
    walk_at "rd"
    refine h2.snd fun o ho => ?_
    walk_at "rd"
    refine ⟨a, b, xs, m, p, 1, rfl, ex_t (e1.trans e2) ha, ex_t (e1.trans e2) hb, by omega, by omega, M.ne, hp, M.p2, M.inv, fun t H3 e3 h3 => ?_⟩
    walk_at "rd"
    refine h3.snd fun bs hbs => ?_
    walk_at "rd"
    refine s_while (fun n σ H' => ∃ (k : Int) (o bs : Addr) (os zs : List Int), σ = [some (.ref a), some (.int k), some (.ref b), some (.int p), some (.ref o), some (.ref bs)] ∧ Ex H H' ∧ IT K H' o (remM os m p) ∧ IT K H' bs (remM zs m p) ∧ 0 ≤ k ∧ k < 2 ^ n ∧
      powL m p n k (remM os m p) (remM zs m p) = powR xs k0 m p) 10 ⟨k0, o, bs, [1], xs, rfl, (e1.trans e2).trans e3, ex_t e3 ho, hbs, hk0, by omega, rfl⟩ ?_
    clear ho hbs e1 e2 e3 h1 h2 h3
    rintro n σ H0 ⟨k, o, bs, os, zs, rfl, e0, ho, hbs, hk0, hk1, he⟩
    walk_at "rd"
    refine b_if (fun hpos => ?_) (fun hneg => ?_)
    · refine w_true ?_
      cases n with
      | zero => omega
      | succ n =>
      have hkd : 0 ≤ k / 2 := Int.ediv_nonneg hk0 (by omega)
      have hkd2 : k / 2 < 2 ^ n := by
        rw [Int.pow_succ] at hk1
        omega
      unfold powL at he
      rw [if_pos hpos] at he
      walk_at "rd"
      refine d_I (by omega) ?_
      walk_at "rd"
      refine b_if (fun hodd => ?_) (fun heven => ?_)
      · rw [if_pos hodd] at he
        walk_at "rd"
        refine ⟨o, bs, _, _, p, rfl, ho, hbs, by have := rl os; omega, by have := rl zs; omega, hp, rr os, fun s1 H3 e3 h3 => ?_⟩
        walk_at "rd"
        refine ⟨s1, b, _, m, p, 1, rfl, h3, ex_t (e0.trans e3) hb, by have := ml os zs; omega, by omega, M.ne, hp, M.p2, M.inv, fun t H4 e4 h4 => ?_⟩
        walk_at "rd"
        refine h4.snd fun o2 ho2 => ?_
        walk_at "rd"
        refine ⟨bs, bs, _, _, p, rfl, ex_t (e3.trans e4) hbs, ex_t (e3.trans e4) hbs, by have := rl zs; omega, by have := rl zs; omega, hp, rr zs, fun s1 H5 e5 h5 => ?_⟩
        walk_at "rd"
        refine ⟨s1, b, _, m, p, 1, rfl, h5, ex_t (((e0.trans e3).trans e4).trans e5) hb, by have := ml zs zs; omega, by omega, M.ne, hp, M.p2, M.inv, fun t H6 e6 h6 => ?_⟩
        walk_at "rd"
        refine h6.snd fun bs2 hbs2 => ?_
        walk_at "rd"
        refine d_I ⟨by omega, by omega⟩ ?_
        walk_at "rd"
        exact ⟨n, Nat.lt_succ_self _, k / 2, o2, bs2, _, _, rfl, (((e0.trans e3).trans e4).trans e5).trans e6, ex_t (e5.trans e6) ho2, hbs2, hkd, hkd2, he⟩
      · rw [if_neg heven] at he
        walk_at "rd"
        refine ⟨bs, bs, _, _, p, rfl, hbs, hbs, by have := rl zs; omega, by have := rl zs; omega, hp, rr zs, fun s1 H5 e5 h5 => ?_⟩
        walk_at "rd"
        refine ⟨s1, b, _, m, p, 1, rfl, h5, ex_t ((e0).trans e5) hb, by have := ml zs zs; omega, by omega, M.ne, hp, M.p2, M.inv, fun t H6 e6 h6 => ?_⟩
        walk_at "rd"
        refine h6.snd fun bs2 hbs2 => ?_
        walk_at "rd"
        refine d_I ⟨by omega, by omega⟩ ?_
        walk_at "rd"
        exact ⟨n, Nat.lt_succ_self _, k / 2, o, bs2, _, _, rfl, ((e0).trans e5).trans e6, ex_t (e5.trans e6) ho, hbs2, hkd, hkd2, he⟩
    · walk_at "rd"
      refine kont o H0 e0 ?_
      have : k = 0 := by omega
      rw [this, powL_zero] at he
      rw [← he]
      exact ho

/-! ### is_irreducible_row -/
def spIsIrr (K : PySem.W.Frag) : Sp := fun vs H Q _ => ∃ (a : Addr) (m : List Int) (p : Int), vs = [.ref a, .int p] ∧ IT K H a m ∧ Mon m p ∧ irrP m p = true ∧ ∀ H', Ex H H' → Q (.bl true) H'
theorem irrS_lt {m : List Int} {p : Int} : ∀ {n t : Nat}, (irrS m p n).isSome = true → t ≤ n → (irrS m p t).isSome = true
  | 0, t, h, ht => by rw [Nat.le_zero.mp ht]; exact h
  | n + 1, t, h, ht => by
    by_cases e : t = n + 1
    · rw [e]; exact h
    · refine irrS_lt (n := n) ?_ (by omega)
      unfold irrS at h
      cases q : irrS m p n with
      | none => rw [q] at h; cases h
      | some _ => rfl
theorem irr_step {m w : List Int} {p : Int} {n t : Nat} (h : (irrS m p n).isSome = true) (ht : t < n) (hw : irrS m p t = some w) :
    ∃ g, gcdR p 20 m (subR (powR w p m p) [0, 1] p) = some g ∧ g.length = 1 ∧ irrS m p (t + 1) = some (powR w p m p) := by
  have q := irrS_lt (t := t + 1) h ht
  unfold irrS at q ⊢
  rw [hw] at q ⊢
  simp only at q ⊢
  cases e : gcdR p 20 m (subR (powR w p m p) [0, 1] p) with
  | none => rw [e] at q; cases q
  | some g =>
    rw [e] at q
    simp only at q ⊢
    by_cases hg : g.length = 1
    · exact ⟨g, rfl, hg, by rw [if_pos hg]⟩
    · rw [if_neg hg] at q; cases q
theorem powR_rw {xs m : List Int} {k p : Int} (hp : 0 < p) : Rw p (powR xs k m p) := by
  unfold powR
  generalize hn : 10 = n
  have q : ∀ (n : Nat) (k : Int) (o b : List Int), Rw p o → Rw p (powL m p n k o b) := by
    intro n
    induction n with
    | zero => intro k o b h; exact h
    | succ n ih =>
      intro k o b h
      unfold powL
      split
      · refine ih _ _ _ ?_
        split
        · exact remM_rw hp _ _
        · exact h
      · exact h
  exact q _ _ _ _ (remM_rw hp _ _)
theorem powR_length {xs m : List Int} {k p : Int} (M : Mon m p) : (powR xs k m p).length < m.length := by
  unfold powR
  have q : ∀ (n : Nat) (k : Int) (o b : List Int), o.length < m.length → (powL m p n k o b).length < m.length := by
    intro n
    induction n with
    | zero => intro k o b h; exact h
    | succ n ih =>
      intro k o b h
      unfold powL
      split
      · refine ih _ _ _ ?_
        split
        · exact remM_length M.ne M.last
        · exact h
      · exact h
  exact q _ _ _ _ (remM_length M.ne M.last)
theorem addR_length (a b : List Int) (p : Int) : (addR a b p).length ≤ max a.length b.length := by
  unfold addR
  refine Nat.le_trans (trim_length _ _) ?_
  rw [List.length_zipWith]
  have := padR_length a (max a.length b.length : Nat) (by omega)
  have := padR_length b (max a.length b.length : Nat) (by omega)
  omega
theorem subR_length (a b : List Int) (p : Int) : (subR a b p).length ≤ max a.length b.length := by
  have := addR_length a (b.map (- ·)) p
  rw [List.length_map] at this
  exact this
theorem sc_is_irreducible_row : FnScope ["m", "p", "n", "power", "_"] ["m", "p"] (defScope (top 19)) := ⟨rfl, rfl, rfl, by decide +kernel, rfl, by decide +kernel, by decide +kernel⟩
theorem fn_is_irreducible_row (T : Txt K mg) : Fn P w K mg base "is_irreducible_row" 4 ["m", "p"] (spIsIrr K) := by
  obtain ⟨f, fd, F, hm⟩ := T.is_irreducible_row.ex
  have B := T.B
  have F_divide_rows := fn_divide_rows (P := P) (w := w) (base := base) T
  have F_power_row := fn_power_row (P := P) (w := w) (base := base) T
  have F_subtract_rows := fn_subtract_rows (P := P) (w := w) (base := base) T
  have F_common_row := fn_common_row (P := P) (w := w) (base := base) T
  refine ⟨f, fd, F.ok sc_is_irreducible_row (fun vs H Q E h => ?_) (fun cdv A outer s H vs Q E hr h => ?_), hm, F.kp, F.binds fun _ _ _ _ _ _ us hl => match us, hl with | [_, _], _ => rfl⟩
  · obtain ⟨a, m, p, rfl, _⟩ := h
    rfl
  · obtain ⟨a, m, p, rfl, ha, M, hi, kont⟩ := h
    have hp : 0 < p := by have := M.p1; omega
    have hp1 := M.p1
    have hp2 := M.p2
    have hm1 := M.len
    have hm2 := M.top
    refine ⟨_, (pss_cons (ps_set (i := 2) sc_is_irreducible_row.nd rfl (Or.inl rfl) (pe_op op_sub (bLen B (pv 0)) pe_int)) (pss_cons (ps_if (pt_cmpR op_lt (pv 2) pe_int (nomark _)) (pss_one (ps_ret pe_bl)) pss_nil) (pss_cons (ps_set (i := 3) sc_is_irreducible_row.nd rfl (Or.inl rfl) (pe_ix ix_tup (pcall F_divide_rows (hr.mono (by decide)) (pa_cons (pe_tup (pa_cons pe_int (pa_cons pe_int pa_nil))) (pa_cons (pv 0) (pa_cons (pv 1) pa_nil)))) pe_int (fun _ _ => rfl))) (pss_cons (ps_for PassesOwn.never rfl (pi_range1 rfl B.range (pa_cons (pe_op op_fdiv (pv 2) pe_int) pa_nil)) (pg_name (i := 4) sc_is_irreducible_row.nd rfl (Or.inl rfl)) (pss_cons (ps_set (i := 3) sc_is_irreducible_row.nd rfl (Or.inl rfl) (pcall F_power_row (hr.mono (by decide)) (pa_cons (pv 3) (pa_cons (pv 1) (pa_cons (pv 0) (pa_cons (pv 1) pa_nil)))))) (pss_one (ps_if (pt_cmpR op_ne (bLen B (pcall F_common_row (hr.mono (by decide)) (pa_cons (pv 0) (pa_cons (pcall F_subtract_rows (hr.mono (by decide)) (pa_cons (pv 3) (pa_cons (pe_tup (pa_cons pe_int (pa_cons pe_int pa_nil))) (pa_cons (pv 1) pa_nil)))) (pa_cons (pv 1) pa_nil))))) pe_int (nomark _)) (pss_one (ps_ret pe_bl)) pss_nil)))) (pss_one (ps_ret pe_bl)))))), ?_⟩
    walk_at "rd"
    refine n_len (.inr ha) ?_
    walk_at "rd"
    rw [lenI]
    refine b_F (by omega) ?_
    walk_at "rd"
    refine n_tup2 fun q1 H1 hq1 e1 h1 => ?_
    walk_at "rd"
    refine ⟨q1, a, [0, 1], m, p, 1, rfl, .inl (.inl h1), ex_t e1 ha, by simp, by omega, M.ne, hp, M.p2, M.inv, fun t H2 e2 h2 => ?_⟩
    walk_at "rd"
    refine h2.snd fun b hb => ?_
    walk_at "rd"
    refine d_I ⟨by omega, by omega⟩ ?_
    have hn : ((m.length : Int) - 1) / 2 = (((m.length - 1) / 2 : Nat) : Int) := by omega
    rw [hn]
    refine f_rng1 ⟨by omega, by omega⟩ (fun t σ H' => ∃ (b : Addr) (v : Option V) (u : List Int), σ = [some (.ref a), some (.int p), some (.int ((m.length : Int) - 1)), some (.ref b), v] ∧ Ex H H' ∧ IT K H' b u ∧ u.length < m.length ∧ Rw p u ∧ irrS m p t = some u)
      ⟨b, _, _, rfl, e1.trans e2, hb, remM_length M.ne M.last, remM_rw hp _ _, rfl⟩ ?_ ?_
    · rintro t σ H3 ht ⟨b, v, u, rfl, e3, hb, hul, hur, hu⟩
      obtain ⟨g, hg, hg1, hu2⟩ := irr_step (show (irrS m p ((m.length - 1) / 2)).isSome = true from hi) (by omega) hu
      have hpl := powR_length (xs := u) (k := p) M
      walk_at "rd"
      refine ⟨b, a, u, m, p, p, rfl, hb, ex_t e3 ha, by omega, M, by omega, by omega, fun q4 H4 e4 h4 => ?_⟩
      walk_at "rd"
      refine n_tup2 fun q5 H5 hq5 e5 h5 => ?_
      walk_at "rd"
      refine ⟨q4, q5, _, [0, 1], p, rfl, ex_t e5 h4, .inl (.inl h5), by omega, by simp, hp, fun q6 H6 e6 h6 => ?_⟩
      have e36 := ((e3.trans e4).trans e5).trans e6
      have sl := subR_length (powR u p m p) [0, 1] p
      walk_at "rd"
      refine ⟨a, q6, m, _, g, p, 20, rfl, ex_t e36 ha, h6, by omega, by simp at sl; omega, M.rw, trim_rw hp _, M.p1, M.p2, hg, fun q7 H7 e7 h7 => ?_⟩
      walk_at "rd"
      refine n_len (.inr h7) ?_
      walk_at "rd"
      rw [lenI]
      refine b_NF (by omega) ?_
      walk_at "rd"
      exact ⟨q4, _, _, rfl, e36.trans e7, ex_t ((e5.trans e6).trans e7) h4, hpl, powR_rw hp, hu2⟩
    · rintro σ H3 ⟨b, v, u, rfl, e3, _⟩
      walk_at "rd"
      exact kont _ e3
end
end Fm
set_option Elab.async false
set_option linter.all false
set_option maxRecDepth 100000
set_option maxHeartbeats 4000000
namespace Fm
open PySem PySem.Spec PyProof.Rows L2 Evl RZ
local macro_rules | `(tactic| walk_at "r1") => `(tactic| first
  | ((with_reducible refine d_var (v := ?v1) ?h1 ?q1); (case h1 => rfl))
  | with_reducible (first
  | refine d_c ?_ | refine d_op ?_ | refine d_un ?_ | refine d_I0 ?_ | refine d_U ?_ | refine d_eq ?_ | refine d_ne ?_ | refine d_cb ?_ | refine d_nil ?_ | refine d_cons ?_ | refine d_call ?_
  | refine d_fld ?_ | refine d_test ?_ | refine d_B ?_ | refine d_bl ?_ | refine d_and ?_ | refine d_or ?_ | refine d_not ?_ | refine d_andV ?_ | refine d_orV ?_ | refine d_notV ?_ | refine d_if ?_
  | refine d_tup ?_ | refine d_lst ?_ | refine d_lc ?_ | refine d_bm ?_ | refine d_bm0 ?_ | refine d_meth ?_ | refine d_make ?_
  | refine s_seq ?_ | refine s_next ?_ | refine s_brk ?_ | refine s_asg ?_ | refine s_drop ?_ | refine s_ret ?_ | refine s_ifs ?_ | refine s_par ?_ | refine s_two ?_ | refine s_fld ?_
  | refine g_name ?_ | refine g_sub ?_ | refine g_cons ?_ | refine g_nil ?_
  | refine s_for ?_ | refine w_rng1 ?_ | refine w_rng2 ?_ | refine w_rng3 ?_ | refine w_list ?_ | refine w_tup ?_ | refine w_rev ?_ | refine w_enT ?_ | refine w_zip ?_ | refine w_zipA ?_
  | refine n_int ?_ | refine n_max ?_ | refine n_abs ?_ | refine b_tt ?_ | refine b_ff ?_ | refine b_nt ?_ | refine b_nf ?_))
local macro_rules | `(tactic| walk_at "rd") => `(tactic| repeat walk_at "r1")
/-! ### isinstance -/
section
variable {X : Cx} {e c : Expr} {ta tb : TE} {p pos tp : Pos} {cs : List Expr} {t : TA}
theorem bIsi (B : Bi X.mg) (ha : PE X e ta) (hb : PE X c tb) (hg : Gl X "isinstance" := by rfl) (he : starEach [e, c] X.env = (false, eval e X.env) :: starEach [c] X.env := by rfl) (he2 : starEach [c] X.env = (false, eval c X.env) :: starEach [] X.env := by rfl) :
    PE X (.Call (.Name "isinstance" p) [e, c] [] pos) (tCB (rIsi X.K) (tCons ta (tCons tb tNil))) :=
  pe_callB (call_isi (X := X)) hg B.isinstance (by decide +kernel) (pa_cons ha (pa_cons hb pa_nil he2) he) (he := he) (hpl := by rw [he2] <;> rfl)
theorem bIsiT {k : Nat} (B : Bi X.mg) (ha : PE X e ta) (hc : PA X cs t) (hg : Gl X "isinstance" := by rfl) (he : starEach [e, .Tuple cs k tp] X.env = (false, eval e X.env) :: starEach [.Tuple cs k tp] X.env := by rfl)
    (he2 : starEach [.Tuple cs k tp] X.env = (false, eval (.Tuple cs k tp) X.env) :: starEach [] X.env := by rfl) :
    PE X (.Call (.Name "isinstance" p) [e, .Tuple cs k tp] [] pos) (tCB (rIsiT X.K) (tCons ta (tCons (tTup t) tNil))) :=
  pe_callB (call_isiT (X := X)) hg B.isinstance (by decide +kernel) (pa_cons ha (pa_cons (pe_tup hc) pa_nil he2) he) (he := he) (hpl := by rw [he2] <;> rfl)
end
section
variable {K : PySem.W.Frag} {H : Hp} {Q : VK}
theorem n_isi {x : V} {t : Value} {T : String} {b : Bool} (h : TyX K H x t) (hk : PySem.W.kitOne K t (.type T) = some b) (q : Q (.bl b) H) : rIsi K [x, .ty T] H Q := ⟨x, .ty T, t, .type T, b, rfl, .ty T, h, hk, q⟩
theorem tyx_tup {a : Addr} {xs : List V} (h : SqT K H a xs) : TyX K H (.ref a) (.type "tuple") := by
  rcases h with (h | ⟨o, h⟩) | ⟨o, its, n, h1, h2, _⟩
  · exact .base (.tup h)
  · exact .fTuple h
  · exact .kTuple h1 h2
theorem n_isInt {i : Int} (q : Q (.bl true) H) : rIsi K [.int i, .ty "int"] H Q := n_isi (.base (.int i)) (kit_ty (by decide +kernel)) q
theorem n_isBool {i : Int} (q : Q (.bl false) H) : rIsi K [.int i, .ty "bool"] H Q := n_isi (.base (.int i)) (kit_ty (by decide +kernel)) q
theorem n_isTup {a : Addr} {xs : List V} (h : SqT K H a xs) (q : Q (.bl true) H) : rIsi K [.ref a, .ty "tuple"] H Q := n_isi (tyx_tup h) (kit_ty (by decide +kernel)) q
theorem n_isTupN (q : Q (.bl false) H) : rIsi K [.non, .ty "tuple"] H Q := n_isi (.base .non) (kit_ty (by decide +kernel)) q
theorem n_isTL {a tp : Addr} {xs : List V} (h : SqT K H a xs) (ht : H tp = some (.tup [.ty "tuple", .ty "list"])) (q : Q (.bl true) H) : rIsiT K [.ref a, .ref tp] H Q :=
  ⟨.ref a, tp, _, .type "tuple", [.type "tuple", .type "list"], true, rfl, ht, .cons (.ty "tuple") (.cons (.ty "list") .nil), tyx_tup h, kitAny_cons (b := true) (kit_ty (by decide +kernel)) (fun z => nomatch z) (fun _ => rfl), q⟩
/-! ### data that is compared -/
theorem dpI : ∀ xs : List Int, DpAll K H (xs.map V.int) (xs.map PyData.int)
  | [] => .nil
  | x :: xs => .cons (.int x) (dpI xs)
theorem dpT {a : Addr} {xs : List Int} (h : IT K H a xs) : Dp K H (.ref a) (.tuple (xs.map PyData.int)) := .tup h (dpI xs)
theorem layI : ∀ xs : List Int, PyData.canLayAll0 (xs.map PyData.int) = true
  | [] => rfl
  | x :: xs => by
    show ((PyData.int x).canLay0 && PyData.canLayAll0 (xs.map PyData.int)) = true
    rw [layI xs]; rfl
theorem depI : ∀ xs : List Int, PyData.depthAll (xs.map PyData.int) = 0
  | [] => rfl
  | x :: xs => by
    show max (PyData.int x).depth (PyData.depthAll (xs.map PyData.int)) = 0
    rw [depI xs]; rfl
theorem shT (xs : List Int) : SeqAt.shaped (.tuple (xs.map PyData.int)) = true := by
  unfold SeqAt.shaped
  rw [Bool.and_eq_true]
  refine ⟨layI xs, decide_eq_true ?_⟩
  show PyData.depthAll (xs.map PyData.int) + 1 ≤ 64
  rw [depI]
  decide
theorem eqvI : ∀ xs ys : List Int, PyData.eqvAll (xs.map PyData.int) (ys.map PyData.int) = decide (xs = ys)
  | [], [] => by simp [PyData.eqvAll]
  | [], _ :: _ => by simp [PyData.eqvAll]
  | _ :: _, [] => by simp [PyData.eqvAll]
  | x :: xs, y :: ys => by
    show (PyData.eqv (PyData.int x) (PyData.int y) && PyData.eqvAll (xs.map PyData.int) (ys.map PyData.int)) = _
    rw [eqvI xs ys]
    have e : (x == y) = decide (x = y) := rfl
    simp [PyData.eqv, e]
theorem eqvT (xs ys : List Int) : PyData.eqv (.tuple (xs.map PyData.int)) (.tuple (ys.map PyData.int)) = decide (xs = ys) := by
  show PyData.eqvAll _ _ = _
  exact eqvI xs ys
theorem n_eqT {a b : Addr} {xs ys : List Int} (h1 : IT K H a xs) (h2 : IT K H b ys) (q : Q (.bl (decide (xs = ys))) H) : rEqD K (.ref a) (.ref b) H Q :=
  ⟨_, _, dpT h1, dpT h2, shT xs, shT ys, by rw [eqvT]; exact q⟩
theorem n_neT {a b : Addr} {xs ys : List Int} (h1 : IT K H a xs) (h2 : IT K H b ys) (q : Q (.bl (!decide (xs = ys))) H) : rNeD K (.ref a) (.ref b) H Q :=
  ⟨_, _, dpT h1, dpT h2, shT xs, shT ys, by rw [eqvT]; exact q⟩
end
section
variable {P : Program} {w : World} {K : PySem.W.Frag} {mg : Str → Option Value} {base : Heap}

/-! ### is_integer -/
def spIsInteger : Sp := fun vs H Q _ => ∃ i : Int, vs = [.int i] ∧ Q (.bl true) H
theorem sc_is_integer : FnScope ["value"] ["value"] (defScope (top 7)) := ⟨rfl, rfl, rfl, by decide +kernel, rfl, by decide +kernel, by decide +kernel⟩
theorem fn_is_integer (T : Txt K mg) : Fn P w K mg base "is_integer" 1 ["value"] spIsInteger := by
  obtain ⟨f, fd, F, hm⟩ := T.is_integer.ex
  have B := T.B
  refine ⟨f, fd, F.ok sc_is_integer (fun vs H Q E h => ?_) (fun cdv A outer s H vs Q E hr h => ?_), hm, F.kp, F.binds fun _ _ _ _ _ _ us hl => match us, hl with | [_], _ => rfl⟩
  · obtain ⟨i, rfl, _⟩ := h
    rfl
  · obtain ⟨i, rfl, kont⟩ := h
    refine ⟨_, (pss_one (ps_ret (pe_and (bIsi B (pv 0) (pe_bltn (v := .ty "int") rfl B.int (by decide +kernel) rfl)) (pe_one (pe_not (bIsi B (pv 0) (pe_bltn (v := .ty "bool") rfl B.bool (by decide +kernel) rfl))))))), ?_⟩
    walk_at "rd"
    refine n_isInt ?_
    walk_at "rd"
    refine n_isBool ?_
    walk_at "rd"
    exact kont

/-! ### prime_powers, is_prime -/
def Prime1 (n : Int) : Prop := 2 ≤ n ∧ n ≤ 1000 ∧ ∀ d : Int, 2 ≤ d → d * d ≤ n → n % d ≠ 0
def spPrimePowers (K : PySem.W.Frag) : Sp := fun vs H Q _ => ∃ n : Int, vs = [.int n] ∧ Prime1 n ∧ ∀ t b H', Ex H H' → SqT K H' t [.ref b] → SqT K H' b [.int n, .int 1] → Q (.ref t) H'
theorem sc_prime_powers : FnScope ["n", "found", "p", "k"] ["n"] (defScope (top 8)) := ⟨rfl, rfl, rfl, by decide +kernel, rfl, by decide +kernel, by decide +kernel⟩
theorem fn_prime_powers (T : Txt K mg) : Fn P w K mg base "prime_powers" 1 ["n"] (spPrimePowers K) := by
  obtain ⟨f, fd, F, hm⟩ := T.prime_powers.ex
  have B := T.B
  refine ⟨f, fd, F.ok sc_prime_powers (fun vs H Q E h => ?_) (fun cdv A outer s H vs Q E hr h => ?_), hm, F.kp, F.binds fun _ _ _ _ _ _ us hl => match us, hl with | [_], _ => rfl⟩
  · obtain ⟨n, rfl, _⟩ := h
    rfl
  · obtain ⟨n, rfl, ⟨h2, hb, hd⟩, kont⟩ := h
    refine ⟨_, (pss_cons (ps_set (i := 1) sc_prime_powers.nd rfl (Or.inl rfl) (pe_lst pa_nil)) (pss_cons (ps_set (i := 2) sc_prime_powers.nd rfl (Or.inl rfl) pe_int) (pss_cons (ps_while PassesOwn.never (pt_cmpR op_le (pe_op op_mul (pv 2) (pv 2)) (pv 0) (nomark _)) (pss_cons (ps_set (i := 3) sc_prime_powers.nd rfl (Or.inl rfl) pe_int) (pss_cons (ps_while PassesOwn.never (pt_cmpR op_eq (pe_op op_mod (pv 0) (pv 2)) pe_int (nomark _)) (pss_cons (ps_set (i := 0) sc_prime_powers.nd rfl (Or.inl rfl) (pe_op op_fdiv (pv 0) (pv 2))) (pss_one (ps_set (i := 3) sc_prime_powers.nd rfl (Or.inl rfl) (pe_op op_add (pv 3) pe_int))))) (pss_cons (ps_if (pt_cmpR op_gt (pv 3) pe_int (nomark _)) (pss_one (ps_expr (pe_bm PySem.F.plainAttrs_list PySem.F.slot_list_append PySem.F.type_list_append mt_append (pv 1) (pa_cons (pe_tup (pa_cons (pv 2) (pa_cons (pv 3) pa_nil))) pa_nil)))) pss_nil) (pss_one (ps_set (i := 2) sc_prime_powers.nd rfl (Or.inl rfl) (pe_op op_add (pv 2) pe_int))))))) (pss_cons (ps_if (pt_cmpR op_gt (pv 0) pe_int (nomark _)) (pss_one (ps_expr (pe_bm PySem.F.plainAttrs_list PySem.F.slot_list_append PySem.F.type_list_append mt_append (pv 1) (pa_cons (pe_tup (pa_cons (pv 0) (pa_cons pe_int pa_nil))) pa_nil)))) pss_nil) (pss_one (ps_ret (bTuple B (pv 1)))))))), ?_⟩
    walk_at "rd"
    refine n_lst0 fun l H1 hl e1 h1 => ?_
    walk_at "rd"
    refine s_while (fun m σ H' => H' = H1 ∧ ∃ (d : Int) (v : Option V), σ = [some (.int n), some (.ref l), some (.int d), v] ∧ 2 ≤ d ∧ d ≤ n + 1 ∧ m = (n + 1 - d).toNat) (n + 1 - 2).toNat ⟨rfl, 2, _, rfl, by omega, by omega, rfl⟩ ?_
    rintro m σ H' ⟨rfl, d, v, rfl, hd2, hdn, rfl⟩
    walk_at "rd"
    refine d_mulL (by omega) ?_
    walk_at "rd"
    refine b_if (fun hle => ?_) (fun hgt => ?_)
    · refine w_true ?_
      walk_at "rd"
      have hmod := hd d hd2 hle
      have hdn' : d ≤ n := Int.le_trans (by have := Int.mul_le_mul_of_nonneg_right (show 1 ≤ d by omega) (show 0 ≤ d by omega); omega) hle
      refine s_while (fun m σ H2 => H2 = H' ∧ σ = [some (.int n), some (.ref l), some (.int d), some (.int 0)]) 0 ⟨rfl, rfl⟩ ?_
      rintro m2 σ2 H2 ⟨rfl, rfl⟩
      walk_at "rd"
      refine d_I (by omega) ?_
      walk_at "rd"
      refine b_F hmod ?_
      walk_at "rd"
      refine b_F (by omega) ?_
      walk_at "rd"
      exact ⟨_, by omega, rfl, d + 1, _, rfl, by omega, by omega, rfl⟩
    · walk_at "rd"
      refine b_T (by omega) ?_
      walk_at "rd"
      refine ⟨.inl ⟨rfl, _, .inl (.inl h1)⟩, ?_⟩
      walk_at "rd"
      refine n_tup2 fun b H2 hb2 e2 h3 => ?_
      walk_at "rd"
      refine s_app (e2 _ _ h1) (by simp) ?_
      walk_at "rd"
      refine n_tupleL (.inl (.inl upd_same)) fun t H3 ht e3 h4 => ?_
      have hbl : l ≠ b := ne_of_none h1 hb2
      refine kont t b H3 ((Ex.mut (e1.trans e2) hl).trans e3) (.inl (.inl h4)) (.inl (.inl (e3 _ _ ?_)))
      rw [upd_ne hbl.symm]
      exact h3
def spIsPrime : Sp := fun vs H Q _ => ∃ n : Int, vs = [.int n] ∧ Prime1 n ∧ ∀ H', Ex H H' → Q (.bl true) H'
theorem n_eqP {t t2 b b2 : Addr} {n k : Int} {H : Hp} {Q : VK} (h1 : SqT K H t [.ref b]) (h2 : SqT K H b [.int n, .int k]) (h3 : SqT K H t2 [.ref b2]) (h4 : SqT K H b2 [.int n, .int k]) (q : Q (.bl true) H) : rEqD K (.ref t) (.ref t2) H Q :=
  ⟨.tuple [.tuple [.int n, .int k]], .tuple [.tuple [.int n, .int k]], .tup h1 (.cons (.tup h2 (.cons (.int n) (.cons (.int k) .nil))) .nil), .tup h3 (.cons (.tup h4 (.cons (.int n) (.cons (.int k) .nil))) .nil), rfl, rfl, by
    have e : PyData.eqv (.tuple [.tuple [.int n, .int k]]) (.tuple [.tuple [.int n, .int k]]) = true := by simp [PyData.eqv, PyData.eqvAll]
    rw [e]; exact q⟩
theorem sc_is_prime : FnScope ["n"] ["n"] (defScope (top 9)) := ⟨rfl, rfl, rfl, by decide +kernel, rfl, by decide +kernel, by decide +kernel⟩
theorem fn_is_prime (T : Txt K mg) : Fn P w K mg base "is_prime" 2 ["n"] spIsPrime := by
  obtain ⟨f, fd, F, hm⟩ := T.is_prime.ex
  have B := T.B
  have F_prime_powers := fn_prime_powers (P := P) (w := w) (base := base) T
  refine ⟨f, fd, F.ok sc_is_prime (fun vs H Q E h => ?_) (fun cdv A outer s H vs Q E hr h => ?_), hm, F.kp, F.binds fun _ _ _ _ _ _ us hl => match us, hl with | [_], _ => rfl⟩
  · obtain ⟨i, rfl, _⟩ := h
    rfl
  · obtain ⟨n, rfl, hn, kont⟩ := h
    have hn2 := hn.1
    refine ⟨_, (pss_one (ps_ret (pe_and (pe_cmpR op_gt (pv 0) pe_int (nomark _)) (pe_one (pe_cmpR (op_eqD hr.units) (pcall F_prime_powers (hr.mono (by decide)) (pa_cons (pv 0) pa_nil)) (pe_tup (pa_cons (pe_tup (pa_cons (pv 0) (pa_cons pe_int pa_nil))) pa_nil)) (nomark _)))))), ?_⟩
    walk_at "rd"
    refine b_T (by omega) ?_
    walk_at "rd"
    refine ⟨n, rfl, hn, fun t b H1 e1 h1 h2 => ?_⟩
    walk_at "rd"
    refine n_tup2 fun b2 H2 hb2 e2 h3 => ?_
    walk_at "rd"
    refine n_tup1 fun t2 H3 ht2 e3 h4 => ?_
    refine n_eqP (ex_t (e2.trans e3) h1) (ex_t (e2.trans e3) h2) (.inl (.inl h4)) (.inl (.inl (e3 _ _ h3))) ?_
    exact kont _ ((e1.trans e2).trans e3)

/-! ### is_member_row -/
def memB (xs : List Int) (n p : Int) : Bool := decide ((xs.length : Int) = n) && xs.all fun x => decide (0 ≤ x ∧ x < p)
def spIsMemberRow (K : PySem.W.Frag) : Sp := fun vs H Q _ => ∃ (v : V) (n p : Int), vs = [v, .int n, .int p] ∧
  ((v = .non ∧ ∀ H', Ex H H' → Q (.bl false) H') ∨ ∃ a xs, v = .ref a ∧ IT K H a xs ∧ xs.length ≤ 1000 ∧ ∀ H', Ex H H' → Q (.bl (memB xs n p)) H')
def badV (p : Int) : V → Bool
  | .int x => !decide (0 ≤ x ∧ x < p)
  | _ => true
theorem bad_len (p : Int) (xs : List Int) : decide (((((xs.map V.int).filter (badV p)).map id).length : Int) = 0) = xs.all fun x => decide (0 ≤ x ∧ x < p) := by
  rw [List.length_map]
  induction xs with
  | nil => rfl
  | cons x xs ih =>
    rw [List.map_cons, List.all_cons, List.filter_cons]
    by_cases h : 0 ≤ x ∧ x < p
    · have e : badV p (.int x) = false := by show (!decide (0 ≤ x ∧ x < p)) = false; rw [decide_eq_true h]; rfl
      rw [e, decide_eq_true h, Bool.true_and, ← ih]
      rfl
    · have e : badV p (.int x) = true := by show (!decide (0 ≤ x ∧ x < p)) = true; rw [decide_eq_false h]; rfl
      rw [e, decide_eq_false h, Bool.false_and]
      simp only [if_true, List.length_cons]
      exact decide_eq_false (by omega)
theorem sc_is_member_row : FnScope ["value", "n", "p", "x"] ["value", "n", "p"] (defScope (top 20)) := ⟨rfl, rfl, rfl, by decide +kernel, rfl, by decide +kernel, by decide +kernel⟩
theorem fn_is_member_row (T : Txt K mg) : Fn P w K mg base "is_member_row" 2 ["value", "n", "p"] (spIsMemberRow K) := by
  obtain ⟨f, fd, F, hm⟩ := T.is_member_row.ex
  have B := T.B
  have F_is_integer := fn_is_integer (P := P) (w := w) (base := base) T
  refine ⟨f, fd, F.ok sc_is_member_row (fun vs H Q E h => ?_) (fun cdv A outer s H vs Q E hr h => ?_), hm, F.kp, F.binds fun _ _ _ _ _ _ us hl => match us, hl with | [_, _, _], _ => rfl⟩
  · obtain ⟨i, n, p, rfl, _⟩ := h
    rfl
  · obtain ⟨v, n, p, rfl, ⟨rfl, kont⟩ | ⟨a, xs, rfl, ha, hl, kont⟩⟩ := h
    · refine ⟨_, (pss_cons (ps_if (PW.pt (pw_or (pt_not (pt_val (bIsi B (pv 0) (pe_bltn (v := .ty "tuple") rfl B.tuple (by decide +kernel) rfl)))) (pw_or1 (pt_cmpR op_ne (bLen B (pv 0)) (pv 1) (nomark _))))) (pss_one (ps_ret pe_bl)) pss_nil) (pss_one (ps_ret (pe_cmpR op_eq (bLen B (pe_lc (own := [("x", 3)]) (g := gName 3) rfl sc_is_member_row.nd (pi_tup (pv 0)) (blkOk_by (N := ["value", "n", "p", "x"]) (sc := defScope (top 20)) (by decide +kernel)) (fun _ _ _ _ _ => pg_name (i := 3) sc_is_member_row.nd rfl (Or.inl rfl)) (fun _ _ _ _ _ => pts_one (PW.pt (pw_or (pt_not (pt_val (pcall F_is_integer (hr.mono (by decide)) (pa_cons (pv 3) pa_nil)))) (pw_or (pt_cmpR op_lt (pv 3) pe_int (nomark _)) (pw_or1 (pt_cmpR op_ge (pv 3) (pv 2) (nomark _))))))) (fun _ _ _ _ _ => (pv 3)))) pe_int (nomark _))))), ?_⟩
      walk_at "rd"
      refine n_isTupN ?_
      walk_at "rd"
      exact kont H (Ex.refl _)
    · refine ⟨_, (pss_cons (ps_if (PW.pt (pw_or (pt_not (pt_val (bIsi B (pv 0) (pe_bltn (v := .ty "tuple") rfl B.tuple (by decide +kernel) rfl)))) (pw_or1 (pt_cmpR op_ne (bLen B (pv 0)) (pv 1) (nomark _))))) (pss_one (ps_ret pe_bl)) pss_nil) (pss_one (ps_ret (pe_cmpR op_eq (bLen B (pe_lc (own := [("x", 3)]) (g := gName 3) rfl sc_is_member_row.nd (pi_tup (pv 0)) (blkOk_by (N := ["value", "n", "p", "x"]) (sc := defScope (top 20)) (by decide +kernel)) (fun _ _ _ _ _ => pg_name (i := 3) sc_is_member_row.nd rfl (Or.inl rfl)) (fun _ _ _ _ _ => pts_one (PW.pt (pw_or (pt_not (pt_val (pcall F_is_integer (hr.mono (by decide)) (pa_cons (pv 3) pa_nil)))) (pw_or (pt_cmpR op_lt (pv 3) pe_int (nomark _)) (pw_or1 (pt_cmpR op_ge (pv 3) (pv 2) (nomark _))))))) (fun _ _ _ _ _ => (pv 3)))) pe_int (nomark _))))), ?_⟩
      walk_at "rd"
      refine n_isTup ha ?_
      walk_at "rd"
      refine n_len (.inr ha) ?_
      walk_at "rd"
      rw [lenI]
      refine b_ifN (fun hn => ?_) (fun hn => ?_)
      · walk_at "rd"
        have e : memB xs n p = false := by unfold memB; rw [decide_eq_false hn, Bool.false_and]
        rw [e] at kont
        exact kont H (Ex.refl _)
      · have e : memB xs n p = xs.all fun x => decide (0 ≤ x ∧ x < p) := by unfold memB; rw [decide_eq_true hn, Bool.true_and]
        rw [e] at kont
        walk_at "rd"
        refine l_tup ha (badV p) id (by rw [lenI]; omega) (fun x => rfl) (fun x H' hx e1 Qb q => ?_) (fun x H' hx hb e1 Qv q => ?_) fun D H2 hD e2 h2 => ?_
        · obtain ⟨x, _, rfl⟩ := memI hx
          have q' := q H' (Ex.refl _)
          have eb : badV p (.int x) = (decide (x < 0) || decide (x ≥ p)) := by
            show (!decide (0 ≤ x ∧ x < p)) = _
            by_cases h1 : x < 0
            · rw [decide_eq_true h1, decide_eq_false (by omega)]; rfl
            · by_cases h2 : x ≥ p
              · rw [decide_eq_false h1, decide_eq_true h2, decide_eq_false (by omega)]; rfl
              · rw [decide_eq_false h1, decide_eq_false h2, decide_eq_true (by omega)]; rfl
          rw [eb] at q'
          walk_at "rd"
          refine ⟨x, rfl, ?_⟩
          walk_at "rd"
          refine b_if (fun h1 => ?_) (fun h1 => ?_)
          · rw [decide_eq_true h1] at q'
            exact q'
          · rw [decide_eq_false h1] at q'
            walk_at "rd"
            exact q'
        · walk_at "rd"
          exact q H' (Ex.refl _)
        · walk_at "rd"
          refine n_len (.inl (.inl (.inl h2))) ?_
          walk_at "rd"
          rw [bad_len]
          exact kont _ e2
end
end Fm
set_option Elab.async false
set_option linter.all false
set_option maxRecDepth 100000
set_option maxHeartbeats 4000000
namespace Fm
open PySem PySem.Spec PyProof.Rows L2 Evl RZ
local macro_rules | `(tactic| walk_at "r1") => `(tactic| first
  | ((with_reducible refine d_var (v := ?v1) ?h1 ?q1); (case h1 => rfl))
  | with_reducible (first
  | refine d_c ?_ | refine d_op ?_ | refine d_un ?_ | refine d_I0 ?_ | refine d_U ?_ | refine d_eq ?_ | refine d_ne ?_ | refine d_cb ?_ | refine d_nil ?_ | refine d_cons ?_ | refine d_call ?_
  | refine d_fld ?_ | refine d_test ?_ | refine d_B ?_ | refine d_bl ?_ | refine d_and ?_ | refine d_or ?_ | refine d_not ?_ | refine d_andV ?_ | refine d_orV ?_ | refine d_notV ?_ | refine d_if ?_
  | refine d_tup ?_ | refine d_lst ?_ | refine d_lc ?_ | refine d_bm ?_ | refine d_bm0 ?_ | refine d_meth ?_ | refine d_make ?_
  | refine s_seq ?_ | refine s_next ?_ | refine s_brk ?_ | refine s_asg ?_ | refine s_drop ?_ | refine s_ret ?_ | refine s_ifs ?_ | refine s_par ?_ | refine s_two ?_ | refine s_fld ?_
  | refine g_name ?_ | refine g_sub ?_ | refine g_cons ?_ | refine g_nil ?_
  | refine s_for ?_ | refine w_rng1 ?_ | refine w_rng2 ?_ | refine w_rng3 ?_ | refine w_list ?_ | refine w_tup ?_ | refine w_rev ?_ | refine w_enT ?_ | refine w_zip ?_ | refine w_zipA ?_
  | refine n_int ?_ | refine n_max ?_ | refine n_abs ?_ | refine b_tt ?_ | refine b_ff ?_ | refine b_nt ?_ | refine b_nf ?_))
local macro_rules | `(tactic| walk_at "rd") => `(tactic| repeat walk_at "r1")
/-! ### the classes -/
structure ClsTy (K : PySem.W.Frag) (C : Addr) : Prop where
  c : PySem.W.findIn K (.ref C) "__class__" = some (some (.builtin "object.__class__"))
  g : PySem.W.specialIn K (.builtin "object.__class__") "__get__" = some (some (.builtin "getset_descriptor.__get__"))
  t : PySem.W.takesIn K (.builtin "object.__class__") = some true
  m : PySem.W.mroIn K C (.type "object") = some true
/-- what stands behind the top: the classes Field (C) and FieldMap (D) too -/
structure Tc (K : PySem.W.Frag) (mg : Str → Option Value) (C D : Addr) : Prop where
  T : Txt K mg
  cF : Cls K C
  cM : Cls K D
  gF : mg "Field" = some (.ref C)
  gM : mg "FieldMap" = some (.ref D)
  na_modulus : NoAttr K C "modulus"
  na_p : NoAttr K C "p"
  na_n : NoAttr K C "n"
  na_q : NoAttr K C "q"
  nb_source : NoAttr K D "source"
  nb_target : NoAttr K D "target"
  nb_image : NoAttr K D "image"
  tyF : ClsTy K C
  tyM : ClsTy K D
  isF : PySem.W.kitOne K (.ref C) (.ref C) = some true
  isM : PySem.W.kitOne K (.ref D) (.ref D) = some true
  isNF : PySem.W.kitOne K (.type "int") (.ref C) = some false
  isNM : PySem.W.kitOne K (.type "tuple") (.ref D) = some false
  init : ∃ f fd T0, FunD K "__init__" "Field.__init__" (defArgs (inClass (top 29) 0)) (defBody (inClass (top 29) 0)) (defScope (inClass (top 29) 0)) [V.ref T0] [] f fd ∧ Mk K C f ∧ ∀ H, IT K H T0 [0, 1]
  initM : ∃ f fd, L2.Fun K "__init__" "FieldMap.__init__" (inClass (top 33) 0) f fd ∧ Mk K D f
  m_Field_is_member : MS K C "is_member" "Field.is_member" (inClass (top 29) 2)
  m_Field_eq : MS K C "__eq__" "Field.__eq__" (inClass (top 29) 1)
  m_FieldMap_eq : MS K D "__eq__" "FieldMap.__eq__" (inClass (top 33) 1)
  m_FieldMap_call : MS K D "__call__" "FieldMap.__call__" (inClass (top 33) 2)
  nfM : PySem.W.notFirst K D (.type "tuple") = true
  m_Field_integer : MS K C "integer" "Field.integer" (inClass (top 29) 3)
  m_Field_zero : MS K C "zero" "Field.zero" (inClass (top 29) 4)
  m_Field_add : MS K C "add" "Field.add" (inClass (top 29) 7)
  m_Field_multiply : MS K C "multiply" "Field.multiply" (inClass (top 29) 10)
  m_Field_members : MS K C "members" "Field.members" (inClass (top 29) 17)
  m_Field_member : MS K C "member" "Field.member" (inClass (top 29) 16)
  m_FieldMap_image_of : MS K D "image_of" "FieldMap.image_of" (inClass (top 33) 3)
/-! ### a field, as an object -/
def fsF (t : Addr) (p : Int) (m : List Int) : List (Str × V) := [("modulus", .ref t), ("p", .int p), ("n", .int ((m.length : Int) - 1)), ("q", .int (p ^ (m.length - 1)))]
def FldH (K : PySem.W.Frag) (C : Addr) (H : Hp) (a : Addr) (p : Int) (m : List Int) : Prop := ∃ t dx, H a = some (.ins C dx (fsF t p m)) ∧ IT K H t m
/-- a field's numbers -/
structure FOk (p : Int) (m : List Int) : Prop where
  mon : Mon m p
  irr : irrP m p = true
  size : p ^ (m.length - 1) ≤ 400
section
variable {K : PySem.W.Frag} {mg : Str → Option Value} {C D : Addr} {H H' : Hp} {a : Addr} {p : Int} {m : List Int} {Q : VK}
theorem FldH.ex (h : FldH K C H a p m) (e : Ex H H') : FldH K C H' a p m := by
  obtain ⟨t, dx, h1, h2⟩ := h
  exact ⟨t, dx, e _ _ h1, ex_t e h2⟩
theorem n_me {f : Str} {R : Prop} (h : FldH K C H a p m) (hm : ∀ t, (fsF t p m).lookup f = none) (q : R) : ∃ a' dx fs, V.ref a = .ref a' ∧ H a' = some (.ins C dx fs) ∧ fs.lookup f = none ∧ R := by
  obtain ⟨t, dx, h1, h2⟩ := h
  exact ⟨a, dx, _, rfl, h1, hm t, q⟩
theorem n_modulus (Z : Tc K mg C D) (h : FldH K C H a p m) (q : ∀ t, IT K H t m → Q (.ref t) H) : nFld K "modulus" (.ref a) H Q := by
  obtain ⟨t, dx, h1, h2⟩ := h
  exact n_fld h1 Z.cF Z.na_modulus rfl (q t h2)
theorem n_p (Z : Tc K mg C D) (h : FldH K C H a p m) (q : Q (.int p) H) : nFld K "p" (.ref a) H Q := by
  obtain ⟨t, dx, h1, h2⟩ := h
  exact n_fld h1 Z.cF Z.na_p rfl q
theorem n_n (Z : Tc K mg C D) (h : FldH K C H a p m) (q : Q (.int ((m.length : Int) - 1)) H) : nFld K "n" (.ref a) H Q := by
  obtain ⟨t, dx, h1, h2⟩ := h
  exact n_fld h1 Z.cF Z.na_n rfl q
theorem n_q (Z : Tc K mg C D) (h : FldH K C H a p m) (q : Q (.int (p ^ (m.length - 1))) H) : nFld K "q" (.ref a) H Q := by
  obtain ⟨t, dx, h1, h2⟩ := h
  exact n_fld h1 Z.cF Z.na_q rfl q
theorem FldH.at (Z : Tc K mg C D) (h : FldH K C H a p m) : TyX K H (.ref a) (.ref C) := by
  obtain ⟨t, dx, h1, h2⟩ := h
  exact .base (.ins h1 Z.cF Z.tyF.c Z.tyF.g Z.tyF.t Z.tyF.m)
theorem n_isF (Z : Tc K mg C D) (h : FldH K C H a p m) (q : Q (.bl true) H) : rIsi K [.ref a, .ref C] H Q := ⟨.ref a, .ref C, .ref C, .ref C, true, rfl, .own C, h.at Z, Z.isF, q⟩
theorem n_isNF (Z : Tc K mg C D) {i : Int} (q : Q (.bl false) H) : rIsi K [.int i, .ref C] H Q := ⟨.int i, .ref C, .type "int", .ref C, false, rfl, .own C, .base (.int i), Z.isNF, q⟩
end
theorem ipow_step {p : Int} (h : 1 ≤ p) (n : Nat) : 1 ≤ p ^ n ∧ p ^ n ≤ p ^ (n + 1) := by
  have h1 : 1 ≤ p ^ n := by
    induction n with
    | zero => simp
    | succ n ih =>
      rw [Int.pow_succ]
      have := Int.mul_le_mul_of_nonneg_left h (show 0 ≤ p ^ n by omega)
      omega
  refine ⟨h1, ?_⟩
  rw [Int.pow_succ]
  have := Int.mul_le_mul_of_nonneg_left h (show 0 ≤ p ^ n by omega)
  omega
theorem ipow_le {p : Int} (h : 1 ≤ p) {i n : Nat} (hi : i ≤ n) : p ^ i ≤ p ^ n := by
  induction n with
  | zero => rw [Nat.le_zero.mp hi]; exact Int.le_refl _
  | succ n ih =>
    by_cases e : i = n + 1
    · rw [e]; exact Int.le_refl _
    · exact Int.le_trans (ih (by omega)) (ipow_step h n).2
section
variable {P : Program} {w : World} {K : PySem.W.Frag} {mg : Str → Option Value} {base : Heap} {C D : Addr}

/-! ### _checked_modulus -/
def spCheckedModulus (K : PySem.W.Frag) : Sp := fun vs H Q _ => ∃ (a : Addr) (m : List Int) (p : Int), vs = [.int p, .ref a] ∧ IT K H a m ∧ FOk p m ∧ ∀ H', Ex H H' → Q (.ref a) H'
theorem sc_checked_modulus : FnScope ["p", "modulus", "x", "size", "_"] ["p", "modulus"] (defScope (top 28)) := ⟨rfl, rfl, rfl, by decide +kernel, rfl, by decide +kernel, by decide +kernel⟩
theorem fn_checked_modulus (T : Txt K mg) : Fn P w K mg base "_checked_modulus" 5 ["p", "modulus"] (spCheckedModulus K) := by
  obtain ⟨f, fd, F, hm⟩ := T.checked_modulus.ex
  have B := T.B
  have F_is_integer := fn_is_integer (P := P) (w := w) (base := base) T
  have F_is_irreducible_row := fn_is_irreducible_row (P := P) (w := w) (base := base) T
  refine ⟨f, fd, F.ok sc_checked_modulus (fun vs H Q E h => ?_) (fun cdv A outer s H vs Q E hr h => ?_), hm, F.kp, F.binds fun _ _ _ _ _ _ us hl => match us, hl with | [_, _], _ => rfl⟩
  · obtain ⟨a, m, p, rfl, _⟩ := h
    rfl
  · obtain ⟨a, m, p, rfl, ha, ok, kont⟩ := h
    obtain ⟨t4, hMOST⟩ := T.MOST
    have hp1 := ok.mon.p1
    have hp2 := ok.mon.p2
    have hm1 := ok.mon.len
    have hm2 := ok.mon.top
    refine ⟨_, (pss_cons (ps_if (PW.pt (pw_or (pt_not (pt_val (bIsiT B (pv 1) (pa_cons (pe_bltn (v := .ty "tuple") rfl B.tuple (by decide +kernel) rfl) (pa_cons (pe_bltn (v := .ty "list") rfl B.list (by decide +kernel) rfl) pa_nil))))) (pw_or1 (pt_cmpR op_lt (bLen B (pv 1)) pe_int (nomark _))))) (pss_one ps_never) pss_nil) (pss_cons (ps_for PassesOwn.never rfl (pi_tup (pv 1)) (pg_name (i := 2) sc_checked_modulus.nd rfl (Or.inl rfl)) (pss_one (ps_if (PW.pt (pw_or (pt_not (pt_val (pcall F_is_integer (hr.mono (by decide)) (pa_cons (pv 2) pa_nil)))) (pw_or (pt_cmpR op_lt (pv 2) pe_int (nomark _)) (pw_or1 (pt_cmpR op_ge (pv 2) (pv 0) (nomark _)))))) (pss_one ps_never) pss_nil))) (pss_cons (ps_if (pt_cmpR op_ne (pe_ix (r := rIxT K) ix_tup (pv 1) (pe_op op_sub (bLen B (pv 1)) pe_int) (fun _ _ => rfl)) pe_int (nomark _)) (pss_one ps_never) pss_nil) (pss_cons (ps_set (i := 3) sc_checked_modulus.nd rfl (Or.inl rfl) pe_int) (pss_cons (ps_for PassesOwn.never rfl (pi_range1 rfl B.range (pa_cons (pe_op op_sub (bLen B (pv 1)) pe_int) pa_nil)) (pg_name (i := 4) sc_checked_modulus.nd rfl (Or.inl rfl)) (pss_cons (ps_set (i := 3) sc_checked_modulus.nd rfl (Or.inl rfl) (pe_op op_mul (pv 3) (pv 0))) (pss_one (ps_if (pt_cmpR op_gt (pv 3) (pe_glob (v := .int 400) rfl hMOST ⟨_, rfl⟩) (nomark _)) (pss_one ps_never) pss_nil)))) (pss_cons (ps_if (pt_not (pt_val (pcall F_is_irreducible_row (hr.mono (by decide)) (pa_cons (bTuple B (pv 1)) (pa_cons (pv 0) pa_nil))))) (pss_one ps_never) pss_nil) (pss_one (ps_ret (bTuple B (pv 1)))))))))), ?_⟩
    walk_at "rd"
    refine n_tup2 fun q1 H1 hq1 e1 h1 => ?_
    walk_at "rd"
    refine n_isTL (ex_t e1 ha) h1 ?_
    walk_at "rd"
    refine n_len (.inr (ex_t e1 ha)) ?_
    walk_at "rd"
    rw [lenI]
    refine b_F (by omega) ?_
    walk_at "rd"
    refine f_tup (ex_t e1 ha) (fun i σ H' => ∃ v w, σ = [some (.int p), some (.ref a), v, none, w] ∧ Ex H H') ⟨_, _, rfl, e1⟩ (fun i σ' H' ⟨_, _, _, e⟩ => ex_t e ha) ?_ ?_
    · rintro i v σ' H2 hv ⟨v1, v2, rfl, e2⟩
      obtain ⟨x, hx, rfl⟩ := getI hv
      have hx2 := ok.mon.rw x (List.mem_of_getElem? hx)
      walk_at "rd"
      refine ⟨x, rfl, ?_⟩
      walk_at "rd"
      refine b_F (by omega) ?_
      walk_at "rd"
      refine b_F (by omega) ?_
      walk_at "rd"
      exact ⟨_, _, rfl, e2⟩
    · rintro σ' H2 ⟨v1, v2, rfl, e2⟩
      walk_at "rd"
      refine n_len (.inr (ex_t e2 ha)) ?_
      walk_at "rd"
      rw [lenI]
      refine n_ixTi (v := .int (lastD m)) (ex_t e2 ha) (by omega) (by rw [show (((m.length : Nat) : Int) - 1).toNat = m.length - 1 by omega]; exact atD (by omega)) ?_
      walk_at "rd"
      refine b_NF ok.mon.last ?_
      walk_at "rd"
      refine n_len (.inr (ex_t e2 ha)) ?_
      walk_at "rd"
      rw [lenI]
      refine f_rng1 ⟨by omega, by omega⟩ (fun i σ H' => ∃ v1 w, σ = [some (.int p), some (.ref a), v1, some (.int (p ^ i)), w] ∧ Ex H H') ⟨_, _, by rw [Int.pow_zero]; rfl, e2⟩ ?_ ?_
      · rintro i σ' H3 hi ⟨v1, v2, rfl, e3⟩
        walk_at "rd"
        refine d_mulR (by omega) ?_
        walk_at "rd"
        have hle := ipow_le (p := p) (by omega) (show i + 1 ≤ m.length - 1 by omega)
        have hsz := ok.size
        rw [show p ^ i * p = p ^ (i + 1) from (Int.pow_succ ..).symm]
        refine b_F (by omega) ?_
        walk_at "rd"
        exact ⟨_, _, rfl, e3⟩
      · rintro σ' H3 ⟨v1, v2, rfl, e3⟩
        walk_at "rd"
        refine n_tupleT (ex_t e3 ha) ?_
        walk_at "rd"
        refine ⟨a, m, p, rfl, ex_t e3 ha, ok.mon, ok.irr, fun H4 e4 => ?_⟩
        walk_at "rd"
        refine n_tupleT (ex_t (e3.trans e4) ha) ?_
        exact kont H4 (e3.trans e4)

/-! ### the methods of Field -/
def spIsMember (K : PySem.W.Frag) (C : Addr) : Sp := fun vs H Q _ => ∃ (x : Addr) (p : Int) (m : List Int) (v : V), vs = [.ref x, v] ∧ FldH K C H x p m ∧
  ((v = .non ∧ ∀ H', Ex H H' → Q (.bl false) H') ∨ ∃ a xs, v = .ref a ∧ IT K H a xs ∧ xs.length ≤ 1000 ∧ ∀ H', Ex H H' → Q (.bl (memB xs ((m.length : Int) - 1) p)) H')
theorem sc_Field_is_member : FnScope ["self", "value"] ["self", "value"] (defScope (inClass (top 29) 2)) := ⟨rfl, rfl, rfl, by decide +kernel, rfl, by decide +kernel, by decide +kernel⟩
theorem mt_Field_is_member (Z : Tc K mg C D) : Mt P w K mg base C "is_member" 3 ["self", "value"] (spIsMember K C) := by
  obtain ⟨f, fd, F, hm⟩ := Z.m_Field_is_member.ex
  have T := Z.T
  have B := T.B
  have cl := Z.cF
  have clM := Z.cM
  have hField := Z.gF
  have hFieldMap := Z.gM
  have F_is_member_row := fn_is_member_row (P := P) (w := w) (base := base) T
  refine ⟨f, fd, F.ok sc_Field_is_member (fun vs H Q E h => ?_) (fun cdv A outer s H vs Q E hr h => ?_), hm, F.binds fun _ _ _ _ _ _ us hl => match us, hl with | [_, _], _ => rfl⟩
  · obtain ⟨x, p, m, v, rfl, _⟩ := h
    rfl
  · obtain ⟨x, p, m, v, rfl, hx, h⟩ := h
    refine ⟨_, (pss_one (ps_ret (pcall F_is_member_row (hr.mono (by decide)) (pa_cons (pv 1) (pa_cons (pe_fld (pv 0) rfl) (pa_cons (pe_fld (pv 0) rfl) pa_nil)))))), ?_⟩
    walk_at "rd"
    refine n_n Z hx ?_
    walk_at "rd"
    refine n_p Z hx ?_
    walk_at "rd"
    exact ⟨v, _, p, rfl, h⟩
def spInteger (K : PySem.W.Frag) (C : Addr) : Sp := fun vs H Q _ => ∃ (x : Addr) (p k : Int) (m : List Int), vs = [.ref x, .int k] ∧ FldH K C H x p m ∧ Mon m p ∧
  ∀ q H', Ex H H' → IT K H' q (padR [k % p] ((m.length : Int) - 1)) → Q (.ref q) H'
theorem sc_Field_integer : FnScope ["self", "k"] ["self", "k"] (defScope (inClass (top 29) 3)) := ⟨rfl, rfl, rfl, by decide +kernel, rfl, by decide +kernel, by decide +kernel⟩
theorem mt_Field_integer (Z : Tc K mg C D) : Mt P w K mg base C "integer" 2 ["self", "k"] (spInteger K C) := by
  obtain ⟨f, fd, F, hm⟩ := Z.m_Field_integer.ex
  have T := Z.T
  have B := T.B
  have cl := Z.cF
  have clM := Z.cM
  have hField := Z.gF
  have hFieldMap := Z.gM
  have F_member_of := fn_member_of (P := P) (w := w) (base := base) T
  refine ⟨f, fd, F.ok sc_Field_integer (fun vs H Q E h => ?_) (fun cdv A outer s H vs Q E hr h => ?_), hm, F.binds fun _ _ _ _ _ _ us hl => match us, hl with | [_, _], _ => rfl⟩
  · obtain ⟨x, p, k, m, rfl, _⟩ := h
    rfl
  · obtain ⟨x, p, k, m, rfl, hx, M, kont⟩ := h
    have hp1 := M.p1
    have hm1 := M.len
    have hm2 := M.top
    refine ⟨_, (pss_one (ps_ret (pcall F_member_of (hr.mono (by decide)) (pa_cons (pe_tup (pa_cons (pe_op op_mod (pv 1) (pe_fld (pv 0) rfl)) pa_nil)) (pa_cons (pe_fld (pv 0) rfl) pa_nil))))), ?_⟩
    walk_at "rd"
    refine n_p Z hx ?_
    walk_at "rd"
    refine d_I (by omega) ?_
    walk_at "rd"
    refine n_tup1 fun q1 H1 hq1 e1 h1 => ?_
    walk_at "rd"
    refine n_n Z (hx.ex e1) ?_
    walk_at "rd"
    exact ⟨q1, [k % p], _, rfl, .inl (.inl h1), by simp, by omega, by omega, fun q H2 e2 h2 => kont q H2 (e1.trans e2) h2⟩
def spZero (K : PySem.W.Frag) (C : Addr) : Sp := fun vs H Q _ => ∃ (x : Addr) (p : Int) (m : List Int), vs = [.ref x] ∧ FldH K C H x p m ∧ Mon m p ∧
  ∀ q H', Ex H H' → IT K H' q (padR [0] ((m.length : Int) - 1)) → Q (.ref q) H'
theorem sc_Field_zero : FnScope ["self"] ["self"] (defScope (inClass (top 29) 4)) := ⟨rfl, rfl, rfl, by decide +kernel, rfl, by decide +kernel, by decide +kernel⟩
theorem mt_Field_zero (Z : Tc K mg C D) : Mt P w K mg base C "zero" 3 ["self"] (spZero K C) := by
  obtain ⟨f, fd, F, hm⟩ := Z.m_Field_zero.ex
  have T := Z.T
  have B := T.B
  have cl := Z.cF
  have clM := Z.cM
  have hField := Z.gF
  have hFieldMap := Z.gM
  have M_integer := mt_Field_integer (P := P) (w := w) (base := base) Z
  refine ⟨f, fd, F.ok sc_Field_zero (fun vs H Q E h => ?_) (fun cdv A outer s H vs Q E hr h => ?_), hm, F.binds fun _ _ _ _ _ _ us hl => match us, hl with | [_], _ => rfl⟩
  · obtain ⟨x, p, m, rfl, _⟩ := h
    rfl
  · obtain ⟨x, p, m, rfl, hx, M, kont⟩ := h
    refine ⟨_, (pss_one (ps_ret (pmeth (pv 0) cl M_integer (hr.mono (by decide)) (pa_cons pe_int pa_nil)))), ?_⟩
    walk_at "rd"
    refine n_me hx (fun t => rfl) ?_
    walk_at "rd"
    exact ⟨x, p, 0, m, rfl, hx, M, fun q H2 e2 h2 => kont q H2 e2 (by rw [Int.zero_emod] at h2; exact h2)⟩
def spAdd (K : PySem.W.Frag) (C : Addr) : Sp := fun vs H Q _ => ∃ (x a b : Addr) (p : Int) (m xs ys : List Int), vs = [.ref x, .ref a, .ref b] ∧ FldH K C H x p m ∧ 0 < p ∧ IT K H a xs ∧ IT K H b ys ∧ xs.length = ys.length ∧ ys.length ≤ 500 ∧
  ∀ q H', Ex H H' → IT K H' q (sumP xs ys p) → Q (.ref q) H'
theorem sc_Field_add : FnScope ["self", "a", "b"] ["self", "a", "b"] (defScope (inClass (top 29) 7)) := ⟨rfl, rfl, rfl, by decide +kernel, rfl, by decide +kernel, by decide +kernel⟩
theorem mt_Field_add (Z : Tc K mg C D) : Mt P w K mg base C "add" 2 ["self", "a", "b"] (spAdd K C) := by
  obtain ⟨f, fd, F, hm⟩ := Z.m_Field_add.ex
  have T := Z.T
  have B := T.B
  have cl := Z.cF
  have clM := Z.cM
  have hField := Z.gF
  have hFieldMap := Z.gM
  have F_member_sum := fn_member_sum (P := P) (w := w) (base := base) T
  refine ⟨f, fd, F.ok sc_Field_add (fun vs H Q E h => ?_) (fun cdv A outer s H vs Q E hr h => ?_), hm, F.binds fun _ _ _ _ _ _ us hl => match us, hl with | [_, _, _], _ => rfl⟩
  · obtain ⟨x, a, b, p, m, xs, ys, rfl, _⟩ := h
    rfl
  · obtain ⟨x, a, b, p, m, xs, ys, rfl, hx, hp, ha, hb, hl, hl2, kont⟩ := h
    refine ⟨_, (pss_one (ps_ret (pcall F_member_sum (hr.mono (by decide)) (pa_cons (pv 1) (pa_cons (pv 2) (pa_cons (pe_fld (pv 0) rfl) pa_nil)))))), ?_⟩
    walk_at "rd"
    refine n_p Z hx ?_
    walk_at "rd"
    exact ⟨a, b, xs, ys, p, rfl, ha, hb, hl, hl2, hp, kont⟩
def spMultiply (K : PySem.W.Frag) (C : Addr) : Sp := fun vs H Q _ => ∃ (x a b : Addr) (p : Int) (m xs ys : List Int), vs = [.ref x, .ref a, .ref b] ∧ FldH K C H x p m ∧ Mon m p ∧ IT K H a xs ∧ IT K H b ys ∧ xs.length ≤ 200 ∧ ys.length ≤ 200 ∧
  ∀ q H', Ex H H' → IT K H' q (prodP xs ys m p) → Q (.ref q) H'
theorem sc_Field_multiply : FnScope ["self", "a", "b"] ["self", "a", "b"] (defScope (inClass (top 29) 10)) := ⟨rfl, rfl, rfl, by decide +kernel, rfl, by decide +kernel, by decide +kernel⟩
theorem mt_Field_multiply (Z : Tc K mg C D) : Mt P w K mg base C "multiply" 4 ["self", "a", "b"] (spMultiply K C) := by
  obtain ⟨f, fd, F, hm⟩ := Z.m_Field_multiply.ex
  have T := Z.T
  have B := T.B
  have cl := Z.cF
  have clM := Z.cM
  have hField := Z.gF
  have hFieldMap := Z.gM
  have F_member_product := fn_member_product (P := P) (w := w) (base := base) T
  refine ⟨f, fd, F.ok sc_Field_multiply (fun vs H Q E h => ?_) (fun cdv A outer s H vs Q E hr h => ?_), hm, F.binds fun _ _ _ _ _ _ us hl => match us, hl with | [_, _, _], _ => rfl⟩
  · obtain ⟨x, a, b, p, m, xs, ys, rfl, _⟩ := h
    rfl
  · obtain ⟨x, a, b, p, m, xs, ys, rfl, hx, M, ha, hb, hl, hl2, kont⟩ := h
    refine ⟨_, (pss_one (ps_ret (pcall F_member_product (hr.mono (by decide)) (pa_cons (pv 1) (pa_cons (pv 2) (pa_cons (pe_fld (pv 0) rfl) (pa_cons (pe_fld (pv 0) rfl) pa_nil))))))), ?_⟩
    walk_at "rd"
    refine n_modulus Z hx fun t ht => ?_
    walk_at "rd"
    refine n_p Z hx ?_
    walk_at "rd"
    exact ⟨a, b, t, xs, ys, m, p, rfl, ha, hb, ht, hl, hl2, M, kont⟩
/-! ### a member by its number -/
def spMember (K : PySem.W.Frag) (C : Addr) : Sp := fun vs H Q _ => ∃ (x t dx : Addr) (p k : Int) (m : List Int), vs = [.ref x, .int k] ∧ H x = some (.ins C dx (fsF t p m)) ∧ Mon m p ∧ 0 ≤ k ∧ k < p ^ (m.length - 1) ∧
  ∀ q H', H q = none → Ex H H' → H' q = some (.tup ((lowL p (m.length - 1) k).map V.int)) → Q (.ref q) H'
theorem sc_Field_member : FnScope ["self", "number", "out", "left", "_"] ["self", "number"] (defScope (inClass (top 29) 16)) := ⟨rfl, rfl, rfl, by decide +kernel, rfl, by decide +kernel, by decide +kernel⟩
theorem mt_Field_member (Z : Tc K mg C D) : Mt P w K mg base C "member" 2 ["self", "number"] (spMember K C) := by
  obtain ⟨f, fd, F, hm⟩ := Z.m_Field_member.ex
  have T := Z.T
  have B := T.B
  have cl := Z.cF
  have clM := Z.cM
  have hField := Z.gF
  have hFieldMap := Z.gM
  have F_is_integer := fn_is_integer (P := P) (w := w) (base := base) T
  refine ⟨f, fd, F.ok sc_Field_member (fun vs H Q E h => ?_) (fun cdv A outer s H vs Q E hr h => ?_), hm, F.binds fun _ _ _ _ _ _ us hl => match us, hl with | [_, _], _ => rfl⟩
  · obtain ⟨x, t, dx, p, k, m, rfl, _⟩ := h
    rfl
  · obtain ⟨x, t, dx, p, k, m, rfl, hx, M, hk0, hk1, kont⟩ := h
    have hp1 := M.p1
    have hp2 := M.p2
    have hm1 := M.len
    have hm2 := M.top
    refine ⟨_, (pss_cons (ps_if (PW.pt (pw_or (pt_not (pt_val (pcall F_is_integer (hr.mono (by decide)) (pa_cons (pv 1) pa_nil)))) (pw_or (pt_cmpR op_lt (pv 1) pe_int (nomark _)) (pw_or1 (pt_cmpR op_ge (pv 1) (pe_fld (pv 0) rfl) (nomark _)))))) (pss_one ps_never) pss_nil) (pss_cons (ps_set (i := 2) sc_Field_member.nd rfl (Or.inl rfl) (pe_lst pa_nil)) (pss_cons (ps_set (i := 3) sc_Field_member.nd rfl (Or.inl rfl) (pv 1)) (pss_cons (ps_for PassesOwn.never rfl (pi_range1 rfl B.range (pa_cons (pe_fld (pv 0) rfl) pa_nil)) (pg_name (i := 4) sc_Field_member.nd rfl (Or.inl rfl)) (pss_cons (ps_expr (pe_bm PySem.F.plainAttrs_list PySem.F.slot_list_append PySem.F.type_list_append mt_append (pv 2) (pa_cons (pe_op op_mod (pv 3) (pe_fld (pv 0) rfl)) pa_nil))) (pss_one (ps_set (i := 3) sc_Field_member.nd rfl (Or.inl rfl) (pe_op op_fdiv (pv 3) (pe_fld (pv 0) rfl)))))) (pss_one (ps_ret (bTuple B (pv 2)))))))), ?_⟩
    walk_at "rd"
    refine ⟨k, rfl, ?_⟩
    walk_at "rd"
    refine b_F (by omega) ?_
    walk_at "rd"
    refine n_fld hx Z.cF Z.na_q rfl ?_
    walk_at "rd"
    refine b_F (by omega) ?_
    walk_at "rd"
    refine n_lst0 fun l H1 hl e1 h1 => ?_
    walk_at "rd"
    refine n_fld (e1 _ _ hx) Z.cF Z.na_n rfl ?_
    walk_at "rd"
    refine f_rng1 ⟨by omega, by omega⟩ (fun i σ H' => ∃ w, σ = [some (.ref x), some (.int k), some (.ref l), some (.int (lowQ p i k)), w] ∧ Ex H H' ∧ H' l = some (.lst ((lowL p i k).map V.int))) ⟨_, rfl, e1, h1⟩ ?_ ?_
    · rintro i σ' H2 hi ⟨v, rfl, e2, h2⟩
      walk_at "rd"
      refine ⟨.inl ⟨rfl, _, .inl (.inl h2)⟩, ?_⟩
      walk_at "rd"
      refine n_fld (e2 _ _ hx) Z.cF Z.na_p rfl ?_
      walk_at "rd"
      refine d_I (by omega) ?_
      refine s_app h2 (by rw [lenI, lowL_length]; omega) ?_
      have e3 : Ex H (upd H2 l (.lst ((lowL p i k).map V.int ++ [V.int (lowQ p i k % p)]))) := Ex.mut e2 hl
      walk_at "rd"
      refine n_fld (e3 _ _ hx) Z.cF Z.na_p rfl ?_
      walk_at "rd"
      refine d_I ⟨by omega, by omega⟩ ?_
      walk_at "rd"
      refine ⟨_, by rw [lowQ_succ]; rfl, e3, ?_⟩
      rw [upd_same, lowL_succ, List.map_append]
      rfl
    · rintro σ' H2 ⟨v, rfl, e2, h2⟩
      rw [show ((m.length : Int) - 1).toNat = m.length - 1 by omega] at h2
      walk_at "rd"
      exact n_tupleL (.inl (.inl h2)) fun q H3 hq e3 h3 => kont q H3 (fresh_back e2 hq) (e2.trans e3) h3
end
end Fm
set_option Elab.async false
set_option linter.all false
set_option maxRecDepth 100000
set_option maxHeartbeats 4000000
namespace Fm
open PySem PySem.Spec PyProof.Rows L2 Evl RZ
local macro_rules | `(tactic| walk_at "r1") => `(tactic| first
  | ((with_reducible refine d_var (v := ?v1) ?h1 ?q1); (case h1 => rfl))
  | with_reducible (first
  | refine d_c ?_ | refine d_op ?_ | refine d_un ?_ | refine d_I0 ?_ | refine d_U ?_ | refine d_eq ?_ | refine d_ne ?_ | refine d_cb ?_ | refine d_nil ?_ | refine d_cons ?_ | refine d_call ?_
  | refine d_fld ?_ | refine d_test ?_ | refine d_B ?_ | refine d_bl ?_ | refine d_and ?_ | refine d_or ?_ | refine d_not ?_ | refine d_andV ?_ | refine d_orV ?_ | refine d_notV ?_ | refine d_if ?_
  | refine d_tup ?_ | refine d_lst ?_ | refine d_lc ?_ | refine d_bm ?_ | refine d_bm0 ?_ | refine d_meth ?_ | refine d_make ?_
  | refine s_seq ?_ | refine s_next ?_ | refine s_brk ?_ | refine s_asg ?_ | refine s_drop ?_ | refine s_ret ?_ | refine s_ifs ?_ | refine s_par ?_ | refine s_two ?_ | refine s_fld ?_
  | refine g_name ?_ | refine g_sub ?_ | refine g_cons ?_ | refine g_nil ?_
  | refine s_for ?_ | refine w_rng1 ?_ | refine w_rng2 ?_ | refine w_rng3 ?_ | refine w_list ?_ | refine w_tup ?_ | refine w_rev ?_ | refine w_enT ?_ | refine w_zip ?_ | refine w_zipA ?_
  | refine n_int ?_ | refine n_max ?_ | refine n_abs ?_ | refine b_tt ?_ | refine b_ff ?_ | refine b_nt ?_ | refine b_nf ?_))
local macro_rules | `(tactic| walk_at "rd") => `(tactic| repeat walk_at "r1")
/-- all but the object at x is kept -/
def ExX (x : Addr) (H H' : Hp) : Prop := ∀ b o, b ≠ x → H b = some o → H' b = some o
theorem ExX.of {x : Addr} {H H' : Hp} (e : Ex H H') : ExX x H H' := fun b o _ h => e b o h
theorem ExX.trans {x : Addr} {H H1 H2 : Hp} (a : ExX x H H1) (b : ExX x H1 H2) : ExX x H H2 := fun c o h q => b c o h (a c o h q)
theorem ExX.upd {x : Addr} {H H1 : Hp} {o : HO} (a : ExX x H H1) : ExX x H (upd H1 x o) := fun c u h q => by rw [upd_ne h]; exact a c u h q
theorem sqT_x {K : PySem.W.Frag} {H H' : Hp} {x a C dx : Addr} {fs : List (Str × V)} {xs : List V} (e : ExX x H H') (hx : H x = some (.ins C dx fs)) (h : SqT K H a xs) : SqT K H' a xs := by
  rcases h with (h | ⟨o, h⟩) | h
  · refine .inl (.inl (e _ _ (fun q => ?_) h))
    rw [q, hx] at h
    cases h
  · refine .inl (.inr ⟨o, e _ _ (fun q => ?_) h⟩)
    rw [q, hx] at h
    cases h
  · exact .inr h
theorem fld_x {K : PySem.W.Frag} {H H' : Hp} {x a C D dx : Addr} {fs : List (Str × V)} {p : Int} {m : List Int} (e : ExX x H H') (hx : H x = some (.ins D dx fs)) (hn : a ≠ x) (h : FldH K C H a p m) : FldH K C H' a p m := by
  obtain ⟨t, d, h1, h2⟩ := h
  exact ⟨t, d, e _ _ hn h1, sqT_x e hx h2⟩
section
variable {P : Program} {w : World} {K : PySem.W.Frag} {mg : Str → Option Value} {base : Heap} {C D : Addr}
/-! ### Field.__init__ -/
def spInit (K : PySem.W.Frag) (C : Addr) : Sp := fun vs H Q _ => ∃ (x a dx : Addr) (p : Int) (m : List Int), vs = [.ref x, .int p, .ref a] ∧ H x = some (.ins C dx []) ∧ IT K H a m ∧ FOk p m ∧ Prime1 p ∧
  ∀ H', ExX x H H' → H' x = some (.ins C dx (fsF a p m)) → Q .non H'
theorem sc_Field_init : FnScope ["self", "p", "modulus", "q", "_"] ["self", "p", "modulus"] (defScope (inClass (top 29) 0)) := ⟨rfl, rfl, rfl, by decide +kernel, rfl, by decide +kernel, by decide +kernel⟩
/-- the class Field, to be called: with a modulus | without -/
structure MkF (P : Program) (w : World) (K : PySem.W.Frag) (mg : Str → Option Value) (base : Heap) (C : Addr) : Prop where
  ex : ∃ f fd T0, FnOk P w K mg base CX0 6 f fd ["self", "p", "modulus"] (spInit K C) ∧ Mk K C f ∧ Binds K fd ["self", "p", "modulus"] [] ∧ (∃ ds, Vals [V.ref T0] ds ∧ Binds K fd ["self", "p", "modulus"] ds) ∧ ∀ H, IT K H T0 [0, 1]
theorem mk_Field (Z : Tc K mg C D) : MkF P w K mg base C := by
  obtain ⟨f, fd, T0, F, M, hT0⟩ := Z.init
  have T := Z.T
  have B := T.B
  have cl := Z.cF
  have F_is_integer := fn_is_integer (P := P) (w := w) (base := base) T
  have F_is_prime := fn_is_prime (P := P) (w := w) (base := base) T
  have F__checked_modulus := fn_checked_modulus (P := P) (w := w) (base := base) T
  refine ⟨f, fd, T0, F.ok sc_Field_init (fun vs H Q E h => ?_) (fun cdv A outer s H vs Q E hr h => ?_), M, ?_, ?_, hT0⟩
  · obtain ⟨x, a, dx, p, m, rfl, _⟩ := h
    rfl
  · obtain ⟨x, a, dx, p, m, rfl, hx, ha, ok, hp, kont⟩ := h
    have hm1 := ok.mon.len
    have hm2 := ok.mon.top
    have hp1 := ok.mon.p1
    have hp2 := ok.mon.p2
    refine ⟨_, PSs.nox ((pss_cons (ps_if (PW.pt (pw_or (pt_not (pt_val (pcall F_is_integer (hr.mono (by decide)) (pa_cons (pv 1) pa_nil)))) (pw_or1 (pt_not (pt_val (pcall F_is_prime (hr.mono (by decide)) (pa_cons (pv 1) pa_nil))))))) (pss_one ps_never) pss_nil) (pss_cons (ps_fld (pv 0) (pcall F__checked_modulus (hr.mono (by decide)) (pa_cons (pv 1) (pa_cons (pv 2) pa_nil))) rfl) (pss_cons (ps_fld (pv 0) (pv 1) rfl) (pss_cons (ps_fld (pv 0) (pe_op op_sub (bLen B (pe_fld (pv 0) rfl)) pe_int) rfl) (pss_cons (ps_set (i := 3) sc_Field_init.nd rfl (Or.inl rfl) pe_int) (pss_cons (ps_for PassesOwn.never rfl (pi_range1 rfl B.range (pa_cons (pe_fld (pv 0) rfl) pa_nil)) (pg_name (i := 4) sc_Field_init.nd rfl (Or.inl rfl)) (pss_one (ps_set (i := 3) sc_Field_init.nd rfl (Or.inl rfl) (pe_op op_mul (pv 3) (pv 1))))) (pss_one (ps_fld (pv 0) (pv 3) rfl))))))))), ?_⟩
    walk_at "rd"
    refine ⟨p, rfl, ?_⟩
    walk_at "rd"
    refine ⟨p, rfl, hp, fun H1 e1 => ?_⟩
    walk_at "rd"
    refine ⟨a, m, p, rfl, ex_t e1 ha, ok, fun H2 e2 => ?_⟩
    have e02 := e1.trans e2
    walk_at "rd"
    refine ⟨x, C, dx, [], rfl, e02 _ _ hx, Z.cF, Z.na_modulus, by simp, ?_⟩
    have x1 : ExX x H (upd H2 x (.ins C dx (putF "modulus" (.ref a) []))) := (ExX.of e02).upd
    have h1 : upd H2 x (.ins C dx (putF "modulus" (.ref a) [])) x = some (.ins C dx [("modulus", .ref a)]) := upd_same
    generalize upd H2 x (.ins C dx (putF "modulus" (.ref a) [])) = H3 at x1 h1 ⊢
    walk_at "rd"
    refine ⟨x, C, dx, _, rfl, h1, Z.cF, Z.na_p, by simp, ?_⟩
    have x2 : ExX x H (upd H3 x (.ins C dx (putF "p" (.int p) [("modulus", .ref a)]))) := x1.upd
    have h2 : upd H3 x (.ins C dx (putF "p" (.int p) [("modulus", .ref a)])) x = some (.ins C dx [("modulus", .ref a), ("p", .int p)]) := upd_same
    generalize upd H3 x (.ins C dx (putF "p" (.int p) [("modulus", .ref a)])) = H4 at x2 h2 ⊢
    walk_at "rd"
    refine n_fld h2 Z.cF Z.na_modulus rfl ?_
    walk_at "rd"
    refine n_len (.inr (sqT_x x2 hx ha)) ?_
    walk_at "rd"
    rw [lenI]
    refine ⟨x, C, dx, _, rfl, h2, Z.cF, Z.na_n, by simp, ?_⟩
    have x3 : ExX x H (upd H4 x (.ins C dx (putF "n" (.int ((m.length : Int) - 1)) [("modulus", .ref a), ("p", .int p)]))) := x2.upd
    have h3 : upd H4 x (.ins C dx (putF "n" (.int ((m.length : Int) - 1)) [("modulus", .ref a), ("p", .int p)])) x = some (.ins C dx [("modulus", .ref a), ("p", .int p), ("n", .int ((m.length : Int) - 1))]) := upd_same
    generalize upd H4 x (.ins C dx (putF "n" (.int ((m.length : Int) - 1)) [("modulus", .ref a), ("p", .int p)])) = H5 at x3 h3 ⊢
    walk_at "rd"
    refine n_fld h3 Z.cF Z.na_n rfl ?_
    walk_at "rd"
    refine f_rng1 ⟨by omega, by omega⟩ (fun i σ H' => ∃ v, H' = H5 ∧ σ = [some (.ref x), some (.int p), some (.ref a), some (.int (p ^ i)), v]) ⟨_, rfl, by rw [Int.pow_zero]; rfl⟩ ?_ ?_
    · rintro i σ' H' hi ⟨v, rfl, rfl⟩
      walk_at "rd"
      refine d_mulR (by omega) ?_
      walk_at "rd"
      exact ⟨_, rfl, by rw [Int.pow_succ]; rfl⟩
    · rintro σ' H' ⟨v, rfl, rfl⟩
      rw [show ((m.length : Int) - 1).toNat = m.length - 1 by omega]
      walk_at "rd"
      refine ⟨x, C, dx, _, rfl, h3, Z.cF, Z.na_q, by simp, ?_⟩
      exact kont _ x3.upd upd_same
  · obtain ⟨ds, hv, hb⟩ := F.binds1 (ps := ["self", "p", "modulus"]) 3 1 (by simp) rfl fun T kV doc pm an cdv ct us its h1 h2 => match us, its, h1, h2 with | [_, _, _], [_], _, _ => ⟨_, rfl, rfl⟩
    cases hv
    exact hb
  · exact F.binds1 (ps := ["self", "p", "modulus"]) 2 0 (by simp) rfl fun T kV doc pm an cdv ct us its h1 h2 => match us, its, h1, h2 with | [_, _], [_], _, _ => ⟨_, rfl, rfl⟩
/-- Field(p): the default at T0 -/
structure MkF1 (P : Program) (w : World) (K : PySem.W.Frag) (mg : Str → Option Value) (base : Heap) (C T0 : Addr) : Prop where
  ex : ∃ f fd, FnOk P w K mg base CX0 6 f fd ["self", "p", "modulus"] (spInit K C) ∧ Mk K C f ∧ ∃ ds, Vals [V.ref T0] ds ∧ Binds K fd ["self", "p", "modulus"] ds
theorem MkF.one (M : MkF P w K mg base C) : ∃ T0, MkF1 P w K mg base C T0 ∧ ∀ H, IT K H T0 [0, 1] := by
  obtain ⟨f, fd, T0, F, mk, _, ⟨ds, hv, b1⟩, hT⟩ := M.ex
  exact ⟨T0, ⟨f, fd, F, mk, ds, hv, b1⟩, hT⟩
/-- what the new field is -/
theorem n_makeF {a : Addr} {p : Int} {m : List Int} {vs dvs : List V} {E : XK} {H : Hp} {Q : VK} (ha : ∀ H', Ex H H' → IT K H' a m) (ok : FOk p m) (hp : Prime1 p) (hv : vs ++ dvs = [.int p, .ref a]) (k : ∀ x H2, H x = none → Ex H H2 → FldH K C H2 x p m → Q (.ref x) H2) :
    nMake C (spInit K C) dvs vs E H Q := fun x dx hx hdx hne => by
  have e1 : Ex H (upd (upd H dx (.own x)) x (.ins C dx [])) := Ex.mut (Ex.new hdx) hx
  refine ⟨x, a, dx, p, m, by rw [hv], upd_same, ha _ e1, ok, hp, fun H' e h => ⟨rfl, ?_⟩⟩
  have e2 : Ex H H' := fun b o q => by
    have hb : b ≠ x := ne_of_none q hx
    exact e b o hb (e1 b o q)
  exact k x H' hx e2 ⟨a, dx, h, ha _ e2⟩
section
variable {X : Cx} {e e2 : Expr} {ta tb : TE} {p pos : Pos}
/-- Field(p, modulus) | Field(p) -/
theorem bField2 (M : MkF X.prog X.w X.K X.mg X.base C) (hm : X.mg "Field" = some (.ref C)) (hr : Room 7 X.A) (ha : PE X e ta) (hb : PE X e2 tb) (hg : Gl X "Field" := by rfl)
    (he : starEach [e, e2] X.env = (false, eval e X.env) :: starEach [e2] X.env := by rfl) (he2 : starEach [e2] X.env = (false, eval e2 X.env) :: starEach [] X.env := by rfl) :
    PE X (.Call (.Name "Field" p) [e, e2] [] pos) (tMake C (spInit X.K C) [] E0 (tCons ta (tCons tb tNil))) := by
  obtain ⟨f, fd, T0, F, mk, b0, _, _⟩ := M.ex
  exact pe_make mk F hr hg hm b0 .nil pass0 (pa_cons ha (pa_cons hb pa_nil he2) he) (he := he) (hpl := by rw [he2] <;> rfl)
theorem bField1 {T0 : Addr} (M : MkF1 X.prog X.w X.K X.mg X.base C T0) (hm : X.mg "Field" = some (.ref C)) (hr : Room 7 X.A) (ha : PE X e ta) (hg : Gl X "Field" := by rfl)
    (he : starEach [e] X.env = (false, eval e X.env) :: starEach [] X.env := by rfl) :
    PE X (.Call (.Name "Field" p) [e] [] pos) (tMake C (spInit X.K C) [.ref T0] E0 (tCons ta tNil)) := by
  obtain ⟨f, fd, F, mk, ds, hv, b1⟩ := M.ex
  exact pe_make mk F hr hg hm b1 hv pass0 (pa_cons ha pa_nil he) (he := he)
end
end
end Fm
set_option Elab.async false
set_option linter.all false
set_option maxRecDepth 100000
set_option maxHeartbeats 4000000
namespace Fm
open PySem PySem.Spec PyProof.Rows L2 Evl RZ
local macro_rules | `(tactic| walk_at "r1") => `(tactic| first
  | ((with_reducible refine d_var (v := ?v1) ?h1 ?q1); (case h1 => rfl))
  | with_reducible (first
  | refine d_c ?_ | refine d_op ?_ | refine d_un ?_ | refine d_I0 ?_ | refine d_U ?_ | refine d_eq ?_ | refine d_ne ?_ | refine d_cb ?_ | refine d_nil ?_ | refine d_cons ?_ | refine d_call ?_
  | refine d_fld ?_ | refine d_test ?_ | refine d_B ?_ | refine d_bl ?_ | refine d_and ?_ | refine d_or ?_ | refine d_not ?_ | refine d_andV ?_ | refine d_orV ?_ | refine d_notV ?_ | refine d_if ?_
  | refine d_tup ?_ | refine d_lst ?_ | refine d_lc ?_ | refine d_bm ?_ | refine d_bm0 ?_ | refine d_meth ?_ | refine d_make ?_
  | refine s_seq ?_ | refine s_next ?_ | refine s_brk ?_ | refine s_asg ?_ | refine s_drop ?_ | refine s_ret ?_ | refine s_ifs ?_ | refine s_par ?_ | refine s_two ?_ | refine s_fld ?_
  | refine g_name ?_ | refine g_sub ?_ | refine g_cons ?_ | refine g_nil ?_
  | refine s_for ?_ | refine w_rng1 ?_ | refine w_rng2 ?_ | refine w_rng3 ?_ | refine w_list ?_ | refine w_tup ?_ | refine w_rev ?_ | refine w_enT ?_ | refine w_zip ?_ | refine w_zipA ?_
  | refine n_int ?_ | refine n_max ?_ | refine n_abs ?_ | refine b_tt ?_ | refine b_ff ?_ | refine b_nt ?_ | refine b_nf ?_))
local macro_rules | `(tactic| walk_at "rd") => `(tactic| repeat walk_at "r1")
/-! ### the value of a row at a member, as the program reckons it -/
def stepP (s m : List Int) (p : Int) (total : List Int) (c : Int) : List Int := sumP (prodP total s m p) (padR [c % p] ((m.length : Int) - 1)) p
def zeroP (m : List Int) : List Int := padR [0] ((m.length : Int) - 1)
def valP (s m : List Int) (p : Int) (a : List Int) : List Int := a.reverse.foldl (stepP s m p) (zeroP m)
theorem zeroP_length {m : List Int} (h : 2 ≤ m.length) : (zeroP m).length = m.length - 1 := by
  have := padR_length [0] ((m.length : Int) - 1) (by simp; omega)
  unfold zeroP
  omega
theorem prodP_length {a b m : List Int} {p : Int} (M : Mon m p) : (prodP a b m p).length = m.length - 1 := by
  have h1 := remM_length (a := mulR (trim p a) (trim p b) p) (p := p) M.ne M.last
  have h2 := M.len
  have := padR_length (remM (mulR (trim p a) (trim p b) p) m p) ((m.length : Int) - 1) (by omega)
  unfold prodP
  omega
theorem stepP_length {s m total : List Int} {p c : Int} (M : Mon m p) : (stepP s m p total c).length = m.length - 1 := by
  have h2 := M.len
  have := padR_length [c % p] ((m.length : Int) - 1) (by simp; omega)
  unfold stepP sumP
  rw [List.length_zipWith, prodP_length M]
  omega
theorem foldl_length {s m : List Int} {p : Int} (M : Mon m p) : ∀ (xs : List Int) (t : List Int), t.length = m.length - 1 → (xs.foldl (stepP s m p) t).length = m.length - 1
  | [], _, h => h
  | _ :: xs, _, _ => foldl_length M xs _ (stepP_length M)
theorem take_succ_foldl {α β : Type} {f : β → α → β} {b : β} {xs : List α} {i : Nat} {x : α} (h : xs[i]? = some x) : (xs.take (i + 1)).foldl f b = f ((xs.take i).foldl f b) x := by
  rw [List.take_add_one, h, List.foldl_append]
  rfl
theorem revI (xs : List Int) : (xs.map V.int).reverse = xs.reverse.map V.int := List.map_reverse.symm
/-- a map, as an object: from the field (p, f) to (p, g), image s -/
def fsM (a b im : Addr) : List (Str × V) := [("source", .ref a), ("target", .ref b), ("image", .ref im)]
def MapH (K : PySem.W.Frag) (C D : Addr) (H : Hp) (x : Addr) (p : Int) (f g s : List Int) : Prop := ∃ a b im dx, H x = some (.ins D dx (fsM a b im)) ∧ FldH K C H a p f ∧ FldH K C H b p g ∧ IT K H im s
section
variable {K : PySem.W.Frag} {mg : Str → Option Value} {C D : Addr} {H H' : Hp} {x a b im dx : Addr} {p : Int} {f g s : List Int} {Q : VK}
theorem MapH.ex (h : MapH K C D H x p f g s) (e : Ex H H') : MapH K C D H' x p f g s := by
  obtain ⟨a, b, im, dx, h1, h2, h3, h4⟩ := h
  exact ⟨a, b, im, dx, e _ _ h1, h2.ex e, h3.ex e, ex_t e h4⟩
theorem n_source (Z : Tc K mg C D) (h : H x = some (.ins D dx (fsM a b im))) (q : Q (.ref a) H) : nFld K "source" (.ref x) H Q := n_fld h Z.cM Z.nb_source rfl q
theorem n_target (Z : Tc K mg C D) (h : H x = some (.ins D dx (fsM a b im))) (q : Q (.ref b) H) : nFld K "target" (.ref x) H Q := n_fld h Z.cM Z.nb_target rfl q
theorem n_image (Z : Tc K mg C D) (h : H x = some (.ins D dx (fsM a b im))) (q : Q (.ref im) H) : nFld K "image" (.ref x) H Q := n_fld h Z.cM Z.nb_image rfl q
theorem n_isM (Z : Tc K mg C D) {fs : List (Str × V)} (h : H x = some (.ins D dx fs)) (q : Q (.bl true) H) : rIsi K [.ref x, .ref D] H Q :=
  ⟨.ref x, .ref D, .ref D, .ref D, true, rfl, .own D, .base (.ins h Z.cM Z.tyM.c Z.tyM.g Z.tyM.t Z.tyM.m), Z.isM, q⟩
theorem n_isNM (Z : Tc K mg C D) {xs : List V} (h : SqT K H x xs) (q : Q (.bl false) H) : rIsi K [.ref x, .ref D] H Q := ⟨.ref x, .ref D, .type "tuple", .ref D, false, rfl, .own D, tyx_tup h, Z.isNM, q⟩
end
section
variable {P : Program} {w : World} {K : PySem.W.Frag} {mg : Str → Option Value} {base : Heap} {C D : Addr}
/-! ### at_image -/
def spAtImage (K : PySem.W.Frag) (C : Addr) : Sp := fun vs H Q _ => ∃ (v : V) (b im a : Addr) (p : Int) (g s xs : List Int), vs = [v, .ref b, .ref im, .ref a] ∧ FldH K C H b p g ∧ Mon g p ∧ IT K H im s ∧ s.length ≤ 200 ∧ IT K H a xs ∧ xs.length ≤ 200 ∧
  ∀ q H', Ex H H' → IT K H' q (valP s g p xs) → Q (.ref q) H'
theorem sc_at_image : FnScope ["source", "target", "image", "a", "total", "c"] ["source", "target", "image", "a"] (defScope (top 31)) := ⟨rfl, rfl, rfl, by decide +kernel, rfl, by decide +kernel, by decide +kernel⟩
theorem fn_at_image (Z : Tc K mg C D) : Fn P w K mg base "at_image" 5 ["source", "target", "image", "a"] (spAtImage K C) := by
  have T := Z.T
  have B := T.B
  have cl := Z.cF
  have clM := Z.cM
  have hField := Z.gF
  have hFieldMap := Z.gM
  obtain ⟨f, fd, F, hm⟩ := T.at_image.ex
  have M_zero := mt_Field_zero (P := P) (w := w) (base := base) Z
  have M_add := mt_Field_add (P := P) (w := w) (base := base) Z
  have M_multiply := mt_Field_multiply (P := P) (w := w) (base := base) Z
  have M_integer := mt_Field_integer (P := P) (w := w) (base := base) Z
  refine ⟨f, fd, F.ok sc_at_image (fun vs H Q E h => ?_) (fun cdv A outer s H vs Q E hr h => ?_), hm, F.kp, F.binds fun _ _ _ _ _ _ us hl => match us, hl with | [_, _, _, _], _ => rfl⟩
  · obtain ⟨v, b, im, a, p, g, s, xs, rfl, _⟩ := h
    rfl
  · obtain ⟨v, b, im, a, p, g, s, xs, rfl, hb, M, him, hs, ha, hx, kont⟩ := h
    have hp1 := M.p1
    have hm1 := M.len
    have hm2 := M.top
    refine ⟨_, (pss_cons (ps_set (i := 4) sc_at_image.nd rfl (Or.inl rfl) (pmeth0 (pv 1) cl M_zero (hr.mono (by decide)))) (pss_cons (ps_for PassesOwn.never rfl (pi_reversed rfl B.reversed (pa_cons (bList B (pv 3)) pa_nil)) (pg_name (i := 5) sc_at_image.nd rfl (Or.inl rfl)) (pss_one (ps_set (i := 4) sc_at_image.nd rfl (Or.inl rfl) (pmeth (pv 1) cl M_add (hr.mono (by decide)) (pa_cons (pmeth (pv 1) cl M_multiply (hr.mono (by decide)) (pa_cons (pv 4) (pa_cons (pv 2) pa_nil))) (pa_cons (pmeth (pv 1) cl M_integer (hr.mono (by decide)) (pa_cons (pv 5) pa_nil)) pa_nil)))))) (pss_one (ps_ret (pv 4))))), ?_⟩
    walk_at "rd"
    refine n_me hb (fun t => rfl) ?_
    walk_at "rd"
    refine ⟨b, p, g, rfl, hb, M, fun q1 H1 e1 h1 => ?_⟩
    walk_at "rd"
    refine n_list (.inr (ex_t e1 ha)) fun l H2 hl e2 h2 => ?_
    have e02 := e1.trans e2
    refine f_rev (.inl (.inl h2)) (fun i σ H' => ∃ q w, σ = [some v, some (.ref b), some (.ref im), some (.ref a), some (.ref q), w] ∧ Ex H2 H' ∧ IT K H' q ((xs.reverse.take i).foldl (stepP s g p) (zeroP g))) ⟨q1, _, rfl, Ex.refl _, ex_t e2 h1⟩ (fun i σ' H' ⟨_, _, _, e, _⟩ => .inl (.inl (e _ _ h2))) ?_ ?_
    · rintro i v1 σ' H3 hv ⟨q, w1, rfl, e3, h3⟩
      rw [revI] at hv
      obtain ⟨c, hc, rfl⟩ := getI hv
      have e03 := e02.trans e3
      have tl := foldl_length (s := s) M (xs.reverse.take i) (zeroP g) (zeroP_length hm1)
      walk_at "rd"
      refine n_me (hb.ex e03) (fun t => rfl) ?_
      walk_at "rd"
      refine n_me (hb.ex e03) (fun t => rfl) ?_
      walk_at "rd"
      refine ⟨b, q, im, p, g, _, s, rfl, hb.ex e03, M, h3, ex_t e03 him, by omega, hs, fun q4 H4 e4 h4 => ?_⟩
      walk_at "rd"
      refine n_me (hb.ex (e03.trans e4)) (fun t => rfl) ?_
      walk_at "rd"
      refine ⟨b, p, c, g, rfl, hb.ex (e03.trans e4), M, fun q5 H5 e5 h5 => ?_⟩
      have hl5 := padR_length [c % p] ((g.length : Int) - 1) (by simp; omega)
      have hl4 := prodP_length (a := (xs.reverse.take i).foldl (stepP s g p) (zeroP g)) (b := s) M
      walk_at "rd"
      refine ⟨b, q4, q5, p, g, _, _, rfl, hb.ex ((e03.trans e4).trans e5), by omega, ex_t e5 h4, h5, by omega, by omega, fun q6 H6 e6 h6 => ?_⟩
      walk_at "rd"
      refine ⟨q6, _, rfl, ((e3.trans e4).trans e5).trans e6, ?_⟩
      rw [take_succ_foldl hc]
      exact h6
    · rintro σ' H3 ⟨q, w1, rfl, e3, h3⟩
      rw [lenI, ← List.length_reverse, List.take_length] at h3
      walk_at "rd"
      exact kont q H3 (e02.trans e3) h3
def spIsRoot (K : PySem.W.Frag) (C : Addr) : Sp := fun vs H Q _ => ∃ (a b im : Addr) (p p' : Int) (f g s : List Int), vs = [.ref a, .ref b, .ref im] ∧ FldH K C H a p' f ∧ f.length ≤ 200 ∧ FldH K C H b p g ∧ Mon g p ∧ IT K H im s ∧ s.length ≤ 200 ∧
  ∀ H', Ex H H' → Q (.bl (decide (valP s g p f = zeroP g))) H'
theorem sc_is_root : FnScope ["source", "target", "image"] ["source", "target", "image"] (defScope (top 32)) := ⟨rfl, rfl, rfl, by decide +kernel, rfl, by decide +kernel, by decide +kernel⟩
theorem fn_is_root (Z : Tc K mg C D) : Fn P w K mg base "is_root" 6 ["source", "target", "image"] (spIsRoot K C) := by
  have T := Z.T
  have B := T.B
  have cl := Z.cF
  have clM := Z.cM
  have hField := Z.gF
  have hFieldMap := Z.gM
  obtain ⟨f, fd, F, hm⟩ := T.is_root.ex
  have M_zero := mt_Field_zero (P := P) (w := w) (base := base) Z
  have F_at_image := fn_at_image (P := P) (w := w) (base := base) Z
  refine ⟨f, fd, F.ok sc_is_root (fun vs H Q E h => ?_) (fun cdv A outer s H vs Q E hr h => ?_), hm, F.kp, F.binds fun _ _ _ _ _ _ us hl => match us, hl with | [_, _, _], _ => rfl⟩
  · obtain ⟨a, b, im, p, p', f, g, s, rfl, _⟩ := h
    rfl
  · obtain ⟨a, b, im, p, p', f, g, s, rfl, ha, hf, hb, M, him, hs, kont⟩ := h
    refine ⟨_, (pss_one (ps_ret (pe_cmpR (op_eqD hr.units) (pcall F_at_image (hr.mono (by decide)) (pa_cons (pv 0) (pa_cons (pv 1) (pa_cons (pv 2) (pa_cons (pe_fld (pv 0) rfl) pa_nil))))) (pmeth0 (pv 1) cl M_zero (hr.mono (by decide))) (nomark _)))), ?_⟩
    walk_at "rd"
    refine n_modulus Z ha fun t ht => ?_
    walk_at "rd"
    refine ⟨.ref a, b, im, t, p, g, s, f, rfl, hb, M, him, hs, ht, hf, fun q1 H1 e1 h1 => ?_⟩
    walk_at "rd"
    refine n_me (hb.ex e1) (fun t => rfl) ?_
    walk_at "rd"
    refine ⟨b, p, g, rfl, hb.ex e1, M, fun q2 H2 e2 h2 => ?_⟩
    refine n_eqT (ex_t e2 h1) h2 ?_
    exact kont H2 (e1.trans e2)
/-! ### == of fields -/
def spEqF (K : PySem.W.Frag) (C : Addr) : Sp := fun vs H Q _ => ∃ (a b : Addr) (p : Int) (m : List Int), vs = [.ref a, .ref b] ∧ FldH K C H a p m ∧ FldH K C H b p m ∧ ∀ H', Ex H H' → Q (.bl true) H'
theorem sc_Field_eq : FnScope ["self", "other"] ["self", "other"] (defScope (inClass (top 29) 1)) := ⟨rfl, rfl, rfl, by decide +kernel, rfl, by decide +kernel, by decide +kernel⟩
theorem mt_Field_eq (Z : Tc K mg C D) : Mt P w K mg base C "__eq__" 1 ["self", "other"] (spEqF K C) := by
  obtain ⟨f, fd, F, hm⟩ := Z.m_Field_eq.ex
  have T := Z.T
  have B := T.B
  have cl := Z.cF
  have clM := Z.cM
  have hField := Z.gF
  have hFieldMap := Z.gM
  refine ⟨f, fd, F.ok sc_Field_eq (fun vs H Q E h => ?_) (fun cdv A outer s H vs Q E hr h => ?_), hm, F.binds fun _ _ _ _ _ _ us hl => match us, hl with | [_, _], _ => rfl⟩
  · obtain ⟨a, b, p, m, rfl, _⟩ := h
    rfl
  · obtain ⟨a, b, p, m, rfl, ha, hb, kont⟩ := h
    refine ⟨_, (pss_one (ps_ret (pe_and (bIsi B (pv 1) (pe_glob (v := .ref C) rfl hField rfl)) (pe_and (pe_cmpR op_eq (pe_fld (pv 0) rfl) (pe_fld (pv 1) rfl) (nomark _)) (pe_one (pe_cmpR (op_eqD hr.units) (pe_fld (pv 0) rfl) (pe_fld (pv 1) rfl) (nomark _))))))), ?_⟩
    walk_at "rd"
    refine n_isF Z hb ?_
    refine ⟨true, rfl, ?_⟩
    walk_at "rd"
    refine n_p Z ha ?_
    walk_at "rd"
    refine n_p Z hb ?_
    walk_at "rd"
    refine b_T rfl ?_
    walk_at "rd"
    refine n_modulus Z ha fun t ht => ?_
    walk_at "rd"
    refine n_modulus Z hb fun t' ht' => ?_
    refine n_eqT ht ht' ?_
    rw [decide_eq_true rfl]
    exact kont H (Ex.refl _)
/-! ### FieldMap -/
def spEqM (K : PySem.W.Frag) (C D : Addr) : Sp := fun vs H Q _ => ∃ (x y : Addr) (p : Int) (f g s s' : List Int), vs = [.ref x, .ref y] ∧ MapH K C D H x p f g s ∧
  ((MapH K C D H y p f g s' ∧ ∀ H', Ex H H' → Q (.bl (decide (s = s'))) H') ∨ (IT K H y s' ∧ ∀ H', Ex H H' → Q (.bl false) H'))
theorem n_own {K : PySem.W.Frag} {C : Addr} {H : Hp} {a b : Addr} {p : Int} {m : List Int} {Q : VK} (ha : FldH K C H a p m) (hb : FldH K C H b p m) (k : ∀ H', Ex H H' → Q (.bl true) H') : rOwn K C (spEqF K C) (.ref a) (.ref b) H Q := by
  obtain ⟨t, dx, h1, h2⟩ := id ha
  obtain ⟨t', dx', h1', h2'⟩ := id hb
  exact ⟨a, b, dx, _, rfl, rfl, h1, .inl ⟨dx', _, h1'⟩, a, b, p, m, rfl, ha, hb, fun H' e => ⟨true, rfl, k H' e⟩⟩
theorem sc_FieldMap_eq : FnScope ["self", "other"] ["self", "other"] (defScope (inClass (top 33) 1)) := ⟨rfl, rfl, rfl, by decide +kernel, rfl, by decide +kernel, by decide +kernel⟩
theorem mt_FieldMap_eq (Z : Tc K mg C D) : Mt P w K mg base D "__eq__" 3 ["self", "other"] (spEqM K C D) := by
  obtain ⟨f, fd, F, hm⟩ := Z.m_FieldMap_eq.ex
  have T := Z.T
  have B := T.B
  have cl := Z.cF
  have clM := Z.cM
  have hField := Z.gF
  have hFieldMap := Z.gM
  have M_eq := mt_Field_eq (P := P) (w := w) (base := base) Z
  refine ⟨f, fd, F.ok sc_FieldMap_eq (fun vs H Q E h => ?_) (fun cdv A outer s H vs Q E hr h => ?_), hm, F.binds fun _ _ _ _ _ _ us hl => match us, hl with | [_, _], _ => rfl⟩
  · obtain ⟨x, y, p, f, g, s, s', rfl, _⟩ := h
    rfl
  · obtain ⟨x, y, p, f, g, s, s', rfl, hx, ⟨hy, kont⟩ | ⟨hy, kont⟩⟩ := h
    · refine ⟨_, (pss_cons (ps_if (pt_not (pt_val (bIsi B (pv 1) (pe_glob (v := .ref D) rfl hFieldMap rfl)))) (pss_one (ps_ret pe_bl)) pss_nil) (pss_one (ps_ret (pe_and (pe_cmpR (op_own M_eq (hr.mono (by decide))) (pe_fld (pv 0) rfl) (pe_fld (pv 1) rfl) (nomark _)) (pe_and (pe_cmpR (op_own M_eq (hr.mono (by decide))) (pe_fld (pv 0) rfl) (pe_fld (pv 1) rfl) (nomark _)) (pe_one (pe_cmpR (op_eqD hr.units) (pe_fld (pv 0) rfl) (pe_fld (pv 1) rfl) (nomark _)))))))), ?_⟩
      obtain ⟨a, b, im, dx, x1, x2, x3, x4⟩ := hx
      obtain ⟨a', b', im', dx', y1, y2, y3, y4⟩ := hy
      walk_at "rd"
      refine n_isM Z y1 ?_
      walk_at "rd"
      refine n_source Z x1 ?_
      walk_at "rd"
      refine n_source Z y1 ?_
      refine n_own x2 y2 fun H1 e1 => ⟨true, rfl, ?_⟩
      walk_at "rd"
      refine n_target Z (e1 _ _ x1) ?_
      walk_at "rd"
      refine n_target Z (e1 _ _ y1) ?_
      refine n_own (x3.ex e1) (y3.ex e1) fun H2 e2 => ⟨true, rfl, ?_⟩
      walk_at "rd"
      refine n_image Z ((e1.trans e2) _ _ x1) ?_
      walk_at "rd"
      refine n_image Z ((e1.trans e2) _ _ y1) ?_
      refine n_eqT (ex_t (e1.trans e2) x4) (ex_t (e1.trans e2) y4) ?_
      exact kont H2 (e1.trans e2)
    · refine ⟨_, (pss_cons (ps_if (pt_not (pt_val (bIsi B (pv 1) (pe_glob (v := .ref D) rfl hFieldMap rfl)))) (pss_one (ps_ret pe_bl)) pss_nil) (pss_one (ps_ret (pe_and (pe_cmpR (op_own M_eq (hr.mono (by decide))) (pe_fld (pv 0) rfl) (pe_fld (pv 1) rfl) (nomark _)) (pe_and (pe_cmpR (op_own M_eq (hr.mono (by decide))) (pe_fld (pv 0) rfl) (pe_fld (pv 1) rfl) (nomark _)) (pe_one (pe_cmpR (op_eqD hr.units) (pe_fld (pv 0) rfl) (pe_fld (pv 1) rfl) (nomark _)))))))), ?_⟩
      walk_at "rd"
      refine n_isNM Z hy ?_
      walk_at "rd"
      exact kont H (Ex.refl _)
def spImageOf (K : PySem.W.Frag) (C D : Addr) : Sp := fun vs H Q _ => ∃ (x a : Addr) (p : Int) (f g s xs : List Int), vs = [.ref x, .ref a] ∧ MapH K C D H x p f g s ∧ Mon g p ∧ s.length ≤ 200 ∧ IT K H a xs ∧ xs.length ≤ 200 ∧ memB xs ((f.length : Int) - 1) p = true ∧
  ∀ q H', Ex H H' → IT K H' q (valP s g p xs) → Q (.ref q) H'
theorem sc_FieldMap_image_of : FnScope ["self", "a"] ["self", "a"] (defScope (inClass (top 33) 3)) := ⟨rfl, rfl, rfl, by decide +kernel, rfl, by decide +kernel, by decide +kernel⟩
theorem mt_FieldMap_image_of (Z : Tc K mg C D) : Mt P w K mg base D "image_of" 6 ["self", "a"] (spImageOf K C D) := by
  obtain ⟨f, fd, F, hm⟩ := Z.m_FieldMap_image_of.ex
  have T := Z.T
  have B := T.B
  have cl := Z.cF
  have clM := Z.cM
  have hField := Z.gF
  have hFieldMap := Z.gM
  have M_is_member := mt_Field_is_member (P := P) (w := w) (base := base) Z
  have F_at_image := fn_at_image (P := P) (w := w) (base := base) Z
  refine ⟨f, fd, F.ok sc_FieldMap_image_of (fun vs H Q E h => ?_) (fun cdv A outer s H vs Q E hr h => ?_), hm, F.binds fun _ _ _ _ _ _ us hl => match us, hl with | [_, _], _ => rfl⟩
  · obtain ⟨x, a, p, f, g, s, xs, rfl, _⟩ := h
    rfl
  · obtain ⟨x, a, p, f, g, s, xs, rfl, ⟨o, b, im, dx, x1, x2, x3, x4⟩, M, hs, ha, hx, hm, kont⟩ := h
    refine ⟨_, (pss_cons (ps_if (pt_not (pt_val (pmeth (pe_fld (pv 0) rfl) cl M_is_member (hr.mono (by decide)) (pa_cons (pv 1) pa_nil)))) (pss_one ps_never) pss_nil) (pss_one (ps_ret (pcall F_at_image (hr.mono (by decide)) (pa_cons (pe_fld (pv 0) rfl) (pa_cons (pe_fld (pv 0) rfl) (pa_cons (pe_fld (pv 0) rfl) (pa_cons (pv 1) pa_nil)))))))), ?_⟩
    walk_at "rd"
    refine n_source Z x1 ?_
    refine n_me x2 (fun t => rfl) ?_
    walk_at "rd"
    refine ⟨o, p, f, .ref a, rfl, x2, .inr ⟨a, xs, rfl, ha, by omega, fun H1 e1 => ?_⟩⟩
    rw [hm]
    walk_at "rd"
    refine n_source Z (e1 _ _ x1) ?_
    walk_at "rd"
    refine n_target Z (e1 _ _ x1) ?_
    walk_at "rd"
    refine n_image Z (e1 _ _ x1) ?_
    walk_at "rd"
    exact ⟨.ref o, b, im, a, p, g, s, xs, rfl, x3.ex e1, M, ex_t e1 x4, hs, ex_t e1 ha, hx, fun q H2 e2 h2 => kont q H2 (e1.trans e2) h2⟩
end
end Fm
set_option Elab.async false
set_option linter.all false
set_option maxRecDepth 100000
set_option maxHeartbeats 4000000
namespace Fm
open PySem PySem.Spec PyProof.Rows L2 Evl RZ
local macro_rules | `(tactic| walk_at "r1") => `(tactic| first
  | ((with_reducible refine d_var (v := ?v1) ?h1 ?q1); (case h1 => rfl))
  | with_reducible (first
  | refine d_c ?_ | refine d_op ?_ | refine d_un ?_ | refine d_I0 ?_ | refine d_U ?_ | refine d_eq ?_ | refine d_ne ?_ | refine d_cb ?_ | refine d_nil ?_ | refine d_cons ?_ | refine d_call ?_
  | refine d_fld ?_ | refine d_test ?_ | refine d_B ?_ | refine d_bl ?_ | refine d_and ?_ | refine d_or ?_ | refine d_not ?_ | refine d_andV ?_ | refine d_orV ?_ | refine d_notV ?_ | refine d_if ?_
  | refine d_tup ?_ | refine d_lst ?_ | refine d_lc ?_ | refine d_bm ?_ | refine d_bm0 ?_ | refine d_meth ?_ | refine d_make ?_
  | refine s_seq ?_ | refine s_next ?_ | refine s_brk ?_ | refine s_asg ?_ | refine s_drop ?_ | refine s_ret ?_ | refine s_ifs ?_ | refine s_par ?_ | refine s_two ?_ | refine s_fld ?_
  | refine g_name ?_ | refine g_sub ?_ | refine g_cons ?_ | refine g_nil ?_
  | refine s_for ?_ | refine w_rng1 ?_ | refine w_rng2 ?_ | refine w_rng3 ?_ | refine w_list ?_ | refine w_tup ?_ | refine w_rev ?_ | refine w_enT ?_ | refine w_zip ?_ | refine w_zipA ?_
  | refine n_int ?_ | refine n_max ?_ | refine n_abs ?_ | refine b_tt ?_ | refine b_ff ?_ | refine b_nt ?_ | refine b_nf ?_))
local macro_rules | `(tactic| walk_at "rd") => `(tactic| repeat walk_at "r1")
/-- the class Malformed, to be raised and caught -/
structure Ec (K : PySem.W.Frag) (mg : Str → Option Value) (G : Addr) : Prop where
  x : PySem.W.excIn K G [.type "ValueError", .type "Exception", .type "BaseException", .type "object"] "ValueError.__new__" = true
  g : mg "Malformed" = some (.ref G)
  k : PySem.W.keepIn K (.ref G) = true
  b : PySem.W.subIn K (.ref G) (.type "BaseException") = some true
  t : PySem.W.typeIn K (.ref G) = some (.type "type")
  m : PySem.W.exmOne K (.ref G) (.ref G) = some true
section
variable {P : Program} {w : World} {K : PySem.W.Frag} {mg : Str → Option Value} {base : Heap} {C D G : Addr}
/-! ### FieldMap.__init__: it succeeds | it raises -/
def spMapInit (K : PySem.W.Frag) (C D : Addr) : Sp := fun vs H Q _ => ∃ (x a b im dx : Addr) (p : Int) (f g s : List Int), vs = [.ref x, .ref a, .ref b, .ref im] ∧ H x = some (.ins D dx []) ∧ FldH K C H a p f ∧ FldH K C H b p g ∧ Mon g p ∧ f.length ≤ 200 ∧
  IT K H im s ∧ s.length ≤ 200 ∧ memB s ((g.length : Int) - 1) p = true ∧ valP s g p f = zeroP g ∧ ∀ H', ExX x H H' → H' x = some (.ins D dx (fsM a b im)) → Q .non H'
def spMapBad (K : PySem.W.Frag) (C G : Addr) : Sp := fun vs H Q E => ∃ (x a : Addr) (vb vi : V) (p : Int) (f : List Int), vs = [.ref x, .ref a, vb, vi] ∧ FldH K C H a p f ∧ f.length ≤ 200 ∧
  ((∃ (b : Addr) (p' : Int) (g : List Int), vb = .ref b ∧ FldH K C H b p' g ∧ (p ≠ p' ∨ (p = p' ∧ Mon g p ∧ (vi = .non ∨ ∃ im s, vi = .ref im ∧ IT K H im s ∧ s.length ≤ 200 ∧ valP s g p f ≠ zeroP g)))) ∨ ∃ i, vb = .int i) ∧
  ∀ H', Ex H H' → E (.ref G) none H'
theorem sc_FieldMap_init : FnScope ["self", "source", "target", "image"] ["self", "source", "target", "image"] (defScope (inClass (top 33) 0)) := ⟨rfl, rfl, rfl, by decide +kernel, rfl, by decide +kernel, by decide +kernel⟩
structure MkM (P : Program) (w : World) (K : PySem.W.Frag) (mg : Str → Option Value) (base : Heap) (C D G : Addr) : Prop where
  ex : ∃ f fd, FnOk P w K mg base CX0 7 f fd ["self", "source", "target", "image"] (spMapInit K C D) ∧ FnOk P w K mg base (L2.CX P w) 7 f fd ["self", "source", "target", "image"] (spMapBad K C G) ∧ Mk K D f ∧ Binds K fd ["self", "source", "target", "image"] []
theorem mk_FieldMap (Z : Tc K mg C D) (V : Ec K mg G) : MkM P w K mg base C D G := by
  obtain ⟨f, fd, F, M⟩ := Z.initM
  have T := Z.T
  have B := T.B
  have cl := Z.cF
  have hField := Z.gF
  have F_is_root := fn_is_root (P := P) (w := w) (base := base) Z
  have M_is_member := mt_Field_is_member (P := P) (w := w) (base := base) Z
  refine ⟨f, fd, F.ok sc_FieldMap_init (fun vs H Q E h => ?_) (fun cdv A outer s H vs Q E hr h => ?_), F.okX sc_FieldMap_init (fun vs H Q E h => ?_) (fun cdv A outer s H vs Q E hr h => ?_), M, F.binds fun _ _ _ _ _ _ us hl => match us, hl with | [_, _, _, _], _ => rfl⟩
  · obtain ⟨x, a, b, im, dx, p, f, g, s, rfl, _⟩ := h
    rfl
  · obtain ⟨x, a, b, im, dx, p, f, g, s, rfl, hx, ha, hb, Mg, hf, him, hs, hmem, hroot, kont⟩ := h
    refine ⟨_, (pss_cons (ps_if (PW.pt (pw_or (pt_not (pt_val (bIsi B (pv 1) (pe_glob (v := .ref C) rfl hField rfl)))) (pw_or (pt_not (pt_val (bIsi B (pv 2) (pe_glob (v := .ref C) rfl hField rfl)))) (pw_or1 (pt_cmpR op_ne (pe_fld (pv 1) rfl) (pe_fld (pv 2) rfl) (nomark _)))))) (pss_one ps_never) pss_nil) (pss_cons (ps_if (PW.pt (pw_or (pt_not (pt_val (pmeth (pv 2) cl M_is_member (hr.mono (by decide)) (pa_cons (pv 3) pa_nil)))) (pw_or1 (pt_not (pt_val (pcall F_is_root (hr.mono (by decide)) (pa_cons (pv 1) (pa_cons (pv 2) (pa_cons (pv 3) pa_nil))))))))) (pss_one ps_never) pss_nil) (pss_cons (ps_fld (pv 0) (pv 1) rfl) (pss_cons (ps_fld (pv 0) (pv 2) rfl) (pss_one (ps_fld (pv 0) (pv 3) rfl)))))), ?_⟩
    walk_at "rd"
    refine n_isF Z ha ?_
    walk_at "rd"
    refine n_isF Z hb ?_
    walk_at "rd"
    refine n_p Z ha ?_
    walk_at "rd"
    refine n_p Z hb ?_
    walk_at "rd"
    refine b_NF rfl ?_
    walk_at "rd"
    refine n_me hb (fun t => rfl) ?_
    walk_at "rd"
    refine ⟨b, p, g, .ref im, rfl, hb, .inr ⟨im, s, rfl, him, by omega, fun H1 e1 => ?_⟩⟩
    rw [hmem]
    walk_at "rd"
    refine ⟨a, b, im, p, p, f, g, s, rfl, ha.ex e1, hf, hb.ex e1, Mg, ex_t e1 him, hs, fun H2 e2 => ?_⟩
    rw [decide_eq_true hroot]
    have e02 := e1.trans e2
    walk_at "rd"
    refine ⟨x, D, dx, [], rfl, e02 _ _ hx, Z.cM, Z.nb_source, by simp, ?_⟩
    have x1 : ExX x H (upd H2 x (.ins D dx (putF "source" (.ref a) []))) := (ExX.of e02).upd
    have h1 : upd H2 x (.ins D dx (putF "source" (.ref a) [])) x = some (.ins D dx [("source", .ref a)]) := upd_same
    generalize upd H2 x (.ins D dx (putF "source" (.ref a) [])) = H3 at x1 h1 ⊢
    walk_at "rd"
    refine ⟨x, D, dx, _, rfl, h1, Z.cM, Z.nb_target, by simp, ?_⟩
    have x2 : ExX x H (upd H3 x (.ins D dx (putF "target" (.ref b) [("source", .ref a)]))) := x1.upd
    have h2 : upd H3 x (.ins D dx (putF "target" (.ref b) [("source", .ref a)])) x = some (.ins D dx [("source", .ref a), ("target", .ref b)]) := upd_same
    generalize upd H3 x (.ins D dx (putF "target" (.ref b) [("source", .ref a)])) = H4 at x2 h2 ⊢
    walk_at "rd"
    refine ⟨x, D, dx, _, rfl, h2, Z.cM, Z.nb_image, by simp, ?_⟩
    exact kont _ x2.upd upd_same
  · obtain ⟨x, a, vb, vi, p, f, rfl, _⟩ := h
    rfl
  · obtain ⟨x, a, vb, vi, p, f, rfl, ha, hf, h, kont⟩ := h
    refine ⟨_, (pss_cons (ps_if (PW.pt (pw_or (pt_not (pt_val (bIsi B (pv 1) (pe_glob (v := .ref C) rfl hField rfl)))) (pw_or (pt_not (pt_val (bIsi B (pv 2) (pe_glob (v := .ref C) rfl hField rfl)))) (pw_or1 (pt_cmpR op_ne (pe_fld (pv 1) rfl) (pe_fld (pv 2) rfl) (nomark _)))))) (pss_one (ps_raise rfl (takes_of rfl rfl rfl rfl) (pmk_own PySem.F.excBase_ValueError V.x V.g V.k (raises_own V.b V.t) rfl))) pss_nil) (pss_cons (ps_if (PW.pt (pw_or (pt_not (pt_val (pmeth (pv 2) cl M_is_member (hr.mono (by decide)) (pa_cons (pv 3) pa_nil)))) (pw_or1 (pt_not (pt_val (pcall F_is_root (hr.mono (by decide)) (pa_cons (pv 1) (pa_cons (pv 2) (pa_cons (pv 3) pa_nil))))))))) (pss_one (ps_raise rfl (takes_of rfl rfl rfl rfl) (pmk_own PySem.F.excBase_ValueError V.x V.g V.k (raises_own V.b V.t) rfl))) pss_nil) (pss_cons (ps_fld (pv 0) (pv 1) rfl) (pss_cons (ps_fld (pv 0) (pv 2) rfl) (pss_one (ps_fld (pv 0) (pv 3) rfl)))))), ?_⟩
    walk_at "rd"
    refine n_isF Z ha ?_
    walk_at "rd"
    rcases h with ⟨b, p', g, rfl, hb, h⟩ | ⟨i, rfl⟩
    · refine n_isF Z hb ?_
      walk_at "rd"
      refine n_p Z ha ?_
      walk_at "rd"
      refine n_p Z hb ?_
      walk_at "rd"
      refine b_ifN (fun hne => ?_) (fun heq => ?_)
      · walk_at "rd"
        exact kont H (Ex.refl _)
      · rcases h with h | ⟨_, Mg, h⟩
        · exact absurd heq h
        subst heq
        walk_at "rd"
        refine n_me hb (fun t => rfl) ?_
        walk_at "rd"
        rcases h with rfl | ⟨im, s, rfl, him, hs, hroot⟩
        · refine ⟨b, p, g, .non, rfl, hb, .inl ⟨rfl, fun H1 e1 => ?_⟩⟩
          walk_at "rd"
          exact kont H1 e1
        · refine ⟨b, p, g, .ref im, rfl, hb, .inr ⟨im, s, rfl, him, by omega, fun H1 e1 => ?_⟩⟩
          cases memB s ((g.length : Int) - 1) p with
          | false =>
            walk_at "rd"
            exact kont H1 e1
          | true =>
            walk_at "rd"
            refine ⟨a, b, im, p, p, f, g, s, rfl, ha.ex e1, hf, hb.ex e1, Mg, ex_t e1 him, hs, fun H2 e2 => ?_⟩
            rw [decide_eq_false hroot]
            walk_at "rd"
            exact kont H2 (e1.trans e2)
    · refine n_isNF Z ?_
      walk_at "rd"
      exact kont H (Ex.refl _)
/-! ### a map is made -/
theorem n_makeM {a b im : Addr} {p : Int} {f g s : List Int} {H : Hp} {Q : VK} {E : XK} (ha : FldH K C H a p f) (hb : FldH K C H b p g) (Mg : Mon g p) (hf : f.length ≤ 200) (him : IT K H im s) (hs : s.length ≤ 200)
    (hm : memB s ((g.length : Int) - 1) p = true) (hv : valP s g p f = zeroP g) (k : ∀ x H2, H x = none → Ex H H2 → MapH K C D H2 x p f g s → Q (.ref x) H2) : nMake D (spMapInit K C D) [] [.ref a, .ref b, .ref im] E H Q := fun x dx hx hdx hne => by
  have e1 : Ex H (upd (upd H dx (.own x)) x (.ins D dx [])) := Ex.mut (Ex.new hdx) hx
  refine ⟨x, a, b, im, dx, p, f, g, s, rfl, upd_same, ha.ex e1, hb.ex e1, Mg, hf, ex_t e1 him, hs, hm, hv, fun H' e h => ⟨rfl, ?_⟩⟩
  have e2 : Ex H H' := fun c o q => by
    have hc : c ≠ x := ne_of_none q hx
    exact e c o hc (e1 c o q)
  exact k x H' hx e2 ⟨a, b, im, dx, h, ha.ex e2, hb.ex e2, ex_t e2 him⟩
theorem bMap {X : Cx} {e1 e2 e3 : Expr} {t1 t2 t3 : TE} {p pos : Pos} (M : MkM X.prog X.w X.K X.mg X.base C D G) (hm : X.mg "FieldMap" = some (.ref D)) (hr : Room 8 X.A) (h1 : PE X e1 t1) (h2 : PE X e2 t2) (h3 : PE X e3 t3) (hg : Gl X "FieldMap" := by rfl)
    (he1 : starEach [e1, e2, e3] X.env = (false, eval e1 X.env) :: starEach [e2, e3] X.env := by rfl) (he2 : starEach [e2, e3] X.env = (false, eval e2 X.env) :: starEach [e3] X.env := by rfl) (he3 : starEach [e3] X.env = (false, eval e3 X.env) :: starEach [] X.env := by rfl) :
    PE X (.Call (.Name "FieldMap" p) [e1, e2, e3] [] pos) (tMake D (spMapInit X.K C D) [] E0 (tCons t1 (tCons t2 (tCons t3 tNil)))) := by
  obtain ⟨f, fd, F, _, mk, b0⟩ := M.ex
  exact pe_make mk F hr hg hm b0 .nil pass0 (pa_cons h1 (pa_cons h2 (pa_cons h3 pa_nil he3) he2) he1) (he := he1) (hpl := by rw [he2, he3] <;> rfl)
theorem bMapX {X : Cx} {E : XK} {e1 e2 e3 : Expr} {t1 t2 t3 : TE} {p pos : Pos} (M : MkM X.prog X.w X.K X.mg X.base C D G) (hm : X.mg "FieldMap" = some (.ref D)) (hr : Room 8 X.A) (hx : Passes (L2.CX X.prog X.w) X E) (h1 : PE X e1 t1) (h2 : PE X e2 t2) (h3 : PE X e3 t3) (hg : Gl X "FieldMap" := by rfl)
    (he1 : starEach [e1, e2, e3] X.env = (false, eval e1 X.env) :: starEach [e2, e3] X.env := by rfl) (he2 : starEach [e2, e3] X.env = (false, eval e2 X.env) :: starEach [e3] X.env := by rfl) (he3 : starEach [e3] X.env = (false, eval e3 X.env) :: starEach [] X.env := by rfl) :
    PE X (.Call (.Name "FieldMap" p) [e1, e2, e3] [] pos) (tMake D (spMapBad X.K C G) [] E (tCons t1 (tCons t2 (tCons t3 tNil)))) := by
  obtain ⟨f, fd, _, F, mk, b0⟩ := M.ex
  exact pe_make mk F hr hg hm b0 .nil hx (pa_cons h1 (pa_cons h2 (pa_cons h3 pa_nil he3) he2) he1) (he := he1) (hpl := by rw [he2, he3] <;> rfl)
end
end Fm
set_option Elab.async false
set_option linter.all false
set_option maxRecDepth 100000
set_option maxHeartbeats 4000000
namespace Fm
open PySem PySem.Spec PyProof.Rows L2 Evl RZ
local macro_rules | `(tactic| walk_at "r1") => `(tactic| first
  | ((with_reducible refine d_var (v := ?v1) ?h1 ?q1); (case h1 => rfl))
  | with_reducible (first
  | refine d_c ?_ | refine d_op ?_ | refine d_un ?_ | refine d_I0 ?_ | refine d_U ?_ | refine d_eq ?_ | refine d_ne ?_ | refine d_cb ?_ | refine d_nil ?_ | refine d_cons ?_ | refine d_call ?_
  | refine d_fld ?_ | refine d_test ?_ | refine d_B ?_ | refine d_bl ?_ | refine d_and ?_ | refine d_or ?_ | refine d_not ?_ | refine d_andV ?_ | refine d_orV ?_ | refine d_notV ?_ | refine d_if ?_
  | refine d_tup ?_ | refine d_lst ?_ | refine d_lc ?_ | refine d_bm ?_ | refine d_bm0 ?_ | refine d_meth ?_ | refine d_make ?_
  | refine s_seq ?_ | refine s_next ?_ | refine s_brk ?_ | refine s_asg ?_ | refine s_drop ?_ | refine s_ret ?_ | refine s_ifs ?_ | refine s_par ?_ | refine s_two ?_ | refine s_fld ?_
  | refine g_name ?_ | refine g_sub ?_ | refine g_cons ?_ | refine g_nil ?_
  | refine s_for ?_ | refine w_rng1 ?_ | refine w_rng2 ?_ | refine w_rng3 ?_ | refine w_list ?_ | refine w_tup ?_ | refine w_rev ?_ | refine w_enT ?_ | refine w_zip ?_ | refine w_zipA ?_
  | refine n_int ?_ | refine n_max ?_ | refine n_abs ?_ | refine b_tt ?_ | refine b_ff ?_ | refine b_nt ?_ | refine b_nf ?_))
local macro_rules | `(tactic| walk_at "rd") => `(tactic| repeat walk_at "r1")
section
variable {P : Program} {w : World} {K : PySem.W.Frag} {mg : Str → Option Value} {base : Heap} {C D G : Addr}
/-! ### a map is called -/
structure CallM (P : Program) (w : World) (K : PySem.W.Frag) (mg : Str → Option Value) (base : Heap) (C D : Addr) : Prop where
  ex : ∃ g, StX.CallO K D g ∧ FnR P w K mg base CX0 7 g (spImageOf K C D)
theorem sc_FieldMap_call : FnScope ["self", "a"] ["self", "a"] (defScope (inClass (top 33) 2)) := ⟨rfl, rfl, rfl, by decide +kernel, rfl, by decide +kernel, by decide +kernel⟩
theorem call_FieldMap (Z : Tc K mg C D) : CallM P w K mg base C D := by
  obtain ⟨f, fd, F, hm⟩ := Z.m_FieldMap_call.ex
  have T := Z.T
  have B := T.B
  have clM := Z.cM
  have M_image_of := mt_FieldMap_image_of (P := P) (w := w) (base := base) Z
  have ok : FnOk P w K mg base CX0 7 f fd ["self", "a"] (spImageOf K C D) := F.ok sc_FieldMap_call (fun vs H Q E h => by
    obtain ⟨x, a, p, f, g, s, xs, rfl, _⟩ := h
    rfl) fun cdv A outer s H vs Q E hr h => by
    obtain ⟨x, a, p, f, g, s, xs, rfl, ⟨o, b, im, dx, x1, x2⟩, h⟩ := h
    refine ⟨_, (pss_one (ps_ret (pmeth (pv 0) clM M_image_of (hr.mono (by decide)) (pa_cons (pv 1) pa_nil)))), ?_⟩
    walk_at "rd"
    refine ⟨x, dx, _, rfl, x1, rfl, ?_⟩
    walk_at "rd"
    exact ⟨x, a, p, f, g, s, xs, rfl, ⟨o, b, im, dx, x1, x2⟩, h⟩
  obtain ⟨oc, od, kV, doc, pm, an, cdv, ct, osl, rfl, lk, _⟩ := F.ex
  refine ⟨f, ⟨hm.at_, hm.fn, ?_⟩, (ok.raw (F.binds fun _ _ _ _ _ _ us hl => match us, hl with | [_, _], _ => rfl) .nil).imp fun vs H Q E h => by rw [List.append_nil]; exact h⟩
  unfold PySem.W.fnIn
  rw [lk]
theorem bCallM {X : Cx} {fe e : Expr} {es : List Expr} {tf : TE} {t : TA} {pos : Pos} (M : CallM X.prog X.w X.K X.mg X.base C D) (hf : PE X fe tf) (hr : Room 7 X.A) (ha : PA X (e :: es) t)
    (ht : eval (.Call fe (e :: es) [] pos) X.env = (do callWith pos (← eval fe X.env) [] (backTo pos (starEach (e :: es) X.env)) (backToKw pos (keywordEach [] X.env))) := by rfl)
    (he : starEach (e :: es) X.env = (false, eval e X.env) :: starEach es X.env := by rfl) (hpl : (backTo pos (starEach es X.env)).any (·.1) = false := by rfl) : PE X (.Call fe (e :: es) [] pos) (StX.tCallO X D (spImageOf X.K C D) E0 tf t) := by
  obtain ⟨g, c, F⟩ := M.ex
  exact StX.pe_callO hf c F hr pass0 ha ht he hpl
/-! ### _law_malformed -/
def spLawMalformed (K : PySem.W.Frag) (C : Addr) : Sp := fun vs H Q _ => ∃ (a : Addr) (vb vi : V) (p : Int) (f : List Int), vs = [.ref a, vb, vi] ∧ FldH K C H a p f ∧ f.length ≤ 200 ∧
  ((∃ (b : Addr) (p' : Int) (g : List Int), vb = .ref b ∧ FldH K C H b p' g ∧ (p ≠ p' ∨ (p = p' ∧ Mon g p ∧ (vi = .non ∨ ∃ im s, vi = .ref im ∧ IT K H im s ∧ s.length ≤ 200 ∧ valP s g p f ≠ zeroP g)))) ∨ ∃ i, vb = .int i) ∧
  ∀ H', Ex H H' → Q (.bl true) H'
theorem sc_law_malformed : FnScope ["_law_a", "_law_b", "_law_image"] ["_law_a", "_law_b", "_law_image"] (defScope (top 51)) := ⟨rfl, rfl, rfl, by decide +kernel, rfl, by decide +kernel, by decide +kernel⟩
theorem fn_law_malformed (Z : Tc K mg C D) (V : Ec K mg G) : Fn P w K mg base "_law_malformed" 9 ["_law_a", "_law_b", "_law_image"] (spLawMalformed K C) := by
  obtain ⟨f, fd, F, hm⟩ := Z.T.law_malformed.ex
  have mkM := mk_FieldMap (P := P) (w := w) (base := base) Z V
  have hFieldMap := Z.gM
  refine ⟨f, fd, F.ok sc_law_malformed (fun vs H Q E h => ?_) (fun cdv A outer s H vs Q E hr h => ?_), hm, F.kp, F.binds fun _ _ _ _ _ _ us hl => match us, hl with | [_, _, _], _ => rfl⟩
  · obtain ⟨a, vb, vi, p, f, rfl, _⟩ := h
    rfl
  · obtain ⟨a, vb, vi, p, f, rfl, ha, hf, h, kont⟩ := h
    refine ⟨_, (pss_cons (ps_try_only (tb := fun W => tDrop (tMake D (spMapBad K C G) [] (fun cls d H => ∀ σ, W cls d σ H) (tCons (tVar 0) (tCons (tVar 1) (tCons (tVar 2) tNil))))) (ts := fun _ _ _ => tRet (tC (.bl true))) rfl rfl ⟨rfl, by decide, .inl V.g⟩ takes0 (fun W pn xe tk _ => pss_one (ps_expr (bMapX (E := fun cls d H => ∀ σ, W cls d σ H) mkM hFieldMap (hr.mono (by decide)) (passes_call tk (fun _ _ σ _ h => h σ)) (pv 0) (pv 1) (pv 2)))) (fun _ _ _ _ _ _ _ => pss_one (ps_ret pe_bl))) (pss_one (ps_ret pe_bl))), ?_⟩
    walk_at "rd"
    intro x dx hx hdx hne
    have e1 : Ex H (upd (upd H dx (.own x)) x (.ins D dx [])) := Ex.mut (Ex.new hdx) hx
    refine ⟨x, a, vb, vi, p, f, rfl, ha.ex e1, hf, ?_, fun H2 e2 σ => ⟨true, V.m, fun _ q hq => ?_, fun z => nomatch z⟩⟩
    · rcases h with ⟨b, p', g, e, hb, h⟩ | h
      · refine .inl ⟨b, p', g, e, hb.ex e1, ?_⟩
        rcases h with h | ⟨h1, h2, h | ⟨im, s, h3, h4, h5⟩⟩
        · exact .inl h
        · exact .inr ⟨h1, h2, .inl h⟩
        · exact .inr ⟨h1, h2, .inr ⟨im, s, h3, ex_t e1 h4, h5⟩⟩
      · exact .inr h
    · walk_at "rd"
      exact kont H2 (e1.trans e2)
end
end Fm
set_option Elab.async false
set_option linter.all false
set_option maxRecDepth 100000
set_option maxHeartbeats 4000000
namespace Fm
open PySem PySem.Spec PyProof.Rows L2 Evl RZ
local macro_rules | `(tactic| walk_at "r1") => `(tactic| first
  | ((with_reducible refine d_var (v := ?v1) ?h1 ?q1); (case h1 => rfl))
  | with_reducible (first
  | refine d_c ?_ | refine d_op ?_ | refine d_un ?_ | refine d_I0 ?_ | refine d_U ?_ | refine d_eq ?_ | refine d_ne ?_ | refine d_cb ?_ | refine d_nil ?_ | refine d_cons ?_ | refine d_call ?_
  | refine d_fld ?_ | refine d_test ?_ | refine d_B ?_ | refine d_bl ?_ | refine d_and ?_ | refine d_or ?_ | refine d_not ?_ | refine d_andV ?_ | refine d_orV ?_ | refine d_notV ?_ | refine d_if ?_
  | refine d_tup ?_ | refine d_lst ?_ | refine d_lc ?_ | refine d_bm ?_ | refine d_bm0 ?_ | refine d_meth ?_ | refine d_make ?_
  | refine d_sl ?_ | refine d_np ?_ | refine d_pt ?_ | refine d_pi ?_
  | refine s_seq ?_ | refine s_next ?_ | refine s_brk ?_ | refine s_asg ?_ | refine s_drop ?_ | refine s_ret ?_ | refine s_ifs ?_ | refine s_par ?_ | refine s_two ?_ | refine s_fld ?_
  | refine g_name ?_ | refine g_sub ?_ | refine g_cons ?_ | refine g_nil ?_
  | refine s_for ?_ | refine w_rng1 ?_ | refine w_rng2 ?_ | refine w_rng3 ?_ | refine w_list ?_ | refine w_tup ?_ | refine w_rev ?_ | refine w_enT ?_ | refine w_zip ?_ | refine w_zipA ?_
  | refine n_int ?_ | refine n_max ?_ | refine n_abs ?_ | refine b_tt ?_ | refine b_ff ?_ | refine b_nt ?_ | refine b_nf ?_))
local macro_rules | `(tactic| walk_at "rd") => `(tactic| repeat walk_at "r1")
section
variable {P : Program} {w : World} {K : PySem.W.Frag} {mg : Str → Option Value} {base : Heap} {C D G : Addr}
/-! ### _law_state, _law_take -/
def spLawState (K : PySem.W.Frag) : Sp := fun vs H Q _ => ∃ (a : Addr) (ns : List Int), vs = [.ref a] ∧ IL K H a ns ∧ ∀ l x y H', H l = none → Ex H H' → H' l = some (.lst [.int x, .int y]) → Q (.ref l) H'
theorem sc_law_state : FnScope ["_law_script", "_law_seed", "_law_total", "_law_cell"] ["_law_script"] (defScope (top 37)) := ⟨rfl, rfl, rfl, by decide +kernel, rfl, by decide +kernel, by decide +kernel⟩
theorem fn_law_state (T : Txt K mg) : Fn P w K mg base "_law_state" 1 ["_law_script"] (spLawState K) := by
  obtain ⟨f, fd, F, hm⟩ := T.law_state.ex
  have B := T.B
  refine ⟨f, fd, F.ok sc_law_state (fun vs H Q E h => ?_) (fun cdv A outer s H vs Q E hr h => ?_), hm, F.kp, F.binds fun _ _ _ _ _ _ us hl => match us, hl with | [_], _ => rfl⟩
  · obtain ⟨a, ns, rfl, _⟩ := h
    rfl
  · obtain ⟨a, ns, rfl, ha, kont⟩ := h
    refine ⟨_, (pss_cons (ps_set (i := 1) sc_law_state.nd rfl (Or.inl rfl) pe_int) (pss_cons (ps_set (i := 2) sc_law_state.nd rfl (Or.inl rfl) pe_int) (pss_cons (ps_for PassesOwn.never rfl (pi_list (pe_slice sl_list (pv 0) po_none (po_some pe_int))) (pg_name (i := 3) sc_law_state.nd rfl (Or.inl rfl)) (pss_cons (ps_set (i := 1) sc_law_state.nd rfl (Or.inl rfl) (pe_op op_add (pe_op op_mul (pv 1) pe_int) (bAbs B (pv 3)))) (pss_one (ps_set (i := 2) sc_law_state.nd rfl (Or.inl rfl) (pe_op op_mod (bInt B (pe_op op_add (pe_op op_mul (pv 2) pe_int) (pv 3))) pe_int))))) (pss_one (ps_ret (pe_lst (pa_cons (pv 1) (pa_cons (pv 2) pa_nil)))))))), ?_⟩
    walk_at "rd"
    refine n_slL (n := 63) ha fun q H1 hq e1 h1 => ?_
    rw [← List.map_take] at h1
    refine f_list (.inl (.inl h1)) (fun i σ H' => ∃ (x y : Int) (w : Option V), σ = [some (.ref a), some (.int x), some (.int y), w] ∧ H' = H1) ⟨_, _, _, rfl, rfl⟩ (fun i σ' H' ⟨_, _, _, _, e⟩ => by rw [e]; exact .inl (.inl h1)) ?_ ?_
    · rintro i v σ' H2 hv ⟨x, y, w, rfl, rfl⟩
      obtain ⟨c, hc, rfl⟩ := getI hv
      walk_at "rd"
      refine d_mulR (by omega) ?_
      walk_at "rd"
      refine d_mulR (by omega) ?_
      walk_at "rd"
      refine d_I (by omega) ?_
      walk_at "rd"
      exact ⟨_, _, _, rfl, rfl⟩
    · rintro σ' H2 ⟨x, y, w, rfl, rfl⟩
      walk_at "rd"
      exact n_lst2 fun l H3 hl e3 h3 => kont l x y H3 (fresh_back e1 hl) (e1.trans e3) h3
/-- all but the state's list is kept -/
def spLawTake : Sp := fun vs H Q _ => ∃ (l : Addr) (x y m : Int), vs = [.ref l, .int m] ∧ H l = some (.lst [.int x, .int y]) ∧ 0 < m ∧ m < 1000000 ∧
  ∀ v x' y' H', 0 ≤ v → v < m → ExX l H H' → H' l = some (.lst [.int x', .int y']) → Q (.int v) H'
theorem sc_law_take : FnScope ["_law_state_here", "_law_m", "_law_value_here"] ["_law_state_here", "_law_m"] (defScope (top 38)) := ⟨rfl, rfl, rfl, by decide +kernel, rfl, by decide +kernel, by decide +kernel⟩
theorem fn_law_take (T : Txt K mg) : Fn P w K mg base "_law_take" 1 ["_law_state_here", "_law_m"] spLawTake := by
  obtain ⟨f, fd, F, hm⟩ := T.law_take.ex
  have B := T.B
  refine ⟨f, fd, F.ok sc_law_take (fun vs H Q E h => ?_) (fun cdv A outer s H vs Q E hr h => ?_), hm, F.kp, F.binds fun _ _ _ _ _ _ us hl => match us, hl with | [_, _], _ => rfl⟩
  · obtain ⟨l, x, y, m, rfl, _⟩ := h
    rfl
  · obtain ⟨l, x, y, m, rfl, hl, hm0, hm1, kont⟩ := h
    refine ⟨_, (pss_cons (ps_if (pt_cmpR op_gt (pe_ix (r := rIxL K) ix_list (pv 0) pe_int (fun _ _ => rfl)) pe_int (nomark _)) (pss_cons (ps_set (i := 2) sc_law_take.nd rfl (Or.inl rfl) (pe_op op_mod (bInt B (pe_ix (r := rIxL K) ix_list (pv 0) pe_int (fun _ _ => rfl))) (pv 1))) (pss_cons (ps_asg (pe_op op_fdiv (pe_ix (r := rIxL K) ix_list (pv 0) pe_int (fun _ _ => rfl)) (pv 1)) (pg_sub (pv 0) pe_int set_list)) (pss_one (ps_ret (pv 2))))) pss_nil) (pss_cons (ps_asg (pe_op op_mod (bInt B (pe_op op_add (pe_op op_mul (pe_ix (r := rIxL K) ix_list (pv 0) pe_int (fun _ _ => rfl)) pe_int) pe_int)) pe_int) (pg_sub (pv 0) pe_int set_list)) (pss_one (ps_ret (pe_op op_mod (bInt B (pe_op op_fdiv (pe_ix (r := rIxL K) ix_list (pv 0) pe_int (fun _ _ => rfl)) pe_int)) (pv 1)))))), ?_⟩
    walk_at "rd"
    refine n_ixLi (v := .int x) (.inl (.inl hl)) (by omega) rfl ?_
    walk_at "rd"
    refine b_if (fun hx => ?_) (fun hx => ?_)
    · walk_at "rd"
      refine n_ixLi (v := .int x) (.inl (.inl hl)) (by omega) rfl ?_
      walk_at "rd"
      refine d_I hm0 ?_
      walk_at "rd"
      refine n_ixLi (v := .int x) (.inl (.inl hl)) (by omega) rfl ?_
      walk_at "rd"
      refine d_I ⟨hm0, by omega⟩ ?_
      walk_at "rd"
      refine n_setL hl (by omega) (by simp) ?_
      walk_at "rd"
      exact kont _ _ _ _ (Int.emod_nonneg _ (by omega)) (Int.emod_lt_of_pos _ hm0) (ExX.of (Ex.refl H)).upd upd_same
    · walk_at "rd"
      refine n_ixLi (v := .int y) (.inl (.inl hl)) (by omega) rfl ?_
      walk_at "rd"
      refine d_mulR (by omega) ?_
      walk_at "rd"
      refine d_I (by omega) ?_
      walk_at "rd"
      refine n_setL hl (by omega) (by simp) ?_
      walk_at "rd"
      refine n_ixLi (.inl (.inl upd_same)) (by omega) rfl ?_
      walk_at "rd"
      refine d_I ⟨by omega, by omega⟩ ?_
      walk_at "rd"
      refine d_I hm0 ?_
      exact kont _ _ _ _ (Int.emod_nonneg _ (by omega)) (Int.emod_lt_of_pos _ hm0) (ExX.of (Ex.refl H)).upd upd_same
/-! ### _law_divides, _law_lower, _law_power_of -/
def spLawDivides (K : PySem.W.Frag) : Sp := fun vs H Q _ => ∃ (a b : Addr) (low row : List Int) (p : Int), vs = [.int p, .ref a, .ref b] ∧ IL K H a low ∧ IL K H b row ∧ 0 < p ∧ low ≠ [] ∧ low.length ≤ 500 ∧ row.length ≤ 500 ∧ Rw 1000 low ∧
  ∀ H', Ex H H' → Q (.bl (lawDiv p low row)) H'
theorem sc_law_divides : FnScope ["_law_p", "_law_low", "_law_row", "_law_rest", "_law_factor", "_law_at", "_law_k"] ["_law_p", "_law_low", "_law_row"] (defScope (top 39)) := ⟨rfl, rfl, rfl, by decide +kernel, rfl, by decide +kernel, by decide +kernel⟩
theorem fn_law_divides (T : Txt K mg) : Fn P w K mg base "_law_divides" 1 ["_law_p", "_law_low", "_law_row"] (spLawDivides K) := by
  obtain ⟨f, fd, F, hm⟩ := T.law_divides.ex
  have B := T.B
  refine ⟨f, fd, F.ok sc_law_divides (fun vs H Q E h => ?_) (fun cdv A outer s H vs Q E hr h => ?_), hm, F.kp, F.binds fun _ _ _ _ _ _ us hl => match us, hl with | [_, _, _], _ => rfl⟩
  · obtain ⟨a, b, low, row, p, rfl, _⟩ := h
    rfl
  · obtain ⟨a, b, low, row, p, rfl, ha, hb, hp, hne, hl1, hl2, hlow, kont⟩ := h
    have hlp : 0 < low.length := List.length_pos_iff.mpr hne
    refine ⟨_, (pss_cons (ps_set (i := 3) sc_law_divides.nd rfl (Or.inl rfl) (bList B (pv 2))) (pss_cons (ps_while PassesOwn.never (pt_cmpR op_ge (bLen B (pv 3)) (bLen B (pv 1)) (nomark _)) (pss_cons (ps_set (i := 4) sc_law_divides.nd rfl (Or.inl rfl) (pe_ix (r := rIxL K) ix_list (pv 3) (pe_op op_sub (bLen B (pv 3)) pe_int) (fun _ _ => rfl))) (pss_cons (ps_set (i := 5) sc_law_divides.nd rfl (Or.inl rfl) (pe_op op_sub (bLen B (pv 3)) (bLen B (pv 1)))) (pss_cons (ps_for PassesOwn.never rfl (pi_range1 rfl B.range (pa_cons (bLen B (pv 1)) pa_nil)) (pg_name (i := 6) sc_law_divides.nd rfl (Or.inl rfl)) (pss_one (ps_asg (pe_op op_mod (pe_op op_sub (pe_ix (r := rIxL K) ix_list (pv 3) (pe_op op_add (pv 5) (pv 6)) (fun _ _ => rfl)) (pe_op op_mul (pv 4) (pe_ix (r := rIxL K) ix_list (pv 1) (pv 6) (fun _ _ => rfl)))) (pv 0)) (pg_sub (pv 3) (pe_op op_add (pv 5) (pv 6)) set_list)))) (pss_one (ps_expr (pe_bm0 PySem.F.plainAttrs_list PySem.F.slot_list_pop PySem.F.type_list_pop mt_pop (pv 3)))))))) (pss_one (ps_ret (pe_not (bAny B (pv 3))))))), ?_⟩
    walk_at "rd"
    refine n_list (.inl hb) fun l H1 hl e1 h1 => ?_
    refine s_while (fun n σ H' => ∃ (rest : List Int) (v1 v2 v3 : Option V), σ = [some (.int p), some (.ref a), some (.ref b), some (.ref l), v1, v2, v3] ∧ Ex H H' ∧ H' l = some (.lst (rest.map V.int)) ∧ rest.length ≤ n ∧ rest.length ≤ 500 ∧ lawDivG p low n rest = lawDivG p low row.length row)
      row.length ⟨row, _, _, _, rfl, e1, h1, Nat.le_refl _, hl2, rfl⟩ ?_
    rintro n σ H2 ⟨rest, v1, v2, v3, rfl, e2, h2, hn, hr, hg⟩
    walk_at "rd"
    refine n_len (.inl (.inl (.inl h2))) ?_
    walk_at "rd"
    refine n_len (.inl (ex_l e2 ha)) ?_
    walk_at "rd"
    rw [lenI, lenI]
    refine b_if (fun hge => ?_) (fun hlt => ?_)
    · refine w_true ?_
      cases n with
      | zero => omega
      | succ n =>
      rw [lawDivG_ge (by omega)] at hg
      walk_at "rd"
      refine n_len (.inl (.inl (.inl h2))) ?_
      walk_at "rd"
      rw [lenI]
      refine n_ixLi (v := .int (rest.getD (rest.length - 1) 0)) (.inl (.inl h2)) (by omega) (by rw [show (((rest.length : Nat) : Int) - 1).toNat = rest.length - 1 by omega]; exact atD (by omega)) ?_
      walk_at "rd"
      refine n_len (.inl (.inl (.inl h2))) ?_
      walk_at "rd"
      refine n_len (.inl (ex_l e2 ha)) ?_
      walk_at "rd"
      refine n_len (.inl (ex_l e2 ha)) ?_
      walk_at "rd"
      rw [lenI, lenI]
      have hat : (rest.length : Int) - (low.length : Int) = ((rest.length - low.length : Nat) : Int) := by omega
      rw [hat]
      unfold ldS at hg
      generalize hfac : rest.getD (rest.length - 1) 0 = fac at hg ⊢
      generalize hbk : rest.length - low.length = bk at hg ⊢
      refine f_rng1 ⟨by omega, by omega⟩ (fun i σ H' => ∃ (v : Option V), σ = [some (.int p), some (.ref a), some (.ref b), some (.ref l), some (.int fac), some (.int (bk : Nat)), v] ∧ Ex H H' ∧
        H' l = some (.lst ((loopN i (fun i r => r.set (bk + i) ((r.getD (bk + i) 0 - fac * low.getD i 0) % p)) rest).map V.int))) ⟨_, rfl, e2, h2⟩ ?_ ?_
      · rintro i σ' H3 hi ⟨v, rfl, e3, h3⟩
        have cl : (loopN i (fun i r => r.set (bk + i) ((r.getD (bk + i) 0 - fac * low.getD i 0) % p)) rest).length = rest.length := loopN_length (fun _ _ => by simp) i
        generalize hq : loopN i (fun i r => r.set (bk + i) ((r.getD (bk + i) 0 - fac * low.getD i 0) % p)) rest = o at h3 cl
        have tn : ((bk : Int) + (i : Int)).toNat = bk + i := by omega
        have hlo := hlow (low.getD i 0) (by rw [List.getD_eq_getElem?_getD, List.getElem?_eq_getElem (by omega)]; exact List.getElem_mem _)
        walk_at "rd"
        refine n_ixLi (v := .int (o.getD (bk + i) 0)) (.inl (.inl h3)) (by omega) (by rw [tn]; exact atD (by omega)) ?_
        walk_at "rd"
        refine n_ixLi (v := .int (low.getD i 0)) (ex_l e3 ha) (by omega) (by rw [show ((i : Nat) : Int).toNat = i by omega]; exact atD (by omega)) ?_
        walk_at "rd"
        refine d_mulR (by omega) ?_
        walk_at "rd"
        refine d_I hp ?_
        walk_at "rd"
        refine n_setL h3 (by omega) (by rw [lenI]; omega) ?_
        refine ⟨_, rfl, Ex.mut e3 hl, ?_⟩
        rw [upd_same, tn, setI, loopN_succ, hq]
      · rintro σ' H3 ⟨v, rfl, e3, h3⟩
        rw [show ((low.length : Nat) : Int).toNat = low.length by omega] at h3
        change H3 l = some (.lst ((divIn low p fac bk rest).map V.int)) at h3
        have cl := divIn_length low p fac bk rest
        generalize divIn low p fac bk rest = o at h3 cl hg
        walk_at "rd"
        refine ⟨.inl ⟨rfl, _, .inl (.inl h3)⟩, l, _, .int (o.getD (o.length - 1) 0), rfl, rfl, h3, by rw [lenI]; exact atD (by omega), ?_⟩
        walk_at "rd"
        refine ⟨n, by omega, o.dropLast, _, _, _, rfl, Ex.mut e3 hl, ?_, by rw [List.length_dropLast]; omega, by rw [List.length_dropLast]; omega, hg⟩
        rw [upd_same, List.map_dropLast]
    · walk_at "rd"
      refine n_any (.inl (.inl (.inl h2))) ?_
      have e : lawDivG p low n rest = rest := lawDivG_lt (by omega)
      rw [e] at hg
      refine ⟨_, rfl, ?_⟩
      unfold lawDiv at kont
      rw [← hg] at kont
      exact kont H2 e2
end
end Fm
set_option Elab.async false
set_option linter.all false
set_option maxRecDepth 100000
set_option maxHeartbeats 4000000
namespace Fm
open PySem PySem.Spec PyProof.Rows L2 Evl RZ
local macro_rules | `(tactic| walk_at "r1") => `(tactic| first
  | ((with_reducible refine d_var (v := ?v1) ?h1 ?q1); (case h1 => rfl))
  | with_reducible (first
  | refine d_c ?_ | refine d_op ?_ | refine d_un ?_ | refine d_I0 ?_ | refine d_U ?_ | refine d_eq ?_ | refine d_ne ?_ | refine d_cb ?_ | refine d_nil ?_ | refine d_cons ?_ | refine d_call ?_
  | refine d_fld ?_ | refine d_test ?_ | refine d_B ?_ | refine d_bl ?_ | refine d_and ?_ | refine d_or ?_ | refine d_not ?_ | refine d_andV ?_ | refine d_orV ?_ | refine d_notV ?_ | refine d_if ?_
  | refine d_tup ?_ | refine d_lst ?_ | refine d_lc ?_ | refine d_bm ?_ | refine d_bm0 ?_ | refine d_meth ?_ | refine d_make ?_
  | refine d_sl ?_ | refine d_np ?_ | refine d_pt ?_ | refine d_pi ?_
  | refine s_seq ?_ | refine s_next ?_ | refine s_brk ?_ | refine s_asg ?_ | refine s_drop ?_ | refine s_ret ?_ | refine s_ifs ?_ | refine s_par ?_ | refine s_two ?_ | refine s_fld ?_
  | refine g_name ?_ | refine g_sub ?_ | refine g_cons ?_ | refine g_nil ?_
  | refine s_for ?_ | refine w_rng1 ?_ | refine w_rng2 ?_ | refine w_rng3 ?_ | refine w_list ?_ | refine w_tup ?_ | refine w_rev ?_ | refine w_enT ?_ | refine w_zip ?_ | refine w_zipA ?_
  | refine n_int ?_ | refine n_max ?_ | refine n_abs ?_ | refine b_tt ?_ | refine b_ff ?_ | refine b_nt ?_ | refine b_nf ?_))
local macro_rules | `(tactic| walk_at "rd") => `(tactic| repeat walk_at "r1")
section
variable {P : Program} {w : World} {K : PySem.W.Frag} {mg : Str → Option Value} {base : Heap} {C D G : Addr}
/-! ### _law_lower, _law_power_of -/
def spLawLower (K : PySem.W.Frag) : Sp := fun vs H Q _ => ∃ (p c : Int) (n : Int), vs = [.int p, .int n, .int c] ∧ 0 < p ∧ p < 1000000 ∧ 0 ≤ n ∧ n ≤ 1000 ∧ ∀ l H', H l = none → Ex H H' → H' l = some (.lst ((lowL p n.toNat c).map V.int)) → Q (.ref l) H'
theorem sc_law_lower : FnScope ["_law_p", "_law_size_here", "_law_number", "_law_items", "_law_k"] ["_law_p", "_law_size_here", "_law_number"] (defScope (top 40)) := ⟨rfl, rfl, rfl, by decide +kernel, rfl, by decide +kernel, by decide +kernel⟩
theorem fn_law_lower (T : Txt K mg) : Fn P w K mg base "_law_lower" 1 ["_law_p", "_law_size_here", "_law_number"] (spLawLower K) := by
  obtain ⟨f, fd, F, hm⟩ := T.law_lower.ex
  have B := T.B
  refine ⟨f, fd, F.ok sc_law_lower (fun vs H Q E h => ?_) (fun cdv A outer s H vs Q E hr h => ?_), hm, F.kp, F.binds fun _ _ _ _ _ _ us hl => match us, hl with | [_, _, _], _ => rfl⟩
  · obtain ⟨p, c, n, rfl, _⟩ := h
    rfl
  · obtain ⟨p, c, n, rfl, hp, hp2, hn0, hn1, kont⟩ := h
    refine ⟨_, (pss_cons (ps_set (i := 3) sc_law_lower.nd rfl (Or.inl rfl) (pe_lst pa_nil)) (pss_cons (ps_for PassesOwn.never rfl (pi_range1 rfl B.range (pa_cons (pv 1) pa_nil)) (pg_name (i := 4) sc_law_lower.nd rfl (Or.inl rfl)) (pss_cons (ps_expr (pe_bm PySem.F.plainAttrs_list PySem.F.slot_list_append PySem.F.type_list_append mt_append (pv 3) (pa_cons (pe_op op_mod (pv 2) (pv 0)) pa_nil))) (pss_one (ps_set (i := 2) sc_law_lower.nd rfl (Or.inl rfl) (pe_op op_fdiv (pv 2) (pv 0)))))) (pss_one (ps_ret (pv 3))))), ?_⟩
    walk_at "rd"
    refine n_lst0 fun l H1 hl e1 h1 => ?_
    walk_at "rd"
    refine f_rng1 ⟨by omega, by omega⟩ (fun i σ H' => ∃ w, σ = [some (.int p), some (.int n), some (.int (lowQ p i c)), some (.ref l), w] ∧ Ex H H' ∧ H' l = some (.lst ((lowL p i c).map V.int))) ⟨_, rfl, e1, h1⟩ ?_ ?_
    · rintro i σ' H2 hi ⟨v, rfl, e2, h2⟩
      walk_at "rd"
      refine ⟨.inl ⟨rfl, _, .inl (.inl h2)⟩, ?_⟩
      walk_at "rd"
      refine d_I hp ?_
      refine s_app h2 (by rw [lenI, lowL_length]; omega) ?_
      walk_at "rd"
      refine d_I ⟨by omega, by omega⟩ ?_
      walk_at "rd"
      refine ⟨_, by rw [lowQ_succ]; rfl, Ex.mut e2 hl, ?_⟩
      rw [upd_same, lowL_succ, List.map_append]
      rfl
    · rintro σ' H2 ⟨v, rfl, e2, h2⟩
      walk_at "rd"
      exact kont l H2 hl e2 h2
def spLawPowerOf : Sp := fun vs H Q _ => ∃ (p n : Int), vs = [.int p, .int n] ∧ 0 < p ∧ p < 1000000 ∧ 0 ≤ n ∧ n ≤ 1000 ∧ Q (.int (p ^ n.toNat)) H
theorem sc_law_power_of : FnScope ["_law_p", "_law_k", "_law_total", "_law_turn"] ["_law_p", "_law_k"] (defScope (top 42)) := ⟨rfl, rfl, rfl, by decide +kernel, rfl, by decide +kernel, by decide +kernel⟩
theorem fn_law_power_of (T : Txt K mg) : Fn P w K mg base "_law_power_of" 1 ["_law_p", "_law_k"] spLawPowerOf := by
  obtain ⟨f, fd, F, hm⟩ := T.law_power_of.ex
  have B := T.B
  refine ⟨f, fd, F.ok sc_law_power_of (fun vs H Q E h => ?_) (fun cdv A outer s H vs Q E hr h => ?_), hm, F.kp, F.binds fun _ _ _ _ _ _ us hl => match us, hl with | [_, _], _ => rfl⟩
  · obtain ⟨p, n, rfl, _⟩ := h
    rfl
  · obtain ⟨p, n, rfl, hp, hp2, hn0, hn1, kont⟩ := h
    refine ⟨_, (pss_cons (ps_set (i := 2) sc_law_power_of.nd rfl (Or.inl rfl) pe_int) (pss_cons (ps_for PassesOwn.never rfl (pi_range1 rfl B.range (pa_cons (pv 1) pa_nil)) (pg_name (i := 3) sc_law_power_of.nd rfl (Or.inl rfl)) (pss_one (ps_set (i := 2) sc_law_power_of.nd rfl (Or.inl rfl) (pe_op op_mul (pv 2) (pv 0))))) (pss_one (ps_ret (pv 2))))), ?_⟩
    walk_at "rd"
    refine f_rng1 ⟨by omega, by omega⟩ (fun i σ H' => ∃ w, σ = [some (.int p), some (.int n), some (.int (p ^ i)), w] ∧ H' = H) ⟨_, by rw [Int.pow_zero]; rfl, rfl⟩ ?_ ?_
    · rintro i σ' H2 hi ⟨v, rfl, rfl⟩
      walk_at "rd"
      refine d_mulR (by omega) ?_
      walk_at "rd"
      exact ⟨_, by rw [Int.pow_succ]; rfl, rfl⟩
    · rintro σ' H2 ⟨v, rfl, rfl⟩
      walk_at "rd"
      exact kont
/-! ### _law_is_irreducible -/
def spLawIrr (K : PySem.W.Frag) : Sp := fun vs H Q _ => ∃ (a : Addr) (p : Int) (row : List Int), vs = [.int p, .ref a] ∧ IL K H a row ∧ 0 < p ∧ p ≤ 900 ∧ row ≠ [] ∧ row.length ≤ 100 ∧ p ^ ((row.length - 1) / 2) ≤ 50000 ∧ ∀ H', Ex H H' → Q (.bl (irrL p row)) H'
theorem irrL_false {p : Int} {row : List Int} {d c : Nat} (hd : d < (row.length - 1) / 2) (hc : (c : Int) < p ^ (d + 1)) (h : lawDiv p (lowL p (d + 1) c ++ [1]) row = true) : irrL p row = false := by
  refine Bool.eq_false_iff.mpr fun q => ?_
  unfold irrL at q
  have q1 := List.all_eq_true.mp q d (List.mem_range.mpr hd)
  unfold irrN at q1
  have q2 := List.all_eq_true.mp q1 c (List.mem_range.mpr (by omega))
  rw [h] at q2
  cases q2
theorem irrL_true {p : Int} {row : List Int} (h : ∀ d c : Nat, d < (row.length - 1) / 2 → (c : Int) < p ^ (d + 1) → lawDiv p (lowL p (d + 1) c ++ [1]) row = false) : irrL p row = true := by
  unfold irrL
  refine List.all_eq_true.mpr fun d hd => ?_
  unfold irrN
  refine List.all_eq_true.mpr fun c hc => ?_
  rw [h d c (List.mem_range.mp hd) (by have := List.mem_range.mp hc; omega)]
  rfl
theorem sc_law_is_irreducible : FnScope ["_law_p", "_law_row", "_law_size_here", "_law_d", "_law_many", "_law_k", "_law_number"] ["_law_p", "_law_row"] (defScope (top 41)) := ⟨rfl, rfl, rfl, by decide +kernel, rfl, by decide +kernel, by decide +kernel⟩
theorem fn_law_is_irreducible (T : Txt K mg) : Fn P w K mg base "_law_is_irreducible" 2 ["_law_p", "_law_row"] (spLawIrr K) := by
  obtain ⟨f, fd, F, hm⟩ := T.law_is_irreducible.ex
  have B := T.B
  have F__law_divides := fn_law_divides (P := P) (w := w) (base := base) T
  have F__law_lower := fn_law_lower (P := P) (w := w) (base := base) T
  refine ⟨f, fd, F.ok sc_law_is_irreducible (fun vs H Q E h => ?_) (fun cdv A outer s H vs Q E hr h => ?_), hm, F.kp, F.binds fun _ _ _ _ _ _ us hl => match us, hl with | [_, _], _ => rfl⟩
  · obtain ⟨a, p, row, rfl, _⟩ := h
    rfl
  · obtain ⟨a, p, row, rfl, ha, hp, hp2, hne, hl, hpw, kont⟩ := h
    have hlp : 0 < row.length := List.length_pos_iff.mpr hne
    refine ⟨_, (pss_cons (ps_set (i := 2) sc_law_is_irreducible.nd rfl (Or.inl rfl) (pe_op op_sub (bLen B (pv 1)) pe_int)) (pss_cons (ps_for PassesOwn.never rfl (pi_range2 rfl B.range (pa_cons pe_int (pa_cons (pe_op op_add (pe_op op_fdiv (pv 2) pe_int) pe_int) pa_nil))) (pg_name (i := 3) sc_law_is_irreducible.nd rfl (Or.inl rfl)) (pss_cons (ps_set (i := 4) sc_law_is_irreducible.nd rfl (Or.inl rfl) pe_int) (pss_cons (ps_for PassesOwn.never rfl (pi_range1 rfl B.range (pa_cons (pv 3) pa_nil)) (pg_name (i := 5) sc_law_is_irreducible.nd rfl (Or.inl rfl)) (pss_one (ps_set (i := 4) sc_law_is_irreducible.nd rfl (Or.inl rfl) (pe_op op_mul (pv 4) (pv 0))))) (pss_one (ps_for PassesOwn.never rfl (pi_range1 rfl B.range (pa_cons (pv 4) pa_nil)) (pg_name (i := 6) sc_law_is_irreducible.nd rfl (Or.inl rfl)) (pss_one (ps_if (pt_val (pcall F__law_divides (hr.mono (by decide)) (pa_cons (pv 0) (pa_cons (pe_op op_cat (pcall F__law_lower (hr.mono (by decide)) (pa_cons (pv 0) (pa_cons (pv 3) (pa_cons (pv 6) pa_nil)))) (pe_lst (pa_cons pe_int pa_nil))) (pa_cons (pv 1) pa_nil))))) (pss_one (ps_ret pe_bl)) pss_nil))))))) (pss_one (ps_ret pe_bl)))), ?_⟩
    walk_at "rd"
    refine n_len (.inl ha) ?_
    walk_at "rd"
    rw [lenI]
    refine d_I ⟨by omega, by omega⟩ ?_
    walk_at "rd"
    refine f_rng2 ⟨by omega, by omega, by omega, by omega⟩ (fun i σ H' => ∃ v1 v2 v3 v4, σ = [some (.int p), some (.ref a), some (.int ((row.length : Int) - 1)), v1, v2, v3, v4] ∧ Ex H H' ∧ ∀ d c : Nat, d < i → (c : Int) < p ^ (d + 1) → lawDiv p (lowL p (d + 1) c ++ [1]) row = false)
      ⟨_, _, _, _, rfl, Ex.refl _, fun d c hd => by omega⟩ ?_ ?_
    · rintro i σ' H2 hi ⟨v1, v2, v3, v4, rfl, e2, hno⟩
      have hid : i < (row.length - 1) / 2 := by omega
      walk_at "rd"
      refine f_rng1 ⟨by omega, by omega⟩ (fun j σ H' => ∃ v3 v4, σ = [some (.int p), some (.ref a), some (.int ((row.length : Int) - 1)), some (.int (1 + (i : Int))), some (.int (p ^ j)), v3, v4] ∧ H' = H2) ⟨_, _, by rw [Int.pow_zero]; rfl, rfl⟩ ?_ ?_
      · rintro j σ' H3 hj ⟨v3, v4, rfl, rfl⟩
        walk_at "rd"
        refine d_mulR (by omega) ?_
        walk_at "rd"
        exact ⟨_, _, by rw [Int.pow_succ]; rfl, rfl⟩
      · rintro σ' H3 ⟨v3, v4, rfl, rfl⟩
        rw [show (1 + (i : Int)).toNat = i + 1 by omega]
        have hpw2 := ipow_le (p := p) (by omega) (show i + 1 ≤ (row.length - 1) / 2 by omega)
        have hpw3 := (ipow_step (p := p) (by omega) (i + 1)).1
        walk_at "rd"
        refine f_rng1 ⟨by omega, by omega⟩ (fun j σ H' => ∃ v3 v4, σ = [some (.int p), some (.ref a), some (.int ((row.length : Int) - 1)), some (.int (1 + (i : Int))), some (.int (p ^ (i + 1))), v3, v4] ∧ Ex H H' ∧ ∀ c : Nat, c < j → lawDiv p (lowL p (i + 1) c ++ [1]) row = false)
          ⟨_, _, rfl, e2, fun c hc => by omega⟩ ?_ ?_
        · rintro j σ' H4 hj ⟨w3, w4, rfl, e4, hno2⟩
          walk_at "rd"
          refine ⟨p, j, 1 + (i : Int), rfl, hp, by omega, by omega, by omega, fun l H5 hl5 e5 h5 => ?_⟩
          rw [show (1 + (i : Int)).toNat = i + 1 by omega] at h5
          walk_at "rd"
          refine n_lst1 fun l2 H6 hl6 e6 h6 => ?_
          refine n_cat (e6 _ _ h5) h6 (by rw [lenI, lowL_length]; simp; omega) fun l3 H7 hl7 e7 h7 => ?_
          have h7' : H7 l3 = some (.lst ((lowL p (i + 1) j ++ [1]).map V.int)) := by rw [h7, List.map_append]; rfl
          have e47 := ((e4.trans e5).trans e6).trans e7
          walk_at "rd"
          refine ⟨l3, a, _, row, p, rfl, .inl (.inl h7'), ex_l e47 ha, hp, by simp, by rw [List.length_append, lowL_length]; simp; omega, by omega, ?_, fun H8 e8 => ?_⟩
          · intro x hx
            rcases List.mem_append.mp hx with q | q
            · have := lowL_rw hp _ _ x q
              omega
            · have : x = 1 := List.mem_singleton.mp q
              omega
          · refine ⟨_, rfl, ?_⟩
            refine b_ifB (fun hdv => ?_) (fun hdv => ?_)
            · walk_at "rd"
              have e := irrL_false hid hj hdv
              rw [e] at kont
              exact kont H8 (e47.trans e8)
            · walk_at "rd"
              refine ⟨_, _, rfl, e47.trans e8, fun c hc => ?_⟩
              by_cases q : c = j
              · rw [q]; exact hdv
              · exact hno2 c (by omega)
        · rintro σ' H4 ⟨w3, w4, rfl, e4, hno2⟩
          refine ⟨_, _, _, _, rfl, e4, fun d c hd hc => ?_⟩
          by_cases q : d = i
          · rw [q] at hc ⊢
            exact hno2 c (by omega)
          · exact hno d c (by omega) hc
    · rintro σ' H2 ⟨v1, v2, v3, v4, rfl, e2, hno⟩
      walk_at "rd"
      have e : irrL p row = true := irrL_true fun d c hd hc => hno d c (by omega) hc
      rw [e] at kont
      exact kont H2 e2
end
end Fm
set_option Elab.async false
set_option linter.all false
set_option maxRecDepth 100000
set_option maxHeartbeats 4000000
namespace Fm
open PySem PySem.Spec PyProof.Rows L2 Evl RZ
local macro_rules | `(tactic| walk_at "r1") => `(tactic| first
  | ((with_reducible refine d_var (v := ?v1) ?h1 ?q1); (case h1 => rfl))
  | with_reducible (first
  | refine d_c ?_ | refine d_op ?_ | refine d_un ?_ | refine d_I0 ?_ | refine d_U ?_ | refine d_eq ?_ | refine d_ne ?_ | refine d_cb ?_ | refine d_nil ?_ | refine d_cons ?_ | refine d_call ?_
  | refine d_fld ?_ | refine d_test ?_ | refine d_B ?_ | refine d_bl ?_ | refine d_and ?_ | refine d_or ?_ | refine d_not ?_ | refine d_andV ?_ | refine d_orV ?_ | refine d_notV ?_ | refine d_if ?_
  | refine d_tup ?_ | refine d_lst ?_ | refine d_lc ?_ | refine d_bm ?_ | refine d_bm0 ?_ | refine d_meth ?_ | refine d_make ?_
  | refine d_sl ?_ | refine d_np ?_ | refine d_pt ?_ | refine d_pi ?_
  | refine s_seq ?_ | refine s_next ?_ | refine s_brk ?_ | refine s_asg ?_ | refine s_drop ?_ | refine s_ret ?_ | refine s_ifs ?_ | refine s_par ?_ | refine s_two ?_ | refine s_fld ?_
  | refine g_name ?_ | refine g_sub ?_ | refine g_cons ?_ | refine g_nil ?_
  | refine s_for ?_ | refine w_rng1 ?_ | refine w_rng2 ?_ | refine w_rng3 ?_ | refine w_list ?_ | refine w_tup ?_ | refine w_rev ?_ | refine w_enT ?_ | refine w_zip ?_ | refine w_zipA ?_
  | refine n_int ?_ | refine n_max ?_ | refine n_abs ?_ | refine b_tt ?_ | refine b_ff ?_ | refine b_nt ?_ | refine b_nf ?_))
local macro_rules | `(tactic| walk_at "rd") => `(tactic| repeat walk_at "r1")
/-- a field as the law has it: the tuple (p, modulus) -/
def FT (K : PySem.W.Frag) (H : Hp) (a : Addr) (p : Int) (m : List Int) : Prop := ∃ t, SqT K H a [.int p, .ref t] ∧ IT K H t m
section
variable {P : Program} {w : World} {K : PySem.W.Frag} {mg : Str → Option Value} {base : Heap} {C D G : Addr}
theorem FT.ex {H H' : Hp} {a : Addr} {p : Int} {m : List Int} (h : FT K H a p m) (e : Ex H H') : FT K H' a p m := by
  obtain ⟨t, h1, h2⟩ := h
  exact ⟨t, ex_t e h1, ex_t e h2⟩
theorem FT.p {H : Hp} {a : Addr} {p : Int} {m : List Int} {Q : VK} (h : FT K H a p m) (k : Q (.int p) H) : rIxT K (.ref a) (.int 0) H Q := by
  obtain ⟨t, h1, h2⟩ := h
  exact n_ixT (j := 0) h1 rfl k
theorem FT.m {H : Hp} {a : Addr} {p : Int} {m : List Int} {Q : VK} (h : FT K H a p m) (k : ∀ t, IT K H t m → Q (.ref t) H) : rIxT K (.ref a) (.int 1) H Q := by
  obtain ⟨t, h1, h2⟩ := h
  exact n_ixT (j := 1) h1 rfl (k t h2)
/-! ### _law_member, _law_size, _law_any -/
def spLawMember (K : PySem.W.Frag) : Sp := fun vs H Q _ => ∃ (a : Addr) (p c : Int) (m : List Int), vs = [.ref a, .int c] ∧ FT K H a p m ∧ Mon m p ∧ ∀ q H', Ex H H' → IT K H' q (lowL p (m.length - 1) c) → Q (.ref q) H'
theorem sc_law_member : FnScope ["_law_f", "_law_number"] ["_law_f", "_law_number"] (defScope (top 46)) := ⟨rfl, rfl, rfl, by decide +kernel, rfl, by decide +kernel, by decide +kernel⟩
theorem fn_law_member (T : Txt K mg) : Fn P w K mg base "_law_member" 2 ["_law_f", "_law_number"] (spLawMember K) := by
  obtain ⟨f, fd, F, hm⟩ := T.law_member.ex
  have B := T.B
  have F__law_lower := fn_law_lower (P := P) (w := w) (base := base) T
  refine ⟨f, fd, F.ok sc_law_member (fun vs H Q E h => ?_) (fun cdv A outer s H vs Q E hr h => ?_), hm, F.kp, F.binds fun _ _ _ _ _ _ us hl => match us, hl with | [_, _], _ => rfl⟩
  · obtain ⟨a, p, c, m, rfl, _⟩ := h
    rfl
  · obtain ⟨a, p, c, m, rfl, ha, M, kont⟩ := h
    have hp1 := M.p1
    have hp2 := M.p2
    have hm1 := M.len
    have hm2 := M.top
    refine ⟨_, (pss_one (ps_ret (bTuple B (pcall F__law_lower (hr.mono (by decide)) (pa_cons (pe_ix (r := rIxT K) ix_tup (pv 0) pe_int (fun _ _ => rfl)) (pa_cons (pe_op op_sub (bLen B (pe_ix (r := rIxT K) ix_tup (pv 0) pe_int (fun _ _ => rfl))) pe_int) (pa_cons (pv 1) pa_nil))))))), ?_⟩
    walk_at "rd"
    refine ha.p ?_
    walk_at "rd"
    refine ha.m fun t ht => ?_
    walk_at "rd"
    refine n_len (.inr ht) ?_
    walk_at "rd"
    rw [lenI]
    refine ⟨p, c, _, rfl, by omega, by omega, by omega, by omega, fun l H1 hl e1 h1 => ?_⟩
    rw [show ((m.length : Int) - 1).toNat = m.length - 1 by omega] at h1
    exact n_tupleL (.inl (.inl h1)) fun q H2 hq e2 h2 => kont q H2 (e1.trans e2) (.inl (.inl h2))
def spLawSize (K : PySem.W.Frag) : Sp := fun vs H Q _ => ∃ (a : Addr) (p : Int) (m : List Int), vs = [.ref a] ∧ FT K H a p m ∧ Mon m p ∧ Q (.int (p ^ (m.length - 1))) H
theorem sc_law_size : FnScope ["_law_f"] ["_law_f"] (defScope (top 47)) := ⟨rfl, rfl, rfl, by decide +kernel, rfl, by decide +kernel, by decide +kernel⟩
theorem fn_law_size (T : Txt K mg) : Fn P w K mg base "_law_size" 2 ["_law_f"] (spLawSize K) := by
  obtain ⟨f, fd, F, hm⟩ := T.law_size.ex
  have B := T.B
  have F__law_power_of := fn_law_power_of (P := P) (w := w) (base := base) T
  refine ⟨f, fd, F.ok sc_law_size (fun vs H Q E h => ?_) (fun cdv A outer s H vs Q E hr h => ?_), hm, F.kp, F.binds fun _ _ _ _ _ _ us hl => match us, hl with | [_], _ => rfl⟩
  · obtain ⟨a, p, m, rfl, _⟩ := h
    rfl
  · obtain ⟨a, p, m, rfl, ha, M, kont⟩ := h
    have hp1 := M.p1
    have hp2 := M.p2
    have hm1 := M.len
    have hm2 := M.top
    refine ⟨_, (pss_one (ps_ret (pcall F__law_power_of (hr.mono (by decide)) (pa_cons (pe_ix (r := rIxT K) ix_tup (pv 0) pe_int (fun _ _ => rfl)) (pa_cons (pe_op op_sub (bLen B (pe_ix (r := rIxT K) ix_tup (pv 0) pe_int (fun _ _ => rfl))) pe_int) pa_nil))))), ?_⟩
    walk_at "rd"
    refine ha.p ?_
    walk_at "rd"
    refine ha.m fun t ht => ?_
    walk_at "rd"
    refine n_len (.inr ht) ?_
    walk_at "rd"
    rw [lenI]
    refine ⟨p, _, rfl, by omega, by omega, by omega, by omega, ?_⟩
    rw [show ((m.length : Int) - 1).toNat = m.length - 1 by omega]
    exact kont
theorem sqT_l {H H' : Hp} {l a : Addr} {ys xs : List V} (e : ExX l H H') (hl : H l = some (.lst ys)) (h : SqT K H a xs) : SqT K H' a xs := by
  rcases h with (h | ⟨o, h⟩) | h
  · refine .inl (.inl (e _ _ (fun q => ?_) h))
    rw [q, hl] at h
    cases h
  · refine .inl (.inr ⟨o, e _ _ (fun q => ?_) h⟩)
    rw [q, hl] at h
    cases h
  · exact .inr h
theorem FT.x {H H' : Hp} {l a : Addr} {ys : List V} {p : Int} {m : List Int} (h : FT K H a p m) (e : ExX l H H') (hl : H l = some (.lst ys)) : FT K H' a p m := by
  obtain ⟨t, h1, h2⟩ := h
  exact ⟨t, sqT_l e hl h1, sqT_l e hl h2⟩
theorem FldH.x {H H' : Hp} {l a : Addr} {ys : List V} {p : Int} {m : List Int} (h : FldH K C H a p m) (e : ExX l H H') (hl : H l = some (.lst ys)) : FldH K C H' a p m := by
  obtain ⟨t, dx, h1, h2⟩ := h
  exact ⟨t, dx, e _ _ (fun q => by rw [q, hl] at h1; cases h1) h1, sqT_l e hl h2⟩
theorem MapH.x {H H' : Hp} {l a : Addr} {ys : List V} {p : Int} {f g s : List Int} (h : MapH K C D H a p f g s) (e : ExX l H H') (hl : H l = some (.lst ys)) : MapH K C D H' a p f g s := by
  obtain ⟨u, v, im, dx, h1, h2, h3, h4⟩ := h
  exact ⟨u, v, im, dx, e _ _ (fun q => by rw [q, hl] at h1; cases h1) h1, h2.x e hl, h3.x e hl, sqT_l e hl h4⟩
def spLawAny (K : PySem.W.Frag) : Sp := fun vs H Q _ => ∃ (l a : Addr) (x y p : Int) (m : List Int), vs = [.ref l, .ref a] ∧ H l = some (.lst [.int x, .int y]) ∧ FT K H a p m ∧ Mon m p ∧ p ^ (m.length - 1) < 1000000 ∧
  ∀ q v x' y' H', 0 ≤ v → v < p ^ (m.length - 1) → ExX l H H' → H' l = some (.lst [.int x', .int y']) → IT K H' q (lowL p (m.length - 1) v) → Q (.ref q) H'
theorem sc_law_any : FnScope ["_law_state_here", "_law_f"] ["_law_state_here", "_law_f"] (defScope (top 48)) := ⟨rfl, rfl, rfl, by decide +kernel, rfl, by decide +kernel, by decide +kernel⟩
theorem fn_law_any (T : Txt K mg) : Fn P w K mg base "_law_any" 3 ["_law_state_here", "_law_f"] (spLawAny K) := by
  obtain ⟨f, fd, F, hm⟩ := T.law_any.ex
  have B := T.B
  have F__law_member := fn_law_member (P := P) (w := w) (base := base) T
  have F__law_take := fn_law_take (P := P) (w := w) (base := base) T
  have F__law_size := fn_law_size (P := P) (w := w) (base := base) T
  refine ⟨f, fd, F.ok sc_law_any (fun vs H Q E h => ?_) (fun cdv A outer s H vs Q E hr h => ?_), hm, F.kp, F.binds fun _ _ _ _ _ _ us hl => match us, hl with | [_, _], _ => rfl⟩
  · obtain ⟨l, a, x, y, p, m, rfl, _⟩ := h
    rfl
  · obtain ⟨l, a, x, y, p, m, rfl, hl, ha, M, hsz, kont⟩ := h
    have hp1 := M.p1
    refine ⟨_, (pss_one (ps_ret (pcall F__law_member (hr.mono (by decide)) (pa_cons (pv 1) (pa_cons (pcall F__law_take (hr.mono (by decide)) (pa_cons (pv 0) (pa_cons (pcall F__law_size (hr.mono (by decide)) (pa_cons (pv 1) pa_nil)) pa_nil))) pa_nil))))), ?_⟩
    walk_at "rd"
    refine ⟨a, p, m, rfl, ha, M, ?_⟩
    walk_at "rd"
    refine ⟨l, x, y, _, rfl, hl, by have := (ipow_step (p := p) (by omega) (m.length - 1)).1; omega, hsz, fun v x' y' H1 h0 h1 e1 hl1 => ?_⟩
    walk_at "rd"
    exact ⟨a, p, v, m, rfl, ha.x e1 hl, M, fun q H2 e2 h2 => kont q v x' y' H2 h0 h1 (e1.trans (.of e2)) (e2 _ _ hl1) h2⟩
/-! ### _law_plus, _law_times, _law_value -/
def spLawPlus (K : PySem.W.Frag) : Sp := fun vs H Q _ => ∃ (f a b : Addr) (p : Int) (m xs ys : List Int), vs = [.ref f, .ref a, .ref b] ∧ FT K H f p m ∧ 0 < p ∧ IT K H a xs ∧ IT K H b ys ∧ xs.length = ys.length ∧ xs.length ≤ 500 ∧
  ∀ q H', Ex H H' → IT K H' q (sumP xs ys p) → Q (.ref q) H'
theorem sumP_range {xs ys : List Int} {p : Int} (h : xs.length = ys.length) : (List.range xs.length).map (fun i => V.int ((xs.getD i 0 + ys.getD i 0) % p)) = (sumP xs ys p).map V.int := by
  refine List.ext_getElem? fun i => ?_
  unfold sumP
  rw [List.getElem?_map, List.getElem?_map, List.getElem?_zipWith]
  by_cases hi : i < xs.length
  · have hx := List.getElem?_eq_getElem hi
    have hy := List.getElem?_eq_getElem (l := ys) (i := i) (by omega)
    rw [List.getElem?_range hi, hx, hy]
    show some (V.int ((xs.getD i 0 + ys.getD i 0) % p)) = some (V.int ((xs[i] + ys[i]) % p))
    rw [getD_of hx, getD_of hy]
  · rw [List.getElem?_eq_none (by simp; omega), List.getElem?_eq_none (l := xs) (by omega)] <;> rfl
theorem sc_law_plus : FnScope ["_law_f", "_law_a", "_law_b", "_law_k"] ["_law_f", "_law_a", "_law_b"] (defScope (top 44)) := ⟨rfl, rfl, rfl, by decide +kernel, rfl, by decide +kernel, by decide +kernel⟩
theorem fn_law_plus (T : Txt K mg) : Fn P w K mg base "_law_plus" 1 ["_law_f", "_law_a", "_law_b"] (spLawPlus K) := by
  obtain ⟨f, fd, F, hm⟩ := T.law_plus.ex
  have B := T.B
  refine ⟨f, fd, F.ok sc_law_plus (fun vs H Q E h => ?_) (fun cdv A outer s H vs Q E hr h => ?_), hm, F.kp, F.binds fun _ _ _ _ _ _ us hl => match us, hl with | [_, _, _], _ => rfl⟩
  · obtain ⟨f, a, b, p, m, xs, ys, rfl, _⟩ := h
    rfl
  · obtain ⟨f, a, b, p, m, xs, ys, rfl, hf, hp, ha, hb, hl, hl2, kont⟩ := h
    refine ⟨_, (pss_one (ps_ret (bTuple B (pe_lc (own := [("_law_k", 3)]) (g := gName 3) (tt := tYes) rfl sc_law_plus.nd (pi_range1 rfl B.range (pa_cons (bLen B (pv 1)) pa_nil)) (blkOk_by (N := ["_law_f", "_law_a", "_law_b", "_law_k"]) (sc := defScope (top 44)) (by decide +kernel)) (fun _ _ _ _ _ => pg_name (i := 3) sc_law_plus.nd rfl (Or.inl rfl)) (fun _ _ _ _ _ => pts_nil) (fun _ _ _ _ _ => (pe_op op_mod (pe_op op_add (pe_ix (r := rIxT K) ix_tup (pv 1) (pv 3) (fun _ _ => rfl)) (pe_ix (r := rIxT K) ix_tup (pv 2) (pv 3) (fun _ _ => rfl))) (pe_ix (r := rIxT K) ix_tup (pv 0) pe_int (fun _ _ => rfl)))))))), ?_⟩
    walk_at "rd"
    refine n_len (.inr ha) ?_
    walk_at "rd"
    rw [lenI]
    refine l_rng (by omega) (fun i => .int ((xs.getD i 0 + ys.getD i 0) % p)) (fun x => rfl) (fun i H1 hi e1 Qv q => ?_) fun l H1 hl e1 h1 => ?_
    · walk_at "rd"
      refine n_ixTi (v := .int (xs.getD i 0)) (ex_t e1 ha) (by omega) (by rw [show ((i : Nat) : Int).toNat = i by omega]; exact atD (by omega)) ?_
      walk_at "rd"
      refine n_ixTi (v := .int (ys.getD i 0)) (ex_t e1 hb) (by omega) (by rw [show ((i : Nat) : Int).toNat = i by omega]; exact atD (by omega)) ?_
      walk_at "rd"
      refine (hf.ex e1).p ?_
      walk_at "rd"
      refine d_I hp ?_
      exact q H1 (Ex.refl _)
    · rw [show ((xs.length : Nat) : Int).toNat = xs.length by omega, sumP_range (by assumption)] at h1
      walk_at "rd"
      exact n_tupleL (.inl (.inl h1)) fun q H2 hq e2 h2 => kont q H2 (e1.trans e2) (.inl (.inl h2))
def spLawTimes (K : PySem.W.Frag) : Sp := fun vs H Q _ => ∃ (f a b : Addr) (p : Int) (m xs ys : List Int), vs = [.ref f, .ref a, .ref b] ∧ FT K H f p m ∧ Mon m p ∧ IT K H a xs ∧ IT K H b ys ∧ xs.length = m.length - 1 ∧ ys.length = m.length - 1 ∧ Rw 1000 xs ∧
  ∀ q H', Ex H H' → IT K H' q (timesL m p xs ys) → Q (.ref q) H'
theorem sc_law_times : FnScope ["_law_f", "_law_a", "_law_b", "_law_p", "_law_modulus_here", "_law_n", "_law_total", "_law_i", "_law_j", "_law_at", "_law_factor", "_law_k", "_law_item"] ["_law_f", "_law_a", "_law_b"] (defScope (top 45)) := ⟨rfl, rfl, rfl, by decide +kernel, rfl, by decide +kernel, by decide +kernel⟩
theorem fn_law_times (T : Txt K mg) : Fn P w K mg base "_law_times" 1 ["_law_f", "_law_a", "_law_b"] (spLawTimes K) := by
  obtain ⟨f, fd, F, hm⟩ := T.law_times.ex
  have B := T.B
  refine ⟨f, fd, F.ok sc_law_times (fun vs H Q E h => ?_) (fun cdv A outer s H vs Q E hr h => ?_), hm, F.kp, F.binds fun _ _ _ _ _ _ us hl => match us, hl with | [_, _, _], _ => rfl⟩
  · obtain ⟨f, a, b, p, m, xs, ys, rfl, _⟩ := h
    rfl
  · obtain ⟨f, a, b, p, m, xs, ys, rfl, ⟨t, hf, ht⟩, M, ha, hb, hx, hy, hrw, kont⟩ := h
    have hp1 := M.p1
    have hp2 := M.p2
    have hm1 := M.len
    have hm2 := M.top
    refine ⟨_, (pss_cons (ps_asg (pv 0) (pg_tup rfl (pgs_cons (pg_name (i := 3) sc_law_times.nd rfl (Or.inr rfl)) (pgs_cons (pg_name (i := 4) sc_law_times.nd rfl (Or.inl rfl)) pgs_nil)))) (pss_cons (ps_set (i := 5) sc_law_times.nd rfl (Or.inl rfl) (pe_op op_sub (bLen B (pv 4)) pe_int)) (pss_cons (ps_setLc (i := 6) (own := [("_law_k", 11)]) (g := gName 11) (tt := tYes) rfl sc_law_times.nd rfl rfl (sw_true rfl rfl rfl (by decide +kernel)) (pi_range1 rfl B.range (pa_cons (pe_op op_mul pe_int (pv 5)) pa_nil)) (blkOk_by (N := ["_law_f", "_law_a", "_law_b", "_law_p", "_law_modulus_here", "_law_n", "_law_total", "_law_i", "_law_j", "_law_at", "_law_factor", "_law_k", "_law_item"]) (sc := defScope (top 45)) (by decide +kernel)) (fun _ _ _ _ _ => pg_name (i := 11) sc_law_times.nd rfl (Or.inl rfl)) (fun _ _ _ _ _ => pts_nil) (fun _ _ _ _ _ => pe_int)) (pss_cons (ps_for PassesOwn.never rfl (pi_range1 rfl B.range (pa_cons (pv 5) pa_nil)) (pg_name (i := 7) sc_law_times.nd rfl (Or.inl rfl)) (pss_one (ps_for PassesOwn.never rfl (pi_range1 rfl B.range (pa_cons (pv 5) pa_nil)) (pg_name (i := 8) sc_law_times.nd rfl (Or.inl rfl)) (pss_one (ps_asg (pe_op op_add (pe_ix (r := rIxL K) ix_list (pv 6) (pe_op op_add (pv 7) (pv 8)) (fun _ _ => rfl)) (pe_op op_mul (pe_ix (r := rIxT K) ix_tup (pv 1) (pv 7) (fun _ _ => rfl)) (pe_ix (r := rIxT K) ix_tup (pv 2) (pv 8) (fun _ _ => rfl)))) (pg_sub (pv 6) (pe_op op_add (pv 7) (pv 8)) set_list)))))) (pss_cons (ps_for PassesOwn.never rfl (pi_range3 rfl B.range (pa_cons (pe_op op_sub (pe_op op_mul pe_int (pv 5)) pe_int) (pa_cons (pe_op op_sub (pv 5) pe_int) (pa_cons (pe_un un_neg pe_int) pa_nil)))) (pg_name (i := 9) sc_law_times.nd rfl (Or.inl rfl)) (pss_cons (ps_set (i := 10) sc_law_times.nd rfl (Or.inl rfl) (pe_ix (r := rIxL K) ix_list (pv 6) (pv 9) (fun _ _ => rfl))) (pss_one (ps_for PassesOwn.never rfl (pi_range1 rfl B.range (pa_cons (pe_op op_add (pv 5) pe_int) pa_nil)) (pg_name (i := 11) sc_law_times.nd rfl (Or.inl rfl)) (pss_one (ps_asg (pe_op op_sub (pe_ix (r := rIxL K) ix_list (pv 6) (pe_op op_add (pe_op op_sub (pv 9) (pv 5)) (pv 11)) (fun _ _ => rfl)) (pe_op op_mul (pv 10) (pe_ix (r := rIxT K) ix_tup (pv 4) (pv 11) (fun _ _ => rfl)))) (pg_sub (pv 6) (pe_op op_add (pe_op op_sub (pv 9) (pv 5)) (pv 11)) set_list))))))) (pss_one (ps_ret (bTuple B (pe_lc (own := [("_law_item", 12)]) (g := gName 12) (tt := tYes) rfl sc_law_times.nd (pi_list (pe_slice sl_list (pv 6) po_none (po_some (pv 5)))) (blkOk_by (N := ["_law_f", "_law_a", "_law_b", "_law_p", "_law_modulus_here", "_law_n", "_law_total", "_law_i", "_law_j", "_law_at", "_law_factor", "_law_k", "_law_item"]) (sc := defScope (top 45)) (by decide +kernel)) (fun _ _ _ _ _ => pg_name (i := 12) sc_law_times.nd rfl (Or.inl rfl)) (fun _ _ _ _ _ => pts_nil) (fun _ _ _ _ _ => (pe_op op_mod (pv 12) (pv 3)))))))))))), ?_⟩
    walk_at "rd"
    refine g_two hf rfl ?_
    walk_at "rd"
    refine n_len (.inr ht) ?_
    walk_at "rd"
    rw [lenI]
    generalize hn : m.length - 1 = n at *
    have hml : m.length = n + 1 := by omega
    have hn2 : (m.length : Int) - 1 = (n : Int) := by omega
    rw [hn2]
    walk_at "rd"
    refine d_mulL (by omega) ?_
    refine l_rng (by omega) (fun _ => .int 0) (fun x => rfl) (fun i H' hi e Qv q => ?_) fun l H1 hl e1 h1 => ?_
    · walk_at "rd"
      exact q H' (Ex.refl _)
    rw [zerosV, show (2 * (n : Int)).toNat = n + n by omega] at h1
    walk_at "rd"
    have cl : ∀ i, (loopN i (convIn xs ys) (List.replicate (n + n) 0)).length = n + n := fun i => by
      rw [loopN_length (convIn_length xs ys), List.length_replicate]
    refine f_rng1 ⟨by omega, by omega⟩ (fun i σ H' => ∃ v1 v2 v3 v4 v5, σ = [some (.ref f), some (.ref a), some (.ref b), some (.int p), some (.ref t), some (.int (n : Nat)), some (.ref l), v1, v2, v3, v4, v5, none] ∧ Ex H H' ∧ H' l = some (.lst ((loopN i (convIn xs ys) (List.replicate (n + n) 0)).map V.int)))
      ⟨_, _, _, _, _, rfl, e1, h1⟩ ?_ ?_
    · rintro i σ' H2 hi ⟨v1, v2, v3, v4, v5, rfl, e2, h2⟩
      walk_at "rd"
      refine f_rng1 ⟨by omega, by omega⟩ (fun j σ H' => ∃ v2 v3 v4 v5, σ = [some (.ref f), some (.ref a), some (.ref b), some (.int p), some (.ref t), some (.int (n : Nat)), some (.ref l), some (.int (i : Nat)), v2, v3, v4, v5, none] ∧ Ex H H' ∧
        H' l = some (.lst ((loopN j (fun k o => o.set (i + k) (o.getD (i + k) 0 + xs.getD i 0 * ys.getD k 0)) (loopN i (convIn xs ys) (List.replicate (n + n) 0))).map V.int))) ⟨_, _, _, _, rfl, e2, h2⟩ ?_ ?_
      · rintro j σ' H3 hj ⟨w2, w3, w4, w5, rfl, e3, h3⟩
        have cl2 : (loopN j (fun k o => o.set (i + k) (o.getD (i + k) 0 + xs.getD i 0 * ys.getD k 0)) (loopN i (convIn xs ys) (List.replicate (n + n) 0))).length = n + n := by
          rw [loopN_length (fun _ _ => by simp), cl]
        generalize hg : loopN j (fun k o => o.set (i + k) (o.getD (i + k) 0 + xs.getD i 0 * ys.getD k 0)) (loopN i (convIn xs ys) (List.replicate (n + n) 0)) = o at h3 cl2
        have tn : ((i : Int) + (j : Int)).toNat = i + j := by omega
        have bx := hrw (xs.getD i 0) (by rw [List.getD_eq_getElem?_getD, List.getElem?_eq_getElem (by omega)]; exact List.getElem_mem _)
        walk_at "rd"
        refine n_ixLi (v := .int (o.getD (i + j) 0)) (.inl (.inl h3)) (by omega) (by rw [tn]; exact atD (by omega)) ?_
        walk_at "rd"
        refine n_ixTi (v := .int (xs.getD i 0)) (ex_t e3 ha) (by omega) (by rw [show ((i : Nat) : Int).toNat = i by omega]; exact atD (by omega)) ?_
        walk_at "rd"
        refine n_ixTi (v := .int (ys.getD j 0)) (ex_t e3 hb) (by omega) (by rw [show ((j : Nat) : Int).toNat = j by omega]; exact atD (by omega)) ?_
        walk_at "rd"
        refine d_mulL (by omega) ?_
        walk_at "rd"
        refine n_setL h3 (by omega) (by rw [lenI]; omega) ?_
        refine ⟨_, _, _, _, rfl, Ex.mut e3 hl, ?_⟩
        rw [upd_same, tn, setI, loopN_succ, hg]
      · rintro σ' H3 ⟨w2, w3, w4, w5, rfl, e3, h3⟩
        rw [show ((n : Nat) : Int).toNat = n by omega] at h3
        refine ⟨_, _, _, _, _, rfl, e3, ?_⟩
        rw [h3, loopN_succ]
        unfold convIn
        rw [hy]
    · rintro σ' H2 ⟨v1, v2, v3, v4, v5, rfl, e2, h2⟩
      rw [show ((n : Nat) : Int).toNat = n by omega] at h2
      have hc : loopN n (convIn xs ys) (List.replicate (n + n) 0) = conv xs ys := by
        unfold conv
        rw [hx, hy]
      rw [hc] at h2
      have hcl : (conv xs ys).length = n + n := by rw [conv_length, hx, hy]
      walk_at "rd"
      refine d_mulL (by omega) ?_
      walk_at "rd"
      refine f_rngD ⟨by omega, by omega, by omega, by omega⟩ (fun i σ H' => ∃ v1 v2 v3 v4 v5, σ = [some (.ref f), some (.ref a), some (.ref b), some (.int p), some (.ref t), some (.int (n : Nat)), some (.ref l), v1, v2, v3, v4, v5, none] ∧ Ex H H' ∧ H' l = some (.lst ((redA m n (conv xs ys) i).map V.int)))
        ⟨_, _, _, _, _, rfl, e2, h2⟩ ?_ ?_
      · rintro i σ' H3 hi ⟨v1, v2, v3, v4, v5, rfl, e3, h3⟩
        have hin : i < n := by omega
        have rl := redA_length m n (conv xs ys) i
        rw [hcl] at rl
        have hat : 2 * (n : Int) - 1 - (i : Int) = ((2 * n - 1 - i : Nat) : Int) := by omega
        rw [hat]
        have hsucc := redA_succ m n (conv xs ys) i
        unfold redT at hsucc
        generalize redA m n (conv xs ys) i = o at h3 rl hsucc
        have hbk : n - 1 - i = 2 * n - 1 - i - n := by omega
        rw [hbk] at hsucc
        generalize hkk : 2 * n - 1 - i = kk at *
        walk_at "rd"
        refine n_ixLi (v := .int (o.getD kk 0)) (.inl (.inl h3)) (by omega) (by rw [show ((kk : Nat) : Int).toNat = kk by omega]; exact atD (by omega)) ?_
        walk_at "rd"
        generalize hfac : o.getD kk 0 = fac at *
        refine f_rng1 ⟨by omega, by omega⟩ (fun j σ H' => ∃ v5 v2 v1, σ = [some (.ref f), some (.ref a), some (.ref b), some (.int p), some (.ref t), some (.int (n : Nat)), some (.ref l), v1, v2, some (.int (kk : Nat)), some (.int fac), v5, none] ∧ Ex H H' ∧
          H' l = some (.lst ((loopN j (fun k o => o.set (kk - n + k) (o.getD (kk - n + k) 0 - fac * m.getD k 0)) o).map V.int))) ⟨_, _, _, rfl, e3, h3⟩ ?_ ?_
        · rintro j σ' H4 hj ⟨w5, w2, w1, rfl, e4, h4⟩
          have cl2 : (loopN j (fun k o => o.set (kk - n + k) (o.getD (kk - n + k) 0 - fac * m.getD k 0)) o).length = n + n := by
            rw [loopN_length (fun _ _ => by simp), rl]
          generalize hg : loopN j (fun k o => o.set (kk - n + k) (o.getD (kk - n + k) 0 - fac * m.getD k 0)) o = o2 at h4 cl2
          have tn : ((kk : Int) - (n : Int) + (j : Int)).toNat = kk - n + j := by omega
          have bm := M.rw (m.getD j 0) (by rw [List.getD_eq_getElem?_getD, List.getElem?_eq_getElem (by omega)]; exact List.getElem_mem _)
          walk_at "rd"
          refine n_ixLi (v := .int (o2.getD (kk - n + j) 0)) (.inl (.inl h4)) (by omega) (by rw [tn]; exact atD (by omega)) ?_
          walk_at "rd"
          refine n_ixTi (v := .int (m.getD j 0)) (ex_t e4 ht) (by omega) (by rw [show ((j : Nat) : Int).toNat = j by omega]; exact atD (by omega)) ?_
          walk_at "rd"
          refine d_mulR (by omega) ?_
          walk_at "rd"
          refine n_setL h4 (by omega) (by rw [lenI]; omega) ?_
          refine ⟨_, _, _, rfl, Ex.mut e4 hl, ?_⟩
          rw [upd_same, tn, setI, loopN_succ, hg]
        · rintro σ' H4 ⟨w5, w2, w1, rfl, e4, h4⟩
          rw [show ((n : Int) + 1).toNat = m.length by omega] at h4
          refine ⟨_, _, _, _, _, rfl, e4, ?_⟩
          rw [h4, hsucc]
          rfl
      · rintro σ' H3 ⟨v1, v2, v3, v4, v5, rfl, e3, h3⟩
        rw [show (2 * (n : Int) - 1 - ((n : Int) - 1)).toNat = n by omega] at h3
        walk_at "rd"
        refine n_slL (.inl (.inl h3)) fun q1 H4 hq1 e4 h4 => ?_
        rw [← List.map_take] at h4
        refine l_list (.inl (.inl h4)) (fun _ => true) (fI (· % p)) (by rw [lenI, List.length_take]; omega) (fun x => rfl) (fun x H' _ e Qb q => q H' (Ex.refl _)) (fun x H' hx _ e Qv q => ?_) fun q2 H5 hq2 e5 h5 => ?_
        · obtain ⟨x, _, rfl⟩ := memI hx
          walk_at "rd"
          refine d_I (by omega) ?_
          exact q H' (Ex.refl _)
        · rw [mapI] at h5
          walk_at "rd"
          refine n_tupleL (.inl (.inl h5)) fun q3 H6 hq3 e6 h6 => kont q3 H6 (((e3.trans e4).trans e5).trans e6) (.inl (.inl ?_))
          rw [h6]
          unfold timesL
          rw [hn]
end
end Fm
set_option Elab.async false
set_option linter.all false
set_option maxRecDepth 100000
set_option maxHeartbeats 4000000
namespace Fm
open PySem PySem.Spec PyProof.Rows L2 Evl RZ
local macro_rules | `(tactic| walk_at "r1") => `(tactic| first
  | ((with_reducible refine d_var (v := ?v1) ?h1 ?q1); (case h1 => rfl))
  | with_reducible (first
  | refine d_c ?_ | refine d_op ?_ | refine d_un ?_ | refine d_I0 ?_ | refine d_U ?_ | refine d_eq ?_ | refine d_ne ?_ | refine d_cb ?_ | refine d_nil ?_ | refine d_cons ?_ | refine d_call ?_
  | refine d_fld ?_ | refine d_test ?_ | refine d_B ?_ | refine d_bl ?_ | refine d_and ?_ | refine d_or ?_ | refine d_not ?_ | refine d_andV ?_ | refine d_orV ?_ | refine d_notV ?_ | refine d_if ?_
  | refine d_tup ?_ | refine d_lst ?_ | refine d_lc ?_ | refine d_bm ?_ | refine d_bm0 ?_ | refine d_meth ?_ | refine d_make ?_
  | refine d_sl ?_ | refine d_np ?_ | refine d_pt ?_ | refine d_pi ?_
  | refine s_seq ?_ | refine s_next ?_ | refine s_brk ?_ | refine s_asg ?_ | refine s_drop ?_ | refine s_ret ?_ | refine s_ifs ?_ | refine s_par ?_ | refine s_two ?_ | refine s_fld ?_
  | refine g_name ?_ | refine g_sub ?_ | refine g_cons ?_ | refine g_nil ?_
  | refine s_for ?_ | refine w_rng1 ?_ | refine w_rng2 ?_ | refine w_rng3 ?_ | refine w_list ?_ | refine w_tup ?_ | refine w_rev ?_ | refine w_enT ?_ | refine w_zip ?_ | refine w_zipA ?_
  | refine n_int ?_ | refine n_max ?_ | refine n_abs ?_ | refine b_tt ?_ | refine b_ff ?_ | refine b_nt ?_ | refine b_nf ?_))
local macro_rules | `(tactic| walk_at "rd") => `(tactic| repeat walk_at "r1")
theorem timesL_length {m xs ys : List Int} {p : Int} (hx : xs.length = m.length - 1) (hy : ys.length = m.length - 1) : (timesL m p xs ys).length = m.length - 1 := by
  unfold timesL
  rw [List.length_map, List.length_take, redA_length, conv_length]
  omega
theorem sumP_length {xs ys : List Int} {p : Int} (h : xs.length = ys.length) : (sumP xs ys p).length = xs.length := by
  unfold sumP
  rw [List.length_zipWith]
  omega
theorem sumP_rw {p : Int} (hp : 0 < p) : ∀ xs ys : List Int, Rw p (sumP xs ys p)
  | [], _ => fun x hx => nomatch hx
  | _ :: _, [] => fun x hx => nomatch hx
  | a :: xs, b :: ys => fun x hx => by
    rcases List.mem_cons.mp (show x ∈ (a + b) % p :: sumP xs ys p from hx) with e | e
    · rw [e]; exact ⟨Int.emod_nonneg _ (by omega), Int.emod_lt_of_pos _ hp⟩
    · exact sumP_rw hp xs ys x e
theorem stepL_ok {s m t : List Int} {p c : Int} (hp : 0 < p) (hs : s.length = m.length - 1) (ht : t.length = m.length - 1) : (stepL s m p t c).length = m.length - 1 ∧ Rw p (stepL s m p t c) := by
  unfold stepL
  refine ⟨?_, sumP_rw hp _ _⟩
  rw [sumP_length (by rw [timesL_length ht hs, lowL_length]), timesL_length ht hs]
theorem foldL_ok {s m : List Int} {p : Int} (hp : 0 < p) (hs : s.length = m.length - 1) : ∀ (xs t : List Int), t.length = m.length - 1 ∧ Rw p t → (xs.foldl (stepL s m p) t).length = m.length - 1 ∧ Rw p (xs.foldl (stepL s m p) t)
  | [], _, h => h
  | c :: xs, t, h => foldL_ok hp hs xs _ (stepL_ok hp hs h.1)
/-! ### the domain -/
def domP : List (Int × Nat) := [(2, 1), (2, 2), (2, 4), (3, 1), (3, 2), (2, 3), (5, 1), (3, 3)]
def domT : List (Int × Nat × Nat) := [(2, 1, 1), (2, 1, 2), (2, 2, 2), (2, 2, 4), (2, 2, 3), (2, 4, 4), (2, 4, 5), (3, 1, 1), (3, 1, 2), (3, 2, 2), (3, 2, 3), (2, 3, 3), (2, 3, 6), (2, 3, 4), (5, 1, 1), (5, 1, 2), (3, 3, 3)]
/-- a modulus that the law has drawn -/
def Drawn (p : Int) (n : Nat) (f : List Int) : Prop := ∃ c : Int, 0 ≤ c ∧ c < p ^ n ∧ f = lowL p n c ++ [1] ∧ irrL p f = true
structure Pair (p : Int) (n m : Nat) (f g : List Int) : Prop where
  dom : (p, n, m) ∈ domT
  f : Drawn p n f
  g : Drawn p m g
def hasIrr (p : Int) (n : Nat) : Bool := (List.range (p ^ n).toNat).any fun c => irrL p (lowL p n c ++ [1])
theorem has_all : (domT.all fun q => hasIrr q.1 q.2.1 && hasIrr q.1 q.2.2 && decide (2 ≤ q.1 ∧ q.1 ≤ 5 ∧ 1 ≤ q.2.1 ∧ q.2.1 ≤ 4 ∧ 1 ≤ q.2.2 ∧ q.2.2 ≤ 6 ∧ q.1 ^ q.2.1 ≤ 64 ∧ q.1 ^ q.2.2 ≤ 64)) = true := by decide +kernel
theorem dom_ok {p : Int} {n m : Nat} (h : (p, n, m) ∈ domT) : hasIrr p n = true ∧ hasIrr p m = true ∧ 2 ≤ p ∧ p ≤ 5 ∧ 1 ≤ n ∧ n ≤ 4 ∧ 1 ≤ m ∧ m ≤ 6 ∧ p ^ n ≤ 64 ∧ p ^ m ≤ 64 := by
  have q := List.all_eq_true.mp has_all _ h
  rw [Bool.and_eq_true, Bool.and_eq_true, decide_eq_true_iff] at q
  obtain ⟨⟨h1, h2⟩, h3⟩ := q
  exact ⟨h1, h2, h3⟩
theorem dom_self {p : Int} {n : Nat} (h : (p, n) ∈ domP) : (p, n, n) ∈ domT := by
  have q : (domP.all fun q => decide ((q.1, q.2, q.2) ∈ domT)) = true := by decide +kernel
  exact of_decide_eq_true (List.all_eq_true.mp q _ h)
theorem dom_grow {p : Int} {n m : Nat} (h : (p, n) ∈ domP) (hm : m = n ∨ m = 2 * n ∨ m = n + 1) (hs : ¬ p ^ m > 64) : (p, n, m) ∈ domT := by
  have q : (domP.all fun q => [q.2, 2 * q.2, q.2 + 1].all fun m => decide (¬ q.1 ^ m > 64 → (q.1, q.2, m) ∈ domT)) = true := by decide +kernel
  have q2 := List.all_eq_true.mp q _ h
  have q3 := of_decide_eq_true (List.all_eq_true.mp q2 m (by
    rcases hm with rfl | rfl | rfl <;> simp))
  exact q3 hs
section
variable {P : Program} {w : World} {K : PySem.W.Frag} {mg : Str → Option Value} {base : Heap} {C D G : Addr}
/-! ### _law_value -/
def spLawValue (K : PySem.W.Frag) : Sp := fun vs H Q _ => ∃ (f a b : Addr) (p : Int) (m xs s : List Int), vs = [.ref f, .ref a, .ref b] ∧ FT K H f p m ∧ Mon m p ∧ IT K H a xs ∧ xs.length ≤ 200 ∧ IT K H b s ∧ s.length = m.length - 1 ∧
  ∀ q H', Ex H H' → IT K H' q (valL s m p xs) → Q (.ref q) H'
theorem sc_law_value : FnScope ["_law_f", "_law_row", "_law_s", "_law_total", "_law_c"] ["_law_f", "_law_row", "_law_s"] (defScope (top 50)) := ⟨rfl, rfl, rfl, by decide +kernel, rfl, by decide +kernel, by decide +kernel⟩
theorem fn_law_value (T : Txt K mg) : Fn P w K mg base "_law_value" 3 ["_law_f", "_law_row", "_law_s"] (spLawValue K) := by
  obtain ⟨f, fd, F, hm⟩ := T.law_value.ex
  have B := T.B
  have F__law_member := fn_law_member (P := P) (w := w) (base := base) T
  have F__law_plus := fn_law_plus (P := P) (w := w) (base := base) T
  have F__law_times := fn_law_times (P := P) (w := w) (base := base) T
  refine ⟨f, fd, F.ok sc_law_value (fun vs H Q E h => ?_) (fun cdv A outer s H vs Q E hr h => ?_), hm, F.kp, F.binds fun _ _ _ _ _ _ us hl => match us, hl with | [_, _, _], _ => rfl⟩
  · obtain ⟨f, a, b, p, m, xs, s, rfl, _⟩ := h
    rfl
  · obtain ⟨f, a, b, p, m, xs, s, rfl, hf, M, ha, hxl, hb, hs, kont⟩ := h
    have hp1 := M.p1
    have hp2 := M.p2
    have hm1 := M.len
    have hm2 := M.top
    have hp : 0 < p := by omega
    refine ⟨_, (pss_cons (ps_set (i := 3) sc_law_value.nd rfl (Or.inl rfl) (pcall F__law_member (hr.mono (by decide)) (pa_cons (pv 0) (pa_cons pe_int pa_nil)))) (pss_cons (ps_for PassesOwn.never rfl (pi_reversed rfl B.reversed (pa_cons (bList B (pv 1)) pa_nil)) (pg_name (i := 4) sc_law_value.nd rfl (Or.inl rfl)) (pss_one (ps_set (i := 3) sc_law_value.nd rfl (Or.inl rfl) (pcall F__law_plus (hr.mono (by decide)) (pa_cons (pv 0) (pa_cons (pcall F__law_times (hr.mono (by decide)) (pa_cons (pv 0) (pa_cons (pv 3) (pa_cons (pv 2) pa_nil)))) (pa_cons (pcall F__law_member (hr.mono (by decide)) (pa_cons (pv 0) (pa_cons (pe_op op_mod (pv 4) (pe_ix (r := rIxT K) ix_tup (pv 0) pe_int (fun _ _ => rfl))) pa_nil))) pa_nil))))))) (pss_one (ps_ret (pv 3))))), ?_⟩
    walk_at "rd"
    refine ⟨f, p, 0, m, rfl, hf, M, fun q1 H1 e1 h1 => ?_⟩
    walk_at "rd"
    refine n_list (.inr (ex_t e1 ha)) fun l H2 hl e2 h2 => ?_
    have e02 := e1.trans e2
    refine f_rev (.inl (.inl h2)) (fun i σ H' => ∃ q w, σ = [some (.ref f), some (.ref a), some (.ref b), some (.ref q), w] ∧ Ex H2 H' ∧ IT K H' q ((xs.reverse.take i).foldl (stepL s m p) (lowL p (m.length - 1) 0))) ⟨q1, _, rfl, Ex.refl _, ex_t e2 h1⟩ (fun i σ' H' ⟨_, _, _, e, _⟩ => .inl (.inl (e _ _ h2))) ?_ ?_
    · rintro i v1 σ' H3 hv ⟨q, w1, rfl, e3, h3⟩
      rw [revI] at hv
      obtain ⟨c, hc, rfl⟩ := getI hv
      have e03 := e02.trans e3
      have tl := foldL_ok hp hs (xs.reverse.take i) _ ⟨lowL_length p (m.length - 1) 0, lowL_rw hp (m.length - 1) 0⟩
      walk_at "rd"
      refine ⟨f, q, b, p, m, _, s, rfl, hf.ex e03, M, h3, ex_t e03 hb, tl.1, hs, tl.2.le hp2, fun q4 H4 e4 h4 => ?_⟩
      walk_at "rd"
      refine (hf.ex (e03.trans e4)).p ?_
      walk_at "rd"
      refine d_I hp ?_
      walk_at "rd"
      refine ⟨f, p, c % p, m, rfl, hf.ex (e03.trans e4), M, fun q5 H5 e5 h5 => ?_⟩
      walk_at "rd"
      have l4 := timesL_length (p := p) tl.1 hs
      refine ⟨f, q4, q5, p, m, _, _, rfl, hf.ex ((e03.trans e4).trans e5), hp, ex_t e5 h4, h5, by rw [l4, lowL_length], by omega, fun q6 H6 e6 h6 => ?_⟩
      walk_at "rd"
      refine ⟨q6, _, rfl, ((e3.trans e4).trans e5).trans e6, ?_⟩
      rw [take_succ_foldl hc]
      exact h6
    · rintro σ' H3 ⟨q, w1, rfl, e3, h3⟩
      rw [lenI, ← List.length_reverse (as := xs), List.take_length] at h3
      walk_at "rd"
      exact kont q H3 (e02.trans e3) h3
/-! ### _law_modulus -/
def spLawModulus (K : PySem.W.Frag) : Sp := fun vs H Q _ => ∃ (l : Addr) (x y p : Int) (n : Nat), vs = [.ref l, .int p, .int (n : Int)] ∧ H l = some (.lst [.int x, .int y]) ∧ 2 ≤ p ∧ p ≤ 5 ∧ 1 ≤ n ∧ n ≤ 6 ∧ p ^ n ≤ 64 ∧ hasIrr p n = true ∧
  ∀ q f x' y' H', Drawn p n f → ExX l H H' → H' l = some (.lst [.int x', .int y']) → IT K H' q f → Q (.ref q) H'
theorem turn_hits {many start : Int} {c : Nat} (h0 : 0 ≤ start) (h1 : start < many) (hc : (c : Int) < many) : ∃ t : Nat, (t : Int) < many ∧ (start + t) % many = c := by
  by_cases h : start ≤ c
  · refine ⟨(c - start).toNat, by omega, ?_⟩
    rw [show start + (((c - start).toNat : Nat) : Int) = c by omega]
    exact Int.emod_eq_of_lt (by omega) hc
  · refine ⟨(c - start + many).toNat, by omega, ?_⟩
    rw [show start + (((c - start + many).toNat : Nat) : Int) = c + many by omega, Int.add_emod_right]
    exact Int.emod_eq_of_lt (by omega) hc
theorem sc_law_modulus : FnScope ["_law_state_here", "_law_p", "_law_n", "_law_many", "_law_start", "_law_turn", "_law_row"] ["_law_state_here", "_law_p", "_law_n"] (defScope (top 43)) := ⟨rfl, rfl, rfl, by decide +kernel, rfl, by decide +kernel, by decide +kernel⟩
theorem fn_law_modulus (T : Txt K mg) : Fn P w K mg base "_law_modulus" 3 ["_law_state_here", "_law_p", "_law_n"] (spLawModulus K) := by
  obtain ⟨f, fd, F, hm⟩ := T.law_modulus.ex
  have B := T.B
  have F__law_power_of := fn_law_power_of (P := P) (w := w) (base := base) T
  have F__law_take := fn_law_take (P := P) (w := w) (base := base) T
  have F__law_lower := fn_law_lower (P := P) (w := w) (base := base) T
  have F__law_is_irreducible := fn_law_is_irreducible (P := P) (w := w) (base := base) T
  refine ⟨f, fd, F.ok sc_law_modulus (fun vs H Q E h => ?_) (fun cdv A outer s H vs Q E hr h => ?_), hm, F.kp, F.binds fun _ _ _ _ _ _ us hl => match us, hl with | [_, _, _], _ => rfl⟩
  · obtain ⟨l, x, y, p, n, rfl, _⟩ := h
    rfl
  · obtain ⟨l, x, y, p, n, rfl, hl, hp0, hp1, hn0, hn1, hsz, hirr, kont⟩ := h
    have hpos := (ipow_step (p := p) (by omega) n).1
    refine ⟨_, (pss_cons (ps_set (i := 3) sc_law_modulus.nd rfl (Or.inl rfl) (pcall F__law_power_of (hr.mono (by decide)) (pa_cons (pv 1) (pa_cons (pv 2) pa_nil)))) (pss_cons (ps_set (i := 4) sc_law_modulus.nd rfl (Or.inl rfl) (pcall F__law_take (hr.mono (by decide)) (pa_cons (pv 0) (pa_cons (pv 3) pa_nil)))) (pss_cons (ps_for PassesOwn.never rfl (pi_range1 rfl B.range (pa_cons (pv 3) pa_nil)) (pg_name (i := 5) sc_law_modulus.nd rfl (Or.inl rfl)) (pss_cons (ps_set (i := 6) sc_law_modulus.nd rfl (Or.inl rfl) (pe_op op_cat (pcall F__law_lower (hr.mono (by decide)) (pa_cons (pv 1) (pa_cons (pv 2) (pa_cons (pe_op op_mod (pe_op op_add (pv 4) (pv 5)) (pv 3)) pa_nil)))) (pe_lst (pa_cons pe_int pa_nil)))) (pss_one (ps_if (pt_val (pcall F__law_is_irreducible (hr.mono (by decide)) (pa_cons (pv 1) (pa_cons (pv 6) pa_nil)))) (pss_one (ps_ret (bTuple B (pv 6)))) pss_nil)))) (pss_one (ps_ret (pe_tup (pa_cons pe_int (pa_cons pe_int pa_nil)))))))), ?_⟩
    walk_at "rd"
    refine ⟨p, n, rfl, by omega, by omega, by omega, by omega, ?_⟩
    rw [show ((n : Nat) : Int).toNat = n by omega]
    walk_at "rd"
    refine ⟨l, x, y, _, rfl, hl, by omega, by omega, fun start x' y' H1 h0 h1 e1 hl1 => ?_⟩
    walk_at "rd"
    refine f_rng1 ⟨by omega, by omega⟩ (fun i σ H' => ∃ v w, σ = [some (.ref l), some (.int p), some (.int (n : Int)), some (.int (p ^ n)), some (.int start), v, w] ∧ Ex H1 H' ∧ ∀ t : Nat, t < i → irrL p (lowL p n ((start + t) % p ^ n) ++ [1]) = false)
      ⟨_, _, rfl, Ex.refl _, fun t ht => by omega⟩ ?_ ?_
    · rintro i σ' H2 hi ⟨v, w, rfl, e2, hno⟩
      walk_at "rd"
      refine d_I (by omega) ?_
      walk_at "rd"
      refine ⟨p, _, n, rfl, by omega, by omega, by omega, by omega, fun q3 H3 hq3 e3 h3 => ?_⟩
      rw [show ((n : Nat) : Int).toNat = n by omega] at h3
      walk_at "rd"
      refine n_lst1 fun q4 H4 hq4 e4 h4 => ?_
      refine n_cat (e4 _ _ h3) h4 (by rw [lenI, lowL_length]; simp; omega) fun q5 H5 hq5 e5 h5 => ?_
      have e25 := ((e2.trans e3).trans e4).trans e5
      have hc0 := Int.emod_nonneg (start + (i : Int)) (show p ^ n ≠ 0 by omega)
      have hc1 := Int.emod_lt_of_pos (start + (i : Int)) (show 0 < p ^ n by omega)
      generalize hcc : (start + (i : Int)) % p ^ n = c at *
      have h5' : H5 q5 = some (.lst ((lowL p n c ++ [1]).map V.int)) := by rw [h5, List.map_append]; rfl
      walk_at "rd"
      have hrl : (lowL p n c ++ [1]).length = n + 1 := by rw [List.length_append, lowL_length]; rfl
      refine ⟨q5, p, _, rfl, .inl (.inl h5'), by omega, by omega, by simp, by omega, ?_, fun H6 e6 => ?_⟩
      · rw [hrl]
        have := ipow_le (p := p) (by omega) (show (n + 1 - 1) / 2 ≤ n by omega)
        omega
      · refine ⟨_, rfl, ?_⟩
        refine b_ifB (fun hy => ?_) (fun hn => ?_)
        · walk_at "rd"
          refine n_tupleL (.inl (.inl (e6 _ _ h5'))) fun q7 H7 hq7 e7 h7 => ?_
          exact kont q7 _ x' y' H7 ⟨c, hc0, hc1, rfl, hy⟩ (e1.trans (.of ((e25.trans e6).trans e7))) (((e25.trans e6).trans e7) _ _ hl1) (.inl (.inl h7))
        · walk_at "rd"
          refine ⟨_, _, rfl, e25.trans e6, fun t ht => ?_⟩
          by_cases q : t = i
          · rw [q, hcc]; exact hn
          · exact hno t (by omega)
    · rintro σ' H2 ⟨v, w, rfl, e2, hno⟩
      exfalso
      unfold hasIrr at hirr
      obtain ⟨c, hc, hy⟩ := List.any_eq_true.mp hirr
      have hc2 := List.mem_range.mp hc
      obtain ⟨t, ht, he⟩ := turn_hits (c := c) h0 h1 (by omega)
      have := hno t (by omega)
      rw [he, hy] at this
      cases this
/-! ### _law_pair_of_fields -/
def spLawPair (K : PySem.W.Frag) : Sp := fun vs H Q _ => ∃ (l : Addr) (x y : Int), vs = [.ref l] ∧ H l = some (.lst [.int x, .int y]) ∧
  ∀ t u v p n m f g x' y' H', Pair p n m f g → ExX l H H' → H' l = some (.lst [.int x', .int y']) → SqT K H' t [.ref u, .ref v] → FT K H' u p f → FT K H' v p g → Q (.ref t) H'
theorem pick_dom {qs : List V} {qa : List Addr} {H : Hp} {v : Int} (hq : qs = qa.map V.ref) (hl : qa.length = 8) (h0 : 0 ≤ v) (h1 : v < 8) (h : ∀ (i : Nat) (a : Addr), qa[i]? = some a → ∃ p n, domP[i]? = some (p, n) ∧ SqT K H a [.int p, .int (n : Int)]) :
    ∃ q p n, qs[v.toNat]? = some (.ref q) ∧ (p, n) ∈ domP ∧ SqT K H q [.int p, .int ((n : Nat) : Int)] := by
  have hi : v.toNat < qa.length := by omega
  obtain ⟨p, n, hd, hs⟩ := h v.toNat _ (List.getElem?_eq_getElem hi)
  refine ⟨_, p, n, ?_, List.mem_of_getElem? hd, hs⟩
  rw [hq, List.getElem?_map, List.getElem?_eq_getElem hi]
  rfl
theorem sc_law_pair_of_fields : FnScope ["_law_state_here", "_law_p", "_law_n", "_law_m"] ["_law_state_here"] (defScope (top 49)) := ⟨rfl, rfl, rfl, by decide +kernel, rfl, by decide +kernel, by decide +kernel⟩
theorem fn_law_pair_of_fields (T : Txt K mg) : Fn P w K mg base "_law_pair_of_fields" 4 ["_law_state_here"] (spLawPair K) := by
  obtain ⟨f, fd, F, hm⟩ := T.law_pair_of_fields.ex
  have B := T.B
  have F__law_power_of := fn_law_power_of (P := P) (w := w) (base := base) T
  have F__law_take := fn_law_take (P := P) (w := w) (base := base) T
  have F__law_modulus := fn_law_modulus (P := P) (w := w) (base := base) T
  refine ⟨f, fd, F.ok sc_law_pair_of_fields (fun vs H Q E h => ?_) (fun cdv A outer s H vs Q E hr h => ?_), hm, F.kp, F.binds fun _ _ _ _ _ _ us hl => match us, hl with | [_], _ => rfl⟩
  · obtain ⟨l, x, y, rfl, _⟩ := h
    rfl
  · obtain ⟨l, x, y, rfl, hl, kont⟩ := h
    refine ⟨_, (pss_cons (ps_asg (pe_ix (r := rIxL K) ix_list (pe_lst (pa_cons (pe_tup (pa_cons pe_int (pa_cons pe_int pa_nil))) (pa_cons (pe_tup (pa_cons pe_int (pa_cons pe_int pa_nil))) (pa_cons (pe_tup (pa_cons pe_int (pa_cons pe_int pa_nil))) (pa_cons (pe_tup (pa_cons pe_int (pa_cons pe_int pa_nil))) (pa_cons (pe_tup (pa_cons pe_int (pa_cons pe_int pa_nil))) (pa_cons (pe_tup (pa_cons pe_int (pa_cons pe_int pa_nil))) (pa_cons (pe_tup (pa_cons pe_int (pa_cons pe_int pa_nil))) (pa_cons (pe_tup (pa_cons pe_int (pa_cons pe_int pa_nil))) pa_nil))))))))) (pcall F__law_take (hr.mono (by decide)) (pa_cons (pv 0) (pa_cons pe_int pa_nil))) (fun _ _ => rfl)) (pg_tup rfl (pgs_cons (pg_name (i := 1) sc_law_pair_of_fields.nd rfl (Or.inl rfl)) (pgs_cons (pg_name (i := 2) sc_law_pair_of_fields.nd rfl (Or.inl rfl)) pgs_nil)))) (pss_cons (ps_set (i := 3) sc_law_pair_of_fields.nd rfl (Or.inl rfl) (pe_ix (r := rIxL K) ix_list (pe_lst (pa_cons (pv 2) (pa_cons (pv 2) (pa_cons (pe_op op_mul pe_int (pv 2)) (pa_cons (pe_op op_add (pv 2) pe_int) pa_nil))))) (pcall F__law_take (hr.mono (by decide)) (pa_cons (pv 0) (pa_cons pe_int pa_nil))) (fun _ _ => rfl))) (pss_cons (ps_if (pt_cmpR op_gt (pcall F__law_power_of (hr.mono (by decide)) (pa_cons (pv 1) (pa_cons (pv 3) pa_nil))) pe_int (nomark _)) (pss_one (ps_set (i := 3) sc_law_pair_of_fields.nd rfl (Or.inl rfl) (pv 2))) pss_nil) (pss_one (ps_ret (pe_tup (pa_cons (pe_tup (pa_cons (pv 1) (pa_cons (pcall F__law_modulus (hr.mono (by decide)) (pa_cons (pv 0) (pa_cons (pv 1) (pa_cons (pv 2) pa_nil)))) pa_nil))) (pa_cons (pe_tup (pa_cons (pv 1) (pa_cons (pcall F__law_modulus (hr.mono (by decide)) (pa_cons (pv 0) (pa_cons (pv 1) (pa_cons (pv 3) pa_nil)))) pa_nil))) pa_nil)))))))), ?_⟩
    walk_at "rd"
    refine n_tup2 fun a1 H1 n1 e1 h1 => ?_
    walk_at "rd"
    refine n_tup2 fun a2 H2 n2 e2 h2 => ?_
    walk_at "rd"
    refine n_tup2 fun a3 H3 n3 e3 h3 => ?_
    walk_at "rd"
    refine n_tup2 fun a4 H4 n4 e4 h4 => ?_
    walk_at "rd"
    refine n_tup2 fun a5 H5 n5 e5 h5 => ?_
    walk_at "rd"
    refine n_tup2 fun a6 H6 n6 e6 h6 => ?_
    walk_at "rd"
    refine n_tup2 fun a7 H7 n7 e7 h7 => ?_
    walk_at "rd"
    refine n_tup2 fun a8 H8 n8 e8 h8 => ?_
    walk_at "rd"
    refine n_lst (by simp) fun q H9 nq e9 h9 => ?_
    have f8 := e9
    have f7 := e8.trans f8
    have f6 := e7.trans f7
    have f5 := e6.trans f6
    have f4 := e5.trans f5
    have f3 := e4.trans f4
    have f2 := e3.trans f3
    have f1 := e2.trans f2
    have hl9 := (e1.trans f1) _ _ hl
    walk_at "rd"
    refine ⟨l, x, y, 8, rfl, hl9, by omega, by omega, fun v x1 y1 J1 v0 v1 d1 k1 => ?_⟩
    have nql : q ≠ l := fun z => by rw [z, hl9] at h9; cases h9
    obtain ⟨b, p, n, hb, hdom, hbt⟩ := pick_dom (K := K) (H := J1) (qa := [a1, a2, a3, a4, a5, a6, a7, a8]) rfl rfl v0 v1 (fun i a hi => by
      have tr : ∀ {a : Addr} {xs : List V}, H9 a = some (.tup xs) → SqT K J1 a xs := fun z => sqT_l d1 hl9 (.inl (.inl z))
      match i, hi with
      | 0, hi => cases hi; exact ⟨2, 1, rfl, tr (f1 _ _ h1)⟩
      | 1, hi => cases hi; exact ⟨2, 2, rfl, tr (f2 _ _ h2)⟩
      | 2, hi => cases hi; exact ⟨2, 4, rfl, tr (f3 _ _ h3)⟩
      | 3, hi => cases hi; exact ⟨3, 1, rfl, tr (f4 _ _ h4)⟩
      | 4, hi => cases hi; exact ⟨3, 2, rfl, tr (f5 _ _ h5)⟩
      | 5, hi => cases hi; exact ⟨2, 3, rfl, tr (f6 _ _ h6)⟩
      | 6, hi => cases hi; exact ⟨5, 1, rfl, tr (f7 _ _ h7)⟩
      | 7, hi => cases hi; exact ⟨3, 3, rfl, tr (f8 _ _ h8)⟩
      | i + 8, hi => cases hi)
    refine n_ixLi (.inl (.inl (d1 _ _ nql h9))) v0 hb ?_
    walk_at "rd"
    refine g_two hbt rfl ?_
    obtain ⟨i1, _, hp2, hp5, hn1, hn4, _, _, hs1, _⟩ := dom_ok (dom_self hdom)
    walk_at "rd"
    refine d_mulL (by omega) ?_
    walk_at "rd"
    refine n_lst4 fun c J2 nc d2 hc => ?_
    walk_at "rd"
    refine ⟨l, x1, y1, 4, rfl, d2 _ _ k1, by omega, by omega, fun v' x2 y2 J3 w0 w1 d3 k3 => ?_⟩
    have ncl : c ≠ l := fun z => by rw [z, d2 _ _ k1] at hc; cases hc
    obtain ⟨m, hm, hpick⟩ : ∃ m : Nat, [V.int n, V.int n, V.int (2 * n), V.int (n + 1)][v'.toNat]? = some (.int (m : Int)) ∧ (m = n ∨ m = 2 * n ∨ m = n + 1) := by
      obtain rfl | rfl | rfl | rfl : v' = 0 ∨ v' = 1 ∨ v' = 2 ∨ v' = 3 := by omega
      · exact ⟨n, rfl, .inl rfl⟩
      · exact ⟨n, rfl, .inl rfl⟩
      · exact ⟨2 * n, rfl, .inr (.inl rfl)⟩
      · exact ⟨n + 1, rfl, .inr (.inr rfl)⟩
    refine n_ixLi (.inl (.inl (d3 _ _ ncl hc))) w0 hm ?_
    walk_at "rd"
    refine ⟨p, m, rfl, by omega, by omega, by omega, by omega, ?_⟩
    rw [show ((m : Nat) : Int).toNat = m by omega]
    have e03 : ExX l H J3 := (((ExX.of (e1.trans f1)).trans d1).trans (.of d2)).trans d3
    walk_at "rd"
    refine b_if (fun hbig => ?_) (fun hsm => ?_)
    · walk_at "rd"
      obtain ⟨i1, i2, hp2, hp5, hn1, hn4, hm1, hm6, hs1, hs2⟩ := dom_ok (dom_self hdom)
      refine ⟨l, x2, y2, p, n, rfl, k3, hp2, hp5, hn1, by omega, hs1, i1, fun q4 f x4 y4 J4 df d4 k4 hq4 => ?_⟩
      walk_at "rd"
      refine n_tup2 fun u J5 nu d5 hu => ?_
      walk_at "rd"
      refine ⟨l, x4, y4, p, n, rfl, d5 _ _ k4, hp2, hp5, hm1, by omega, hs2, i2, fun q6 g x6 y6 J6 dg d6 k6 hq6 => ?_⟩
      walk_at "rd"
      refine n_tup2 fun v J7 nv d7 hv => ?_
      walk_at "rd"
      refine n_tup2 fun t J8 nt d8 ht => ?_
      have fu : FT K J5 u p f := ⟨q4, .inl (.inl hu), ex_t d5 hq4⟩
      refine kont t u v p n n f g x6 y6 J8 ⟨dom_self hdom, df, dg⟩ ((((e03.trans d4).trans (.of d5)).trans d6).trans (.of (d7.trans d8))) ((d7.trans d8) _ _ k6) (.inl (.inl ht)) ?_ ⟨q6, .inl (.inl (d8 _ _ hv)), ex_t (d7.trans d8) hq6⟩
      exact (fu.x d6 (d5 _ _ k4)).ex (d7.trans d8)
    · walk_at "rd"
      obtain ⟨i1, i2, hp2, hp5, hn1, hn4, hm1, hm6, hs1, hs2⟩ := dom_ok (dom_grow hdom hpick hsm)
      refine ⟨l, x2, y2, p, n, rfl, k3, hp2, hp5, hn1, by omega, hs1, i1, fun q4 f x4 y4 J4 df d4 k4 hq4 => ?_⟩
      walk_at "rd"
      refine n_tup2 fun u J5 nu d5 hu => ?_
      walk_at "rd"
      refine ⟨l, x4, y4, p, m, rfl, d5 _ _ k4, hp2, hp5, hm1, by omega, hs2, i2, fun q6 g x6 y6 J6 dg d6 k6 hq6 => ?_⟩
      walk_at "rd"
      refine n_tup2 fun v J7 nv d7 hv => ?_
      walk_at "rd"
      refine n_tup2 fun t J8 nt d8 ht => ?_
      have fu : FT K J5 u p f := ⟨q4, .inl (.inl hu), ex_t d5 hq4⟩
      refine kont t u v p n m f g x6 y6 J8 ⟨dom_grow hdom hpick hsm, df, dg⟩ ((((e03.trans d4).trans (.of d5)).trans d6).trans (.of (d7.trans d8))) ((d7.trans d8) _ _ k6) (.inl (.inl ht)) ?_ ⟨q6, .inl (.inl (d8 _ _ hv)), ex_t (d7.trans d8) hq6⟩
      exact (fu.x d6 (d5 _ _ k4)).ex (d7.trans d8)
end
end Fm
set_option Elab.async false
set_option linter.all false
set_option maxRecDepth 100000
set_option maxHeartbeats 4000000
namespace Fm
open PySem PySem.Spec PyProof.Rows L2 Evl RZ GenW
local macro_rules | `(tactic| walk_at "r1") => `(tactic| first
  | ((with_reducible refine d_var (v := ?v1) ?h1 ?q1); (case h1 => rfl))
  | with_reducible (first
  | refine d_c ?_ | refine d_op ?_ | refine d_un ?_ | refine d_I0 ?_ | refine d_U ?_ | refine d_eq ?_ | refine d_ne ?_ | refine d_cb ?_ | refine d_nil ?_ | refine d_cons ?_ | refine d_call ?_
  | refine d_fld ?_ | refine d_test ?_ | refine d_B ?_ | refine d_bl ?_ | refine d_and ?_ | refine d_or ?_ | refine d_not ?_ | refine d_andV ?_ | refine d_orV ?_ | refine d_notV ?_ | refine d_if ?_
  | refine d_tup ?_ | refine d_lst ?_ | refine d_lc ?_ | refine d_bm ?_ | refine d_bm0 ?_ | refine d_meth ?_ | refine d_make ?_
  | refine d_sl ?_ | refine d_np ?_ | refine d_pt ?_ | refine d_pi ?_
  | refine s_seq ?_ | refine s_next ?_ | refine s_brk ?_ | refine s_asg ?_ | refine s_drop ?_ | refine s_ret ?_ | refine s_ifs ?_ | refine s_par ?_ | refine s_two ?_ | refine s_fld ?_
  | refine g_name ?_ | refine g_sub ?_ | refine g_cons ?_ | refine g_nil ?_
  | refine s_for ?_ | refine w_rng1 ?_ | refine w_rng2 ?_ | refine w_rng3 ?_ | refine w_list ?_ | refine w_tup ?_ | refine w_rev ?_ | refine w_enT ?_ | refine w_zip ?_ | refine w_zipA ?_
  | refine n_int ?_ | refine n_max ?_ | refine n_abs ?_ | refine b_tt ?_ | refine b_ff ?_ | refine b_nt ?_ | refine b_nf ?_))
local macro_rules | `(tactic| walk_at "rd") => `(tactic| repeat walk_at "r1")
/-! ### b.members() -/
theorem sc_members : GScope ["self", "number"] ["self"] (defScope (inClass (top 29) 17)) := ⟨rfl, rfl, rfl, by decide +kernel, rfl, by decide +kernel, by decide +kernel⟩
theorem flat_members : Flat ["self", "number"] (defScope (inClass (top 29) 17)) := ⟨fun n => rfl, by decide +kernel⟩
def iMem (C : Addr) (ta : TE) : TI := fun σ H R => ta σ H fun x H1 => ∃ (b t dx : Addr) (p : Int) (m : List Int), x = .ref b ∧ H1 b = some (.ins C dx (fsF t p m)) ∧ Mon m p ∧ p ^ (m.length - 1) ≤ 400 ∧
  R (ItG b C dx (fsF t p m) (p ^ (m.length - 1)).toNat fun i => lowL p (m.length - 1) (i : Int)) H1
section
variable {K : PySem.W.Frag} {mg : Str → Option Value} {C D : Addr}
theorem gives_member {t : Addr} {p : Int} {m : List Int} (M : Mon m p) (hp : 1 ≤ p ^ (m.length - 1)) (G : GD) (hC : G.C = C) (hf : G.fs = fsF t p m) :
    Gives G (tMeth C "member" (spMember K C) [] E0 (tVar 0) (tCons (tVar 1) tNil)) (p ^ (m.length - 1)).toNat fun i => lowL p (m.length - 1) (i : Int) := by
  intro i H hi hb
  rw [hC, hf] at hb
  walk_at "rd"
  refine ⟨_, _, _, rfl, hb, rfl, ?_⟩
  walk_at "rd"
  exact ⟨_, t, _, p, i, m, rfl, hb, M, by omega, by omega, fun q H' hq e h => ⟨q, rfl, hq, e, h⟩⟩
theorem pge_members {X : Cx} {o : Expr} {ta : TE} {apos pos : Pos} (Z : Tc X.K X.mg C D) (he : PE X o ta) (hr : Room 3 X.A) {pl : Sem Bool}
    (ht : eval (.Call (.Attribute o "members" apos) [] [] pos) X.env = (do
      let ov ← eval o X.env
      standAt apos.atName
      let (f, first) ← holding [ov] (getMethod ov "members" pl)
      callWith pos f first (backTo pos (starEach [] X.env)) (backToKw pos (keywordEach [] X.env))) := by rfl) :
    PGe X 3 (.Call (.Attribute o "members" apos) [] [] pos) (iMem C ta) := by
  obtain ⟨f, fd, F, hm⟩ := Z.m_Field_members.ex
  have cl := Z.cF
  obtain ⟨oc, od, kV, doc, pm, an, cdv, ct, osl, rfl, lk, hcd⟩ := F.ex
  refine ⟨fun pins s σ H R I h => ?_⟩
  refine PySem.W.methodCall_KW (pl := pl) (thn (he.run pins s σ H _ I h) fun u s1 ⟨x, H1, I1, rx, b, t, dx, p, m, ex, hb, M, hsz, q⟩ => ?_) ht
  subst ex
  obtain rfl : u = Value.ref b := rx
  refine getmeth_ok I1 hb cl hm rfl ?_
  have hp1 := M.p1
  have hp := (ipow_step (p := p) (by omega) (m.length - 1)).1
  have hbd : BindsTo s1 _ ⟨[.ref b], []⟩ [("self", .ref b)] := (F.binds (ps := ["self"]) fun _ _ _ _ _ _ us hl => match us, hl with | [_], _ => rfl) s1 [.ref b] I1.kIn rfl
  refine PySem.W.callWith_K0 (first := [.ref b]) I1.kIn hm.kp (wpAny_call (codeAny_mono (gen_call (P := X.prog) (w := X.w) (K := X.K) (mg := X.mg) (base := X.base) (outer := X.stack) (k := 2) (fs := fsF t p m) (Nn := (p ^ (m.length - 1)).toNat) (dg := fun i => lowL p (m.length - 1) (i : Int)) (fq := "q") (te := tMeth C "member" (spMember X.K C) [] E0 (tVar 0) (tCons (tVar 1) tNil))
    lk hcd sc_members flat_members (by decide) (fun i => ?_) (by omega) cl Z.na_q ?_ (fun _ _ => rfl) Z.T.B.range (by decide) (fun _ => rfl) (fun _ => rfl) (fun G A hC hB hrm => ?_) (fun G hC hf => gives_member M hp G hC hf) hr I1.env0 hb hbd) fun r s2 hq => ?_))
  · rw [lowL_length]
    have := M.top
    rw [sizeLine_eq]
    omega
  · show some (V.int (p ^ (m.length - 1))) = _
    rw [Int.toNat_of_nonneg (by omega)]
  · have M_member := mt_Field_member (P := X.prog) (w := X.w) (base := G.base) Z
    exact pmeth (pv 0) cl M_member hrm (pa_cons (pv 1) pa_nil)
  · cases r with
    | error e => exact hq.elim
    | ok fl =>
      cases fl with
      | ret u =>
        obtain ⟨a, g, c, rfl, gm⟩ := hq
        exact ⟨_, _, _, _, H1, b, C, dx, _, a, g, c, I1, hb, rfl, gm, by omega, q⟩
      | next => exact hq.elim
      | brk => exact hq.elim
      | cont => exact hq.elim
end
end Fm
set_option Elab.async false
set_option linter.all false
set_option maxRecDepth 100000
set_option maxHeartbeats 4000000
namespace Fm
open PySem PySem.Spec PyProof.Rows L2 Evl RZ GenW
local macro_rules | `(tactic| walk_at "r1") => `(tactic| first
  | ((with_reducible refine d_var (v := ?v1) ?h1 ?q1); (case h1 => rfl))
  | with_reducible (first
  | refine d_c ?_ | refine d_op ?_ | refine d_un ?_ | refine d_I0 ?_ | refine d_U ?_ | refine d_eq ?_ | refine d_ne ?_ | refine d_cb ?_ | refine d_nil ?_ | refine d_cons ?_ | refine d_call ?_
  | refine d_fld ?_ | refine d_test ?_ | refine d_B ?_ | refine d_bl ?_ | refine d_and ?_ | refine d_or ?_ | refine d_not ?_ | refine d_andV ?_ | refine d_orV ?_ | refine d_notV ?_ | refine d_if ?_
  | refine d_tup ?_ | refine d_lst ?_ | refine d_lc ?_ | refine d_bm ?_ | refine d_bm0 ?_ | refine d_meth ?_ | refine d_make ?_
  | refine d_sl ?_ | refine d_np ?_ | refine d_pt ?_ | refine d_pi ?_
  | refine s_seq ?_ | refine s_next ?_ | refine s_brk ?_ | refine s_asg ?_ | refine s_drop ?_ | refine s_ret ?_ | refine s_ifs ?_ | refine s_par ?_ | refine s_two ?_ | refine s_fld ?_
  | refine g_name ?_ | refine g_sub ?_ | refine g_cons ?_ | refine g_nil ?_
  | refine s_for ?_ | refine w_rng1 ?_ | refine w_rng2 ?_ | refine w_rng3 ?_ | refine w_list ?_ | refine w_tup ?_ | refine w_rev ?_ | refine w_enT ?_ | refine w_zip ?_ | refine w_zipA ?_
  | refine n_int ?_ | refine n_max ?_ | refine n_abs ?_ | refine b_tt ?_ | refine b_ff ?_ | refine b_nt ?_ | refine b_nf ?_))
local macro_rules | `(tactic| walk_at "rd") => `(tactic| repeat walk_at "r1")
/-- maps with these images, one by one -/
def MapsH (K : PySem.W.Frag) (C D : Addr) (H : Hp) (p : Int) (f g : List Int) : List Addr → List (List Int) → Prop
  | [], [] => True
  | y :: ys, s :: ss => MapH K C D H y p f g s ∧ MapsH K C D H p f g ys ss
  | _, _ => False
section
variable {K : PySem.W.Frag} {C D : Addr} {H H' : Hp} {p : Int} {f g : List Int}
theorem MapsH.ex (e : Ex H H') : ∀ {ys : List Addr} {ss : List (List Int)}, MapsH K C D H p f g ys ss → MapsH K C D H' p f g ys ss
  | [], [], h => h
  | _ :: _, _ :: _, h => ⟨h.1.ex e, MapsH.ex e h.2⟩
  | [], _ :: _, h => h
  | _ :: _, [], h => h
theorem MapsH.x {l : Addr} {zs : List V} (e : ExX l H H') (hl : H l = some (.lst zs)) : ∀ {ys : List Addr} {ss : List (List Int)}, MapsH K C D H p f g ys ss → MapsH K C D H' p f g ys ss
  | [], [], h => h
  | _ :: _, _ :: _, h => ⟨h.1.x e hl, MapsH.x e hl h.2⟩
  | [], _ :: _, h => h
  | _ :: _, [], h => h
theorem MapsH.snoc {y : Addr} {s : List Int} (h2 : MapH K C D H y p f g s) : ∀ {ys : List Addr} {ss : List (List Int)}, MapsH K C D H p f g ys ss → MapsH K C D H p f g (ys ++ [y]) (ss ++ [s])
  | [], [], _ => ⟨h2, True.intro⟩
  | _ :: _, _ :: _, h => ⟨h.1, MapsH.snoc h2 h.2⟩
  | [], _ :: _, h => h.elim
  | _ :: _, [], h => h.elim
theorem MapsH.length : ∀ {ys : List Addr} {ss : List (List Int)}, MapsH K C D H p f g ys ss → ys.length = ss.length
  | [], [], _ => rfl
  | _ :: _, _ :: _, h => congrArg (· + 1) (MapsH.length h.2)
  | [], _ :: _, h => h.elim
  | _ :: _, [], h => h.elim
theorem MapsH.get : ∀ {ys : List Addr} {ss : List (List Int)} {i : Nat} {y : Addr}, MapsH K C D H p f g ys ss → ys[i]? = some y → ∃ s, ss[i]? = some s ∧ MapH K C D H y p f g s
  | _ :: _, s :: _, 0, y, h, e => by cases e; exact ⟨s, rfl, h.1⟩
  | _ :: _, _ :: _, i + 1, y, h, e => MapsH.get (i := i) h.2 e
  | [], [], _, _, _, e => by cases e
  | [], _ :: _, _, _, h, _ => h.elim
  | _ :: _, [], _, _, h, _ => h.elim
end
/-- the roots among the first i members, as the program reckons them -/
def rootsN (f g : List Int) (p : Int) (i : Nat) : List (List Int) := ((List.range i).map fun (j : Nat) => lowL p (g.length - 1) (j : Int)).filter fun s => decide (valP s g p f = zeroP g)
def rootsP (f g : List Int) (p : Int) : List (List Int) := rootsN f g p (p ^ (g.length - 1)).toNat
def imgsP (f g : List Int) (p : Int) : List (List Int) := if (g.length - 1) % (f.length - 1) = 0 then rootsP f g p else []
theorem rootsN_succ (f g : List Int) (p : Int) (i : Nat) : rootsN f g p (i + 1) = rootsN f g p i ++ (if valP (lowL p (g.length - 1) (i : Int)) g p f = zeroP g then [lowL p (g.length - 1) (i : Int)] else []) := by
  unfold rootsN
  rw [List.range_succ, List.map_append, List.filter_append]
  congr 1
  rw [List.map_cons, List.map_nil, List.filter_cons, List.filter_nil]
  by_cases h : valP (lowL p (g.length - 1) (i : Int)) g p f = zeroP g
  · rw [if_pos h, decide_eq_true h, if_pos rfl]
  · rw [if_neg h, decide_eq_false h, if_neg Bool.false_ne_true]
theorem rootsN_length (f g : List Int) (p : Int) (i : Nat) : (rootsN f g p i).length ≤ i := by
  unfold rootsN
  refine Nat.le_trans (List.length_filter_le _ _) ?_
  simp
theorem memB_of {xs : List Int} {n p : Int} (hl : (xs.length : Int) = n) (hr : Rw p xs) : memB xs n p = true := by
  unfold memB
  rw [decide_eq_true hl, Bool.true_and]
  exact List.all_eq_true.mpr fun x hx => decide_eq_true (hr x hx)
theorem w_mem {C : Addr} {ta : TE} {σ : L2.St} {H : Hp} {R : It → Hp → Prop} (q : ta σ H fun x H1 => ∃ (b t dx : Addr) (p : Int) (m : List Int), x = .ref b ∧ H1 b = some (.ins C dx (fsF t p m)) ∧ Mon m p ∧ p ^ (m.length - 1) ≤ 400 ∧
  R (ItG b C dx (fsF t p m) (p ^ (m.length - 1)).toNat fun i => lowL p (m.length - 1) (i : Int)) H1) : iMem C ta σ H R := q
section
variable {P : Program} {w : World} {K : PySem.W.Frag} {mg : Str → Option Value} {base : Heap} {C D G : Addr}
def spAllMaps (K : PySem.W.Frag) (C D : Addr) : Sp := fun vs H Q _ => ∃ (a b : Addr) (p : Int) (f g : List Int), vs = [.ref a, .ref b] ∧ FldH K C H a p f ∧ FldH K C H b p g ∧ Mon f p ∧ Mon g p ∧ p ^ (g.length - 1) ≤ 400 ∧
  ∀ t ys H', Ex H H' → SqT K H' t (ys.map V.ref) → MapsH K C D H' p f g ys (imgsP f g p) → Q (.ref t) H'
theorem sc_all_maps : FnScope ["a", "b", "image"] ["a", "b"] (defScope (top 34)) := ⟨rfl, rfl, rfl, by decide +kernel, rfl, by decide +kernel, by decide +kernel⟩
theorem fn_all_maps (Z : Tc K mg C D) (Vx : Ec K mg G) : Fn P w K mg base "all_maps" 9 ["a", "b"] (spAllMaps K C D) := by
  obtain ⟨fn, fd, F, hm⟩ := Z.T.all_maps.ex
  have B := Z.T.B
  have hFieldMap := Z.gM
  have mkM := mk_FieldMap (P := P) (w := w) (base := base) Z Vx
  have F_is_root := fn_is_root (P := P) (w := w) (base := base) Z
  refine ⟨fn, fd, F.ok sc_all_maps (fun vs H Q E h => ?_) (fun cdv A outer s H vs Q E hr h => ?_), hm, F.kp, F.binds fun _ _ _ _ _ _ us hl => match us, hl with | [_, _], _ => rfl⟩
  · obtain ⟨a, b, p, f, g, rfl, _⟩ := h
    rfl
  · obtain ⟨a, b, p, f, g, rfl, ha, hb, Mf, Mg, hsz, kont⟩ := h
    have hp1 := Mg.p1
    have hf1 := Mf.len
    have hf2 := Mf.top
    have hg1 := Mg.len
    have hg2 := Mg.top
    have hpos := (ipow_step (p := p) (by omega) (g.length - 1)).1
    refine ⟨_, (pss_cons (ps_if (PW.pt (pw_or (pt_cmpR op_ne (pe_fld (pv 0) rfl) (pe_fld (pv 1) rfl) (nomark _)) (pw_or1 (pt_cmpR op_ne (pe_op op_mod (pe_fld (pv 1) rfl) (pe_fld (pv 0) rfl)) pe_int (nomark _))))) (pss_one (ps_ret (pe_tup pa_nil))) pss_nil) (pss_one (ps_ret (bTuple B (pe_lcG (own := [("image", 2)]) (g := gName 2) (te := tMake D (spMapInit K C D) [] E0 (tCons (tVar 0) (tCons (tVar 1) (tCons (tVar 2) tNil)))) rfl sc_all_maps.nd (hr.mono (by decide)) (pge_members Z (pv 1) (hr.mono (by decide))) (blkOk_by (N := ["a", "b", "image"]) (sc := defScope (top 34)) (by decide +kernel)) (fun _ _ _ _ _ => pg_name (i := 2) sc_all_maps.nd rfl (Or.inl rfl)) (fun _ _ _ _ _ => pts_one (pt_val (pcall F_is_root (hr.mono (by decide)) (pa_cons (pv 0) (pa_cons (pv 1) (pa_cons (pv 2) pa_nil)))))) (fun _ _ _ _ _ => (bMap mkM hFieldMap (hr.mono (by decide)) (pv 0) (pv 1) (pv 2)))))))), ?_⟩
    walk_at "rd"
    refine n_p Z ha ?_
    walk_at "rd"
    refine n_p Z hb ?_
    walk_at "rd"
    refine b_NF rfl ?_
    walk_at "rd"
    refine n_n Z hb ?_
    walk_at "rd"
    refine n_n Z ha ?_
    walk_at "rd"
    refine d_I (by omega) ?_
    walk_at "rd"
    have e1 : ((g.length : Int) - 1) % ((f.length : Int) - 1) = (((g.length - 1) % (f.length - 1) : Nat) : Int) := by
      rw [show ((g.length : Int) - 1) = ((g.length - 1 : Nat) : Int) by omega, show ((f.length : Int) - 1) = ((f.length - 1 : Nat) : Int) by omega]
      rfl
    rw [e1]
    unfold imgsP at kont
    refine b_ifN (fun hne => ?_) (fun heq => ?_)
    · rw [if_neg (by omega)] at kont
      walk_at "rd"
      exact n_tup0 fun t H1 ht e h1 => kont t [] H1 e (.inl (.inl h1)) True.intro
    · rw [if_pos (by omega)] at kont
      walk_at "rd"
      obtain ⟨tb, dxb, ob, htb⟩ := id hb
      refine w_mem ?_
      walk_at "rd"
      refine ⟨b, tb, dxb, p, g, rfl, ob, Mg, hsz, fun L hL => ?_⟩
      refine ⟨fun i m H' => m = (p ^ (g.length - 1)).toNat - i ∧ i ≤ (p ^ (g.length - 1)).toNat ∧ Ex H H' ∧ ∃ ys, H' L = some (.lst (ys.map V.ref)) ∧ MapsH K C D H' p f g ys (rootsN f g p i), ⟨_, rfl, Nat.zero_le _, Ex.new hL, [], upd_same, True.intro⟩, ?_⟩
      rintro i m H1 ⟨rfl, hi, e1, ys, hys, hms⟩
      by_cases hlt : i < (p ^ (g.length - 1)).toNat
      · refine .inr ⟨⟨hlt, e1 _ _ ob⟩, fun H2 => Ex H H2 ∧ ∃ ys, H2 L = some (.lst (ys.map V.ref)) ∧ MapsH K C D H2 p f g ys (rootsN f g p (i + 1)), fun H2 h2 => ⟨_, by omega, rfl, hlt, h2⟩, ?_⟩
        rintro x H2 ⟨q, rfl, hq, rfl⟩
        have e2 : Ex H1 (upd H1 q (.tup ((lowL p (g.length - 1) (i : Int)).map V.int))) := Ex.new hq
        have hq2 : IT K (upd H1 q (.tup ((lowL p (g.length - 1) (i : Int)).map V.int))) q (lowL p (g.length - 1) (i : Int)) := .inl (.inl upd_same)
        generalize upd H1 q (.tup ((lowL p (g.length - 1) (i : Int)).map V.int)) = H2 at e2 hq2
        have e12 := e1.trans e2
        have sl : (lowL p (g.length - 1) (i : Int)).length = g.length - 1 := lowL_length _ _ _
        rw [rootsN_succ]
        refine g_name ?_
        refine ⟨rfl, ?_⟩
        walk_at "rd"
        refine ⟨a, b, q, p, p, f, g, _, rfl, ha.ex e12, by omega, hb.ex e12, Mg, hq2, by omega, fun H3 e3 => ?_⟩
        refine ⟨_, rfl, ?_⟩
        by_cases hroot : valP (lowL p (g.length - 1) (i : Int)) g p f = zeroP g
        · rw [decide_eq_true hroot, if_pos hroot]
          rw [if_pos rfl]
          walk_at "rd"
          refine n_makeM (ha.ex (e12.trans e3)) (hb.ex (e12.trans e3)) Mg (by omega) (ex_t e3 hq2) (by omega) (memB_of (by omega) (lowL_rw (by omega) _ _)) hroot fun y H4 hy e4 hmap => ?_
          have hl4 := (e2.trans (e3.trans e4)) _ _ hys
          have hyL : ys.length ≤ i := by rw [hms.length]; exact rootsN_length _ _ _ _
          refine ⟨ys.map V.ref, hl4, sz_lt (by rw [List.length_map]; omega), Ex.mut (e12.trans (e3.trans e4)) hL, ys ++ [y], ?_, ?_⟩
          · rw [upd_same, List.map_append]
            rfl
          · exact MapsH.snoc (hmap.x (ExX.of (Ex.refl H4)).upd hl4) ((hms.ex (e2.trans (e3.trans e4))).x (ExX.of (Ex.refl H4)).upd hl4)
        · rw [decide_eq_false hroot, if_neg hroot, List.append_nil]
          rw [if_neg Bool.false_ne_true]
          exact ⟨e12.trans e3, ys, (e2.trans e3) _ _ hys, hms.ex (e2.trans e3)⟩
      · have hi2 : i = (p ^ (g.length - 1)).toNat := by omega
        subst hi2
        refine .inl ⟨⟨rfl, e1 _ _ ob⟩, ?_⟩
        refine n_tupleL (.inl (.inl hys)) fun t H2 ht e2 h2 => ?_
        exact kont t ys H2 (e1.trans e2) (.inl (.inl h2)) (hms.ex e2)
end
end Fm
set_option Elab.async false
set_option linter.all false
set_option maxRecDepth 100000
set_option maxHeartbeats 4000000
namespace Fm
open PySem PySem.Spec PyProof.Rows L2 Evl RZ GenW
local macro_rules | `(tactic| walk_at "r1") => `(tactic| first
  | ((with_reducible refine d_var (v := ?v1) ?h1 ?q1); (case h1 => rfl))
  | with_reducible (first
  | refine d_c ?_ | refine d_op ?_ | refine d_un ?_ | refine d_I0 ?_ | refine d_U ?_ | refine d_eq ?_ | refine d_ne ?_ | refine d_cb ?_ | refine d_nil ?_ | refine d_cons ?_ | refine d_call ?_
  | refine d_fld ?_ | refine d_test ?_ | refine d_B ?_ | refine d_bl ?_ | refine d_and ?_ | refine d_or ?_ | refine d_not ?_ | refine d_andV ?_ | refine d_orV ?_ | refine d_notV ?_ | refine d_if ?_
  | refine d_tup ?_ | refine d_lst ?_ | refine d_lc ?_ | refine d_bm ?_ | refine d_bm0 ?_ | refine d_meth ?_ | refine d_make ?_
  | refine d_sl ?_ | refine d_np ?_ | refine d_pt ?_ | refine d_pi ?_
  | refine s_seq ?_ | refine s_next ?_ | refine s_brk ?_ | refine s_asg ?_ | refine s_drop ?_ | refine s_ret ?_ | refine s_ifs ?_ | refine s_par ?_ | refine s_two ?_ | refine s_fld ?_
  | refine g_name ?_ | refine g_sub ?_ | refine g_cons ?_ | refine g_nil ?_
  | refine s_for ?_ | refine w_rng1 ?_ | refine w_rng2 ?_ | refine w_rng3 ?_ | refine w_list ?_ | refine w_tup ?_ | refine w_rev ?_ | refine w_enT ?_ | refine w_zip ?_ | refine w_zipA ?_
  | refine n_int ?_ | refine n_max ?_ | refine n_abs ?_ | refine b_tt ?_ | refine b_ff ?_ | refine b_nt ?_ | refine b_nf ?_))
local macro_rules | `(tactic| walk_at "rd") => `(tactic| repeat walk_at "r1")
/-- e.f within a block: its reading told by the def's own K -/
theorem pe_fldK {K : PySem.W.Frag} {X : Cx} {e : Expr} {f : Str} {pos : Pos} {ta : TE} (hK : X.K = K) (he : PE X e ta) (hb : attributeBase e f X.env (eval e X.env) = eval e X.env) : PE X (.Attribute e f pos) (tFld K ta f) := by
  rw [← hK]
  exact pe_fld he hb
/-! ### rows as data -/
def rowD (s : List Int) : PyData := .tuple (s.map PyData.int)
def rowsD (ss : List (List Int)) : List PyData := ss.map rowD
theorem rows_lay : ∀ ss : List (List Int), PyData.canLayAll0 (rowsD ss) = true
  | [] => rfl
  | s :: ss => by
    show ((rowD s).canLay0 && PyData.canLayAll0 (rowsD ss)) = true
    rw [rows_lay ss, Bool.and_true]
    exact layI s
theorem rows_dep : ∀ ss : List (List Int), PyData.depthAll (rowsD ss) ≤ 1
  | [] => Nat.zero_le _
  | s :: ss => by
    show max (PyData.depthAll (s.map PyData.int) + 1) (PyData.depthAll (rowsD ss)) ≤ 1
    rw [depI]
    have := rows_dep ss
    omega
theorem sh_rowsL (ss : List (List Int)) : SeqAt.shaped (.list (rowsD ss)) = true := by
  unfold SeqAt.shaped
  rw [Bool.and_eq_true]
  refine ⟨rows_lay ss, decide_eq_true ?_⟩
  show PyData.depthAll (rowsD ss) + 1 ≤ 64
  have := rows_dep ss
  omega
theorem sh_rowsT (ss : List (List Int)) : SeqAt.shaped (.tuple (rowsD ss)) = true := by
  unfold SeqAt.shaped
  rw [Bool.and_eq_true]
  refine ⟨rows_lay ss, decide_eq_true ?_⟩
  show PyData.depthAll (rowsD ss) + 1 ≤ 64
  have := rows_dep ss
  omega
theorem eqv_rows : ∀ xs ys : List (List Int), PyData.eqvAll (rowsD xs) (rowsD ys) = decide (xs = ys)
  | [], [] => by simp [rowsD, PyData.eqvAll]
  | [], _ :: _ => by simp [rowsD, PyData.eqvAll]
  | _ :: _, [] => by simp [rowsD, PyData.eqvAll]
  | x :: xs, y :: ys => by
    show (PyData.eqv (rowD x) (rowD y) && PyData.eqvAll (rowsD xs) (rowsD ys)) = _
    rw [eqv_rows xs ys, show PyData.eqv (rowD x) (rowD y) = decide (x = y) from eqvT x y]
    simp
theorem any_rows (x : List Int) : ∀ ys : List (List Int), ((rowsD ys).any fun z => PyData.eqv z (rowD x)) = decide (x ∈ ys)
  | [] => by simp [rowsD]
  | y :: ys => by
    show (PyData.eqv (rowD y) (rowD x) || (rowsD ys).any fun z => PyData.eqv z (rowD x)) = _
    rw [any_rows x ys, show PyData.eqv (rowD y) (rowD x) = decide (y = x) from eqvT y x]
    by_cases h : y = x
    · simp [h]
    · simp [h, Ne.symm h]
/-- these values are tuples with these items -/
def RowsV (K : PySem.W.Frag) (H : Hp) : List V → List (List Int) → Prop
  | [], [] => True
  | v :: vs, s :: ss => (∃ a, v = .ref a ∧ IT K H a s) ∧ RowsV K H vs ss
  | _, _ => False
section
variable {K : PySem.W.Frag} {H H' : Hp} {Q : VK}
theorem RowsV.dp : ∀ {vs : List V} {ss : List (List Int)}, RowsV K H vs ss → DpAll K H vs (rowsD ss)
  | [], [], _ => .nil
  | _ :: _, _ :: _, h => by
    obtain ⟨⟨a, rfl, ha⟩, h2⟩ := h
    exact .cons (dpT ha) (RowsV.dp h2)
  | [], _ :: _, h => h.elim
  | _ :: _, [], h => h.elim
theorem RowsV.ex (e : Ex H H') : ∀ {vs : List V} {ss : List (List Int)}, RowsV K H vs ss → RowsV K H' vs ss
  | [], [], h => h
  | _ :: _, _ :: _, h => by
    obtain ⟨⟨a, ea, ha⟩, h2⟩ := h
    exact ⟨⟨a, ea, ex_t e ha⟩, RowsV.ex e h2⟩
  | [], _ :: _, h => h
  | _ :: _, [], h => h
theorem RowsV.x {l : Addr} {zs : List V} (e : ExX l H H') (hl : H l = some (.lst zs)) : ∀ {vs : List V} {ss : List (List Int)}, RowsV K H vs ss → RowsV K H' vs ss
  | [], [], h => h
  | _ :: _, _ :: _, h => by
    obtain ⟨⟨a, ea, ha⟩, h2⟩ := h
    exact ⟨⟨a, ea, sqT_l e hl ha⟩, RowsV.x e hl h2⟩
  | [], _ :: _, h => h
  | _ :: _, [], h => h
theorem RowsV.snoc {a : Addr} {s : List Int} (h2 : IT K H a s) : ∀ {vs : List V} {ss : List (List Int)}, RowsV K H vs ss → RowsV K H (vs ++ [.ref a]) (ss ++ [s])
  | [], [], _ => ⟨⟨a, rfl, h2⟩, True.intro⟩
  | _ :: _, _ :: _, h => ⟨h.1, RowsV.snoc h2 h.2⟩
  | [], _ :: _, h => h.elim
  | _ :: _, [], h => h.elim
theorem RowsV.length : ∀ {vs : List V} {ss : List (List Int)}, RowsV K H vs ss → vs.length = ss.length
  | [], [], _ => rfl
  | _ :: _, _ :: _, h => congrArg (· + 1) (RowsV.length h.2)
  | [], _ :: _, h => h.elim
  | _ :: _, [], h => h.elim
theorem n_neLL {a b : Addr} {us vs : List V} {xs ys : List (List Int)} (h1 : SqL K H a us) (r1 : RowsV K H us xs) (h2 : SqL K H b vs) (r2 : RowsV K H vs ys) (q : Q (.bl (!decide (xs = ys))) H) : rNeD K (.ref a) (.ref b) H Q :=
  ⟨.list (rowsD xs), .list (rowsD ys), .lst h1 r1.dp, .lst h2 r2.dp, sh_rowsL xs, sh_rowsL ys, by
    rw [show PyData.eqv (.list (rowsD xs)) (.list (rowsD ys)) = PyData.eqvAll (rowsD xs) (rowsD ys) by rw [PyData.eqv], eqv_rows]
    exact q⟩
theorem n_neTT {a b : Addr} {us vs : List V} {xs ys : List (List Int)} (h1 : SqT K H a us) (r1 : RowsV K H us xs) (h2 : SqT K H b vs) (r2 : RowsV K H vs ys) (q : Q (.bl (!decide (xs = ys))) H) : rNeD K (.ref a) (.ref b) H Q :=
  ⟨.tuple (rowsD xs), .tuple (rowsD ys), .tup h1 r1.dp, .tup h2 r2.dp, sh_rowsT xs, sh_rowsT ys, by
    rw [show PyData.eqv (.tuple (rowsD xs)) (.tuple (rowsD ys)) = PyData.eqvAll (rowsD xs) (rowsD ys) by rw [PyData.eqv], eqv_rows]
    exact q⟩
theorem n_notIn {a b : Addr} {vs : List V} {x : List Int} {ys : List (List Int)} (h1 : IT K H a x) (h2 : SqL K H b vs) (r2 : RowsV K H vs ys) (q : Q (.bl (!decide (x ∈ ys))) H) : rNotInD K (.ref a) (.ref b) H Q :=
  ⟨rowD x, rowsD ys, dpT h1, .lst h2 r2.dp, shT x, sh_rowsL ys, by rw [any_rows]; exact q⟩
/-- the image of the map at v, as the heap H has it -/
def imgV (H : Hp) : V → V
  | .ref y => match H y with
    | some (.ins _ _ fs) => (fs.lookup ("image" : Str)).getD .non
    | _ => .non
  | _ => .non
theorem imgV_of {C D : Addr} {y : Addr} {p : Int} {f g s : List Int} (h : MapH K C D H y p f g s) : ∃ a b im dx, H y = some (.ins D dx (fsM a b im)) ∧ imgV H (.ref y) = .ref im ∧ IT K H im s := by
  obtain ⟨a, b, im, dx, h1, _, _, h4⟩ := h
  refine ⟨a, b, im, dx, h1, ?_, h4⟩
  show (match H y with | some (.ins _ _ fs) => (fs.lookup ("image" : Str)).getD .non | _ => .non) = _
  rw [h1]
  rfl
theorem imgs_rows {C D : Addr} {p : Int} {f g : List Int} : ∀ {ys : List Addr} {ss : List (List Int)}, MapsH K C D H p f g ys ss → RowsV K H ((ys.map V.ref).map (imgV H)) ss
  | [], [], _ => True.intro
  | _ :: _, _ :: _, h => by
    obtain ⟨a, b, im, dx, _, h2, h3⟩ := imgV_of h.1
    exact ⟨⟨im, h2, h3⟩, imgs_rows h.2⟩
  | [], _ :: _, h => h.elim
  | _ :: _, [], h => h.elim
end
section
variable {P : Program} {w : World} {K : PySem.W.Frag} {mg : Str → Option Value} {base : Heap} {C D G : Addr}
/-! ### isomorphisms -/
def spIso (K : PySem.W.Frag) (C D : Addr) : Sp := fun vs H Q _ => ∃ (a b : Addr) (p : Int) (f g : List Int), vs = [.ref a, .ref b] ∧ FldH K C H a p f ∧ FldH K C H b p g ∧ Mon f p ∧ Mon g p ∧ p ^ (g.length - 1) ≤ 400 ∧
  ∀ t us H', Ex H H' → SqT K H' t us → RowsV K H' us (if f.length = g.length then imgsP f g p else []) → Q (.ref t) H'
theorem sc_isomorphisms : FnScope ["a", "b", "f"] ["a", "b"] (defScope (top 35)) := ⟨rfl, rfl, rfl, by decide +kernel, rfl, by decide +kernel, by decide +kernel⟩
theorem imgs_len {f g : List Int} {p : Int} (h : p ^ (g.length - 1) ≤ 400) : (imgsP f g p).length ≤ 400 := by
  unfold imgsP
  split
  · refine Nat.le_trans (rootsN_length _ _ _ _) ?_
    omega
  · simp
theorem fn_isomorphisms (Z : Tc K mg C D) (Vx : Ec K mg G) : Fn P w K mg base "isomorphisms" 10 ["a", "b"] (spIso K C D) := by
  obtain ⟨fn, fd, F, hm⟩ := Z.T.isomorphisms.ex
  have B := Z.T.B
  have F_all_maps := fn_all_maps (P := P) (w := w) (base := base) Z Vx
  refine ⟨fn, fd, F.ok sc_isomorphisms (fun vs H Q E h => ?_) (fun cdv A outer s H vs Q E hr h => ?_), hm, F.kp, F.binds fun _ _ _ _ _ _ us hl => match us, hl with | [_, _], _ => rfl⟩
  · obtain ⟨a, b, p, f, g, rfl, _⟩ := h
    rfl
  · obtain ⟨a, b, p, f, g, rfl, ha, hb, Mf, Mg, hsz, kont⟩ := h
    have hf1 := Mf.len
    have hg1 := Mg.len
    refine ⟨_, (pss_cons (ps_if (pt_cmpR op_ne (pe_fld (pv 0) rfl) (pe_fld (pv 1) rfl) (nomark _)) (pss_one (ps_ret (pe_tup pa_nil))) pss_nil) (pss_one (ps_ret (bTuple B (pe_lc (own := [("f", 2)]) (g := gName 2) (tt := tYes) rfl sc_isomorphisms.nd (pi_tup (pcall F_all_maps (hr.mono (by decide)) (pa_cons (pv 0) (pa_cons (pv 1) pa_nil)))) (blkOk_by (N := ["a", "b", "f"]) (sc := defScope (top 35)) (by decide +kernel)) (fun _ _ _ _ _ => pg_name (i := 2) sc_isomorphisms.nd rfl (Or.inl rfl)) (fun _ _ _ _ _ => pts_nil) (fun _ _ _ _ _ => (pe_fldK (K := K) rfl (pv 2) rfl))))))), ?_⟩
    walk_at "rd"
    refine n_n Z ha ?_
    walk_at "rd"
    refine n_n Z hb ?_
    walk_at "rd"
    refine b_ifN (fun hne => ?_) (fun heq => ?_)
    · rw [if_neg (by omega)] at kont
      walk_at "rd"
      exact n_tup0 fun t H1 ht e h1 => kont t [] H1 e (.inl (.inl h1)) True.intro
    · rw [if_pos (by omega)] at kont
      walk_at "rd"
      refine ⟨a, b, p, f, g, rfl, ha, hb, Mf, Mg, hsz, fun t ys H1 e1 h1 hms => ?_⟩
      have hlen : ys.length ≤ 400 := by rw [hms.length]; exact imgs_len hsz
      refine l_tup h1 (fun _ => true) (imgV H1) (by rw [List.length_map]; omega) (fun x => rfl) (fun x H' _ e Qb q => q H' (Ex.refl _)) (fun x H' hx _ e Qv q => ?_) fun L H2 hL e2 h2 => ?_
      · obtain ⟨y, hy, rfl⟩ := List.mem_map.mp hx
        obtain ⟨i, hi⟩ := List.getElem?_of_mem hy
        obtain ⟨s, _, hmap⟩ := hms.get hi
        obtain ⟨a', b', im, dx, hy1, hy2, _⟩ := imgV_of hmap
        rw [hy2] at q
        walk_at "rd"
        exact n_image Z (e _ _ hy1) (q H' (Ex.refl _))
      · rw [filter_yes] at h2
        walk_at "rd"
        exact n_tupleL (.inl (.inl h2)) fun t2 H3 ht2 e3 h3 => kont t2 _ H3 ((e1.trans e2).trans e3) (.inl (.inl h3)) ((imgs_rows hms).ex (e2.trans e3))
end
end Fm
set_option Elab.async false
set_option linter.all false
set_option maxRecDepth 100000
set_option maxHeartbeats 4000000
set_option pp.maxSteps 400
namespace Fm
open PySem PySem.Spec PyProof.Rows L2 Evl RZ GenW
local macro_rules | `(tactic| walk_at "r1") => `(tactic| first
  | ((with_reducible refine d_var (v := ?v1) ?h1 ?q1); (case h1 => rfl))
  | with_reducible (first
  | refine d_c ?_ | refine d_op ?_ | refine d_un ?_ | refine d_I0 ?_ | refine d_U ?_ | refine d_eq ?_ | refine d_ne ?_ | refine d_cb ?_ | refine d_nil ?_ | refine d_cons ?_ | refine d_call ?_
  | refine d_fld ?_ | refine d_test ?_ | refine d_B ?_ | refine d_bl ?_ | refine d_and ?_ | refine d_or ?_ | refine d_not ?_ | refine d_andV ?_ | refine d_orV ?_ | refine d_notV ?_ | refine d_if ?_
  | refine d_tup ?_ | refine d_lst ?_ | refine d_lc ?_ | refine d_bm ?_ | refine d_bm0 ?_ | refine d_meth ?_ | refine d_make ?_
  | refine d_sl ?_ | refine d_np ?_ | refine d_pt ?_ | refine d_pi ?_
  | refine s_seq ?_ | refine s_next ?_ | refine s_brk ?_ | refine s_asg ?_ | refine s_drop ?_ | refine s_ret ?_ | refine s_ifs ?_ | refine s_par ?_ | refine s_two ?_ | refine s_fld ?_
  | refine g_name ?_ | refine g_sub ?_ | refine g_cons ?_ | refine g_nil ?_
  | refine s_for ?_ | refine w_rng1 ?_ | refine w_rng2 ?_ | refine w_rng3 ?_ | refine w_list ?_ | refine w_tup ?_ | refine w_rev ?_ | refine w_enT ?_ | refine w_zip ?_ | refine w_zipA ?_
  | refine n_int ?_ | refine n_max ?_ | refine n_abs ?_ | refine b_tt ?_ | refine b_ff ?_ | refine b_nt ?_ | refine b_nf ?_))
local macro_rules | `(tactic| walk_at "rd") => `(tactic| repeat walk_at "r1")
/-! ### what is true of the numbers -/
structure Facts (p : Int) (n m : Nat) (f g : List Int) : Prop where
  okF : FOk p f
  okG : FOk p g
  pr : Prime1 p
  p5 : p ≤ 5
  lf : f.length = n + 1
  lg : g.length = m + 1
  n1 : 1 ≤ n
  m1 : 1 ≤ m
  n6 : n ≤ 6
  m6 : m ≤ 6
  sf : p ^ n ≤ 64
  sg : p ^ m ≤ 64
  val : ∀ s xs, s.length = m → Rw p s → valL s g p xs = valP s g p xs
  img : imgsP f g p = rootsP f g p
  cnt : (rootsP f g p).length = if m % n = 0 then n else 0
  add : ∀ s ∈ rootsP f g p, ∀ x y : List Int, x.length = n → Rw p x → y.length = n → Rw p y → valP s g p (sumP x y p) = sumP (valP s g p x) (valP s g p y) p
  mul : ∀ s ∈ rootsP f g p, ∀ x y : List Int, x.length = n → Rw p x → y.length = n → Rw p y → valP s g p (timesL f p x y) = timesL g p (valP s g p x) (valP s g p y)
  inj : ∀ s ∈ rootsP f g p, ∀ x y : List Int, x.length = n → Rw p x → y.length = n → Rw p y → valP s g p x = valP s g p y → x = y
theorem units65 {k : Nat} {A : Around} (r : Room k A) : A.units + 65 < cLine := by have := r.un; omega
theorem anyI_false {xs : List Int} : anyI xs = false ↔ ∀ x ∈ xs, x = 0 := by
  unfold anyI
  rw [List.any_eq_false]
  simp
theorem any_zero {g s xs : List Int} {p : Int} (h : (valP s g p xs).length = g.length - 1) (hg : 2 ≤ g.length) : (anyI (valP s g p xs) = false) ↔ valP s g p xs = zeroP g := by
  have ez : zeroP g = List.replicate (g.length - 1) 0 := by
    unfold zeroP padR
    rw [show ((g.length : Int) - 1 - (([0] : List Int).length : Int)).toNat = g.length - 2 by simp; omega]
    rw [show g.length - 1 = (g.length - 2) + 1 by omega, List.replicate_succ]
    rfl
  rw [anyI_false, ez]
  constructor
  · intro q
    refine List.ext_getElem (by rw [h, List.length_replicate]) fun i h1 h2 => ?_
    rw [List.getElem_replicate]
    exact q _ (List.getElem_mem _)
  · intro q x hx
    rw [q] at hx
    exact List.eq_of_mem_replicate hx
theorem valP_len {s g xs : List Int} {p : Int} (M : Mon g p) : (valP s g p xs).length = g.length - 1 := foldl_length M _ _ (zeroP_length M.len)
theorem foldP_rw {s g : List Int} {p : Int} (hp : 0 < p) : ∀ (xs t : List Int), Rw p t → Rw p (xs.foldl (stepP s g p) t)
  | [], _, h => h
  | c :: xs, t, h => foldP_rw hp xs _ (sumP_rw hp _ _)
theorem valP_rw {s g xs : List Int} {p : Int} (hp : 0 < p) : Rw p (valP s g p xs) := foldP_rw hp _ _ (fun x hx => by
  unfold zeroP padR at hx
  rcases List.mem_append.mp hx with q | q
  · rw [List.mem_singleton.mp q]; omega
  · rw [List.eq_of_mem_replicate q]; omega)
theorem root_mem {f g s : List Int} {p : Int} (hp : 0 < p) (h : s ∈ rootsP f g p) : s.length = g.length - 1 ∧ Rw p s ∧ valP s g p f = zeroP g := by
  unfold rootsP rootsN at h
  obtain ⟨h1, h2⟩ := List.mem_filter.mp h
  obtain ⟨j, _, rfl⟩ := List.mem_map.mp h1
  exact ⟨lowL_length _ _ _, lowL_rw hp _ _, of_decide_eq_true h2⟩
section
variable {K : PySem.W.Frag} {H : Hp} {Q : VK}
theorem d_neB {a b : Bool} (q : Q (.bl (!decide (a = b))) H) : rNe (.bl a) (.bl b) H Q := ⟨rfl, by
  have e : decide (V.bl a = V.bl b) = decide (a = b) := by cases a <;> cases b <;> rfl
  rw [e]; exact q⟩
end
theorem b_pick {c : Prop} [Decidable c] {i : Nat} {σ : L2.St} {H : Hp} {Q : VK} {a b : Int} (h : σ[i]? = some (some (.int a))) (q : Q (.int (if c then a else b)) H) : if decide c = true then tVar i σ H Q else tC (.int b) σ H Q := by
  by_cases hc : c
  · rw [decide_eq_true hc, if_pos rfl]
    rw [if_pos hc] at q
    exact ⟨_, h, q⟩
  · rw [decide_eq_false hc, if_neg Bool.false_ne_true]
    rw [if_neg hc] at q
    exact q
theorem root_of {f g : List Int} {p v : Int} {m : Nat} (em : g.length - 1 = m) (h0 : 0 ≤ v) (h1 : v < p ^ m) (h : valP (lowL p m v) g p f = zeroP g) : lowL p m v ∈ rootsP f g p := by
  unfold rootsP rootsN
  refine List.mem_filter.mpr ⟨List.mem_map.mpr ⟨v.toNat, List.mem_range.mpr (by rw [em]; omega), ?_⟩, decide_eq_true h⟩
  rw [em, Int.toNat_of_nonneg h0]
/-- what the law's loop finds at every heap -/
structure LawS (K : PySem.W.Frag) (C D oa ob u v tm L : Addr) (p : Int) (f g : List Int) (ys : List Addr) (rv : List V) (H : Hp) : Prop where
  a : FldH K C H oa p f
  b : FldH K C H ob p g
  ff : FT K H u p f
  gg : FT K H v p g
  tup : SqT K H tm (ys.map V.ref)
  maps : MapsH K C D H p f g ys (rootsP f g p)
  list : H L = some (.lst rv)
  rows : RowsV K H rv (rootsP f g p)
section
variable {K : PySem.W.Frag} {C D oa ob u v tm L l : Addr} {p : Int} {f g : List Int} {ys : List Addr} {rv zs : List V} {H H' : Hp} {Q : VK} {σ : L2.St}
theorem LawS.ex (h : LawS K C D oa ob u v tm L p f g ys rv H) (e : Ex H H') : LawS K C D oa ob u v tm L p f g ys rv H' :=
  ⟨h.a.ex e, h.b.ex e, h.ff.ex e, h.gg.ex e, ex_t e h.tup, h.maps.ex e, e _ _ h.list, h.rows.ex e⟩
theorem LawS.x (h : LawS K C D oa ob u v tm L p f g ys rv H) (e : ExX l H H') (hl : H l = some (.lst zs)) (hne : L ≠ l) : LawS K C D oa ob u v tm L p f g ys rv H' :=
  ⟨h.a.x e hl, h.b.x e hl, h.ff.x e hl, h.gg.x e hl, sqT_l e hl h.tup, h.maps.x e hl, e _ _ hne h.list, h.rows.x e hl⟩
theorem b_iso {c : Prop} [Decidable c] {ss : List (List Int)} (hL : σ[8]? = some (some (.ref L))) (hl : H L = some (.lst rv)) (hr : RowsV K H rv ss) (k : ∀ t H9 vs, Ex H H9 → SqT K H9 t vs → RowsV K H9 vs (if c then ss else []) → Q (.ref t) H9) :
    if decide c = true then tCB (rTupS K) (tCons (tVar 8) tNil) σ H Q else tTup tNil σ H Q := by
  by_cases hc : c
  · rw [decide_eq_true hc, if_pos rfl]
    refine ⟨_, hL, ?_⟩
    exact n_tupleL (.inl (.inl hl)) fun t H9 ht e h => k t H9 rv e (.inl (.inl h)) (by rw [if_pos hc]; exact hr.ex e)
  · rw [decide_eq_false hc, if_neg Bool.false_ne_true]
    exact n_tup0 fun t H9 ht e h => k t H9 [] e (.inl (.inl h)) (by rw [if_neg hc]; exact True.intro)
/-- if other not in roots and not malformed(a, b, other) -/
theorem t_other {q : Addr} {vv : Int} {m : Nat} {Qb : Bool → Hp → Prop} (S : LawS K C D oa ob u v tm L p f g ys rv H) (Mg : Mon g p) (hf : f.length ≤ 200) (em : g.length - 1 = m) (hq : IT K H q (lowL p m vv)) (h0 : 0 ≤ vv) (h1 : vv < p ^ m)
    (s12 : σ[12]? = some (some (.ref q))) (s8 : σ[8]? = some (some (.ref L))) (s4 : σ[4]? = some (some (.ref oa))) (s5 : σ[5]? = some (some (.ref ob))) (k : ∀ H', Ex H H' → Qb false H') :
    tAnd (tTest (tOp (rNotInD K) (tVar 12) (tVar 8))) (tNot (tB (tCall (spLawMalformed K C) [] E0 (tCons (tVar 4) (tCons (tVar 5) (tCons (tVar 12) tNil)))))) σ H Qb := by
  have hg := Mg.top
  refine ⟨_, s12, _, s8, n_notIn hq (.inl (.inl S.list)) S.rows ⟨_, rfl, ?_⟩⟩
  refine b_ifN (fun hnot => ?_) fun hin => k H (Ex.refl _)
  refine ⟨_, s4, _, s5, _, s12, oa, .ref ob, .ref q, p, f, rfl, S.a, hf, .inl ⟨ob, p, g, rfl, S.b, .inr ⟨rfl, Mg, .inr ⟨q, _, rfl, hq, by rw [lowL_length]; omega, fun z => hnot (root_of em h0 h1 z)⟩⟩⟩, fun H' e => ⟨true, rfl, k H' e⟩⟩
theorem d_callO {X : Cx} {sp : Sp} {E : XK} {tf : TE} {t : TA} (q : tf σ H fun y H1 => ∃ a, y = V.ref a ∧ t σ H1 fun vs H2 => StX.InsC X H2 a C ∧ sp (V.ref a :: vs) H2 Q E) : StX.tCallO X C sp E tf t σ H Q := q
theorem insM {X : Cx} {y : Addr} {s : List Int} (h : MapH K C D H y p f g s) : StX.InsC X H y D := by
  obtain ⟨_, _, _, dx, h1, _⟩ := h
  exact .inr ⟨dx, _, h1⟩
theorem rd_image {y : Addr} {s : List Int} {mg : Str → Option Value} (Z : Tc K mg C D) (h : MapH K C D H y p f g s) (k : ∀ im, IT K H im s → Q (.ref im) H) : nFld K "image" (.ref y) H Q := by
  obtain ⟨_, _, im, dx, h1, _, _, h4⟩ := h
  exact n_image Z h1 (k im h4)
theorem n_eqM {x y : Addr} {s s' : List Int} (hx : MapH K C D H x p f g s) (hy : MapH K C D H y p f g s') (k : ∀ H', Ex H H' → Q (.bl (decide (s = s'))) H') : rOwn K D (spEqM K C D) (.ref x) (.ref y) H Q := by
  obtain ⟨_, _, _, dx, h1, _⟩ := id hx
  obtain ⟨_, _, _, dy, h2, _⟩ := id hy
  exact ⟨x, y, dx, _, rfl, rfl, h1, .inl ⟨dy, _, h2⟩, x, y, p, f, g, s, s', rfl, hx, .inl ⟨hy, fun H' e => ⟨_, rfl, k H' e⟩⟩⟩
theorem n_eqMT {x y : Addr} {s s' : List Int} {mg : Str → Option Value} (Z : Tc K mg C D) (hx : MapH K C D H x p f g s) (hy : IT K H y s') (k : ∀ H', Ex H H' → Q (.bl false) H') : rOwn K D (spEqM K C D) (.ref x) (.ref y) H Q := by
  obtain ⟨_, _, _, dx, h1, _⟩ := id hx
  exact ⟨x, y, dx, _, rfl, rfl, h1, .inr ⟨⟨_, hy⟩, Z.nfM⟩, x, y, p, f, g, s, s', rfl, hx, .inr ⟨hy, fun H' e => ⟨_, rfl, k H' e⟩⟩⟩
end
theorem ok11 : FOk 11 [0, 1] := ⟨⟨by decide, by decide, by decide, fun x hx => by
  rcases List.mem_cons.mp hx with e | e
  · omega
  · have := List.mem_singleton.mp e
    omega, by decide, by decide⟩, by decide +kernel, by decide⟩
theorem prime11 : Prime1 11 := ⟨by decide, by decide, fun d h1 h2 => by
  have h3 : d ≤ 3 := by
    refine Int.not_lt.mp fun h => ?_
    have := Int.mul_le_mul (show 4 ≤ d by omega) (show 4 ≤ d by omega) (by omega) (by omega)
    omega
  have : d = 2 ∨ d = 3 := by omega
  rcases this with rfl | rfl <;> decide⟩
section
variable {P : Program} {w : World} {K : PySem.W.Frag} {mg : Str → Option Value} {base : Heap} {C D G : Addr}
def spLaw (K : PySem.W.Frag) : Sp := fun vs H Q _ => ∃ (a : Addr) (ns : List Int), vs = [.ref a] ∧ IL K H a ns ∧ ∀ H', Q (.bl true) H'
theorem sc_law : FnScope ["_law_script", "_law_state_here", "_law_f", "_law_g", "_law_a", "_law_b", "_law_n", "_law_m", "_law_roots", "_law_number", "_law_s", "_law_found", "_law_other", "_law_h", "_law_x", "_law_y"] ["_law_script"] (defScope (top 52)) := ⟨rfl, rfl, rfl, by decide +kernel, rfl, by decide +kernel, by decide +kernel⟩
theorem ok_law {fn : Addr} {fd : FuncData} (F : L2.Fun K "law" "law" (top 52) fn fd) (Z : Tc K mg C D) (Vx : Ec K mg G) (good : ∀ p n m f g, Pair p n m f g → Facts p n m f g) : FnOk P w K mg base CX0 11 fn fd ["_law_script"] (spLaw K) := by
  have T := Z.T
  have B := Z.T.B
  have hField := Z.gF
  have hFieldMap := Z.gM
  have mkM := mk_FieldMap (P := P) (w := w) (base := base) Z Vx
  have mkF := mk_Field (P := P) (w := w) (base := base) Z
  obtain ⟨T0, mkF1, hT0⟩ := mkF.one
  have cM := call_FieldMap (P := P) (w := w) (base := base) Z
  have M_eq := mt_FieldMap_eq (P := P) (w := w) (base := base) Z
  have F_all_maps := fn_all_maps (P := P) (w := w) (base := base) Z Vx
  have F_isomorphisms := fn_isomorphisms (P := P) (w := w) (base := base) Z Vx
  have F__law_malformed := fn_law_malformed (P := P) (w := w) (base := base) Z Vx
  have F__law_state := fn_law_state (P := P) (w := w) (base := base) T
  have F__law_pair_of_fields := fn_law_pair_of_fields (P := P) (w := w) (base := base) T
  have F__law_size := fn_law_size (P := P) (w := w) (base := base) T
  have F__law_member := fn_law_member (P := P) (w := w) (base := base) T
  have F__law_value := fn_law_value (P := P) (w := w) (base := base) T
  have F__law_any := fn_law_any (P := P) (w := w) (base := base) T
  have F__law_plus := fn_law_plus (P := P) (w := w) (base := base) T
  have F__law_times := fn_law_times (P := P) (w := w) (base := base) T
  refine F.ok sc_law (fun vs H Q E h => ?_) (fun cdv A outer s H vs Q E hr h => ?_)
  · obtain ⟨a, ns, rfl, _⟩ := h
    rfl
  · obtain ⟨sa, ns, rfl, hns, kont⟩ := h
    refine ⟨_, (pss_cons (ps_set (i := 1) sc_law.nd rfl (Or.inl rfl) (pcall F__law_state (hr.mono (by decide)) (pa_cons (pv 0) pa_nil))) (pss_cons (ps_asg (pcall F__law_pair_of_fields (hr.mono (by decide)) (pa_cons (pv 1) pa_nil)) (pg_tup rfl (pgs_cons (pg_name (i := 2) sc_law.nd rfl (Or.inl rfl)) (pgs_cons (pg_name (i := 3) sc_law.nd rfl (Or.inl rfl)) pgs_nil)))) (pss_cons (ps_par (i := 4) (j := 5) rfl sc_law.nd rfl rfl (by decide) rfl rfl (pa_cons (bField2 mkF hField (hr.mono (by decide)) (pe_ix (r := rIxT K) ix_tup (pv 2) pe_int (fun _ _ => rfl)) (pe_ix (r := rIxT K) ix_tup (pv 2) pe_int (fun _ _ => rfl))) (pa_cons (bField2 mkF hField (hr.mono (by decide)) (pe_ix (r := rIxT K) ix_tup (pv 3) pe_int (fun _ _ => rfl)) (pe_ix (r := rIxT K) ix_tup (pv 3) pe_int (fun _ _ => rfl))) pa_nil)) (by rfl)) (pss_cons (ps_par (i := 6) (j := 7) rfl sc_law.nd rfl rfl (by decide) rfl rfl (pa_cons (pe_op op_sub (bLen B (pe_ix (r := rIxT K) ix_tup (pv 2) pe_int (fun _ _ => rfl))) pe_int) (pa_cons (pe_op op_sub (bLen B (pe_ix (r := rIxT K) ix_tup (pv 3) pe_int (fun _ _ => rfl))) pe_int) pa_nil)) (by rfl)) (pss_cons (ps_set (i := 8) sc_law.nd rfl (Or.inl rfl) (pe_lst pa_nil)) (pss_cons (ps_for PassesOwn.never rfl (pi_range1 rfl B.range (pa_cons (pcall F__law_size (hr.mono (by decide)) (pa_cons (pv 3) pa_nil)) pa_nil)) (pg_name (i := 9) sc_law.nd rfl (Or.inl rfl)) (pss_cons (ps_set (i := 10) sc_law.nd rfl (Or.inl rfl) (pcall F__law_member (hr.mono (by decide)) (pa_cons (pv 3) (pa_cons (pv 9) pa_nil)))) (pss_one (ps_if (pt_not (pt_val (bAny B (pcall F__law_value (hr.mono (by decide)) (pa_cons (pv 3) (pa_cons (pe_ix (r := rIxT K) ix_tup (pv 2) pe_int (fun _ _ => rfl)) (pa_cons (pv 10) pa_nil))))))) (pss_one (ps_expr (pe_bm PySem.F.plainAttrs_list PySem.F.slot_list_append PySem.F.type_list_append mt_append (pv 8) (pa_cons (pv 10) pa_nil)))) pss_nil)))) (pss_cons (ps_set (i := 11) sc_law.nd rfl (Or.inl rfl) (pcall F_all_maps (hr.mono (by decide)) (pa_cons (pv 4) (pa_cons (pv 5) pa_nil)))) (pss_cons (ps_if (PW.pt (pw_or (pt_cmpR (op_neD hr.units) (pe_lc (own := [("_law_h", 13)]) (g := gName 13) (tt := tYes) rfl sc_law.nd (pi_tup (pv 11)) (blkOk_by (N := ["_law_script", "_law_state_here", "_law_f", "_law_g", "_law_a", "_law_b", "_law_n", "_law_m", "_law_roots", "_law_number", "_law_s", "_law_found", "_law_other", "_law_h", "_law_x", "_law_y"]) (sc := defScope (top 52)) (by decide +kernel)) (fun _ _ _ _ _ => pg_name (i := 13) sc_law.nd rfl (Or.inl rfl)) (fun _ _ _ _ _ => pts_nil) (fun _ _ _ _ _ => (pe_fldK (K := K) rfl (pv 13) rfl))) (pv 8) (nomark _)) (pw_or1 (pt_cmpR op_ne (bLen B (pv 8)) (pe_ifExp (pt_cmpR op_eq (pe_op op_mod (pv 7) (pv 6)) pe_int (nomark _)) (pv 6) pe_int) (nomark _))))) (pss_one (ps_ret pe_bl)) pss_nil) (pss_cons (ps_if (pt_cmpR (op_neD hr.units) (pcall F_isomorphisms (hr.mono (by decide)) (pa_cons (pv 4) (pa_cons (pv 5) pa_nil))) (pe_ifExp (pt_cmpR op_eq (pv 6) (pv 7) (nomark _)) (bTuple B (pv 8)) (pe_tup pa_nil)) (nomark _)) (pss_one (ps_ret pe_bl)) pss_nil) (pss_cons (ps_set (i := 12) sc_law.nd rfl (Or.inl rfl) (pcall F__law_any (hr.mono (by decide)) (pa_cons (pv 1) (pa_cons (pv 3) pa_nil)))) (pss_cons (ps_if (PW.pt (pw_and (pt_cmpR (op_notInD (units65 hr)) (pv 12) (pv 8) (by with_unfolding_all rfl)) (pw_and1 (pt_not (pt_val (pcall F__law_malformed (hr.mono (by decide)) (pa_cons (pv 4) (pa_cons (pv 5) (pa_cons (pv 12) pa_nil))))))))) (pss_one (ps_ret pe_bl)) pss_nil) (pss_cons (ps_if (PW.pt (pw_or (pt_not (pt_val (pcall F__law_malformed (hr.mono (by decide)) (pa_cons (pv 4) (pa_cons (pv 5) (pa_cons pe_non pa_nil)))))) (pw_or (pt_not (pt_val (pcall F__law_malformed (hr.mono (by decide)) (pa_cons (pv 4) (pa_cons (bField1 mkF1 hField (hr.mono (by decide)) pe_int) (pa_cons (pe_tup (pa_cons pe_int pa_nil)) pa_nil)))))) (pw_or1 (pt_not (pt_val (pcall F__law_malformed (hr.mono (by decide)) (pa_cons (pv 4) (pa_cons pe_int (pa_cons (pe_tup (pa_cons pe_int pa_nil)) pa_nil)))))))))) (pss_one (ps_ret pe_bl)) pss_nil) (pss_cons (ps_for PassesOwn.never rfl (pi_tup (pv 11)) (pg_name (i := 13) sc_law.nd rfl (Or.inl rfl)) (pss_cons (ps_par (i := 14) (j := 15) rfl sc_law.nd rfl rfl (by decide) rfl rfl (pa_cons (pcall F__law_any (hr.mono (by decide)) (pa_cons (pv 1) (pa_cons (pv 2) pa_nil))) (pa_cons (pcall F__law_any (hr.mono (by decide)) (pa_cons (pv 1) (pa_cons (pv 2) pa_nil))) pa_nil)) (by rfl)) (pss_cons (ps_if (PW.pt (pw_or (pt_cmpR (op_neD hr.units) (bCallM cM (pv 13) (hr.mono (by decide)) (pa_cons (pv 14) pa_nil)) (pcall F__law_value (hr.mono (by decide)) (pa_cons (pv 3) (pa_cons (pv 14) (pa_cons (pe_fldK (K := K) rfl (pv 13) rfl) pa_nil)))) (nomark _)) (pw_or1 (pt_cmpR (op_neD hr.units) (bCallM cM (pv 13) (hr.mono (by decide)) (pa_cons (pcall F__law_plus (hr.mono (by decide)) (pa_cons (pv 2) (pa_cons (pv 14) (pa_cons (pv 15) pa_nil)))) pa_nil)) (pcall F__law_plus (hr.mono (by decide)) (pa_cons (pv 3) (pa_cons (bCallM cM (pv 13) (hr.mono (by decide)) (pa_cons (pv 14) pa_nil)) (pa_cons (bCallM cM (pv 13) (hr.mono (by decide)) (pa_cons (pv 15) pa_nil)) pa_nil)))) (nomark _))))) (pss_one (ps_ret pe_bl)) pss_nil) (pss_cons (ps_if (PW.pt (pw_or (pt_cmpR (op_neD hr.units) (bCallM cM (pv 13) (hr.mono (by decide)) (pa_cons (pcall F__law_times (hr.mono (by decide)) (pa_cons (pv 2) (pa_cons (pv 14) (pa_cons (pv 15) pa_nil)))) pa_nil)) (pcall F__law_times (hr.mono (by decide)) (pa_cons (pv 3) (pa_cons (bCallM cM (pv 13) (hr.mono (by decide)) (pa_cons (pv 14) pa_nil)) (pa_cons (bCallM cM (pv 13) (hr.mono (by decide)) (pa_cons (pv 15) pa_nil)) pa_nil)))) (nomark _)) (pw_or1 (pt_cmpR op_ne (pe_cmpR (op_eqD hr.units) (bCallM cM (pv 13) (hr.mono (by decide)) (pa_cons (pv 14) pa_nil)) (bCallM cM (pv 13) (hr.mono (by decide)) (pa_cons (pv 15) pa_nil)) (nomark _)) (pe_cmpR (op_eqD hr.units) (pv 14) (pv 15) (nomark _)) (nomark _))))) (pss_one (ps_ret pe_bl)) pss_nil) (pss_one (ps_if (PW.pt (pw_or (pt_not (pt_cmpR (op_own M_eq (hr.mono (by decide))) (bMap mkM hFieldMap (hr.mono (by decide)) (pv 4) (pv 5) (pe_fldK (K := K) rfl (pv 13) rfl)) (pv 13) (nomark _))) (pw_or1 (pt_cmpR (op_own M_eq (hr.mono (by decide))) (pv 13) (pe_fldK (K := K) rfl (pv 13) rfl) (nomark _))))) (pss_one (ps_ret pe_bl)) pss_nil)))))) (pss_one (ps_ret pe_bl))))))))))))))), ?_⟩
    walk_at "rd"
    refine ⟨sa, ns, rfl, hns, fun l x0 y0 H0 hl0 e0 k0 => ?_⟩
    walk_at "rd"
    refine ⟨l, x0, y0, rfl, k0, fun t u v p n m f g x1 y1 H1 pr d1 k1 ht hf hg => ?_⟩
    have fa := good p n m f g pr
    have hp1 := fa.okF.mon.p1
    have hp : 0 < p := by omega
    have hp5 := fa.p5
    have lf := fa.lf
    have lg := fa.lg
    have n1 := fa.n1
    have m1 := fa.m1
    have n6 := fa.n6
    have m6 := fa.m6
    have hf2 := fa.okF.mon.top
    have hg2 := fa.okG.mon.top
    have em : g.length - 1 = m := by omega
    have en : f.length - 1 = n := by omega
    have sg := fa.sg
    have sf := fa.sf
    have pm1 := (ipow_step (p := p) (by omega) m).1
    have pn1 := (ipow_step (p := p) (by omega) n).1
    walk_at "rd"
    refine g_two ht rfl ?_
    walk_at "rd"
    refine hf.p ?_
    walk_at "rd"
    refine hf.m fun tf htf => ?_
    walk_at "rd"
    refine n_makeF (fun H' e => ex_t e htf) fa.okF fa.pr rfl fun oa H2 hoa e2 fa2 => ?_
    walk_at "rd"
    refine (hg.ex e2).p ?_
    walk_at "rd"
    refine (hg.ex e2).m fun tg htg => ?_
    walk_at "rd"
    refine n_makeF (fun H' e => ex_t e htg) fa.okG fa.pr rfl fun ob H3 hob e3 fb3 => ?_
    have e13 := e2.trans e3
    walk_at "rd"
    refine (hf.ex e13).m fun tf' htf' => ?_
    walk_at "rd"
    refine n_len (.inr htf') ?_
    walk_at "rd"
    refine (hg.ex e13).m fun tg' htg' => ?_
    walk_at "rd"
    refine n_len (.inr htg') ?_
    walk_at "rd"
    rw [lenI, lenI]
    rw [show (f.length : Int) - 1 = (n : Int) by omega, show (g.length : Int) - 1 = (m : Int) by omega]
    refine n_lst0 fun L H4 hL e4 h4 => ?_
    have e14 := e13.trans e4
    walk_at "rd"
    refine ⟨v, p, g, rfl, hg.ex e14, fa.okG.mon, ?_⟩
    rw [em]
    refine f_rng1 ⟨by omega, by omega⟩ (fun i σ H' => ∃ z1 z2 vs, σ = [some (.ref sa), some (.ref l), some (.ref u), some (.ref v), some (.ref oa), some (.ref ob), some (.int (n : Int)), some (.int (m : Int)), some (.ref L), z1, z2, none, none, none, none, none] ∧
      Ex H3 H' ∧ H' L = some (.lst vs) ∧ RowsV K H' vs (rootsN f g p i)) ⟨_, _, [], rfl, e4, h4, True.intro⟩ ?_ ?_
    · rintro i σ' H5 hi ⟨z1, z2, vs, rfl, e5, h5, r5⟩
      have e15 := e13.trans e5
      walk_at "rd"
      refine ⟨v, p, (i : Int), g, rfl, hg.ex e15, fa.okG.mon, fun q6 H6 e6 h6 => ?_⟩
      rw [em] at h6
      have sl : (lowL p m (i : Int)).length = m := lowL_length _ _ _
      walk_at "rd"
      refine (hf.ex (e15.trans e6)).m fun tf6 htf6 => ?_
      walk_at "rd"
      refine ⟨v, tf6, q6, p, g, f, _, rfl, hg.ex (e15.trans e6), fa.okG.mon, htf6, by omega, h6, by omega, fun q7 H7 e7 h7 => ?_⟩
      rw [fa.val _ _ sl (lowL_rw hp _ _)] at h7
      walk_at "rd"
      refine n_any (.inr h7) ?_
      refine ⟨_, rfl, ?_⟩
      have az := any_zero (s := lowL p m (i : Int)) (xs := f) (valP_len fa.okG.mon) fa.okG.mon.len
      rw [rootsN_succ, em]
      cases hany : anyI (valP (lowL p m (i : Int)) g p f) with
      | false =>
        rw [if_pos (show valP (lowL p m (i : Int)) g p f = zeroP g from az.mp hany)]
        walk_at "rd"
        have h5' := (e6.trans e7) _ _ h5
        refine ⟨.inl ⟨rfl, _, .inl (.inl h5')⟩, ?_⟩
        walk_at "rd"
        have hvl : vs.length ≤ i := by rw [r5.length]; exact rootsN_length _ _ _ _
        refine ⟨L, vs, .ref q6, rfl, rfl, h5', sz_lt (by omega), ?_⟩
        refine ⟨_, _, vs ++ [.ref q6], rfl, Ex.mut (e5.trans (e6.trans e7)) hL, upd_same, ?_⟩
        exact RowsV.snoc (sqT_l (ExX.of (Ex.refl H7)).upd h5' (ex_t e7 h6)) ((r5.ex (e6.trans e7)).x (ExX.of (Ex.refl H7)).upd h5')
      | true =>
        rw [if_neg (show ¬ valP (lowL p m (i : Int)) g p f = zeroP g from fun z => by rw [az.mpr z] at hany; cases hany), List.append_nil]
        walk_at "rd"
        exact ⟨_, _, vs, rfl, e5.trans (e6.trans e7), (e6.trans e7) _ _ h5, r5.ex (e6.trans e7)⟩
    · rintro σ' H5 ⟨z1, z2, rv, rfl, e5, h5, r5⟩
      have er : rootsN f g p (p ^ m).toNat = rootsP f g p := by unfold rootsP; rw [em]
      rw [er] at r5
      have fa5 := fa2.ex (e3.trans e5)
      have fb5 := fb3.ex e5
      have sz4 : p ^ (g.length - 1) ≤ 400 := by rw [em]; omega
      have rlen := fa.cnt
      have rle : rv.length ≤ 100 := by
        rw [r5.length, rlen]
        split <;> omega
      walk_at "rd"
      refine ⟨oa, ob, p, f, g, rfl, fa5, fb5, fa.okF.mon, fa.okG.mon, sz4, fun tm ys H6 e6 h6 hms => ?_⟩
      rw [fa.img] at hms
      have ylen : ys.length ≤ 100 := by rw [hms.length, ← r5.length]; exact rle
      walk_at "rd"
      refine l_tup h6 (fun _ => true) (imgV H6) (by rw [List.length_map]; omega) (fun x => rfl) (fun x H' _ e Qb q => q H' (Ex.refl _)) (fun x H' hx _ e Qv q => ?_) fun L2 H7 hL2 e7 h7 => ?_
      · obtain ⟨y, hy, rfl⟩ := List.mem_map.mp hx
        obtain ⟨i, hi⟩ := List.getElem?_of_mem hy
        obtain ⟨s, _, hmap⟩ := hms.get hi
        obtain ⟨a', b', im, dx, hy1, hy2, _⟩ := imgV_of hmap
        rw [hy2] at q
        walk_at "rd"
        exact n_image Z (e _ _ hy1) (q H' (Ex.refl _))
      rw [filter_yes] at h7
      have e57 := e6.trans e7
      have r7 := r5.ex e57
      walk_at "rd"
      refine n_neLL (.inl (.inl h7)) ((imgs_rows hms).ex e7) (.inl (.inl (e57 _ _ h5))) r7 ?_
      refine ⟨_, rfl, ?_⟩
      refine b_NF rfl ?_
      walk_at "rd"
      refine n_len (.inl (.inl (.inl (e57 _ _ h5)))) ?_
      walk_at "rd"
      refine d_I (by omega) ?_
      walk_at "rd"
      have emod : (m : Int) % (n : Int) = ((m % n : Nat) : Int) := rfl
      have hcount : ((rv.length : Nat) : Int) = if ((m % n : Nat) : Int) = 0 then (n : Int) else 0 := by
        rw [r5.length, rlen]
        by_cases hz : m % n = 0
        · rw [if_pos hz, if_pos (by omega)]
        · rw [if_neg hz, if_neg (by omega)]
          rfl
      have fa7 := fa5.ex e57
      have fb7 := fb5.ex e57
      have hms7 := hms.ex e7
      have h67 := ex_t e7 h6
      have hr7 := e57 _ _ h5
      have e17 : Ex H1 H7 := (e13.trans e5).trans e57
      have hf7 := hf.ex e17
      have hg7 := hg.ex e17
      have k7 := e17 _ _ k1
      rw [emod]
      refine b_pick rfl ?_
      walk_at "rd"
      rw [hcount]
      refine b_NF rfl ?_
      have S7 : LawS K C D oa ob u v tm L p f g ys rv H7 := ⟨fa7, fb7, hf7, hg7, h67, hms7, hr7, r7⟩
      have hLl : L ≠ l := fun z => by
        have q := e13 _ _ k1
        rw [← z, hL] at q
        cases q
      clear e57 e7 h7 hL2 e6 h6 hms e5 h5 r5 e4 h4 e14 htf' htg' hcount hr7 fa7 fb7 hf7 hg7 h67 hms7 r7 fa5 fb5 e17
      walk_at "rd"
      refine ⟨oa, ob, p, f, g, rfl, S7.a, S7.b, fa.okF.mon, fa.okG.mon, sz4, fun t8 us H8 e8 h8 r8 => ?_⟩
      have e8r : (if f.length = g.length then imgsP f g p else []) = if (n : Int) = (m : Int) then rootsP f g p else [] := by
        rw [fa.img]
        by_cases hz : n = m
        · rw [if_pos (by omega), if_pos (by omega)]
        · rw [if_neg (by omega), if_neg (by omega)]
      rw [e8r] at r8
      have S8 := S7.ex e8
      walk_at "rd"
      refine b_iso rfl S8.list S8.rows fun t9 H9 vs9 e9 h9 r9 => ?_
      refine n_neTT (ex_t e9 h8) (r8.ex e9) h9 r9 ?_
      refine ⟨_, rfl, ?_⟩
      refine b_NF rfl ?_
      have S9 := S8.ex e9
      have k9 := (e8.trans e9) _ _ k7
      clear S7 S8 e8 e9 h8 r8 h9 r9 e8r k7
      walk_at "rd"
      refine ⟨l, v, x1, y1, p, g, rfl, k9, S9.gg, fa.okG.mon, by rw [em]; omega, fun q10 vv x10 y10 H10 v0 v1 d10 k10 h10 => ?_⟩
      rw [em] at v1 h10
      have S10 := S9.x d10 k9 hLl
      refine g_name ?_
      refine s_seq ?_
      refine s_ifs ?_
      refine t_other S10 fa.okG.mon (by omega) em h10 v0 v1 rfl rfl rfl rfl fun H11 e11 => ?_
      have S11 := S10.ex e11
      have k11 := e11 _ _ k10
      clear S9 S10 k9 k10 d10 e11 h10
      walk_at "rd"
      refine ⟨oa, .ref ob, .non, p, f, rfl, S11.a, by omega, .inl ⟨ob, p, g, rfl, S11.b, .inr ⟨rfl, fa.okG.mon, .inl rfl⟩⟩, fun H12 e12 => ?_⟩
      have S12 := S11.ex e12
      have k12 := e12 _ _ k11
      walk_at "rd"
      refine n_makeF (fun H' _ => hT0 H') ok11 prime11 rfl fun o11 H13 ho11 e13' f11 => ?_
      walk_at "rd"
      refine n_tup1 fun q14 H14 hq14 e14 h14 => ?_
      have S14 := (S12.ex e13').ex e14
      have k14 := (e13'.trans e14) _ _ k12
      walk_at "rd"
      refine ⟨oa, .ref o11, .ref q14, p, f, rfl, S14.a, by omega, .inl ⟨o11, 11, [0, 1], rfl, f11.ex e14, .inl (by omega)⟩, fun H15 e15 => ?_⟩
      have S15 := S14.ex e15
      have k15 := e15 _ _ k14
      walk_at "rd"
      refine n_tup1 fun q16 H16 hq16 e16 h16 => ?_
      have S16 := S15.ex e16
      have k16 := e16 _ _ k15
      walk_at "rd"
      refine ⟨oa, .int 5, .ref q16, p, f, rfl, S16.a, by omega, .inr ⟨5, rfl⟩, fun H17 e17 => ?_⟩
      have S17 := S16.ex e17
      have k17 := e17 _ _ k16
      clear S11 S12 S14 S15 S16 k11 k12 k14 k15 k16 e12 e13' e14 e15 e16 e17 f11 h14 h16
      walk_at "rd"
      refine f_tup S17.tup (fun i σ H' => ∃ z1 z2 z3 x' y', σ = [some (.ref sa), some (.ref l), some (.ref u), some (.ref v), some (.ref oa), some (.ref ob), some (.int (n : Int)), some (.int (m : Int)), some (.ref L), _, _, some (.ref tm), some (.ref q10), z1, z2, z3] ∧
        LawS K C D oa ob u v tm L p f g ys rv H' ∧ H' l = some (.lst [.int x', .int y'])) ⟨_, _, _, _, _, rfl, S17, k17⟩ (fun i σ' H' ⟨_, _, _, _, _, _, S, _⟩ => S.tup) ?_ ?_
      · rintro i w σ' H1 hw ⟨z1, z2, z3, x', y', rfl, S, k⟩
        obtain ⟨y, hy, rfl⟩ : ∃ y, ys[i]? = some y ∧ w = V.ref y := by
          rw [List.getElem?_map] at hw
          cases q : ys[i]? with
          | none => rw [q] at hw; cases hw
          | some y => rw [q] at hw; exact ⟨y, rfl, (Option.some.inj hw).symm⟩
        obtain ⟨s, hs, _⟩ := S.maps.get hy
        have smem := List.mem_of_getElem? hs
        obtain ⟨sl, srw, sroot⟩ := root_mem hp smem
        have mp : ∀ {H'}, LawS K C D oa ob u v tm L p f g ys rv H' → MapH K C D H' y p f g s := fun S' => by
          obtain ⟨s', hs', hm'⟩ := S'.maps.get hy
          rw [hs] at hs'
          cases hs'
          exact hm'
        walk_at "rd"
        refine ⟨l, u, x', y', p, f, rfl, k, S.ff, fa.okF.mon, by rw [en]; omega, fun qx vx x2 y2 H2 a0 a1 d2 k2 hx2 => ?_⟩
        rw [en] at hx2
        have S2 := S.x d2 k hLl
        walk_at "rd"
        refine ⟨l, u, x2, y2, p, f, rfl, k2, S2.ff, fa.okF.mon, by rw [en]; omega, fun qy vy x3 y3 H3 b0 b1 d3 k3 hy3 => ?_⟩
        rw [en] at hy3
        have S3 := S2.x d3 k2 hLl
        have hx3 := sqT_l d3 k2 hx2
        have xl : (lowL p n vx).length = n := lowL_length _ _ _
        have yl : (lowL p n vy).length = n := lowL_length _ _ _
        have xr : Rw p (lowL p n vx) := lowL_rw hp _ _
        have yr : Rw p (lowL p n vy) := lowL_rw hp _ _
        generalize lowL p n vx = X at hx3 xl xr
        generalize lowL p n vy = Y at hy3 yl yr
        clear S S2 k k2 d2 d3 hx2 hw
        have mX : memB X ((f.length : Int) - 1) p = true := memB_of (by omega) xr
        have mY : memB Y ((f.length : Int) - 1) p = true := memB_of (by omega) yr
        have vX := valP_len (s := s) (xs := X) fa.okG.mon
        have vY := valP_len (s := s) (xs := Y) fa.okG.mon
        walk_at "rd"
        refine d_callO ?_
        walk_at "rd"
        refine ⟨y, rfl, ?_⟩
        walk_at "rd"
        refine ⟨insM (mp S3), y, qx, p, f, g, s, X, rfl, mp S3, fa.okG.mon, by omega, hx3, by omega, mX, fun q4 H4 e4 h4 => ?_⟩
        have S4 := S3.ex e4
        walk_at "rd"
        refine rd_image Z (mp S4) fun im him => ?_
        walk_at "rd"
        refine ⟨v, qx, im, p, g, X, s, rfl, S4.gg, fa.okG.mon, ex_t e4 hx3, by omega, him, sl, fun q5 H5 e5 h5 => ?_⟩
        rw [fa.val s X (by omega) srw] at h5
        refine n_neT (ex_t e5 h4) h5 ?_
        refine ⟨_, rfl, ?_⟩
        refine b_NF rfl ?_
        have S5 := S4.ex e5
        have e35 := e4.trans e5
        have hx5 := ex_t e35 hx3
        have hy5 := ex_t e35 hy3
        have k5 := e35 _ _ k3
        clear S3 S4 hx3 hy3 k3 h4 h5 e4 e5 e35 him
        walk_at "rd"
        refine d_callO ?_
        walk_at "rd"
        refine ⟨y, rfl, ?_⟩
        walk_at "rd"
        refine ⟨u, qx, qy, p, f, X, Y, rfl, S5.ff, hp, hx5, hy5, by omega, by omega, fun q6 H6 e6 h6 => ?_⟩
        have S6 := S5.ex e6
        have sxl : (sumP X Y p).length = n := by rw [sumP_length (by omega)]; exact xl
        walk_at "rd"
        refine ⟨insM (mp S6), y, q6, p, f, g, s, _, rfl, mp S6, fa.okG.mon, by omega, h6, by omega, memB_of (by omega) (sumP_rw hp _ _), fun q7 H7 e7 h7 => ?_⟩
        have S7 := S6.ex e7
        have e57 := e6.trans e7
        rw [fa.add s smem X Y xl xr yl yr] at h7
        walk_at "rd"
        refine d_callO ?_
        walk_at "rd"
        refine ⟨y, rfl, ?_⟩
        walk_at "rd"
        refine ⟨insM (mp S7), y, qx, p, f, g, s, X, rfl, mp S7, fa.okG.mon, by omega, ex_t e57 hx5, by omega, mX, fun q8 H8 e8 h8 => ?_⟩
        have S8 := S7.ex e8
        have e58 := e57.trans e8
        walk_at "rd"
        refine d_callO ?_
        walk_at "rd"
        refine ⟨y, rfl, ?_⟩
        walk_at "rd"
        refine ⟨insM (mp S8), y, qy, p, f, g, s, Y, rfl, mp S8, fa.okG.mon, by omega, ex_t e58 hy5, by omega, mY, fun q9 H9 e9 h9 => ?_⟩
        have S9 := S8.ex e9
        have e59 := e58.trans e9
        walk_at "rd"
        refine ⟨v, q8, q9, p, g, _, _, rfl, S9.gg, hp, ex_t e9 h8, h9, by omega, by omega, fun q10 H10 e10 h10 => ?_⟩
        refine n_neT (ex_t ((e8.trans e9).trans e10) h7) h10 ?_
        refine ⟨_, rfl, ?_⟩
        refine b_NF rfl ?_
        have S10 := S9.ex e10
        have e5a := e59.trans e10
        have hxa := ex_t e5a hx5
        have hya := ex_t e5a hy5
        have ka := e5a _ _ k5
        clear S5 S6 S7 S8 S9 hx5 hy5 k5 h6 h7 h8 h9 h10 e6 e7 e8 e9 e10 e57 e58 e59 e5a
        walk_at "rd"
        refine d_callO ?_
        walk_at "rd"
        refine ⟨y, rfl, ?_⟩
        walk_at "rd"
        refine ⟨u, qx, qy, p, f, X, Y, rfl, S10.ff, fa.okF.mon, hxa, hya, by omega, by omega, xr.le (by omega), fun q6 H6 e6 h6 => ?_⟩
        have S6 := S10.ex e6
        have txl : (timesL f p X Y).length = n := by rw [timesL_length (by omega) (by omega)]; omega
        have txr : Rw p (timesL f p X Y) := fun z hz => by
          unfold timesL at hz
          obtain ⟨z', _, rfl⟩ := List.mem_map.mp hz
          exact ⟨Int.emod_nonneg _ (by omega), Int.emod_lt_of_pos _ hp⟩
        walk_at "rd"
        refine ⟨insM (mp S6), y, q6, p, f, g, s, _, rfl, mp S6, fa.okG.mon, by omega, h6, by omega, memB_of (by omega) txr, fun q7 H7 e7 h7 => ?_⟩
        have S7 := S6.ex e7
        have e57 := e6.trans e7
        rw [fa.mul s smem X Y xl xr yl yr] at h7
        walk_at "rd"
        refine d_callO ?_
        walk_at "rd"
        refine ⟨y, rfl, ?_⟩
        walk_at "rd"
        refine ⟨insM (mp S7), y, qx, p, f, g, s, X, rfl, mp S7, fa.okG.mon, by omega, ex_t e57 hxa, by omega, mX, fun q8 H8 e8 h8 => ?_⟩
        have S8 := S7.ex e8
        have e58 := e57.trans e8
        walk_at "rd"
        refine d_callO ?_
        walk_at "rd"
        refine ⟨y, rfl, ?_⟩
        walk_at "rd"
        refine ⟨insM (mp S8), y, qy, p, f, g, s, Y, rfl, mp S8, fa.okG.mon, by omega, ex_t e58 hya, by omega, mY, fun q9 H9 e9 h9 => ?_⟩
        have S9 := S8.ex e9
        have e59 := e58.trans e9
        walk_at "rd"
        refine ⟨v, q8, q9, p, g, _, _, rfl, S9.gg, fa.okG.mon, ex_t e9 h8, h9, by omega, by omega, (valP_rw hp).le (by omega), fun q10 H11 e10 h10 => ?_⟩
        refine n_neT (ex_t ((e8.trans e9).trans e10) h7) h10 ?_
        refine ⟨_, rfl, ?_⟩
        refine b_NF rfl ?_
        have S11 := S9.ex e10
        have e5a := e59.trans e10
        have hxb := ex_t e5a hxa
        have hyb := ex_t e5a hya
        have kb := e5a _ _ ka
        clear S10 S6 S7 S8 S9 hxa hya ka h6 h7 h8 h9 h10 e6 e7 e8 e9 e10 e57 e58 e59 e5a
        walk_at "rd"
        refine d_callO ?_
        walk_at "rd"
        refine ⟨y, rfl, ?_⟩
        walk_at "rd"
        refine ⟨insM (mp S11), y, qx, p, f, g, s, X, rfl, mp S11, fa.okG.mon, by omega, hxb, by omega, mX, fun q6 H6 e6 h6 => ?_⟩
        have S6 := S11.ex e6
        walk_at "rd"
        refine d_callO ?_
        walk_at "rd"
        refine ⟨y, rfl, ?_⟩
        walk_at "rd"
        refine ⟨insM (mp S6), y, qy, p, f, g, s, Y, rfl, mp S6, fa.okG.mon, by omega, ex_t e6 hyb, by omega, mY, fun q7 H7 e7 h7 => ?_⟩
        have S7 := S6.ex e7
        have e67 := e6.trans e7
        refine n_eqT (ex_t e7 h6) h7 ?_
        walk_at "rd"
        refine n_eqT (ex_t e67 hxb) (ex_t e67 hyb) ?_
        have einj : decide (valP s g p X = valP s g p Y) = decide (X = Y) := by
          by_cases q : X = Y
          · rw [decide_eq_true q, decide_eq_true (by rw [q])]
          · rw [decide_eq_false q, decide_eq_false fun z => q (fa.inj s smem X Y xl xr yl yr z)]
        refine d_neB ?_
        refine ⟨_, rfl, ?_⟩
        refine b_NF einj ?_
        have k7' := e67 _ _ kb
        clear S11 S6 hxb hyb kb h6 h7 e6 e7 e67
        walk_at "rd"
        refine rd_image Z (mp S7) fun im him => ?_
        walk_at "rd"
        refine n_makeM S7.a S7.b fa.okG.mon (by omega) him (by omega) (memB_of (by omega) srw) sroot fun z H8 hz e8 hmap => ?_
        have S8 := S7.ex e8
        walk_at "rd"
        refine n_eqM hmap (mp S8) fun H9 e9 => ?_
        refine ⟨_, rfl, ?_⟩
        have S9 := S8.ex e9
        rw [decide_eq_true rfl]
        walk_at "rd"
        refine rd_image Z (mp S9) fun im9 him9 => ?_
        refine n_eqMT Z (mp S9) him9 fun H10 e10 => ?_
        refine ⟨_, rfl, ?_⟩
        walk_at "rd"
        exact ⟨_, _, _, _, _, rfl, S9.ex e10, ((e8.trans e9).trans e10) _ _ k7'⟩
      · rintro σ' H1 ⟨_, _, _, _, _, rfl, _, _⟩
        walk_at "rd"
        exact kont _
end
end Fm
set_option Elab.async false
set_option linter.all false
set_option maxRecDepth 100000
set_option maxHeartbeats 4000000
/-! Horner sums under an operator, over any ring that numbers map to. -/
namespace Fm
structure Red {R : Type} [Lean.Grind.CommRing R] (p : Int) (φ : Int → R) : Prop where
  add : ∀ a b, φ (a + b) = φ a + φ b
  mul : ∀ a b, φ (a * b) = φ a * φ b
  mod : ∀ a, φ (a % p) = φ a
  one : φ 1 = 1
  inj : ∀ a b, 0 ≤ a → a < p → 0 ≤ b → b < p → φ a = φ b → a = b
section
variable {R : Type} [Lean.Grind.CommRing R] {p : Int} {φ : Int → R}
theorem Red.zero (h : Red p φ) : φ 0 = 0 := by
  have := h.add 0 0
  rw [Int.add_zero] at this
  grind
theorem Red.sub (h : Red p φ) (a b : Int) : φ (a - b) = φ a - φ b := by
  have := h.add (a - b) b
  rw [Int.sub_add_cancel] at this
  grind
def va (u v : Nat → R) : Nat → R := fun j => u j + v j
def vs (c : R) (u : Nat → R) : Nat → R := fun j => c * u j
def v0 : Nat → R := fun _ => 0
structure Lin (T : (Nat → R) → (Nat → R)) : Prop where
  add : ∀ u v, T (va u v) = va (T u) (T v)
  sm : ∀ c u, T (vs c u) = vs c (T u)
theorem vs_zero (u : Nat → R) : vs 0 u = v0 := funext fun j => by show (0 : R) * u j = 0; grind
theorem vs_v0 (c : R) : vs c (v0 : Nat → R) = v0 := funext fun j => by show c * (0 : R) = 0; grind
theorem va_v0 (u : Nat → R) : va u v0 = u := funext fun j => by show u j + (0 : R) = u j; grind
theorem v0_va (u : Nat → R) : va v0 u = u := funext fun j => by show (0 : R) + u j = u j; grind
theorem Lin.zero {T : (Nat → R) → (Nat → R)} (h : Lin T) : T v0 = v0 := by
  have := h.sm 0 v0
  rw [vs_zero, vs_zero] at this
  exact this
def Hn (φ : Int → R) (T : (Nat → R) → (Nat → R)) : List Int → (Nat → R) → (Nat → R)
  | [], _ => v0
  | c :: xs, w => va (vs (φ c) w) (T (Hn φ T xs w))
def Tk (T : (Nat → R) → (Nat → R)) : Nat → (Nat → R) → (Nat → R)
  | 0, w => w
  | k + 1, w => T (Tk T k w)
variable {T U : (Nat → R) → (Nat → R)}
theorem Tk_lin (h : Lin T) : ∀ k, Lin (Tk T k)
  | 0 => ⟨fun _ _ => rfl, fun _ _ => rfl⟩
  | k + 1 => ⟨fun u v => by show T (Tk T k _) = _; rw [(Tk_lin h k).add, h.add]; rfl, fun c u => by show T (Tk T k _) = _; rw [(Tk_lin h k).sm, h.sm]; rfl⟩
theorem va_sm (c : R) (u v : Nat → R) : vs c (va u v) = va (vs c u) (vs c v) := funext fun j => by show c * (u j + v j) = c * u j + c * v j; grind
theorem vs_vs (c d : R) (u : Nat → R) : vs c (vs d u) = vs (c * d) u := funext fun j => by show c * (d * u j) = c * d * u j; grind
theorem vs_add (c d : R) (u : Nat → R) : vs (c + d) u = va (vs c u) (vs d u) := funext fun j => by show (c + d) * u j = c * u j + d * u j; grind
theorem va4 (a b c d : Nat → R) : va (va a b) (va c d) = va (va a c) (va b d) := funext fun j => by show a j + b j + (c j + d j) = a j + c j + (b j + d j); grind
theorem va_assoc (a b c : Nat → R) : va (va a b) c = va a (va b c) := funext fun j => by show a j + b j + c j = a j + (b j + c j); grind
theorem vs_comm (c d : R) (u : Nat → R) : vs c (vs d u) = vs d (vs c u) := funext fun j => by show c * (d * u j) = d * (c * u j); grind
theorem Hn_lin (h : Lin T) : ∀ xs, Lin (Hn φ T xs)
  | [] => ⟨fun _ _ => (va_v0 v0).symm, fun c _ => (vs_v0 c).symm⟩
  | x :: xs => ⟨fun u v => by
      show va (vs (φ x) (va u v)) (T (Hn φ T xs (va u v))) = va (va (vs (φ x) u) (T (Hn φ T xs u))) (va (vs (φ x) v) (T (Hn φ T xs v)))
      rw [(Hn_lin h xs).add, h.add, va_sm, va4], fun c u => by
      show va (vs (φ x) (vs c u)) (T (Hn φ T xs (vs c u))) = vs c (va (vs (φ x) u) (T (Hn φ T xs u)))
      rw [(Hn_lin h xs).sm, h.sm, va_sm, vs_comm]⟩
theorem Hn_comm1 (hU : Lin U) (hc : ∀ w, T (U w) = U (T w)) : ∀ xs w, Hn φ T xs (U w) = U (Hn φ T xs w)
  | [], w => hU.zero.symm
  | x :: xs, w => by
    show va (vs (φ x) (U w)) (T (Hn φ T xs (U w))) = U (va (vs (φ x) w) (T (Hn φ T xs w)))
    rw [Hn_comm1 hU hc xs, hU.add, hU.sm, hc]
theorem Hn_comm (hT : Lin T) (hU : Lin U) (hc : ∀ w, T (U w) = U (T w)) (xs ys : List Int) (w : Nat → R) : Hn φ T xs (Hn φ U ys w) = Hn φ U ys (Hn φ T xs w) :=
  Hn_comm1 (Hn_lin hU ys) (fun w => (Hn_comm1 hT (fun w => (hc w).symm) ys w).symm) xs w
theorem Tk_T (k : Nat) (w : Nat → R) : Tk T k (T w) = T (Tk T k w) := by
  induction k with
  | zero => rfl
  | succ k ih => show T (Tk T k (T w)) = T (T (Tk T k w)); rw [ih]
theorem Hn_app (hT : Lin T) : ∀ (xs ys : List Int) (w : Nat → R), Hn φ T (xs ++ ys) w = va (Hn φ T xs w) (Tk T xs.length (Hn φ T ys w))
  | [], ys, w => (v0_va _).symm
  | x :: xs, ys, w => by
    show va (vs (φ x) w) (T (Hn φ T (xs ++ ys) w)) = va (va (vs (φ x) w) (T (Hn φ T xs w))) (T (Tk T xs.length (Hn φ T ys w)))
    rw [Hn_app hT xs ys w, hT.add, va_assoc]
theorem Hn_zeros (hR : Red p φ) (hT : Lin T) (w : Nat → R) : ∀ xs : List Int, (∀ x ∈ xs, φ x = 0) → Hn φ T xs w = v0
  | [], _ => rfl
  | x :: xs, h => by
    show va (vs (φ x) w) (T (Hn φ T xs w)) = v0
    rw [Hn_zeros hR hT w xs (fun y hy => h y (List.mem_cons_of_mem _ hy)), hT.zero, h x (List.mem_cons_self ..), vs_zero, va_v0]
theorem Hn_tail (hR : Red p φ) (hT : Lin T) (w : Nat → R) (xs ys : List Int) (h : ∀ y ∈ ys, φ y = 0) : Hn φ T (xs ++ ys) w = Hn φ T xs w := by
  rw [Hn_app hT, Hn_zeros hR hT w ys h, (Tk_lin hT _).zero, va_v0]
theorem Hn_cong : ∀ (xs ys : List Int) (w : Nat → R), xs.length = ys.length → (∀ i, φ (xs.getD i 0) = φ (ys.getD i 0)) → Hn φ T xs w = Hn φ T ys w
  | [], [], _, _, _ => rfl
  | x :: xs, y :: ys, w, hl, h => by
    show va (vs (φ x) w) (T (Hn φ T xs w)) = va (vs (φ y) w) (T (Hn φ T ys w))
    rw [show φ x = φ y from h 0, Hn_cong xs ys w (Nat.succ.inj hl) (fun i => h (i + 1))]
theorem Hn_set (hR : Red p φ) (hT : Lin T) (w : Nat → R) : ∀ (o : List Int) (k : Nat) (y : Int), k < o.length → Hn φ T (o.set k y) w = va (Hn φ T o w) (vs (φ y - φ (o.getD k 0)) (Tk T k w))
  | x :: o, 0, y, _ => by
    show va (vs (φ y) w) (T (Hn φ T o w)) = va (va (vs (φ x) w) (T (Hn φ T o w))) (vs (φ y - φ x) w)
    funext j
    show φ y * w j + _ = φ x * w j + T (Hn φ T o w) j + (φ y - φ x) * w j
    grind [va, vs]
  | x :: o, k + 1, y, h => by
    show va (vs (φ x) w) (T (Hn φ T (o.set k y) w)) = va (va (vs (φ x) w) (T (Hn φ T o w))) (vs (φ y - φ (o.getD k 0)) (T (Tk T k w)))
    rw [Hn_set hR hT w o k y (by simpa using h), hT.add, hT.sm, va_assoc]
theorem Tk_add (i k : Nat) (w : Nat → R) : Tk T i (Tk T k w) = Tk T (i + k) w := by
  induction i with
  | zero => rw [Nat.zero_add]; rfl
  | succ i ih => rw [Nat.succ_add]; show T _ = T _; rw [ih]
/-- a loop that adds a multiple of a row, from a place on -/
theorem Hn_loop (hR : Red p φ) (hT : Lin T) (w : Nat → R) (g : Nat → Int → Int) (i : Nat) (b : List Int) (c : R) (hg : ∀ k y, φ (g k y) = φ y + c * φ (b.getD k 0)) (o : List Int) (hl : i + b.length ≤ o.length) :
    ∀ K, K ≤ b.length → Hn φ T (loopN K (fun k o => o.set (i + k) (g k (o.getD (i + k) 0))) o) w = va (Hn φ T o w) (vs c (Tk T i (Hn φ T (b.take K) w)))
  | 0, _ => by
    show Hn φ T o w = va (Hn φ T o w) (vs c (Tk T i v0))
    rw [(Tk_lin hT i).zero, vs_v0, va_v0]
  | K + 1, hK => by
    have e : (loopN K (fun k (o : List Int) => o.set (i + k) (g k (o.getD (i + k) 0))) o).length = o.length := loopN_length (fun _ _ => by simp) _
    rw [loopN_succ, Hn_set hR hT w _ _ _ (by rw [e]; omega), hg, Hn_loop hR hT w g i b c hg o hl K (by omega)]
    have t : b.take (K + 1) = b.take K ++ [b.getD K 0] := by
      rw [List.take_succ, List.getD_eq_getElem?_getD, List.getElem?_eq_getElem (by omega)]
      rfl
    have n1 : Hn φ T [b.getD K 0] w = vs (φ (b.getD K 0)) w := by
      show va (vs _ w) (T v0) = _
      rw [hT.zero, va_v0]
    have z : (b.take K).length = K := by rw [List.length_take]; omega
    have tt := Tk_add (T := T) i K w
    rw [t, Hn_app hT, n1, z, (Tk_lin hT K).sm, (Tk_lin hT i).add, (Tk_lin hT i).sm, tt, va_sm, va_assoc]
    congr 2
    rw [vs_vs]
    congr 1
    grind
end
end Fm
set_option Elab.async false
set_option linter.all false
set_option maxRecDepth 100000
set_option maxHeartbeats 4000000
/-! What the rows' own operations do to Horner sums. -/
namespace Fm
section
variable {R : Type} [Lean.Grind.CommRing R] {p : Int} {φ : Int → R} {T U : (Nat → R) → (Nat → R)}
theorem strip_tail : ∀ (l : Nat) (xs : List Int), xs.length = l → ∃ zs : List Int, xs = strip xs ++ zs ∧ ∀ z ∈ zs, z = 0
  | 0, xs, hl => by
    rw [List.length_eq_zero_iff.mp hl]
    exact ⟨[], rfl, fun z h => nomatch h⟩
  | l + 1, xs, hl => by
    have hne : xs ≠ [] := by
      intro q
      rw [q] at hl
      cases hl
    have e := (List.dropLast_concat_getLast hne).symm
    by_cases hz : xs.getLast hne = 0
    · obtain ⟨zs, h1, h2⟩ := strip_tail l xs.dropLast (by rw [List.length_dropLast]; omega)
      have e2 : strip xs = strip xs.dropLast := by
        rw [e, hz, strip_zero]
        simp
      refine ⟨zs ++ [0], ?_, fun z hz => ?_⟩
      · rw [e2, ← List.append_assoc, ← h1, ← hz]
        exact e
      · rcases List.mem_append.mp hz with q | q
        · exact h2 z q
        · exact List.mem_singleton.mp q
    · refine ⟨[], ?_, fun z h => nomatch h⟩
      have := strip_last xs.dropLast _ hz
      rw [← e] at this
      rw [List.append_nil, this]
theorem Hn_strip (hR : Red p φ) (hT : Lin T) (w : Nat → R) (xs : List Int) : Hn φ T (strip xs) w = Hn φ T xs w := by
  obtain ⟨zs, h1, h2⟩ := strip_tail _ xs rfl
  have := Hn_tail hR hT w (strip xs) zs (fun y hy => by rw [h2 y hy]; exact hR.zero)
  rw [← h1] at this
  exact this.symm
theorem Hn_mod (hR : Red p φ) (xs : List Int) (w : Nat → R) : Hn φ T (xs.map (· % p)) w = Hn φ T xs w := by
  induction xs with
  | nil => rfl
  | cons x xs ih =>
    show va (vs (φ (x % p)) w) (T (Hn φ T (xs.map (· % p)) w)) = va (vs (φ x) w) (T (Hn φ T xs w))
    rw [ih, hR.mod]
theorem Hn_trim (hR : Red p φ) (hT : Lin T) (w : Nat → R) (xs : List Int) : Hn φ T (trim p xs) w = Hn φ T xs w := by
  unfold trim
  rw [Hn_strip hR hT, Hn_mod hR]
theorem Hn_pad (hR : Red p φ) (hT : Lin T) (w : Nat → R) (xs : List Int) (n : Int) : Hn φ T (padR xs n) w = Hn φ T xs w :=
  Hn_tail hR hT w xs _ (fun y hy => by rw [List.eq_of_mem_replicate hy]; exact hR.zero)
theorem Hn_conv (hR : Red p φ) (hT : Lin T) (w : Nat → R) (a b : List Int) : Hn φ T (conv a b) w = Hn φ T a (Hn φ T b w) := by
  have key : ∀ I, I ≤ a.length → Hn φ T (loopN I (convIn a b) (List.replicate (a.length + b.length) 0)) w = Hn φ T (a.take I) (Hn φ T b w) := by
    intro I
    induction I with
    | zero => exact fun _ => Hn_zeros hR hT w _ (fun y hy => by rw [List.eq_of_mem_replicate hy]; exact hR.zero)
    | succ I ih =>
      intro hI
      have l : (loopN I (convIn a b) (List.replicate (a.length + b.length) 0)).length = a.length + b.length := by
        rw [loopN_length (convIn_length a b), List.length_replicate]
      have q := Hn_loop hR hT w (fun k y => y + a.getD I 0 * b.getD k 0) I b (φ (a.getD I 0)) (fun k y => by rw [hR.add, hR.mul]) (loopN I (convIn a b) (List.replicate (a.length + b.length) 0)) (by omega) b.length (Nat.le_refl _)
      rw [List.take_length, ih (by omega)] at q
      have t : a.take (I + 1) = a.take I ++ [a.getD I 0] := by
        rw [List.take_succ, List.getD_eq_getElem?_getD, List.getElem?_eq_getElem (by omega)]
        rfl
      have n1 : Hn φ T [a.getD I 0] (Hn φ T b w) = vs (φ (a.getD I 0)) (Hn φ T b w) := by
        show va (vs _ _) (T v0) = _
        rw [hT.zero, va_v0]
      have z : (a.take I).length = I := by rw [List.length_take]; omega
      rw [t, Hn_app hT, n1, z, (Tk_lin hT I).sm]
      exact q
  have := key a.length (Nat.le_refl _)
  rw [List.take_length] at this
  exact this
theorem Hn_mulR (hR : Red p φ) (hT : Lin T) (w : Nat → R) (a b : List Int) : Hn φ T (mulR a b p) w = Hn φ T a (Hn φ T b w) := by
  unfold mulR
  rw [Hn_trim hR hT, Hn_conv hR hT]
theorem Hn_divIn (hR : Red p φ) (hT : Lin T) (w : Nat → R) (b : List Int) (fac : Int) (k : Nat) (r : List Int) (hl : k + b.length ≤ r.length) (hb : Hn φ T b w = v0) : Hn φ T (divIn b p fac k r) w = Hn φ T r w := by
  have q := Hn_loop hR hT w (fun i y => (y - fac * b.getD i 0) % p) k b (- φ fac) (fun i y => by rw [hR.mod, hR.sub, hR.mul]; grind) r hl b.length (Nat.le_refl _)
  rw [List.take_length, hb, (Tk_lin hT k).zero, vs_v0, va_v0] at q
  exact q
theorem Hn_redIn (hR : Red p φ) (hT : Lin T) (w : Nat → R) (b : List Int) (fac : Int) (k : Nat) (r : List Int) (hl : k + b.length ≤ r.length) (hb : Hn φ T b w = v0) : Hn φ T (redIn b fac k r) w = Hn φ T r w := by
  have q := Hn_loop hR hT w (fun i y => y - fac * b.getD i 0) k b (- φ fac) (fun i y => by rw [hR.sub, hR.mul]; grind) r hl b.length (Nat.le_refl _)
  rw [List.take_length, hb, (Tk_lin hT k).zero, vs_v0, va_v0] at q
  exact q
theorem Hn_divL (hR : Red p φ) (hT : Lin T) (w : Nat → R) (a b : List Int) (last : Int) (hb0 : 0 < b.length) (hb : Hn φ T b w = v0) : ∀ t, t ≤ divQ a b → Hn φ T (divL a b p last t).2 w = Hn φ T a w
  | 0, _ => rfl
  | t + 1, ht => by
    have ih := Hn_divL hR hT w a b last hb0 hb t (by omega)
    have hq : divQ a b = a.length + 1 - b.length := rfl
    have hl := (divL_length a b p last t).2
    show Hn φ T (divIn b p _ (divQ a b - 1 - t) (divL a b p last t).2) w = _
    rw [Hn_divIn hR hT w b _ _ _ (by omega) hb, ih]
theorem Hn_remM (hR : Red p φ) (hT : Lin T) (w : Nat → R) (a m : List Int) (hm0 : 0 < m.length) (hm : Hn φ T m w = v0) : Hn φ T (remM a m p) w = Hn φ T a w := by
  unfold remM divR
  rw [Hn_trim hR hT, Hn_divL hR hT w a m 1 hm0 hm _ (Nat.le_refl _)]
theorem Hn_prodP (hR : Red p φ) (hT : Lin T) (w : Nat → R) (a b m : List Int) (hm0 : 0 < m.length) (hm : Hn φ T m w = v0) : Hn φ T (prodP a b m p) w = Hn φ T a (Hn φ T b w) := by
  unfold prodP
  rw [Hn_pad hR hT, Hn_remM hR hT w _ m hm0 hm, Hn_mulR hR hT, Hn_trim hR hT, Hn_trim hR hT]
theorem Hn_sumP (hR : Red p φ) (hT : Lin T) (w : Nat → R) : ∀ (a b : List Int), a.length = b.length → Hn φ T (sumP a b p) w = va (Hn φ T a w) (Hn φ T b w)
  | [], [], _ => (va_v0 v0).symm
  | x :: a, y :: b, h => by
    show va (vs (φ ((x + y) % p)) w) (T (Hn φ T (sumP a b p) w)) = va (va (vs (φ x) w) (T (Hn φ T a w))) (va (vs (φ y) w) (T (Hn φ T b w)))
    rw [Hn_sumP hR hT w a b (by simpa using h), hR.mod, hR.add, hT.add, vs_add, va4]
/-! the law's own product: the upper half falls away -/
theorem redA_top (m : List Int) (n : Nat) (o : List Int) (hm : m.length = n + 1) (h1 : m.getD n 0 = 1) (ho : o.length = 2 * n) : ∀ t, t ≤ n → ∀ j, 2 * n ≤ j + t → (redA m n o t).getD j 0 = 0
  | 0, _, j, hj => getD_ge (by show o.length ≤ j; omega)
  | t + 1, ht, j, hj => by
    have ih := redA_top m n o hm h1 ho t (by omega)
    have hl := redA_length m n o t
    rw [redA_succ]
    unfold redT redIn
    rw [loopSet (fun i y => y - (redA m n o t).getD (2 * n - 1 - t) 0 * m.getD i 0) (n - 1 - t)]
    by_cases hj2 : j = 2 * n - 1 - t
    · rw [if_pos (by omega), show j - (n - 1 - t) = n by omega, h1, hj2]
      omega
    · rw [if_neg (by omega)]
      exact ih j (by omega)
theorem Hn_redA (hR : Red p φ) (hT : Lin T) (w : Nat → R) (m : List Int) (n : Nat) (o : List Int) (hm : m.length = n + 1) (ho : o.length = 2 * n) (hz : Hn φ T m w = v0) : ∀ t, t ≤ n → Hn φ T (redA m n o t) w = Hn φ T o w
  | 0, _ => rfl
  | t + 1, ht => by
    have hl := redA_length m n o t
    rw [redA_succ]
    unfold redT
    rw [Hn_redIn hR hT w m _ _ _ (by omega) hz]
    exact Hn_redA hR hT w m n o hm ho hz t (by omega)
theorem Hn_timesL (hR : Red p φ) (hT : Lin T) (w : Nat → R) (m a b : List Int) (n : Nat) (hm : m.length = n + 1) (h1 : m.getD n 0 = 1) (ha : a.length = n) (hb : b.length = n) (hz : Hn φ T m w = v0) : Hn φ T (timesL m p a b) w = Hn φ T a (Hn φ T b w) := by
  unfold timesL
  rw [show m.length - 1 = n by omega, Hn_mod hR]
  have hc : (conv a b).length = 2 * n := by rw [conv_length]; omega
  have hl := redA_length m n (conv a b) n
  have q := Hn_tail hR hT w ((redA m n (conv a b) n).take n) ((redA m n (conv a b) n).drop n) (fun y hy => by
    obtain ⟨i, hi, rfl⟩ := List.getElem_of_mem hy
    have z := redA_top m n (conv a b) hm h1 hc n (Nat.le_refl _) (n + i) (by omega)
    rw [List.length_drop] at hi
    rw [List.getD_eq_getElem?_getD, List.getElem?_eq_getElem (by omega)] at z
    rw [List.getElem_drop]
    rw [show (redA m n (conv a b) n)[n + i] = 0 from z]
    exact hR.zero)
  rw [List.take_append_drop] at q
  rw [← q, Hn_redA hR hT w m n _ hm hc hz n (Nat.le_refl _), Hn_conv hR hT]
/-! the shift of a modulus -/
def vec (φ : Int → R) (xs : List Int) : Nat → R := fun j => φ (xs.getD j 0)
def e0 : Nat → R := fun j => if j = 0 then 1 else 0
def Sh (φ : Int → R) (n : Nat) (m : List Int) (v : Nat → R) : Nat → R := fun j => (if j = 0 then 0 else v (j - 1)) - v (n - 1) * φ (m.getD j 0)
theorem Sh_lin (n : Nat) (m : List Int) : Lin (Sh φ n m) := ⟨fun u v => funext fun j => by
    show (if j = 0 then 0 else u (j - 1) + v (j - 1)) - (u (n - 1) + v (n - 1)) * φ (m.getD j 0) = (if j = 0 then 0 else u (j - 1)) - u (n - 1) * φ (m.getD j 0) + ((if j = 0 then 0 else v (j - 1)) - v (n - 1) * φ (m.getD j 0))
    by_cases h : j = 0
    · rw [if_pos h, if_pos h, if_pos h]; grind
    · rw [if_neg h, if_neg h, if_neg h]; grind, fun c u => funext fun j => by
    show (if j = 0 then 0 else c * u (j - 1)) - (c * u (n - 1)) * φ (m.getD j 0) = c * ((if j = 0 then 0 else u (j - 1)) - u (n - 1) * φ (m.getD j 0))
    by_cases h : j = 0
    · rw [if_pos h, if_pos h]; grind
    · rw [if_neg h, if_neg h]; grind⟩
theorem vec_cons (hR : Red p φ) (c : Int) (xs : List Int) (j : Nat) : vec φ (c :: xs) j = φ c * e0 j + (if j = 0 then 0 else vec φ xs (j - 1)) := by
  cases j with
  | zero => show φ c = φ c * 1 + 0; grind
  | succ j => show φ (xs.getD j 0) = φ c * 0 + φ (xs.getD j 0); grind
theorem Hn_vec (hR : Red p φ) (n : Nat) (m : List Int) : ∀ xs : List Int, xs.length ≤ n → Hn φ (Sh φ n m) xs e0 = vec φ xs
  | [], _ => funext fun j => hR.zero.symm
  | c :: xs, h => by
    have h' : xs.length + 1 ≤ n := h
    funext j
    show φ c * e0 j + Sh φ n m (Hn φ (Sh φ n m) xs e0) j = vec φ (c :: xs) j
    rw [Hn_vec hR n m xs (by omega), vec_cons hR]
    have z : vec φ xs (n - 1) = 0 := by
      show φ (xs.getD (n - 1) 0) = 0
      rw [getD_ge (by omega)]
      exact hR.zero
    show _ + ((if j = 0 then 0 else vec φ xs (j - 1)) - vec φ xs (n - 1) * φ (m.getD j 0)) = _
    rw [z]
    grind
theorem cayley (hR : Red p φ) (n : Nat) (m : List Int) (hn : 0 < n) (hm : m.length = n + 1) (h1 : m.getD n 0 = 1) : Hn φ (Sh φ n m) m e0 = v0 := by
  match m, hm with
  | c :: low, hm =>
    have hl : low.length = n := by simpa using hm
    funext j
    show φ c * e0 j + Sh φ n (c :: low) (Hn φ (Sh φ n (c :: low)) low e0) j = 0
    rw [Hn_vec hR n _ low (by omega)]
    have z : vec φ low (n - 1) = 1 := by
      show φ (low.getD (n - 1) 0) = 1
      have : (c :: low).getD n 0 = low.getD (n - 1) 0 := by
        obtain ⟨k, rfl⟩ : ∃ k, n = k + 1 := ⟨n - 1, by omega⟩
        rfl
      rw [← this, h1]
      exact hR.one
    show _ + ((if j = 0 then 0 else vec φ low (j - 1)) - vec φ low (n - 1) * vec φ (c :: low) j) = 0
    rw [z, vec_cons hR]
    grind
theorem vec_eq (hR : Red p φ) {xs ys : List Int} (h : vec φ xs = vec φ ys) (hl : xs.length = ys.length) (hx : Rw p xs) (hy : Rw p ys) : xs = ys := by
  refine List.ext_getElem hl fun i h1 h2 => ?_
  have q : φ (xs.getD i 0) = φ (ys.getD i 0) := congrFun h i
  rw [List.getD_eq_getElem?_getD, List.getD_eq_getElem?_getD, List.getElem?_eq_getElem h1, List.getElem?_eq_getElem h2] at q
  have a := hx _ (List.getElem_mem h1)
  have b := hy _ (List.getElem_mem h2)
  exact hR.inj _ _ a.1 a.2 b.1 b.2 q
end
end Fm
set_option Elab.async false
set_option linter.all false
set_option maxRecDepth 100000
set_option maxHeartbeats 4000000
/-! The laws of values, for any ring that the numbers map to. -/
namespace Fm
theorem lowL_zero (p : Int) : ∀ n, lowL p n 0 = List.replicate n 0
  | 0 => rfl
  | n + 1 => by
    show (0 : Int) % p :: lowL p n (0 / p) = 0 :: List.replicate n 0
    rw [Int.zero_emod, Int.zero_ediv, lowL_zero p n]
theorem lowL_one {p c : Int} (hp : 0 < p) {n : Nat} (hn : 1 ≤ n) : lowL p n (c % p) = padR [c % p] (n : Int) := by
  obtain ⟨k, rfl⟩ : ∃ k, n = k + 1 := ⟨n - 1, by omega⟩
  show c % p % p :: lowL p k (c % p / p) = c % p :: List.replicate _ 0
  rw [Int.emod_emod, Int.ediv_eq_zero_of_lt (Int.emod_nonneg _ (by omega)) (Int.emod_lt_of_pos _ hp), lowL_zero]
  congr 2
  simp
theorem prodP_rw {a b m : List Int} {p : Int} (hp : 0 < p) : Rw p (prodP a b m p) := padR_rw hp (trim_rw hp _)
theorem timesL_rw {a b m : List Int} {p : Int} (hp : 0 < p) : Rw p (timesL m p a b) := fun x hx => by
  unfold timesL at hx
  obtain ⟨y, _, rfl⟩ := List.mem_map.mp hx
  exact ⟨Int.emod_nonneg _ (by omega), Int.emod_lt_of_pos _ hp⟩
section
variable {R : Type} [Lean.Grind.CommRing R] {p : Int} {φ : Int → R} {g s f : List Int}
theorem times_prod (hR : Red p φ) (M : Mon g p) {a b : List Int} (ha : a.length = g.length - 1) (hb : b.length = g.length - 1) : timesL g p a b = prodP a b g p := by
  have h2 := M.len
  have hp : 0 < p := by have := M.p1; omega
  have hz := cayley hR (g.length - 1) g (by omega) (by omega) M.last
  have l1 := timesL_length (p := p) ha hb
  have l2 := prodP_length (a := a) (b := b) M
  refine vec_eq hR ?_ (by rw [l1, l2]) (timesL_rw hp) (prodP_rw hp)
  rw [← Hn_vec hR (g.length - 1) g _ (by omega), ← Hn_vec hR (g.length - 1) g _ (by omega), Hn_timesL hR (Sh_lin _ _) e0 g a b (g.length - 1) (by omega) M.last ha hb hz, Hn_prodP hR (Sh_lin _ _) e0 a b g (by omega) hz]
theorem step_eq (hR : Red p φ) (M : Mon g p) {t : List Int} {c : Int} (hs : s.length = g.length - 1) (ht : t.length = g.length - 1) : stepL s g p t c = stepP s g p t c := by
  have h2 := M.len
  have hp : 0 < p := by have := M.p1; omega
  unfold stepL stepP
  rw [times_prod hR M ht hs, lowL_one hp (by omega), show ((g.length - 1 : Nat) : Int) = (g.length : Int) - 1 by omega]
theorem fold_eq (hR : Red p φ) (M : Mon g p) (hs : s.length = g.length - 1) : ∀ (xs t : List Int), t.length = g.length - 1 → xs.foldl (stepL s g p) t = xs.foldl (stepP s g p) t
  | [], _, _ => rfl
  | c :: xs, t, ht => by
    have hp : 0 < p := by have := M.p1; omega
    show xs.foldl _ (stepL s g p t c) = xs.foldl _ (stepP s g p t c)
    rw [fold_eq hR M hs xs _ (stepL_ok hp hs ht).1, step_eq hR M hs ht]
theorem val_eq (hR : Red p φ) (M : Mon g p) (hs : s.length = g.length - 1) (xs : List Int) : valL s g p xs = valP s g p xs := by
  have h2 := M.len
  unfold valL valP
  have e : lowL p (g.length - 1) 0 = zeroP g := by
    rw [lowL_zero]
    unfold zeroP padR
    rw [show ((g.length : Int) - 1 - (([0] : List Int).length : Int)).toNat = g.length - 2 by simp; omega, show g.length - 1 = (g.length - 2) + 1 by omega, List.replicate_succ]
    rfl
  rw [fold_eq hR M hs _ _ (lowL_length _ _ _), e]
theorem valP_cons (s g : List Int) (p c : Int) (xs : List Int) : valP s g p (c :: xs) = stepP s g p (valP s g p xs) c := by
  unfold valP
  rw [List.reverse_cons, List.foldl_append]
  rfl
theorem va_comm (u v : Nat → R) : va u v = va v u := funext fun j => by show u j + v j = v j + u j; grind
theorem vec_zeroP (hR : Red p φ) (g : List Int) : vec φ (zeroP g) = v0 := funext fun j => by
  show φ ((zeroP g).getD j 0) = 0
  have : (zeroP g).getD j 0 = 0 := by
    by_cases h : j < (zeroP g).length
    · rw [List.getD_eq_getElem?_getD, List.getElem?_eq_getElem h]
      have q := List.getElem_mem h
      generalize (zeroP g)[j] = y at q
      unfold zeroP padR at q
      rcases List.mem_append.mp q with q | q
      · exact List.mem_singleton.mp q
      · exact List.eq_of_mem_replicate q
    · exact getD_ge (by omega)
  rw [this]
  exact hR.zero
/-- the value is the Horner sum under multiplication by s -/
theorem vec_val (hR : Red p φ) (M : Mon g p) (hs : s.length = g.length - 1) : ∀ xs, vec φ (valP s g p xs) = Hn φ (Hn φ (Sh φ (g.length - 1) g) s) xs e0
  | [] => vec_zeroP hR g
  | c :: xs => by
    have h2 := M.len
    have hz := cayley hR (g.length - 1) g (by omega) (by omega) M.last
    have L := Sh_lin (φ := φ) (g.length - 1) g
    have ih := vec_val hR M hs xs
    have lv := valP_len (s := s) (xs := xs) M
    have l2 := prodP_length (a := valP s g p xs) (b := s) M
    have l3 : (padR [c % p] ((g.length : Int) - 1)).length = g.length - 1 := by
      have := padR_length [c % p] ((g.length : Int) - 1) (by simp; omega)
      omega
    show vec φ (valP s g p (c :: xs)) = va (vs (φ c) e0) (Hn φ (Sh φ (g.length - 1) g) s (Hn φ (Hn φ (Sh φ (g.length - 1) g) s) xs e0))
    rw [valP_cons, ← ih, ← Hn_vec hR (g.length - 1) g (stepP s g p (valP s g p xs) c) (by unfold stepP; rw [sumP_length (by omega), l2]; omega)]
    unfold stepP
    rw [Hn_sumP hR L e0 _ _ (by omega), Hn_prodP hR L e0 _ _ g (by omega) hz, Hn_pad hR L, Hn_comm L L (fun _ => rfl), ← Hn_vec hR (g.length - 1) g (valP s g p xs) (by omega), va_comm]
    congr 1
    show va (vs (φ (c % p)) e0) (Sh φ (g.length - 1) g v0) = _
    rw [L.zero, va_v0, hR.mod]
theorem vec_sum (hR : Red p φ) {a b : List Int} (h : a.length = b.length) : vec φ (sumP a b p) = va (vec φ a) (vec φ b) := by
  rw [← Hn_vec hR a.length [] _ (by rw [sumP_length h]; exact Nat.le_refl _), ← Hn_vec hR a.length [] a (Nat.le_refl _), ← Hn_vec hR a.length [] b (by omega), Hn_sumP hR (Sh_lin _ _) _ _ _ h]
theorem val_add (hR : Red p φ) (M : Mon g p) (hs : s.length = g.length - 1) {x y : List Int} (h : x.length = y.length) : valP s g p (sumP x y p) = sumP (valP s g p x) (valP s g p y) p := by
  have hp : 0 < p := by have := M.p1; omega
  have l1 := valP_len (s := s) (xs := x) M
  have l2 := valP_len (s := s) (xs := y) M
  have l3 := valP_len (s := s) (xs := sumP x y p) M
  refine vec_eq hR ?_ (by rw [sumP_length (by omega)]; omega) (valP_rw hp) (sumP_rw hp _ _)
  rw [vec_sum hR (by omega), vec_val hR M hs, vec_val hR M hs, vec_val hR M hs, Hn_sumP hR (Hn_lin (Sh_lin _ _) _) _ _ _ h]
theorem val_mul (hR : Red p φ) (F : Mon f p) (M : Mon g p) (hs : s.length = g.length - 1) (hf : valP s g p f = zeroP g) {x y : List Int} (hx : x.length = f.length - 1) (hy : y.length = f.length - 1) : valP s g p (timesL f p x y) = timesL g p (valP s g p x) (valP s g p y) := by
  have hp : 0 < p := by have := M.p1; omega
  have h2 := M.len
  have f2 := F.len
  have l1 := valP_len (s := s) (xs := x) M
  have l2 := valP_len (s := s) (xs := y) M
  have l3 := valP_len (s := s) (xs := timesL f p x y) M
  have l4 := timesL_length (p := p) l1 l2
  have hz := cayley hR (g.length - 1) g (by omega) (by omega) M.last
  have L := Sh_lin (φ := φ) (g.length - 1) g
  have L2 := Hn_lin (φ := φ) L s
  have cm : ∀ w, Hn φ (Sh φ (g.length - 1) g) s (Sh φ (g.length - 1) g w) = Sh φ (g.length - 1) g (Hn φ (Sh φ (g.length - 1) g) s w) := fun w => Hn_comm1 L (fun _ => rfl) s w
  have hr : Hn φ (Hn φ (Sh φ (g.length - 1) g) s) f e0 = v0 := by rw [← vec_val hR M hs, hf, vec_zeroP hR]
  have key : ∀ (a u : List Int), u.length = g.length - 1 → Hn φ (Hn φ (Sh φ (g.length - 1) g) s) a (vec φ u) = Hn φ (Sh φ (g.length - 1) g) (valP s g p a) (vec φ u) := fun a u hu => by
    have la := valP_len (s := s) (xs := a) M
    rw [← Hn_vec hR (g.length - 1) g u (by omega), Hn_comm L2 L cm, ← vec_val hR M hs, ← Hn_vec hR (g.length - 1) g (valP s g p a) (by omega), Hn_comm L L (fun _ => rfl)]
  refine vec_eq hR ?_ (by omega) (valP_rw hp) (timesL_rw hp)
  rw [vec_val hR M hs, Hn_timesL hR L2 e0 f x y (f.length - 1) (by omega) F.last hx hy hr, ← vec_val hR M hs, key x _ l2,
    ← Hn_vec hR (g.length - 1) g (timesL g p (valP s g p x) (valP s g p y)) (by omega), Hn_timesL hR L e0 g _ _ (g.length - 1) (by omega) M.last l1 l2 hz, Hn_vec hR (g.length - 1) g (valP s g p y) (by omega)]
end
end Fm
set_option Elab.async false
set_option linter.all false
set_option maxRecDepth 100000
set_option maxHeartbeats 4000000
namespace Fm
/-! the ring: the numbers below k + 1 -/
def fi (k : Nat) (a : Int) : Fin (k + 1) := ⟨(a % ((k + 1 : Nat) : Int)).toNat, by
  have h0 := Int.emod_nonneg a (show ((k + 1 : Nat) : Int) ≠ 0 by omega)
  have h1 := Int.emod_lt_of_pos a (show (0 : Int) < ((k + 1 : Nat) : Int) by omega)
  omega⟩
theorem fi_val (k : Nat) (a : Int) : (((fi k a).val : Nat) : Int) = a % ((k + 1 : Nat) : Int) :=
  Int.toNat_of_nonneg (Int.emod_nonneg a (show ((k + 1 : Nat) : Int) ≠ 0 by omega))
theorem fi_red (k : Nat) (hk : 1 ≤ k) : Red (((k + 1 : Nat) : Int)) (fi k) where
  add a b := by
    refine Fin.ext (Int.ofNat.inj ?_)
    show (((fi k (a + b)).val : Nat) : Int) = (((fi k a + fi k b).val : Nat) : Int)
    rw [Fin.val_add, Int.natCast_emod, Int.natCast_add, fi_val, fi_val, fi_val, ← Int.add_emod]
  mul a b := by
    refine Fin.ext (Int.ofNat.inj ?_)
    show (((fi k (a * b)).val : Nat) : Int) = (((fi k a * fi k b).val : Nat) : Int)
    rw [Fin.val_mul, Int.natCast_emod, Int.natCast_mul, fi_val, fi_val, fi_val, ← Int.mul_emod]
  mod a := by
    refine Fin.ext (Int.ofNat.inj ?_)
    show (((fi k _).val : Nat) : Int) = (((fi k a).val : Nat) : Int)
    rw [fi_val, fi_val, Int.emod_emod]
  one := by
    refine Fin.ext (Int.ofNat.inj ?_)
    show (((fi k 1).val : Nat) : Int) = ((((1 : Fin (k + 1))).val : Nat) : Int)
    rw [fi_val, Int.emod_eq_of_lt (by omega) (by omega)]
    obtain ⟨l, rfl⟩ : ∃ l, k = l + 1 := ⟨k - 1, by omega⟩
    rfl
  inj a b a0 a1 b0 b1 h := by
    have q : (((fi k a).val : Nat) : Int) = (((fi k b).val : Nat) : Int) := by rw [h]
    rw [fi_val, fi_val, Int.emod_eq_of_lt a0 a1, Int.emod_eq_of_lt b0 b1] at q
    exact q
/-! members told by their numbers -/
def numL (p : Int) : List Int → Int
  | [] => 0
  | x :: xs => x + p * numL p xs
theorem numL_rw {p : Int} (hp : 0 < p) : ∀ xs, Rw p xs → 0 ≤ numL p xs ∧ numL p xs < p ^ xs.length ∧ lowL p xs.length (numL p xs) = xs
  | [], _ => ⟨Int.le_refl _, by show (0 : Int) < p ^ 0; simp, rfl⟩
  | x :: xs, h => by
    obtain ⟨h1, h2, h3⟩ := numL_rw hp xs (fun y hy => h y (List.mem_cons_of_mem _ hy))
    have hx := h x (List.mem_cons_self ..)
    have e1 : (x + p * numL p xs) % p = x := by rw [Int.add_mul_emod_self_left, Int.emod_eq_of_lt hx.1 hx.2]
    have e2 : (x + p * numL p xs) / p = numL p xs := by rw [Int.add_mul_ediv_left _ _ (by omega), Int.ediv_eq_zero_of_lt hx.1 hx.2, Int.zero_add]
    refine ⟨?_, ?_, ?_⟩
    · show 0 ≤ x + p * numL p xs
      have := Int.mul_nonneg (Int.le_of_lt hp) h1
      omega
    · show x + p * numL p xs < p ^ (xs.length + 1)
      have : p * (numL p xs + 1) ≤ p * p ^ xs.length := Int.mul_le_mul_of_nonneg_left (by omega) (by omega)
      rw [Int.mul_add, Int.mul_one] at this
      rw [Int.pow_succ, Int.mul_comm (p ^ xs.length) p]
      omega
    · show (x + p * numL p xs) % p :: lowL p xs.length ((x + p * numL p xs) / p) = x :: xs
      rw [e1, e2, h3]
theorem sumP_get {a b : List Int} {p : Int} {i : Nat} (h : i < (sumP a b p).length) (ha : i < a.length) (hb : i < b.length) : (sumP a b p)[i] = (a[i] + b[i]) % p := List.getElem_zipWith
theorem neg_get {a : List Int} {p : Int} {i : Nat} (h : i < (a.map fun c => (-c) % p).length) (ha : i < a.length) : (a.map fun c => (-c) % p)[i] = (- a[i]) % p := List.getElem_map ..
/-- a kernel of zero alone makes the value tell members apart -/
theorem val_inj {R : Type} [Lean.Grind.CommRing R] {p : Int} {φ : Int → R} {g s : List Int} {n : Nat} (hR : Red p φ) (M : Mon g p) (hs : s.length = g.length - 1)
    (hk : ∀ z : List Int, z.length = n → Rw p z → valP s g p z = zeroP g → z = List.replicate n 0) {x y : List Int} (hx : x.length = n) (rx : Rw p x) (hy : y.length = n) (ry : Rw p y) (h : valP s g p x = valP s g p y) : x = y := by
  have hp : 0 < p := by have := M.p1; omega
  have h2 := M.len
  have ly : (y.map fun c => (-c) % p).length = n := by rw [List.length_map, hy]
  have lz : (sumP x (y.map fun c => (-c) % p) p).length = n := by rw [sumP_length (by omega)]; exact hx
  have e : sumP (sumP x (y.map fun c => (-c) % p) p) y p = x := by
    refine List.ext_getElem (by rw [sumP_length (by omega)]; omega) fun i h1 h3 => ?_
    have rr := rx _ (List.getElem_mem h3)
    rw [sumP_get h1 (by omega) (by omega), sumP_get (by omega) h3 (by omega), neg_get (by omega) (by omega), Int.emod_add_emod, Int.add_right_comm, Int.add_emod_emod]
    rw [show x[i] + y[i] + -y[i] = x[i] by omega]
    exact Int.emod_eq_of_lt rr.1 rr.2
  have q := val_add hR M hs (x := sumP x (y.map fun c => (-c) % p) p) (y := y) (by omega)
  rw [e, h] at q
  have hz : valP s g p (sumP x (y.map fun c => (-c) % p) p) = zeroP g := by
    have l1 := valP_len (s := s) (xs := sumP x (y.map fun c => (-c) % p) p) M
    have l2 := valP_len (s := s) (xs := y) M
    have l3 := zeroP_length h2
    have rz : Rw p (zeroP g) := padR_rw hp (fun a ha => by rw [List.mem_singleton.mp ha]; omega)
    refine vec_eq hR ?_ (by omega) (valP_rw hp) rz
    have q2 := congrArg (vec φ) q
    rw [vec_sum hR (by omega)] at q2
    rw [vec_zeroP hR]
    funext j
    have q3 : vec φ (valP s g p y) j = vec φ (valP s g p (sumP x (y.map fun c => (-c) % p) p)) j + vec φ (valP s g p y) j := congrFun q2 j
    show _ = (0 : R)
    grind
  have z := hk _ lz (sumP_rw hp _ _) hz
  rw [← e, z]
  refine List.ext_getElem (by rw [sumP_length (by rw [List.length_replicate]; omega), List.length_replicate]; omega) fun i h1 h3 => ?_
  have rr := ry _ (List.getElem_mem h3)
  rw [sumP_get h1 (by rw [List.length_replicate]; omega) h3, List.getElem_replicate, Int.zero_add, Int.emod_eq_of_lt rr.1 rr.2]
end Fm
set_option Elab.async false
set_option linter.all false
set_option maxRecDepth 100000
set_option maxHeartbeats 4000000
/-! Values by powers: a way to reckon them that is quick to look at. -/
namespace Fm
def shf (g : List Int) (p : Int) (v : List Int) : List Int := List.zipWith (fun a b => (a - v.getLastD 0 * b) % p) (0 :: v.dropLast) g
def fm (g : List Int) (p : Int) : List Int → List Int → List Int
  | [], _ => List.replicate (g.length - 1) 0
  | c :: a, b => List.zipWith (fun x y => (c * x + y) % p) b (shf g p (fm g p a b))
def pwN (s g : List Int) (p : Int) : Nat → List Int
  | 0 => 1 :: List.replicate (g.length - 2) 0
  | i + 1 => fm g p s (pwN s g p i)
def evN (s g : List Int) (p : Int) : Nat → List Int → List Int
  | _, [] => List.replicate (g.length - 1) 0
  | i, c :: xs => List.zipWith (fun x y => (c * x + y) % p) (pwN s g p i) (evN s g p (i + 1) xs)
theorem zw_getD (f : Int → Int → Int) (a b : List Int) (j : Nat) (ha : j < a.length) (hb : j < b.length) : (List.zipWith f a b).getD j 0 = f (a.getD j 0) (b.getD j 0) := by
  rw [List.getD_eq_getElem?_getD, List.getD_eq_getElem?_getD, List.getD_eq_getElem?_getD, List.getElem?_eq_getElem ha, List.getElem?_eq_getElem hb, List.getElem?_eq_getElem (by rw [List.length_zipWith]; omega), List.getElem_zipWith]
  rfl
theorem rep_getD (n j : Nat) : (List.replicate n (0 : Int)).getD j 0 = 0 := by
  by_cases h : j < n
  · rw [List.getD_eq_getElem?_getD, List.getElem?_eq_getElem (by rw [List.length_replicate]; exact h), List.getElem_replicate]
    rfl
  · exact getD_ge (by rw [List.length_replicate]; omega)
section
variable {R : Type} [Lean.Grind.CommRing R] {p : Int} {φ : Int → R} {g s : List Int}
theorem shf_length {v : List Int} (hg : 2 ≤ g.length) (hv : v.length = g.length - 1) : (shf g p v).length = g.length - 1 := by
  unfold shf
  rw [List.length_zipWith, List.length_cons, List.length_dropLast]
  omega
theorem fm_length (hg : 2 ≤ g.length) {b : List Int} (hb : b.length = g.length - 1) : ∀ a, (fm g p a b).length = g.length - 1
  | [] => List.length_replicate ..
  | c :: a => by
    unfold fm
    rw [List.length_zipWith, shf_length hg (fm_length hg hb a)]
    omega
theorem pwN_length (hg : 2 ≤ g.length) : ∀ i, (pwN s g p i).length = g.length - 1
  | 0 => by
    show (1 :: List.replicate (g.length - 2) 0 : List Int).length = _
    rw [List.length_cons, List.length_replicate]
    omega
  | i + 1 => fm_length hg (pwN_length hg i) s
theorem evN_length (hg : 2 ≤ g.length) : ∀ (xs : List Int) (i : Nat), (evN s g p i xs).length = g.length - 1
  | [], _ => List.length_replicate ..
  | c :: xs, i => by
    unfold evN
    rw [List.length_zipWith, pwN_length hg, evN_length hg xs]
    omega
theorem vec_axpy (hR : Red p φ) (c : Int) {a b : List Int} (h : a.length = b.length) : vec φ (List.zipWith (fun x y => (c * x + y) % p) a b) = va (vs (φ c) (vec φ a)) (vec φ b) := funext fun j => by
  show φ _ = φ c * φ (a.getD j 0) + φ (b.getD j 0)
  by_cases hj : j < a.length
  · rw [zw_getD _ _ _ _ hj (by omega), hR.mod, hR.add, hR.mul]
  · rw [getD_ge (by rw [List.length_zipWith]; omega), getD_ge (xs := a) (by omega), getD_ge (xs := b) (by omega), hR.zero]
    grind
theorem vec_zeros (hR : Red p φ) (n : Nat) : vec φ (List.replicate n 0) = v0 := funext fun j => by
  show φ _ = 0
  rw [rep_getD, hR.zero]
theorem vec_shf (hR : Red p φ) (M : Mon g p) {v : List Int} (hv : v.length = g.length - 1) : vec φ (shf g p v) = Sh φ (g.length - 1) g (vec φ v) := funext fun j => by
  have h2 := M.len
  have hl : g.getD (g.length - 1) 0 = 1 := M.last
  have e : v.getLastD 0 = v.getD (g.length - 1 - 1) 0 := by
    rw [List.getLastD_eq_getLast?, List.getLast?_eq_getElem?, List.getD_eq_getElem?_getD, hv]
  show φ ((shf g p v).getD j 0) = (if j = 0 then 0 else φ (v.getD (j - 1) 0)) - φ (v.getD (g.length - 1 - 1) 0) * φ (g.getD j 0)
  by_cases hj : j < g.length - 1
  · unfold shf
    rw [zw_getD _ _ _ _ (by rw [List.length_cons, List.length_dropLast]; omega) (by omega), hR.mod, hR.sub, hR.mul, e]
    congr 1
    cases j with
    | zero => rw [if_pos rfl]; exact hR.zero
    | succ j =>
      rw [if_neg (by omega)]
      congr 1
      show v.dropLast.getD j 0 = v.getD j 0
      rw [List.getD_eq_getElem?_getD, List.getD_eq_getElem?_getD, List.getElem?_eq_getElem (by rw [List.length_dropLast]; omega), List.getElem?_eq_getElem (by omega), List.getElem_dropLast]
  · rw [getD_ge (by rw [shf_length h2 hv]; omega), if_neg (by omega)]
    by_cases q : j = g.length - 1
    · subst q
      rw [hl, hR.zero, hR.one]
      grind
    · rw [getD_ge (xs := v) (i := j - 1) (by omega), getD_ge (xs := g) (by omega), hR.zero]
      grind
theorem vec_fm (hR : Red p φ) (M : Mon g p) {b : List Int} (hb : b.length = g.length - 1) : ∀ a, vec φ (fm g p a b) = Hn φ (Sh φ (g.length - 1) g) a (vec φ b)
  | [] => vec_zeros hR _
  | c :: a => by
    have l := fm_length (p := p) M.len hb a
    show vec φ (List.zipWith _ b (shf g p (fm g p a b))) = va (vs (φ c) (vec φ b)) (Sh φ (g.length - 1) g (Hn φ (Sh φ (g.length - 1) g) a (vec φ b)))
    rw [vec_axpy hR c (by rw [shf_length M.len l]; omega), vec_shf hR M l, vec_fm hR M hb a]
theorem vec_ev (hR : Red p φ) (M : Mon g p) : ∀ (xs : List Int) (i : Nat), vec φ (evN s g p i xs) = Hn φ (Hn φ (Sh φ (g.length - 1) g) s) xs (vec φ (pwN s g p i))
  | [], _ => vec_zeros hR _
  | c :: xs, i => by
    show vec φ (List.zipWith _ (pwN s g p i) (evN s g p (i + 1) xs)) = va (vs (φ c) (vec φ (pwN s g p i))) (Hn φ (Sh φ (g.length - 1) g) s (Hn φ (Hn φ (Sh φ (g.length - 1) g) s) xs (vec φ (pwN s g p i))))
    have h2 := M.len
    have L2 := Hn_lin (φ := φ) (Sh_lin (φ := φ) (g.length - 1) g) s
    rw [vec_axpy hR c (by rw [pwN_length h2, evN_length h2]), vec_ev hR M xs (i + 1), show vec φ (pwN s g p (i + 1)) = _ from vec_fm hR M (pwN_length h2 i) s, Hn_comm1 L2 (fun _ => rfl)]
theorem rep_rw {n : Nat} (hp : 0 < p) : Rw p (List.replicate n 0) := fun x hx => by rw [List.eq_of_mem_replicate hx]; omega
theorem zw_rw {f : Int → Int → Int} (hp : 0 < p) : ∀ a b : List Int, Rw p (List.zipWith (fun x y => f x y % p) a b)
  | [], _ => fun x hx => nomatch hx
  | _ :: _, [] => fun x hx => nomatch hx
  | a :: xs, b :: ys => fun x hx => by
    rcases List.mem_cons.mp (show x ∈ f a b % p :: List.zipWith (fun x y => f x y % p) xs ys from hx) with e | e
    · rw [e]; exact ⟨Int.emod_nonneg _ (by omega), Int.emod_lt_of_pos _ hp⟩
    · exact zw_rw hp xs ys x e
theorem evN_rw (hp : 0 < p) : ∀ (xs : List Int) (i : Nat), Rw p (evN s g p i xs)
  | [], _ => rep_rw hp
  | c :: xs, i => zw_rw (f := fun x y => c * x + y) hp _ _
theorem val_ev (hR : Red p φ) (M : Mon g p) (hs : s.length = g.length - 1) (xs : List Int) : valP s g p xs = evN s g p 0 xs := by
  have h2 := M.len
  have hp : 0 < p := by have := M.p1; omega
  refine vec_eq hR ?_ (by rw [valP_len M, evN_length h2]) (valP_rw hp) (evN_rw hp _ _)
  rw [vec_val hR M hs, vec_ev hR M]
  congr 1
  funext j
  show e0 j = φ ((1 :: List.replicate (g.length - 2) 0 : List Int).getD j 0)
  cases j with
  | zero => exact hR.one.symm
  | succ j =>
    show (0 : R) = φ ((List.replicate (g.length - 2) (0 : Int)).getD j 0)
    rw [rep_getD, hR.zero]
end
end Fm
set_option Elab.async false
set_option linter.all false
set_option maxRecDepth 100000
set_option maxHeartbeats 4000000
/-! What is counted: the roots of each pair, and that no root's map sends a member that is not zero to zero. -/
namespace Fm
def kerN (p : Int) (n : Nat) (g s : List Int) : Bool := (List.range (p ^ n).toNat).all fun c => c == 0 || anyI (evN s g p 0 (lowL p n (c : Int)))
def scanR (p : Int) (n : Nat) (f g : List Int) (want : Nat) : List (List Int) → Nat → Bool
  | [], k => k == want
  | s :: ss, k => bif anyI (evN s g p 0 f) then scanR p n f g want ss k else kerN p n g s && scanR p n f g want ss (k + 1)
theorem scanR_ok {p : Int} {n : Nat} {f g : List Int} {want : Nat} : ∀ (ss : List (List Int)) (k : Nat), scanR p n f g want ss k = true →
    k + (ss.filter fun s => !anyI (evN s g p 0 f)).length = want ∧ ∀ s ∈ ss.filter (fun s => !anyI (evN s g p 0 f)), kerN p n g s = true
  | [], k, h => ⟨by simpa [scanR] using h, fun s hs => nomatch hs⟩
  | s :: ss, k, h => by
    unfold scanR at h
    rw [List.filter_cons]
    cases e : anyI (evN s g p 0 f) with
    | false =>
      rw [e] at h
      have h' : (kerN p n g s && scanR p n f g want ss (k + 1)) = true := h
      rw [Bool.and_eq_true] at h'
      obtain ⟨q1, q2⟩ := scanR_ok ss (k + 1) h'.2
      rw [if_pos (show (!false) = true from rfl), List.length_cons]
      refine ⟨by omega, fun t ht => ?_⟩
      rcases List.mem_cons.mp ht with rfl | ht
      · exact h'.1
      · exact q2 t ht
    | true =>
      rw [e] at h
      rw [if_neg (by simp)]
      exact scanR_ok ss k h
def modsQ (p : Int) (n : Nat) : List (List Int) := ((List.range (p ^ n).toNat).map fun (c : Nat) => lowL p n (c : Int) ++ [1]).filter fun f => irrL p f
def rowsQ (p : Int) (m : Nat) : List (List Int) := (List.range (p ^ m).toNat).map fun (j : Nat) => lowL p m (j : Int)
def pairQ (p : Int) (n m : Nat) : Bool := (modsQ p m).all fun g => (modsQ p n).all fun f => scanR p n f g (if m % n = 0 then n else 0) (rowsQ p m) 0
theorem irr_all : (domT.all fun q => [q.2.1, q.2.2].all fun n => (modsQ q.1 n).all fun f => irrP f q.1) = true := by decide +kernel
theorem pair_333 : pairQ 3 3 3 = true := by decide +kernel
theorem pair_236 : pairQ 2 3 6 = true := by decide +kernel
theorem pair_245 : pairQ 2 4 5 = true := by decide +kernel
theorem pair_244 : pairQ 2 4 4 = true := by decide +kernel
theorem pair_512 : pairQ 5 1 2 = true := by decide +kernel
theorem pair_323 : pairQ 3 2 3 = true := by decide +kernel
theorem pair_rest : ([(2, 1, 1), (2, 1, 2), (2, 2, 2), (2, 2, 4), (2, 2, 3), (3, 1, 1), (3, 1, 2), (3, 2, 2), (2, 3, 3), (2, 3, 4), (5, 1, 1)].all fun (q : Int × Nat × Nat) => pairQ q.1 q.2.1 q.2.2) = true := by decide +kernel
theorem pair_all {p : Int} {n m : Nat} (h : (p, n, m) ∈ domT) : pairQ p n m = true := by
  by_cases q : (p, n, m) ∈ ([(2, 1, 1), (2, 1, 2), (2, 2, 2), (2, 2, 4), (2, 2, 3), (3, 1, 1), (3, 1, 2), (3, 2, 2), (2, 3, 3), (2, 3, 4), (5, 1, 1)] : List (Int × Nat × Nat))
  · exact List.all_eq_true.mp pair_rest _ q
  · have z : (domT.all fun t => decide (t ∈ ([(2, 1, 1), (2, 1, 2), (2, 2, 2), (2, 2, 4), (2, 2, 3), (3, 1, 1), (3, 1, 2), (3, 2, 2), (2, 3, 3), (2, 3, 4), (5, 1, 1)] : List (Int × Nat × Nat)) ∨ t ∈ ([(3, 3, 3), (2, 3, 6), (2, 4, 5), (2, 4, 4), (5, 1, 2), (3, 2, 3)] : List (Int × Nat × Nat)))) = true := by decide +kernel
    have z2 := of_decide_eq_true (List.all_eq_true.mp z _ h)
    rcases z2 with z2 | z2
    · exact absurd z2 q
    · simp only [List.mem_cons, List.not_mem_nil, or_false, Prod.mk.injEq] at z2
      rcases z2 with ⟨rfl, rfl, rfl⟩ | ⟨rfl, rfl, rfl⟩ | ⟨rfl, rfl, rfl⟩ | ⟨rfl, rfl, rfl⟩ | ⟨rfl, rfl, rfl⟩ | ⟨rfl, rfl, rfl⟩
      · exact pair_333
      · exact pair_236
      · exact pair_245
      · exact pair_244
      · exact pair_512
      · exact pair_323
end Fm
set_option Elab.async false
set_option linter.all false
set_option maxRecDepth 100000
set_option maxHeartbeats 4000000
namespace Fm
theorem dom_p {p : Int} {n m : Nat} (h : (p, n, m) ∈ domT) : p = 2 ∨ p = 3 ∨ p = 5 := by
  have q : (domT.all fun q => decide (q.1 = 2 ∨ q.1 = 3 ∨ q.1 = 5)) = true := by decide +kernel
  exact of_decide_eq_true (List.all_eq_true.mp q _ h)
theorem drawn_mem {p : Int} {n : Nat} {f : List Int} (h : Drawn p n f) : f ∈ modsQ p n := by
  obtain ⟨c, h0, h1, rfl, hi⟩ := h
  refine List.mem_filter.mpr ⟨List.mem_map.mpr ⟨c.toNat, List.mem_range.mpr (by omega), ?_⟩, hi⟩
  rw [Int.toNat_of_nonneg h0]
theorem drawn_mon {p : Int} {n : Nat} {f : List Int} (h : Drawn p n f) (h1 : 1 ≤ n) (h6 : n ≤ 6) (p2 : 2 ≤ p) (p5 : p ≤ 5) : f.length = n + 1 ∧ Mon f p := by
  obtain ⟨c, _, _, rfl, _⟩ := h
  have hl : (lowL p n c ++ [1]).length = n + 1 := by rw [List.length_append, lowL_length]; rfl
  refine ⟨hl, ⟨by omega, by omega, ?_, ?_, by omega, by omega⟩⟩
  · unfold lastD
    rw [hl, List.getD_eq_getElem?_getD, List.getElem?_append_right (by rw [lowL_length]; omega), lowL_length]
    rw [show n + 1 - 1 - n = 0 by omega]
    rfl
  · intro x hx
    rcases List.mem_append.mp hx with q | q
    · exact lowL_rw (by omega) _ _ x q
    · rw [List.mem_singleton.mp q]; omega
theorem small_prime {p : Int} (h : p = 2 ∨ p = 3 ∨ p = 5) : Prime1 p := by
  refine ⟨by omega, by omega, fun d hd hq => ?_⟩
  have d2 : d = 2 := by
    by_cases q : 3 ≤ d
    · have := Int.mul_le_mul q q (by omega) (by omega)
      omega
    · omega
  subst d2
  omega
theorem root_bool {R : Type} [Lean.Grind.CommRing R] {φ : Int → R} {p : Int} {g s : List Int} (hR : Red p φ) (M : Mon g p) (hs : s.length = g.length - 1) (xs : List Int) : decide (valP s g p xs = zeroP g) = !anyI (evN s g p 0 xs) := by
  rw [← val_ev hR M hs]
  have q := any_zero (s := s) (xs := xs) (p := p) (valP_len M) M.len
  cases e : anyI (valP s g p xs) with
  | false => rw [decide_eq_true (q.mp e)]; rfl
  | true => rw [decide_eq_false (fun z => by rw [q.mpr z] at e; cases e)]; rfl
theorem ker_zero {R : Type} [Lean.Grind.CommRing R] {φ : Int → R} {p : Int} {n : Nat} {g s : List Int} (hR : Red p φ) (M : Mon g p) (hs : s.length = g.length - 1) (h : kerN p n g s = true) (z : List Int) (hl : z.length = n) (hz : Rw p z) (hv : valP s g p z = zeroP g) : z = List.replicate n 0 := by
  have hp : 0 < p := by have := M.p1; omega
  obtain ⟨h0, h1, h2⟩ := numL_rw hp z hz
  rw [hl] at h1 h2
  have q := List.all_eq_true.mp h (numL p z).toNat (List.mem_range.mpr (by omega))
  have r := root_bool hR M hs z
  rw [decide_eq_true hv] at r
  rw [Int.toNat_of_nonneg h0, h2] at q
  have r2 : anyI (evN s g p 0 z) = false := by simpa using r.symm
  rw [r2] at q
  have q2 : (numL p z).toNat = 0 := by simpa using q
  rw [← h2, show numL p z = 0 by omega, lowL_zero]
theorem facts (p : Int) (n m : Nat) (f g : List Int) (h : Pair p n m f g) : Facts p n m f g := by
  obtain ⟨_, _, p2, p5, n1, n4, m1, m6, sf, sg⟩ := dom_ok h.dom
  have hpp := dom_p h.dom
  obtain ⟨lf, F⟩ := drawn_mon h.f n1 (by omega) p2 p5
  obtain ⟨lg, M⟩ := drawn_mon h.g m1 m6 p2 p5
  have hp : 0 < p := by omega
  obtain ⟨R, iR, φ, hR⟩ : ∃ (R : Type) (_ : Lean.Grind.CommRing R) (φ : Int → R), Red p φ := by
    have e : p = ((p.toNat - 1 + 1 : Nat) : Int) := by omega
    exact ⟨_, inferInstance, fi (p.toNat - 1), by have := fi_red (p.toNat - 1) (by omega); rw [← e] at this; exact this⟩
  have irr : ∀ {k : Nat} {u : List Int}, k ∈ [n, m] → Drawn p k u → irrP u p = true := fun hk hu =>
    List.all_eq_true.mp (List.all_eq_true.mp (List.all_eq_true.mp irr_all _ h.dom) _ hk) _ (drawn_mem hu)
  have sc := List.all_eq_true.mp (List.all_eq_true.mp (pair_all h.dom) _ (drawn_mem h.g)) _ (drawn_mem h.f)
  obtain ⟨c1, c2⟩ := scanR_ok _ _ sc
  have el : f.length - 1 = n := by omega
  have eg : g.length - 1 = m := by omega
  have er : rootsP f g p = (rowsQ p m).filter fun s => !anyI (evN s g p 0 f) := by
    unfold rootsP rootsN rowsQ
    rw [eg]
    refine List.filter_congr fun s hs => ?_
    obtain ⟨j, _, rfl⟩ := List.mem_map.mp hs
    exact root_bool hR M (by rw [lowL_length]; omega) f
  rw [← er] at c1 c2
  have cnt : (rootsP f g p).length = if m % n = 0 then n else 0 := by
    rw [Nat.zero_add] at c1
    exact c1
  refine ⟨⟨F, irr (by simp) h.f, by rw [el]; omega⟩, ⟨M, irr (by simp) h.g, by rw [eg]; omega⟩, small_prime hpp, p5, lf, lg, n1, m1, by omega, m6, sf, sg,
    fun s xs hs _ => val_eq hR M (by omega) xs, ?_, cnt, fun s hs x y hx _ hy _ => ?_, fun s hs x y hx _ hy _ => ?_, fun s hs x y hx rx hy ry e => ?_⟩
  · unfold imgsP
    rw [el, eg]
    by_cases q : m % n = 0
    · rw [if_pos q]
    · rw [if_neg q]
      rw [if_neg q] at cnt
      exact (List.length_eq_zero_iff.mp cnt).symm
  · obtain ⟨h1, _, _⟩ := root_mem hp hs
    exact val_add hR M h1 (by omega)
  · obtain ⟨h1, _, h3⟩ := root_mem hp hs
    exact val_mul hR F M h1 h3 (by omega) (by omega)
  · obtain ⟨h1, _, _⟩ := root_mem hp hs
    exact val_inj hR M h1 (ker_zero hR M h1 (c2 s hs)) hx rx hy ry e
end Fm
set_option Elab.async false
set_option linter.all false
set_option maxRecDepth 100000
set_option maxHeartbeats 4000000
namespace Fm
open PySem PySem.Spec PyProof.Rows L2 Evl RZ GenW
theorem exm_own {K : PySem.W.Frag} {S : Addr} (h1 : PySem.W.subIn K (.ref S) (.type "BaseException") = some true) (h2 : PySem.W.isClsIn K S = true) (h3 : PySem.W.typeIn K (.ref S) = some (.type "type")) (h4 : PySem.W.subIn K (.ref S) (.ref S) = some true) :
    PySem.W.exmOne K (.ref S) (.ref S) = some true := by
  have h2' : (PySem.W.clsIn K S).isSome = true := h2
  show (if (PySem.W.subIn K (.ref S) (.type "BaseException") == some true) = true then _ else none) = some true
  rw [if_pos (by rw [h1]; rfl)]
  show (if ((PySem.W.clsIn K S).isSome && PySem.W.typeIn K (.ref S) == some (.type "type")) = true then _ else none) = some true
  rw [if_pos (by rw [h2', h3]; rfl)]
  exact h4
theorem kit_self {K : PySem.W.Frag} {S : Addr} : PySem.W.kitOne K (.ref S) (.ref S) = some true := by
  unfold PySem.W.kitOne
  rw [if_pos (by simp)]
theorem kit_not {K : PySem.W.Frag} {S : Addr} {t : Value} (h2 : PySem.W.isClsIn K S = true) (h3 : PySem.W.typeIn K (.ref S) = some (.type "type")) (h4 : PySem.W.subIn K t (.ref S) = some false) (hn : (t == Value.ref S) = false) : PySem.W.kitOne K t (.ref S) = some false := by
  unfold PySem.W.kitOne
  rw [hn, if_neg Bool.false_ne_true]
  have h2' : (PySem.W.clsIn K S).isSome = true := h2
  show (if ((PySem.W.clsIn K S).isSome && PySem.W.typeIn K (.ref S) == some (.type "type")) = true then _ else none) = some false
  rw [if_pos (by rw [h2', h3]; rfl)]
  exact h4
theorem all_mk {l : PySem.W.OpenLaw} {w : World} {K : PySem.W.Frag} {h : Heap} {mg : Str → Option Value} {fa C D G : Addr} (X : K.In h) (N : h.Ns mainGlobals mg) (hfa : mg "law" = some (.ref fa))
    {f1 f2 f3 f4 f5 f6 f7 f8 f9 f10 f11 f12 f13 f14 f15 f16 f17 f18 f19 f20 f21 f22 f23 f24 f25 f26 f27 f28 f29 f30 f31 f32 f33 f34 f35 f36 f37 f38 f39 f40 f41 f42 f43 f44 f45 f46 f47 f48 f49 f50 Td T0 : Addr} {od1 an1 od2 an2 od3 an3 od4 an4 od5 an5 od6 an6 od7 an7 od8 an8 od9 an9 od10 an10 od11 an11 od12 an12 od13 an13 od14 an14 od15 an15 od16 an16 od17 an17 od18 an18 od19 an19 od20 an20 od21 an21 od22 an22 od23 an23 od24 an24 od25 an25 od26 an26 od27 an27 od28 an28 od29 an29 od30 an30 od31 an31 od32 an32 od33 an33 od34 an34 od35 an35 od36 an36 od37 an37 od38 an38 od39 an39 od40 an40 od41 an41 od42 an42 od43 an43 od44 an44 od45 an45 od46 an46 od47 an47 od48 an48 od49 an49 od50 an50 : Option Addr} {sl1 sl2 sl3 sl4 sl5 sl6 sl7 sl8 sl9 sl10 sl11 sl12 sl13 sl14 sl15 sl16 sl17 sl18 sl19 sl20 sl21 sl22 sl23 sl24 sl25 sl26 sl27 sl28 sl29 sl30 sl31 sl32 sl33 sl34 sl35 sl36 sl37 sl38 sl39 sl40 sl41 sl42 sl43 sl44 sl45 sl46 sl47 sl48 sl49 sl50 : Array (Option Value)}
    {oc1 kV1 dc1 pm1 cd1 ct1 oc2 kV2 dc2 pm2 cd2 ct2 oc3 kV3 dc3 pm3 cd3 ct3 oc4 kV4 dc4 pm4 cd4 ct4 oc5 kV5 dc5 pm5 cd5 ct5 oc6 kV6 dc6 pm6 cd6 ct6 oc7 kV7 dc7 pm7 cd7 ct7 oc8 kV8 dc8 pm8 cd8 ct8 oc9 kV9 dc9 pm9 cd9 ct9 oc10 kV10 dc10 pm10 cd10 ct10 oc11 kV11 dc11 pm11 cd11 ct11 oc12 kV12 dc12 pm12 cd12 ct12 oc13 kV13 dc13 pm13 cd13 ct13 oc14 kV14 dc14 pm14 cd14 ct14 oc15 kV15 dc15 pm15 cd15 ct15 oc16 kV16 dc16 pm16 cd16 ct16 oc17 kV17 dc17 pm17 cd17 ct17 oc18 kV18 dc18 pm18 cd18 ct18 oc19 kV19 dc19 pm19 cd19 ct19 oc20 kV20 dc20 pm20 cd20 ct20 oc21 kV21 dc21 pm21 cd21 ct21 oc22 kV22 dc22 pm22 cd22 ct22 oc23 kV23 dc23 pm23 cd23 ct23 oc24 kV24 dc24 pm24 cd24 ct24 oc25 kV25 dc25 pm25 cd25 ct25 oc26 kV26 dc26 pm26 cd26 ct26 oc27 kV27 dc27 pm27 cd27 ct27 oc28 kV28 dc28 pm28 cd28 ct28 oc29 kV29 dc29 pm29 cd29 ct29 oc30 kV30 dc30 pm30 cd30 ct30 oc31 kV31 dc31 pm31 cd31 ct31 oc32 kV32 dc32 pm32 cd32 ct32 oc33 kV33 dc33 pm33 cd33 ct33 oc34 kV34 dc34 pm34 cd34 ct34 oc35 kV35 dc35 pm35 cd35 ct35 oc36 kV36 dc36 pm36 cd36 ct36 oc37 kV37 dc37 pm37 cd37 ct37 oc38 kV38 dc38 pm38 cd38 ct38 oc39 kV39 dc39 pm39 cd39 ct39 oc40 kV40 dc40 pm40 cd40 ct40 oc41 kV41 dc41 pm41 cd41 ct41 oc42 kV42 dc42 pm42 cd42 ct42 oc43 kV43 dc43 pm43 cd43 ct43 oc44 kV44 dc44 pm44 cd44 ct44 oc45 kV45 dc45 pm45 cd45 ct45 oc46 kV46 dc46 pm46 cd46 ct46 oc47 kV47 dc47 pm47 cd47 ct47 oc48 kV48 dc48 pm48 cd48 ct48 oc49 kV49 dc49 pm49 cd49 ct49 oc50 kV50 dc50 pm50 cd50 ct50 : Value} {oT o0 : Obj} {nT n0 : Nat} {u0 u1 tM : Tok}
    (aC : PySem.W.nsIn K mainGlobals "Field" = some (some (.ref C)))
    (aD : PySem.W.nsIn K mainGlobals "FieldMap" = some (some (.ref D)))
    (aG : PySem.W.nsIn K mainGlobals "Malformed" = some (some (.ref G)))
    (a1 : PySem.W.nsIn K mainGlobals "is_integer" = some (some (.ref f1)))
    (l1 : K.lookup f1 = some ⟨oc1, od1, .func (PySem.W.fnOf "is_integer" "is_integer" (defArgs (top 7)) (defBody (top 7)) (defScope (top 7)) .none kV1 dc1 pm1 an1 cd1 ct1), sl1⟩)
    (c1 : PySem.W.codeIn K cd1 "is_integer" = true)
    (k1 : PySem.W.keepIn K (.ref f1) = true)
    (a2 : PySem.W.nsIn K mainGlobals "prime_powers" = some (some (.ref f2)))
    (l2 : K.lookup f2 = some ⟨oc2, od2, .func (PySem.W.fnOf "prime_powers" "prime_powers" (defArgs (top 8)) (defBody (top 8)) (defScope (top 8)) .none kV2 dc2 pm2 an2 cd2 ct2), sl2⟩)
    (c2 : PySem.W.codeIn K cd2 "prime_powers" = true)
    (k2 : PySem.W.keepIn K (.ref f2) = true)
    (a3 : PySem.W.nsIn K mainGlobals "is_prime" = some (some (.ref f3)))
    (l3 : K.lookup f3 = some ⟨oc3, od3, .func (PySem.W.fnOf "is_prime" "is_prime" (defArgs (top 9)) (defBody (top 9)) (defScope (top 9)) .none kV3 dc3 pm3 an3 cd3 ct3), sl3⟩)
    (c3 : PySem.W.codeIn K cd3 "is_prime" = true)
    (k3 : PySem.W.keepIn K (.ref f3) = true)
    (a4 : PySem.W.nsIn K mainGlobals "inverse_modulo" = some (some (.ref f4)))
    (l4 : K.lookup f4 = some ⟨oc4, od4, .func (PySem.W.fnOf "inverse_modulo" "inverse_modulo" (defArgs (top 10)) (defBody (top 10)) (defScope (top 10)) .none kV4 dc4 pm4 an4 cd4 ct4), sl4⟩)
    (c4 : PySem.W.codeIn K cd4 "inverse_modulo" = true)
    (k4 : PySem.W.keepIn K (.ref f4) = true)
    (a5 : PySem.W.nsIn K mainGlobals "trimmed" = some (some (.ref f5)))
    (l5 : K.lookup f5 = some ⟨oc5, od5, .func (PySem.W.fnOf "trimmed" "trimmed" (defArgs (top 12)) (defBody (top 12)) (defScope (top 12)) .none kV5 dc5 pm5 an5 cd5 ct5), sl5⟩)
    (c5 : PySem.W.codeIn K cd5 "trimmed" = true)
    (k5 : PySem.W.keepIn K (.ref f5) = true)
    (a6 : PySem.W.nsIn K mainGlobals "add_rows" = some (some (.ref f6)))
    (l6 : K.lookup f6 = some ⟨oc6, od6, .func (PySem.W.fnOf "add_rows" "add_rows" (defArgs (top 13)) (defBody (top 13)) (defScope (top 13)) .none kV6 dc6 pm6 an6 cd6 ct6), sl6⟩)
    (c6 : PySem.W.codeIn K cd6 "add_rows" = true)
    (k6 : PySem.W.keepIn K (.ref f6) = true)
    (a7 : PySem.W.nsIn K mainGlobals "subtract_rows" = some (some (.ref f7)))
    (l7 : K.lookup f7 = some ⟨oc7, od7, .func (PySem.W.fnOf "subtract_rows" "subtract_rows" (defArgs (top 14)) (defBody (top 14)) (defScope (top 14)) .none kV7 dc7 pm7 an7 cd7 ct7), sl7⟩)
    (c7 : PySem.W.codeIn K cd7 "subtract_rows" = true)
    (k7 : PySem.W.keepIn K (.ref f7) = true)
    (a8 : PySem.W.nsIn K mainGlobals "multiply_rows" = some (some (.ref f8)))
    (l8 : K.lookup f8 = some ⟨oc8, od8, .func (PySem.W.fnOf "multiply_rows" "multiply_rows" (defArgs (top 15)) (defBody (top 15)) (defScope (top 15)) .none kV8 dc8 pm8 an8 cd8 ct8), sl8⟩)
    (c8 : PySem.W.codeIn K cd8 "multiply_rows" = true)
    (k8 : PySem.W.keepIn K (.ref f8) = true)
    (a9 : PySem.W.nsIn K mainGlobals "divide_rows" = some (some (.ref f9)))
    (l9 : K.lookup f9 = some ⟨oc9, od9, .func (PySem.W.fnOf "divide_rows" "divide_rows" (defArgs (top 16)) (defBody (top 16)) (defScope (top 16)) .none kV9 dc9 pm9 an9 cd9 ct9), sl9⟩)
    (c9 : PySem.W.codeIn K cd9 "divide_rows" = true)
    (k9 : PySem.W.keepIn K (.ref f9) = true)
    (a10 : PySem.W.nsIn K mainGlobals "common_row" = some (some (.ref f10)))
    (l10 : K.lookup f10 = some ⟨oc10, od10, .func (PySem.W.fnOf "common_row" "common_row" (defArgs (top 17)) (defBody (top 17)) (defScope (top 17)) .none kV10 dc10 pm10 an10 cd10 ct10), sl10⟩)
    (c10 : PySem.W.codeIn K cd10 "common_row" = true)
    (k10 : PySem.W.keepIn K (.ref f10) = true)
    (a11 : PySem.W.nsIn K mainGlobals "power_row" = some (some (.ref f11)))
    (l11 : K.lookup f11 = some ⟨oc11, od11, .func (PySem.W.fnOf "power_row" "power_row" (defArgs (top 18)) (defBody (top 18)) (defScope (top 18)) .none kV11 dc11 pm11 an11 cd11 ct11), sl11⟩)
    (c11 : PySem.W.codeIn K cd11 "power_row" = true)
    (k11 : PySem.W.keepIn K (.ref f11) = true)
    (a12 : PySem.W.nsIn K mainGlobals "is_irreducible_row" = some (some (.ref f12)))
    (l12 : K.lookup f12 = some ⟨oc12, od12, .func (PySem.W.fnOf "is_irreducible_row" "is_irreducible_row" (defArgs (top 19)) (defBody (top 19)) (defScope (top 19)) .none kV12 dc12 pm12 an12 cd12 ct12), sl12⟩)
    (c12 : PySem.W.codeIn K cd12 "is_irreducible_row" = true)
    (k12 : PySem.W.keepIn K (.ref f12) = true)
    (a13 : PySem.W.nsIn K mainGlobals "is_member_row" = some (some (.ref f13)))
    (l13 : K.lookup f13 = some ⟨oc13, od13, .func (PySem.W.fnOf "is_member_row" "is_member_row" (defArgs (top 20)) (defBody (top 20)) (defScope (top 20)) .none kV13 dc13 pm13 an13 cd13 ct13), sl13⟩)
    (c13 : PySem.W.codeIn K cd13 "is_member_row" = true)
    (k13 : PySem.W.keepIn K (.ref f13) = true)
    (a14 : PySem.W.nsIn K mainGlobals "member_of" = some (some (.ref f14)))
    (l14 : K.lookup f14 = some ⟨oc14, od14, .func (PySem.W.fnOf "member_of" "member_of" (defArgs (top 21)) (defBody (top 21)) (defScope (top 21)) .none kV14 dc14 pm14 an14 cd14 ct14), sl14⟩)
    (c14 : PySem.W.codeIn K cd14 "member_of" = true)
    (k14 : PySem.W.keepIn K (.ref f14) = true)
    (a15 : PySem.W.nsIn K mainGlobals "member_sum" = some (some (.ref f15)))
    (l15 : K.lookup f15 = some ⟨oc15, od15, .func (PySem.W.fnOf "member_sum" "member_sum" (defArgs (top 22)) (defBody (top 22)) (defScope (top 22)) .none kV15 dc15 pm15 an15 cd15 ct15), sl15⟩)
    (c15 : PySem.W.codeIn K cd15 "member_sum" = true)
    (k15 : PySem.W.keepIn K (.ref f15) = true)
    (a16 : PySem.W.nsIn K mainGlobals "member_product" = some (some (.ref f16)))
    (l16 : K.lookup f16 = some ⟨oc16, od16, .func (PySem.W.fnOf "member_product" "member_product" (defArgs (top 24)) (defBody (top 24)) (defScope (top 24)) .none kV16 dc16 pm16 an16 cd16 ct16), sl16⟩)
    (c16 : PySem.W.codeIn K cd16 "member_product" = true)
    (k16 : PySem.W.keepIn K (.ref f16) = true)
    (a17 : PySem.W.nsIn K mainGlobals "_checked_modulus" = some (some (.ref f17)))
    (l17 : K.lookup f17 = some ⟨oc17, od17, .func (PySem.W.fnOf "_checked_modulus" "_checked_modulus" (defArgs (top 28)) (defBody (top 28)) (defScope (top 28)) .none kV17 dc17 pm17 an17 cd17 ct17), sl17⟩)
    (c17 : PySem.W.codeIn K cd17 "_checked_modulus" = true)
    (k17 : PySem.W.keepIn K (.ref f17) = true)
    (a18 : PySem.W.nsIn K mainGlobals "at_image" = some (some (.ref f18)))
    (l18 : K.lookup f18 = some ⟨oc18, od18, .func (PySem.W.fnOf "at_image" "at_image" (defArgs (top 31)) (defBody (top 31)) (defScope (top 31)) .none kV18 dc18 pm18 an18 cd18 ct18), sl18⟩)
    (c18 : PySem.W.codeIn K cd18 "at_image" = true)
    (k18 : PySem.W.keepIn K (.ref f18) = true)
    (a19 : PySem.W.nsIn K mainGlobals "is_root" = some (some (.ref f19)))
    (l19 : K.lookup f19 = some ⟨oc19, od19, .func (PySem.W.fnOf "is_root" "is_root" (defArgs (top 32)) (defBody (top 32)) (defScope (top 32)) .none kV19 dc19 pm19 an19 cd19 ct19), sl19⟩)
    (c19 : PySem.W.codeIn K cd19 "is_root" = true)
    (k19 : PySem.W.keepIn K (.ref f19) = true)
    (a20 : PySem.W.nsIn K mainGlobals "all_maps" = some (some (.ref f20)))
    (l20 : K.lookup f20 = some ⟨oc20, od20, .func (PySem.W.fnOf "all_maps" "all_maps" (defArgs (top 34)) (defBody (top 34)) (defScope (top 34)) .none kV20 dc20 pm20 an20 cd20 ct20), sl20⟩)
    (c20 : PySem.W.codeIn K cd20 "all_maps" = true)
    (k20 : PySem.W.keepIn K (.ref f20) = true)
    (a21 : PySem.W.nsIn K mainGlobals "isomorphisms" = some (some (.ref f21)))
    (l21 : K.lookup f21 = some ⟨oc21, od21, .func (PySem.W.fnOf "isomorphisms" "isomorphisms" (defArgs (top 35)) (defBody (top 35)) (defScope (top 35)) .none kV21 dc21 pm21 an21 cd21 ct21), sl21⟩)
    (c21 : PySem.W.codeIn K cd21 "isomorphisms" = true)
    (k21 : PySem.W.keepIn K (.ref f21) = true)
    (a22 : PySem.W.nsIn K mainGlobals "_law_state" = some (some (.ref f22)))
    (l22 : K.lookup f22 = some ⟨oc22, od22, .func (PySem.W.fnOf "_law_state" "_law_state" (defArgs (top 37)) (defBody (top 37)) (defScope (top 37)) .none kV22 dc22 pm22 an22 cd22 ct22), sl22⟩)
    (c22 : PySem.W.codeIn K cd22 "_law_state" = true)
    (k22 : PySem.W.keepIn K (.ref f22) = true)
    (a23 : PySem.W.nsIn K mainGlobals "_law_take" = some (some (.ref f23)))
    (l23 : K.lookup f23 = some ⟨oc23, od23, .func (PySem.W.fnOf "_law_take" "_law_take" (defArgs (top 38)) (defBody (top 38)) (defScope (top 38)) .none kV23 dc23 pm23 an23 cd23 ct23), sl23⟩)
    (c23 : PySem.W.codeIn K cd23 "_law_take" = true)
    (k23 : PySem.W.keepIn K (.ref f23) = true)
    (a24 : PySem.W.nsIn K mainGlobals "_law_divides" = some (some (.ref f24)))
    (l24 : K.lookup f24 = some ⟨oc24, od24, .func (PySem.W.fnOf "_law_divides" "_law_divides" (defArgs (top 39)) (defBody (top 39)) (defScope (top 39)) .none kV24 dc24 pm24 an24 cd24 ct24), sl24⟩)
    (c24 : PySem.W.codeIn K cd24 "_law_divides" = true)
    (k24 : PySem.W.keepIn K (.ref f24) = true)
    (a25 : PySem.W.nsIn K mainGlobals "_law_lower" = some (some (.ref f25)))
    (l25 : K.lookup f25 = some ⟨oc25, od25, .func (PySem.W.fnOf "_law_lower" "_law_lower" (defArgs (top 40)) (defBody (top 40)) (defScope (top 40)) .none kV25 dc25 pm25 an25 cd25 ct25), sl25⟩)
    (c25 : PySem.W.codeIn K cd25 "_law_lower" = true)
    (k25 : PySem.W.keepIn K (.ref f25) = true)
    (a26 : PySem.W.nsIn K mainGlobals "_law_is_irreducible" = some (some (.ref f26)))
    (l26 : K.lookup f26 = some ⟨oc26, od26, .func (PySem.W.fnOf "_law_is_irreducible" "_law_is_irreducible" (defArgs (top 41)) (defBody (top 41)) (defScope (top 41)) .none kV26 dc26 pm26 an26 cd26 ct26), sl26⟩)
    (c26 : PySem.W.codeIn K cd26 "_law_is_irreducible" = true)
    (k26 : PySem.W.keepIn K (.ref f26) = true)
    (a27 : PySem.W.nsIn K mainGlobals "_law_power_of" = some (some (.ref f27)))
    (l27 : K.lookup f27 = some ⟨oc27, od27, .func (PySem.W.fnOf "_law_power_of" "_law_power_of" (defArgs (top 42)) (defBody (top 42)) (defScope (top 42)) .none kV27 dc27 pm27 an27 cd27 ct27), sl27⟩)
    (c27 : PySem.W.codeIn K cd27 "_law_power_of" = true)
    (k27 : PySem.W.keepIn K (.ref f27) = true)
    (a28 : PySem.W.nsIn K mainGlobals "_law_modulus" = some (some (.ref f28)))
    (l28 : K.lookup f28 = some ⟨oc28, od28, .func (PySem.W.fnOf "_law_modulus" "_law_modulus" (defArgs (top 43)) (defBody (top 43)) (defScope (top 43)) .none kV28 dc28 pm28 an28 cd28 ct28), sl28⟩)
    (c28 : PySem.W.codeIn K cd28 "_law_modulus" = true)
    (k28 : PySem.W.keepIn K (.ref f28) = true)
    (a29 : PySem.W.nsIn K mainGlobals "_law_plus" = some (some (.ref f29)))
    (l29 : K.lookup f29 = some ⟨oc29, od29, .func (PySem.W.fnOf "_law_plus" "_law_plus" (defArgs (top 44)) (defBody (top 44)) (defScope (top 44)) .none kV29 dc29 pm29 an29 cd29 ct29), sl29⟩)
    (c29 : PySem.W.codeIn K cd29 "_law_plus" = true)
    (k29 : PySem.W.keepIn K (.ref f29) = true)
    (a30 : PySem.W.nsIn K mainGlobals "_law_times" = some (some (.ref f30)))
    (l30 : K.lookup f30 = some ⟨oc30, od30, .func (PySem.W.fnOf "_law_times" "_law_times" (defArgs (top 45)) (defBody (top 45)) (defScope (top 45)) .none kV30 dc30 pm30 an30 cd30 ct30), sl30⟩)
    (c30 : PySem.W.codeIn K cd30 "_law_times" = true)
    (k30 : PySem.W.keepIn K (.ref f30) = true)
    (a31 : PySem.W.nsIn K mainGlobals "_law_member" = some (some (.ref f31)))
    (l31 : K.lookup f31 = some ⟨oc31, od31, .func (PySem.W.fnOf "_law_member" "_law_member" (defArgs (top 46)) (defBody (top 46)) (defScope (top 46)) .none kV31 dc31 pm31 an31 cd31 ct31), sl31⟩)
    (c31 : PySem.W.codeIn K cd31 "_law_member" = true)
    (k31 : PySem.W.keepIn K (.ref f31) = true)
    (a32 : PySem.W.nsIn K mainGlobals "_law_size" = some (some (.ref f32)))
    (l32 : K.lookup f32 = some ⟨oc32, od32, .func (PySem.W.fnOf "_law_size" "_law_size" (defArgs (top 47)) (defBody (top 47)) (defScope (top 47)) .none kV32 dc32 pm32 an32 cd32 ct32), sl32⟩)
    (c32 : PySem.W.codeIn K cd32 "_law_size" = true)
    (k32 : PySem.W.keepIn K (.ref f32) = true)
    (a33 : PySem.W.nsIn K mainGlobals "_law_any" = some (some (.ref f33)))
    (l33 : K.lookup f33 = some ⟨oc33, od33, .func (PySem.W.fnOf "_law_any" "_law_any" (defArgs (top 48)) (defBody (top 48)) (defScope (top 48)) .none kV33 dc33 pm33 an33 cd33 ct33), sl33⟩)
    (c33 : PySem.W.codeIn K cd33 "_law_any" = true)
    (k33 : PySem.W.keepIn K (.ref f33) = true)
    (a34 : PySem.W.nsIn K mainGlobals "_law_pair_of_fields" = some (some (.ref f34)))
    (l34 : K.lookup f34 = some ⟨oc34, od34, .func (PySem.W.fnOf "_law_pair_of_fields" "_law_pair_of_fields" (defArgs (top 49)) (defBody (top 49)) (defScope (top 49)) .none kV34 dc34 pm34 an34 cd34 ct34), sl34⟩)
    (c34 : PySem.W.codeIn K cd34 "_law_pair_of_fields" = true)
    (k34 : PySem.W.keepIn K (.ref f34) = true)
    (a35 : PySem.W.nsIn K mainGlobals "_law_value" = some (some (.ref f35)))
    (l35 : K.lookup f35 = some ⟨oc35, od35, .func (PySem.W.fnOf "_law_value" "_law_value" (defArgs (top 50)) (defBody (top 50)) (defScope (top 50)) .none kV35 dc35 pm35 an35 cd35 ct35), sl35⟩)
    (c35 : PySem.W.codeIn K cd35 "_law_value" = true)
    (k35 : PySem.W.keepIn K (.ref f35) = true)
    (a36 : PySem.W.nsIn K mainGlobals "_law_malformed" = some (some (.ref f36)))
    (l36 : K.lookup f36 = some ⟨oc36, od36, .func (PySem.W.fnOf "_law_malformed" "_law_malformed" (defArgs (top 51)) (defBody (top 51)) (defScope (top 51)) .none kV36 dc36 pm36 an36 cd36 ct36), sl36⟩)
    (c36 : PySem.W.codeIn K cd36 "_law_malformed" = true)
    (k36 : PySem.W.keepIn K (.ref f36) = true)
    (a37 : PySem.W.nsIn K mainGlobals "law" = some (some (.ref f37)))
    (l37 : K.lookup f37 = some ⟨oc37, od37, .func (PySem.W.fnOf "law" "law" (defArgs (top 52)) (defBody (top 52)) (defScope (top 52)) .none kV37 dc37 pm37 an37 cd37 ct37), sl37⟩)
    (c37 : PySem.W.codeIn K cd37 "law" = true)
    (k37 : PySem.W.keepIn K (.ref f37) = true)
    (a38 : PySem.W.findIn K (.ref C) "is_member" = some (some (.ref f38)))
    (i38 : PySem.W.isFn K (.ref f38) = true)
    (l38 : K.lookup f38 = some ⟨oc38, od38, .func (PySem.W.fnOf "is_member" "Field.is_member" (defArgs (inClass (top 29) 2)) (defBody (inClass (top 29) 2)) (defScope (inClass (top 29) 2)) .none kV38 dc38 pm38 an38 cd38 ct38), sl38⟩)
    (c38 : PySem.W.codeIn K cd38 "Field.is_member" = true)
    (k38 : PySem.W.keepIn K (.ref f38) = true)
    (a39 : PySem.W.findIn K (.ref C) "integer" = some (some (.ref f39)))
    (i39 : PySem.W.isFn K (.ref f39) = true)
    (l39 : K.lookup f39 = some ⟨oc39, od39, .func (PySem.W.fnOf "integer" "Field.integer" (defArgs (inClass (top 29) 3)) (defBody (inClass (top 29) 3)) (defScope (inClass (top 29) 3)) .none kV39 dc39 pm39 an39 cd39 ct39), sl39⟩)
    (c39 : PySem.W.codeIn K cd39 "Field.integer" = true)
    (k39 : PySem.W.keepIn K (.ref f39) = true)
    (a40 : PySem.W.findIn K (.ref C) "zero" = some (some (.ref f40)))
    (i40 : PySem.W.isFn K (.ref f40) = true)
    (l40 : K.lookup f40 = some ⟨oc40, od40, .func (PySem.W.fnOf "zero" "Field.zero" (defArgs (inClass (top 29) 4)) (defBody (inClass (top 29) 4)) (defScope (inClass (top 29) 4)) .none kV40 dc40 pm40 an40 cd40 ct40), sl40⟩)
    (c40 : PySem.W.codeIn K cd40 "Field.zero" = true)
    (k40 : PySem.W.keepIn K (.ref f40) = true)
    (a41 : PySem.W.findIn K (.ref C) "add" = some (some (.ref f41)))
    (i41 : PySem.W.isFn K (.ref f41) = true)
    (l41 : K.lookup f41 = some ⟨oc41, od41, .func (PySem.W.fnOf "add" "Field.add" (defArgs (inClass (top 29) 7)) (defBody (inClass (top 29) 7)) (defScope (inClass (top 29) 7)) .none kV41 dc41 pm41 an41 cd41 ct41), sl41⟩)
    (c41 : PySem.W.codeIn K cd41 "Field.add" = true)
    (k41 : PySem.W.keepIn K (.ref f41) = true)
    (a42 : PySem.W.findIn K (.ref C) "multiply" = some (some (.ref f42)))
    (i42 : PySem.W.isFn K (.ref f42) = true)
    (l42 : K.lookup f42 = some ⟨oc42, od42, .func (PySem.W.fnOf "multiply" "Field.multiply" (defArgs (inClass (top 29) 10)) (defBody (inClass (top 29) 10)) (defScope (inClass (top 29) 10)) .none kV42 dc42 pm42 an42 cd42 ct42), sl42⟩)
    (c42 : PySem.W.codeIn K cd42 "Field.multiply" = true)
    (k42 : PySem.W.keepIn K (.ref f42) = true)
    (a43 : PySem.W.findIn K (.ref C) "member" = some (some (.ref f43)))
    (i43 : PySem.W.isFn K (.ref f43) = true)
    (l43 : K.lookup f43 = some ⟨oc43, od43, .func (PySem.W.fnOf "member" "Field.member" (defArgs (inClass (top 29) 16)) (defBody (inClass (top 29) 16)) (defScope (inClass (top 29) 16)) .none kV43 dc43 pm43 an43 cd43 ct43), sl43⟩)
    (c43 : PySem.W.codeIn K cd43 "Field.member" = true)
    (k43 : PySem.W.keepIn K (.ref f43) = true)
    (a44 : PySem.W.findIn K (.ref C) "members" = some (some (.ref f44)))
    (i44 : PySem.W.isFn K (.ref f44) = true)
    (l44 : K.lookup f44 = some ⟨oc44, od44, .func (PySem.W.fnOf "members" "Field.members" (defArgs (inClass (top 29) 17)) (defBody (inClass (top 29) 17)) (defScope (inClass (top 29) 17)) .none kV44 dc44 pm44 an44 cd44 ct44), sl44⟩)
    (c44 : PySem.W.codeIn K cd44 "Field.members" = true)
    (k44 : PySem.W.keepIn K (.ref f44) = true)
    (a45 : PySem.W.findIn K (.ref C) "__eq__" = some (some (.ref f45)))
    (i45 : PySem.W.isFn K (.ref f45) = true)
    (l45 : K.lookup f45 = some ⟨oc45, od45, .func (PySem.W.fnOf "__eq__" "Field.__eq__" (defArgs (inClass (top 29) 1)) (defBody (inClass (top 29) 1)) (defScope (inClass (top 29) 1)) .none kV45 dc45 pm45 an45 cd45 ct45), sl45⟩)
    (c45 : PySem.W.codeIn K cd45 "Field.__eq__" = true)
    (k45 : PySem.W.keepIn K (.ref f45) = true)
    (a46 : PySem.W.findIn K (.ref D) "image_of" = some (some (.ref f46)))
    (i46 : PySem.W.isFn K (.ref f46) = true)
    (l46 : K.lookup f46 = some ⟨oc46, od46, .func (PySem.W.fnOf "image_of" "FieldMap.image_of" (defArgs (inClass (top 33) 3)) (defBody (inClass (top 33) 3)) (defScope (inClass (top 33) 3)) .none kV46 dc46 pm46 an46 cd46 ct46), sl46⟩)
    (c46 : PySem.W.codeIn K cd46 "FieldMap.image_of" = true)
    (k46 : PySem.W.keepIn K (.ref f46) = true)
    (a47 : PySem.W.findIn K (.ref D) "__eq__" = some (some (.ref f47)))
    (i47 : PySem.W.isFn K (.ref f47) = true)
    (l47 : K.lookup f47 = some ⟨oc47, od47, .func (PySem.W.fnOf "__eq__" "FieldMap.__eq__" (defArgs (inClass (top 33) 1)) (defBody (inClass (top 33) 1)) (defScope (inClass (top 33) 1)) .none kV47 dc47 pm47 an47 cd47 ct47), sl47⟩)
    (c47 : PySem.W.codeIn K cd47 "FieldMap.__eq__" = true)
    (k47 : PySem.W.keepIn K (.ref f47) = true)
    (a48 : PySem.W.findIn K (.ref D) "__call__" = some (some (.ref f48)))
    (i48 : PySem.W.isFn K (.ref f48) = true)
    (l48 : K.lookup f48 = some ⟨oc48, od48, .func (PySem.W.fnOf "__call__" "FieldMap.__call__" (defArgs (inClass (top 33) 2)) (defBody (inClass (top 33) 2)) (defScope (inClass (top 33) 2)) .none kV48 dc48 pm48 an48 cd48 ct48), sl48⟩)
    (c48 : PySem.W.codeIn K cd48 "FieldMap.__call__" = true)
    (k48 : PySem.W.keepIn K (.ref f48) = true)
    (a49 : PySem.W.findIn K (.ref C) "__init__" = some (some (.ref f49)))
    (i49 : PySem.W.isFn K (.ref f49) = true)
    (l49 : K.lookup f49 = some ⟨oc49, od49, .func (PySem.W.fnOf "__init__" "Field.__init__" (defArgs (inClass (top 29) 0)) (defBody (inClass (top 29) 0)) (defScope (inClass (top 29) 0)) (.ref Td) kV49 dc49 pm49 an49 cd49 ct49), sl49⟩)
    (c49 : PySem.W.codeIn K cd49 "Field.__init__" = true)
    (k49 : PySem.W.keepIn K (.ref f49) = true)
    (a50 : PySem.W.findIn K (.ref D) "__init__" = some (some (.ref f50)))
    (i50 : PySem.W.isFn K (.ref f50) = true)
    (l50 : K.lookup f50 = some ⟨oc50, od50, .func (PySem.W.fnOf "__init__" "FieldMap.__init__" (defArgs (inClass (top 33) 0)) (defBody (inClass (top 33) 0)) (defScope (inClass (top 33) 0)) .none kV50 dc50 pm50 an50 cd50 ct50), sl50⟩)
    (c50 : PySem.W.codeIn K cd50 "FieldMap.__init__" = true)
    (k50 : PySem.W.keepIn K (.ref f50) = true)
    (d1 : K.lookup Td = some oT)
    (d2 : oT.data = .seq #[.ref T0] nT)
    (d3 : K.lookup T0 = some o0)
    (d4 : o0.cls = .type "tuple")
    (d5 : o0.data = .seq #[.int 0 u0, .int 1 u1] n0)
    (pg : PySem.W.plainGet K C Str.empty = true)
    (ph : PySem.W.hasDictIn K C = true)
    (po : PySem.W.plainOver K C = true)
    (ps : PySem.W.findIn K (.ref C) "__setattr__" = some (some (.builtin "object.__setattr__")))
    (pm : PySem.W.makesIn K C = true)
    (pk : PySem.W.keepIn K (.ref C) = true)
    (pn_modulus : PySem.W.findIn K (.ref C) "modulus" = some none)
    (pn_p : PySem.W.findIn K (.ref C) "p" = some none)
    (pn_n : PySem.W.findIn K (.ref C) "n" = some none)
    (pn_q : PySem.W.findIn K (.ref C) "q" = some none)
    (ptc : PySem.W.findIn K (.ref C) "__class__" = some (some (.builtin "object.__class__")))
    (ptm : PySem.W.mroIn K C (.type "object") = some true)
    (pci : PySem.W.isClsIn K C = true)
    (pct : PySem.W.typeIn K (.ref C) = some (.type "type"))
    (qg : PySem.W.plainGet K D Str.empty = true)
    (qh : PySem.W.hasDictIn K D = true)
    (qo : PySem.W.plainOver K D = true)
    (qs : PySem.W.findIn K (.ref D) "__setattr__" = some (some (.builtin "object.__setattr__")))
    (qm : PySem.W.makesIn K D = true)
    (qk : PySem.W.keepIn K (.ref D) = true)
    (qn_source : PySem.W.findIn K (.ref D) "source" = some none)
    (qn_target : PySem.W.findIn K (.ref D) "target" = some none)
    (qn_image : PySem.W.findIn K (.ref D) "image" = some none)
    (qtc : PySem.W.findIn K (.ref D) "__class__" = some (some (.builtin "object.__class__")))
    (qtm : PySem.W.mroIn K D (.type "object") = some true)
    (qci : PySem.W.isClsIn K D = true)
    (qct : PySem.W.typeIn K (.ref D) = some (.type "type"))
    (tg : PySem.W.specialIn K (.builtin "object.__class__") "__get__" = some (some (.builtin "getset_descriptor.__get__")))
    (tt : PySem.W.takesIn K (.builtin "object.__class__") = some true)
    (isNF : PySem.W.subIn K (.type "int") (.ref C) = some false)
    (nf : PySem.W.subIn K (.type "tuple") (.ref D) = some false)
    (ex : PySem.W.excIn K G [.type "ValueError", .type "Exception", .type "BaseException", .type "object"] "ValueError.__new__" = true)
    (ek : PySem.W.keepIn K (.ref G) = true)
    (eb : PySem.W.subIn K (.ref G) (.type "BaseException") = some true)
    (et : PySem.W.typeIn K (.ref G) = some (.type "type"))
    (ei : PySem.W.isClsIn K G = true)
    (es : PySem.W.subIn K (.ref G) (.ref G) = some true)
    (b_len : PySem.W.nsIn K mainGlobals "len" = some none)
    (b_list : PySem.W.nsIn K mainGlobals "list" = some none)
    (b_tuple : PySem.W.nsIn K mainGlobals "tuple" = some none)
    (b_range : PySem.W.nsIn K mainGlobals "range" = some none)
    (b_max : PySem.W.nsIn K mainGlobals "max" = some none)
    (b_zip : PySem.W.nsIn K mainGlobals "zip" = some none)
    (b_enumerate : PySem.W.nsIn K mainGlobals "enumerate" = some none)
    (b_reversed : PySem.W.nsIn K mainGlobals "reversed" = some none)
    (b_isinstance : PySem.W.nsIn K mainGlobals "isinstance" = some none)
    (b_int : PySem.W.nsIn K mainGlobals "int" = some none)
    (b_bool : PySem.W.nsIn K mainGlobals "bool" = some none)
    (b_abs : PySem.W.nsIn K mainGlobals "abs" = some none)
    (b_any : PySem.W.nsIn K mainGlobals "any" = some none)
    (mo : PySem.W.nsIn K mainGlobals "MOST" = some (some (.int 400 tM))) :
    ∃ fd : FuncData, (∀ (s : Shared) (v : Value), BindsTo s fd ⟨[v], []⟩ [("_law_script", v)]) ∧ ∀ base : Heap, K.In base → base.Ns mainGlobals mg → FnOk l.prog w K mg base CX0 11 fa fd ["_law_script"] (spLaw K) := by
  have B : Bi mg := ⟨PySem.W.mg_none_of X N b_len, PySem.W.mg_none_of X N b_list, PySem.W.mg_none_of X N b_tuple, PySem.W.mg_none_of X N b_range, PySem.W.mg_none_of X N b_max, PySem.W.mg_none_of X N b_zip, PySem.W.mg_none_of X N b_enumerate, PySem.W.mg_none_of X N b_reversed, PySem.W.mg_none_of X N b_isinstance, PySem.W.mg_none_of X N b_int, PySem.W.mg_none_of X N b_bool, PySem.W.mg_none_of X N b_abs, PySem.W.mg_none_of X N b_any⟩
  have T : Txt K mg := ⟨B, ⟨_, PySem.W.mg_of X N mo⟩,
    ⟨⟨f1, _, fun_mk l1 c1 k1, PySem.W.mg_of X N a1⟩⟩,
    ⟨⟨f2, _, fun_mk l2 c2 k2, PySem.W.mg_of X N a2⟩⟩,
    ⟨⟨f3, _, fun_mk l3 c3 k3, PySem.W.mg_of X N a3⟩⟩,
    ⟨⟨f4, _, fun_mk l4 c4 k4, PySem.W.mg_of X N a4⟩⟩,
    ⟨⟨f5, _, fun_mk l5 c5 k5, PySem.W.mg_of X N a5⟩⟩,
    ⟨⟨f6, _, fun_mk l6 c6 k6, PySem.W.mg_of X N a6⟩⟩,
    ⟨⟨f7, _, fun_mk l7 c7 k7, PySem.W.mg_of X N a7⟩⟩,
    ⟨⟨f8, _, fun_mk l8 c8 k8, PySem.W.mg_of X N a8⟩⟩,
    ⟨⟨f9, _, fun_mk l9 c9 k9, PySem.W.mg_of X N a9⟩⟩,
    ⟨⟨f10, _, fun_mk l10 c10 k10, PySem.W.mg_of X N a10⟩⟩,
    ⟨⟨f11, _, fun_mk l11 c11 k11, PySem.W.mg_of X N a11⟩⟩,
    ⟨⟨f12, _, fun_mk l12 c12 k12, PySem.W.mg_of X N a12⟩⟩,
    ⟨⟨f13, _, fun_mk l13 c13 k13, PySem.W.mg_of X N a13⟩⟩,
    ⟨⟨f14, _, fun_mk l14 c14 k14, PySem.W.mg_of X N a14⟩⟩,
    ⟨⟨f15, _, fun_mk l15 c15 k15, PySem.W.mg_of X N a15⟩⟩,
    ⟨⟨f16, _, fun_mk l16 c16 k16, PySem.W.mg_of X N a16⟩⟩,
    ⟨⟨f17, _, fun_mk l17 c17 k17, PySem.W.mg_of X N a17⟩⟩,
    ⟨⟨f18, _, fun_mk l18 c18 k18, PySem.W.mg_of X N a18⟩⟩,
    ⟨⟨f19, _, fun_mk l19 c19 k19, PySem.W.mg_of X N a19⟩⟩,
    ⟨⟨f20, _, fun_mk l20 c20 k20, PySem.W.mg_of X N a20⟩⟩,
    ⟨⟨f21, _, fun_mk l21 c21 k21, PySem.W.mg_of X N a21⟩⟩,
    ⟨⟨f22, _, fun_mk l22 c22 k22, PySem.W.mg_of X N a22⟩⟩,
    ⟨⟨f23, _, fun_mk l23 c23 k23, PySem.W.mg_of X N a23⟩⟩,
    ⟨⟨f24, _, fun_mk l24 c24 k24, PySem.W.mg_of X N a24⟩⟩,
    ⟨⟨f25, _, fun_mk l25 c25 k25, PySem.W.mg_of X N a25⟩⟩,
    ⟨⟨f26, _, fun_mk l26 c26 k26, PySem.W.mg_of X N a26⟩⟩,
    ⟨⟨f27, _, fun_mk l27 c27 k27, PySem.W.mg_of X N a27⟩⟩,
    ⟨⟨f28, _, fun_mk l28 c28 k28, PySem.W.mg_of X N a28⟩⟩,
    ⟨⟨f29, _, fun_mk l29 c29 k29, PySem.W.mg_of X N a29⟩⟩,
    ⟨⟨f30, _, fun_mk l30 c30 k30, PySem.W.mg_of X N a30⟩⟩,
    ⟨⟨f31, _, fun_mk l31 c31 k31, PySem.W.mg_of X N a31⟩⟩,
    ⟨⟨f32, _, fun_mk l32 c32 k32, PySem.W.mg_of X N a32⟩⟩,
    ⟨⟨f33, _, fun_mk l33 c33 k33, PySem.W.mg_of X N a33⟩⟩,
    ⟨⟨f34, _, fun_mk l34 c34 k34, PySem.W.mg_of X N a34⟩⟩,
    ⟨⟨f35, _, fun_mk l35 c35 k35, PySem.W.mg_of X N a35⟩⟩,
    ⟨⟨f36, _, fun_mk l36 c36 k36, PySem.W.mg_of X N a36⟩⟩,
    ⟨⟨f37, _, fun_mk l37 c37 k37, PySem.W.mg_of X N a37⟩⟩⟩
  have hT0 : ∀ H, IT K H T0 [0, 1] := fun H => .inr ⟨o0, _, _, d3, d4, d5, (show 2 ≤ sizeLine by decide), .cons ⟨_, rfl⟩ (.cons ⟨_, rfl⟩ .nil)⟩
  have Z : Tc K mg C D := {
    T := T, cF := ⟨pg, ph, po, ps⟩, cM := ⟨qg, qh, qo, qs⟩, gF := PySem.W.mg_of X N aC, gM := PySem.W.mg_of X N aD,
    na_modulus := pn_modulus, na_p := pn_p, na_n := pn_n, na_q := pn_q, nb_source := qn_source, nb_target := qn_target, nb_image := qn_image,
    tyF := ⟨ptc, tg, tt, ptm⟩, tyM := ⟨qtc, tg, tt, qtm⟩, isF := kit_self, isM := kit_self, isNF := kit_not pci pct isNF (by simp), isNM := kit_not qci qct nf (by simp),
    nfM := (by unfold PySem.W.notFirst; rw [nf]; simp),
    init := ⟨f49, _, T0, ⟨⟨_, _, .ref Td, _, _, _, _, _, _, _, rfl, l49, c49, .inr ⟨by simp, Td, oT, [.ref T0], nT, rfl, d1, d2, .cons rfl .nil⟩, .inl rfl⟩, k49⟩, ⟨pm, a49, i49, pk⟩, hT0⟩,
    initM := ⟨f50, _, fun_mk l50 c50 k50, ⟨qm, a50, i50, qk⟩⟩,
    m_Field_is_member := ⟨⟨f38, _, fun_mk l38 c38 k38, ⟨a38, i38, k38⟩⟩⟩,
    m_Field_integer := ⟨⟨f39, _, fun_mk l39 c39 k39, ⟨a39, i39, k39⟩⟩⟩,
    m_Field_zero := ⟨⟨f40, _, fun_mk l40 c40 k40, ⟨a40, i40, k40⟩⟩⟩,
    m_Field_add := ⟨⟨f41, _, fun_mk l41 c41 k41, ⟨a41, i41, k41⟩⟩⟩,
    m_Field_multiply := ⟨⟨f42, _, fun_mk l42 c42 k42, ⟨a42, i42, k42⟩⟩⟩,
    m_Field_member := ⟨⟨f43, _, fun_mk l43 c43 k43, ⟨a43, i43, k43⟩⟩⟩,
    m_Field_members := ⟨⟨f44, _, fun_mk l44 c44 k44, ⟨a44, i44, k44⟩⟩⟩,
    m_Field_eq := ⟨⟨f45, _, fun_mk l45 c45 k45, ⟨a45, i45, k45⟩⟩⟩,
    m_FieldMap_image_of := ⟨⟨f46, _, fun_mk l46 c46 k46, ⟨a46, i46, k46⟩⟩⟩,
    m_FieldMap_eq := ⟨⟨f47, _, fun_mk l47 c47 k47, ⟨a47, i47, k47⟩⟩⟩,
    m_FieldMap_call := ⟨⟨f48, _, fun_mk l48 c48 k48, ⟨a48, i48, k48⟩⟩⟩ }
  have V : Ec K mg G := ⟨ex, PySem.W.mg_of X N aG, ek, eb, et, exm_own eb ei et es⟩
  have e := hfa.symm.trans (PySem.W.mg_of X N a37)
  cases e
  exact ⟨_, fun s v => .of_eq rfl, fun base kb _ => ok_law (P := l.prog) (w := w) (base := base) (fun_mk l37 c37 k37) Z V facts⟩
end Fm
namespace Fm
open PySem PySem.Spec PyProof.Rows L2
theorem walk {l : PySem.W.OpenLaw} {q : Program} {loose : List Str} {XP : (Str → Option Value) → Heap → Prop} {YP : World → Heap → Prop} {d : DefRec} {K : Params → PySem.W.Frag} (hn : l.most = some 63) (hdf : d.params.defaults = [])
    (hY : ∀ (w : World) (h : Heap), YP w h → (K w.params).In h)
    (F : ∀ (w : World) (mg : Str → Option Value) (fa : Addr) (h : Heap), (K w.params).In h → h.Ns mainGlobals mg → mg d.name = some (.ref fa) →
      ∃ fd : FuncData, (∀ (s : Shared) (u : Value), BindsTo s fd ⟨[u], []⟩ [("_law_script", u)]) ∧ ∀ base : Heap, (K w.params).In base → base.Ns mainGlobals mg → FnOk l.prog w (K w.params) mg base CX0 11 fa fd ["_law_script"] (spLaw (K w.params))) :
    PySem.W.WalkO q loose XP YP l.row.toRowW d [] (fun f vs => PySem.call f vs) :=
  L2.walk_of (n := 63) (k := 11) (x := "_law_script") (CX := fun _ => CX0) (sp := fun w => spLaw (K w.params)) hn (by decide) hdf ⟨rfl, by decide, by decide⟩ hY F (fun _ _ a ns _ _ hS => ⟨a, ns, rfl, hS, fun _ => rfl⟩) fun _ _ _ _ _ z => z
end Fm
open PySem PySem.W PyProof.Rows
set_option maxHeartbeats 0
section
open PySem PySem.W PyProof.Rows
theorem PySem.Challenge.cw_fieldmaps_k21_whole_field_maps_holds : PySem.Challenge.rw_fieldmaps_k21_whole_field_maps.Holds := by
  w_on
  o_law
  k_head
  (case hw => w_witness2)
  k_fill
  refine Fm.walk (l := PySem.Challenge.rw_fieldmaps_k21_whole_field_maps) rfl rfl (fun w h Y => PySem.W.kIn_of Y) ?F
  case F =>
    intro w mg fa h KX N hmg
    refine' Fm.all_mk KX N hmg ?aC ?aD ?aG ?a1 ?l1 ?c1 ?k1 ?a2 ?l2 ?c2 ?k2 ?a3 ?l3 ?c3 ?k3 ?a4 ?l4 ?c4 ?k4 ?a5 ?l5 ?c5 ?k5 ?a6 ?l6 ?c6 ?k6 ?a7 ?l7 ?c7 ?k7 ?a8 ?l8 ?c8 ?k8 ?a9 ?l9 ?c9 ?k9 ?a10 ?l10 ?c10 ?k10 ?a11 ?l11 ?c11 ?k11 ?a12 ?l12 ?c12 ?k12 ?a13 ?l13 ?c13 ?k13 ?a14 ?l14 ?c14 ?k14 ?a15 ?l15 ?c15 ?k15 ?a16 ?l16 ?c16 ?k16 ?a17 ?l17 ?c17 ?k17 ?a18 ?l18 ?c18 ?k18 ?a19 ?l19 ?c19 ?k19 ?a20 ?l20 ?c20 ?k20 ?a21 ?l21 ?c21 ?k21 ?a22 ?l22 ?c22 ?k22 ?a23 ?l23 ?c23 ?k23 ?a24 ?l24 ?c24 ?k24 ?a25 ?l25 ?c25 ?k25 ?a26 ?l26 ?c26 ?k26 ?a27 ?l27 ?c27 ?k27 ?a28 ?l28 ?c28 ?k28 ?a29 ?l29 ?c29 ?k29 ?a30 ?l30 ?c30 ?k30 ?a31 ?l31 ?c31 ?k31 ?a32 ?l32 ?c32 ?k32 ?a33 ?l33 ?c33 ?k33 ?a34 ?l34 ?c34 ?k34 ?a35 ?l35 ?c35 ?k35 ?a36 ?l36 ?c36 ?k36 ?a37 ?l37 ?c37 ?k37 ?a38 ?i38 ?l38 ?c38 ?k38 ?a39 ?i39 ?l39 ?c39 ?k39 ?a40 ?i40 ?l40 ?c40 ?k40 ?a41 ?i41 ?l41 ?c41 ?k41 ?a42 ?i42 ?l42 ?c42 ?k42 ?a43 ?i43 ?l43 ?c43 ?k43 ?a44 ?i44 ?l44 ?c44 ?k44 ?a45 ?i45 ?l45 ?c45 ?k45 ?a46 ?i46 ?l46 ?c46 ?k46 ?a47 ?i47 ?l47 ?c47 ?k47 ?a48 ?i48 ?l48 ?c48 ?k48 ?a49 ?i49 ?l49 ?c49 ?k49 ?a50 ?i50 ?l50 ?c50 ?k50 ?d1 ?d2 ?d3 ?d4 ?d5 ?pg ?ph ?po ?ps ?pm ?pk ?pn_modulus ?pn_p ?pn_n ?pn_q ?ptc ?ptm ?pci ?pct ?qg ?qh ?qo ?qs ?qm ?qk ?qn_source ?qn_target ?qn_image ?qtc ?qtm ?qci ?qct ?tg ?tt ?isNF ?nf ?ex ?ek ?eb ?et ?ei ?es ?b_len ?b_list ?b_tuple ?b_range ?b_max ?b_zip ?b_enumerate ?b_reversed ?b_isinstance ?b_int ?b_bool ?b_abs ?b_any ?mo
    (case aC => k_is); (case aD => k_is); (case aG => k_is); (case a1 => k_is); (case l1 => k_is); (case c1 => k_is)
    (case k1 => k_is); (case a2 => k_is); (case l2 => k_is); (case c2 => k_is); (case k2 => k_is); (case a3 => k_is)
    (case l3 => k_is); (case c3 => k_is); (case k3 => k_is); (case a4 => k_is); (case l4 => k_is); (case c4 => k_is)
    (case k4 => k_is); (case a5 => k_is); (case l5 => k_is); (case c5 => k_is); (case k5 => k_is); (case a6 => k_is)
    (case l6 => k_is); (case c6 => k_is); (case k6 => k_is); (case a7 => k_is); (case l7 => k_is); (case c7 => k_is)
    (case k7 => k_is); (case a8 => k_is); (case l8 => k_is); (case c8 => k_is); (case k8 => k_is); (case a9 => k_is)
    (case l9 => k_is); (case c9 => k_is); (case k9 => k_is); (case a10 => k_is); (case l10 => k_is); (case c10 => k_is)
    (case k10 => k_is); (case a11 => k_is); (case l11 => k_is); (case c11 => k_is); (case k11 => k_is); (case a12 => k_is)
    (case l12 => k_is); (case c12 => k_is); (case k12 => k_is); (case a13 => k_is); (case l13 => k_is); (case c13 => k_is)
    (case k13 => k_is); (case a14 => k_is); (case l14 => k_is); (case c14 => k_is); (case k14 => k_is); (case a15 => k_is)
    (case l15 => k_is); (case c15 => k_is); (case k15 => k_is); (case a16 => k_is); (case l16 => k_is); (case c16 => k_is)
    (case k16 => k_is); (case a17 => k_is); (case l17 => k_is); (case c17 => k_is); (case k17 => k_is); (case a18 => k_is)
    (case l18 => k_is); (case c18 => k_is); (case k18 => k_is); (case a19 => k_is); (case l19 => k_is); (case c19 => k_is)
    (case k19 => k_is); (case a20 => k_is); (case l20 => k_is); (case c20 => k_is); (case k20 => k_is); (case a21 => k_is)
    (case l21 => k_is); (case c21 => k_is); (case k21 => k_is); (case a22 => k_is); (case l22 => k_is); (case c22 => k_is)
    (case k22 => k_is); (case a23 => k_is); (case l23 => k_is); (case c23 => k_is); (case k23 => k_is); (case a24 => k_is)
    (case l24 => k_is); (case c24 => k_is); (case k24 => k_is); (case a25 => k_is); (case l25 => k_is); (case c25 => k_is)
    (case k25 => k_is); (case a26 => k_is); (case l26 => k_is); (case c26 => k_is); (case k26 => k_is); (case a27 => k_is)
    (case l27 => k_is); (case c27 => k_is); (case k27 => k_is); (case a28 => k_is); (case l28 => k_is); (case c28 => k_is)
    (case k28 => k_is); (case a29 => k_is); (case l29 => k_is); (case c29 => k_is); (case k29 => k_is); (case a30 => k_is)
    (case l30 => k_is); (case c30 => k_is); (case k30 => k_is); (case a31 => k_is); (case l31 => k_is); (case c31 => k_is)
    (case k31 => k_is); (case a32 => k_is); (case l32 => k_is); (case c32 => k_is); (case k32 => k_is); (case a33 => k_is)
    (case l33 => k_is); (case c33 => k_is); (case k33 => k_is); (case a34 => k_is); (case l34 => k_is); (case c34 => k_is)
    (case k34 => k_is); (case a35 => k_is); (case l35 => k_is); (case c35 => k_is); (case k35 => k_is); (case a36 => k_is)
    (case l36 => k_is); (case c36 => k_is); (case k36 => k_is); (case a37 => k_is); (case l37 => k_is); (case c37 => k_is)
    (case k37 => k_is); (case a38 => k_is); (case i38 => k_is); (case l38 => k_is); (case c38 => k_is); (case k38 => k_is)
    (case a39 => k_is); (case i39 => k_is); (case l39 => k_is); (case c39 => k_is); (case k39 => k_is); (case a40 => k_is)
    (case i40 => k_is); (case l40 => k_is); (case c40 => k_is); (case k40 => k_is); (case a41 => k_is); (case i41 => k_is)
    (case l41 => k_is); (case c41 => k_is); (case k41 => k_is); (case a42 => k_is); (case i42 => k_is); (case l42 => k_is)
    (case c42 => k_is); (case k42 => k_is); (case a43 => k_is); (case i43 => k_is); (case l43 => k_is); (case c43 => k_is)
    (case k43 => k_is); (case a44 => k_is); (case i44 => k_is); (case l44 => k_is); (case c44 => k_is); (case k44 => k_is)
    (case a45 => k_is); (case i45 => k_is); (case l45 => k_is); (case c45 => k_is); (case k45 => k_is); (case a46 => k_is)
    (case i46 => k_is); (case l46 => k_is); (case c46 => k_is); (case k46 => k_is); (case a47 => k_is); (case i47 => k_is)
    (case l47 => k_is); (case c47 => k_is); (case k47 => k_is); (case a48 => k_is); (case i48 => k_is); (case l48 => k_is)
    (case c48 => k_is); (case k48 => k_is); (case a49 => k_is); (case i49 => k_is); (case l49 => k_is); (case c49 => k_is)
    (case k49 => k_is); (case a50 => k_is); (case i50 => k_is); (case l50 => k_is); (case c50 => k_is); (case k50 => k_is)
    (case d1 => k_is); (case d2 => rfl); (case d3 => k_is); (case d4 => rfl); (case d5 => rfl); (case pg => k_is)
    (case ph => k_is); (case po => k_is); (case ps => k_is); (case pm => k_is); (case pk => k_is); (case pn_modulus => k_is)
    (case pn_p => k_is); (case pn_n => k_is); (case pn_q => k_is); (case ptc => k_is); (case ptm => k_is); (case pci => k_is)
    (case pct => k_is); (case qg => k_is); (case qh => k_is); (case qo => k_is); (case qs => k_is); (case qm => k_is)
    (case qk => k_is); (case qn_source => k_is); (case qn_target => k_is); (case qn_image => k_is); (case qtc => k_is); (case qtm => k_is)
    (case qci => k_is); (case qct => k_is); (case tg => k_is); (case tt => k_is); (case isNF => k_is); (case nf => k_is)
    (case ex => k_exc); (case ek => k_is); (case eb => k_is); (case et => k_is); (case ei => k_is); (case es => first | rfl | k_is)
    (case b_len => k_is); (case b_list => k_is); (case b_tuple => k_is); (case b_range => k_is); (case b_max => k_is); (case b_zip => k_is)
    (case b_enumerate => k_is); (case b_reversed => k_is); (case b_isinstance => k_is); (case b_int => k_is); (case b_bool => k_is); (case b_abs => k_is)
    (case b_any => k_is); (case mo => k_is)
end
