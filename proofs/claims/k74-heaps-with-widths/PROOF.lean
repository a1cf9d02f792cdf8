import PyProof.Rows.All
import Wide.All
import OpenK.AllK
import Wide.FinOn
import HandS.ForMost
import HandS.ForExc
import HandS.EndBits
import HandS.IsInst
import HandS.TupMul
import HandS.TupAny
import HandS.Style
import HandS.Flow
import HandS.Conv
import HandS.WideBits
import HandS.TupLe
import HandS.Defaults
import HandS.Lambda
import HandS.TryMany
import HandS.ExcField
import PyProof.ReprReads
import PyProof.ReprRoads
import HandS.Small
import HandS.More
import HandS.SortRule
import HandS.SortInts
import PyProof.P3Eq
import PyProof.TupleOfSeq
import PyProof.Rows.SumAny
import HandS.CallSlots
import KE.KExcSuper
import HandS.ExcInit
import HandS.HeadHook2
import HandS.Strs
import HandS.Star
import HandS.DictComp
import HandS.SetFor
import KE.GoesEnum
import KE.GoesMore
import HandS.Iter
import HandS.NoneIn
import HandS.Zip
import HandS.Head0
import HandS.Head1
import HandS.Head2
import HandS.HeadEnd
import HandS.HeadHook4
import HandS.EndTab
import HandS.NestedK
import KE.KStateDown
import HandS.Base
import HandS.Call
import HandS.Ends
import HandS.Words
import HandS.WordsExc
import HandS.HeadHook1
import Lean
import PySem.Challenge.RW_staybars_k74_heaps_with_widths
set_option Elab.async false
set_option linter.all false
set_option maxRecDepth 100000
set_option maxHeartbeats 4000000
/-! NXh: an order of data (ints, tuples), a sort that the kernel can run -/
namespace NO
open PySem
abbrev D := PyData
def iOf : D → Int
  | .int i => i
  | _ => 0
def cmpI (i j : Int) : Ordering := if i < j then .lt else if j < i then .gt else .eq
mutual
def cmpO : D → D → Ordering
  | .tuple xs, y => match y with
    | .tuple ys => cmpOs xs ys
    | _ => .gt
  | x, y => match y with
    | .tuple _ => .lt
    | y => cmpI (iOf x) (iOf y)
def cmpOs : List D → List D → Ordering
  | [], ys => match ys with
    | [] => .eq
    | _ :: _ => .lt
  | x :: xs, ys => match ys with
    | [] => .gt
    | y :: ys => match cmpO x y with
      | .eq => cmpOs xs ys
      | o => o
end
def isLt : Ordering → Bool
  | .lt => true
  | _ => false
def isEq : Ordering → Bool
  | .eq => true
  | _ => false
def tupD : D → Bool
  | .tuple _ => true
  | _ => false
theorem cmp_ii {x y : D} (hx : tupD x = false) (hy : tupD y = false) : cmpO x y = cmpI (iOf x) (iOf y) := by
  cases x <;> first | (cases hx; done) | (cases y <;> first | (cases hy; done) | (simp only [cmpO]; done))
theorem cmp_it {x : D} {ys : List D} (hx : tupD x = false) : cmpO x (.tuple ys) = .lt := by
  cases x <;> first | (cases hx; done) | (simp only [cmpO]; done)
theorem cmp_ti {y : D} {xs : List D} (hy : tupD y = false) : cmpO (.tuple xs) y = .gt := by
  cases y <;> first | (cases hy; done) | (simp only [cmpO]; done)
theorem cmp_tt {xs ys : List D} : cmpO (.tuple xs) (.tuple ys) = cmpOs xs ys := by simp only [cmpO]
theorem cmp_cc {x y : D} {xs ys : List D} : cmpOs (x :: xs) (y :: ys) = (cmpO x y).then (cmpOs xs ys) := by
  simp only [cmpOs]
  cases cmpO x y <;> rfl
theorem cmp_nn : cmpOs [] [] = .eq := by simp only [cmpOs]
theorem cmp_nc {y : D} {ys : List D} : cmpOs [] (y :: ys) = .lt := by simp only [cmpOs]
theorem cmp_cn {y : D} {ys : List D} : cmpOs (y :: ys) [] = .gt := by simp only [cmpOs]
theorem tup_of {x : D} (h : tupD x = true) : ∃ xs, x = .tuple xs := by
  cases x <;> first | (cases h; done) | exact ⟨_, rfl⟩
theorem cmpI_swap (i j : Int) : cmpI j i = (cmpI i j).swap := by
  unfold cmpI
  split <;> split <;> first | rfl | (split <;> first | rfl | omega) | omega
theorem cmpI_tr {i j k : Int} (h1 : cmpI i j ≠ .gt) (h2 : cmpI j k ≠ .gt) : cmpI i k ≠ .gt ∧ (cmpI i k = .eq → cmpI i j = .eq ∧ cmpI j k = .eq) := by
  have g : ∀ i j : Int, cmpI i j ≠ .gt ↔ i ≤ j := fun i j => by
    unfold cmpI
    split
    · simp; omega
    · split
      · simp; omega
      · simp; omega
  have e : ∀ i j : Int, cmpI i j = .eq ↔ i = j := fun i j => by
    unfold cmpI
    split
    · simp; omega
    · split
      · simp; omega
      · simp; omega
  rw [g] at h1 h2
  refine ⟨(g _ _).mpr (by omega), fun h => ?_⟩
  rw [e] at h
  exact ⟨(e _ _).mpr (by omega), (e _ _).mpr (by omega)⟩
mutual
theorem swap1 : ∀ x y : D, cmpO y x = (cmpO x y).swap
  | .tuple xs, y => by
    cases h : tupD y with
    | true =>
      obtain ⟨ys, rfl⟩ := tup_of h
      rw [cmp_tt, cmp_tt, swaps xs ys]
    | false => rw [cmp_it h, cmp_ti h]; rfl
  | .none, y => swap0 rfl y
  | .bool _, y => swap0 rfl y
  | .int _, y => swap0 rfl y
  | .str _, y => swap0 rfl y
  | .list _, y => swap0 rfl y
  | .dict _, y => swap0 rfl y
theorem swap0 {x : D} (hx : tupD x = false) (y : D) : cmpO y x = (cmpO x y).swap := by
  cases h : tupD y with
  | true =>
    obtain ⟨ys, rfl⟩ := tup_of h
    rw [cmp_it hx, cmp_ti hx]; rfl
  | false => rw [cmp_ii hx h, cmp_ii h hx, cmpI_swap]
theorem swaps : ∀ xs ys : List D, cmpOs ys xs = (cmpOs xs ys).swap
  | [], [] => by rw [cmp_nn]; rfl
  | [], _ :: _ => by rw [cmp_nc, cmp_cn]; rfl
  | _ :: _, [] => by rw [cmp_nc, cmp_cn]; rfl
  | x :: xs, y :: ys => by
    rw [cmp_cc, cmp_cc, swap1 x y, swaps xs ys]
    cases cmpO x y <;> rfl
end
mutual
theorem tr1 : ∀ x y z : D, cmpO x y ≠ .gt → cmpO y z ≠ .gt → cmpO x z ≠ .gt ∧ (cmpO x z = .eq → cmpO x y = .eq ∧ cmpO y z = .eq)
  | .tuple xs, y, z, h1, h2 => by
    cases hy : tupD y with
    | false => rw [cmp_ti hy] at h1; exact absurd rfl h1
    | true =>
      obtain ⟨ys, rfl⟩ := tup_of hy
      cases hz : tupD z with
      | false => rw [cmp_ti hz] at h2; exact absurd rfl h2
      | true =>
        obtain ⟨zs, rfl⟩ := tup_of hz
        rw [cmp_tt] at h1 h2 ⊢
        rw [cmp_tt, cmp_tt]
        exact trs xs ys zs h1 h2
  | .none, y, z, h1, h2 => tr0 rfl y z h1 h2
  | .bool _, y, z, h1, h2 => tr0 rfl y z h1 h2
  | .int _, y, z, h1, h2 => tr0 rfl y z h1 h2
  | .str _, y, z, h1, h2 => tr0 rfl y z h1 h2
  | .list _, y, z, h1, h2 => tr0 rfl y z h1 h2
  | .dict _, y, z, h1, h2 => tr0 rfl y z h1 h2
theorem tr0 {x : D} (hx : tupD x = false) (y z : D) (h1 : cmpO x y ≠ .gt) (h2 : cmpO y z ≠ .gt) : cmpO x z ≠ .gt ∧ (cmpO x z = .eq → cmpO x y = .eq ∧ cmpO y z = .eq) := by
  cases hz : tupD z with
  | true =>
    obtain ⟨zs, rfl⟩ := tup_of hz
    rw [cmp_it hx]
    exact ⟨by simp, fun h => nomatch h⟩
  | false =>
    cases hy : tupD y with
    | true =>
      obtain ⟨ys, rfl⟩ := tup_of hy
      rw [cmp_ti hz] at h2
      exact absurd rfl h2
    | false =>
      rw [cmp_ii hx hy] at h1 ⊢
      rw [cmp_ii hy hz] at h2 ⊢
      rw [cmp_ii hx hz]
      exact cmpI_tr h1 h2
theorem trs : ∀ xs ys zs : List D, cmpOs xs ys ≠ .gt → cmpOs ys zs ≠ .gt → cmpOs xs zs ≠ .gt ∧ (cmpOs xs zs = .eq → cmpOs xs ys = .eq ∧ cmpOs ys zs = .eq)
  | [], [], zs, h1, h2 => ⟨h2, fun h => ⟨cmp_nn, h⟩⟩
  | [], _ :: _, [], h1, h2 => absurd cmp_cn h2
  | [], _ :: _, _ :: _, h1, h2 => by rw [cmp_nc]; exact ⟨by simp, fun h => nomatch h⟩
  | _ :: _, [], _, h1, h2 => absurd cmp_cn h1
  | _ :: _, _ :: _, [], h1, h2 => absurd cmp_cn h2
  | x :: xs, y :: ys, z :: zs, h1, h2 => by
    rw [cmp_cc] at h1 h2
    rw [cmp_cc, cmp_cc, cmp_cc]
    have a1 : cmpO x y ≠ .gt := fun e => by rw [e] at h1; exact h1 rfl
    have a2 : cmpO y z ≠ .gt := fun e => by rw [e] at h2; exact h2 rfl
    obtain ⟨b1, b2⟩ := tr1 x y z a1 a2
    cases hc : cmpO x z with
    | gt => exact absurd hc b1
    | lt => exact ⟨by simp [Ordering.then], fun h => by simp [Ordering.then] at h⟩
    | eq =>
      obtain ⟨c1, c2⟩ := b2 hc
      rw [c1] at h1
      rw [c2] at h2
      rw [c1, c2]
      exact trs xs ys zs h1 h2
end
def ltD (x y : D) : Bool := isLt (cmpO x y)
theorem lt_no {x y : D} : ltD y x = false ↔ cmpO x y ≠ .gt := by
  unfold ltD
  rw [swap1 x y]
  cases cmpO x y <;> simp [isLt, Ordering.swap]
theorem lt_asym {x y : D} (h : ltD x y = true) : ltD y x = false := by
  rw [lt_no]
  unfold ltD at h
  cases hc : cmpO x y <;> rw [hc] at h <;> simp [isLt] at h <;> simp
theorem le_tr {x y z : D} (h1 : ltD y x = false) (h2 : ltD z y = false) : ltD z x = false := by
  rw [lt_no] at h1 h2 ⊢
  exact (tr1 x y z h1 h2).1
theorem le_tot (x y : D) : ltD y x = false ∨ ltD x y = false := by
  cases h : ltD x y with
  | false => exact .inr rfl
  | true => exact .inl (lt_asym h)
/-! ### shapes -/
inductive Sh where
  | i
  | l (s : Sh)
  | e
  | c (a r : Sh)
  deriving DecidableEq
mutual
def has : Sh → D → Bool
  | s, .tuple xs => hasC s xs
  | s, .int _ => match s with
    | .i => true
    | _ => false
  | _, _ => false
def hasC : Sh → List D → Bool
  | s, [] => match s with
    | .l _ => true
    | .e => true
    | _ => false
  | s, x :: xs => match s with
    | .l s => has s x && hasC (.l s) xs
    | .c a r => has a x && hasC r xs
    | _ => false
end
mutual
def shOf : D → Sh
  | .tuple xs => shL xs
  | _ => .i
def shL : List D → Sh
  | [] => .l .i
  | x :: xs => match xs with
    | [] => .l (shOf x)
    | _ :: _ => match shL xs with
      | .l s => if s = shOf x then .l s else .c (shOf x) (cut xs)
      | r => .c (shOf x) r
def cut : List D → Sh
  | [] => .e
  | x :: xs => .c (shOf x) (cut xs)
end
theorem has_tup {s : Sh} {xs : List D} : has s (.tuple xs) = hasC s xs := by simp only [has]
theorem has_int {s : Sh} {i : Int} : has s (.int i) = (match s with | .i => true | _ => false) := by
  unfold has
  cases s <;> rfl
theorem hasC_nil {s : Sh} : hasC s [] = (match s with | .l _ => true | .e => true | _ => false) := by
  unfold hasC
  cases s <;> rfl
theorem hasC_cons {s : Sh} {x : D} {xs : List D} : hasC s (x :: xs) = (match s with | .l s => has s x && hasC (.l s) xs | .c a r => has a x && hasC r xs | _ => false) := by
  cases s <;> simp only [hasC]
theorem has_int' {s : Sh} {y : D} {i : Int} (h : has s (.int i) = true) (k : has s y = true) : ∃ j, y = .int j := by
  rw [has_int] at h
  cases s <;> first | (cases h; done) | skip
  cases y with
  | int j => exact ⟨j, rfl⟩
  | tuple ys =>
    rw [has_tup] at k
    cases ys with
    | nil => rw [hasC_nil] at k; cases k
    | cons y ys => rw [hasC_cons] at k; cases k
  | _ => simp [has] at k
theorem has_tup' {s : Sh} {y : D} {xs : List D} (h : has s (.tuple xs) = true) (k : has s y = true) : ∃ ys, y = .tuple ys := by
  cases y with
  | int j =>
    obtain ⟨i, e⟩ := has_int' k h
    cases e
  | tuple ys => exact ⟨ys, rfl⟩
  | _ => simp [has] at k
theorem hasC_both {s : Sh} {x y : D} {xs ys : List D} (h : hasC s (x :: xs) = true) (k : hasC s (y :: ys) = true) : ∃ a r, has a x = true ∧ has a y = true ∧ hasC r xs = true ∧ hasC r ys = true := by
  rw [hasC_cons] at h k
  cases s with
  | l s =>
    simp only [Bool.and_eq_true] at h k
    exact ⟨_, _, h.1, k.1, h.2, k.2⟩
  | c a r =>
    simp only [Bool.and_eq_true] at h k
    exact ⟨_, _, h.1, k.1, h.2, k.2⟩
  | i => cases h
  | e => cases h
theorem cmpI_eq {i j : Int} : cmpI i j = .eq ↔ i = j := by
  unfold cmpI
  split
  · simp; omega
  · split
    · simp; omega
    · simp; omega
theorem cmp_int {i j : Int} : cmpO (.int i) (.int j) = cmpI i j := by simp only [cmpO, iOf]
mutual
/-- of one shape: told apart, or the same -/
theorem eq1 : ∀ (s : Sh) (x y : D), has s x = true → has s y = true → (cmpO x y = .eq ↔ x = y)
  | s, .tuple xs, y, h, k => by
    obtain ⟨ys, rfl⟩ := has_tup' h k
    rw [has_tup] at h k
    rw [cmp_tt, eqs s xs ys h k]
    simp
  | s, .int i, y, h, k => by
    obtain ⟨j, rfl⟩ := has_int' h k
    rw [cmp_int, cmpI_eq]
    simp
  | s, .none, y, h, k => by simp [has] at h
  | s, .bool _, y, h, k => by simp [has] at h
  | s, .str _, y, h, k => by simp [has] at h
  | s, .list _, y, h, k => by simp [has] at h
  | s, .dict _, y, h, k => by simp [has] at h
theorem eqs : ∀ (s : Sh) (xs ys : List D), hasC s xs = true → hasC s ys = true → (cmpOs xs ys = .eq ↔ xs = ys)
  | s, [], [], h, k => by simp [cmp_nn]
  | s, [], _ :: _, h, k => by simp [cmp_nc]
  | s, _ :: _, [], h, k => by simp [cmp_cn]
  | s, x :: xs, y :: ys, h, k => by
    obtain ⟨a, r, h1, h2, h3, h4⟩ := hasC_both h k
    rw [cmp_cc, List.cons.injEq, ← eq1 a x y h1 h2, ← eqs r xs ys h3 h4]
    cases cmpO x y <;> simp [Ordering.then]
end
/-! ### a merge sort with a counter -/
section
variable {α : Type} (lt : α → α → Bool)
def mrg : Nat → List α → List α → List α
  | 0, xs, ys => xs ++ ys
  | n + 1, xs, ys => match xs with
    | [] => ys
    | x :: xs' => match ys with
      | [] => xs
      | y :: ys' => match lt y x with
        | true => y :: mrg n xs ys'
        | false => x :: mrg n xs' ys
def prs : List (List α) → List (List α)
  | [] => []
  | [a] => [a]
  | a :: b :: r => mrg lt (a.length + b.length) a b :: prs r
def rnds : Nat → List (List α) → List (List α)
  | 0, l => l
  | n + 1, l => match l with
    | [] => []
    | [a] => [a]
    | a :: b :: r => rnds n (prs lt (a :: b :: r))
def msort (xs : List α) : List α := (rnds lt xs.length (xs.map fun x => [x])).flatten
variable {lt}
theorem mrg_perm : ∀ (n : Nat) (xs ys : List α), (mrg lt n xs ys).Perm (xs ++ ys)
  | 0, xs, ys => .refl _
  | n + 1, [], ys => .refl _
  | n + 1, x :: xs, [] => by rw [List.append_nil]; exact .refl _
  | n + 1, x :: xs, y :: ys => by
    unfold mrg
    dsimp only
    split
    · refine ((mrg_perm n (x :: xs) ys).cons y).trans ?_
      exact List.perm_middle.symm
    · exact (mrg_perm n xs (y :: ys)).cons x
theorem prs_perm : ∀ l : List (List α), (prs lt l).flatten.Perm l.flatten
  | [] => .refl _
  | [a] => .refl _
  | a :: b :: r => by
    unfold prs
    rw [List.flatten_cons, List.flatten_cons, List.flatten_cons, ← List.append_assoc]
    exact (mrg_perm _ a b).append (prs_perm r)
theorem rnds_perm : ∀ (n : Nat) (l : List (List α)), (rnds lt n l).flatten.Perm l.flatten
  | 0, l => .refl _
  | n + 1, [] => .refl _
  | n + 1, [a] => .refl _
  | n + 1, a :: b :: r => (rnds_perm n (prs lt (a :: b :: r))).trans (prs_perm _)
theorem msort_perm (xs : List α) : (msort lt xs).Perm xs := by
  refine (rnds_perm _ _).trans ?_
  have : (xs.map fun x => [x]).flatten = xs := by
    induction xs with
    | nil => rfl
    | cons x xs ih => rw [List.map_cons, List.flatten_cons, ih]; rfl
  rw [this]
theorem prs_len : ∀ l : List (List α), 2 ≤ l.length → (prs lt l).length < l.length
  | [], h => absurd h (by simp)
  | [a], h => absurd h (by simp)
  | [a, b], _ => by simp [prs]
  | [a, b, c], _ => by simp [prs]
  | a :: b :: c :: d :: r, _ => by
    have := prs_len (c :: d :: r) (by simp)
    rw [prs]
    simp only [List.length_cons] at this ⊢
    omega
theorem rnds_one : ∀ (n : Nat) (l : List (List α)), l.length ≤ n + 1 → (rnds lt n l).length ≤ 1
  | 0, l, h => h
  | n + 1, [], h => by simp [rnds]
  | n + 1, [a], h => by simp [rnds]
  | n + 1, a :: b :: r, h => by
    have := prs_len (lt := lt) (a :: b :: r) (by simp)
    exact rnds_one n _ (by omega)
/-- what is asked of the order -/
structure Tot (lt : α → α → Bool) : Prop where
  tr : ∀ x y z, lt y x = false → lt z y = false → lt z x = false
  tot : ∀ x y, lt x y = true → lt y x = false
abbrev Std (lt : α → α → Bool) (l : List α) : Prop := l.Pairwise fun x y => lt y x = false
theorem mrg_std (T : Tot lt) : ∀ (n : Nat) (xs ys : List α), xs.length + ys.length ≤ n → Std lt xs → Std lt ys → Std lt (mrg lt n xs ys)
  | 0, xs, ys, h, hx, hy => by
    have : xs = [] := List.length_eq_zero_iff.mp (by omega)
    subst this
    exact hy
  | n + 1, [], ys, h, hx, hy => hy
  | n + 1, x :: xs, [], h, hx, hy => hx
  | n + 1, x :: xs, y :: ys, h, hx, hy => by
    unfold mrg
    dsimp only
    have hx' := List.pairwise_cons.mp hx
    have hy' := List.pairwise_cons.mp hy
    simp only [List.length_cons] at h
    split
    · rename_i e
      refine List.pairwise_cons.mpr ⟨fun z hz => ?_, mrg_std T n _ _ (by simp only [List.length_cons]; omega) hx hy'.2⟩
      rcases List.mem_append.mp ((mrg_perm n (x :: xs) ys).mem_iff.mp hz) with hz | hz
      · rcases List.mem_cons.mp hz with rfl | hz
        · exact T.tot _ _ e
        · exact T.tr y x z (T.tot _ _ e) (hx'.1 z hz)
      · exact hy'.1 z hz
    · rename_i e
      refine List.pairwise_cons.mpr ⟨fun z hz => ?_, mrg_std T n _ _ (by simp only [List.length_cons]; omega) hx'.2 hy⟩
      rcases List.mem_append.mp ((mrg_perm n xs (y :: ys)).mem_iff.mp hz) with hz | hz
      · exact hx'.1 z hz
      · rcases List.mem_cons.mp hz with rfl | hz
        · exact e
        · exact T.tr x y z e (hy'.1 z hz)
theorem prs_std (T : Tot lt) : ∀ l : List (List α), (∀ a ∈ l, Std lt a) → ∀ a ∈ prs lt l, Std lt a
  | [], h, a, ha => by cases ha
  | [b], h, a, ha => h a ha
  | b :: c :: r, h, a, ha => by
    unfold prs at ha
    rcases List.mem_cons.mp ha with rfl | ha
    · exact mrg_std T _ _ _ (Nat.le_refl _) (h b (by simp)) (h c (by simp))
    · exact prs_std T r (fun d hd => h d (by simp [hd])) a ha
theorem rnds_std (T : Tot lt) : ∀ (n : Nat) (l : List (List α)), (∀ a ∈ l, Std lt a) → ∀ a ∈ rnds lt n l, Std lt a
  | 0, l, h => h
  | n + 1, [], h => h
  | n + 1, [a], h => h
  | n + 1, a :: b :: r, h => rnds_std T n _ (prs_std T _ h)
theorem msort_std (T : Tot lt) (xs : List α) : Std lt (msort lt xs) := by
  have h1 := rnds_one (lt := lt) xs.length (xs.map fun x => [x]) (by rw [List.length_map]; omega)
  have h2 := rnds_std T xs.length (xs.map fun x => [x]) fun a ha => by
    obtain ⟨x, _, rfl⟩ := List.mem_map.mp ha
    exact List.pairwise_singleton _ _
  unfold msort
  revert h1 h2
  generalize rnds lt xs.length (xs.map fun x => [x]) = r
  intro h1 h2
  match r, h1, h2 with
  | [], _, _ => exact .nil
  | [a], _, h2 => rw [List.flatten_cons, List.flatten_nil, List.append_nil]; exact h2 a (by simp)
  | _ :: _ :: _, h1, _ => exact absurd h1 (by simp)
end
theorem totD : Tot ltD := ⟨fun _ _ _ h1 h2 => le_tr h1 h2, fun _ _ h => lt_asym h⟩
def sortD (xs : List D) : List D := msort ltD xs
theorem sortD_perm (xs : List D) : (sortD xs).Perm xs := msort_perm xs
theorem sortD_std (xs : List D) : Std ltD (sortD xs) := msort_std totD xs
/-- just one sorted list of things of one shape -/
theorem std_uniq {s : Sh} {a b : List D} (p : a.Perm b) (ha : Std ltD a) (hb : Std ltD b) (h : ∀ x ∈ a, has s x = true) : a = b := by
  refine p.eq_of_pairwise (fun x y hx hy h1 h2 => ?_) ha hb
  have k := h y (p.mem_iff.mpr hy)
  rw [lt_no] at h1 h2
  refine (eq1 s x y (h x hx) k).mp ?_
  rw [swap1 x y] at h2
  cases hc : cmpO x y with
  | eq => rfl
  | lt => rw [hc] at h2; exact absurd rfl h2
  | gt => exact absurd hc h1
/-- tuples, none empty, of one shape; or few -/
def neT : D → Bool
  | .tuple (_ :: _) => true
  | _ => false
def oneSh : List D → Bool
  | [] => true
  | [x] => has (shOf x) x
  | x :: y :: r => (x :: y :: r).all fun z => neT z && has (shOf x) z
end NO

/-! MP2: a small interpreter. Values are PyData, or tuples and lists that hold cells; lists and dicts that the program changes are cells of a store. -/
namespace MP
open PySem
abbrev D := PyData
abbrev Key := L2.Key
inductive T where
  | d (v : D)
  | ref (n : Nat)
  | tup (ts : List T)
  | lst (ts : List T)
  | dct (ks : List Key) (ts : List T)
inductive Cell where
  | lst (ts : List T)
  | dct (ks : List Key) (ts : List T)
  | dead
abbrev Store := List Cell
abbrev Env := List (Option T)
inductive RV where
  | t (v : T)
  | new (ts : List T)
  | newD (ks : List Key) (ts : List T)
inductive Res (α : Type) where
  | ok (a : α) (st : Store)
  | exc (c : Nat) (v : T) (st : Store)
  | stuck
def Res.bind {α β : Type} (r : Res α) (f : α → Store → Res β) : Res β :=
  match r with
  | .ok a st => f a st
  | .exc c v st => .exc c v st
  | .stuck => .stuck
inductive Op where
  | add | sub | mul | fdiv | mod | pow
inductive Cm where
  | eq | ne | lt | le | gt | ge | isin | notin | is | isnot
inductive Ty where
  | int | bool | tuple | list | str | dict
inductive Prim where
  | len | int | max | min | all | any | tuple | list | repr | sum | sorted | abs
inductive Meth where
  | append | pop | insert | extend | clear
/-- methods that change nothing -/
inductive Ask where
  | index | get | cnt
inductive Pat where
  | nm (i : Nat)
  | tp (ps : List Pat)
inductive E where
  | hole
  | var (i : Nat)
  | con (v : D)
  | glo (x : Str) (v : D)
  | op (o : Op) (a b : E)
  | neg (a : E)
  | cmp (c : Cm) (a b : E)
  | chain (c c' : Cm) (a b e : E)
  | and (a b : E)
  | or (a b : E)
  | not (a : E)
  | ite (c a b : E)
  | tup (es : List E)
  | lst (es : List E)
  | dct (ks : List D) (es : List E)
  | call (f : Nat) (es : List E)
  | callk (f : Nat) (pm : List Nat) (es : List E)
  | prim (p : Prim) (es : List E)
  | isi (a : E) (t : Ty)
  | ix (a i : E)
  | sl (a lo hi : E)
  | comp (own : List Nat) (p : Pat) (it : E) (conds : List E) (elt : E)
  | meth (m : Meth) (o : E) (es : List E)
  | ask (m : Ask) (o : E) (es : List E)
  | rng (es : List E)
  | enm (a : E)
  | zp (a b : E)
  | al (a : E)
  | caught (k : Nat) (hs : List (Nat × Str)) (a : E)
  | disp (tp : Bool) (bs : List Bool) (es : List E)
  | dcomp (own : List Nat) (p : Pat) (it : E) (conds : List E) (k v : E)
  | lit (tp : Bool) (es : List E)
  | isis (a : E) (ts : List Ty)
  | rev (a : E)
inductive S where
  | set (p : Pat) (e : E)
  | setM (i : Nat) (e : E)
  | par (is : List (Nat × Bool)) (es : List E)
  | setI (o i e : E)
  | aug (i : Nat) (o : Op) (e : E)
  | expr (e : E)
  | ret (e : E)
  | retN
  | ife (c : E) (a b : List S)
  | for (p : Pat) (it : E) (body : List S)
  | whl (c : E) (body : List S)
  | pass
  | brk
  | cont
  | rais (c : Nat) (e : E)
  | dead
/-! ### pure values -/
def pures : List T → Option (List D)
  | [] => some []
  | .d x :: ts => (pures ts).map (x :: ·)
  | _ => none
def kD : Key → D
  | .inl i => .int i
  | .inr x => .str x
def mkTup (ts : List T) : T := match pures ts with
  | some xs => .d (.tuple xs)
  | none => .tup ts
def mkLst (ts : List T) : T := match pures ts with
  | some xs => .d (.list xs)
  | none => .lst ts
def mkDct (ks : List Key) (ts : List T) : T := match pures ts with
  | some xs => .d (.dict ((ks.map kD).zip xs))
  | none => .dct ks ts
/-- keys of a frozen dict -/
def keyD : D → Option Key
  | .int i => some (.inl i)
  | .str x => some (.inr x)
  | _ => none
def keysD : List (D × D) → Option (List Key)
  | [] => some []
  | (k, _) :: r => match keyD k, keysD r with
    | some k', some l => some (k' :: l)
    | _, _ => none
/-! ### refs -/
mutual
def T.old (n : Nat) : T → Bool
  | .d _ => true
  | .ref m => decide (m < n)
  | .tup ts => olds n ts
  | .lst ts => olds n ts
  | .dct _ ts => olds n ts
def olds (n : Nat) : List T → Bool
  | [] => true
  | t :: ts => t.old n && olds n ts
end
def Cell.old (n : Nat) : Cell → Bool
  | .lst ts => olds n ts
  | .dct _ ts => olds n ts
  | .dead => true
/-! ### what is read -/
inductive Vw where
  | dat (x : D)
  | lst (ts : List T)
  | tup (ts : List T)
  | dct (ks : List Key) (ts : List T)
  | bad
def view (st : Store) : T → Vw
  | .d (.list xs) => .lst (xs.map .d)
  | .d (.tuple xs) => .tup (xs.map .d)
  | .d (.dict kvs) => match keysD kvs with
    | some ks => .dct ks (kvs.map fun p => .d p.2)
    | none => .dct [] []
  | .d x => .dat x
  | .ref n => match st[n]? with
    | some (.lst ts) => .lst ts
    | some (.dct ks ts) => .dct ks ts
    | _ => .bad
  | .tup ts => .tup ts
  | .lst ts => .lst ts
  | .dct ks ts => .dct ks ts
/-- the items of a list or a tuple -/
def seqOf : Vw → Option (List T)
  | .lst ts => some ts
  | .tup ts => some ts
  | _ => none
/-- deep -/
def rdF (st : Store) : Nat → T → Option D
  | _, .d x => some x
  | 0, _ => none
  | k + 1, .ref n => match st[n]? with
    | some (.lst ts) => (ts.mapM (rdF st k)).map .list
    | some (.dct ks ts) => (ts.mapM (rdF st k)).map fun xs => .dict ((ks.map kD).zip xs)
    | _ => none
  | k + 1, .tup ts => (ts.mapM (rdF st k)).map .tuple
  | k + 1, .lst ts => (ts.mapM (rdF st k)).map .list
  | k + 1, .dct ks ts => (ts.mapM (rdF st k)).map fun xs => .dict ((ks.map kD).zip xs)
def rd (st : Store) (t : T) : Option D := rdF st 8 t
def RV.settle : RV → T
  | .t v => v
  | .new ts => mkLst ts
  | .newD ks ts => mkDct ks ts
abbrev big : Nat := 16777216
def truthV : Vw → Option Bool
  | .dat .none => some false
  | .dat (.bool b) => some b
  | .dat (.int i) => some (i != 0)
  | .dat (.str x) => some (x.length != 0)
  | .lst ts => some (!ts.isEmpty)
  | .tup ts => some (!ts.isEmpty)
  | .dct ks _ => some (!ks.isEmpty)
  | _ => none
/-! ### operators -/
def mulOk (i j : Int) : Bool := decide (Builtin.Int.intBits i + Builtin.Int.intBits j ≤ 134217728)
def powOk (i j : Int) : Bool := decide (0 ≤ j) && decide ((Builtin.Int.intBits i : Int) * j ≤ 2 ^ 27)
def repT (xs : List T) (k : Int) : List T := (List.replicate k.toNat xs).flatten
def tI (i : Int) : RV := .t (.d (.int i))
def tB (b : Bool) : RV := .t (.d (.bool b))
def binV : Op → Vw → Vw → Option RV
  | .add, .dat (.int i), .dat (.int j) => some (tI (i + j))
  | .add, .lst xs, .lst ys => if xs.length + ys.length ≤ big then some (.new (xs ++ ys)) else none
  | .add, .tup xs, .tup ys => if xs.length + ys.length ≤ big then some (.t (mkTup (xs ++ ys))) else none
  | .add, .dat (.str x), .dat (.str y) => if x.length + y.length ≤ big then some (.t (.d (.str (x ++ y)))) else none
  | .sub, .dat (.int i), .dat (.int j) => some (tI (i - j))
  | .mul, .dat (.int i), .dat (.int j) => if mulOk i j then some (tI (i * j)) else none
  | .mul, .tup xs, .dat (.int k) => if -1000 ≤ k ∧ k ≤ 1000 ∧ xs.length ≤ 1000 then some (.t (mkTup (repT xs k))) else none
  | .mul, .lst xs, .dat (.int k) => if 0 ≤ k ∧ k ≤ 1000 ∧ xs.length ≤ 1000 then some (.new (repT xs k)) else none
  | .fdiv, .dat (.int i), .dat (.int j) => if 0 < j ∧ j < 1073741824 then some (tI (i / j)) else none
  | .mod, .dat (.int i), .dat (.int j) => if 0 < j then some (tI (i % j)) else none
  | .pow, .dat (.int i), .dat (.int j) => if powOk i j then some (tI (i ^ j.toNat)) else none
  | _, _, _ => none
/-- x += y, x -= y, x *= y -/
def augI : Op → Int → Int → Option Int
  | .add, i, j => some (i + j)
  | .sub, i, j => some (i - j)
  | .mul, i, j => if mulOk i j then some (i * j) else none
  | _, _, _ => none
def flatD : D → Bool
  | .none => true
  | .bool _ => true
  | .int _ => true
  | .str _ => true
  | _ => false
def b2i (b : Bool) : Int := if b then 1 else 0
def eqF : D → D → Bool
  | .none, .none => true
  | .bool a, .bool b => a == b
  | .bool a, .int b => b2i a == b
  | .int a, .bool b => a == b2i b
  | .int a, .int b => a == b
  | .str a, .str b => decide (a = b)
  | _, _ => false
def isStr : D → Bool
  | .str _ => true
  | _ => false
def eqD (x y : D) : Option Bool := if isStr x && isStr y then some (eqF x y) else if SeqAt.shaped x && SeqAt.shaped y then some (PyData.eqv x y) else none
/-- lists of other lengths -/
def lenNe : D → D → Bool
  | .list xs, .list ys => decide (xs.length ≠ ys.length)
  | _, _ => false
def eqE (x y : D) : Option Bool := match eqD x y with
  | some b => some b
  | none => if lenNe x y then some false else none
/-- comparisons of data -/
def cmpD : Cm → D → D → Option Bool
  | .eq, x, y => eqE x y
  | .ne, x, y => (eqD x y).map (!·)
  | .lt, .int i, .int j => some (decide (i < j))
  | .le, .int i, .int j => some (decide (i ≤ j))
  | .gt, .int i, .int j => some (decide (j < i))
  | .ge, .int i, .int j => some (decide (j ≤ i))
  | .isin, x, .list xs => if flatD x && xs.all flatD then some (xs.any fun y => eqF y x) else none
  | .isin, x, .tuple xs => if flatD x && xs.all flatD then some (xs.any fun y => eqF y x) else none
  | .notin, x, .list xs => if flatD x && xs.all flatD then some (!xs.any fun y => eqF y x) else none
  | .notin, x, .tuple xs => if flatD x && xs.all flatD then some (!xs.any fun y => eqF y x) else none
  | .is, .none, .none => some true
  | .is, .bool a, .bool b => some (a == b)
  | .is, _, .none => some false
  | .isnot, .none, .none => some false
  | .isnot, .bool a, .bool b => some (!(a == b))
  | .isnot, _, .none => some true
  | _, _, _ => none
def isiV : Ty → Vw → Option Bool
  | _, .bad => none
  | .int, .dat (.int _) => some true
  | .int, .dat (.bool _) => some true
  | .bool, .dat (.bool _) => some true
  | .str, .dat (.str _) => some true
  | .tuple, .tup _ => some true
  | .list, .lst _ => some true
  | .dict, .dct _ _ => some true
  | _, .dat (.list _) => none
  | _, .dat (.tuple _) => none
  | _, .dat (.dict _) => none
  | _, _ => some false
def ixN (n : Nat) (i : Int) : Option Nat := if 0 ≤ i then (if i < n then some i.toNat else none) else if -(n : Int) ≤ i then some (i + n).toNat else none
def atT (ts : List T) (i : Int) : Option T := (ixN ts.length i).bind fun j => ts[j]?
def keyV : Vw → Option Key
  | .dat (.int i) => some (.inl i)
  | .dat (.str x) => some (.inr x)
  | _ => none
def getK (k : Key) : List Key → List T → Option T
  | k' :: ks, t :: ts => if k' = k then some t else getK k ks ts
  | _, _ => none
def ixV : Vw → Vw → Option T
  | .lst ts, .dat (.int i) => atT ts i
  | .tup ts, .dat (.int i) => atT ts i
  | .dct ks ts, .dat (.int i) => getK (.inl i) ks ts
  | .dct ks ts, .dat (.str x) => getK (.inr x) ks ts
  | _, _ => none
def sIx (n d : Nat) : Option Int → Nat
  | none => d
  | some v => if v < 0 then (max (v + n) 0).toNat else (min v n).toNat
def cutT (xs : List T) (lo hi : Option Int) : List T := (xs.drop (sIx xs.length 0 lo)).take (sIx xs.length xs.length hi - sIx xs.length 0 lo)
def slV : Vw → Option Int → Option Int → Option RV
  | .lst xs, lo, hi => some (.new (cutT xs lo hi))
  | .tup xs, lo, hi => some (.t (mkTup (cutT xs lo hi)))
  | _, _, _ => none
/-! ### built-in functions -/
def intsT? : List T → Option (List Int)
  | [] => some []
  | .d (.int i) :: r => (intsT? r).map (i :: ·)
  | _ => none
def boolsT? : List T → Option (List Bool)
  | [] => some []
  | .d (.bool b) :: r => (boolsT? r).map (b :: ·)
  | _ => none
def maxI : List Int → Int
  | [] => 0
  | [x] => x
  | x :: y :: r => let m := maxI (y :: r); if x < m then m else x
def minI : List Int → Int
  | [] => 0
  | [x] => x
  | x :: y :: r => let m := minI (y :: r); if m < x then m else x
def insI (x : Int) : List Int → List Int
  | [] => [x]
  | y :: r => if x ≤ y then x :: y :: r else y :: insI x r
def sortI : List Int → List Int
  | [] => []
  | x :: r => insI x (sortI r)
/-- tuples of tuples .. of ints, sorted -/
def sortOk (xs : List D) : Bool := NO.oneSh xs && xs.all fun x => decide (x.depth ≤ 60)
def sortV (ts : List T) : Option RV := match intsT? ts with
  | some ns => if ns.length < 64 then some (.new ((sortI ns).map fun i => .d (.int i))) else none
  | none => (pures ts).bind fun xs => if sortOk xs then some (.new ((NO.sortD xs).map .d)) else none
def reprOk (x : D) : Bool := x.showable && decide (x.depth ≤ 60) && decide (x.shown.length ≤ big)
def primV : Prim → List Vw → Option RV
  | .len, [.lst xs] => some (tI xs.length)
  | .len, [.tup xs] => some (tI xs.length)
  | .len, [.dat (.str x)] => some (tI x.length)
  | .int, [.dat (.int i)] => some (tI i)
  | .int, [.dat (.bool b)] => some (tI (b2i b))
  | .max, [.dat (.int i), .dat (.int j)] => some (tI (if j > i then j else i))
  | .min, [.dat (.int i), .dat (.int j)] => some (tI (if j < i then j else i))
  | .max, [.lst xs] => (intsT? xs).bind fun ns => if ns.isEmpty then none else some (tI (maxI ns))
  | .min, [.lst xs] => (intsT? xs).bind fun ns => if ns.isEmpty then none else some (tI (minI ns))
  | .all, [.lst xs] => (boolsT? xs).map fun bs => tB (bs.all id)
  | .any, [.lst xs] => (boolsT? xs).map fun bs => tB (bs.any id)
  | .tuple, [.lst xs] => some (.t (mkTup xs))
  | .tuple, [.tup xs] => some (.t (mkTup xs))
  | .list, [.lst xs] => some (.new xs)
  | .list, [.tup xs] => some (.new xs)
  | .sum, [.lst xs] => (intsT? xs).map fun ns => tI ns.sum
  | .max, [.tup xs] => (intsT? xs).bind fun ns => if ns.isEmpty then none else some (tI (maxI ns))
  | .min, [.tup xs] => (intsT? xs).bind fun ns => if ns.isEmpty then none else some (tI (minI ns))
  | .sum, [.tup xs] => (intsT? xs).map fun ns => tI ns.sum
  | .sorted, [.lst xs] => sortV xs
  | .sorted, [.tup xs] => sortV xs
  | .abs, [.dat (.int i)] => some (tI (if i < 0 then -i else i))
  | _, _ => none
def primT (st : Store) : Prim → List T → Option RV
  | .repr, [x] => (rd st x).bind fun x => if reprOk x then some (.t (.d (.str x.shown))) else none
  | .repr, _ => none
  | p, xs => primV p (xs.map (view st))
/-! ### changes of a cell -/
def insAt (k : Nat) (y : T) (xs : List T) : List T := xs.take k ++ y :: xs.drop k
def methT (st : Store) : Meth → List T → List T → Option (T × List T)
  | .append, xs, [y] => if xs.length < big then some (.d .none, xs ++ [y]) else none
  | .pop, xs, [] => if xs.isEmpty then none else (xs[xs.length - 1]?).map fun y => (y, xs.dropLast)
  | .pop, xs, [.d (.int i)] => (ixN xs.length i).bind fun k => (xs[k]?).map fun y => (y, xs.eraseIdx k)
  | .insert, xs, [.d (.int i), y] => if xs.length < big ∧ 0 ≤ i ∧ i ≤ 1000000 then some (.d .none, insAt i.toNat y xs) else none
  | .extend, xs, [y] => match view st y with
    | .lst ys => if xs.length + ys.length ≤ big then some (.d .none, xs ++ ys) else none
    | _ => none
  | .clear, _, [] => some (.d .none, [])
  | _, _, _ => none
def setK (k : Key) (v : T) (ks : List Key) (ts : List T) : List Key × List T :=
  if (ks.any fun k' => decide (k' = k)) = true then (ks, List.zipWith (fun k' t => if k' = k then v else t) ks ts) else (ks ++ [k], ts ++ [v])
/-- a dict of pairs, the later ones stored over the earlier ones -/
def dctOf (ks : List Key) (ts : List T) : List (Key × T) → List Key × List T
  | [] => (ks, ts)
  | p :: r => dctOf (setK p.1 p.2 ks ts).1 (setK p.1 p.2 ks ts).2 r
def idxOf (v : D) : List D → Option Nat
  | [] => none
  | z :: zs => if eqF z v then some 0 else (idxOf v zs).map (· + 1)
def flatIdx (v : D) (ts : List T) : Option RV := match pures ts with
  | some xs => if xs.all flatD && flatD v then (idxOf v xs).map fun j => tI (j : Nat) else none
  | none => none
def askT (st : Store) : Ask → T → List T → Option RV
  | .index, x, [y] => match view st x, view st y with
    | .lst ts, .dat v => flatIdx v ts
    | _, _ => none
  | .get, x, [k] => match view st x, keyV (view st k) with
    | .dct ks ts, some k => some (.t ((getK k ks ts).getD (.d .none)))
    | _, _ => none
  | .get, x, [k, y] => match view st x, keyV (view st k) with
    | .dct ks ts, some k => some (.t ((getK k ks ts).getD y))
    | _, _ => none
  | .cnt, x, [y] => match view st x, view st y with
    | .lst ts, .dat (.int i) => (intsT? ts).map fun ns => tI (ns.count i : Nat)
    | _, _ => none
  | _, _, _ => none
def askKind : Ask → Vw → Bool
  | .index, .lst _ => true
  | .cnt, .lst _ => true
  | .get, .dct _ _ => true
  | _, _ => false
def isisV : List Ty → Vw → Option Bool
  | [], w => (isiV .int w).map fun _ => false
  | t :: ts, w => match isiV t w, isisV ts w with
    | some b, some c => some (b || c)
    | _, _ => none
def revV : Vw → Option RV
  | .lst xs => some (.new xs.reverse)
  | .tup xs => some (.t (mkTup xs.reverse))
  | _ => none
def keysOk (ks : List D) : Bool := decide (ks.length ≤ 15) && match ks.mapM keyD with
  | some l => decide l.Nodup
  | none => false
/-! ### targets -/
mutual
def bindP (st : Store) : Pat → T → Env → Option Env
  | .nm i, v, env => some (env.set i (some v))
  | .tp ps, v, env => match view st v with
    | .tup ts => bindPs st ps ts env
    | .lst ts => bindPs st ps ts env
    | _ => none
def bindPs (st : Store) : List Pat → List T → Env → Option Env
  | [], [], env => some env
  | p :: ps, x :: xs, env => (bindP st p x env).bind fun env' => bindPs st ps xs env'
  | _, _, _ => none
end
def wipe (env : Env) : List Nat → Env
  | [] => env
  | v :: vs => (wipe env vs).set v none
/-- what a loop walks: items that stand still, or a cell (with its items' numbers, if e) -/
inductive Src where
  | fz (xs : List T)
  | cell (n : Nat) (e : Bool)
def wrapE (e : Bool) (i : Nat) (x : T) : T := if e then mkTup [.d (.int (i : Nat)), x] else x
def intsFrom (lo : Int) (n : Nat) : List T := (List.range n).map fun i => .d (.int (lo + (i : Nat)))
def enumT (xs : List T) : List T := xs.zipIdx.map fun p => mkTup [.d (.int (p.2 : Nat)), p.1]
def zipT (xs ys : List T) : List T := (xs.zip ys).map fun p => mkTup [p.1, p.2]
def rngT : List Vw → Option (List T)
  | [.dat (.int n)] => if -(big : Int) ≤ n ∧ n ≤ big then some (intsFrom 0 (n - 0).toNat) else none
  | [.dat (.int i), .dat (.int j)] => if -(big : Int) ≤ i ∧ i ≤ big ∧ -(big : Int) ≤ j ∧ j - i ≤ big then some (intsFrom i (j - i).toNat) else none
  | _ => none
def consO {α : Type} : Option α → List α → List α
  | some y, r => y :: r
  | none, r => r
def compL {α : Type} (g : T → Store → Res (Option α)) : List T → Store → Res (List α)
  | [], st => .ok [] st
  | x :: xs, st => (g x st).bind fun o st' => (compL g xs st').bind fun r st'' => .ok (consO o r) st''
def compC {α : Type} (g : T → Store → Res (Option α)) (n : Nat) (e : Bool) : Nat → Nat → Store → Res (List α)
  | 0, _, _ => .stuck
  | k + 1, i, st => match st[n]? with
    | some (.lst xs) => match xs[i]? with
      | none => .ok [] st
      | some x => (g (wrapE e i x) st).bind fun o st' => (compC g n e k (i + 1) st').bind fun r st'' => .ok (consO o r) st''
    | _ => .stuck
/-- what may leave a comprehension: no exception -/
def Res.noexc {α : Type} : Res α → Res α
  | .ok a st => .ok a st
  | _ => .stuck
inductive Flow where
  | next | brk | cont
  | ret (v : RV)
/-- a statement's end -/
inductive RS where
  | ok (f : Flow) (env : Env) (st : Store)
  | exc (c : Nat) (v : T) (env : Env) (st : Store)
  | stuck
/-- an expression, then the rest of a statement -/
def Res.then {α : Type} (r : Res α) (env : Env) (f : α → Store → RS) : RS := match r with
  | .ok a st => f a st
  | .exc c v st => .exc c v env st
  | .stuck => .stuck
/-- a statement in a loop's body, then the next turn -/
def RS.turn (r : RS) (f : Env → Store → RS) : RS := match r with
  | .ok .next env st => f env st
  | .ok .cont env st => f env st
  | .ok .brk env st => .ok .next env st
  | .ok (.ret v) env st => .ok (.ret v) env st
  | .exc c v env st => .exc c v env st
  | .stuck => .stuck
def RS.seq (r : RS) (f : Env → Store → RS) : RS := match r with
  | .ok .next env st => f env st
  | .ok fl env st => .ok fl env st
  | .exc c v env st => .exc c v env st
  | .stuck => .stuck
/-- a target bound, then the rest -/
def bindThen (o : Option Env) (k : Env → RS) : RS := match o with
  | some e => k e
  | none => .stuck
def forL (f : T → Env → Store → RS) : List T → Env → Store → RS
  | [], env, st => .ok .next env st
  | x :: xs, env, st => (f x env st).turn fun env' st' => forL f xs env' st'
def forC (f : T → Env → Store → RS) (n : Nat) (e : Bool) : Nat → Nat → Env → Store → RS
  | 0, _, _, _ => .stuck
  | k + 1, i, env, st => match st[n]? with
    | some (.lst xs) => match xs[i]? with
      | none => .ok .next env st
      | some x => (f (wrapE e i x) env st).turn fun env' st' => forC f n e k (i + 1) env' st'
    | _ => .stuck
def whileL (c : Env → Store → Res Bool) (f : Env → Store → RS) : Nat → Env → Store → RS
  | 0, _, _ => .stuck
  | k + 1, env, st => (c env st).then env fun b st1 => if b then (f env st1).turn fun env' st' => whileL c f k env' st' else .ok .next env st1
def lift {α : Type} (o : Option α) (st : Store) : Res α := match o with
  | some a => .ok a st
  | none => .stuck
def settled (r : Res RV) : Res T := r.bind fun v st => .ok v.settle st
/-- the value at a name that is to be changed: a new list becomes a cell -/
def alloc (r : Res RV) : Res T := r.bind fun v st => match v with
  | .t v => .ok v st
  | .new xs => if olds st.length xs then .ok (.ref st.length) (st ++ [.lst xs]) else .stuck
  | .newD ks xs => if olds st.length xs then .ok (.ref st.length) (st ++ [.dct ks xs]) else .stuck
/-- a test -/
def truthOf (r : Res RV) : Res Bool := (settled r).bind fun x st => lift (truthV (view st x)) st
def evalF (m : Bool) (r : Res RV) : Res T := if m then alloc r else settled r
abbrev CF := Nat → List T → Store → Res RV
def loopSrc {α : Type} (g : T → Store → Res (Option α)) : Src → Store → Res (List α)
  | .fz xs, st => compL g xs st
  | .cell n e, st => match st[n]? with
    | some (.lst xs) => compC g n e (xs.length + 1) 0 st
    | _ => .stuck
def forSrc (f : T → Env → Store → RS) : Src → Env → Store → RS
  | .fz xs, env, st => forL f xs env st
  | .cell n e, env, st => match st[n]? with
    | some (.lst xs) => forC f n e (xs.length + 1) 0 env st
    | _ => .stuck
def srcOf (st : Store) : RV → Option Src
  | .t (.ref n) => match st[n]? with
    | some (.lst _) => some (.cell n false)
    | _ => none
  | .t v => match view st v with
    | .lst ts => some (.fz ts)
    | .tup ts => some (.fz ts)
    | _ => none
  | .new xs => some (.fz xs)
  | .newD _ _ => none
/-- enumerated -/
def srcE (st : Store) (v : RV) : Option Src := match srcOf st v with
  | some (.fz xs) => some (.fz (enumT xs))
  | some (.cell n _) => some (.cell n true)
  | none => none
/-- a sequence that stands still; whether it is a list -/
def seqRV (st : Store) : RV → Option (Bool × List T)
  | .t (.ref _) => none
  | .t v => match view st v with
    | .lst ts => some (true, ts)
    | .tup ts => some (false, ts)
    | _ => none
  | .new xs => some (true, xs)
  | .newD _ _ => none
def zipS : Option (Bool × List T) → Option (Bool × List T) → Option Src
  | some (b, xs), some (c, ys) => if b == c then some (.fz (zipT xs ys)) else none
  | _, _ => none
def setAll : List Nat → List T → Env → Option Env
  | [], [], env => some env
  | i :: is, v :: vs, env => setAll is vs (env.set i (some v))
  | _, _, _ => none
def pick {α : Type} (vs : List α) : List Nat → Option (List α)
  | [] => some []
  | i :: is => match vs[i]?, pick vs is with
    | some v, some r => some (v :: r)
    | _, _ => none
/-- a call that is looked at: the kind of the def (0: what was raised, or []; 1: ["told", value], or what was raised) -/
def caughtOf (k : Nat) (hs : List (Nat × Str)) (r : Res RV) : Res RV := match r with
  | .ok v st => match k with
    | 0 => .ok (.new []) st
    | _ => .ok (.new [.d (.str "told"), v.settle]) st
  | .exc c v st => match hs.lookup c with
    | some tag => .ok (.new [.d (.str tag), v]) st
    | none => .stuck
  | .stuck => .stuck
mutual
def evalE (cf : CF) : E → Env → Store → Res RV
  | .hole, _, _ => .stuck
  | .var i, env, st => match env[i]? with
    | some (some v) => .ok (.t v) st
    | _ => .stuck
  | .con v, _, st => .ok (.t (.d v)) st
  | .glo _ v, _, st => .ok (.t (.d v)) st
  | .op o a b, env, st => (settled (evalE cf a env st)).bind fun x st1 => (settled (evalE cf b env st1)).bind fun y st2 => lift (binV o (view st2 x) (view st2 y)) st2
  | .neg a, env, st => (settled (evalE cf a env st)).bind fun x st1 => match view st1 x with
    | .dat (.int i) => .ok (tI (-i)) st1
    | _ => .stuck
  | .cmp c a b, env, st => (settled (evalE cf a env st)).bind fun x st1 => (settled (evalE cf b env st1)).bind fun y st2 => lift (((rd st2 x).bind fun x => (rd st2 y).bind fun y => cmpD c x y).map tB) st2
  | .chain c c' a b e, env, st => (settled (evalE cf a env st)).bind fun x st1 => (settled (evalE cf b env st1)).bind fun y st2 =>
      (lift ((rd st2 x).bind fun x => (rd st2 y).bind fun y => cmpD c x y) st2).bind fun k st2 => if k then (settled (evalE cf e env st2)).bind fun z st3 => lift (((rd st3 y).bind fun y => (rd st3 z).bind fun z => cmpD c' y z).map tB) st3 else .ok (tB false) st2
  | .and a b, env, st => (settled (evalE cf a env st)).bind fun x st1 => match x with
    | .d (.bool true) => evalE cf b env st1
    | .d (.bool false) => .ok (tB false) st1
    | _ => .stuck
  | .or a b, env, st => (settled (evalE cf a env st)).bind fun x st1 => match x with
    | .d (.bool false) => evalE cf b env st1
    | .d (.bool true) => .ok (tB true) st1
    | _ => .stuck
  | .not a, env, st => (truthOf (evalE cf a env st)).bind fun b st1 => .ok (tB (!b)) st1
  | .ite c a b, env, st => (truthOf (evalE cf c env st)).bind fun x st1 => if x then evalE cf a env st1 else evalE cf b env st1
  | .tup es, env, st => (evalTs cf es env st).bind fun xs st1 => .ok (.t (mkTup xs)) st1
  | .lst es, env, st => (evalTs cf es env st).bind fun xs st1 => .ok (.new xs) st1
  | .dct ks es, env, st => (evalTs cf es env st).bind fun xs st1 => match ks.mapM keyD with
    | some l => if l.length = xs.length ∧ keysOk ks then .ok (.newD l xs) st1 else .stuck
    | none => .stuck
  | .call f es, env, st => (evalTs cf es env st).bind fun xs st1 => cf f xs st1
  | .callk f pm es, env, st => (evalTs cf es env st).bind fun xs st1 => match pick xs pm with
    | some ys => cf f ys st1
    | none => .stuck
  | .prim p es, env, st => (evalTs cf es env st).bind fun xs st1 => lift (primT st1 p xs) st1
  | .isi a t, env, st => (settled (evalE cf a env st)).bind fun x st1 => lift ((isiV t (view st1 x)).map tB) st1
  | .ix a i, env, st => (settled (evalE cf a env st)).bind fun x st1 => (settled (evalE cf i env st1)).bind fun y st2 => lift ((ixV (view st2 x) (view st2 y)).map .t) st2
  | .sl a lo hi, env, st => (settled (evalE cf a env st)).bind fun x st1 => (evalO cf lo env st1).bind fun l st2 => (evalO cf hi env st2).bind fun h st3 => lift (slV (view st3 x) l h) st3
  | .comp own p it conds elt, env, st => (evalIt cf it env st).bind fun src st1 => ((loopSrc (fun x st => (lift (bindP st p x (wipe env own)) st).bind fun env' st2 => (evalCs cf conds env' st2).bind fun b st3 =>
      if b then (settled (evalE cf elt env' st3)).bind fun v st4 => .ok (some v) st4 else .ok none st3) src st1).noexc).bind fun xs st5 => .ok (.new xs) st5
  | .meth m o es, env, st => (settled (evalE cf o env st)).bind fun x st1 => match x with
    | .ref n => match st1[n]? with
      | some (.lst _) => (evalTs cf es env st1).bind fun ys st2 => match st2[n]? with
        | some (.lst xs) => match methT st2 m xs ys with
          | some (v, xs') => if olds n xs' then .ok (.t v) (st2.set n (.lst xs')) else .stuck
          | none => .stuck
        | _ => .stuck
      | _ => .stuck
    | _ => .stuck
  | .ask m o es, env, st => (settled (evalE cf o env st)).bind fun x st1 => if askKind m (view st1 x) then (evalTs cf es env st1).bind fun ys st2 => lift (askT st2 m x ys) st2 else .stuck
  | .disp b bs es, env, st => (evalSs cf es bs env st).bind fun xs st1 => if xs.length ≤ big then (if b then .ok (.t (mkTup xs)) st1 else .ok (.new xs) st1) else .stuck
  | .dcomp own p it conds k v, env, st => (evalIt cf it env st).bind fun src st1 => ((loopSrc (fun x st => (lift (bindP st p x (wipe env own)) st).bind fun env' st2 => (evalCs cf conds env' st2).bind fun b st3 =>
      if b then (settled (evalE cf k env' st3)).bind fun kx st4 => (settled (evalE cf v env' st4)).bind fun vx st5 => lift ((keyV (view st5 kx)).map fun q => some (q, vx)) st5 else .ok none st3) src st1).noexc).bind fun ps st6 => .ok (.newD (dctOf [] [] ps).1 (dctOf [] [] ps).2) st6
  | .lit b es, env, st => (evalTs cf es env st).bind fun vs st1 => (lift (rngT (vs.map (view st1))) st1).bind fun xs st2 => .ok (if b then .t (mkTup xs) else .new xs) st2
  | .isis a ts, env, st => (settled (evalE cf a env st)).bind fun x st1 => lift ((isisV ts (view st1 x)).map tB) st1
  | .rev a, env, st => (settled (evalE cf a env st)).bind fun x st1 => lift (revV (view st1 x)) st1
  | .rng _, _, _ => .stuck
  | .enm _, _, _ => .stuck
  | .zp _ _, _, _ => .stuck
  | .al a, env, st => (alloc (evalE cf a env st)).bind fun v st1 => .ok (.t v) st1
  | .caught k hs a, env, st => caughtOf k hs (evalE cf a env st)
/-- what a loop walks -/
def evalIt (cf : CF) : E → Env → Store → Res Src
  | .rng [a], env, st => (settled (evalE cf a env st)).bind fun x st1 => match view st1 x with
    | .dat (.int n) => if -(big : Int) ≤ n ∧ n ≤ big then .ok (.fz (intsFrom 0 n.toNat)) st1 else .stuck
    | _ => .stuck
  | .rng [a, b], env, st => (settled (evalE cf a env st)).bind fun x st1 => (settled (evalE cf b env st1)).bind fun y st2 => match view st2 x, view st2 y with
    | .dat (.int i), .dat (.int j) => if -(big : Int) ≤ i ∧ i ≤ big ∧ -(big : Int) ≤ j ∧ j - i ≤ big then .ok (.fz (intsFrom i (j - i).toNat)) st2 else .stuck
    | _, _ => .stuck
  | .enm a, env, st => (evalE cf a env st).bind fun v st1 => lift (srcE st1 v) st1
  | .zp a b, env, st => (settled (evalE cf a env st)).bind fun v st1 => (settled (evalE cf b env st1)).bind fun u st2 => lift (zipS (seqRV st2 (.t v)) (seqRV st2 (.t u))) st2
  | e, env, st => (evalE cf e env st).bind fun v st1 => lift (srcOf st1 v) st1
def evalTs (cf : CF) : List E → Env → Store → Res (List T)
  | [], _, st => .ok [] st
  | e :: es, env, st => (settled (evalE cf e env st)).bind fun v st1 => (evalTs cf es env st1).bind fun vs st2 => .ok (v :: vs) st2
def evalFs (cf : CF) : List (Nat × Bool) → List E → Env → Store → Res (List T)
  | _, [], _, st => .ok [] st
  | [], _ :: _, _, _ => .stuck
  | (_, m) :: is, e :: es, env, st => (evalF m (evalE cf e env st)).bind fun v st1 => (evalFs cf is es env st1).bind fun vs st2 => .ok (v :: vs) st2
def evalSs (cf : CF) : List E → List Bool → Env → Store → Res (List T)
  | [], _, _, st => .ok [] st
  | e :: es, bs, env, st => (settled (evalE cf e env st)).bind fun v st1 => (lift (if bs.headD false then seqOf (view st1 v) else some [v]) st1).bind fun ws st1 => (evalSs cf es bs.tail env st1).bind fun vs st2 => .ok (ws ++ vs) st2
def evalCs (cf : CF) : List E → Env → Store → Res Bool
  | [], _, st => .ok true st
  | e :: es, env, st => (truthOf (evalE cf e env st)).bind fun x st1 => if x then evalCs cf es env st1 else .ok false st1
def evalO (cf : CF) : E → Env → Store → Res (Option Int)
  | .hole, _, st => .ok none st
  | e, env, st => (settled (evalE cf e env st)).bind fun x st1 => match view st1 x with
    | .dat (.int i) => .ok (some i) st1
    | _ => .stuck
end
mutual
def exec (cf : CF) (wf : Nat) : S → Env → Store → RS
  | .set p e, env, st => (settled (evalE cf e env st)).then env fun v st1 => bindThen (bindP st1 p v env) fun env' => .ok .next env' st1
  | .setM i e, env, st => (alloc (evalE cf e env st)).then env fun v st1 => .ok .next (env.set i (some v)) st1
  | .par is es, env, st => (evalFs cf is es env st).then env fun vs st1 => bindThen (setAll (is.map (·.1)) vs env) fun env' => .ok .next env' st1
  | .setI o i e, env, st => (settled (evalE cf e env st)).then env fun v st1 => (settled (evalE cf o env st1)).then env fun x st2 => (settled (evalE cf i env st2)).then env fun k st3 => match x with
    | .ref n => match st3[n]? with
      | some (.lst xs) => match view st3 k with
        | .dat (.int k) => match ixN xs.length k with
          | some j => if v.old n then .ok .next env (st3.set n (.lst (xs.set j v))) else .stuck
          | none => .stuck
        | _ => .stuck
      | some (.dct ks ts) => match keyV (view st3 k) with
        | some k => if v.old n ∧ ks.length < 1000 then .ok .next env (st3.set n (.dct (setK k v ks ts).1 (setK k v ks ts).2)) else .stuck
        | none => .stuck
      | _ => .stuck
    | _ => .stuck
  | .aug i o e, env, st => match env[i]? with
    | some (some (.d (.int x))) => (settled (evalE cf e env st)).then env fun v st1 => match v with
      | .d (.int y) => match augI o x y with
        | some z => .ok .next (env.set i (some (.d (.int z)))) st1
        | none => .stuck
      | _ => .stuck
    | _ => .stuck
  | .expr e, env, st => (evalE cf e env st).then env fun _ st1 => .ok .next env st1
  | .ret e, env, st => (evalE cf e env st).then env fun v st1 => .ok (.ret v) env st1
  | .retN, env, st => .ok (.ret (.t (.d .none))) env st
  | .ife c a b, env, st => (truthOf (evalE cf c env st)).then env fun x st1 => if x then execs cf wf a env st1 else execs cf wf b env st1
  | .for p it body, env, st => (evalIt cf it env st).then env fun src st1 => forSrc (fun x env st => bindThen (bindP st p x env) fun env' => execs cf wf body env' st) src env st1
  | .whl c body, env, st => whileL (fun env st => truthOf (evalE cf c env st)) (fun env st => execs cf wf body env st) wf env st
  | .pass, env, st => .ok .next env st
  | .brk, env, st => .ok .brk env st
  | .cont, env, st => .ok .cont env st
  | .rais c e, env, st => (settled (evalE cf e env st)).then env fun v st1 => .exc c v env st1
  | .dead, _, _ => .stuck
def execs (cf : CF) (wf : Nat) : List S → Env → Store → RS
  | [], env, st => .ok .next env st
  | s :: ss, env, st => (exec cf wf s env st).seq fun env' st1 => execs cf wf ss env' st1
end
structure Def where
  np : Nat
  n : Nat
  body : List S
def leave (n0 : Nat) (st : Store) : RV → Res RV
  | .t v => if v.old n0 then .ok (.t v) (st.take n0) else match v with
    | .ref n => match st[n]? with
      | some (.lst xs) => if olds n0 xs then .ok (.new xs) (st.take n0) else .ok (.t (.ref n)) st
      | some (.dct ks xs) => if olds n0 xs then .ok (.newD ks xs) (st.take n0) else .ok (.t (.ref n)) st
      | _ => .stuck
    | v => .ok (.t v) st
  | .new xs => if olds n0 xs then .ok (.new xs) (st.take n0) else .ok (.new xs) st
  | .newD ks xs => if olds n0 xs then .ok (.newD ks xs) (st.take n0) else .ok (.newD ks xs) st
def finish (n0 : Nat) : RS → Res RV
  | .ok (.ret v) _ st => leave n0 st v
  | .ok .next _ st => .ok (.t (.d .none)) (st.take n0)
  | .ok _ _ _ => .stuck
  | .exc c v _ st => if v.old n0 then .exc c v (st.take n0) else .exc c v st
  | .stuck => .stuck
def startE (d : Def) (args : List T) : Env := args.map some ++ List.replicate (d.n - args.length) none
def callN (tbl : List Def) (wf : Nat) : Nat → CF
  | 0, _, _, _ => .stuck
  | n + 1, f, args, st => match tbl[f]? with
    | none => .stuck
    | some d => if args.length = d.np then finish st.length (execs (callN tbl wf n) wf d.body (startE d args) st) else .stuck
end MP

/-! MP2, part b: how values and stores lie in the abstract heap of the hand layer. -/
namespace MP
open PySem PySem.Spec PyProof.Rows L2
/-- f: what is read and stays; u: what stays and is not read (a list that a comprehension fills) -/
structure FS where
  f : Addr → Prop
  u : Addr → Prop
abbrev Fg := PySem.W.Frag
def Pl : HO → Prop
  | .tbl _ => False
  | .ext _ => False
  | _ => True
def KTp (K : Fg) (a : Addr) (vs : List V) : Prop :=
  ∃ (o : Obj) (its : Array Value) (n : Nat), K.lookup a = some o ∧ o.cls = .type "tuple" ∧ o.data = .seq its n ∧ its.size ≤ sizeLine ∧ Vals vs its.toList
def FzL (F : FS) (K : Fg) (H : Hp) (a : Addr) (vs : List V) : Prop := F.f a ∧ Rd H a (.lst vs)
def FzT (F : FS) (K : Fg) (H : Hp) (a : Addr) (vs : List V) : Prop := (F.f a ∧ Rd H a (.tup vs)) ∨ KTp K a vs
theorem FzL.sq {F : FS} {K : Fg} {H : Hp} {a : Addr} {vs : List V} (h : FzL F K H a vs) : SqL K H a vs := .inl h.2
theorem FzT.sq {F : FS} {K : Fg} {H : Hp} {a : Addr} {vs : List V} (h : FzT F K H a vs) : SqT K H a vs := h.imp And.right id
mutual
/-- a value of the program stands for PyData -/
def RD (F : FS) (K : Fg) (H : Hp) : D → V → Prop
  | .none, v => v = .non
  | .bool b, v => v = .bl b
  | .int i, v => v = .int i
  | .str x, v => v = .str x ∧ x.length ≤ big
  | .list xs, v => ∃ a vs, v = .ref a ∧ FzL F K H a vs ∧ xs.length ≤ big ∧ RDs F K H xs vs
  | .tuple xs, v => ∃ a vs, v = .ref a ∧ FzT F K H a vs ∧ xs.length ≤ big ∧ RDs F K H xs vs
  | .dict kvs, v => ∃ a us, v = .ref a ∧ F.f a ∧ H a = some (.dK us) ∧ kvs.length ≤ big ∧ RDk F K H kvs us
def RDs (F : FS) (K : Fg) (H : Hp) : List D → List V → Prop
  | [], vs => vs = []
  | x :: xs, vs => ∃ v r, vs = v :: r ∧ RD F K H x v ∧ RDs F K H xs r
def RDk (F : FS) (K : Fg) (H : Hp) : List (D × D) → List (Key × V) → Prop
  | [], us => us = []
  | (k, x) :: xs, us => ∃ k' v r, us = (k', v) :: r ∧ keyD k = some k' ∧ RD F K H x v ∧ RDk F K H xs r
end
mutual
def TR (F : FS) (ρ : List Addr) (K : Fg) (H : Hp) : T → V → Prop
  | .d x, v => RD F K H x v
  | .ref n, v => ∃ a, ρ[n]? = some a ∧ v = .ref a
  | .tup ts, v => ∃ a vs, v = .ref a ∧ FzT F K H a vs ∧ ts.length ≤ big ∧ TRs F ρ K H ts vs
  | .lst ts, v => ∃ a vs, v = .ref a ∧ FzL F K H a vs ∧ ts.length ≤ big ∧ TRs F ρ K H ts vs
  | .dct ks ts, v => ∃ a vs, v = .ref a ∧ F.f a ∧ H a = some (.dK (ks.zip vs)) ∧ ks.length = vs.length ∧ ks.length ≤ big ∧ TRs F ρ K H ts vs
def TRs (F : FS) (ρ : List Addr) (K : Fg) (H : Hp) : List T → List V → Prop
  | [], vs => vs = []
  | x :: xs, vs => ∃ v r, vs = v :: r ∧ TR F ρ K H x v ∧ TRs F ρ K H xs r
end
def CRel (F : FS) (ρ : List Addr) (K : Fg) (H : Hp) : Cell → Addr → Prop
  | .lst ts, a => ∃ vs, H a = some (.lst vs) ∧ ts.length ≤ big ∧ TRs F ρ K H ts vs
  | .dct ks ts, a => ∃ vs, H a = some (.dK (ks.zip vs)) ∧ ks.length = vs.length ∧ ks.length ≤ big ∧ TRs F ρ K H ts vs
  | .dead, a => ∃ o, H a = some o ∧ Pl o
structure SR (tt : List (Addr × Str)) (F : FS) (ρ : List Addr) (K : Fg) (st : Store) (H : Hp) : Prop where
  len : ρ.length = st.length
  nd : ρ.Nodup
  nf : ∀ a ∈ ρ, ¬ F.f a
  fd : ∀ a, F.f a → ∃ o, H a = some o ∧ Pl o
  uf : ∀ a, F.u a → ¬ F.f a
  un : ∀ a ∈ ρ, ¬ F.u a
  ud : ∀ a, F.u a → ∃ o, H a = some o ∧ Pl o
  cells : ∀ (i : Nat) (c : Cell) (a : Addr), st[i]? = some c → ρ[i]? = some a → CRel F ρ K H c a
  old : ∀ (i : Nat) (c : Cell), st[i]? = some c → c.old i = true
  tb : LamX.Tabs tt H
def RVR (F : FS) (ρ : List Addr) (K : Fg) (H : Hp) : RV → V → Prop
  | .t v, u => TR F ρ K H v u
  | .new ts, u => ∃ a vs, u = .ref a ∧ (¬ F.f a ∧ ¬ F.u a) ∧ a ∉ ρ ∧ H a = some (.lst vs) ∧ ts.length ≤ big ∧ TRs F ρ K H ts vs
  | .newD ks ts, u => ∃ a vs, u = .ref a ∧ (¬ F.f a ∧ ¬ F.u a) ∧ a ∉ ρ ∧ H a = some (.dK (ks.zip vs)) ∧ ks.length = vs.length ∧ ks.length ≤ big ∧ TRs F ρ K H ts vs
/-- what is read in F at H is read in F' at H' -/
def Lat (F : FS) (ρ : List Addr) (H : Hp) (F' : FS) (ρ' : List Addr) (H' : Hp) : Prop := (∀ a, F.f a → F'.f a ∧ H' a = H a) ∧ ρ <+: ρ'
/-- what stays -/
structure Stp (F : FS) (ρ : List Addr) (H : Hp) (F' : FS) (ρ' : List Addr) (H' : Hp) : Prop where
  f : ∀ a, F.f a → F'.f a
  h : ∀ a, F.f a → H' a = H a
  p : ρ <+: ρ'
  u : F'.u = F.u
  k : ∀ a, F.u a → H' a = H a
def ER (F : FS) (ρ : List Addr) (K : Fg) (H : Hp) (env : Env) (σ : L2.St) : Prop :=
  env.length = σ.length ∧ ∀ (i : Nat) (t : T), env[i]? = some (some t) → ∃ v, σ[i]? = some (some v) ∧ TR F ρ K H t v
section
variable {tt : List (Addr × Str)} {F F' F'' : FS} {ρ ρ' ρ'' : List Addr} {K : Fg} {H H' H'' : Hp} {st st' : Store}
theorem Stp.refl : Stp F ρ H F ρ H := ⟨fun _ h => h, fun _ _ => rfl, List.prefix_refl _, rfl, fun _ _ => rfl⟩
theorem Stp.trans (a : Stp F ρ H F' ρ' H') (b : Stp F' ρ' H' F'' ρ'' H'') : Stp F ρ H F'' ρ'' H'' :=
  ⟨fun x h => b.f x (a.f x h), fun x h => (b.h x (a.f x h)).trans (a.h x h), a.p.trans b.p, b.u.trans a.u, fun x h => (b.k x (by rw [a.u]; exact h)).trans (a.k x h)⟩
theorem Stp.fh (s : Stp F ρ H F' ρ' H') : ∀ a, F.f a → F'.f a ∧ H' a = H a := fun a h => ⟨s.f a h, s.h a h⟩
theorem Stp.lat (s : Stp F ρ H F' ρ' H') : Lat F ρ H F' ρ' H' := ⟨s.fh, s.p⟩
theorem Lat.trans (a : Lat F ρ H F' ρ' H') (b : Lat F' ρ' H' F'' ρ'' H'') : Lat F ρ H F'' ρ'' H'' :=
  ⟨fun x h => ⟨(b.1 x (a.1 x h).1).1, (b.1 x (a.1 x h).1).2.trans (a.1 x h).2⟩, a.2.trans b.2⟩
theorem Lat.get (s : Lat F ρ H F' ρ' H') {n : Nat} {a : Addr} (e : ρ[n]? = some a) : ρ'[n]? = some a := by
  obtain ⟨t, rfl⟩ := s.2
  rw [List.getElem?_append_left (List.getElem?_eq_some_iff.mp e).1]
  exact e
theorem Stp.get (s : Stp F ρ H F' ρ' H') {n : Nat} {a : Addr} (e : ρ[n]? = some a) : ρ'[n]? = some a := s.lat.get e
theorem FzL.mono (s : ∀ a, F.f a → F'.f a ∧ H' a = H a) {a : Addr} {vs : List V} (h : FzL F K H a vs) : FzL F' K H' a vs := by
  obtain ⟨h1, h2⟩ := h
  refine ⟨(s a h1).1, ?_⟩
  unfold Rd at h2 ⊢
  rw [(s a h1).2]
  exact h2
theorem FzT.mono (s : ∀ a, F.f a → F'.f a ∧ H' a = H a) {a : Addr} {vs : List V} (h : FzT F K H a vs) : FzT F' K H' a vs := by
  rcases h with ⟨h1, h2⟩ | h
  · refine .inl ⟨(s a h1).1, ?_⟩
    unfold Rd at h2 ⊢
    rw [(s a h1).2]
    exact h2
  · exact .inr h
mutual
theorem RD.mono (s : ∀ a, F.f a → F'.f a ∧ H' a = H a) : ∀ (x : D) (v : V), RD F K H x v → RD F' K H' x v
  | .none, v, h => by unfold RD at h ⊢; exact h
  | .bool b, v, h => by unfold RD at h ⊢; exact h
  | .int i, v, h => by unfold RD at h ⊢; exact h
  | .str y, v, h => by unfold RD at h ⊢; exact h
  | .list xs, v, h => by
    unfold RD at h ⊢
    obtain ⟨a, vs, e, h1, h2, h3⟩ := h
    exact ⟨a, vs, e, h1.mono s, h2, RDs.mono s xs vs h3⟩
  | .tuple xs, v, h => by
    unfold RD at h ⊢
    obtain ⟨a, vs, e, h1, h2, h3⟩ := h
    exact ⟨a, vs, e, h1.mono s, h2, RDs.mono s xs vs h3⟩
  | .dict kvs, v, h => by
    unfold RD at h ⊢
    obtain ⟨a, us, e, h1, h2, h3, h4⟩ := h
    exact ⟨a, us, e, (s a h1).1, by rw [(s a h1).2]; exact h2, h3, RDk.mono s kvs us h4⟩
theorem RDs.mono (s : ∀ a, F.f a → F'.f a ∧ H' a = H a) : ∀ (xs : List D) (vs : List V), RDs F K H xs vs → RDs F' K H' xs vs
  | [], vs, h => by unfold RDs at h ⊢; exact h
  | x :: xs, vs, h => by
    unfold RDs at h ⊢
    obtain ⟨v, r, e, h1, h2⟩ := h
    exact ⟨v, r, e, RD.mono s x v h1, RDs.mono s xs r h2⟩
theorem RDk.mono (s : ∀ a, F.f a → F'.f a ∧ H' a = H a) : ∀ (xs : List (D × D)) (us : List (Key × V)), RDk F K H xs us → RDk F' K H' xs us
  | [], us, h => by unfold RDk at h ⊢; exact h
  | (k, x) :: xs, us, h => by
    unfold RDk at h ⊢
    obtain ⟨k', v, r, e, h0, h1, h2⟩ := h
    exact ⟨k', v, r, e, h0, RD.mono s x v h1, RDk.mono s xs r h2⟩
end
mutual
theorem TR.mono (s : Lat F ρ H F' ρ' H') : ∀ (x : T) (v : V), TR F ρ K H x v → TR F' ρ' K H' x v
  | .d x, v, h => by unfold TR at h ⊢; exact RD.mono s.1 x v h
  | .ref n, v, h => by
    unfold TR at h ⊢
    obtain ⟨a, e, q⟩ := h
    exact ⟨a, s.get e, q⟩
  | .tup ts, v, h => by
    unfold TR at h ⊢
    obtain ⟨a, vs, e, h1, h2, h3⟩ := h
    exact ⟨a, vs, e, h1.mono s.1, h2, TRs.mono s ts vs h3⟩
  | .lst ts, v, h => by
    unfold TR at h ⊢
    obtain ⟨a, vs, e, h1, h2, h3⟩ := h
    exact ⟨a, vs, e, h1.mono s.1, h2, TRs.mono s ts vs h3⟩
  | .dct ks ts, v, h => by
    unfold TR at h ⊢
    obtain ⟨a, vs, e, h1, h2, h3, h4, h5⟩ := h
    exact ⟨a, vs, e, (s.1 a h1).1, by rw [(s.1 a h1).2]; exact h2, h3, h4, TRs.mono s ts vs h5⟩
theorem TRs.mono (s : Lat F ρ H F' ρ' H') : ∀ (xs : List T) (vs : List V), TRs F ρ K H xs vs → TRs F' ρ' K H' xs vs
  | [], vs, h => by unfold TRs at h ⊢; exact h
  | x :: xs, vs, h => by
    unfold TRs at h ⊢
    obtain ⟨v, r, e, h1, h2⟩ := h
    exact ⟨v, r, e, TR.mono s x v h1, TRs.mono s xs r h2⟩
end
theorem Lat.tr (s : Lat F ρ H F' ρ' H') {x : T} {v : V} (h : TR F ρ K H x v) : TR F' ρ' K H' x v := TR.mono s x v h
theorem Lat.trs (s : Lat F ρ H F' ρ' H') {x : List T} {v : List V} (h : TRs F ρ K H x v) : TRs F' ρ' K H' x v := TRs.mono s x v h
theorem Lat.er (s : Lat F ρ H F' ρ' H') {env : Env} {σ : L2.St} (h : ER F ρ K H env σ) : ER F' ρ' K H' env σ :=
  ⟨h.1, fun i t e => let ⟨v, e1, e2⟩ := h.2 i t e; ⟨v, e1, s.tr e2⟩⟩
theorem Stp.rd (s : Stp F ρ H F' ρ' H') {x : D} {v : V} (h : RD F K H x v) : RD F' K H' x v := RD.mono s.fh x v h
theorem Stp.rds (s : Stp F ρ H F' ρ' H') {x : List D} {v : List V} (h : RDs F K H x v) : RDs F' K H' x v := RDs.mono s.fh x v h
theorem Stp.tr (s : Stp F ρ H F' ρ' H') {x : T} {v : V} (h : TR F ρ K H x v) : TR F' ρ' K H' x v := s.lat.tr h
theorem Stp.trs (s : Stp F ρ H F' ρ' H') {x : List T} {v : List V} (h : TRs F ρ K H x v) : TRs F' ρ' K H' x v := s.lat.trs h
theorem Stp.er (s : Stp F ρ H F' ρ' H') {env : Env} {σ : L2.St} (h : ER F ρ K H env σ) : ER F' ρ' K H' env σ := s.lat.er h
theorem CRel.mono (s : Lat F ρ H F' ρ' H') {c : Cell} {a : Addr} (h : CRel F ρ K H c a) (hH : H' a = H a) : CRel F' ρ' K H' c a := by
  cases c with
  | lst ts =>
    obtain ⟨vs, h1, h2, h3⟩ := h
    exact ⟨vs, by rw [hH]; exact h1, h2, s.trs h3⟩
  | dct ks ts =>
    obtain ⟨vs, h1, h2, h3, h4⟩ := h
    exact ⟨vs, by rw [hH]; exact h1, h2, h3, s.trs h4⟩
  | dead =>
    obtain ⟨o, h1⟩ := h
    exact ⟨o, by rw [hH]; exact h1⟩
/-! ### lists of values -/
theorem TRs.length : ∀ {xs : List T} {vs : List V}, TRs F ρ K H xs vs → xs.length = vs.length
  | [], vs, h => by unfold TRs at h; subst h; rfl
  | x :: xs, vs, h => by
    unfold TRs at h
    obtain ⟨v, r, e, _, h2⟩ := h
    subst e
    simp [TRs.length h2]
theorem TRs.get : ∀ {xs : List T} {vs : List V} {i : Nat} {x : T}, TRs F ρ K H xs vs → xs[i]? = some x → ∃ v, vs[i]? = some v ∧ TR F ρ K H x v
  | [], _, _, _, _, e => by simp at e
  | y :: xs, vs, 0, x, h, e => by
    unfold TRs at h
    obtain ⟨v, r, rfl, h1, _⟩ := h
    simp at e
    subst e
    exact ⟨v, rfl, h1⟩
  | y :: xs, vs, i + 1, x, h, e => by
    unfold TRs at h
    obtain ⟨v, r, rfl, _, h2⟩ := h
    obtain ⟨u, q1, q2⟩ := TRs.get (i := i) h2 (by simpa using e)
    exact ⟨u, by simpa using q1, q2⟩
theorem TRs.getV : ∀ {xs : List T} {vs : List V} {i : Nat} {v : V}, TRs F ρ K H xs vs → vs[i]? = some v → ∃ x, xs[i]? = some x ∧ TR F ρ K H x v
  | [], vs, _, _, h, e => by unfold TRs at h; subst h; simp at e
  | y :: xs, vs, 0, x, h, e => by
    unfold TRs at h
    obtain ⟨v, r, rfl, h1, _⟩ := h
    simp at e
    subst e
    exact ⟨y, rfl, h1⟩
  | y :: xs, vs, i + 1, x, h, e => by
    unfold TRs at h
    obtain ⟨v, r, rfl, _, h2⟩ := h
    obtain ⟨u, q1, q2⟩ := TRs.getV (i := i) h2 (by simpa using e)
    exact ⟨u, by simpa using q1, q2⟩
theorem TRs.nil : TRs F ρ K H [] [] := by unfold TRs; rfl
theorem TRs.cons {x : T} {v : V} {xs : List T} {vs : List V} (h : TR F ρ K H x v) (t : TRs F ρ K H xs vs) : TRs F ρ K H (x :: xs) (v :: vs) := by
  unfold TRs
  exact ⟨v, vs, rfl, h, t⟩
theorem TRs.append : ∀ {xs ys : List T} {vs ws : List V}, TRs F ρ K H xs vs → TRs F ρ K H ys ws → TRs F ρ K H (xs ++ ys) (vs ++ ws)
  | [], _, vs, _, h, t => by unfold TRs at h; subst h; exact t
  | x :: xs, _, vs, _, h, t => by
    unfold TRs at h
    obtain ⟨v, r, rfl, h1, h2⟩ := h
    exact TRs.cons h1 (TRs.append h2 t)
theorem TRs.one {x : T} {v : V} (h : TR F ρ K H x v) : TRs F ρ K H [x] [v] := .cons h .nil
theorem TRs.take : ∀ {xs : List T} {vs : List V} (n : Nat), TRs F ρ K H xs vs → TRs F ρ K H (xs.take n) (vs.take n)
  | _, _, 0, _ => by simp only [List.take_zero]; exact .nil
  | [], vs, n + 1, h => by unfold TRs at h; subst h; exact .nil
  | x :: xs, vs, n + 1, h => by
    unfold TRs at h
    obtain ⟨v, r, rfl, h1, h2⟩ := h
    simp only [List.take_succ_cons]
    exact .cons h1 (TRs.take n h2)
theorem TRs.drop : ∀ {xs : List T} {vs : List V} (n : Nat), TRs F ρ K H xs vs → TRs F ρ K H (xs.drop n) (vs.drop n)
  | _, _, 0, h => h
  | [], vs, n + 1, h => by unfold TRs at h; subst h; exact .nil
  | x :: xs, vs, n + 1, h => by
    unfold TRs at h
    obtain ⟨v, r, rfl, h1, h2⟩ := h
    simp only [List.drop_succ_cons]
    exact TRs.drop n h2
theorem TRs.set : ∀ {xs : List T} {vs : List V} {x : T} {v : V} (i : Nat), TR F ρ K H x v → TRs F ρ K H xs vs → TRs F ρ K H (xs.set i x) (vs.set i v)
  | [], vs, _, _, i, _, h => by unfold TRs at h; subst h; exact .nil
  | y :: xs, vs, x, v, 0, q, h => by
    unfold TRs at h
    obtain ⟨u, r, rfl, h1, h2⟩ := h
    exact .cons q h2
  | y :: xs, vs, x, v, i + 1, q, h => by
    unfold TRs at h
    obtain ⟨u, r, rfl, h1, h2⟩ := h
    exact .cons h1 (TRs.set i q h2)
theorem TRs.eraseIdx : ∀ {xs : List T} {vs : List V} (i : Nat), TRs F ρ K H xs vs → TRs F ρ K H (xs.eraseIdx i) (vs.eraseIdx i)
  | [], vs, i, h => by unfold TRs at h; subst h; exact .nil
  | y :: xs, vs, 0, h => by
    unfold TRs at h
    obtain ⟨u, r, rfl, h1, h2⟩ := h
    exact h2
  | y :: xs, vs, i + 1, h => by
    unfold TRs at h
    obtain ⟨u, r, rfl, h1, h2⟩ := h
    exact .cons h1 (TRs.eraseIdx i h2)
theorem TRs.dropLast {xs : List T} {vs : List V} (h : TRs F ρ K H xs vs) : TRs F ρ K H xs.dropLast vs.dropLast := by
  rw [List.dropLast_eq_take, List.dropLast_eq_take, h.length]
  exact h.take _
theorem TRs.rep {xs : List T} {vs : List V} (h : TRs F ρ K H xs vs) : ∀ k : Nat, TRs F ρ K H (List.replicate k xs).flatten (List.replicate k vs).flatten
  | 0 => .nil
  | k + 1 => by
    rw [List.replicate_succ, List.replicate_succ, List.flatten_cons, List.flatten_cons]
    exact h.append (TRs.rep h k)
theorem TR.int_iff {i : Int} {v : V} (h : TR F ρ K H (.d (.int i)) v) : v = .int i := by
  unfold TR RD at h
  exact h
theorem TR.bool_iff {i : Bool} {v : V} (h : TR F ρ K H (.d (.bool i)) v) : v = .bl i := by
  unfold TR RD at h
  exact h
theorem TRs.ints : ∀ {ns : List Int} {xs : List T} {vs : List V}, intsT? xs = some ns → TRs F ρ K H xs vs → vs = ns.map V.int
  | ns, [], vs, e, h => by
    unfold TRs at h
    subst h
    simp [intsT?] at e
    subst e
    rfl
  | ns, x :: xs, vs, e, h => by
    unfold TRs at h
    obtain ⟨v, r, rfl, h1, h2⟩ := h
    cases x <;> first | (simp only [intsT?, reduceCtorEq] at e; done) | skip
    rename_i x
    cases x <;> first | (simp only [intsT?, reduceCtorEq] at e; done) | skip
    simp only [intsT?] at e
    obtain ⟨ms, e1, rfl⟩ := Option.map_eq_some_iff.mp e
    rw [TRs.ints e1 h2, h1.int_iff]
    rfl
theorem TRs.bools : ∀ {bs : List Bool} {xs : List T} {vs : List V}, boolsT? xs = some bs → TRs F ρ K H xs vs → vs = bs.map V.bl
  | ns, [], vs, e, h => by
    unfold TRs at h
    subst h
    simp [boolsT?] at e
    subst e
    rfl
  | ns, x :: xs, vs, e, h => by
    unfold TRs at h
    obtain ⟨v, r, rfl, h1, h2⟩ := h
    cases x <;> first | (simp only [boolsT?, reduceCtorEq] at e; done) | skip
    rename_i x
    cases x <;> first | (simp only [boolsT?, reduceCtorEq] at e; done) | skip
    simp only [boolsT?] at e
    obtain ⟨ms, e1, rfl⟩ := Option.map_eq_some_iff.mp e
    rw [TRs.bools e1 h2, h1.bool_iff]
    rfl
theorem TRs.ofInts : ∀ ns : List Int, TRs F ρ K H (ns.map fun i => .d (.int i)) (ns.map V.int)
  | [] => .nil
  | n :: ns => .cons (by unfold TR RD; rfl) (TRs.ofInts ns)
/-! ### pure lists -/
theorem pures_eq : ∀ {ts : List T} {xs : List D}, pures ts = some xs → ts = xs.map .d
  | [], xs, e => by
    simp [pures] at e
    subst e
    rfl
  | t :: ts, xs, e => by
    cases t <;> simp only [pures, reduceCtorEq] at e
    obtain ⟨ys, e1, rfl⟩ := Option.map_eq_some_iff.mp e
    rw [pures_eq e1]
    rfl
theorem pures_map : ∀ xs : List D, pures (xs.map T.d) = some xs
  | [] => rfl
  | x :: xs => by
    rw [List.map_cons, pures, pures_map xs]
    rfl
theorem TRs.rds : ∀ {xs : List D} {vs : List V}, TRs F ρ K H (xs.map .d) vs → RDs F K H xs vs
  | [], vs, h => by rw [List.map_nil] at h; unfold TRs at h; unfold RDs; exact h
  | x :: xs, vs, h => by
    rw [List.map_cons] at h
    unfold TRs at h
    obtain ⟨v, r, e, h1, h2⟩ := h
    unfold TR at h1
    unfold RDs
    exact ⟨v, r, e, h1, TRs.rds h2⟩
theorem RDs.trs : ∀ {xs : List D} {vs : List V}, RDs F K H xs vs → TRs F ρ K H (xs.map .d) vs
  | [], vs, h => by rw [List.map_nil]; unfold RDs at h; unfold TRs; exact h
  | x :: xs, vs, h => by
    rw [List.map_cons]
    unfold RDs at h
    obtain ⟨v, r, e, h1, h2⟩ := h
    unfold TRs
    exact ⟨v, r, e, by unfold TR; exact h1, RDs.trs h2⟩
theorem RDk.split : ∀ {kvs : List (D × D)} {us : List (Key × V)}, RDk F K H kvs us → ∃ ks vs, keysD kvs = some ks ∧ us = ks.zip vs ∧ ks.length = vs.length ∧ ks.length = kvs.length ∧ TRs F ρ K H (kvs.map fun p => .d p.2) vs
  | [], us, h => by
    unfold RDk at h
    subst h
    exact ⟨[], [], rfl, rfl, rfl, rfl, .nil⟩
  | (k, x) :: kvs, us, h => by
    unfold RDk at h
    obtain ⟨k', v, r, rfl, h0, h1, h2⟩ := h
    obtain ⟨ks, vs, e1, e2, e3, e4, e5⟩ := RDk.split h2
    refine ⟨k' :: ks, v :: vs, by simp only [keysD, h0, e1], by rw [List.zip_cons_cons, e2], by simp [e3], by simp [e4], .cons (by unfold TR; exact h1) e5⟩
theorem keyD_kD (k : Key) : keyD (kD k) = some k := by cases k <;> rfl
theorem RDk.make : ∀ {ks : List Key} {xs : List D} {vs : List V}, ks.length = vs.length → RDs F K H xs vs → RDk F K H ((ks.map kD).zip xs) (ks.zip vs)
  | [], xs, vs, e, h => by
    cases vs with
    | nil => unfold RDs at h; cases xs with
      | nil => unfold RDk; rfl
      | cons x xs => obtain ⟨_, _, z, _⟩ := h; cases z
    | cons v vs => simp at e
  | k :: ks, xs, vs, e, h => by
    cases vs with
    | nil => simp at e
    | cons v vs =>
      cases xs with
      | nil => unfold RDs at h; cases h
      | cons x xs =>
        unfold RDs at h
        obtain ⟨v', r, e1, h1, h2⟩ := h
        cases e1
        rw [List.map_cons, List.zip_cons_cons, List.zip_cons_cons]
        unfold RDk
        exact ⟨k, v, _, rfl, keyD_kD k, h1, RDk.make (by simpa using e) h2⟩
/-! ### made values -/
theorem TR.mkTup {ts : List T} {a : Addr} {vs : List V} (h1 : FzT F K H a vs) (h2 : ts.length ≤ big) (h3 : TRs F ρ K H ts vs) : TR F ρ K H (MP.mkTup ts) (.ref a) := by
  unfold MP.mkTup
  split
  · rename_i xs e
    have e' := pures_eq e
    subst e'
    unfold TR RD
    exact ⟨a, vs, rfl, h1, by simpa using h2, h3.rds⟩
  · unfold TR
    exact ⟨a, vs, rfl, h1, h2, h3⟩
theorem TR.mkLst {ts : List T} {a : Addr} {vs : List V} (h1 : FzL F K H a vs) (h2 : ts.length ≤ big) (h3 : TRs F ρ K H ts vs) : TR F ρ K H (MP.mkLst ts) (.ref a) := by
  unfold MP.mkLst
  split
  · rename_i xs e
    have e' := pures_eq e
    subst e'
    unfold TR RD
    exact ⟨a, vs, rfl, h1, by simpa using h2, h3.rds⟩
  · unfold TR
    exact ⟨a, vs, rfl, h1, h2, h3⟩
theorem TR.mkDct {ks : List Key} {ts : List T} {a : Addr} {vs : List V} (h0 : F.f a) (h1 : H a = some (.dK (ks.zip vs))) (hl : ks.length = vs.length) (h2 : ks.length ≤ big) (h3 : TRs F ρ K H ts vs) : TR F ρ K H (MP.mkDct ks ts) (.ref a) := by
  unfold MP.mkDct
  split
  · rename_i xs e
    have e' := pures_eq e
    subst e'
    unfold TR RD
    refine ⟨a, _, rfl, h0, h1, ?_, RDk.make hl h3.rds⟩
    rw [List.length_zip, List.length_map]
    omega
  · unfold TR
    exact ⟨a, vs, rfl, h0, h1, hl, h2, h3⟩
/-! ### reading -/
theorem SR.vlst (s : SR tt F ρ K st H) {t : T} {v : V} {ts : List T} (h : TR F ρ K H t v) (e : view st t = .lst ts) : ∃ a vs, v = .ref a ∧ Rd H a (.lst vs) ∧ ts.length ≤ big ∧ TRs F ρ K H ts vs := by
  cases t with
  | d x =>
    unfold TR at h
    cases x <;> simp only [view, reduceCtorEq, Vw.lst.injEq] at e
    · subst e
      unfold RD at h
      obtain ⟨a, vs, e, h1, h2, h3⟩ := h
      exact ⟨a, vs, e, h1.2, by simpa using h2, h3.trs⟩
    · split at e <;> cases e
  | ref n =>
    unfold TR at h
    obtain ⟨a, e1, rfl⟩ := h
    simp only [view] at e
    split at e
    · rename_i xs hc
      cases e
      obtain ⟨vs, h1, h2, h3⟩ := s.cells n _ a hc e1
      exact ⟨a, vs, rfl, Rd.of h1, h2, h3⟩
    · cases e
    · cases e
  | tup us => simp [view] at e
  | lst us =>
    simp only [view, Vw.lst.injEq] at e
    subst e
    unfold TR at h
    obtain ⟨a, vs, e, h1, h2, h3⟩ := h
    exact ⟨a, vs, e, h1.2, h2, h3⟩
  | dct ks us => simp [view] at e
theorem SR.vtup (s : SR tt F ρ K st H) {t : T} {v : V} {ts : List T} (h : TR F ρ K H t v) (e : view st t = .tup ts) : ∃ a vs, v = .ref a ∧ FzT F K H a vs ∧ ts.length ≤ big ∧ TRs F ρ K H ts vs := by
  cases t with
  | d x =>
    unfold TR at h
    cases x <;> simp only [view, reduceCtorEq, Vw.tup.injEq] at e
    · subst e
      unfold RD at h
      obtain ⟨a, vs, e, h1, h2, h3⟩ := h
      exact ⟨a, vs, e, h1, by simpa using h2, h3.trs⟩
    · split at e <;> cases e
  | ref n =>
    simp only [view] at e
    split at e <;> cases e
  | tup us =>
    simp only [view, Vw.tup.injEq] at e
    subst e
    unfold TR at h
    exact h
  | lst us => simp [view] at e
  | dct ks us => simp [view] at e
theorem SR.vdct (s : SR tt F ρ K st H) {t : T} {v : V} {ks : List Key} {ts : List T} (h : TR F ρ K H t v) (e : view st t = .dct ks ts) : ∃ a vs, v = .ref a ∧ H a = some (.dK (ks.zip vs)) ∧ ks.length = vs.length ∧ ks.length ≤ big ∧ TRs F ρ K H ts vs := by
  cases t with
  | d x =>
    unfold TR at h
    cases x <;> simp only [view, reduceCtorEq] at e
    rename_i kvs
    split at e
    · rename_i ks' hk
      cases e
      unfold RD at h
      obtain ⟨a, us, e, h1, h2, h3, h4⟩ := h
      obtain ⟨ks2, vs, e1, e2, e3, e4, e5⟩ := RDk.split (ρ := ρ) h4
      rw [hk] at e1
      cases e1
      subst e2
      exact ⟨a, vs, e, h2, e3, by omega, e5⟩
    · rename_i hk
      unfold RD at h
      obtain ⟨a, us, _, _, _, h3, h4⟩ := h
      obtain ⟨ks2, vs, e1, _⟩ := RDk.split (ρ := ρ) h4
      rw [hk] at e1
      cases e1
  | ref n =>
    unfold TR at h
    obtain ⟨a, e1, rfl⟩ := h
    simp only [view] at e
    split at e
    · cases e
    · rename_i xs hc
      cases e
      obtain ⟨vs, h1, h2, h3, h4⟩ := s.cells n _ a hc e1
      exact ⟨a, vs, rfl, h1, h2, h3, h4⟩
    · cases e
  | tup us => simp [view] at e
  | lst us => simp [view] at e
  | dct ks us =>
    simp only [view, Vw.dct.injEq] at e
    obtain ⟨rfl, rfl⟩ := e
    unfold TR at h
    obtain ⟨a, vs, e, h1, h2, h3, h4, h5⟩ := h
    exact ⟨a, vs, e, h2, h3, h4, h5⟩
theorem vdat {t : T} {v : V} {x : D} (h : TR F ρ K H t v) (e : view st t = .dat x) : flatD x = true ∧ RD F K H x v := by
  cases t with
  | d y =>
    unfold TR at h
    cases y <;> simp only [view, reduceCtorEq, Vw.dat.injEq] at e <;> first | (subst e; exact ⟨rfl, h⟩) | (split at e <;> cases e)
  | ref n =>
    simp only [view] at e
    split at e <;> cases e
  | tup us => simp [view] at e
  | lst us => simp [view] at e
  | dct ks us => simp [view] at e
theorem vint {t : T} {v : V} {i : Int} (h : TR F ρ K H t v) (e : view st t = .dat (.int i)) : v = .int i := by
  have h1 := (vdat h e).2
  unfold RD at h1
  exact h1
theorem vstr {t : T} {v : V} {i : Str} (h : TR F ρ K H t v) (e : view st t = .dat (.str i)) : v = .str i ∧ i.length ≤ big := by
  have h1 := (vdat h e).2
  unfold RD at h1
  exact h1
theorem vbool {t : T} {v : V} {i : Bool} (h : TR F ρ K H t v) (e : view st t = .dat (.bool i)) : v = .bl i := by
  have h1 := (vdat h e).2
  unfold RD at h1
  exact h1
theorem vnone {t : T} {v : V} (h : TR F ρ K H t v) (e : view st t = .dat .none) : v = .non := by
  have h1 := (vdat h e).2
  unfold RD at h1
  exact h1
end
end MP

/-! MP2, part c: the heap grows and changes. -/
namespace MP
open PySem PySem.Spec PyProof.Rows L2
section
variable {tt : List (Addr × Str)} {F F' F'' : FS} {ρ ρ' ρ'' : List Addr} {K : Fg} {H H' H'' : Hp} {st st' : Store}
/-- the tables stay when something else changes -/
theorem tabs_upd {ts : List (Addr × Str)} {a : Addr} {o : HO} (h : LamX.Tabs ts H) (ha : H a = none ∨ ∃ o', H a = some o' ∧ Pl o') : LamX.Tabs ts (upd H a o) := by
  have ne : ∀ b o', H b = some o' → ¬ Pl o' → b ≠ a := fun b o' hb np z => by
    subst z
    rcases ha with ha | ⟨o2, ha, hp⟩
    · rw [ha] at hb; cases hb
    · rw [ha] at hb; cases hb; exact np hp
  intro p hp
  obtain ⟨ps, h1, h2, h3⟩ := h p hp
  refine ⟨ps, by rw [upd_ne (ne _ _ h1 (fun z => z))]; exact h1, h2, fun pos cv hc => ?_⟩
  obtain ⟨c, e1, e2⟩ := h3 pos cv hc
  exact ⟨c, e1, by rw [upd_ne (ne _ _ e2 (fun z => z))]; exact e2⟩
theorem rd_pl {a : Addr} {o : HO} (h : Rd H a o) : Pl o → ∃ o', H a = some o' ∧ Pl o' := fun hp => by
  rcases h with h | ⟨x, h⟩
  · exact ⟨_, h, hp⟩
  · exact ⟨_, h, trivial⟩
/-! ### settling a new thing -/
theorem SR.frz (s : SR tt F ρ K st H) {a : Addr} (h1 : ¬ F.f a ∧ ¬ F.u a) (h2 : a ∉ ρ) (h3 : ∃ o, H a = some o ∧ Pl o) :
    Stp F ρ H ⟨fun b => F.f b ∨ b = a, F.u⟩ ρ H ∧ SR tt ⟨fun b => F.f b ∨ b = a, F.u⟩ ρ K st H := by
  have lt : Lat F ρ H ⟨fun b => F.f b ∨ b = a, F.u⟩ ρ H := ⟨fun b h => ⟨.inl h, rfl⟩, List.prefix_refl _⟩
  refine ⟨⟨fun _ h => .inl h, fun _ _ => rfl, List.prefix_refl _, rfl, fun _ _ => rfl⟩, ⟨s.len, s.nd, fun b hb z => ?_, fun b z => ?_, fun b hb z => ?_, s.un, s.ud, fun i c b e1 e2 => (s.cells i c b e1 e2).mono lt rfl, s.old, s.tb⟩⟩
  · rcases z with z | z
    · exact s.nf b hb z
    · exact h2 (z ▸ hb)
  · rcases z with z | z
    · exact s.fd b z
    · exact z ▸ h3
  · rcases z with z | z
    · exact s.uf b hb z
    · exact h1.2 (z ▸ hb)
theorem SR.settle (s : SR tt F ρ K st H) {r : RV} {v : V} (h : RVR F ρ K H r v) : ∃ F', Stp F ρ H F' ρ H ∧ SR tt F' ρ K st H ∧ TR F' ρ K H r.settle v := by
  cases r with
  | t x => exact ⟨F, .refl, s, h⟩
  | new xs =>
    obtain ⟨a, vs, rfl, h1, h2, h3, h4, h5⟩ := h
    obtain ⟨s1, s2⟩ := s.frz h1 h2 ⟨_, h3, trivial⟩
    exact ⟨_, s1, s2, TR.mkLst ⟨.inr rfl, .inl h3⟩ h4 (s1.trs h5)⟩
  | newD ks xs =>
    obtain ⟨a, vs, rfl, h1, h2, h3, h4, h5, h6⟩ := h
    obtain ⟨s1, s2⟩ := s.frz h1 h2 ⟨_, h3, trivial⟩
    exact ⟨_, s1, s2, TR.mkDct (.inr rfl) h3 h4 h5 (s1.trs h6)⟩
/-- a new thing becomes a cell -/
theorem SR.allocC (s : SR tt F ρ K st H) {c : Cell} {a : Addr} (h1 : ¬ F.f a ∧ ¬ F.u a) (h2 : a ∉ ρ) (h3 : ∃ o, H a = some o ∧ Pl o) (hc : CRel F ρ K H c a) (ho : c.old st.length = true) :
    Stp F ρ H F (ρ ++ [a]) H ∧ SR tt F (ρ ++ [a]) K (st ++ [c]) H ∧ TR F (ρ ++ [a]) K H (.ref st.length) (.ref a) := by
  have lt : Lat F ρ H F (ρ ++ [a]) H := ⟨fun b h => ⟨h, rfl⟩, List.prefix_append _ _⟩
  refine ⟨⟨fun _ h => h, fun _ _ => rfl, List.prefix_append _ _, rfl, fun _ _ => rfl⟩, ⟨?_, ?_, ?_, s.fd, s.uf, ?_, s.ud, ?_, ?_, s.tb⟩, ?_⟩
  · simp [s.len]
  · exact List.nodup_append.mpr ⟨s.nd, by simp, fun x hx y hy e => h2 (by simp at hy; subst hy; exact e ▸ hx)⟩
  · intro b hb
    rcases List.mem_append.mp hb with hb | hb
    · exact s.nf b hb
    · simp at hb
      subst hb
      exact h1.1
  · intro b hb
    rcases List.mem_append.mp hb with hb | hb
    · exact s.un b hb
    · simp at hb
      subst hb
      exact h1.2
  · intro i c' b e1 e2
    by_cases hi : i < st.length
    · rw [List.getElem?_append_left hi] at e1
      rw [List.getElem?_append_left (by rw [s.len]; exact hi)] at e2
      exact (s.cells i c' b e1 e2).mono lt rfl
    · have hi' : i = st.length := by
        have := (List.getElem?_eq_some_iff.mp e1).1
        simp at this
        omega
      subst hi'
      rw [List.getElem?_append_right (Nat.le_refl _)] at e1
      rw [List.getElem?_append_right (by rw [s.len]; exact Nat.le_refl _)] at e2
      simp [s.len] at e1 e2
      subst e1 e2
      exact hc.mono lt rfl
  · intro i c' e1
    by_cases hi : i < st.length
    · rw [List.getElem?_append_left hi] at e1
      exact s.old i c' e1
    · have hi' : i = st.length := by
        have := (List.getElem?_eq_some_iff.mp e1).1
        simp at this
        omega
      subst hi'
      rw [List.getElem?_append_right (Nat.le_refl _)] at e1
      simp at e1
      subst e1
      exact ho
  · unfold TR
    refine ⟨a, ?_, rfl⟩
    rw [List.getElem?_append_right (by rw [s.len]; exact Nat.le_refl _)]
    simp [s.len]
theorem SR.alloc (s : SR tt F ρ K st H) {r : RV} {v : V} (h : RVR F ρ K H r v) {t : T} {st2 : Store} (e : MP.alloc (.ok r st) = .ok t st2) : ∃ ρ', Stp F ρ H F ρ' H ∧ SR tt F ρ' K st2 H ∧ TR F ρ' K H t v := by
  cases r with
  | t x =>
    have e' : Res.ok x st = .ok t st2 := e
    cases e'
    exact ⟨ρ, .refl, s, h⟩
  | new xs =>
    have e' : (if olds st.length xs then Res.ok (T.ref st.length) (st ++ [Cell.lst xs]) else .stuck) = .ok t st2 := e
    split at e'
    · rename_i ho
      cases e'
      obtain ⟨a, vs, rfl, h1, h2, h3, h4, h5⟩ := h
      exact ⟨_, s.allocC h1 h2 ⟨_, h3, trivial⟩ ⟨vs, h3, h4, h5⟩ ho⟩
    · cases e'
  | newD ks xs =>
    have e' : (if olds st.length xs then Res.ok (T.ref st.length) (st ++ [Cell.dct ks xs]) else .stuck) = .ok t st2 := e
    split at e'
    · rename_i ho
      cases e'
      obtain ⟨a, vs, rfl, h1, h2, h3, h4, h5, h6⟩ := h
      exact ⟨_, s.allocC h1 h2 ⟨_, h3, trivial⟩ ⟨vs, h3, h4, h5, h6⟩ ho⟩
    · cases e'
/-! ### the heap grows by a new object -/
theorem CRel.some {c : Cell} {a : Addr} (h : CRel F ρ K H c a) : ∃ o, H a = some o ∧ Pl o := by
  cases c with
  | lst ts => obtain ⟨vs, h1, _⟩ := h; exact ⟨_, h1, trivial⟩
  | dct ks ts => obtain ⟨vs, h1, _⟩ := h; exact ⟨_, h1, trivial⟩
  | dead => exact h
theorem SR.at (s : SR tt F ρ K st H) {a : Addr} (h : a ∈ ρ) : ∃ o, H a = some o ∧ Pl o := by
  obtain ⟨i, hi, e⟩ := List.mem_iff_getElem.mp h
  have hs : i < st.length := by rw [← s.len]; exact hi
  exact (s.cells i st[i] a (List.getElem?_eq_getElem hs) (by rw [List.getElem?_eq_getElem hi, e])).some
theorem SR.grow (s : SR tt F ρ K st H) {p : Addr} {o : HO} (hp : H p = none) : Stp F ρ H F ρ (upd H p o) ∧ SR tt F ρ K st (upd H p o) ∧ (¬ F.f p ∧ ¬ F.u p) ∧ p ∉ ρ := by
  have nF : ¬ F.f p := fun h => by
    obtain ⟨o, e, _⟩ := s.fd p h
    rw [hp] at e
    cases e
  have nU : ¬ F.u p := fun h => by
    obtain ⟨o, e, _⟩ := s.ud p h
    rw [hp] at e
    cases e
  have keep : ∀ a, F.f a → upd H p o a = H a := fun a h => upd_ne fun e => nF (e ▸ h)
  have keepU : ∀ a, F.u a → upd H p o a = H a := fun a h => upd_ne fun e => nU (e ▸ h)
  have nρ : p ∉ ρ := fun h => by
    obtain ⟨o', e, _⟩ := s.at h
    rw [hp] at e
    cases e
  have lt : Lat F ρ H F ρ (upd H p o) := ⟨fun b h => ⟨h, keep b h⟩, List.prefix_refl _⟩
  refine ⟨⟨fun _ h => h, keep, List.prefix_refl _, rfl, keepU⟩, ⟨s.len, s.nd, s.nf, fun a h => ?_, s.uf, s.un, fun a h => ?_, fun i c a e1 e2 => ?_, s.old, tabs_upd s.tb (.inl hp)⟩, ⟨nF, nU⟩, nρ⟩
  · rw [keep a h]
    exact s.fd a h
  · rw [keepU a h]
    exact s.ud a h
  · exact (s.cells i c a e1 e2).mono lt (upd_ne fun z => nρ (z ▸ List.mem_of_getElem? e2))
/-- a new list -/
theorem SR.newL (s : SR tt F ρ K st H) {p : Addr} {vs : List V} {xs : List T} (hp : H p = none) (hl : xs.length ≤ big) (h : TRs F ρ K H xs vs) :
    Stp F ρ H F ρ (upd H p (.lst vs)) ∧ SR tt F ρ K st (upd H p (.lst vs)) ∧ RVR F ρ K (upd H p (.lst vs)) (.new xs) (.ref p) := by
  obtain ⟨a, b, c, d⟩ := s.grow (o := .lst vs) hp
  exact ⟨a, b, p, vs, rfl, c, d, upd_same, hl, a.trs h⟩
/-- a new object that stays as it is -/
theorem SR.newF (s : SR tt F ρ K st H) {p : Addr} {o : HO} (hp : H p = none) (ho : Pl o) : ∃ F', Stp F ρ H F' ρ (upd H p o) ∧ SR tt F' ρ K st (upd H p o) ∧ F'.f p := by
  obtain ⟨a, b, c, d⟩ := s.grow (o := o) hp
  obtain ⟨s1, s2⟩ := b.frz c d ⟨o, upd_same, ho⟩
  exact ⟨_, a.trans s1, s2, .inr rfl⟩
theorem SR.newT (s : SR tt F ρ K st H) {p : Addr} {vs : List V} {xs : List T} (hp : H p = none) (hl : xs.length ≤ big) (h : TRs F ρ K H xs vs) :
    ∃ F', Stp F ρ H F' ρ (upd H p (.tup vs)) ∧ SR tt F' ρ K st (upd H p (.tup vs)) ∧ TR F' ρ K (upd H p (.tup vs)) (mkTup xs) (.ref p) := by
  obtain ⟨F', a, b, c⟩ := s.newF (o := .tup vs) hp trivial
  exact ⟨F', a, b, TR.mkTup (.inl ⟨c, .inl upd_same⟩) hl (a.trs h)⟩
/-- a cell is changed -/
theorem SR.write (s : SR tt F ρ K st H) {n : Nat} {a : Addr} {o : HO} {c c0 : Cell} (hn : ρ[n]? = some a) (h0 : st[n]? = some c0) (ho : c.old n = true)
    (h : ∀ H', H' a = some o → Lat F ρ H F ρ H' → CRel F ρ K H' c a) :
    Stp F ρ H F ρ (upd H a o) ∧ SR tt F ρ K (st.set n c) (upd H a o) := by
  have nF : ¬ F.f a := s.nf a (List.mem_of_getElem? hn)
  have nU : ¬ F.u a := s.un a (List.mem_of_getElem? hn)
  have keep : ∀ b, F.f b → upd H a o b = H b := fun b h => upd_ne fun e => nF (e ▸ h)
  have keepU : ∀ b, F.u b → upd H a o b = H b := fun b h => upd_ne fun e => nU (e ▸ h)
  have lt : Lat F ρ H F ρ (upd H a o) := ⟨fun b h => ⟨h, keep b h⟩, List.prefix_refl _⟩
  have hlt : n < st.length := (List.getElem?_eq_some_iff.mp h0).1
  refine ⟨⟨fun _ h => h, keep, List.prefix_refl _, rfl, keepU⟩, ⟨by simp [s.len], s.nd, s.nf, fun b hb => by rw [keep b hb]; exact s.fd b hb, s.uf, s.un, fun b hb => by rw [keepU b hb]; exact s.ud b hb, fun i c' b e1 e2 => ?_, fun i c' e1 => ?_, tabs_upd s.tb (.inr (s.at (List.mem_of_getElem? hn)))⟩⟩
  · by_cases hi : n = i
    · subst hi
      rw [hn] at e2
      cases e2
      rw [List.getElem?_set_self hlt] at e1
      cases e1
      exact h _ upd_same lt
    · rw [List.getElem?_set_ne hi] at e1
      have ne : b ≠ a := fun z => by
        subst z
        obtain ⟨l1, q1⟩ := List.getElem?_eq_some_iff.mp hn
        obtain ⟨l2, q2⟩ := List.getElem?_eq_some_iff.mp e2
        exact hi ((List.getElem_inj s.nd).mp (q1.trans q2.symm))
      exact (s.cells i c' b e1 e2).mono lt (upd_ne ne)
  · by_cases hi : n = i
    · subst hi
      rw [List.getElem?_set_self hlt] at e1
      cases e1
      exact ho
    · rw [List.getElem?_set_ne hi] at e1
      exact s.old i c' e1
theorem SR.writeL (s : SR tt F ρ K st H) {n : Nat} {a : Addr} {xs : List T} {vs : List V} {c0 : Cell} (hn : ρ[n]? = some a) (h0 : st[n]? = some c0) (ho : olds n xs = true) (hl : xs.length ≤ big) (h : TRs F ρ K H xs vs) :
    Stp F ρ H F ρ (upd H a (.lst vs)) ∧ SR tt F ρ K (st.set n (.lst xs)) (upd H a (.lst vs)) :=
  s.write hn h0 ho fun H' e l => ⟨vs, e, hl, l.trs h⟩
/-- an object that is kept but not read is changed -/
theorem SR.updU (q : SR tt F ρ K st H) {a : Addr} {o : HO} (hu : F.u a) (ho : Pl o) : SR tt F ρ K st (upd H a o) ∧ (∀ b, F.f b → upd H a o b = H b) := by
  have nf : ∀ b, F.f b → b ≠ a := fun b hb z => q.uf a hu (z ▸ hb)
  have keep : ∀ b, F.f b → upd H a o b = H b := fun b hb => upd_ne (nf b hb)
  have lt : Lat F ρ H F ρ (upd H a o) := ⟨fun b h => ⟨h, keep b h⟩, List.prefix_refl _⟩
  refine ⟨⟨q.len, q.nd, q.nf, fun b hb => by rw [keep b hb]; exact q.fd b hb, q.uf, q.un, fun b hb => ?_, fun j c b e1 e2 => ?_, q.old, tabs_upd q.tb (.inr (q.ud a hu))⟩, keep⟩
  · by_cases hb' : b = a
    · subst hb'
      exact ⟨o, upd_same, ho⟩
    · rw [upd_ne hb']
      exact q.ud b hb
  · exact (q.cells j c b e1 e2).mono lt (upd_ne fun z => q.un b (List.mem_of_getElem? e2) (z ▸ hu))
/-- another set of kept objects -/
theorem SR.reU (q : SR tt F ρ K st H) {u : Addr → Prop} (h1 : ∀ a, u a → ¬ F.f a) (h2 : ∀ a ∈ ρ, ¬ u a) (h3 : ∀ a, u a → ∃ o, H a = some o ∧ Pl o) : SR tt ⟨F.f, u⟩ ρ K st H := by
  have lt : Lat F ρ H ⟨F.f, u⟩ ρ H := ⟨fun b h => ⟨h, rfl⟩, List.prefix_refl _⟩
  exact ⟨q.len, q.nd, q.nf, q.fd, h1, h2, h3, fun j c b e1 e2 => (q.cells j c b e1 e2).mono lt rfl, q.old, q.tb⟩
/-! ### deep reading -/
mutual
def RN (K : Fg) (H : Hp) : D → V → Prop
  | .none, v => v = .non
  | .bool b, v => v = .bl b
  | .int i, v => v = .int i
  | .str x, v => v = .str x ∧ x.length ≤ big
  | .list xs, v => ∃ a vs, v = .ref a ∧ Rd H a (.lst vs) ∧ xs.length ≤ big ∧ RNs K H xs vs
  | .tuple xs, v => ∃ a vs, v = .ref a ∧ SqT K H a vs ∧ xs.length ≤ big ∧ RNs K H xs vs
  | .dict kvs, v => ∃ a us, v = .ref a ∧ H a = some (.dK us) ∧ kvs.length ≤ big ∧ RNk K H kvs us
def RNs (K : Fg) (H : Hp) : List D → List V → Prop
  | [], vs => vs = []
  | x :: xs, vs => ∃ v r, vs = v :: r ∧ RN K H x v ∧ RNs K H xs r
def RNk (K : Fg) (H : Hp) : List (D × D) → List (Key × V) → Prop
  | [], us => us = []
  | (k, x) :: xs, us => ∃ k' v r, us = (k', v) :: r ∧ keyD k = some k' ∧ RN K H x v ∧ RNk K H xs r
end
mutual
theorem RD.rn : ∀ (x : D) (v : V), RD F K H x v → RN K H x v
  | .none, v, h => by unfold RD at h; unfold RN; exact h
  | .bool b, v, h => by unfold RD at h; unfold RN; exact h
  | .int i, v, h => by unfold RD at h; unfold RN; exact h
  | .str y, v, h => by unfold RD at h; unfold RN; exact h
  | .list xs, v, h => by
    unfold RD at h
    unfold RN
    obtain ⟨a, vs, e, h1, h2, h3⟩ := h
    exact ⟨a, vs, e, h1.2, h2, RDs.rn xs vs h3⟩
  | .tuple xs, v, h => by
    unfold RD at h
    unfold RN
    obtain ⟨a, vs, e, h1, h2, h3⟩ := h
    exact ⟨a, vs, e, h1.sq, h2, RDs.rn xs vs h3⟩
  | .dict kvs, v, h => by
    unfold RD at h
    unfold RN
    obtain ⟨a, us, e, h1, h2, h3, h4⟩ := h
    exact ⟨a, us, e, h2, h3, RDk.rn kvs us h4⟩
theorem RDs.rn : ∀ (xs : List D) (vs : List V), RDs F K H xs vs → RNs K H xs vs
  | [], vs, h => by unfold RDs at h; unfold RNs; exact h
  | x :: xs, vs, h => by
    unfold RDs at h
    unfold RNs
    obtain ⟨v, r, e, h1, h2⟩ := h
    exact ⟨v, r, e, RD.rn x v h1, RDs.rn xs r h2⟩
theorem RDk.rn : ∀ (xs : List (D × D)) (us : List (Key × V)), RDk F K H xs us → RNk K H xs us
  | [], us, h => by unfold RDk at h; unfold RNk; exact h
  | (k, x) :: xs, us, h => by
    unfold RDk at h
    unfold RNk
    obtain ⟨k', v, r, e, h0, h1, h2⟩ := h
    exact ⟨k', v, r, e, h0, RD.rn x v h1, RDk.rn xs r h2⟩
end
theorem RNk.make : ∀ {ks : List Key} {xs : List D} {vs : List V}, ks.length = vs.length → RNs K H xs vs → RNk K H ((ks.map kD).zip xs) (ks.zip vs)
  | [], xs, vs, e, h => by
    cases vs with
    | nil => unfold RNs at h; cases xs with
      | nil => unfold RNk; rfl
      | cons x xs => obtain ⟨_, _, z, _⟩ := h; cases z
    | cons v vs => simp at e
  | k :: ks, xs, vs, e, h => by
    cases vs with
    | nil => simp at e
    | cons v vs =>
      cases xs with
      | nil => unfold RNs at h; cases h
      | cons x xs =>
        unfold RNs at h
        obtain ⟨v', r, e1, h1, h2⟩ := h
        cases e1
        rw [List.map_cons, List.zip_cons_cons, List.zip_cons_cons]
        unfold RNk
        exact ⟨k, v, _, rfl, keyD_kD k, h1, RNk.make (by simpa using e) h2⟩
theorem deeps {k : Nat} (ih : ∀ (t : T) (x : D) (v : V), TR F ρ K H t v → rdF st k t = some x → RN K H x v) : ∀ {ts : List T} {xs : List D} {vs : List V}, TRs F ρ K H ts vs → ts.mapM (rdF st k) = some xs → RNs K H xs vs ∧ xs.length = ts.length
  | [], xs, vs, h, e => by
    simp at e
    subst e
    unfold TRs at h
    unfold RNs
    exact ⟨h, rfl⟩
  | t :: ts, xs, vs, h, e => by
    unfold TRs at h
    obtain ⟨v, r, rfl, h1, h2⟩ := h
    rw [List.mapM_cons] at e
    obtain ⟨d, e1, e⟩ := Option.bind_eq_some_iff.mp e
    obtain ⟨es, e2, e⟩ := Option.bind_eq_some_iff.mp e
    cases e
    obtain ⟨q1, q2⟩ := deeps ih h2 e2
    unfold RNs
    exact ⟨⟨v, r, rfl, ih t d v h1 e1, q1⟩, by simp [q2]⟩
theorem SR.deepF (s : SR tt F ρ K st H) : ∀ (k : Nat) (t : T) (x : D) (v : V), TR F ρ K H t v → rdF st k t = some x → RN K H x v
  | k, .d y, x, v, h, e => by
    have e' : y = x := by cases k <;> (simp only [rdF, Option.some.injEq] at e; exact e)
    subst e'
    unfold TR at h
    exact RD.rn y v h
  | 0, .ref n, x, v, h, e => by simp [rdF] at e
  | 0, .tup n, x, v, h, e => by simp [rdF] at e
  | 0, .lst n, x, v, h, e => by simp [rdF] at e
  | 0, .dct _ n, x, v, h, e => by simp [rdF] at e
  | k + 1, .ref n, x, v, h, e => by
    unfold TR at h
    obtain ⟨a, ha, rfl⟩ := h
    simp only [rdF] at e
    split at e
    · rename_i ts hc
      obtain ⟨xs, e1, rfl⟩ := Option.map_eq_some_iff.mp e
      obtain ⟨vs, h1, h2, h3⟩ := s.cells n _ a hc ha
      obtain ⟨q1, q2⟩ := deeps (SR.deepF s k) h3 e1
      unfold RN
      exact ⟨a, vs, rfl, .inl h1, by omega, q1⟩
    · rename_i ks ts hc
      obtain ⟨xs, e1, rfl⟩ := Option.map_eq_some_iff.mp e
      obtain ⟨vs, h1, h2, h3, h4⟩ := s.cells n _ a hc ha
      obtain ⟨q1, q2⟩ := deeps (SR.deepF s k) h4 e1
      unfold RN
      refine ⟨a, _, rfl, h1, ?_, RNk.make h2 q1⟩
      rw [List.length_zip, List.length_map]
      omega
    · cases e
  | k + 1, .tup ts, x, v, h, e => by
    simp only [rdF] at e
    obtain ⟨xs, e1, rfl⟩ := Option.map_eq_some_iff.mp e
    unfold TR at h
    obtain ⟨a, vs, rfl, h1, h2, h3⟩ := h
    obtain ⟨q1, q2⟩ := deeps (SR.deepF s k) h3 e1
    unfold RN
    exact ⟨a, vs, rfl, h1.sq, by omega, q1⟩
  | k + 1, .lst ts, x, v, h, e => by
    simp only [rdF] at e
    obtain ⟨xs, e1, rfl⟩ := Option.map_eq_some_iff.mp e
    unfold TR at h
    obtain ⟨a, vs, rfl, h1, h2, h3⟩ := h
    obtain ⟨q1, q2⟩ := deeps (SR.deepF s k) h3 e1
    unfold RN
    exact ⟨a, vs, rfl, h1.2, by omega, q1⟩
  | k + 1, .dct ks ts, x, v, h, e => by
    simp only [rdF] at e
    obtain ⟨xs, e1, rfl⟩ := Option.map_eq_some_iff.mp e
    unfold TR at h
    obtain ⟨a, vs, rfl, h0, h1, h2, h3, h4⟩ := h
    obtain ⟨q1, q2⟩ := deeps (SR.deepF s k) h4 e1
    unfold RN
    refine ⟨a, _, rfl, h1, ?_, RNk.make h2 q1⟩
    rw [List.length_zip, List.length_map]
    omega
theorem SR.deep (s : SR tt F ρ K st H) {t : T} {v : V} {x : D} (h : TR F ρ K H t v) (e : rd st t = some x) : RN K H x v := SR.deepF s 8 t x v h e
end
end MP

/-! MP2, part d: operators. -/
namespace MP
open PySem PySem.Spec L2
def Aft (tt : List (Addr × Str)) (F : FS) (ρ : List Addr) (K : Fg) (H : Hp) (st : Store) (r : RV) (Q : VK) : Prop :=
  ∀ (F' : FS) (ρ' : List Addr) (H' : Hp) (v : V), Stp F ρ H F' ρ' H' → SR tt F' ρ' K st H' → RVR F' ρ' K H' r v → Q v H'
section
variable {tt : List (Addr × Str)} {F : FS} {ρ : List Addr} {K : Fg} {H : Hp} {st : Store} {Q : VK}
theorem Aft.same {x : T} {v : V} (h : Aft tt F ρ K H st (.t x) Q) (s : SR tt F ρ K st H) (r : TR F ρ K H x v) : Q v H := h F ρ H v .refl s r
theorem Aft.int {i : Int} (h : Aft tt F ρ K H st (tI i) Q) (s : SR tt F ρ K st H) : Q (.int i) H := h.same s (by unfold TR RD; rfl)
theorem Aft.bool {b : Bool} (h : Aft tt F ρ K H st (tB b) Q) (s : SR tt F ρ K st H) : Q (.bl b) H := h.same s (by unfold TR RD; rfl)
theorem Aft.none (h : Aft tt F ρ K H st (.t (.d .none)) Q) (s : SR tt F ρ K st H) : Q .non H := h.same s (by unfold TR RD; rfl)
theorem Aft.str {x : Str} (h : Aft tt F ρ K H st (.t (.d (.str x))) Q) (s : SR tt F ρ K st H) (l : x.length ≤ big) : Q (.str x) H := h.same s (by unfold TR RD; exact ⟨rfl, l⟩)
theorem Aft.lst {xs : List T} {vs : List V} (h : Aft tt F ρ K H st (.new xs) Q) (s : SR tt F ρ K st H) (l : xs.length ≤ big) (r : TRs F ρ K H xs vs) : ∀ p, H p = .none → Q (.ref p) (upd H p (.lst vs)) := fun p hp => by
  obtain ⟨a, b, c⟩ := s.newL hp l r
  exact h _ _ _ _ a b c
theorem Aft.tup {xs : List T} {vs : List V} (h : Aft tt F ρ K H st (.t (mkTup xs)) Q) (s : SR tt F ρ K st H) (l : xs.length ≤ big) (r : TRs F ρ K H xs vs) : ∀ p, H p = .none → Q (.ref p) (upd H p (.tup vs)) := fun p hp => by
  obtain ⟨F', a, b, c⟩ := s.newT hp l r
  exact h _ _ _ _ a b c
theorem big_size : big = sizeLine := by rw [sizeLine_eq]
end
/-! ### two operands -/
def Op.py : Op → Operator
  | .add => .Add
  | .sub => .Sub
  | .mul => .Mult
  | .fdiv => .FloorDiv
  | .mod => .Mod
  | .pow => .Pow
def rBin (K : Fg) (o : Op) : R2 := fun x y H Q => ∃ tt F ρ st tx ty r, SR tt F ρ K st H ∧ TR F ρ K H tx x ∧ TR F ρ K H ty y ∧ binV o (view st tx) (view st ty) = some r ∧ Aft tt F ρ K H st r Q
section
variable {X : Cx}
theorem Inv.lstR {pins : List (Addr × Obj)} {σ : L2.St} {H : Hp} {s : Shared} {l : Addr} {xs : List V} (I : Inv X pins σ H s) (h : Rd H l (.lst xs)) :
    xs.length ≤ sizeLine ∧ ∃ (its : List Value) (n : Nat), Vals xs its ∧ s.heap.get? l = some { cls := .type "list", data := .seq its.toArray n } := h.ok I.hok
theorem op_catR : OpR X (binaryOp .Add) (fun x y H Q => ∃ l b xs zs, x = .ref l ∧ y = .ref b ∧ Rd H l (.lst xs) ∧ Rd H b (.lst zs) ∧ xs.length + zs.length ≤ sizeLine ∧ ∀ p, H p = none → Q (.ref p) (upd H p (.lst (xs ++ zs)))) := by
  intro pins s σ H x y v u Q I rx ry h
  obtain ⟨l, b, xs, zs, rfl, rfl, h1, h2, hz, q⟩ := h
  cases rx
  cases ry
  obtain ⟨_, i1, n1, r1, e1⟩ := Inv.lstR I h1
  obtain ⟨_, i2, n2, r2, e2⟩ := Inv.lstR I h2
  have l1 := r1.length
  have l2 := r2.length
  refine PySem.P.add_list e1 e2 ?_ (by rw [List.size_toArray, List.size_toArray]; omega)
  have ea : i1.toArray ++ i2.toArray = (i1 ++ i2).toArray := by simp
  rw [ea]
  exact ⟨.ref _, _, I.lnew (t' := s.toks) (r1.append r2) (by rw [List.length_append]; omega), rfl, q _ I.fresh⟩
theorem tuple_mul_same (l : Addr) (items : Array Value) (n : Nat) (dd : Option Addr) (sl : Array (Option Value)) (x : Int) (u : Tok) (c0 : (decide (x < -(2 ^ 63)) || decide (x ≥ 2 ^ 63)) = false) (c1 : (items.isEmpty || x == 1) = true) :
    Meets (Builtin.«tuple.__mul__» ⟨[.ref l, .int x u], []⟩) (fun _ R s => s.heap.get? l = some { cls := .type "tuple", dict := dd, data := .seq items n, slots := sl } ∧ R (.ok (.ret (Value.ref l))) s) :=
  .of_wp fun prog w A R s h => by
    obtain ⟨hp, g, d, tk, os⟩ := s
    obtain ⟨hl, h⟩ := h
    have f1 := AutoSeq1.idx_int
    wp_walk using wpAny_loadPart' hl
    repeat (first
      | (refine wpAny_ite_false (decide_eq_false (by rw [c0]; exact Bool.false_ne_true)) ?_; wp_walk using wpAny_loadPart' hl)
      | (refine wpAny_ite_true (decide_eq_true c1) ?_; wp_walk using wpAny_loadPart' hl))
    exact ⟨_, rfl, h⟩

theorem op_repS : OpR X (binaryOp .Mult) (fun x y H Q => ∃ l k xs, x = .ref l ∧ y = .int k ∧ SqT X.K H l xs ∧ 1 ≤ k ∧ k ≤ 1000 ∧ (xs = [] ∨ k = 1) ∧ Q (.ref l) H) := by
  intro pins s σ H x y v u Q I rx ry h
  obtain ⟨l, k, xs, rfl, rfl, hT, h1, h2, hw, q⟩ := h
  cases rx
  obtain ⟨t, rfl⟩ := ry
  obtain ⟨its, r, ⟨⟨cls, dd, data, sl⟩, ho, hc, n, hd⟩, hs⟩ := I.tuple hT
  simp only at hc hd
  subst hc hd
  have c0 : (decide (k < -(2 ^ 63)) || decide (k ≥ 2 ^ 63)) = false := by
    rw [decide_eq_false (by omega), decide_eq_false (by omega)] <;> rfl
  have c1 : (its.toArray.isEmpty || k == 1) = true := by
    rcases hw with rfl | rfl
    · cases r
      rfl
    · simp
  exact wpAny_binaryOp_repeat_ref (T := "tuple") (U := "int") (by decide) ⟨_, ho, rfl⟩ (fun s' => typeIs_int s' k t) noFill_tuple_mul PySem.F.fills_int_mul PySem.F.slot_int_rmul repeat_tuple PySem.F.slot_int_index.lookup
    (call_meets PySem.F.slot_int_rmul (typeIs_int s k t) PySem.F.entry_int_rmul (PySem.F.args_int_rmul_2 _ _) (int_rmul_tuple k t l its.toArray n dd sl)
      ⟨ho, rfl, ⟨_, ho, rfl⟩, call_meets PySem.F.slot_tuple_mul ⟨_, ho, rfl⟩ PySem.F.entry_tuple_mul (PySem.F.args_tuple_mul_2 _ _) (tuple_mul_same l its.toArray n dd sl k t c0 c1) ⟨ho, ⟨.ref l, H, I, rfl, q⟩⟩⟩)
theorem op_repR : OpR X (binaryOp .Mult) (fun x y H Q => ∃ l k xs, x = .ref l ∧ y = .int k ∧ Rd H l (.lst xs) ∧ 0 ≤ k ∧ k ≤ 1000 ∧ xs.length ≤ 1000 ∧ ∀ p, H p = none → Q (.ref p) (upd H p (.lst (List.replicate k.toNat xs).flatten))) := by
  intro pins s σ H x y v u Q I rx ry h
  obtain ⟨l, k, xs, rfl, rfl, hL, h1, h2, h3, q⟩ := h
  cases rx
  obtain ⟨t, rfl⟩ := ry
  obtain ⟨_, its, n, r, e⟩ := Inv.lstR I hL
  have hl := r.length
  have hz : its.toArray.size * k.toNat ≤ 1000 * 1000 := by
    rw [List.size_toArray, ← hl]
    exact Nat.mul_le_mul h3 (by omega)
  have hlen : its.toArray.size * k.toNat ≤ sizeLine := by rw [sizeLine_eq]; omega
  have hcap : ¬ its.toArray.size * k.toNat > (2 ^ 63 - 1) / 8 := by omega
  have hfit : ¬ (!Builtin.List.listFitsIndex k) = true := by
    rw [fitsIndex_both (by omega) (by omega)]
    exact Bool.false_ne_true
  have hlong : ¬ Builtin.List.listTooLong (its.toArray.size * k.toNat) = true := by
    rw [notLongL hlen]
    exact Bool.false_ne_true
  have hnew : List.foldl (fun x1 x2 => x1 ++ x2) #[] (List.replicate (if its.toArray.isEmpty = true then 0 else k.toNat) its.toArray) = (List.replicate k.toNat its).flatten.toArray := by
    rw [size_rep]
    cases its with
    | nil => simp
    | cons a r' => rw [if_neg (by simp)]
  refine wpAny_binaryOp_repeat_ref (T := "list") (U := "int") (by decide) ⟨_, e, rfl⟩ (fun s' => typeIs_int s' k t) noFill_list_mul PySem.F.fills_int_mul PySem.F.slot_int_rmul repeat_list PySem.F.slot_int_index.lookup
    (call_meets PySem.F.slot_int_rmul (typeIs_int s k t) PySem.F.entry_int_rmul (PySem.F.args_int_rmul_2 _ _) (int___rmul___int_list k t l its.toArray n)
      ⟨e, rfl, ⟨_, e, rfl⟩, call_meets PySem.F.slot_list_mul ⟨_, e, rfl⟩ PySem.F.entry_list_mul (PySem.F.args_list_mul_2 _ _) (AutoListH.list___mul___list_int_3 l its.toArray n k t hfit hcap hlong) ⟨e, ?_⟩⟩)
  rw [hnew]
  refine ⟨.ref _, _, I.lnew (t' := s.toks) (r.rep k.toNat) ?_, rfl, q _ I.fresh⟩
  rw [PyProof.Rows.lm_len_rep_flat, sizeLine_eq]
  have a1 : k.toNat * xs.length ≤ 1000 * 1000 := Nat.mul_le_mul (by omega) h3
  omega
def CPowW (i j : Int) : Prop := 0 ≤ j ∧ (Builtin.Int.intBits i : Int) * j ≤ 2 ^ 27
theorem op_powW : OpR X (binaryOp .Pow) (rI CPowW fun i j => .int (i ^ j.toNat)) := opI fun _ _ _ _ _ _ _ hc q => PyProof.Rows.pow_int hc.1 hc.2 q
def CMulV (i j : Int) : Prop := Builtin.Int.intBits i + Builtin.Int.intBits j ≤ 134217728
theorem CMulV.ok {i j : Int} (h : CMulV i j) : IntMulOk i j := by
  have e : bitsLine = 134217728 := by decide
  unfold IntMulOk
  intro z
  rw [Bool.and_eq_true] at z
  have z2 := z.2
  unfold Builtin.Int.intTooBig at z2
  have z3 := of_decide_eq_true z2
  rw [e] at z3
  unfold CMulV at h
  omega
theorem op_mulV : OpR X (binaryOp .Mult) (rI CMulV fun i j => .int (i * j)) := opI fun _ _ _ _ _ _ _ hc q => PyProof.Rows.mul_int q hc.ok
theorem op_repZ : OpR X (binaryOp .Mult) (fun x y H Q => ∃ l k xs, x = .ref l ∧ y = .int k ∧ SqT X.K H l xs ∧ -1000 ≤ k ∧ k ≤ 1000 ∧ xs = [] ∧ Q (.ref l) H) := by
  intro pins s σ H x y v u Q I rx ry h
  obtain ⟨l, k, xs, rfl, rfl, hT, h1, h2, hw, q⟩ := h
  cases rx
  obtain ⟨t, rfl⟩ := ry
  obtain ⟨its, r, ⟨⟨cls, dd, data, sl⟩, ho, hc, n, hd⟩, hs⟩ := I.tuple hT
  simp only at hc hd
  subst hc hd
  have c0 : (decide (k < -(2 ^ 63)) || decide (k ≥ 2 ^ 63)) = false := by
    rw [decide_eq_false (by omega), decide_eq_false (by omega)] <;> rfl
  have c1 : (its.toArray.isEmpty || k == 1) = true := by
    subst hw
    cases r
    rfl
  exact wpAny_binaryOp_repeat_ref (T := "tuple") (U := "int") (by decide) ⟨_, ho, rfl⟩ (fun s' => typeIs_int s' k t) noFill_tuple_mul PySem.F.fills_int_mul PySem.F.slot_int_rmul repeat_tuple PySem.F.slot_int_index.lookup
    (call_meets PySem.F.slot_int_rmul (typeIs_int s k t) PySem.F.entry_int_rmul (PySem.F.args_int_rmul_2 _ _) (int_rmul_tuple k t l its.toArray n dd sl)
      ⟨ho, rfl, ⟨_, ho, rfl⟩, call_meets PySem.F.slot_tuple_mul ⟨_, ho, rfl⟩ PySem.F.entry_tuple_mul (PySem.F.args_tuple_mul_2 _ _) (tuple_mul_same l its.toArray n dd sl k t c0 c1) ⟨ho, ⟨.ref l, H, I, rfl, q⟩⟩⟩)
theorem tuple_mul_none (l : Addr) (items : Array Value) (n : Nat) (dd : Option Addr) (sl : Array (Option Value)) (x : Int) (u : Tok) (c0 : (decide (x < -(2 ^ 63)) || decide (x ≥ 2 ^ 63)) = false) (c1 : (items.isEmpty || x == 1) = false) (c2 : (decide (x ≤ 0) || items.isEmpty) = true) :
    Meets (Builtin.«tuple.__mul__» ⟨[.ref l, .int x u], []⟩) (fun _ R s => s.heap.get? l = some { cls := .type "tuple", dict := dd, data := .seq items n, slots := sl } ∧
      R (.ok (.ret (Value.ref s.heap.objs.size))) { s with heap := s.heap.push { cls := Value.type "tuple", data := Data.seq #[] }, toks := s.toks }) :=
  .of_wp fun prog w A R s h => by
    obtain ⟨hp, g, d, tk, os⟩ := s
    obtain ⟨hl, h⟩ := h
    have f1 := AutoSeq1.idx_int
    wp_walk using wpAny_loadPart' hl
    repeat (first
      | (refine wpAny_ite_false (decide_eq_false (by rw [c0]; exact Bool.false_ne_true)) ?_; wp_walk using wpAny_loadPart' hl)
      | (refine wpAny_ite_false (decide_eq_false (by rw [c1]; exact Bool.false_ne_true)) ?_; wp_walk using wpAny_loadPart' hl)
      | (refine wpAny_ite_true (decide_eq_true c2) ?_; wp_walk using wpAny_loadPart' hl))
    exact ⟨_, rfl, h⟩
theorem op_rep0 : OpR X (binaryOp .Mult) (fun x y H Q => ∃ l k xs, x = .ref l ∧ y = .int k ∧ SqT X.K H l xs ∧ -1000 ≤ k ∧ k ≤ 0 ∧ xs ≠ [] ∧ ∀ p, H p = none → Q (.ref p) (upd H p (.tup []))) := by
  intro pins s σ H x y v u Q I rx ry h
  obtain ⟨l, k, xs, rfl, rfl, hT, h1, h2, hne, q⟩ := h
  cases rx
  obtain ⟨t, rfl⟩ := ry
  obtain ⟨its, r, ⟨⟨cls, dd, data, sl⟩, ho, hc, n, hd⟩, hs⟩ := I.tuple hT
  simp only at hc hd
  subst hc hd
  have hle : its.length = xs.length := r.length.symm
  have hi : its.toArray.isEmpty = false := by
    cases its with
    | nil => exact absurd (List.eq_nil_of_length_eq_zero hle.symm) hne
    | cons a b => rfl
  have c0 : (decide (k < -(2 ^ 63)) || decide (k ≥ 2 ^ 63)) = false := by
    rw [decide_eq_false (by omega), decide_eq_false (by omega)] <;> rfl
  have c1 : (its.toArray.isEmpty || k == 1) = false := by
    rw [hi, Bool.false_or]
    simp
    omega
  have c2 : (decide (k ≤ 0) || its.toArray.isEmpty) = true := by
    rw [decide_eq_true h2]
    rfl
  exact wpAny_binaryOp_repeat_ref (T := "tuple") (U := "int") (by decide) ⟨_, ho, rfl⟩ (fun s' => typeIs_int s' k t) noFill_tuple_mul PySem.F.fills_int_mul PySem.F.slot_int_rmul repeat_tuple PySem.F.slot_int_index.lookup
    (call_meets PySem.F.slot_int_rmul (typeIs_int s k t) PySem.F.entry_int_rmul (PySem.F.args_int_rmul_2 _ _) (int_rmul_tuple k t l its.toArray n dd sl)
      ⟨ho, rfl, ⟨_, ho, rfl⟩, call_meets PySem.F.slot_tuple_mul ⟨_, ho, rfl⟩ PySem.F.entry_tuple_mul (PySem.F.args_tuple_mul_2 _ _) (tuple_mul_none l its.toArray n dd sl k t c0 c1 c2) ⟨ho, ⟨.ref s.heap.objs.size, _, I.laid (t' := s.toks) (o := .tup []) (fun b ob q => Heap.get?_push_of_some _ q) (Nat.le_refl _) ⟨by simp, [], .nil, PyProof.Rows.IsTup.new _ _⟩, rfl, q _ (I.hok.fresh (Nat.le_refl _))⟩⟩⟩)
theorem rep_len {α : Type} (xs : List α) (k : Nat) : (List.replicate k xs).flatten.length = k * xs.length := by simp
theorem ob_bin (o : Op) : OpR X (binaryOp o.py) (rBin X.K o) := by
  intro pins s σ H x y v u Q I rx ry h
  obtain ⟨tt, F, ρ, st, tx, ty, r, hS, hx, hy, e, q⟩ := h
  unfold binV at e
  split at e <;> first | (cases e; done) | skip
  · rename_i e1 e2
    cases e
    rw [vint hx e1] at rx
    rw [vint hy e2] at ry
    exact op_add pins s σ H _ _ v u Q I rx ry ⟨_, _, rfl, rfl, q.int hS⟩
  · rename_i e1 e2
    split at e
    · rename_i hle
      cases e
      obtain ⟨a, vs, rfl, h1, h2, h3⟩ := hS.vlst hx e1
      obtain ⟨b, ws, rfl, g1, g2, g3⟩ := hS.vlst hy e2
      have l1 := h3.length
      have l2 := g3.length
      exact op_catR pins s σ H _ _ v u Q I rx ry ⟨a, b, vs, ws, rfl, rfl, h1, g1, by rw [← big_size]; omega, q.lst hS (by rw [List.length_append]; omega) (h3.append g3)⟩
    · cases e
  · rename_i e1 e2
    split at e
    · rename_i hle
      cases e
      obtain ⟨a, vs, rfl, h1, h2, h3⟩ := hS.vtup hx e1
      obtain ⟨b, ws, rfl, g1, g2, g3⟩ := hS.vtup hy e2
      have l1 := h3.length
      have l2 := g3.length
      refine op_catA pins s σ H _ _ v u Q I rx ry ⟨a, b, vs, ws, rfl, rfl, h1.sq, g1.sq, by rw [← big_size]; omega, fun z => ?_, fun _ z => ?_, fun _ _ => q.tup hS (by rw [List.length_append]; omega) (h3.append g3)⟩
      · have ez := List.eq_nil_of_length_eq_zero (show _ from by rw [l1, z]; rfl)
        rw [ez, List.nil_append] at q
        exact q.same hS (TR.mkTup g1 g2 g3)
      · have ez := List.eq_nil_of_length_eq_zero (show _ from by rw [l2, z]; rfl)
        rw [ez, List.append_nil] at q
        exact q.same hS (TR.mkTup h1 h2 h3)
    · cases e
  · rename_i a b e1 e2
    split at e
    · rename_i hle
      cases e
      obtain ⟨rfl, h1⟩ := vstr hx e1
      obtain ⟨rfl, h2⟩ := vstr hy e2
      refine op_add_str pins s σ H _ _ v u Q I rx ry ⟨a, b, rfl, rfl, by rw [← big_size]; exact hle, q.str hS ?_⟩
      have : (a ++ b).length = a.length + b.length := by
        show (a ++ b).cps.size = a.cps.size + b.cps.size
        exact Array.size_append
      omega
    · cases e
  · rename_i e1 e2
    cases e
    rw [vint hx e1] at rx
    rw [vint hy e2] at ry
    exact op_sub pins s σ H _ _ v u Q I rx ry ⟨_, _, rfl, rfl, q.int hS⟩
  · rename_i e1 e2
    split at e
    · rename_i hm
      cases e
      rw [vint hx e1] at rx
      rw [vint hy e2] at ry
      exact op_mulV pins s σ H _ _ v u Q I rx ry ⟨_, _, rfl, rfl, by unfold mulOk at hm; unfold CMulV; exact of_decide_eq_true hm, q.int hS⟩
    · cases e
  · rename_i xs k e1 e2
    split at e
    · rename_i hc
      cases e
      obtain ⟨c1, c2, c3⟩ := hc
      obtain ⟨a, vs, rfl, h1, h2, h3⟩ := hS.vtup hx e1
      rw [vint hy e2] at ry
      have l1 := h3.length
      by_cases hw : vs = [] ∨ k = 1
      · by_cases hk : 1 ≤ k
        · refine op_repS pins s σ H _ _ v u Q I rx ry ⟨a, k, vs, rfl, rfl, h1.sq, hk, c2, hw, q.same hS ?_⟩
          have ee : repT xs k = xs := by
            rcases hw with z | z
            · have ez : xs = [] := List.eq_nil_of_length_eq_zero (by rw [l1, z]; rfl)
              subst ez
              apply List.eq_nil_of_length_eq_zero
              unfold repT
              rw [rep_len]
              rfl
            · subst z
              unfold repT
              simp
          rw [ee]
          exact TR.mkTup h1 h2 h3
        · have hv : vs = [] := hw.resolve_right (by omega)
          have ez : xs = [] := List.eq_nil_of_length_eq_zero (by rw [l1, hv]; rfl)
          subst ez
          refine op_repZ pins s σ H _ _ v u Q I rx ry ⟨a, k, vs, rfl, rfl, h1.sq, by omega, c2, hv, q.same hS ?_⟩
          have ee : repT [] k = [] := by
            apply List.eq_nil_of_length_eq_zero
            unfold repT
            rw [rep_len]
            rfl
          rw [ee]
          exact TR.mkTup h1 h2 h3
      · have hw1 : vs ≠ [] := fun z => hw (.inl z)
        have hw2 : k ≠ 1 := fun z => hw (.inr z)
        by_cases hk : 1 ≤ k
        · refine op_repT pins s σ H _ _ v u Q I rx ry ⟨a, k, vs, rfl, rfl, h1.sq, hw1, by omega, c2, by omega, q.tup hS ?_ (h3.rep _)⟩
          unfold repT
          rw [rep_len]
          have a1 : k.toNat * xs.length ≤ 1000 * 1000 := Nat.mul_le_mul (by omega) c3
          show _ ≤ 16777216
          omega
        · have ee : repT xs k = [] := by
            unfold repT
            rw [show k.toNat = 0 by omega]
            rfl
          rw [ee] at q
          exact op_rep0 pins s σ H _ _ v u Q I rx ry ⟨a, k, vs, rfl, rfl, h1.sq, by omega, by omega, hw1, q.tup hS (by simp) .nil⟩
    · cases e
  · rename_i xs k e1 e2
    split at e
    · rename_i hc
      cases e
      obtain ⟨c1, c2, c3⟩ := hc
      obtain ⟨a, vs, rfl, h1, h2, h3⟩ := hS.vlst hx e1
      rw [vint hy e2] at ry
      have l1 := h3.length
      by_cases hk : 0 ≤ k
      · refine op_repR pins s σ H _ _ v u Q I rx ry ⟨a, k, vs, rfl, rfl, h1, hk, c2, by omega, q.lst hS ?_ (h3.rep _)⟩
        unfold repT
        rw [rep_len]
        have a1 : k.toNat * xs.length ≤ 1000 * 1000 := Nat.mul_le_mul (by omega) c3
        show _ ≤ 16777216
        omega
      · omega
    · cases e
  · rename_i e1 e2
    split at e
    · rename_i hc
      cases e
      rw [vint hx e1] at rx
      rw [vint hy e2] at ry
      exact op_fdiv pins s σ H _ _ v u Q I rx ry ⟨_, _, rfl, rfl, hc, q.int hS⟩
    · cases e
  · rename_i e1 e2
    split at e
    · rename_i hc
      cases e
      rw [vint hx e1] at rx
      rw [vint hy e2] at ry
      exact op_mod pins s σ H _ _ v u Q I rx ry ⟨_, _, rfl, rfl, hc, q.int hS⟩
    · cases e
  · rename_i e1 e2
    split at e
    · rename_i hc
      cases e
      rw [vint hx e1] at rx
      rw [vint hy e2] at ry
      unfold powOk at hc
      rw [Bool.and_eq_true] at hc
      exact op_powW pins s σ H _ _ v u Q I rx ry ⟨_, _, rfl, rfl, ⟨of_decide_eq_true hc.1, of_decide_eq_true hc.2⟩, q.int hS⟩
    · cases e
end
end MP

/-! MP2, part e: comparisons. -/
namespace MP
open PySem PySem.Spec L2
def Cm.py : Cm → CmpOp
  | .eq => .Eq
  | .ne => .NotEq
  | .lt => .Lt
  | .le => .LtE
  | .gt => .Gt
  | .ge => .GtE
  | .isin => .In
  | .notin => .NotIn
  | .is => .Is
  | .isnot => .IsNot
def rCmp (K : Fg) (c : Cm) : R2 := fun x y H Q => ∃ tt F ρ st dx dy b, SR tt F ρ K st H ∧ RN K H dx x ∧ RN K H dy y ∧ cmpD c dx dy = some b ∧ Q (.bl b) H
section
variable {K : Fg} {H : Hp}
theorem RN.int_iff {i : Int} {v : V} (h : RN K H (.int i) v) : v = .int i := by unfold RN at h; exact h
theorem RN.str_iff {i : Str} {v : V} (h : RN K H (.str i) v) : v = .str i ∧ i.length ≤ big := by unfold RN at h; exact h
theorem RN.bool_iff {i : Bool} {v : V} (h : RN K H (.bool i) v) : v = .bl i := by unfold RN at h; exact h
theorem RN.none_iff {v : V} (h : RN K H .none v) : v = .non := by unfold RN at h; exact h
theorem RN.tup_iff {xs : List D} {v : V} (h : RN K H (.tuple xs) v) : ∃ a vs, v = .ref a ∧ SqT K H a vs ∧ xs.length ≤ big ∧ RNs K H xs vs := by unfold RN at h; exact h
theorem RN.lst_iff {xs : List D} {v : V} (h : RN K H (.list xs) v) : ∃ a vs, v = .ref a ∧ Rd H a (.lst vs) ∧ xs.length ≤ big ∧ RNs K H xs vs := by unfold RN at h; exact h
end
section
variable {K : Fg} {H : Hp}
mutual
theorem RN.dp : ∀ (x : D) (v : V), x.canLay0 = true → RN K H x v → Dp K H v x
  | .none, v, _, h => by unfold RN at h; subst h; exact .non
  | .bool b, v, _, h => by unfold RN at h; subst h; exact .bl b
  | .int i, v, _, h => by unfold RN at h; subst h; exact .int i
  | .str y, v, _, h => by unfold RN at h; obtain ⟨rfl, _⟩ := h; exact .str y
  | .list xs, v, c, h => by
    unfold RN at h
    obtain ⟨a, vs, rfl, h1, h2, h3⟩ := h
    exact .lst (.inl h1) (RNs.dp xs vs (by simpa [PyData.canLay0] using c) h3)
  | .tuple xs, v, c, h => by
    unfold RN at h
    obtain ⟨a, vs, rfl, h1, h2, h3⟩ := h
    exact .tup h1 (RNs.dp xs vs (by simpa [PyData.canLay0] using c) h3)
  | .dict kvs, v, c, h => by simp [PyData.canLay0] at c
theorem RNs.dp : ∀ (xs : List D) (vs : List V), PyData.canLayAll0 xs = true → RNs K H xs vs → DpAll K H vs xs
  | [], vs, _, h => by unfold RNs at h; subst h; exact .nil
  | x :: xs, vs, c, h => by
    unfold RNs at h
    obtain ⟨v, r, rfl, h1, h2⟩ := h
    simp [PyData.canLayAll0] at c
    exact .cons (RN.dp x v c.1 h1) (RNs.dp xs r c.2 h2)
end
theorem RN.flat {x : D} {v : V} (f : flatD x = true) (h : RN K H x v) : flatV v = true := by
  cases x <;> simp [flatD] at f <;> unfold RN at h
  · subst h; rfl
  · subst h; rfl
  · subst h; rfl
  · obtain ⟨rfl, _⟩ := h; rfl
theorem RN.eqf {x y : D} {v u : V} (f : flatD x = true) (g : flatD y = true) (h : RN K H x v) (k : RN K H y u) : eqV v u = eqF x y := by
  cases x <;> cases y <;> simp [flatD] at f g <;> unfold RN at h k <;> (try obtain ⟨h, _⟩ := h) <;> (try obtain ⟨k, _⟩ := k) <;> (try subst h) <;> (try subst k) <;> first | rfl | (simp [eqV, eqF, b2i]; done)
theorem RNs.flat : ∀ {xs : List D} {vs : List V}, xs.all flatD = true → RNs K H xs vs → vs.all flatV = true
  | [], vs, _, h => by unfold RNs at h; subst h; rfl
  | x :: xs, vs, f, h => by
    unfold RNs at h
    obtain ⟨v, r, rfl, h1, h2⟩ := h
    simp only [List.all_cons, Bool.and_eq_true] at f ⊢
    exact ⟨RN.flat f.1 h1, RNs.flat f.2 h2⟩
theorem RNs.inv {y : D} {u : V} (g : flatD y = true) (k : RN K H y u) : ∀ {xs : List D} {vs : List V}, xs.all flatD = true → RNs K H xs vs → inV u vs = xs.any fun z => eqF z y
  | [], vs, _, h => by unfold RNs at h; subst h; rfl
  | x :: xs, vs, f, h => by
    unfold RNs at h
    obtain ⟨v, r, rfl, h1, h2⟩ := h
    simp only [List.all_cons, Bool.and_eq_true] at f
    have ih := RNs.inv g k f.2 h2
    unfold inV at ih ⊢
    rw [List.any_cons, List.any_cons, ih, RN.eqf f.1 g h1 k]
end
section
variable {X : Cx}
theorem rin_of {H : Hp} {dx dy : D} {x y : V} {xs : List D} {n : Bool} {Q : VK} (hx : RN X.K H dx x) (hy : RN X.K H dy y) (hd : dy = .list xs ∨ dy = .tuple xs) (f : (flatD dx && xs.all flatD) = true)
    (q : Q (.bl (if n then !(xs.any fun z => eqF z dx) else xs.any fun z => eqF z dx)) H) : rIn X.K n x y H Q := by
  rw [Bool.and_eq_true] at f
  rcases hd with rfl | rfl
  · obtain ⟨a, vs, rfl, h1, h2, h3⟩ := hy.lst_iff
    refine ⟨a, vs, rfl, .inl (.inl h1), RN.flat f.1 hx, RNs.flat f.2 h3, ?_⟩
    rw [RNs.inv f.1 hx f.2 h3]
    exact q
  · obtain ⟨a, vs, rfl, h1, h2, h3⟩ := hy.tup_iff
    refine ⟨a, vs, rfl, .inr h1, RN.flat f.1 hx, RNs.flat f.2 h3, ?_⟩
    rw [RNs.inv f.1 hx f.2 h3]
    exact q
theorem not_non {K : Fg} {H : Hp} {x : D} {v : V} (h : RN K H x v) (ne : x ≠ .none) : v ≠ .non := by
  rintro rfl
  cases x with
  | none => exact ne rfl
  | bool b => cases h.bool_iff
  | int b => cases h.int_iff
  | str b => cases h.str_iff.1
  | list xs => obtain ⟨_, _, e, _⟩ := h.lst_iff; cases e
  | tuple xs => obtain ⟨_, _, e, _⟩ := h.tup_iff; cases e
  | dict xs =>
    have h1 : RN K H (.dict xs) .non := h
    unfold RN at h1
    obtain ⟨_, _, e, _⟩ := h1
    cases e
theorem eqD_cases {x y : D} {b : Bool} (e : eqD x y = some b) : (∃ a c, x = .str a ∧ y = .str c ∧ b = decide (a = c)) ∨ (SeqAt.shaped x = true ∧ SeqAt.shaped y = true ∧ b = PyData.eqv x y) := by
  unfold eqD at e
  split at e
  · rename_i h
    rw [Bool.and_eq_true] at h
    cases x <;> first | (cases h.1; done) | skip
    cases y <;> first | (cases h.2; done) | skip
    cases e
    exact .inl ⟨_, _, rfl, rfl, rfl⟩
  · split at e
    · rename_i h
      rw [Bool.and_eq_true] at h
      cases e
      exact .inr ⟨h.1, h.2, rfl⟩
    · cases e
theorem eqE_cases {x y : D} {b : Bool} (e : eqE x y = some b) : eqD x y = some b ∨ ∃ xs ys, x = .list xs ∧ y = .list ys ∧ xs.length ≠ ys.length ∧ b = false := by
  unfold eqE at e
  split at e
  · rename_i h
    exact .inl (h.trans e)
  · split at e
    · rename_i h
      cases e
      cases x <;> first | (cases h; done) | skip
      cases y <;> first | (cases h; done) | skip
      exact .inr ⟨_, _, rfl, rfl, of_decide_eq_true h, rfl⟩
    · cases e
theorem RNs.length {K : Fg} {H : Hp} : ∀ {xs : List D} {vs : List V}, RNs K H xs vs → xs.length = vs.length
  | [], vs, h => by unfold RNs at h; subst h; rfl
  | x :: xs, vs, h => by
    unfold RNs at h
    obtain ⟨v, r, rfl, _, h2⟩ := h
    rw [List.length_cons, List.length_cons, RNs.length h2]
theorem dec_strV {a c : Str} : decide (V.str a = V.str c) = decide (a = c) := by
  rw [Bool.eq_iff_iff]
  simp
theorem ob_cmp (hu : X.A.units + 64 < cLine) (c : Cm) : OpR X (compareOp c.py) (rCmp X.K c) := by
  intro pins s σ H x y v u Q I rx ry h
  obtain ⟨tt, F, ρ, st, dx, dy, b, hS, hx, hy, e, q⟩ := h
  cases c with
  | eq =>
    rcases eqE_cases e with e | ⟨xs, ys, rfl, rfl, hl, rfl⟩
    case inr =>
      obtain ⟨a, vs, rfl, h1, _, h3⟩ := hx.lst_iff
      obtain ⟨b, ws, rfl, k1, _, k3⟩ := hy.lst_iff
      cases rx
      cases ry
      obtain ⟨its, rv, L1, _⟩ := I.list (.inl h1)
      obtain ⟨jts, rw', L2, _⟩ := I.list (.inl k1)
      have e1 := h3.length
      have e2 := k3.length
      have e3 := rv.length
      have e4 := rw'.length
      exact SeqAt.RcAt.lists_lengths L1.isList L2.isList (by simp; omega) (by omega) X.prog X.w _ _ ⟨.bl false, H, I, rfl, q⟩
    rcases eqD_cases e with ⟨a, c, rfl, rfl, rfl⟩ | ⟨e1, e2, rfl⟩
    · rw [hx.str_iff.1] at rx
      rw [hy.str_iff.1] at ry
      exact op_eq pins s σ H _ _ v u Q I rx ry ⟨rfl, by rw [dec_strV]; exact q⟩
    · exact op_eqD hu pins s σ H _ _ v u Q I rx ry ⟨dx, dy, RN.dp _ _ (SeqAt.canLay_of_shaped e1) hx, RN.dp _ _ (SeqAt.canLay_of_shaped e2) hy, e1, e2, q⟩
  | ne =>
    have e' : (eqD dx dy).map (!·) = some b := e
    cases h0 : eqD dx dy with
    | none => rw [h0] at e'; cases e'
    | some b0 =>
      rw [h0] at e'
      cases e'
      rcases eqD_cases h0 with ⟨a, c, rfl, rfl, rfl⟩ | ⟨e1, e2, rfl⟩
      · rw [hx.str_iff.1] at rx
        rw [hy.str_iff.1] at ry
        exact op_ne pins s σ H _ _ v u Q I rx ry ⟨rfl, by rw [dec_strV]; exact q⟩
      · exact op_neD hu pins s σ H _ _ v u Q I rx ry ⟨dx, dy, RN.dp _ _ (SeqAt.canLay_of_shaped e1) hx, RN.dp _ _ (SeqAt.canLay_of_shaped e2) hy, e1, e2, q⟩
  | lt =>
    cases dx <;> cases dy <;> simp [cmpD] at e
    subst e
    rw [hx.int_iff] at rx
    rw [hy.int_iff] at ry
    exact op_lt pins s σ H _ _ v u Q I rx ry ⟨_, _, rfl, rfl, q⟩
  | le =>
    cases dx <;> cases dy <;> simp [cmpD] at e
    subst e
    rw [hx.int_iff] at rx
    rw [hy.int_iff] at ry
    exact op_le pins s σ H _ _ v u Q I rx ry ⟨_, _, rfl, rfl, q⟩
  | gt =>
    cases dx <;> cases dy <;> simp [cmpD] at e
    subst e
    rw [hx.int_iff] at rx
    rw [hy.int_iff] at ry
    exact op_gt pins s σ H _ _ v u Q I rx ry ⟨_, _, rfl, rfl, q⟩
  | ge =>
    cases dx <;> cases dy <;> simp [cmpD] at e
    subst e
    rw [hx.int_iff] at rx
    rw [hy.int_iff] at ry
    exact op_ge pins s σ H _ _ v u Q I rx ry ⟨_, _, rfl, rfl, q⟩
  | isin =>
    cases dy <;> simp only [cmpD] at e <;> first | (cases dx <;> cases e) | skip
    · split at e
      · rename_i f
        cases e
        exact op_in_seq pins s σ H _ _ v u Q I rx ry (rin_of hx hy (.inl rfl) f q)
      · cases e
    · split at e
      · rename_i f
        cases e
        exact op_in_seq pins s σ H _ _ v u Q I rx ry (rin_of hx hy (.inr rfl) f q)
      · cases e
  | notin =>
    cases dy <;> simp only [cmpD] at e <;> first | (cases dx <;> cases e) | skip
    · split at e
      · rename_i f
        cases e
        exact op_notIn_seq pins s σ H _ _ v u Q I rx ry (rin_of hx hy (.inl rfl) f q)
      · cases e
    · split at e
      · rename_i f
        cases e
        exact op_notIn_seq pins s σ H _ _ v u Q I rx ry (rin_of hx hy (.inr rfl) f q)
      · cases e
  | is =>
    cases dy with
    | none =>
      have ey := hy.none_iff
      refine op_isN pins s σ H _ _ v u Q I rx ry ⟨ey, ?_⟩
      by_cases hn : dx = .none
      · subst hn
        simp [cmpD] at e
        subst e
        rw [hx.none_iff]
        exact q
      · have e2 : b = false := by cases dx <;> simp [cmpD] at e <;> first | exact e.symm | exact e | exact absurd rfl hn
        subst e2
        rw [decide_eq_false (not_non hx hn)]
        exact q
    | bool b' =>
      cases dx <;> simp [cmpD] at e
      subst e
      rename_i b
      rw [hx.bool_iff] at rx
      rw [hy.bool_iff] at ry
      refine op_isBl pins s σ H _ _ v u Q I rx ry ⟨_, _, rfl, rfl, ?_⟩
      have : decide (b = b') = (b == b') := by cases b <;> cases b' <;> rfl
      rw [this]
      exact q
    | _ => cases dx <;> simp [cmpD] at e
  | isnot =>
    cases dy with
    | none =>
      have ey := hy.none_iff
      refine op_notN pins s σ H _ _ v u Q I rx ry ⟨ey, ?_⟩
      by_cases hn : dx = .none
      · subst hn
        simp [cmpD] at e
        subst e
        rw [hx.none_iff]
        exact q
      · have e2 : b = true := by cases dx <;> simp [cmpD] at e <;> first | exact e.symm | exact e | exact absurd rfl hn
        subst e2
        rw [decide_eq_false (not_non hx hn)]
        exact q
    | bool b' =>
      cases dx <;> simp [cmpD] at e
      rename_i b1
      rw [hx.bool_iff] at rx
      rw [hy.bool_iff] at ry
      refine op_notBl pins s σ H _ _ v u Q I rx ry ⟨_, _, rfl, rfl, ?_⟩
      have : (!decide (b1 = b')) = b := by cases b1 <;> cases b' <;> cases b <;> first | rfl | cases e
      rw [this]
      exact q
    | _ => cases dx <;> simp [cmpD] at e
end
end MP

/-! MP2, part f: kinds, items, slices, truth, methods, stores. -/
namespace MP
open PySem PySem.Spec PyProof.Rows L2
def Ty.py : Ty → String
  | .int => "int"
  | .bool => "bool"
  | .tuple => "tuple"
  | .list => "list"
  | .str => "str"
  | .dict => "dict"
def tyW : Vw → String
  | .dat .none => "NoneType"
  | .dat (.bool _) => "bool"
  | .dat (.int _) => "int"
  | .dat (.str _) => "str"
  | .lst _ => "list"
  | .tup _ => "tuple"
  | _ => "dict"
section
variable {tt : List (Addr × Str)} {F : FS} {K : Fg} {H : Hp} {ρ : List Addr} {st : Store}
theorem SR.ty (s : SR tt F ρ K st H) {t : T} {v : V} (h : TR F ρ K H t v) (hb : ∀ (k : Ty), (isiV k (view st t)).isSome = true) : TyX K H v (.type (tyW (view st t))) := by
  cases e : view st t with
  | bad => have := hb .int; rw [e] at this; cases this
  | dat x =>
    cases x with
    | none => rw [vnone h e]; exact .base .non
    | bool b => rw [vbool h e]; exact .base (.bl b)
    | int b => rw [vint h e]; exact .base (.int b)
    | str b => rw [(vstr h e).1]; exact .base (.str b)
    | list xs => have := (vdat h e).1; cases this
    | tuple xs => have := (vdat h e).1; cases this
    | dict xs => have := (vdat h e).1; cases this
  | lst ts =>
    obtain ⟨a, vs, rfl, h1, _⟩ := s.vlst h e
    rcases h1 with h1 | ⟨o, h1⟩
    · exact .base (.lst h1)
    · exact .base (.frz h1)
  | tup ts =>
    obtain ⟨a, vs, rfl, h1, _⟩ := s.vtup h e
    rcases h1 with ⟨_, h1 | ⟨o, h1⟩⟩ | ⟨o, its, n, h1, h2, _⟩
    · exact .base (.tup h1)
    · exact .fTuple h1
    · exact .kTuple h1 h2
  | dct ks ts =>
    obtain ⟨a, vs, rfl, h2, _⟩ := s.vdct h e
    exact .base (.dK h2)
theorem isi_some {t : Ty} {w : Vw} {b : Bool} (h : isiV t w = some b) : ∀ k, (isiV k w).isSome = true := fun k => by
  cases w with
  | bad => cases t <;> cases h
  | dat x => cases x <;> cases t <;> first | (cases h; done) | (cases k <;> rfl)
  | lst ts => cases k <;> rfl
  | tup ts => cases k <;> rfl
  | dct ks ts => cases k <;> rfl
theorem kit_isi {t : Ty} {w : Vw} {b : Bool} (h : isiV t w = some b) : kitB (tyW w) t.py = some b := by
  cases w with
  | bad => cases t <;> cases h
  | dat x =>
    cases x <;> cases t <;> first | (cases h; done) | skip
    all_goals (simp only [isiV, Option.some.injEq] at h; subst h; simp only [tyW, Ty.py]; decide +kernel)
  | lst ts => cases t <;> (simp only [isiV, Option.some.injEq] at h; subst h; simp only [tyW, Ty.py]; decide +kernel)
  | tup ts => cases t <;> (simp only [isiV, Option.some.injEq] at h; subst h; simp only [tyW, Ty.py]; decide +kernel)
  | dct ks ts => cases t <;> (simp only [isiV, Option.some.injEq] at h; subst h; simp only [tyW, Ty.py]; decide +kernel)
end
section
variable {X : Cx}
theorem ob_isi (t : Ty) : CallR X (.builtin "isinstance") (fun xs H Q => ∃ tt F ρ st tx x b, xs = [x, .ty t.py] ∧ SR tt F ρ X.K st H ∧ TR F ρ X.K H tx x ∧ isiV t (view st tx) = some b ∧ Q (.bl b) H) := by
  intro pins s σ H xs us Q I r h
  obtain ⟨tt, F, ρ, st, tx, x, b, rfl, hS, hx, e, q⟩ := h
  exact call_isi pins s σ H _ us Q I r ⟨x, .ty t.py, .type (tyW (view st tx)), .type t.py, b, rfl, .ty _, hS.ty hx (isi_some e), kit_ty (kit_isi e), q⟩
/-! ### items and slices -/
theorem ixN_eq (n : Nat) (i : Int) : MP.ixN n i = L2.ixN n i := rfl
theorem TRs.at {F : FS} {ρ : List Addr} {K : Fg} {H : Hp} {xs : List T} {vs : List V} {i : Int} {x : T} (h : TRs F ρ K H xs vs) (e : atT xs i = some x) : ∃ v, atI vs i = some v ∧ TR F ρ K H x v := by
  unfold atT at e
  unfold atI
  rw [← ixN_eq, ← h.length]
  cases hi : MP.ixN xs.length i with
  | none => rw [hi] at e; cases e
  | some j =>
    rw [hi] at e
    exact h.get e
theorem TRs.getK {F : FS} {ρ : List Addr} {K : Fg} {H : Hp} {k : Key} {x : T} : ∀ {ks : List Key} {ts : List T} {vs : List V}, ks.length = vs.length → TRs F ρ K H ts vs → MP.getK k ks ts = some x → ∃ v, valV (ks.zip vs) k = some v ∧ TR F ρ K H x v
  | [], ts, vs, hl, h, e => by simp [MP.getK] at e
  | k' :: ks, [], vs, hl, h, e => by simp [MP.getK] at e
  | k' :: ks, t :: ts, vs, hl, h, e => by
    unfold TRs at h
    obtain ⟨v, r, rfl, h1, h2⟩ := h
    rw [List.zip_cons_cons]
    simp only [MP.getK] at e
    by_cases hk : k' = k
    · rw [if_pos hk] at e
      cases e
      exact ⟨v, valV_pos hk, h1⟩
    · rw [if_neg hk] at e
      obtain ⟨w, e1, e2⟩ := TRs.getK (by simpa using hl) h2 e
      exact ⟨w, by rw [valV_neg hk]; exact e1, e2⟩
theorem ix_dict (hu : X.A.units + 1 < cLine) : IxR X (fun x y H Q => ∃ a v, x = .ref a ∧ DGet H a y (some v) ∧ Q v H) := by
  intro value slice pins s σ H x y v u Q I rx ry h hs
  obtain ⟨a, z, rfl, g, q⟩ := h
  obtain rfl : v = Value.ref a := rx
  exact tail_any (dict_typeIs I g) PySem.F.slot_dict_getitem.lookup (d_getItem hu I g ry fun w' s3 I3 rw' => ⟨z, H, I3, rw', q⟩) hs
theorem ob_ix (hu : X.A.units + 1 < cLine) : IxR X (fun x y H Q => ∃ tt F ρ st tx ty tz, SR tt F ρ X.K st H ∧ TR F ρ X.K H tx x ∧ TR F ρ X.K H ty y ∧ ixV (view st tx) (view st ty) = some tz ∧ Aft tt F ρ X.K H st (.t tz) Q) := by
  intro value slice pins s σ H x y v u Q I rx ry h hs
  obtain ⟨tt, F, ρ, st, tx, ty, tz, hS, hx, hy, e, q⟩ := h
  unfold ixV at e
  split at e <;> first | (cases e; done) | skip
  · rename_i e1 e2
    rw [vint hy e2] at ry
    obtain ⟨a, vs, rfl, h1, h2, h3⟩ := hS.vlst hx e1
    obtain ⟨z, q1, q2⟩ := TRs.at h3 e
    exact ix_list value slice pins s σ H _ _ v u Q I rx ry ⟨a, vs, _, z, rfl, rfl, .inl h1, q1, q.same hS q2⟩ hs
  · rename_i e1 e2
    rw [vint hy e2] at ry
    obtain ⟨a, vs, rfl, h1, h2, h3⟩ := hS.vtup hx e1
    obtain ⟨z, q1, q2⟩ := TRs.at h3 e
    exact ix_tup value slice pins s σ H _ _ v u Q I rx ry ⟨a, vs, _, z, rfl, rfl, h1.sq, q1, q.same hS q2⟩ hs
  · rename_i ks ts i e1 e2
    rw [vint hy e2] at ry
    obtain ⟨a, vs, rfl, h1, h2, h3, h4⟩ := hS.vdct hx e1
    obtain ⟨z, q1, q2⟩ := TRs.getK h2 h4 e
    exact ix_dict hu value slice pins s σ H _ _ v u Q I rx ry ⟨a, z, rfl, by rw [← q1]; exact DGet.k (k := .inl i) h1, q.same hS q2⟩ hs
  · rename_i ks ts i e1 e2
    rw [(vstr hy e2).1] at ry
    obtain ⟨a, vs, rfl, h1, h2, h3, h4⟩ := hS.vdct hx e1
    obtain ⟨z, q1, q2⟩ := TRs.getK h2 h4 e
    exact ix_dict hu value slice pins s σ H _ _ v u Q I rx ry ⟨a, z, rfl, by rw [← q1]; exact DGet.k (k := .inr i) h1, q.same hS q2⟩ hs
theorem sIx_eq (n d : Nat) (o : Option Int) : MP.sIx n d o = HT.sIx n d o := by
  cases o with
  | none => rfl
  | some v =>
    have h := HT.clip_eq v n d
    show (if v < 0 then (max (v + n) 0).toNat else (min v n).toNat) = _
    by_cases hv : v < 0
    · rw [if_pos hv] at h ⊢
      omega
    · rw [if_neg hv] at h ⊢
      omega
theorem TRs.cut {F : FS} {ρ : List Addr} {K : Fg} {H : Hp} {xs : List T} {vs : List V} (h : TRs F ρ K H xs vs) (lo hi : Option Int) : TRs F ρ K H (cutT xs lo hi) (cutV vs lo hi) := by
  unfold cutT cutV
  rw [sIx_eq, sIx_eq, h.length]
  exact (h.drop _).take _
theorem cutT_len (xs : List T) (lo hi : Option Int) : (cutT xs lo hi).length ≤ xs.length := by
  unfold cutT
  rw [List.length_take, List.length_drop]
  omega
theorem ob_sl : SlR X (fun x lo hi H Q => ∃ tt F ρ st tx r, SR tt F ρ X.K st H ∧ TR F ρ X.K H tx x ∧ slV (view st tx) lo hi = some r ∧ Aft tt F ρ X.K H st r Q) := by
  intro pins s σ H x v vl vu lo hi sl Q I rx hs pl pu h
  obtain ⟨tt, F, ρ, st, tx, r, hS, hx, e, q⟩ := h
  cases e1 : view st tx with
  | bad => rw [e1] at e; cases e
  | dat x => rw [e1] at e; cases e
  | dct ks ts => rw [e1] at e; cases e
  | lst xs =>
    rw [e1] at e
    cases e
    obtain ⟨a, vs, rfl, h1, h2, h3⟩ := hS.vlst hx e1
    exact sl_list pins s σ H _ v vl vu lo hi sl Q I rx hs pl pu ⟨a, vs, rfl, .inl h1, q.lst hS (Nat.le_trans (cutT_len xs lo hi) h2) (h3.cut lo hi)⟩
  | tup xs =>
    rw [e1] at e
    cases e
    obtain ⟨a, vs, rfl, h1, h2, h3⟩ := hS.vtup hx e1
    refine sl_tupA pins s σ H _ v vl vu lo hi sl Q I rx hs pl pu ⟨a, vs, rfl, h1.sq, fun z => ?_, fun _ => q.tup hS (Nat.le_trans (cutT_len xs lo hi) h2) (h3.cut lo hi)⟩
    have ec : cutT xs lo hi = xs := by
      unfold cutT
      rw [sIx_eq, sIx_eq, h3.length, z.1, z.2, List.drop_zero, ← h3.length]
      simp
    rw [ec] at q
    exact q.same hS (TR.mkTup h1 h2 h3)
/-! ### truth -/
theorem ob_tru {tt : List (Addr × Str)} {F : FS} {ρ : List Addr} {st : Store} {H : Hp} {t : T} {v : V} {b : Bool} (hS : SR tt F ρ X.K st H) (h : TR F ρ X.K H t v) (e : truthV (view st t) = some b) : TruV X.K v H b := by
  unfold truthV at e
  split at e <;> first | (cases e; done) | (cases e)
  · rename_i e1; rw [vnone h e1]; rfl
  · rename_i e1; rw [vbool h e1]; rfl
  · rename_i e1; rw [vint h e1]; rfl
  · rename_i b e1
    obtain ⟨rfl, h1⟩ := vstr h e1
    refine ⟨by rw [← big_size]; exact h1, ?_⟩
    show (b.length != 0) = ((b.length : Int) != 0)
    cases hb : b.length <;> simp
    omega
  · rename_i ts e1
    obtain ⟨a, vs, rfl, h1, h2, h3⟩ := hS.vlst h e1
    refine .inl ⟨vs, .inl h1, ?_⟩
    have := h3.length
    cases ts <;> cases vs <;> simp at this <;> rfl
  · rename_i ts e1
    obtain ⟨a, vs, rfl, h1, h2, h3⟩ := hS.vtup h e1
    refine .inr (.inl ⟨vs, h1.sq, ?_⟩)
    have := h3.length
    cases ts <;> cases vs <;> simp at this <;> rfl
  · rename_i ks ts e1
    obtain ⟨a, vs, rfl, h1, h2, h3, h4⟩ := hS.vdct h e1
    refine .inr (.inr ⟨ks.zip vs, h1, ?_⟩)
    cases ks <;> cases vs <;> simp at h2 <;> rfl
/-! ### methods -/
def Meth.nm : Meth → Str
  | .append => "append"
  | .pop => "pop"
  | .insert => "insert"
  | .extend => "extend"
  | .clear => "clear"
def Meth.id : Meth → String
  | .append => "list.append"
  | .pop => "list.pop"
  | .insert => "list.insert"
  | .extend => "list.extend"
  | .clear => "list.clear"
theorem Meth.slot : (m : Meth) → Slot "list" m.nm m.id
  | .append => PySem.F.slot_list_append
  | .pop => PySem.F.slot_list_pop
  | .insert => PySem.F.slot_list_insert
  | .extend => PySem.F.slot_list_extend
  | .clear => PySem.F.slot_list_clear
theorem Meth.ty : (m : Meth) → typeOf (.builtin m.id) = pure (.type "method_descriptor")
  | .append => PySem.F.type_list_append
  | .pop => PySem.F.type_list_pop
  | .insert => PySem.F.type_list_insert
  | .extend => PySem.F.type_list_extend
  | .clear => PySem.F.type_list_clear
theorem mt_extR : MtM X "list.extend" (fun x vs H Q => ∃ l b xs zs, x = .ref l ∧ vs = [.ref b] ∧ H l = some (.lst xs) ∧ Rd H b (.lst zs) ∧ xs.length + zs.length ≤ sizeLine ∧ Q .non (upd H l (.lst (xs ++ zs)))) := by
  intro pins s σ H x vs v us Q I rx rv h
  obtain ⟨l, b, xs, zs, rfl, rfl, hH, hB, hz, q⟩ := h
  cases rx
  obtain ⟨u, rfl, ru⟩ := rv.one
  cases ru
  obtain ⟨z, its, n, r, hl, e⟩ := I.lstM hH
  obtain ⟨z2, i2, n2, r2, e2⟩ := Inv.lstR I hB
  have hl2 := r2.length
  have hsz : its.toArray.size + i2.toArray.size ≤ sizeLine := by rw [List.size_toArray, List.size_toArray]; omega
  have hlong : ¬ (!its.toArray.isEmpty && Builtin.List.listTooLong (its.toArray.size + i2.toArray.size)) = true := by
    rw [notLongL hsz, Bool.and_false]
    exact Bool.false_ne_true
  refine call_meets PySem.F.slot_list_extend ⟨_, e, rfl⟩ PySem.F.entry_list_extend (PySem.F.args_list_extend_2 _ _)
    (AutoSeq1.list_extend_list_list_0 l its.toArray n b i2.toArray n2 hlong (by rw [List.size_toArray]; omega) (by omega)) ⟨e, e2, ?_⟩
  refine ⟨.non, _, I.lset (its' := its ++ i2) hH e (by simp) (r.append r2) ?_, rfl, q⟩
  rw [List.length_append]
  omega
def rMeth (K : Fg) (m : Meth) : V → List V → Hp → VK → Prop := fun x vs H Q => ∃ tt F ρ st n a xs ys v xs', SR tt F ρ K st H ∧ ρ[n]? = some a ∧ x = .ref a ∧ st[n]? = some (.lst xs) ∧ TRs F ρ K H ys vs ∧ methT st m xs ys = some (v, xs') ∧ olds n xs' = true ∧
  Aft tt F ρ K H (st.set n (.lst xs')) (.t v) Q
theorem trs1 {F : FS} {ρ : List Addr} {K : Fg} {H : Hp} {y : T} {vs : List V} (h : TRs F ρ K H [y] vs) : ∃ v, vs = [v] ∧ TR F ρ K H y v := by
  unfold TRs at h
  obtain ⟨v, r, rfl, h1, h2⟩ := h
  unfold TRs at h2
  subst h2
  exact ⟨v, rfl, h1⟩
theorem trs2 {F : FS} {ρ : List Addr} {K : Fg} {H : Hp} {y z : T} {vs : List V} (h : TRs F ρ K H [y, z] vs) : ∃ v w, vs = [v, w] ∧ TR F ρ K H y v ∧ TR F ρ K H z w := by
  unfold TRs at h
  obtain ⟨v, r, rfl, h1, h2⟩ := h
  obtain ⟨w, rfl, h3⟩ := trs1 h2
  exact ⟨v, w, rfl, h1, h3⟩
theorem tr_none {F : FS} {ρ : List Addr} {K : Fg} {H : Hp} : RVR F ρ K H (.t (.d .none)) .non := by unfold RVR TR RD; rfl
theorem ob_meth (m : Meth) : MtR X m.id (rMeth X.K m) := by
  intro pins s σ H x vs v us Q I rx rv h
  obtain ⟨tt, F, ρ, st, n, a, xs, ys, w, xs', hS, hn, rfl, hc, hy, e, ho, q⟩ := h
  obtain ⟨ws, h1, h2, h3⟩ := hS.cells n _ a hc hn
  have hl := h3.length
  cases m with
  | append =>
    match ys, hy, e with
    | [y], hy, e =>
      simp only [methT] at e
      split at e
      · rename_i e1
        cases e
        obtain ⟨z, rfl, hz⟩ := trs1 hy
        obtain ⟨s1, s2⟩ := hS.writeL (xs := xs ++ [y]) (vs := ws ++ [z]) hn hc ho (by rw [List.length_append, List.length_singleton]; omega) (h3.append (.one hz))
        refine mt_append pins s σ H _ _ v us Q I rx rv ⟨a, ws, z, rfl, rfl, h1, by rw [← big_size]; omega, ?_⟩
        exact q F ρ _ _ s1 s2 tr_none
      · cases e
    | [], _, e => simp [methT] at e
    | _ :: _ :: _, _, e => simp [methT] at e
  | pop =>
    match ys, hy, e with
    | [], hy, e =>
      unfold TRs at hy
      subst hy
      simp only [methT] at e
      split at e
      · cases e
      · cases hx : xs[xs.length - 1]? with
        | none => rw [hx] at e; cases e
        | some y =>
          rw [hx] at e
          simp only [Option.map_some, Option.some.injEq, Prod.mk.injEq] at e
          obtain ⟨rfl, rfl⟩ := e
          obtain ⟨z, g1, g2⟩ := h3.get hx
          obtain ⟨s1, s2⟩ := hS.writeL (xs := xs.dropLast) (vs := ws.dropLast) hn hc ho (by rw [List.length_dropLast]; omega) h3.dropLast
          refine mt_pop pins s σ H _ _ v us Q I rx rv ⟨a, ws, z, rfl, rfl, h1, by rw [← hl]; exact g1, ?_⟩
          exact q F ρ _ _ s1 s2 (s1.tr g2)
    | [y], hy, e =>
      cases y <;> first | (simp [methT] at e; done) | skip
      rename_i y
      cases y <;> first | (simp [methT] at e; done) | skip
      rename_i i
      simp only [methT] at e
      obtain ⟨k, ek, e⟩ := Option.bind_eq_some_iff.mp e
      obtain ⟨y, ey, e⟩ := Option.map_eq_some_iff.mp e
      cases e
      obtain ⟨z, rfl, hz⟩ := trs1 hy
      have hz := hz.int_iff
      subst hz
      obtain ⟨z, g1, g2⟩ := h3.get ey
      rw [ixN_eq] at ek
      obtain ⟨k1, k2, k3, k4⟩ := ixN_seq ek
      obtain ⟨s1, s2⟩ := hS.writeL (xs := xs.eraseIdx k) (vs := ws.eraseIdx k) hn hc ho (Nat.le_trans (len_erase xs k) h2) (h3.eraseIdx k)
      have b1 : xs.length ≤ 16777216 := h2
      refine mt_popAt pins s σ H _ _ v us Q I rx rv ⟨a, ws, i, k, z, rfl, rfl, h1, by omega, by omega, by rw [← hl]; exact k1, g1, ?_⟩
      exact q F ρ _ _ s1 s2 (s1.tr g2)
    | _ :: _ :: _, _, e => simp [methT] at e
  | insert =>
    match ys, hy, e with
    | [], _, e => simp [methT] at e
    | [_], _, e => simp [methT] at e
    | _ :: _ :: _ :: _, _, e => simp [methT] at e
    | [y, z], hy, e =>
      cases y <;> first | (simp [methT] at e; done) | skip
      rename_i y
      cases y <;> first | (simp [methT] at e; done) | skip
      rename_i i
      simp only [methT] at e
      split at e
      · rename_i e1
        cases e
        obtain ⟨u1, u2, rfl, r1, r2⟩ := trs2 hy
        have r1 := r1.int_iff
        subst r1
        obtain ⟨s1, s2⟩ := hS.writeL (xs := insAt i.toNat z xs) (vs := ws.take i.toNat ++ [u2] ++ ws.drop i.toNat) hn hc ho (by unfold insAt; rw [List.length_append, List.length_cons, List.length_take, List.length_drop]; omega) (by
          unfold insAt
          rw [List.append_assoc]
          exact (h3.take _).append (.cons r2 (h3.drop _)))
        refine mt_insert pins s σ H _ _ v us Q I rx rv ⟨a, ws, i, u2, rfl, rfl, h1, by rw [← big_size]; omega, e1.2.1, by omega, ?_⟩
        exact q F ρ _ _ s1 s2 tr_none
      · cases e
  | extend =>
    match ys, hy, e with
    | [y], hy, e =>
      simp only [methT] at e
      split at e
      · rename_i zs hv
        split at e
        · rename_i e1
          cases e
          obtain ⟨z, rfl, hz⟩ := trs1 hy
          obtain ⟨b, us', rfl, g1, g2, g3⟩ := hS.vlst hz hv
          have hl2 := g3.length
          obtain ⟨s1, s2⟩ := hS.writeL (xs := xs ++ zs) (vs := ws ++ us') hn hc ho (by rw [List.length_append]; omega) (h3.append g3)
          refine mt_extR pins s σ H _ _ v us Q I rx rv ⟨a, b, ws, us', rfl, rfl, h1, g1, by rw [← big_size]; omega, ?_⟩
          exact q F ρ _ _ s1 s2 tr_none
        · cases e
      · cases e
    | [], _, e => simp [methT] at e
    | _ :: _ :: _, _, e => simp [methT] at e
  | clear =>
    match ys, hy, e with
    | [], hy, e =>
      unfold TRs at hy
      subst hy
      simp only [methT] at e
      cases e
      obtain ⟨s1, s2⟩ := hS.writeL (xs := []) (vs := []) hn hc ho (by simp) .nil
      refine mt_clear pins s σ H _ _ v us Q I rx rv ⟨a, ws, rfl, rfl, h1, ?_⟩
      exact q F ρ _ _ s1 s2 tr_none
    | _ :: _, _, e => simp [methT] at e
/-! ### o[i] = v -/
theorem zip_any (k : Key) : ∀ (ks : List Key) (vs : List V), ks.length = vs.length → ((ks.zip vs).any fun kv => decide (kv.1 = k)) = ks.any fun k' => decide (k' = k)
  | [], [], _ => rfl
  | k' :: ks, v :: vs, h => by
    rw [List.zip_cons_cons, List.any_cons, List.any_cons, zip_any k ks vs (by simpa using h)]
  | [], _ :: _, h => by simp at h
  | _ :: _, [], h => by simp at h
theorem zip_map (k : Key) (w : V) : ∀ (ks : List Key) (vs : List V), ks.length = vs.length → (ks.zip vs).map (fun kv => if kv.1 = k then (kv.1, w) else kv) = ks.zip (List.zipWith (fun k' v => if k' = k then w else v) ks vs)
  | [], [], _ => rfl
  | k' :: ks, v :: vs, h => by
    rw [List.zip_cons_cons, List.map_cons, List.zipWith_cons_cons, List.zip_cons_cons, zip_map k w ks vs (by simpa using h)]
    by_cases hk : k' = k
    · simp [hk]
    · simp [hk]
  | [], _ :: _, h => by simp at h
  | _ :: _, [], h => by simp at h
theorem TRs.setZ {F : FS} {ρ : List Addr} {K : Fg} {H : Hp} {k : Key} {x : T} {w : V} (hx : TR F ρ K H x w) : ∀ {ks : List Key} {ts : List T} {vs : List V}, ks.length = vs.length → TRs F ρ K H ts vs →
    TRs F ρ K H (List.zipWith (fun k' t => if k' = k then x else t) ks ts) (List.zipWith (fun k' v => if k' = k then w else v) ks vs)
  | [], ts, vs, hl, h => by simp; exact .nil
  | k' :: ks, [], vs, hl, h => by
    unfold TRs at h
    subst h
    simp at hl
  | k' :: ks, t :: ts, vs, hl, h => by
    unfold TRs at h
    obtain ⟨v, r, rfl, h1, h2⟩ := h
    rw [List.zipWith_cons_cons, List.zipWith_cons_cons]
    refine .cons ?_ (TRs.setZ hx (by simpa using hl) h2)
    by_cases hk : k' = k
    · rw [if_pos hk, if_pos hk]; exact hx
    · rw [if_neg hk, if_neg hk]; exact h1
theorem olds_zip {n : Nat} {k : Key} {x : T} (hx : x.old n = true) : ∀ {ks : List Key} {ts : List T}, olds n ts = true → olds n (List.zipWith (fun k' t => if k' = k then x else t) ks ts) = true
  | [], ts, h => by simp [olds]
  | k' :: ks, [], h => by simp [olds]
  | k' :: ks, t :: ts, h => by
    rw [List.zipWith_cons_cons]
    simp only [olds, Bool.and_eq_true] at h ⊢
    refine ⟨?_, olds_zip hx h.2⟩
    split
    · exact hx
    · exact h.1
theorem olds_app {n : Nat} : ∀ {xs ys : List T}, olds n xs = true → olds n ys = true → olds n (xs ++ ys) = true
  | [], ys, _, h => h
  | x :: xs, ys, h, g => by
    rw [List.cons_append]
    simp only [olds, Bool.and_eq_true] at h ⊢
    exact ⟨h.1, olds_app h.2 g⟩
theorem olds_set {n : Nat} {x : T} (hx : x.old n = true) : ∀ {xs : List T} (i : Nat), olds n xs = true → olds n (xs.set i x) = true
  | [], i, h => by simpa using h
  | y :: xs, 0, h => by
    simp only [List.set_cons_zero, olds, Bool.and_eq_true] at h ⊢
    exact ⟨hx, h.2⟩
  | y :: xs, i + 1, h => by
    simp only [List.set_cons_succ, olds, Bool.and_eq_true] at h ⊢
    exact ⟨h.1, olds_set hx i h.2⟩
/-- what a store by an index wants -/
def rSet (K : Fg) : TSet := fun o i v H Q => ∃ tt F ρ st n a, SR tt F ρ K st H ∧ ρ[n]? = some a ∧ o = .ref a ∧
    ((∃ xs k j x, i = .int k ∧ st[n]? = some (.lst xs) ∧ MP.ixN xs.length k = some j ∧ TR F ρ K H x v ∧ x.old n = true ∧ ∀ H', Stp F ρ H F ρ H' → SR tt F ρ K (st.set n (.lst (xs.set j x))) H' → Q H') ∨
     (∃ ks ts k x, i = kV k ∧ st[n]? = some (.dct ks ts) ∧ ks.length < 1000 ∧ TR F ρ K H x v ∧ x.old n = true ∧ ∀ H', Stp F ρ H F ρ H' → SR tt F ρ K (st.set n (.dct (setK k x ks ts).1 (setK k x ks ts).2)) H' → Q H'))
theorem ob_set (hu : X.A.units + 1 < cLine) : PSet X (rSet X.K) := by
  intro pins s σ H o i v ov iv u Q I ro ri rv h
  obtain ⟨tt, F, ρ, st, n, a, hS, hn, rfl, h⟩ := h
  rcases h with ⟨xs, k, j, x, rfl, hc, hj, hx, ho, q⟩ | ⟨ks, ts, k, x, rfl, hc, hk, hx, ho, q⟩
  · obtain ⟨ws, h1, h2, h3⟩ := hS.cells n _ a hc hn
    obtain ⟨s1, s2⟩ := hS.writeL (xs := xs.set j x) (vs := ws.set j v) hn hc (olds_set ho j (hS.old n _ hc)) (by rw [List.length_set]; exact h2) (h3.set j hx)
    exact set_list pins s σ H _ _ v ov iv u Q I ro ri rv ⟨a, ws, k, j, rfl, rfl, h1, by rw [← h3.length, ← ixN_eq]; exact hj, q _ s1 s2⟩
  · obtain ⟨ws, h1, h2, h3, h4⟩ := hS.cells n _ a hc hn
    have hz : (ks.zip ws).length < sizeLine := by
      rw [List.length_zip, sizeLine_eq]
      omega
    have e := zip_any k ks ws h2
    have hold := hS.old n _ hc
    have core : ∃ vs', putK (ks.zip ws) k v = (setK k x ks ts).1.zip vs' ∧ (setK k x ks ts).1.length = vs'.length ∧ (setK k x ks ts).1.length ≤ big ∧ TRs F ρ X.K H (setK k x ks ts).2 vs' ∧ olds n (setK k x ks ts).2 = true := by
      unfold putK setK
      rw [e]
      by_cases hb : (ks.any fun k' => decide (k' = k)) = true
      · rw [if_pos hb, if_pos hb]
        refine ⟨_, zip_map k v ks ws h2, ?_, h3, TRs.setZ hx h2 h4, olds_zip ho hold⟩
        show ks.length = (List.zipWith _ ks ws).length
        rw [List.length_zipWith]
        omega
      · rw [if_neg hb, if_neg hb]
        refine ⟨ws ++ [v], ?_, by simp [h2], ?_, h4.append (.one hx), olds_app hold (by simp [olds, ho])⟩
        · rw [List.zip_append h2]
          rfl
        · rw [List.length_append, List.length_singleton]
          show _ ≤ 16777216
          omega
    obtain ⟨vs', c1, c2, c3, c4, c5⟩ := core
    obtain ⟨s1, s2⟩ := hS.write (o := .dK ((setK k x ks ts).1.zip vs')) (c := .dct (setK k x ks ts).1 (setK k x ks ts).2) hn hc c5 fun H' e' l => ⟨vs', e', c2, c3, l.trs c4⟩
    refine set_dict hu pins s σ H _ _ v ov iv u Q I ro ri rv ⟨a, _, rfl, DPut.k h1 hz, ?_⟩
    rw [c1]
    exact q _ s1 s2
end
end MP

/-! NXi: sorted of tuples of tuples .. of ints -/
namespace NO
open PySem PySem.Spec PyProof.Rows PySem.SeqAt
mutual
def TD (h : Heap) : D → Value → Prop
  | .int i, v => ∃ t, v = .int i t
  | .tuple xs, v => ∃ a its, v = .ref a ∧ h.IsTuple a its ∧ TDs h xs its.toList
  | .none, _ => False
  | .bool _, _ => False
  | .str _, _ => False
  | .list _, _ => False
  | .dict _, _ => False
def TDs (h : Heap) : List D → List Value → Prop
  | [], vs => vs = []
  | x :: xs, vs => ∃ v r, vs = v :: r ∧ TD h x v ∧ TDs h xs r
end
section
variable {h h' : Heap}
mutual
theorem TD.keep (k : ∀ b o, h.get? b = some o → o.cls = .type "tuple" → h'.get? b = some o) : ∀ (x : D) (v : Value), TD h x v → TD h' x v
  | .int i, v, q => by unfold TD at q ⊢; exact q
  | .tuple xs, v, q => by
    unfold TD at q ⊢
    obtain ⟨a, its, e, ⟨o, h1, h2, h3⟩, r⟩ := q
    exact ⟨a, its, e, ⟨o, k _ _ h1 h2, h2, h3⟩, TDs.keep k xs _ r⟩
  | .none, v, q => by unfold TD at q; exact q.elim
  | .bool _, v, q => by unfold TD at q; exact q.elim
  | .str _, v, q => by unfold TD at q; exact q.elim
  | .list _, v, q => by unfold TD at q; exact q.elim
  | .dict _, v, q => by unfold TD at q; exact q.elim
theorem TDs.keep (k : ∀ b o, h.get? b = some o → o.cls = .type "tuple" → h'.get? b = some o) : ∀ (xs : List D) (vs : List Value), TDs h xs vs → TDs h' xs vs
  | [], vs, q => by unfold TDs at q ⊢; exact q
  | x :: xs, vs, q => by
    unfold TDs at q ⊢
    obtain ⟨v, r, e, h1, h2⟩ := q
    exact ⟨v, r, e, TD.keep k x v h1, TDs.keep k xs r h2⟩
end
mutual
theorem TD.reads : ∀ (x : D) (v : Value), TD h x v → (∃ as, Reads h v x as) ∧ x.canLay0 = true
  | .int i, v, q => by
    unfold TD at q
    obtain ⟨t, rfl⟩ := q
    exact ⟨⟨_, .int i t⟩, by simp [PyData.canLay0]⟩
  | .tuple xs, v, q => by
    unfold TD at q
    obtain ⟨a, its, rfl, ⟨o, h1, h2, n, h3⟩, r⟩ := q
    obtain ⟨⟨as, q1⟩, q2⟩ := TDs.reads xs _ r
    exact ⟨⟨_, .tuple h1 h2 h3 q1⟩, by simpa [PyData.canLay0] using q2⟩
  | .none, v, q => by unfold TD at q; exact q.elim
  | .bool _, v, q => by unfold TD at q; exact q.elim
  | .str _, v, q => by unfold TD at q; exact q.elim
  | .list _, v, q => by unfold TD at q; exact q.elim
  | .dict _, v, q => by unfold TD at q; exact q.elim
theorem TDs.reads : ∀ (xs : List D) (vs : List Value), TDs h xs vs → (∃ as, ReadsAll h vs xs as) ∧ PyData.canLayAll0 xs = true
  | [], vs, q => by
    unfold TDs at q
    subst q
    exact ⟨⟨_, .nil⟩, by simp [PyData.canLayAll0]⟩
  | x :: xs, vs, q => by
    unfold TDs at q
    obtain ⟨v, r, rfl, h1, h2⟩ := q
    obtain ⟨⟨as, q1⟩, q2⟩ := TD.reads x v h1
    obtain ⟨⟨bs, q3⟩, q4⟩ := TDs.reads xs r h2
    exact ⟨⟨_, .cons q1 q3⟩, by simp [PyData.canLayAll0, q2, q4]⟩
end
theorem IsTuple.uniq {a : Addr} {i j : Array Value} (p : h.IsTuple a i) (q : h.IsTuple a j) : i = j := by
  obtain ⟨o, h1, _, n, h2⟩ := p
  obtain ⟨o', h3, _, m, h4⟩ := q
  rw [h1] at h3
  cases h3
  rw [h2] at h4
  cases h4
  rfl
mutual
theorem TD.uniq : ∀ (x y : D) (v : Value), TD h x v → TD h y v → x = y
  | .int i, y, v, p, q => by
    unfold TD at p
    obtain ⟨t, rfl⟩ := p
    cases y with
    | int j => unfold TD at q; obtain ⟨u, e⟩ := q; cases e; rfl
    | tuple ys => unfold TD at q; obtain ⟨_, _, e, _⟩ := q; cases e
    | _ => unfold TD at q; exact q.elim
  | .tuple xs, y, v, p, q => by
    unfold TD at p
    obtain ⟨a, its, rfl, t, r⟩ := p
    cases y with
    | int j => unfold TD at q; obtain ⟨u, e⟩ := q; cases e
    | tuple ys =>
      unfold TD at q
      obtain ⟨b, jts, e, t', r'⟩ := q
      cases e
      rw [IsTuple.uniq t t'] at r
      rw [TDs.uniq xs ys _ r r']
    | _ => unfold TD at q; exact q.elim
  | .none, _, v, q, _ => by unfold TD at q; exact q.elim
  | .bool _, _, v, q, _ => by unfold TD at q; exact q.elim
  | .str _, _, v, q, _ => by unfold TD at q; exact q.elim
  | .list _, _, v, q, _ => by unfold TD at q; exact q.elim
  | .dict _, _, v, q, _ => by unfold TD at q; exact q.elim
theorem TDs.uniq : ∀ (xs ys : List D) (vs : List Value), TDs h xs vs → TDs h ys vs → xs = ys
  | [], ys, vs, p, q => by
    unfold TDs at p
    subst p
    cases ys with
    | nil => rfl
    | cons y ys => unfold TDs at q; obtain ⟨_, _, e, _⟩ := q; cases e
  | x :: xs, ys, vs, p, q => by
    unfold TDs at p
    obtain ⟨v, r, rfl, h1, h2⟩ := p
    cases ys with
    | nil => unfold TDs at q; cases q
    | cons y ys =>
      unfold TDs at q
      obtain ⟨u, w, e, h3, h4⟩ := q
      cases e
      rw [TD.uniq x y v h1 h3, TDs.uniq xs ys r h2 h4]
end
theorem TDs.len : ∀ {xs : List D} {vs : List Value}, TDs h xs vs → xs.length = vs.length
  | [], vs, q => by unfold TDs at q; subst q; rfl
  | x :: xs, vs, q => by
    unfold TDs at q
    obtain ⟨v, r, rfl, h1, h2⟩ := q
    rw [List.length_cons, List.length_cons, TDs.len h2]
theorem TDs.at : ∀ {xs : List D} {vs : List Value} {i : Nat} (h1 : i < xs.length) (h2 : i < vs.length), TDs h xs vs → TD h xs[i] vs[i]
  | [], _, i, h1, _, _ => absurd h1 (by simp)
  | x :: xs, vs, i, h1, h2, q => by
    unfold TDs at q
    obtain ⟨v, r, rfl, h3, h4⟩ := q
    cases i with
    | zero => exact h3
    | succ i => exact TDs.at (i := i) (by simpa using h1) (by simpa using h2) h4
theorem TDs.mem : ∀ {xs : List D} {vs : List Value}, TDs h xs vs → ∀ v ∈ vs, ∃ x ∈ xs, TD h x v
  | [], vs, q, v, hv => by unfold TDs at q; subst q; cases hv
  | x :: xs, vs, q, v, hv => by
    unfold TDs at q
    obtain ⟨u, r, rfl, h3, h4⟩ := q
    rcases List.mem_cons.mp hv with rfl | hv
    · exact ⟨x, by simp, h3⟩
    · obtain ⟨y, h5, h6⟩ := TDs.mem h4 v hv
      exact ⟨y, by simp [h5], h6⟩
end
/-! ### equal: as the order says -/
mutual
theorem eqv1 : ∀ (s : Sh) (x y : D), has s x = true → has s y = true → PyData.eqv x y = isEq (cmpO x y)
  | s, .tuple xs, y, h, k => by
    obtain ⟨ys, rfl⟩ := has_tup' h k
    rw [has_tup] at h k
    rw [cmp_tt, PyData.eqv]
    exact eqvs s xs ys h k
  | s, .int i, y, h, k => by
    obtain ⟨j, rfl⟩ := has_int' h k
    rw [cmp_int, PyData.eqv]
    unfold cmpI
    split
    · simp [isEq]; omega
    · split
      · simp [isEq]; omega
      · simp [isEq]; omega
  | s, .none, y, h, k => by simp [has] at h
  | s, .bool _, y, h, k => by simp [has] at h
  | s, .str _, y, h, k => by simp [has] at h
  | s, .list _, y, h, k => by simp [has] at h
  | s, .dict _, y, h, k => by simp [has] at h
theorem eqvs : ∀ (s : Sh) (xs ys : List D), hasC s xs = true → hasC s ys = true → PyData.eqvAll xs ys = isEq (cmpOs xs ys)
  | s, [], [], h, k => by rw [cmp_nn, PyData.eqvAll]; rfl
  | s, [], _ :: _, h, k => by rw [cmp_nc, PyData.eqvAll]; rfl
  | s, _ :: _, [], h, k => by rw [cmp_cn, PyData.eqvAll]; rfl
  | s, x :: xs, y :: ys, h, k => by
    obtain ⟨a, r, h1, h2, h3, h4⟩ := hasC_both h k
    rw [cmp_cc, PyData.eqvAll, eqv1 a x y h1 h2, eqvs r xs ys h3 h4]
    cases cmpO x y <;> simp [isEq, Ordering.then]
end
def eAt (xs ys : List D) (j : Nat) : Bool := match xs[j]?, ys[j]? with
  | some x, some y => isEq (cmpO x y)
  | _, _ => true
def rAt (xs ys : List D) (j : Nat) : Bool := match xs[j]?, ys[j]? with
  | some x, some y => isLt (cmpO x y)
  | _, _ => true
theorem lex_cmp {e r : Nat → Bool} {z : Bool} : ∀ (xs ys : List D) (i : Nat), (∀ j, e (i + j) = eAt xs ys j) → (∀ j, r (i + j) = rAt xs ys j) → z = decide (xs.length < ys.length) → Ob.lexAt e r z i (min xs.length ys.length) = isLt (cmpOs xs ys)
  | [], [], i, he, hr, hz => by rw [cmp_nn]; simpa [Ob.lexAt, isLt] using hz
  | [], y :: ys, i, he, hr, hz => by rw [cmp_nc]; simpa [Ob.lexAt, isLt] using hz
  | x :: xs, [], i, he, hr, hz => by rw [cmp_cn]; simpa [Ob.lexAt, isLt] using hz
  | x :: xs, y :: ys, i, he, hr, hz => by
    rw [List.length_cons, List.length_cons, Nat.add_min_add_right, Ob.lexAt_succ, cmp_cc]
    have e0 : e i = isEq (cmpO x y) := he 0
    have r0 : r i = isLt (cmpO x y) := hr 0
    have ih := lex_cmp (e := e) (r := r) (z := z) xs ys (i + 1) (fun j => by have := he (j + 1); rw [show i + 1 + j = i + (j + 1) by omega]; exact this) (fun j => by have := hr (j + 1); rw [show i + 1 + j = i + (j + 1) by omega]; exact this) (by rw [hz]; simp)
    rw [e0, r0, ih]
    cases cmpO x y <;> rfl
theorem depth_all : ∀ {xs : List D} {n : Nat}, PyData.depthAll xs ≤ n → ∀ x ∈ xs, x.depth ≤ n
  | [], _, _, x, hx => by cases hx
  | y :: xs, n, h, x, hx => by
    simp only [PyData.depthAll, Nat.max_le] at h
    rcases List.mem_cons.mp hx with rfl | hx
    · exact h.1
    · exact depth_all h.2 x hx
theorem hasC_at : ∀ {s : Sh} {xs ys : List D} {j : Nat} (h1 : j < xs.length) (h2 : j < ys.length), hasC s xs = true → hasC s ys = true → ∃ a, has a xs[j] = true ∧ has a ys[j] = true
  | s, [], _, j, h1, _, _, _ => absurd h1 (by simp)
  | s, _ :: _, [], j, _, h2, _, _ => absurd h2 (by simp)
  | s, x :: xs, y :: ys, j, h1, h2, h, k => by
    obtain ⟨a, r, g1, g2, g3, g4⟩ := hasC_both h k
    cases j with
    | zero => exact ⟨a, g1, g2⟩
    | succ j => exact hasC_at (j := j) (by simpa using h1) (by simpa using h2) g3 g4
section
variable {s : Shared}
theorem eq_at {A : Around} {sh : Sh} {x y : D} {v u : Value} (hx : TD s.heap x v) (hy : TD s.heap y u) (k1 : has sh x = true) (k2 : has sh y = true) (hu : A.units + x.depth < cLine) : EqAt A s v u (isEq (cmpO x y)) := by
  obtain ⟨⟨as, r1⟩, c1⟩ := TD.reads x v hx
  obtain ⟨⟨bs, r2⟩, c2⟩ := TD.reads y u hy
  rw [← eqv1 sh x y k1 k2]
  exact eqAt_reads x y A s v u as bs r1 r2 c1 c2 (by omega)
theorem lt_at : ∀ (n : Nat) {A : Around} {sh : Sh} {x y : D} {v u : Value}, x.depth ≤ n → A.units + n < cLine → TD s.heap x v → TD s.heap y u → has sh x = true → has sh y = true → Ob.RcOp .Lt A s v u (ltD x y)
  | n, A, sh, .int i, y, v, u, hd, hu, hx, hy, k1, k2 => by
    obtain ⟨j, rfl⟩ := has_int' k1 k2
    unfold TD at hx hy
    obtain ⟨t, rfl⟩ := hx
    obtain ⟨t', rfl⟩ := hy
    have e : ltD (.int i) (.int j) = decide (i < j) := by
      unfold ltD
      rw [cmp_int]
      unfold cmpI
      split
      · simp [isLt, *]
      · split
        · simp [isLt, *]
        · simp [isLt, *]
    rw [e]
    exact Ob.RcOp.lt_int i j t t'
  | 0, A, sh, .tuple xs, y, v, u, hd, hu, hx, hy, k1, k2 => absurd hd (by simp [PyData.depth])
  | n + 1, A, sh, .tuple xs, y, v, u, hd, hu, hx, hy, k1, k2 => by
    obtain ⟨ys, rfl⟩ := has_tup' k1 k2
    unfold TD at hx hy
    obtain ⟨a, its, rfl, t1, q1⟩ := hx
    obtain ⟨b, jts, rfl, t2, q2⟩ := hy
    rw [has_tup] at k1 k2
    have l1 : xs.length = its.size := by rw [q1.len, Array.length_toList]
    have l2 : ys.length = jts.size := by rw [q2.len, Array.length_toList]
    have hd' : PyData.depthAll xs ≤ n := by simpa [PyData.depth] using hd
    have main := Ob.RcOp.tuples_lt (A := A) (e := eAt xs ys) (r := rAt xs ys) t1 t2 (by omega) (fun j h1 h2 => by
      have g1 : j < xs.length := by omega
      have g2 : j < ys.length := by omega
      obtain ⟨c, c1, c2⟩ := hasC_at g1 g2 k1 k2
      have z1 := TDs.at (i := j) g1 (by simpa using h1) q1
      have z2 := TDs.at (i := j) g2 (by simpa using h2) q2
      have e : eAt xs ys j = isEq (cmpO xs[j] ys[j]) := by simp [eAt, List.getElem?_eq_getElem g1, List.getElem?_eq_getElem g2]
      rw [e]
      have dj : (xs[j]).depth ≤ n := depth_all hd' _ (List.getElem_mem g1)
      refine eq_at (sh := c) ?_ ?_ c1 c2 ?_
      · simpa using z1
      · simpa using z2
      · show A.units + 1 + _ < cLine; omega) (fun j h1 h2 _ => by
      have g1 : j < xs.length := by omega
      have g2 : j < ys.length := by omega
      obtain ⟨c, c1, c2⟩ := hasC_at g1 g2 k1 k2
      have z1 := TDs.at (i := j) g1 (by simpa using h1) q1
      have z2 := TDs.at (i := j) g2 (by simpa using h2) q2
      have e : rAt xs ys j = ltD xs[j] ys[j] := by simp [rAt, ltD, List.getElem?_eq_getElem g1, List.getElem?_eq_getElem g2]
      rw [e]
      have dj : (xs[j]).depth ≤ n := depth_all hd' _ (List.getElem_mem g1)
      refine lt_at n (sh := c) dj (by show A.units + 1 + _ < cLine; omega) ?_ ?_ c1 c2
      · simpa using z1
      · simpa using z2)
    have e : Ob.lexAt (eAt xs ys) (rAt xs ys) (decide (its.size < jts.size)) 0 (min its.size jts.size) = ltD (.tuple xs) (.tuple ys) := by
      rw [← l1, ← l2]
      unfold ltD
      rw [cmp_tt]
      exact lex_cmp xs ys 0 (fun j => by rw [Nat.zero_add]) (fun j => by rw [Nat.zero_add]) rfl
    rw [e] at main
    exact main
  | n, A, sh, .none, y, v, u, hd, hu, hx, hy, k1, k2 => by simp [has] at k1
  | n, A, sh, .bool _, y, v, u, hd, hu, hx, hy, k1, k2 => by simp [has] at k1
  | n, A, sh, .str _, y, v, u, hd, hu, hx, hy, k1, k2 => by simp [has] at k1
  | n, A, sh, .list _, y, v, u, hd, hu, hx, hy, k1, k2 => by simp [has] at k1
  | n, A, sh, .dict _, y, v, u, hd, hu, hx, hy, k1, k2 => by simp [has] at k1
end
end NO

/-! NXj: sorted of tuples, the run -/
namespace NO
open PySem PySem.Spec PyProof.Rows PySem.SeqAt
/-- the first one's shape -/
def fst : Sh → Sh
  | .l s => s
  | .c a _ => a
  | s => s
theorem has_fst {s : Sh} {x : D} {xs : List D} (h : hasC s (x :: xs) = true) : has (fst s) x = true := by
  rw [hasC_cons] at h
  cases s with
  | l s => simp only [Bool.and_eq_true] at h; exact h.1
  | c a r => simp only [Bool.and_eq_true] at h; exact h.1
  | i => cases h
  | e => cases h
section
variable {prog : Program} {w : World} {A : Around} {s : Shared} {E : Value → Shared → Prop}
theorem kat_lex {b fin : Bool} {Q : Bool → Shared → Prop} {n : Nat} (hu : A.units + n < cLine) : ∀ (sh : Sh) (xs ys : List D) (vs us : List Value) (i : Nat), hasC sh xs = true → hasC sh ys = true → PyData.depthAll xs ≤ n → TDs s.heap xs vs → TDs s.heap ys us → (b = true → i = 0 → fst sh = .i) →
    fin = decide (xs.length < ys.length) → Q (isLt (cmpOs xs ys)) s → PySem.W.KatLex prog w A b fin Q (vs.zip us) i s
  | sh, [], ys, vs, us, i, h, k, hd, tx, ty, hb, hf, q => by
    unfold TDs at tx
    subst tx
    rw [List.zip_nil_left]
    refine PySem.W.kat_nil ?_
    rw [hf]
    cases ys with
    | nil => rw [cmp_nn] at q; exact q
    | cons y ys => rw [cmp_nc] at q; exact q
  | sh, x :: xs, [], vs, us, i, h, k, hd, tx, ty, hb, hf, q => by
    unfold TDs at ty
    subst ty
    rw [List.zip_nil_right]
    refine PySem.W.kat_nil ?_
    rw [hf]
    rw [cmp_cn] at q
    exact q
  | sh, x :: xs, y :: ys, vs, us, i, h, k, hd, tx, ty, hb, hf, q => by
    unfold TDs at tx ty
    obtain ⟨v, vs, rfl, x1, x2⟩ := tx
    obtain ⟨u, us, rfl, y1, y2⟩ := ty
    have f1 := has_fst h
    have f2 := has_fst k
    obtain ⟨a, r, h1, h2, h3, h4⟩ := hasC_both h k
    simp only [PyData.depthAll, Nat.max_le] at hd
    rw [List.zip_cons_cons]
    rw [cmp_cc] at q
    refine PySem.W.kat_cons (eq_at x1 y1 h1 h2 (by omega) prog w _ _ ?_)
    refine PySem.W.kat_go (fun e => ?_) (fun e => ?_)
    · refine PySem.W.kat_yes (kat_lex hu r xs ys vs us (i + 1) h3 h4 hd.2 x2 y2 (fun _ z => absurd z (by omega)) (by rw [hf]; simp) ?_)
      cases hc : cmpO x y <;> rw [hc] at e q <;> first | exact q | (simp [isEq] at e; done)
    · have q' : Q (ltD x y) s := by
        unfold ltD
        cases hc : cmpO x y <;> rw [hc] at e q <;> first | exact q | (simp [isEq] at e; done)
      refine PySem.W.kat_no ?_
      cases hbi : (b && i == 0) with
      | false => exact PySem.W.kat_one _ _ (lt_at n hd.1 (by omega) x1 y1 h1 h2 prog w _ _ q')
      | true =>
        rw [Bool.and_eq_true, beq_iff_eq] at hbi
        have z := hb hbi.1 hbi.2
        rw [z] at f1 f2
        have isI : ∀ {x : D}, has .i x = true → ∃ j, x = .int j := fun {x} hx => by
          cases x with
          | int j => exact ⟨j, rfl⟩
          | tuple xs =>
            rw [has_tup] at hx
            cases xs with
            | nil => rw [hasC_nil] at hx; cases hx
            | cons _ _ => rw [hasC_cons] at hx; cases hx
          | _ => simp [has] at hx
        obtain ⟨p, rfl⟩ := isI f1
        obtain ⟨p', rfl⟩ := isI f2
        unfold TD at x1 y1
        obtain ⟨t, rfl⟩ := x1
        obtain ⟨t', rfl⟩ := y1
        refine oneLt_int ?_
        have e : ltD (.int p) (.int p') = decide (p < p') := by
          unfold ltD
          rw [cmp_int]
          unfold cmpI
          split
          · simp [isLt, *]
          · split
            · simp [isLt, *]
            · simp [isLt, *]
        rw [← e]
        exact q'
theorem lt_kat {sh : Sh} {b : Bool} {xs ys : List D} {v u : Value} {n : Nat} {Q : Bool → Shared → Prop} (hu : A.units + n < cLine) (h : hasC sh xs = true) (k : hasC sh ys = true) (hd : PyData.depthAll xs ≤ n) (hx : TD s.heap (.tuple xs) v) (hy : TD s.heap (.tuple ys) u)
    (hb : b = true → fst sh = .i) (q : Q (ltD (.tuple xs) (.tuple ys)) s) : wpAny (model prog w) A (keyLt' (tuples' b) v u) Q E s := by
  unfold TD at hx hy
  obtain ⟨a, its, rfl, ⟨o, o1, o2, m, o3⟩, q1⟩ := hx
  obtain ⟨a', its', rfl, ⟨o', p1, p2, m', p3⟩, q2⟩ := hy
  refine PySem.W.kat_lt o1 o3 p1 p3 ?_
  refine kat_lex hu sh xs ys _ _ 0 h k hd q1 q2 (fun h _ => hb h) ?_ ?_
  · rw [q1.len, q2.len, Array.length_toList, Array.length_toList]
  · unfold ltD at q
    rw [cmp_tt] at q
    exact q
theorem firsts {h : Heap} {sh : Sh} : ∀ {xs : List D} {vs : List Value}, TDs h xs vs → (∀ x ∈ xs, neT x = true ∧ has sh x = true) → ∃ fs, PySem.W.KatTups h vs fs ∧ fs.length = vs.length ∧ ∀ f ∈ fs, ∃ x, TD h x f ∧ has (fst sh) x = true
  | [], vs, q, _ => by unfold TDs at q; subst q; exact ⟨[], .nil, rfl, fun f hf => nomatch hf⟩
  | x :: xs, vs, q, k => by
    unfold TDs at q
    obtain ⟨v, r, rfl, h1, h2⟩ := q
    obtain ⟨fs, g1, g2, g3⟩ := firsts h2 fun z hz => k z (by simp [hz])
    obtain ⟨k1, k2⟩ := k x (by simp)
    obtain ⟨y, ys, rfl⟩ : ∃ y ys, x = .tuple (y :: ys) := by
      cases x with
      | tuple xs =>
        cases xs with
        | nil => cases k1
        | cons y ys => exact ⟨y, ys, rfl⟩
      | _ => cases k1
    unfold TD at h1
    obtain ⟨a, its, rfl, ⟨o, o1, o2, m, o3⟩, q1⟩ := h1
    rw [has_tup] at k2
    have z := q1
    unfold TDs at z
    obtain ⟨f, r', e, z1, z2⟩ := z
    refine ⟨f :: fs, PySem.W.KatTups.cons o1 o2 o3 ?_ g1, by rw [List.length_cons, List.length_cons, g2], fun f' hf => ?_⟩
    · have := congrArg (fun l : List Value => l[0]?) e
      simpa using this
    · rcases List.mem_cons.mp hf with rfl | hf
      · exact ⟨y, z1, has_fst k2⟩
      · exact g3 f' hf
/-- the data of a value -/
noncomputable def dOf (h : Heap) (v : Value) : D := @dite _ (∃ x, TD h x v) (Classical.propDecidable _) (fun e => Classical.choose e) (fun _ => .none)
theorem dOf_eq {h : Heap} {v : Value} {x : D} (q : TD h x v) : dOf h v = x := by
  have e : ∃ x, TD h x v := ⟨x, q⟩
  unfold dOf
  rw [dif_pos e]
  exact TD.uniq _ _ _ (Classical.choose_spec e) q
theorem dOf_map {h : Heap} : ∀ {xs : List D} {vs : List Value}, TDs h xs vs → vs.map (dOf h) = xs
  | [], vs, q => by unfold TDs at q; subst q; rfl
  | x :: xs, vs, q => by
    unfold TDs at q
    obtain ⟨v, r, rfl, h1, h2⟩ := q
    rw [List.map_cons, dOf_eq h1, dOf_map h2]
theorem swo {k : Value → D} : SrtO.Swo fun v u => ltD (k v) (k u) := ⟨fun _ _ h => lt_asym h, fun _ _ _ h1 h2 => le_tr h1 h2⟩
theorem type_int : (Value.type "int" != Value.type "tuple") = true := by first | decide +kernel | rfl | decide
theorem type_tup : (Value.type "tuple" != Value.type "tuple") = false := by first | decide +kernel | rfl | decide
theorem sortable {a : Addr} {xs : List D} {vs : List Value} {sh : Sh} {n : Nat} (h2 : 2 ≤ vs.length) (hu : A.units + n < cLine) (q : TDs s.heap xs vs) (k : ∀ x ∈ xs, neT x = true ∧ has sh x = true ∧ x.depth ≤ n)
    (ha : ∀ o, s.heap.get? a = some o → o.cls ≠ .type "tuple")
    {kk : Value → D} (hk : ∀ x v, v ∈ vs → TD s.heap x v → kk v = x) : SrtO.SortableO prog w A s a vs fun v u => ltD (kk v) (kk u) := by
  intro h' keep
  have kp : ∀ b o, s.heap.get? b = some o → o.cls = .type "tuple" → h'.get? b = some o := fun b o e c => keep b o (fun z => by subst z; exact ha o e c) e
  have q' := TDs.keep kp xs vs q
  obtain ⟨fs, g1, g2, g3⟩ := firsts q' fun x hx => ⟨(k x hx).1, (k x hx).2.1⟩
  have cm : ∀ b : Bool, (b = true → fst sh = .i) → SrtO.Cmp prog w A { s with heap := h' } (tuples' b) (fun p => p.1 ∈ vs) (SrtO.lt2 fun v u => ltD (kk v) (kk u)) := by
    intro b hb p p' hp hp'
    obtain ⟨x, hx, tx⟩ := TDs.mem q p.1 hp
    obtain ⟨y, hy, ty⟩ := TDs.mem q p'.1 hp'
    obtain ⟨x1, x2, x3⟩ := k x hx
    obtain ⟨y1, y2, y3⟩ := k y hy
    have ex : ∃ xs, x = .tuple xs := by cases x <;> first | exact ⟨_, rfl⟩ | (cases x1; done)
    have ey : ∃ xs, y = .tuple xs := by cases y <;> first | exact ⟨_, rfl⟩ | (cases y1; done)
    obtain ⟨xs', rfl⟩ := ex
    obtain ⟨ys', rfl⟩ := ey
    rw [has_tup] at x2 y2
    refine lt_kat (s := { s with heap := h' }) (n := n) hu x2 y2 ?_ (TD.keep kp _ _ tx) (TD.keep kp _ _ ty) hb ?_
    · simp only [PyData.depth] at x3
      omega
    · refine ⟨rfl, ?_⟩
      show _ = ltD (kk p.1) (kk p'.1)
      rw [hk _ _ hp tx, hk _ _ hp' ty]
  by_cases hs : fst sh = .i
  · refine ⟨tuples' true, fun Q E hq => ?_, cm true fun _ => hs⟩
    refine PySem.W.kat_kind (T := .type "int") g1 (by omega) (fun f hm => ?_) (by rfl) ?_
    · obtain ⟨x, tx, hx⟩ := g3 f hm
      rw [hs] at hx
      have : ∃ j, x = .int j := by
        cases x with
        | int j => exact ⟨j, rfl⟩
        | tuple xs =>
          rw [has_tup] at hx
          cases xs with
          | nil => rw [hasC_nil] at hx; cases hx
          | cons _ _ => rw [hasC_cons] at hx; cases hx
        | _ => simp [has] at hx
      obtain ⟨j, rfl⟩ := this
      unfold TD at tx
      obtain ⟨t, rfl⟩ := tx
      exact PySem.W.Looks.now
    · rw [type_int]
      exact hq
  · refine ⟨tuples' false, fun Q E hq => ?_, cm false fun z => nomatch z⟩
    refine PySem.W.kat_kind (T := .type "tuple") g1 (by omega) (fun f hm => ?_) (by rfl) ?_
    · obtain ⟨x, tx, hx⟩ := g3 f hm
      cases x with
      | int j =>
        rw [has_int] at hx
        revert hs hx
        cases fst sh <;> intro hs hx <;> first | exact absurd rfl hs | cases hx
      | tuple xs =>
        unfold TD at tx
        obtain ⟨b, its, rfl, ⟨o, o1, o2, m, o3⟩, _⟩ := tx
        have : PySem.W.Looks (model prog w) h' (typeOf (.ref b)) o.cls := (PySem.W.Looks.ld o1).andThen .now
        rw [o2] at this
        exact this
      | _ => simp [has] at hx
    · rw [type_tup]
      exact hq
theorem collect_sq {Q : List Value → Shared → Prop} (it : Addr) {T : String} {o : Obj} {items : Array Value} {n : Nat} (hT : T = "list" ∨ T = "tuple")
    (ho : s.heap.get? it = some o) (hc : o.cls = .type T) (hd : o.data = .seq items n)
    (hQ : ∀ h', (∀ b o', s.heap.get? b = some o' → h'.get? b = some o') → s.heap.objs.size ≤ h'.objs.size → Q items.toList { s with heap := h' }) (hsz : items.size ≤ sizeLine) :
    wpAny (model prog w) A (collect (.ref it)) Q E s := by
  unfold collect
  refine wpAny_bind (wpAny_runValue (codeAny_builtin F.entry_proto_collect ?_))
  rw [Around.under_plainId F.plain_proto_collect _]
  show wpAny _ A.in1 (newList [] >>= fun l => again (.builtin "list.__iadd__" ⟨[l, .ref it], []⟩)) _ _ s
  refine wpAny_bind (wpAny_newObj_type ?_)
  refine wpAny_pure ⟨plainId_quiet F.plain_list_iadd _, codeAny_builtin F.entry_list_iadd ?_⟩
  rw [Around.under_plainId F.plain_list_iadd _]
  show wpAny _ A.in1 (Builtin.List.listExtendWith (.ref s.heap.objs.size) (.ref it) (.ref s.heap.objs.size)) _ _ _
  have hS : (s.heap.push { cls := .type "list", data := .seq ([] : List Value).toArray }).get? s.heap.objs.size = some { cls := .type "list", data := .seq #[] 0 } := Heap.get?_push_size _ rfl
  have hS₂ := Heap.get?_update_self (Obj.mapSeq (· ++ items)) hS rfl
  have fin' : wpAny (model prog w) A (match Value.ref s.heap.objs.size with
      | Value.ref a => do
        match (← load a).data with
          | Data.seq xs _ => pure xs.toList
          | _ => unsupported "internal:collect"
      | _ => unsupported "internal:collect") Q E { s with heap := (s.heap.push { cls := .type "list", data := .seq ([] : List Value).toArray }).update s.heap.objs.size (Obj.mapSeq (· ++ items)) } := by
    show wpAny _ A (load s.heap.objs.size >>= _) _ _ _
    refine wpAny_bind (wpAny_load hS₂ ?_)
    refine wpAny_pure ?_
    have e : ((#[] : Array Value) ++ items).toList = items.toList := by simp
    show Q ((#[] : Array Value) ++ items).toList _
    rw [e]
    refine hQ _ (fun b o' hb => ?_) ?_
    · exact (Heap.get?_update_other _ _ (Nat.ne_of_gt (Heap.lt_size hb))).trans (Heap.get?_push_of_some _ hb)
    · rw [Heap.size_update, size_push']; exact Nat.le_succ _
  refine wpAny_mono (wpAny_extend_seq (hsz := hsz) (A := A) (R := fun r s' => r = .ok (.ret (.ref s.heap.objs.size)) ∧ s' = { s with heap := (s.heap.push { cls := .type "list", data := .seq ([] : List Value).toArray }).update s.heap.objs.size (Obj.mapSeq (· ++ items)) })
    (s := { s with heap := s.heap.push { cls := .type "list", data := .seq ([] : List Value).toArray } }) _ it _ 0 hT hS (Heap.get?_push_of_some _ ho) hc hd ⟨rfl, rfl⟩) (fun fin s' h => ?_) (fun e s' h => ?_)
  · cases fin with
    | done f =>
      obtain ⟨e, rfl⟩ := h
      cases e
      exact fin'
    | again c' => exact ⟨h.1, codeAny_mono h.2 fun r s'' hr => by obtain ⟨rfl, rfl⟩ := hr; exact fin'⟩
  · exact absurd h.1 (by simp)
theorem sorted_seq {l : Addr} {o : Obj} {T : String} {n : Nat} {vs : List Value} {ltv : Value → Value → Bool} {Q : Value → Shared → Prop} (O : SrtO.Swo ltv) (hT : T = "list" ∨ T = "tuple") (ho : s.heap.get? l = some o) (hc : o.cls = .type T) (hd : o.data = .seq vs.toArray n) (hz : vs.length ≤ sizeLine)
    (hS : 2 ≤ vs.length → ∀ (h₁ : Heap) (a : Addr), h₁.get? a = some (seqObj "list" vs.toArray 0) → (∀ b o, s.heap.get? b = some o → b ≠ a ∧ h₁.get? b = some o) → SrtO.SortableO prog w A.in1.in1 { s with heap := h₁ } a vs ltv)
    (h : ∀ (out : List Value) (h' : Heap) (p : Addr), SrtO.Srtd ltv out → SrtO.Stb ltv out vs → (∀ b o, s.heap.get? b = some o → h'.get? b = some o) → s.heap.objs.size ≤ p → (∃ n, h'.get? p = some (seqObj "list" out.toArray n)) → Q (.ref p) { s with heap := h' }) :
    wpAny (model prog w) A (call (.builtin "sorted") [.ref l]) Q E s := by
  refine Calls.call_function_entry kind_sorted plain_sorted entry_sorted (args_sorted1 _) ?_
  unfold Builtin.«sorted»
  refine wpAny_bind (m := checkCount "sorted" 1 1 _) (wpAny_pure ?_)
  refine wpAny_bind (collect_sq l hT ho hc hd (fun h1 k1 hle => ?_) (by simpa using hz))
  refine wpAny_bind (wpAny_newList ?_ (by simpa using hz))
  have hoL : (h1.push (seqObj "list" vs.toArray 0)).get? h1.objs.size = some (seqObj "list" vs.toArray 0) := Heap.get?_push_size _ rfl
  have keep : ∀ b o, s.heap.get? b = some o → b ≠ h1.objs.size ∧ (h1.push (seqObj "list" vs.toArray 0)).get? b = some o := fun b o q =>
    ⟨Nat.ne_of_lt (Heap.lt_size (k1 b o q)), Heap.get?_push_of_some _ (k1 b o q)⟩
  refine wpAny_bind (wpAny_holding (wpAny_call_entry slot_list_sort ⟨_, hoL, rfl⟩ entry_list_sort (SrtO.list_sort_ord O hoL hz (fun h2 => hS h2 _ _ hoL keep) fun out hs hb => ⟨_, rfl, ?_⟩) (args_list_sort _)))
  refine wpAny_pure ⟨_, rfl, h out _ _ hs hb (fun b o q => ?_) hle (sortedHeap_at hoL)⟩
  rw [sortedHeap_old (keep b o q).1 (Heap.lt_size (keep b o q).2)]
  exact (keep b o q).2
end
end NO

/-! MP2, part gs: sorted. -/
namespace MP
open PySem PySem.Spec L2 PyProof.Rows
theorem insI_perm (x : Int) : ∀ l : List Int, (insI x l).Perm (x :: l)
  | [] => by simp [insI]
  | y :: r => by
    unfold insI
    split
    · exact .refl _
    · exact ((insI_perm x r).cons y).trans (.swap x y r)
theorem sortI_perm : ∀ l : List Int, (sortI l).Perm l
  | [] => .refl _
  | x :: r => (insI_perm x (sortI r)).trans ((sortI_perm r).cons x)
theorem insI_sorted (x : Int) : ∀ l : List Int, l.Pairwise (· ≤ ·) → (insI x l).Pairwise (· ≤ ·)
  | [], _ => by simp [insI]
  | y :: r, h => by
    unfold insI
    rw [List.pairwise_cons] at h
    split
    · rename_i hx
      rw [List.pairwise_cons]
      refine ⟨fun z hz => ?_, List.pairwise_cons.mpr h⟩
      rcases List.mem_cons.mp hz with rfl | hz
      · exact hx
      · have := h.1 z hz
        omega
    · rename_i hx
      rw [List.pairwise_cons]
      refine ⟨fun z hz => ?_, insI_sorted x r h.2⟩
      have hz' := (insI_perm x r).mem_iff.mp hz
      rcases List.mem_cons.mp hz' with rfl | hz'
      · omega
      · exact h.1 z hz'
theorem sortI_sorted : ∀ l : List Int, (sortI l).Pairwise (· ≤ ·)
  | [] => .nil
  | x :: r => insI_sorted x _ (sortI_sorted r)
theorem sorted_unique {a b : List Int} (p : a.Perm b) (ha : a.Pairwise (· ≤ ·)) (hb : b.Pairwise (· ≤ ·)) : a = b :=
  p.eq_of_pairwise (fun x y _ _ h1 h2 => Int.le_antisymm h1 h2) ha hb

section
variable {X : Cx} {pins : List (Addr × Obj)} {σ : L2.St} {H : Hp} {s : Shared}
mutual
theorem RN.td (I : Inv X pins σ H s) : ∀ (sh : NO.Sh) (x : D) (v : V) (u : Value), NO.has sh x = true → RN X.K H x v → RelV v u → NO.TD s.heap x u
  | sh, .int i, v, u, h, r, q => by
    unfold RN at r
    subst r
    obtain ⟨t, rfl⟩ := q
    unfold NO.TD
    exact ⟨t, rfl⟩
  | sh, .tuple xs, v, u, h, r, q => by
    unfold RN at r
    obtain ⟨a, vs, rfl, h1, h2, h3⟩ := r
    cases q
    obtain ⟨its, rv, ho, _⟩ := I.tuple h1
    rw [NO.has_tup] at h
    unfold NO.TD
    exact ⟨a, its.toArray, rfl, ho, RNs.tds I sh xs vs _ h h3 (by simpa using rv)⟩
  | sh, .none, v, u, h, _, _ => by simp [NO.has] at h
  | sh, .bool _, v, u, h, _, _ => by simp [NO.has] at h
  | sh, .str _, v, u, h, _, _ => by simp [NO.has] at h
  | sh, .list _, v, u, h, _, _ => by simp [NO.has] at h
  | sh, .dict _, v, u, h, _, _ => by simp [NO.has] at h
theorem RNs.tds (I : Inv X pins σ H s) : ∀ (sh : NO.Sh) (xs : List D) (vs : List V) (us : List Value), NO.hasC sh xs = true → RNs X.K H xs vs → Vals vs us → NO.TDs s.heap xs us
  | sh, [], vs, us, h, r, q => by
    unfold RNs at r
    subst r
    cases q
    unfold NO.TDs
    rfl
  | sh, x :: xs, vs, us, h, r, q => by
    unfold RNs at r
    obtain ⟨v, w, rfl, h1, h2⟩ := r
    cases q with
    | cons q1 q2 =>
      obtain ⟨a, r, k1, _, k3, _⟩ := NO.hasC_both h h
      unfold NO.TDs
      exact ⟨_, _, rfl, RN.td I a x v _ k1 h1 q1, RNs.tds I r xs w _ k3 h2 q2⟩
end
theorem RNs.tds1 (I : Inv X pins σ H s) (sh : NO.Sh) : ∀ (xs : List D) (vs : List V) (us : List Value), (∀ x ∈ xs, NO.has sh x = true) → RNs X.K H xs vs → Vals vs us → NO.TDs s.heap xs us
  | [], vs, us, h, r, q => by
    unfold RNs at r
    subst r
    cases q
    unfold NO.TDs
    rfl
  | x :: xs, vs, us, h, r, q => by
    unfold RNs at r
    obtain ⟨v, w, rfl, h1, h2⟩ := r
    cases q with
    | cons q1 q2 =>
      unfold NO.TDs
      exact ⟨_, _, rfl, RN.td I sh x v _ (h x (by simp)) h1 q1, RNs.tds1 I sh xs w _ (fun y hy => h y (by simp [hy])) h2 q2⟩
end
theorem oneSh_all : ∀ {xs : List D}, NO.oneSh xs = true → ∃ sh, ∀ x ∈ xs, NO.has sh x = true
  | [], _ => ⟨.i, fun x hx => nomatch hx⟩
  | [x], h => ⟨NO.shOf x, fun y hy => by rw [List.mem_singleton.mp hy]; exact h⟩
  | x :: y :: r, h => ⟨NO.shOf x, fun z hz => by
    have := List.all_eq_true.mp h z hz
    rw [Bool.and_eq_true] at this
    exact this.2⟩
theorem oneSh_ne {xs : List D} (h : NO.oneSh xs = true) (h2 : 2 ≤ xs.length) : ∀ x ∈ xs, NO.neT x = true := fun x hx => by
  match xs, h, h2 with
  | [], _, h2 => exact absurd h2 (by simp)
  | [_], _, h2 => exact absurd h2 (by simp)
  | a :: b :: r, h, _ =>
    have := List.all_eq_true.mp h x hx
    rw [Bool.and_eq_true] at this
    exact this.1
theorem oneSh_tup {xs : List D} (h : NO.oneSh xs = true) (hn : intsT? (xs.map T.d) = none) : ∀ x ∈ xs, ∃ ys, x = .tuple ys := fun x hx => by
  match xs, h, hn with
  | [], _, hn => cases hn
  | [y], h, hn =>
    rw [List.mem_singleton.mp hx]
    cases y with
    | tuple ys => exact ⟨_, rfl⟩
    | int i => simp [intsT?] at hn
    | _ => simp [NO.oneSh, NO.has] at h
  | a :: b :: r, h, hn =>
    have := oneSh_ne h (by simp) x hx
    cases x with
    | tuple ys => exact ⟨_, rfl⟩
    | _ => cases this
section
variable {F : FS} {K : Fg} {H : Hp}
theorem RDs.ofT {ρ : List Addr} : ∀ {xs : List D} {vs : List V}, TRs F ρ K H (xs.map T.d) vs → RDs F K H xs vs
  | [], vs, h => by
    unfold TRs at h
    unfold RDs
    exact h
  | x :: xs, vs, h => by
    rw [List.map_cons] at h
    unfold TRs at h
    obtain ⟨v, r, e, h1, h2⟩ := h
    unfold TR at h1
    unfold RDs
    exact ⟨v, r, e, h1, RDs.ofT h2⟩
theorem RDs.toT {ρ : List Addr} : ∀ {xs : List D} {vs : List V}, RDs F K H xs vs → TRs F ρ K H (xs.map T.d) vs
  | [], vs, h => by
    unfold RDs at h
    rw [List.map_nil]
    unfold TRs
    exact h
  | x :: xs, vs, h => by
    unfold RDs at h
    obtain ⟨v, r, e, h1, h2⟩ := h
    rw [List.map_cons]
    unfold TRs TR
    exact ⟨v, r, e, h1, RDs.toT h2⟩
theorem RDs.backs {k : Value → D} : ∀ {xs : List D} {vs : List V} {us : List Value}, RDs F K H xs vs → Vals vs us → us.map k = xs → (∀ u ∈ us, ∃ a, u = Value.ref a) → ∀ u ∈ us, RD F K H (k u) (backV u)
  | [], vs, us, h, r, e, f, u, hu => by
    unfold RDs at h
    subst h
    cases r
    cases hu
  | x :: xs, vs, us, h, r, e, f, u, hu => by
    unfold RDs at h
    obtain ⟨v, w, rfl, h1, h2⟩ := h
    cases r with
    | cons r1 r2 =>
      rw [List.map_cons, List.cons.injEq] at e
      rcases List.mem_cons.mp hu with rfl | hu
      · obtain ⟨a, ea⟩ := f u (by simp)
        subst ea
        rw [e.1]
        have : v = V.ref a := by cases v <;> first | (cases r1; rfl) | (cases r1; done) | (obtain ⟨_, e⟩ := r1; cases e)
        rw [this] at h1
        exact h1
      · exact RDs.backs h2 r2 e.2 (fun u hu => f u (by simp [hu])) u hu
theorem RDs.ofAll {k : Value → D} {g : Value → V} : ∀ {us : List Value}, (∀ u ∈ us, RD F K H (k u) (g u)) → RDs F K H (us.map k) (us.map g)
  | [], _ => by
    rw [List.map_nil, List.map_nil]
    unfold RDs
    rfl
  | u :: us, h => by
    rw [List.map_cons, List.map_cons]
    unfold RDs
    exact ⟨_, _, rfl, h u (by simp), RDs.ofAll fun v hv => h v (by simp [hv])⟩
end
section
variable {X : Cx}
theorem ob_sortV (hu : X.A.units + 64 < cLine) : CallR X (.builtin "sorted") (fun vs H Q => ∃ tt F ρ st x ts rv, SR tt F ρ X.K st H ∧ TRs F ρ X.K H [x] vs ∧ (view st x = .lst ts ∨ view st x = .tup ts) ∧ sortV ts = some rv ∧ Aft tt F ρ X.K H st rv Q) := by
  intro pins s σ H vs us Q I r h
  obtain ⟨tt, F, ρ, st, x, ts, rv, hS, hd, hv, e, q⟩ := h
  obtain ⟨v, rfl, h1⟩ := trs1 hd
  have key : ∃ (a : Addr) (ws : List V) (its : Array Value) (T : String) (o : Obj) (n : Nat), us = [.ref a] ∧ (T = "list" ∨ T = "tuple") ∧ s.heap.get? a = some o ∧ o.cls = .type T ∧ o.data = .seq its n ∧ Vals ws its.toList ∧ its.size ≤ sizeLine ∧ ts.length ≤ big ∧ TRs F ρ X.K H ts ws := by
    rcases hv with e1 | e1
    · obtain ⟨a, ws, rfl, g1, g2, g3⟩ := hS.vlst h1 e1
      obtain ⟨its, rv, L, hz⟩ := I.list (.inl g1)
      have ur := Vals.ref1 r
      obtain ⟨o, n, ho, hc, _, hd⟩ := L
      exact ⟨a, ws, its.toArray, "list", o, n, ur, .inl rfl, ho, hc, hd, by simpa using rv, by rw [List.size_toArray, ← rv.length]; exact hz, g2, g3⟩
    · obtain ⟨a, ws, rfl, g1, g2, g3⟩ := hS.vtup h1 e1
      obtain ⟨its, rv, ⟨o, ho, hc, n, hd⟩, hz⟩ := I.tuple g1.sq
      have ur := Vals.ref1 r
      exact ⟨a, ws, its.toArray, "tuple", o, n, ur, .inr rfl, ho, hc, hd, by simpa using rv, by rw [List.size_toArray, ← rv.length]; exact hz, g2, g3⟩
  obtain ⟨a, ws, its, T, o, n, rfl, hT, ho, hc, hd', rv', hz, g2, g3⟩ := key
  unfold sortV at e
  have hzz : its.toList.length ≤ sizeLine := by rw [Array.length_toList]; exact hz
  cases hi : intsT? ts with
  | some ns =>
    rw [hi] at e
    simp only at e
    split at e
    · rename_i hn
      cases e
      have ew := g3.ints hi
      subst ew
      have hI := rv'.ints
      refine NO.sorted_seq SrtO.swo_int hT ho hc (by rw [Array.toArray_toList]; exact hd') hzz (fun h2 h₁ a' _ _ => SrtO.ints_sortable hI h2) fun out h' p hs hb kp hp hn' => ?_
      obtain ⟨k1, k2, k3⟩ := SrtO.ints_out hI hs hb
      obtain ⟨m, hm⟩ := hn'
      have en : out.map SrtO.iv = sortI ns := sorted_unique (k2.trans (sortI_perm ns).symm) k3 (sortI_sorted ns)
      have hlen : ((out.map SrtO.iv).map V.int).length ≤ sizeLine := by
        rw [List.length_map, List.length_map, hb.len]
        exact hzz
      refine ⟨.ref p, upd H p (.lst ((out.map SrtO.iv).map V.int)), I.laid (t' := s.toks) kp hp ⟨hlen, out, m, vals_of_ints k1, hm⟩, rfl, ?_⟩
      rw [en]
      have hl := (sortI_perm ns).length_eq
      refine q.lst hS ?_ (TRs.ofInts _) p (I.hok.fresh hp)
      rw [List.length_map]
      show _ ≤ 16777216
      omega
    · cases e
  | none =>
    rw [hi] at e
    simp only at e
    obtain ⟨xs, e1, e4⟩ := Option.bind_eq_some_iff.mp e
    clear e
    have e := e4
    clear e4
    have et := pures_eq e1
    subst et
    split at e
    · rename_i ok
      cases e
      unfold sortOk at ok
      rw [Bool.and_eq_true] at ok
      obtain ⟨ok1, ok2⟩ := ok
      obtain ⟨sh, hsh⟩ := oneSh_all ok1
      have tupx := oneSh_tup ok1 hi
      have rd := RDs.ofT g3
      have td := RNs.tds1 I sh xs ws _ hsh (RDs.rn _ _ rd) rv'
      have kmap := NO.dOf_map td
      have isr : ∀ u ∈ its.toList, ∃ a, u = Value.ref a := fun u hu' => by
        obtain ⟨x, hx, tx⟩ := NO.TDs.mem td u hu'
        obtain ⟨ys, rfl⟩ := tupx x hx
        unfold NO.TD at tx
        obtain ⟨b, _, e, _⟩ := tx
        exact ⟨b, e⟩
      have bk := RDs.backs rd rv' kmap isr
      refine NO.sorted_seq (NO.swo (k := NO.dOf s.heap)) hT ho hc (by rw [Array.toArray_toList]; exact hd') hzz (fun h2 h₁ a' ha' kp => ?_) fun out h' p hs hb kp hp hn' => ?_
      · have lx : xs.length = its.toList.length := td.len
        have kt : ∀ b o, s.heap.get? b = some o → o.cls = .type "tuple" → h₁.get? b = some o := fun b o e _ => (kp b o e).2
        have ne := oneSh_ne ok1 (by omega)
        have td1 : NO.TDs ({ s with heap := h₁ } : Shared).heap xs its.toList := NO.TDs.keep kt xs _ td
        refine NO.sortable (s := { s with heap := h₁ }) (sh := sh) (n := 60) h2 (by show X.A.units + 1 + 1 + 60 < cLine; omega) td1 (fun x hx => ⟨ne x hx, hsh x hx, of_decide_eq_true (List.all_eq_true.mp ok2 x hx)⟩) (fun o e => ?_) (kk := NO.dOf s.heap) fun x v hv tv => ?_
        · have e' : some o = some (seqObj "list" its.toList.toArray 0) := e.symm.trans ha'
          cases e'
          intro c
          exact absurd (Value.type.inj c) (by decide)
        · obtain ⟨y, _, ty⟩ := NO.TDs.mem td v hv
          rw [NO.dOf_eq ty]
          exact NO.TD.uniq _ _ _ (NO.TD.keep kt _ _ ty) tv
      · obtain ⟨m, hm⟩ := hn'
        have hp1 : (out.map (NO.dOf s.heap)).Perm xs := by
          have := hb.perm.map (NO.dOf s.heap)
          rw [kmap] at this
          exact this
        have en : out.map (NO.dOf s.heap) = NO.sortD xs := by
          refine NO.std_uniq (s := sh) (hp1.trans (NO.sortD_perm xs).symm) (List.pairwise_map.mpr hs) (NO.sortD_std xs) fun x hx => hsh x (hp1.mem_iff.mp hx)
        have iso : ∀ u ∈ out, ∃ a, u = Value.ref a := fun u hu' => isr u (hb.perm.mem_iff.mp hu')
        have hlen : (out.map backV).length ≤ sizeLine := by
          rw [List.length_map, hb.len]
          exact hzz
        refine ⟨.ref p, upd H p (.lst (out.map backV)), I.laid (t' := s.toks) kp hp ⟨hlen, out, m, vals_back iso, hm⟩, rfl, ?_⟩
        refine q.lst hS ?_ ?_ p (I.hok.fresh hp)
        · rw [List.length_map, ← en, List.length_map, hb.len, big_size]
          exact hzz
        · rw [← en]
          exact RDs.toT (RDs.ofAll fun u hu' => bk u (hb.perm.mem_iff.mp hu'))
    · cases e
end
end MP

/-! NXl: sum, max, min of a tuple of ints -/
namespace NXl
open PySem
section
variable {prog : Program} {w : World} {A : Around} {E : Value → Shared → Prop} {s : Shared} {l : Addr} {xs : Array (Int × Tok)}
theorem iter_tup {Q : Value → Shared → Prop} (hl : s.heap.IsTuple l (intItems xs))
    (h : ∀ s₂ : Shared, s₂ = { s with heap := s.heap.push { cls := .type "tuple_iterator", data := .fields #[.ref l, .int 0 0] } } →
      (s₂.heap.IsTupleIter s.heap.objs.size l 0 ∧ s₂.heap.IsTuple l (intItems xs)) → (∀ b ∈ [s.heap.objs.size, l], b < s₂.heap.objs.size) → l ≠ s.heap.objs.size → Q (.ref s.heap.objs.size) s₂) :
    wpAny (model prog w) A (pyIter (.ref l)) Q E s := by
  have hlt : l < s.heap.objs.size := by obtain ⟨_, e, _⟩ := hl; exact Heap.lt_size e
  refine wpAny_pyIter_tuple hl (h _ rfl ⟨⟨_, Heap.get?_push_size _ rfl, rfl, rfl⟩, hl.push _⟩ (fun b hb => ?_) (Nat.ne_of_lt hlt))
  show b < (s.heap.push _).objs.size
  rw [Heap.size_push]
  rcases List.mem_cons.mp hb with rfl | hb
  · exact Nat.lt_succ_self _
  · rcases List.mem_cons.mp hb with rfl | hb
    · exact Nat.lt_succ_of_lt hlt
    · cases hb
theorem old_tup {h' : Heap} (hk : ∀ b o, b ∉ [s.heap.objs.size] → (s.heap.push { cls := .type "tuple_iterator", data := .fields #[.ref l, .int 0 0] }).get? b = some o → h'.get? b = some o) :
    ∀ b o, s.heap.get? b = some o → h'.get? b = some o := fun b o e => by
  refine hk b o (fun hm => ?_) (Heap.get?_push_of_some _ e)
  rcases List.mem_cons.mp hm with e1 | hm
  · exact absurd (e1 ▸ Heap.lt_size e) (Nat.lt_irrefl _)
  · cases hm
theorem sum_t {Q : Value → Shared → Prop} (hh : A.handled = none) (hl : s.heap.IsTuple l (intItems xs))
    (h : ∀ h' tk t', (∀ b o, s.heap.get? b = some o → h'.get? b = some o) → Q (.int (preSum (numAt xs) xs.size) t') { s with heap := h', toks := tk }) :
    wpAny (model prog w) A (call (.builtin "sum") [.ref l]) Q E s := by
  refine call_sum_walkG (iter_tup hl fun s₂ e st hfp hlI => ?_)
  subst e
  refine ⟨_, _, _, _, _, _, numAt xs, rfl, Walks.tuple (A := A.in1) hh _ l hlI (intItems xs), st, hfp, (fun _ _ => intItems_at), fun h' tk t' hk => ?_⟩
  have := h h' tk t' (old_tup hk)
  simpa [intItems] using this
theorem max_t {Q : Value → Shared → Prop} (hh : A.handled = none) (hl : s.heap.IsTuple l (intItems xs)) (hne : 0 < xs.size)
    (h : ∀ v h' tk, (intItems xs)[argBest (fun i j => decide (numAt xs i > numAt xs j)) (xs.size - 1)]? = some v → (∀ b o, s.heap.get? b = some o → h'.get? b = some o) → Q v { s with heap := h', toks := tk }) :
    wpAny (model prog w) A (call (.builtin "max") [.ref l]) Q E s := by
  refine call_max_walk (iter_tup hl fun s₂ e st hfp hlI => ?_)
  subst e
  refine ⟨_, _, _, _, _, _, _, rfl, Walks.tuple (A := A.in1) hh _ l hlI (intItems xs), st, hfp, by simpa [intItems] using hne, CmpOf.ints_gt (numAt xs) (fun _ _ => intItems_at), fun v h' tk hP hk => ?_⟩
  exact h v h' tk (by simpa [intItems] using hP) (old_tup hk)
theorem min_t {Q : Value → Shared → Prop} (hh : A.handled = none) (hl : s.heap.IsTuple l (intItems xs)) (hne : 0 < xs.size)
    (h : ∀ v h' tk, (intItems xs)[argBest (fun i j => decide (numAt xs i < numAt xs j)) (xs.size - 1)]? = some v → (∀ b o, s.heap.get? b = some o → h'.get? b = some o) → Q v { s with heap := h', toks := tk }) :
    wpAny (model prog w) A (call (.builtin "min") [.ref l]) Q E s := by
  refine call_min_walk (iter_tup hl fun s₂ e st hfp hlI => ?_)
  subst e
  refine ⟨_, _, _, _, _, _, _, rfl, Walks.tuple (A := A.in1) hh _ l hlI (intItems xs), st, hfp, by simpa [intItems] using hne, CmpOf.ints_lt (numAt xs) (fun _ _ => intItems_at), fun v h' tk hP hk => ?_⟩
  exact h v h' tk (by simpa [intItems] using hP) (old_tup hk)
end
end NXl
namespace L2
open PySem PySem.Spec PyProof.Rows
section
variable {prog : Program} {w : World} {A : Around} {E : Value → Shared → Prop} {s : Shared} {l : Addr} {its : List Value} {ns : List Int} {Q : Value → Shared → Prop}
theorem sum_rawT (hh : A.handled = none) (hl : s.heap.IsTuple l its.toArray) (hi : IntsAre its ns)
    (h : ∀ h' tk t', (∀ b o, s.heap.get? b = some o → h'.get? b = some o) → Q (.int ns.sum t') { s with heap := h', toks := tk }) : wpAny (model prog w) A (call (.builtin "sum") [.ref l]) Q E s := by
  obtain ⟨xs, e⟩ := hi.allInts.items
  have hn : numsOf (intItems xs).toList = ns := by rw [← e]; exact hi.numsOf
  rw [nums_intItems] at hn
  rw [e] at hl
  refine NXl.sum_t hh hl fun h' tk t' hk => ?_
  have := h h' tk t' hk
  rw [preSum_eq, List.take_of_length_le (by simp), hn]; exact this
theorem max_rawT (hh : A.handled = none) (hl : s.heap.IsTuple l its.toArray) (hi : IntsAre its ns) (hne : 0 < ns.length)
    (h : ∀ h' tk M t', (∀ b o, s.heap.get? b = some o → h'.get? b = some o) → M ∈ ns → (∀ a, a ∈ ns → a ≤ M) → Q (.int M t') { s with heap := h', toks := tk }) : wpAny (model prog w) A (call (.builtin "max") [.ref l]) Q E s := by
  obtain ⟨xs, e⟩ := hi.allInts.items
  have hn : numsOf (intItems xs).toList = ns := by rw [← e]; exact hi.numsOf
  rw [nums_intItems] at hn
  subst hn
  rw [e] at hl
  have hsz : 0 < xs.size := by simpa using hne
  refine NXl.max_t hh hl hsz fun v h' tk hv hk => ?_
  obtain ⟨t, rfl⟩ := intItems_at hv
  obtain ⟨h1, h2⟩ := argBest_gt (numAt xs) (xs.size - 1)
  refine h h' tk _ t hk ?_ fun a ha => ?_
  · rw [numAt_eq]; exact PySem.getD_mem (by rw [List.length_map, Array.length_toList]; omega)
  · obtain ⟨j, hj, rfl⟩ := mem_getD ha
    rw [List.length_map, Array.length_toList] at hj
    rw [← numAt_eq]; exact h2 j (by omega)
theorem min_rawT (hh : A.handled = none) (hl : s.heap.IsTuple l its.toArray) (hi : IntsAre its ns) (hne : 0 < ns.length)
    (h : ∀ h' tk M t', (∀ b o, s.heap.get? b = some o → h'.get? b = some o) → M ∈ ns → (∀ a, a ∈ ns → M ≤ a) → Q (.int M t') { s with heap := h', toks := tk }) : wpAny (model prog w) A (call (.builtin "min") [.ref l]) Q E s := by
  obtain ⟨xs, e⟩ := hi.allInts.items
  have hn : numsOf (intItems xs).toList = ns := by rw [← e]; exact hi.numsOf
  rw [nums_intItems] at hn
  subst hn
  rw [e] at hl
  have hsz : 0 < xs.size := by simpa using hne
  refine NXl.min_t hh hl hsz fun v h' tk hv hk => ?_
  obtain ⟨t, rfl⟩ := intItems_at hv
  obtain ⟨h1, h2⟩ := argBest_lt (numAt xs) (xs.size - 1)
  refine h h' tk _ t hk ?_ fun a ha => ?_
  · rw [numAt_eq]; exact PySem.getD_mem (by rw [List.length_map, Array.length_toList]; omega)
  · obtain ⟨j, hj, rfl⟩ := mem_getD ha
    rw [List.length_map, Array.length_toList] at hj
    rw [← numAt_eq]; exact h2 j (by omega)
end
section
variable {X : Cx}
def rSumT (K : PySem.W.Frag) : List V → Hp → VK → Prop := fun vs H Q => ∃ (a : Addr) (ns : List Int), vs = [V.ref a] ∧ SqT K H a (ns.map V.int) ∧ Q (.int ns.sum) H
def rMaxT (K : PySem.W.Frag) : List V → Hp → VK → Prop := fun vs H Q => ∃ (a : Addr) (ns : List Int), vs = [V.ref a] ∧ SqT K H a (ns.map V.int) ∧ 0 < ns.length ∧ ∀ m, m ∈ ns → (∀ y, y ∈ ns → y ≤ m) → Q (.int m) H
def rMinT (K : PySem.W.Frag) : List V → Hp → VK → Prop := fun vs H Q => ∃ (a : Addr) (ns : List Int), vs = [V.ref a] ∧ SqT K H a (ns.map V.int) ∧ 0 < ns.length ∧ ∀ m, m ∈ ns → (∀ y, y ∈ ns → m ≤ y) → Q (.int m) H
theorem cr_sumT (hc : X.calm = true) : CallR X (.builtin "sum") (rSumT X.K) := by
  intro pins s σ H vs us Q I r h
  obtain ⟨a, ns, rfl, hs, q⟩ := h
  obtain ⟨its, rv, hl, _⟩ := I.tuple hs
  rw [Vals.ref1 r]
  exact sum_rawT (I.ok.hd hc) hl rv.ints fun h' tk t' hk => ⟨.int _, H, I.kept hk, ⟨_, rfl⟩, q⟩
theorem cr_maxT (hc : X.calm = true) : CallR X (.builtin "max") (rMaxT X.K) := by
  intro pins s σ H vs us Q I r h
  obtain ⟨a, ns, rfl, hs, hne, q⟩ := h
  obtain ⟨its, rv, hl, _⟩ := I.tuple hs
  rw [Vals.ref1 r]
  exact max_rawT (I.ok.hd hc) hl rv.ints hne fun h' tk m t' hk h1 h2 => ⟨.int _, H, I.kept hk, ⟨_, rfl⟩, q m h1 h2⟩
theorem cr_minT (hc : X.calm = true) : CallR X (.builtin "min") (rMinT X.K) := by
  intro pins s σ H vs us Q I r h
  obtain ⟨a, ns, rfl, hs, hne, q⟩ := h
  obtain ⟨its, rv, hl, _⟩ := I.tuple hs
  rw [Vals.ref1 r]
  exact min_rawT (I.ok.hd hc) hl rv.ints hne fun h' tk m t' hk h1 h2 => ⟨.int _, H, I.kept hk, ⟨_, rfl⟩, q m h1 h2⟩
end
end L2

/-! MP2, part g: built-in functions. -/
namespace MP
open PySem PySem.Spec L2
def Prim.py : Prim → Str
  | .len => "len"
  | .int => "int"
  | .max => "max"
  | .min => "min"
  | .all => "all"
  | .any => "any"
  | .tuple => "tuple"
  | .list => "list"
  | .repr => "repr"
  | .sum => "sum"
  | .sorted => "sorted"
  | .abs => "abs"
/-- the value of the name -/
def Prim.val : Prim → Value
  | .len => .builtin "len"
  | .int => .type "int"
  | .max => .builtin "max"
  | .min => .builtin "min"
  | .all => .builtin "all"
  | .any => .builtin "any"
  | .tuple => .type "tuple"
  | .list => .type "list"
  | .repr => .builtin "repr"
  | .sum => .builtin "sum"
  | .sorted => .builtin "sorted"
  | .abs => .builtin "abs"
theorem Prim.boot (p : Prim) : bootBuiltins p.py = some p.val := by cases p <;> decide +kernel
def isLstO : Obj → Bool
  | ⟨.type c, _, .seq _ _, _⟩ => decide (c = "list")
  | _ => false
/-- sys.modules is no list -/
def SysM (K : Fg) : Prop := ∃ o, K.lookup sysModules = some o ∧ isLstO o = false
section
variable {X : Cx} {pins : List (Addr × Obj)} {σ : L2.St} {H : Hp} {s : Shared}
theorem SysM.ne (h : SysM X.K) (I : Inv X pins σ H s) {a : Addr} {o : Obj} {its : Array Value} {n : Nat} (ho : s.heap.get? a = some o) (hc : o.cls = .type "list") (hd : o.data = .seq its n) : sysModules ≠ a := fun e => by
  obtain ⟨o', h1, h2⟩ := h
  have q := I.kIn _ _ h1
  rw [e, ho] at q
  cases q
  obtain ⟨c, d, dt, sl⟩ := o
  cases (show c = .type "list" from hc)
  cases (show dt = .seq its n from hd)
  cases h2
mutual
theorem RN.reads (hM : SysM X.K) (I : Inv X pins σ H s) : ∀ (x : D) (v : V) (u : Value), RN X.K H x v → RelV v u → ∃ as, Reads s.heap u x as ∧ sysModules ∉ as
  | .none, v, u, h, r => by unfold RN at h; subst h; cases r; exact ⟨[], .none, by simp⟩
  | .bool b, v, u, h, r => by unfold RN at h; subst h; cases r; exact ⟨[], .bool b, by simp⟩
  | .int i, v, u, h, r => by unfold RN at h; subst h; obtain ⟨t, rfl⟩ := r; exact ⟨[], .int i t, by simp⟩
  | .str y, v, u, h, r => by unfold RN at h; obtain ⟨rfl, _⟩ := h; obtain ⟨t, rfl⟩ := r; exact ⟨[], .str y t, by simp⟩
  | .list xs, v, u, h, r => by
    unfold RN at h
    obtain ⟨a, vs, rfl, h1, h2, h3⟩ := h
    cases r
    obtain ⟨its, rv, ⟨o, n, ho, hc, _, hd⟩, _⟩ := I.list (.inl h1)
    obtain ⟨as, hr, hq⟩ := RNs.reads hM I xs vs its h3 rv
    refine ⟨_, Reads.list ho hc hd hr, ?_⟩
    rw [List.mem_cons, not_or]
    exact ⟨hM.ne I ho hc hd, hq⟩
  | .tuple xs, v, u, h, r => by
    unfold RN at h
    obtain ⟨a, vs, rfl, h1, h2, h3⟩ := h
    cases r
    obtain ⟨its, rv, ⟨o, ho, hc, n, hd⟩, _⟩ := I.tuple h1
    obtain ⟨as, hr, hq⟩ := RNs.reads hM I xs vs its h3 rv
    exact ⟨_, Reads.tuple ho hc hd hr, hq⟩
  | .dict kvs, v, u, h, r => by
    unfold RN at h
    obtain ⟨a, us, rfl, h2, h3, h4⟩ := h
    cases r
    obtain ⟨_, hy, ws, hk, o, es, ep, ho, hx, hd, _, hp, _⟩ := I.hok a _ h2
    obtain ⟨as, bs, q1, q2, this⟩ := RNk.reads hM I kvs us ws es.toList h4 hk hp
    refine ⟨_, Reads.dict ho hx.1 hd q1 q2, ?_⟩
    intro hm
    rcases List.mem_append.mp hm with hm | hm
    · rcases List.mem_cons.mp hm with hm | hm
      · rw [← hm] at hy
        simp at hy
      · exact this.1 hm
    · exact this.2 hm
theorem RNs.reads (hM : SysM X.K) (I : Inv X pins σ H s) : ∀ (xs : List D) (vs : List V) (us : List Value), RNs X.K H xs vs → Vals vs us → ∃ as, ReadsAll s.heap us xs as ∧ sysModules ∉ as
  | [], vs, us, h, r => by
    unfold RNs at h
    subst h
    cases r
    exact ⟨[], .nil, by simp⟩
  | x :: xs, vs, us, h, r => by
    unfold RNs at h
    obtain ⟨v, w, rfl, h1, h2⟩ := h
    cases r with
    | cons r1 r2 =>
      obtain ⟨as, q1, q3⟩ := RN.reads hM I x v _ h1 r1
      obtain ⟨bs, q2, q4⟩ := RNs.reads hM I xs w _ h2 r2
      refine ⟨_, .cons q1 q2, ?_⟩
      simp only [List.mem_append, not_or]
      exact ⟨q3, q4⟩
theorem RNk.reads (hM : SysM X.K) (I : Inv X pins σ H s) : ∀ (kvs : List (D × D)) (us : List (Key × V)) (ws : List (Key × Value)) (es : List DictEntry), RNk X.K H kvs us → KV us ws → Pairs (mixKind X.prog X.w) es ws →
    ∃ as bs, ReadsAll s.heap (es.map (·.key)) (kvs.map (·.1)) as ∧ ReadsAll s.heap (es.map (·.val)) (kvs.map (·.2)) bs ∧ (sysModules ∉ as ∧ sysModules ∉ bs)
  | [], us, ws, es, h, k, p => by
    unfold RNk at h
    subst h
    cases k
    cases p
    exact ⟨[], [], .nil, .nil, by simp⟩
  | (d, x) :: kvs, us, ws, es, h, k, p => by
    unfold RNk at h
    obtain ⟨k', v, r, rfl, h0, h1, h2⟩ := h
    cases k with
    | cons k1 k2 =>
      cases p with
      | cons p1 p2 p3 =>
        obtain ⟨e1, e2⟩ := k1
        obtain ⟨as, bs, q1, q2, q3⟩ := RNk.reads hM I kvs r _ _ h2 k2 p3
        rw [← p2] at e2
        obtain ⟨cs, q4, q5⟩ := RN.reads hM I x v _ h1 e2
        rename_i kv wr en er
        have hu : Reads s.heap en.key d [] := by
          have e1' : k' = kv.1 := e1
          rw [← e1'] at p1
          have p1' : keyIs k' en.key = true := p1
          rcases keyIs_shape p1' with ⟨i, t, hk, hv⟩ | ⟨z, t, hk, hv⟩
          · cases d <;> simp [keyD] at h0
            · subst h0
              cases hk
              rw [hv]
              exact .int _ t
            · subst h0
              cases hk
          · cases d <;> simp [keyD] at h0
            · subst h0
              cases hk
            · subst h0
              cases hk
              rw [hv]
              exact .str _ t
        refine ⟨_, _, .cons hu q1, .cons q4 q2, ?_⟩
        obtain ⟨z1, z2⟩ := q3
        refine ⟨by simpa using z1, ?_⟩
        simp only [List.mem_append, not_or]
        exact ⟨q5, z2⟩
end
end
section
variable {X : Cx}
theorem ob_repr (hM : SysM X.K) (hg : X.A.guards = some []) (hu : X.A.units + 64 < cLine) : CallR X (.builtin "repr") (fun xs H Q => ∃ x v, xs = [v] ∧ RN X.K H x v ∧ reprOk x = true ∧ Q (.str x.shown) H) := by
  intro pins s σ H xs us Q I r h
  obtain ⟨x, v, rfl, hx, ok, q⟩ := h
  obtain ⟨u, rfl, ru⟩ := vals1 r
  unfold reprOk at ok
  simp only [Bool.and_eq_true, decide_eq_true_eq, Bool.or_eq_true, Bool.not_eq_true'] at ok
  obtain ⟨⟨o1, o2⟩, o3⟩ := ok
  obtain ⟨as, hr, hm⟩ := RN.reads hM I _ _ _ hx ru
  have hsm : x.hasDict = true → sysModules ∉ as := fun _ => hm
  have o3' : x.shown.length ≤ sizeLine := by rw [← big_size]; exact o3
  have fin : ∀ (h' : Heap) (u' : Tok) (tk : Nat), (∀ b o, s.heap.get? b = some o → h'.get? b = some o) → EP X pins σ Q (.str x.shown u') { s with heap := h', toks := tk } := fun h' u' tk k =>
    ⟨.str x.shown, H, I.kept (t' := tk) k, ⟨u', rfl⟩, q⟩
  cases hr with
  | none => exact PySem.P.repr_of_none (fin s.heap _ _ fun _ _ e => e)
  | bool b => exact PySem.P.repr_of_bool (by have := fin s.heap s.toks (s.toks + 1) fun _ _ e => e; simpa [PyData.shown] using this)
  | int i t => exact PySem.P.repr_of_int (by simpa [PyData.showable] using o1) (by have := fin s.heap s.toks (s.toks + 1) fun _ _ e => e; simpa [PyData.shown] using this)
  | str y t => exact PySem.P.repr_of_str (by have := fin s.heap s.toks (s.toks + 1) fun _ _ e => e; simpa [PyData.shown] using this) (by simpa [PyData.shown] using o3')
  | list a1 a2 a3 a4 => exact repr_of_reads' (.list a1 a2 a3 a4) o1 hsm hg (by omega) (fun _ _ e => e) fin o3'
  | tuple a1 a2 a3 a4 => exact repr_of_reads' (.tuple a1 a2 a3 a4) o1 hsm hg (by omega) (fun _ _ e => e) fin o3'
  | dict a1 a2 a3 a4 a5 => exact repr_of_reads' (.dict a1 a2 a3 a4 a5) o1 hsm hg (by omega) (fun _ _ e => e) fin o3'
end
theorem maxI_spec : ∀ (ns : List Int), ns ≠ [] → maxI ns ∈ ns ∧ ∀ y ∈ ns, y ≤ maxI ns
  | [], h => absurd rfl h
  | [x], _ => by simp [maxI]
  | x :: y :: r, _ => by
    obtain ⟨h1, h2⟩ := maxI_spec (y :: r) (by simp)
    have e : maxI (x :: y :: r) = if x < maxI (y :: r) then maxI (y :: r) else x := rfl
    rw [e]
    split
    · refine ⟨List.mem_cons_of_mem _ h1, fun z hz => ?_⟩
      rcases List.mem_cons.mp hz with rfl | hz
      · omega
      · exact h2 z hz
    · refine ⟨List.mem_cons_self, fun z hz => ?_⟩
      rcases List.mem_cons.mp hz with rfl | hz
      · omega
      · have := h2 z hz
        omega
theorem minI_spec : ∀ (ns : List Int), ns ≠ [] → minI ns ∈ ns ∧ ∀ y ∈ ns, minI ns ≤ y
  | [], h => absurd rfl h
  | [x], _ => by simp [minI]
  | x :: y :: r, _ => by
    obtain ⟨h1, h2⟩ := minI_spec (y :: r) (by simp)
    have e : minI (x :: y :: r) = if minI (y :: r) < x then minI (y :: r) else x := rfl
    rw [e]
    split
    · refine ⟨List.mem_cons_of_mem _ h1, fun z hz => ?_⟩
      rcases List.mem_cons.mp hz with rfl | hz
      · omega
      · exact h2 z hz
    · refine ⟨List.mem_cons_self, fun z hz => ?_⟩
      rcases List.mem_cons.mp hz with rfl | hz
      · omega
      · have := h2 z hz
        omega
def rPrim (K : Fg) (p : Prim) : List V → Hp → VK → Prop := fun vs H Q => ∃ tt F ρ st xs r, SR tt F ρ K st H ∧ TRs F ρ K H xs vs ∧ primT st p xs = some r ∧ Aft tt F ρ K H st r Q
theorem map1 {α β : Type} {f : α → β} {xs : List α} {a : β} (h : xs.map f = [a]) : ∃ x, xs = [x] ∧ f x = a := by
  match xs, h with
  | [x], h => exact ⟨x, rfl, by simpa using h⟩
theorem map2 {α β : Type} {f : α → β} {xs : List α} {a b : β} (h : xs.map f = [a, b]) : ∃ x y, xs = [x, y] ∧ f x = a ∧ f y = b := by
  match xs, h with
  | [x, y], h => exact ⟨x, y, rfl, by simpa using h⟩
section
variable {X : Cx}
theorem ob_primV (hc : X.calm = true) (hu : X.A.units + 64 < cLine) (p : Prim) : CallR X p.val (fun vs H Q => ∃ tt F ρ st xs r, SR tt F ρ X.K st H ∧ TRs F ρ X.K H xs vs ∧ primV p (xs.map (view st)) = some r ∧ Aft tt F ρ X.K H st r Q) := by
  intro pins s σ H vs us Q I r h
  obtain ⟨tt, F, ρ, st, xs, rv, hS, hd, e, q⟩ := h
  generalize hm : xs.map (view st) = ws at e
  unfold primV at e
  split at e
  · -- len of a list
    cases e
    obtain ⟨x, rfl, e1⟩ := map1 hm
    obtain ⟨v, rfl, h1⟩ := trs1 hd
    obtain ⟨a, ws, rfl, g1, g2, g3⟩ := hS.vlst h1 e1
    refine call_len_seq pins s σ H _ us Q I r ⟨a, ws, rfl, .inl (.inl g1), ?_⟩
    rw [← g3.length]
    exact q.int hS
  · cases e
    obtain ⟨x, rfl, e1⟩ := map1 hm
    obtain ⟨v, rfl, h1⟩ := trs1 hd
    obtain ⟨a, ws, rfl, g1, g2, g3⟩ := hS.vtup h1 e1
    refine call_len_seq pins s σ H _ us Q I r ⟨a, ws, rfl, .inr g1.sq, ?_⟩
    rw [← g3.length]
    exact q.int hS
  · cases e
    obtain ⟨x, rfl, e1⟩ := map1 hm
    obtain ⟨v, rfl, h1⟩ := trs1 hd
    obtain ⟨rfl, hl⟩ := vstr h1 e1
    exact call_len_str pins s σ H _ us Q I r ⟨_, rfl, by rw [← big_size]; exact hl, q.int hS⟩
  · cases e
    obtain ⟨x, rfl, e1⟩ := map1 hm
    obtain ⟨v, rfl, h1⟩ := trs1 hd
    rw [vint h1 e1] at r
    exact call_int1 pins s σ H _ us Q I r (.inl ⟨_, rfl, q.int hS⟩)
  · cases e
    obtain ⟨x, rfl, e1⟩ := map1 hm
    obtain ⟨v, rfl, h1⟩ := trs1 hd
    rw [vbool h1 e1] at r
    exact call_int1 pins s σ H _ us Q I r (.inr ⟨_, rfl, q.int hS⟩)
  · cases e
    obtain ⟨x, y, rfl, e1, e2⟩ := map2 hm
    obtain ⟨v, w, rfl, h1, h2⟩ := trs2 hd
    rw [vint h1 e1, vint h2 e2] at r
    exact call_max2 hc pins s σ H _ us Q I r ⟨_, _, rfl, q.int hS⟩
  · cases e
    obtain ⟨x, y, rfl, e1, e2⟩ := map2 hm
    obtain ⟨v, w, rfl, h1, h2⟩ := trs2 hd
    rw [vint h1 e1, vint h2 e2] at r
    exact call_min2 hc pins s σ H _ us Q I r ⟨_, _, rfl, q.int hS⟩
  · obtain ⟨x, rfl, e1⟩ := map1 hm
    obtain ⟨v, rfl, h1⟩ := trs1 hd
    obtain ⟨ns, e2, e⟩ := Option.bind_eq_some_iff.mp e
    split at e
    · cases e
    · rename_i hn
      cases e
      obtain ⟨a, ws, rfl, g1, g2, g3⟩ := hS.vlst h1 e1
      have ew := g3.ints e2
      subst ew
      have hne : ns ≠ [] := fun z => by subst z; simp at hn
      refine cr_max hc pins s σ H _ us Q I r ⟨a, ns, rfl, .inl g1, List.length_pos_iff.mpr hne, fun m m1 m2 => ?_⟩
      obtain ⟨k1, k2⟩ := maxI_spec ns hne
      have : m = maxI ns := Int.le_antisymm (k2 m m1) (m2 _ k1)
      rw [this]
      exact q.int hS
  · obtain ⟨x, rfl, e1⟩ := map1 hm
    obtain ⟨v, rfl, h1⟩ := trs1 hd
    obtain ⟨ns, e2, e⟩ := Option.bind_eq_some_iff.mp e
    split at e
    · cases e
    · rename_i hn
      cases e
      obtain ⟨a, ws, rfl, g1, g2, g3⟩ := hS.vlst h1 e1
      have ew := g3.ints e2
      subst ew
      have hne : ns ≠ [] := fun z => by subst z; simp at hn
      refine cr_min hc pins s σ H _ us Q I r ⟨a, ns, rfl, .inl g1, List.length_pos_iff.mpr hne, fun m m1 m2 => ?_⟩
      obtain ⟨k1, k2⟩ := minI_spec ns hne
      have : m = minI ns := Int.le_antisymm (m2 _ k1) (k2 m m1)
      rw [this]
      exact q.int hS
  · obtain ⟨x, rfl, e1⟩ := map1 hm
    obtain ⟨v, rfl, h1⟩ := trs1 hd
    obtain ⟨bs, e2, rfl⟩ := Option.map_eq_some_iff.mp e
    obtain ⟨a, ws, rfl, g1, g2, g3⟩ := hS.vlst h1 e1
    have ew := g3.bools e2
    subst ew
    exact cr_all hc pins s σ H _ us Q I r ⟨a, bs, rfl, .inl g1, q.bool hS⟩
  · obtain ⟨x, rfl, e1⟩ := map1 hm
    obtain ⟨v, rfl, h1⟩ := trs1 hd
    obtain ⟨bs, e2, rfl⟩ := Option.map_eq_some_iff.mp e
    obtain ⟨a, ws, rfl, g1, g2, g3⟩ := hS.vlst h1 e1
    have ew := g3.bools e2
    subst ew
    exact cr_any hc pins s σ H _ us Q I r ⟨a, bs, rfl, .inl g1, q.bool hS⟩
  · cases e
    obtain ⟨x, rfl, e1⟩ := map1 hm
    obtain ⟨v, rfl, h1⟩ := trs1 hd
    obtain ⟨a, ws, rfl, g1, g2, g3⟩ := hS.vlst h1 e1
    exact call_tuple_of pins s σ H _ us Q I r ⟨a, ws, rfl, .inl ⟨.inl g1, q.tup hS g2 g3⟩⟩
  · cases e
    obtain ⟨x, rfl, e1⟩ := map1 hm
    obtain ⟨v, rfl, h1⟩ := trs1 hd
    obtain ⟨a, ws, rfl, g1, g2, g3⟩ := hS.vtup h1 e1
    exact call_tuple_of pins s σ H _ us Q I r ⟨a, ws, rfl, .inr ⟨g1.sq, q.same hS (TR.mkTup g1 g2 g3)⟩⟩
  · cases e
    obtain ⟨x, rfl, e1⟩ := map1 hm
    obtain ⟨v, rfl, h1⟩ := trs1 hd
    obtain ⟨a, ws, rfl, g1, g2, g3⟩ := hS.vlst h1 e1
    exact call_list_of pins s σ H _ us Q I r ⟨a, ws, rfl, .inl (.inl g1), q.lst hS g2 g3⟩
  · cases e
    obtain ⟨x, rfl, e1⟩ := map1 hm
    obtain ⟨v, rfl, h1⟩ := trs1 hd
    obtain ⟨a, ws, rfl, g1, g2, g3⟩ := hS.vtup h1 e1
    exact call_list_of pins s σ H _ us Q I r ⟨a, ws, rfl, .inr g1.sq, q.lst hS g2 g3⟩
  · obtain ⟨x, rfl, e1⟩ := map1 hm
    obtain ⟨v, rfl, h1⟩ := trs1 hd
    obtain ⟨bs, e2, rfl⟩ := Option.map_eq_some_iff.mp e
    obtain ⟨a, ws, rfl, g1, g2, g3⟩ := hS.vlst h1 e1
    have ew := g3.ints e2
    subst ew
    exact cr_sum hc pins s σ H _ us Q I r ⟨a, bs, rfl, .inl g1, q.int hS⟩
  · obtain ⟨x, rfl, e1⟩ := map1 hm
    obtain ⟨v, rfl, h1⟩ := trs1 hd
    obtain ⟨ns, e2, e⟩ := Option.bind_eq_some_iff.mp e
    split at e
    · cases e
    · rename_i hn
      cases e
      obtain ⟨a, ws, rfl, g1, g2, g3⟩ := hS.vtup h1 e1
      have ew := g3.ints e2
      subst ew
      have hne : ns ≠ [] := fun z => by subst z; simp at hn
      refine cr_maxT hc pins s σ H _ us Q I r ⟨a, ns, rfl, g1.sq, List.length_pos_iff.mpr hne, fun m m1 m2 => ?_⟩
      obtain ⟨k1, k2⟩ := maxI_spec ns hne
      have : m = maxI ns := Int.le_antisymm (k2 m m1) (m2 _ k1)
      rw [this]
      exact q.int hS
  · obtain ⟨x, rfl, e1⟩ := map1 hm
    obtain ⟨v, rfl, h1⟩ := trs1 hd
    obtain ⟨ns, e2, e⟩ := Option.bind_eq_some_iff.mp e
    split at e
    · cases e
    · rename_i hn
      cases e
      obtain ⟨a, ws, rfl, g1, g2, g3⟩ := hS.vtup h1 e1
      have ew := g3.ints e2
      subst ew
      have hne : ns ≠ [] := fun z => by subst z; simp at hn
      refine cr_minT hc pins s σ H _ us Q I r ⟨a, ns, rfl, g1.sq, List.length_pos_iff.mpr hne, fun m m1 m2 => ?_⟩
      obtain ⟨k1, k2⟩ := minI_spec ns hne
      have : m = minI ns := Int.le_antisymm (m2 _ k1) (k2 m m1)
      rw [this]
      exact q.int hS
  · obtain ⟨x, rfl, e1⟩ := map1 hm
    obtain ⟨v, rfl, h1⟩ := trs1 hd
    obtain ⟨bs, e2, rfl⟩ := Option.map_eq_some_iff.mp e
    obtain ⟨a, ws, rfl, g1, g2, g3⟩ := hS.vtup h1 e1
    have ew := g3.ints e2
    subst ew
    exact cr_sumT hc pins s σ H _ us Q I r ⟨a, bs, rfl, g1.sq, q.int hS⟩
  · obtain ⟨x, rfl, e1⟩ := map1 hm
    exact ob_sortV hu pins s σ H _ us Q I r ⟨tt, F, ρ, st, x, _, rv, hS, hd, .inl e1, e, q⟩
  · obtain ⟨x, rfl, e1⟩ := map1 hm
    exact ob_sortV hu pins s σ H _ us Q I r ⟨tt, F, ρ, st, x, _, rv, hS, hd, .inr e1, e, q⟩
  · cases e
    obtain ⟨x, rfl, e1⟩ := map1 hm
    obtain ⟨v, rfl, h1⟩ := trs1 hd
    rw [vint h1 e1] at r
    exact call_abs pins s σ H _ us Q I r ⟨_, rfl, q.int hS⟩
  · cases e
theorem ob_prim (hM : SysM X.K) (hc : X.calm = true) (hg : X.A.guards = some []) (hu : X.A.units + 64 < cLine) (p : Prim) : CallR X p.val (rPrim X.K p) := by
  intro pins s σ H vs us Q I r h
  obtain ⟨tt, F, ρ, st, xs, rv, hS, hd, e, q⟩ := h
  have other : p ≠ .repr → primV p (xs.map (view st)) = some rv := fun hp => by
    cases p <;> first | exact e | exact absurd rfl hp
  by_cases hp : p = .repr
  · subst hp
    match xs, hd, e with
    | [x], hd, e =>
      obtain ⟨v, rfl, h1⟩ := trs1 hd
      simp only [primT] at e
      obtain ⟨d, e1, e⟩ := Option.bind_eq_some_iff.mp e
      split at e
      · rename_i ok
        cases e
        refine ob_repr hM hg hu pins s σ H _ us Q I r ⟨d, v, rfl, hS.deep h1 e1, ok, q.str hS ?_⟩
        unfold reprOk at ok
        simp only [Bool.and_eq_true, decide_eq_true_eq] at ok
        exact ok.2
      · cases e
    | [], _, e => simp [primT] at e
    | _ :: _ :: _, _, e => simp [primT] at e
  · exact ob_primV hc hu p pins s σ H vs us Q I r ⟨tt, F, ρ, st, xs, rv, hS, hd, other hp, q⟩
end
end MP

/-! MP2, part h: readings of MP's terms. -/
namespace MP
open PySem PySem.Spec L2
/-- the values of the exceptions' classes; the tables of code objects -/
structure Bs where
  cl : Nat → Value
  tt : List (Addr × Str)
/-- an exception of the class number c with the value x -/
def XQ (cl : Bs) (W : WX) (σ : L2.St) (F : FS) (ρ : List Addr) (K : Fg) (H : Hp) (c : Nat) (x : T) (st : Store) : Prop :=
  ∀ (F' : FS) (ρ' : List Addr) (H' : Hp) (w : V) (d : Addr), Stp F ρ H F' ρ' H' → SR cl.tt F' ρ' K st H' → TR F' ρ' K H' x w → H' d = some (.xd [("value", w)]) → W (cl.cl c) (some d) σ H'
def Post {α β : Type} (R : FS → List Addr → Hp → α → β → Prop) (cl : Bs) (W : WX) (σ : L2.St) (F : FS) (ρ : List Addr) (K : Fg) (H : Hp) (r : Res α) (Q : β → Hp → Prop) : Prop :=
  match r with
  | .ok a st => ∀ (F' : FS) (ρ' : List Addr) (H' : Hp) (b : β), Stp F ρ H F' ρ' H' → SR cl.tt F' ρ' K st H' → R F' ρ' H' a b → Q b H'
  | .exc c x st => XQ cl W σ F ρ K H c x st
  | .stuck => False
section
variable {α β γ δ : Type} {R : FS → List Addr → Hp → α → β → Prop} {R0 : FS → List Addr → Hp → γ → δ → Prop} {cl : Bs} {W : WX} {σ : L2.St} {F F' : FS} {ρ ρ' : List Addr} {K : Fg} {H H' : Hp} {Q : β → Hp → Prop} {Q0 : δ → Hp → Prop}
theorem Post.step {r : Res α} (s : Stp F ρ H F' ρ' H') (h : Post R cl W σ F ρ K H r Q) : Post R cl W σ F' ρ' K H' r Q := by
  cases r with
  | ok a st => exact fun F2 ρ2 H2 b t q p => h F2 ρ2 H2 b (s.trans t) q p
  | exc c x st => exact fun F2 ρ2 H2 w d t => h F2 ρ2 H2 w d (s.trans t)
  | stuck => exact h
theorem Post.bind {r : Res γ} {f : γ → Store → Res α} (h : Post R cl W σ F ρ K H (r.bind f) Q)
    (k : ∀ (a : γ) (st : Store) (F' : FS) (ρ' : List Addr) (H' : Hp) (b : δ), Stp F ρ H F' ρ' H' → SR cl.tt F' ρ' K st H' → R0 F' ρ' H' a b → Post R cl W σ F' ρ' K H' (f a st) Q → Q0 b H') : Post R0 cl W σ F ρ K H r Q0 := by
  cases r with
  | ok a st => exact fun F2 ρ2 H2 b t q p => k a st F2 ρ2 H2 b t q p (Post.step t h)
  | exc c x st => exact h
  | stuck => exact h
theorem Post.map {r : Res α} (h : Post R cl W σ F ρ K H r Q) {R1 : FS → List Addr → Hp → α → δ → Prop}
    (k : ∀ (a : α) (st : Store) (F' : FS) (ρ' : List Addr) (H' : Hp) (b : δ), r = .ok a st → Stp F ρ H F' ρ' H' → SR cl.tt F' ρ' K st H' → R1 F' ρ' H' a b → Q0 b H') : Post R1 cl W σ F ρ K H r Q0 := by
  cases r with
  | ok a st => exact fun F2 ρ2 H2 b t q p => k a st F2 ρ2 H2 b rfl t q p
  | exc c x st => exact h
  | stuck => exact h
theorem Post.lift {o : Option α} {st : Store} (h : Post R cl W σ F ρ K H (MP.lift o st) Q) : ∃ a, o = some a ∧ ∀ (F' : FS) (ρ' : List Addr) (H' : Hp) (b : β), Stp F ρ H F' ρ' H' → SR cl.tt F' ρ' K st H' → R F' ρ' H' a b → Q b H' := by
  cases o with
  | none => exact h.elim
  | some a => exact ⟨a, rfl, h⟩
end
abbrev RV_ (K : Fg) : FS → List Addr → Hp → RV → V → Prop := fun F ρ H => RVR F ρ K H
abbrev RT_ (K : Fg) : FS → List Addr → Hp → T → V → Prop := fun F ρ H => TR F ρ K H
abbrev RBb_ : FS → List Addr → Hp → Bool → Bool → Prop := fun _ _ _ b b' => b' = b
abbrev RTs_ (K : Fg) : FS → List Addr → Hp → List T → List V → Prop := fun F ρ H => TRs F ρ K H
/-- the state behind an expression's reading -/
def Sta (cl : Bs) (K : Fg) (σ : L2.St) (H : Hp) (P : FS → List Addr → Env → Store → Prop) : Prop := ∃ F ρ env st, SR cl.tt F ρ K st H ∧ ER F ρ K H env σ ∧ P F ρ env st
section
variable (K : Fg) (cl : Bs) (W : WX) (cf : CF)
def tE (c : E) : TE := fun σ H Q => Sta cl K σ H fun F ρ env st => Post (RV_ K) cl W σ F ρ K H (evalE cf c env st) Q
def tS (c : E) : TE := fun σ H Q => Sta cl K σ H fun F ρ env st => Post (RT_ K) cl W σ F ρ K H (settled (evalE cf c env st)) Q
def tC (c : E) : TT := fun σ H Q => Sta cl K σ H fun F ρ env st => Post RBb_ cl W σ F ρ K H (truthOf (evalE cf c env st)) Q
def tTs (cs : List E) : TA := fun σ H Q => Sta cl K σ H fun F ρ env st => Post (RTs_ K) cl W σ F ρ K H (evalTs cf cs env st) Q
end
section
variable {X : Cx} {K : Fg} {cl : Bs} {W : WX} {cf : CF} {c : E} {e : Expr}
theorem PE.imp {t t' : TE} (h : PE X e t) (i : ∀ σ H Q, t' σ H Q → t σ H Q) : PE X e t' := ⟨fun pins s σ H Q I q => h.run pins s σ H Q I (i σ H Q q)⟩
theorem PT.imp {t t' : TT} (h : PT X e t) (i : ∀ σ H Q, t' σ H Q → t σ H Q) : PT X e t' := ⟨fun pins s σ H Q I q => h.run pins s σ H Q I (i σ H Q q)⟩
theorem PA.imp {es : List Expr} {t t' : TA} (h : PA X es t) (i : ∀ σ H Q, t' σ H Q → t σ H Q) : PA X es t' := ⟨fun pos pins s σ H Q I q => h.run pos pins s σ H Q I (i σ H Q q)⟩
theorem PS.imp {st : Stmt} {t t' : TS} (h : PS X st t) (i : ∀ D σ H, t' D σ H → t D σ H) : PS X st t' := ⟨fun pins s σ H D I q => h.run pins s σ H D I (i D σ H q)⟩
theorem PSs.imp {st : List Stmt} {t t' : TS} (h : PSs X st t) (i : ∀ D σ H, t' D σ H → t D σ H) : PSs X st t' := ⟨fun pins s σ H D I q => h.run pins s σ H D I (i D σ H q)⟩
theorem tS_E {σ : L2.St} {H : Hp} {Q : VK} (h : tS K cl W cf c σ H Q) : tE K cl W cf c σ H Q := by
  obtain ⟨F, ρ, env, st, hS, hE, p⟩ := h
  refine ⟨F, ρ, env, st, hS, hE, Post.bind p fun a st1 F1 ρ1 H1 b s q r p1 => ?_⟩
  obtain ⟨F2, s2, q2, r2⟩ := q.settle r
  exact p1 F2 ρ1 H1 b s2 q2 r2
theorem tC_S {σ : L2.St} {H : Hp} {Q : Bool → Hp → Prop} (h : tC X.K cl W cf c σ H Q) : tS X.K cl W cf c σ H fun x H' => ∃ k, TruV X.K x H' k ∧ Q k H' := by
  obtain ⟨F, ρ, env, st, hS, hE, p⟩ := h
  refine ⟨F, ρ, env, st, hS, hE, Post.bind p fun t st1 F1 ρ1 H1 v s q r p1 => ?_⟩
  obtain ⟨b, e, p2⟩ := Post.lift p1
  exact ⟨b, ob_tru q r e, p2 F1 ρ1 H1 b .refl q rfl⟩
/-- two settled expressions -/
theorem tS2 {α β : Type} {R : FS → List Addr → Hp → α → β → Prop} {Q : β → Hp → Prop} {a b : E} {σ : L2.St} {H : Hp} {F : FS} {ρ : List Addr} {env : Env} {st : Store} {k : T → T → Store → Res α} {G : V → V → Hp → Prop} (hS : SR cl.tt F ρ K st H) (hE : ER F ρ K H env σ)
    (p : Post R cl W σ F ρ K H ((settled (evalE cf a env st)).bind fun x st1 => (settled (evalE cf b env st1)).bind fun y st2 => k x y st2) Q)
    (g : ∀ (F2 : FS) (ρ2 : List Addr) (H2 : Hp) (x y : T) (vx vy : V) (st2 : Store), SR cl.tt F2 ρ2 K st2 H2 → ER F2 ρ2 K H2 env σ → TR F2 ρ2 K H2 x vx → TR F2 ρ2 K H2 y vy → Post R cl W σ F2 ρ2 K H2 (k x y st2) Q → G vx vy H2) :
    tS K cl W cf a σ H fun vx H1 => tS K cl W cf b σ H1 fun vy H2 => G vx vy H2 := by
  refine ⟨F, ρ, env, st, hS, hE, Post.bind p fun x st1 F1 ρ1 H1 vx s q r p1 => ?_⟩
  refine ⟨F1, ρ1, env, st1, q, s.er hE, Post.bind p1 fun y st2 F2 ρ2 H2 vy s2 q2 r2 p2 => ?_⟩
  exact g F2 ρ2 H2 x y vx vy st2 q2 (s2.er (s.er hE)) (s2.tr r) r2 p2
theorem tS1 {σ : L2.St} {H : Hp} {F : FS} {ρ : List Addr} {env : Env} {st : Store} {α β : Type} {R : FS → List Addr → Hp → α → β → Prop} {Q : β → Hp → Prop} {k : T → Store → Res α} {G : V → Hp → Prop} (hS : SR cl.tt F ρ K st H) (hE : ER F ρ K H env σ)
    (p : Post R cl W σ F ρ K H ((settled (evalE cf c env st)).bind k) Q)
    (g : ∀ (F2 : FS) (ρ2 : List Addr) (H2 : Hp) (x : T) (vx : V) (st2 : Store), SR cl.tt F2 ρ2 K st2 H2 → ER F2 ρ2 K H2 env σ → TR F2 ρ2 K H2 x vx → Post R cl W σ F2 ρ2 K H2 (k x st2) Q → G vx H2) : tS K cl W cf c σ H G := by
  refine ⟨F, ρ, env, st, hS, hE, Post.bind p fun x st1 F1 ρ1 H1 vx s q r p1 => ?_⟩
  exact g F1 ρ1 H1 x vx st1 q (s.er hE) r p1
/-- a test, then one of two ways -/
theorem tC1 {σ : L2.St} {H : Hp} {F : FS} {ρ : List Addr} {env : Env} {st : Store} {α β : Type} {R : FS → List Addr → Hp → α → β → Prop} {Q : β → Hp → Prop} {k : Bool → Store → Res α} {G : Bool → Hp → Prop} (hS : SR cl.tt F ρ K st H) (hE : ER F ρ K H env σ)
    (p : Post R cl W σ F ρ K H ((truthOf (evalE cf c env st)).bind k) Q)
    (g : ∀ (F2 : FS) (ρ2 : List Addr) (H2 : Hp) (b : Bool) (st2 : Store), SR cl.tt F2 ρ2 K st2 H2 → ER F2 ρ2 K H2 env σ → Post R cl W σ F2 ρ2 K H2 (k b st2) Q → G b H2) : tC K cl W cf c σ H G := by
  refine ⟨F, ρ, env, st, hS, hE, Post.bind p fun x st1 F1 ρ1 H1 b s q r p1 => ?_⟩
  cases (show b = x from r)
  exact g F1 ρ1 H1 x st1 q (s.er hE) p1
end
end MP

/-! NX, part a: an own exception over ValueError whose inherited __init__ says super().__init__(text) and keeps its argument. -/
namespace NX
open PySem PySem.Spec PySem.W PySem.Calls PyProof.Rows L2
/-- what the written part says of the class at C, right under or beneath the class at D, which has the __init__ -/
structure StayC (P : Program) (K : Frag) (C D fI : Addr) : Prop where
  oex : OexC K C
  ini : findIn K (.ref C) "__init__" = some (some (.ref fI))
  fty : typeIn K (.ref fI) = some (.type "function")
  sup : ks_superIn K C D "__init__" = some (some (.builtin "ValueError.__init__"))
  sub : subIn K (.ref C) (.type "ValueError") = some true
  mro : mroIn K C (.ref D) = some true
  any : nsIn K cStatics "thirdparty.any" = some none
  noval : findIn K (.ref C) "value" = some none
  xf : XfC K C
/-- the __init__: its text -/
structure IniS (scope : Scope) : Prop where
  co : scope.isCoroutine = false
  gen : scope.isGenerator = false
  kind : scope.kind = .function
  cell : ∀ x ∈ scope.names, x.2 ≠ .cell
  sup : scope.names.lookup ("super" : Str) = some .globalImplicit
  cls : scope.names.lookup ("__class__" : Str) = some .free
  slf : scope.names.lookup ("self" : Str) = some .local
  val : scope.names.lookup ("value" : Str) = some .local
/-- the __init__ in the written part -/
structure IniK (P : Program) (K : Frag) (D fI : Addr) (fd : FuncData) : Prop where
  ex : ∃ (oc : Value) (od : Option Addr) (osl : Array (Option Value)) (name qual : Str) (params : Arguments) (p1 p2 p3 p4 p5 p6 p7 p8 p9 p10 : Pos) (j : Nat) (txt : Str) (scope : Scope) (dV kV doc pm ct : Value) (an : Option Addr) (cc cda : Addr),
    K.lookup fI = some ⟨oc, od, .func fd, osl⟩ ∧ fd = ksFn name qual params [.Expr (.Call (.Attribute (.Call (.Name "super" p1) [] [] p2) "__init__" p3) [.Constant (.str txt) j p4] [] p5) p6, .Assign [.Attribute (.Name "self" p7) "value" p8] (.Name "value" p9) p10] scope dV kV doc pm an (.ref cda) ct cc ∧
    codeIn K (.ref cda) qual = true ∧ IniS scope ∧ (params.posonlyargs ++ params.args).head?.map (·.arg) = some "self" ∧
    (∃ cl cld csl, K.lookup cc = some ⟨cl, cld, .cell (some (.ref D)), csl⟩) ∧ (∃ ccl cdd vs ccs file tf, K.lookup cda = some ⟨ccl, cdd, .fields vs, ccs⟩ ∧ vs[2]? = some (.str file tf) ∧ ((P.main.file : Str) == file) = true) ∧
    (∃ cdD, clsIn K D = some cdD) ∧ (P.main.scope.names.lookup ("super" : Str)).isSome = false ∧ (p3.endLine == p5.line) = true
  bind : ∀ (s : Shared) (a b : Value), BindsTo s fd ⟨[a, b], []⟩ [("self", a), ("value", b)]
section
variable {P : Program} {w : World} {A : Around} {K : Frag} {C D fI : Addr} {fd : FuncData} {R : Result → Shared → Prop} {hp : Heap} {g : Array GenState} {d : Drawn} {t : Nat} {os : OsState}
theorem stay_init {x t0 : Addr} {u : Value} {mg mb : Str → Option Value} (KI : K.In hp) (hlim : hp.NoLimit) (hroom : A.depth < recursionLimit) (S : StayC P K C D fI) (N : IniK P K D fI fd)
    (hg : hp.Ns mainGlobals mg) (hmg : mg "super" = none) (hb : hp.Ns builtinsNs mb) (hmb : mb "super" = some (.type "super")) (hx : hp.get? x = some (PySem.HandSPX.excO C t0)) (hxK : K.lookup x = none)
    (hq : ∀ (h' : Heap) (tk : Nat) (dx t1 : Addr), (∀ b o, b ≠ x → hp.get? b = some o → h'.get? b = some o) → hp.objs.size ≤ dx → dx ≠ x → h'.get? x = some ({ cls := .ref C, dict := some dx, data := .fields #[.ref t1, .none, .none, .none, .bool false, .none] } : Obj) →
      h'.Ns1 dx (fun y => if y = ("value" : Str) then some u else none) → R (.ok (.ret .none)) ⟨h', g, d, tk, os⟩) :
    codeAny (model P w) A (.call (.ref fI) ⟨[.ref x, u], []⟩) R ⟨hp, g, d, t, os⟩ := by
  obtain ⟨⟨oc, od, osl, name, qual, params, p1, p2, p3, p4, p5, p6, p7, p8, p9, p10, j, txt, scope, dV, kV, doc, pm, ct, an, cc, cda, lk, rfl, hcd, sc, hpar, ⟨cl, cld, csl, lcc⟩, ⟨ccl, cdd, vs, ccs, file, tf, lcd, hvs, hfile⟩, ⟨cdD, hD⟩, htop, hline⟩, hbind⟩ := N
  obtain ⟨nm, q, N0, bs, bm, sn, sub, ab, col, dd, k0, k1, k2, k3, k5, hC, hbm⟩ := S.oex.cls
  have hcl : clsIn K C = some { name := nm, bases := bs, mro := .ref C :: bm, ns := N0, qualname := q, hasDict := true, slotNames := sn, subclasses := sub, abstract := ab, collection := col, hasDel := false } := by unfold clsIn; rw [hC] <;> rfl
  obtain ⟨ar, har, hars⟩ : ∃ ar, (params.posonlyargs ++ params.args).head? = some ar ∧ ar.arg = ("self" : Str) := by
    cases hh : (params.posonlyargs ++ params.args).head? with
    | none => rw [hh] at hpar; cases hpar
    | some ar => rw [hh] at hpar; exact ⟨ar, rfl, Option.some.inj hpar⟩
  refine ks_codeAny_call_defAt hroom (KI _ _ lk) rfl hlim (PySem.W.codeRec_of KI hcd) rfl (hbind _ _ _) sc.cell (fun y hy => ?_) (fun h₀ hns hk => ?_) sc.co sc.gen sc.kind
  · rcases List.mem_cons.mp hy with rfl | hy
    · exact sc.slf
    · rcases List.mem_cons.mp hy with rfl | hy
      · exact sc.val
      · cases hy
  · have KI0 : K.In h₀ := KI.keeps hk
    have hx0 := hk _ _ hx
    obtain ⟨oD, hD1, hD2⟩ : ∃ oD, h₀.get? D = some oD ∧ oD.data = .cls cdD := by
      unfold clsIn at hD
      split at hD
      · rename_i c d cd' sl ho
        cases hD
        exact ⟨_, KI0 _ _ ho, rfl⟩
      · cases hD
    have hself : (fun y => ([("self", Value.ref x), ("value", u)] : List (Str × Value)).reverse.lookup y) ("self" : Str) = some (.ref x) := by
      show List.lookup ("self" : Str) [(("value" : Str), u), (("self" : Str), Value.ref x)] = some (.ref x)
      rw [List.lookup_cons, show (("self" : Str) == ("value" : Str)) = false by decide +kernel]
      rw [List.lookup_cons, show (("self" : Str) == ("self" : Str)) = true by decide +kernel]
    have hval : (fun y => ([("self", Value.ref x), ("value", u)] : List (Str × Value)).reverse.lookup y) ("value" : Str) = some u := by
      show List.lookup ("value" : Str) [(("value" : Str), u), (("self" : Str), Value.ref x)] = some u
      rw [List.lookup_cons, show (("value" : Str) == ("value" : Str)) = true by decide +kernel]
    generalize henv : callEnv (ksFn name qual params _ scope dV kV doc pm an (Value.ref cda) ct cc) hp.objs.size fI = env
    have ek : env.scope = scope := by rw [← henv]; rfl
    have hint : interactive env = false := by unfold interactive; rw [ek, sc.kind]; rfl
    have kS : env.kindOf "super" = some .globalImplicit := by show env.scope.names.lookup _ = _; rw [ek]; exact sc.sup
    have kC : env.kindOf "__class__" = some .free := by show env.scope.names.lookup _ = _; rw [ek]; exact sc.cls
    have kF : env.kindOf "self" = some .local := by show env.scope.names.lookup _ = _; rw [ek]; exact sc.slf
    have kW : env.kindOf "value" = some .local := by show env.scope.names.lookup _ = _; rw [ek]; exact sc.val
    have kk : env.scope.kind = .function := by rw [ek]; exact sc.kind
    have eL : env.locals = hp.objs.size := by rw [← henv]; rfl
    have eG : env.globals = mainGlobals := by rw [← henv]; rfl
    have eB : env.builtins = builtinsNs := by rw [← henv]; rfl
    have hns' : h₀.Ns env.locals (fun y => ([("self", Value.ref x), ("value", u)] : List (Str × Value)).reverse.lookup y) := by rw [eL]; exact hns
    have he : eval (.Call (.Attribute (.Call (.Name "super" p1) [] [] p2) "__init__" p3) [.Constant (.str txt) j p4] [] p5) env = (do
        let ov ← attributeBase (.Call (.Name "super" p1) [] [] p2) "__init__" env (eval (.Call (.Name "super" p1) [] [] p2) env)
        standAt p3.atName
        let (f, first) ← holding [ov] (getMethod ov "__init__" (do return (← importBound (.Call (.Name "super" p1) [] [] p2) env).getD true))
        callWith p5 f first (backTo p5 (starEach [.Constant (.str txt) j p4] env)) []) := by
      show (do
        let ov ← attributeBase (.Call (.Name "super" p1) [] [] p2) "__init__" env (eval (.Call (.Name "super" p1) [] [] p2) env)
        standAt p3.atName
        methodCall (.Call (.Name "super" p1) [] [] p2) "__init__" p3 p5 env ov 1 (backTo p5 (starEach [.Constant (.str txt) j p4] env)) []) = _
      have hf : methodCallForm 1 (backTo p5 (starEach [.Constant (.str txt) j p4] env)) [] = true := rfl
      simp only [methodCall, hf, calleeOf, methodCallPos, hline, Bool.or_true, if_true, pure_bind]
    refine ks_wpAt_execs_cons (ks_wpAt_Expr_any (ks_wpAt_MethodCall ?_ he) hint rfl)
    refine ks_wpAt_super_base (fd := ksFn name qual params _ scope dV kV doc pm an (.ref cda) ct cc) kS kC rfl (by rw [← henv]; rfl) (KI0 _ _ lk) rfl har (by rw [← henv]; rfl) (KI0 _ _ lcd) rfl hvs hfile htop ?_
    refine ks_loadName_global kk kS (loadGlobal_builtin (by rw [eG]; exact hg.keeps hk) hmg (by rw [eB]; exact hb.keeps hk) hmb ⟨rfl, ?_⟩)
    refine wpAny_loadName_free kk kC (by rw [← henv]; rfl) ⟨_, KI0 _ _ lcc, rfl⟩ ?_
    rw [hars]
    refine wpAny_loadName_local kk kF hns' hself ?_
    refine ks_wpAny_isType_cls hD1 hD2 ⟨rfl, ?_⟩
    refine ks_wpAny_call_super hD1 hD2 hx0 rfl (fun c e => by cases e) (looks_mroIn KI0 S.mro) (fun h1 e1 kk1 => ?_)
    -- the bound __init__
    have KI1 : K.In h1 := KI0.keeps kk1
    have hx1 := kk1 _ _ hx0
    have I1 : InstAt h1 x (PySem.HandSPX.excO C t0) C none := ⟨hx1, rfl, rfl, trivial⟩
    have hsup := S.sup
    unfold ks_superIn at hsup
    rw [hcl, Option.bind_some] at hsup
    have hmro : Looks (model P w) h1 (mroOf (.ref C)) (Value.ref C :: bm) := fun A Q E s k q => wpAny_bind ((looks_clsIn KI1 hcl) A _ E s k (wpAny_pure q))
    refine kxs_getMethod kxs_ValueError e1 (looks_opaque KI1 S.any) hmro rfl KI1 hsup (I1.type.andThen (looks_subIn KI1 S.sub)) (ks_ne KI1 I1 hcl) rfl ?_
    -- its call
    have hmw : (h1.push (kxs_mw "ValueError.__init__" x)).get? h1.objs.size = some (kxs_mw "ValueError.__init__" x) := Heap.get?_push_at rfl rfl
    have up2 : ∀ b o, h1.get? b = some o → (h1.push (kxs_mw "ValueError.__init__" x)).get? b = some o := fun b o e => Heap.get?_push_of_some _ e
    generalize (h1.push (kxs_mw "ValueError.__init__" x)) = h2 at hmw up2
    have KI2 : K.In h2 := KI1.keeps up2
    have hx2 := up2 _ _ hx1
    refine kxs_callWith (i := "ValueError.__init__") (x := x) rfl (evalArgs_plain (PySem.Calls.spliced_cons ?_))
    refine PySem.Calls.Constant_str (k := j) (pos := p4) ?_
    refine PySem.Calls.spliced_nil ⟨hmw, ?_⟩
    refine wpAny_call (codeAny_of_tree ?_)
    show wpAny _ _ (callAny (.ref h1.objs.size) ⟨[_], []⟩) _ _ _
    simp only [callAny]
    refine wpAny_bind (wpAny_load hmw ?_)
    simp only [kxs_mw, show (Value.type "method-wrapper" == Value.type "method" || Value.type "method-wrapper" == Value.type "builtin_function_or_method" || Value.type "method-wrapper" == Value.type "method-wrapper") = true by decide, if_true]
    refine KFB.if_so (by decide) ?_
    refine wpAny_bind (check_bound_init F.excBase_ValueError.toExcCallFacts (KI2 _ _ hC) hx2 rfl ?_)
    refine wpAny_bind (wpAny_pure (wpAny_pure ?_))
    refine ⟨plainId_quiet F.excBase_ValueError.init.plain _, codeAny_builtin F.excBase_ValueError.initEntry ?_⟩
    refine exc_init_tree (cls := .ref C) (t0 := t0) (dv := none) (c2 := .none) (c3 := .none) (b4 := .bool false) hx2 (by show 1 ≤ sizeLine; rw [sizeLine_eq]; decide) fun h3 kk3 hx3 _ => ?_
    show PySem.wpAt _ _ _ (execs [.Assign [.Attribute (.Name "self" p7) "value" p8] (.Name "value" p9) p10] env) _ _ _
    have up3 : ∀ b o, b ≠ x → h₀.get? b = some o → h3.get? b = some o := fun b o hb e => kk3 b o hb (up2 b o (kk1 b o e))
    have KI3 : K.In h3 := fun b o e => up3 b o (fun z => by rw [z, hxK] at e; cases e) (KI0 b o e)
    have xL : env.locals ≠ x := by
      rw [eL]
      exact Nat.ne_of_gt (Heap.lt_size hx)
    have hns3 : h3.Ns env.locals (fun y => ([("self", Value.ref x), ("value", u)] : List (Str × Value)).reverse.lookup y) := by
      obtain ⟨oL, es, ep, hL, r⟩ := hns'
      exact ⟨oL, es, ep, up3 _ _ xL hL, r⟩
    refine ks_wpAt_execs_cons (ks_wpAt_Assign_Attr ?_ rfl)
    refine wpAt_of_wpAny (wpAny_Name (wpAny_loadName_local kk kW hns3 hval ?_) rfl)
    refine wpAny_Name (wpAny_loadName_local kk kF hns3 hself ?_) rfl
    have I3 : InstAt h3 x ({ cls := .ref C, dict := none, data := .fields #[.ref h2.objs.size, .none, .none, .none, .bool false, .none] } : Obj) C none := ⟨hx3, rfl, rfl, trivial⟩
    refine PySem.W.set_plain KI3 I3 S.oex.sa ?_
    refine PySem.HandSPX.exc_osa KI3 hx3 hcl (show PySem.HandSPX.refsVE (.ref C :: bm) = true from hbm) rfl S.noval (fun h' tk' dx k dn dne hx' hn => ?_)
    refine wpAt_of_wpAny (wpAny_execs_nil ?_)
    have hle : hp.objs.size ≤ h3.objs.size := by
      have q1 : env.locals < h3.objs.size := hns3.lt
      rw [eL] at q1
      exact Nat.le_of_lt q1
    exact hq h' tk' dx h2.objs.size (fun b o hb e => k b o hb (up3 b o hb (hk b o e))) (Nat.le_trans hle dn) dne hx' hn
end
end NX

/-! NX, part b: C(e) makes such an exception. -/
namespace NX
open PySem PySem.Spec PySem.W PySem.Calls PyProof.Rows L2
/-- C(e): the exception keeps the value in its dict -/
def tMkS (C : Addr) (te : TE) : L2.St → Hp → XK → Prop := fun σ H Q => te σ H fun v H1 => ∃ w, [v] = [w] ∧ ∀ d, H1 d = none → Q (.ref C) (some d) (upd H1 d (.xd [("value", w)]))
theorem pmk_stay {X : Cx} {x : Str} {C D fI : Addr} {fd : FuncData} {e : Expr} {te : TE} {p pos : Pos} (S : StayC X.prog X.K C D fI) (N : IniK X.prog X.K D fI fd) (hr : Room 0 X.A) (hg : Gl X x) (hm : X.mg x = some (.ref C)) (hsup : X.mg "super" = none)
    (he : PE X e te) (hst : starEach [e] X.env = (false, eval e X.env) :: starEach [] X.env) (hdb : (x == ("__debug__" : Str)) = false) : PMk X (.Call (.Name x p) [e] [] pos) (tMkS C te) := by
  intro pins s σ H Q I h
  obtain ⟨nm, q, N0, bs, bm, sn, sub, ab, col, dd, k0, k1, k2, k3, k5, hC, hbm⟩ := S.oex.cls
  refine wpAny_Call_Name_kw (ld_glob I hg hm ?_ hdb)
  have ha := pa_cons (es := []) he pa_nil hst
  refine PySem.W.callWith_K (h₀ := X.base) I.ok.mod.kin S.oex.kC (thn (ha.run pos pins s σ H (fun vs H1 => ∃ v, vs = [v] ∧ ∀ d, H1 d = none → Q (.ref C) (some d) (upd H1 d (.xd [("value", v)]))) I ?_) fun us s1 ⟨vs, H1, I1, r1, v, ev, q1⟩ => ⟨I1.kIn, ?_⟩) hst rfl
  rotate_left
  · subst ev
    cases r1 with
    | @cons _ u _ ur ru rr =>
      cases rr
      show wpAny _ _ (call (.ref C) [u]) _ _ _
      obtain ⟨hp, g, dr, tk, os⟩ := s1
      have hsz : hp.objs.size ≤ hp.objs.size + 1 := Nat.le_succ _
      have kk : ∀ b o, hp.get? b = some o → ((hp.push (PySem.W.kdv_tup [u])).push (PySem.HandSPX.excO C hp.objs.size)).get? b = some o := fun b o e => Heap.get?_push_of_some _ (Heap.get?_push_of_some _ e)
      have hget : ((hp.push (PySem.W.kdv_tup [u])).push (PySem.HandSPX.excO C hp.objs.size)).get? (hp.objs.size + 1) = some (PySem.HandSPX.excO C hp.objs.size) := by heap_get
      have hsz2 : ((hp.push (PySem.W.kdv_tup [u])).push (PySem.HandSPX.excO C hp.objs.size)).objs.size = hp.objs.size + 2 := by simp [Heap.push]
      have hxK : X.K.lookup (hp.objs.size + 1) = none := by
        cases z : X.K.lookup (hp.objs.size + 1) with
        | none => rfl
        | some o => exact absurd (Heap.lt_size (I1.kIn _ _ z)) (by simp)
      obtain ⟨mb, hmb1, hmb2⟩ := I1.ok.mod.blt
      have up : ∀ b o, X.base.get? b = some o → ((hp.push (PySem.W.kdv_tup [u])).push (PySem.HandSPX.excO C hp.objs.size)).get? b = some o := fun b o e => kk b o (I1.bk b o e)
      refine wpAny_call (PySem.HandSPX.call_own F.excBase_ValueError (fun Y => PySem.HandSPX.refsVE_contains Y bm hbm) (I1.kIn _ _ hC) (PySem.W.looks_findIn I1.kIn S.ini) (fun self => PySem.W.bind_fn I1.kIn self S.fty) (by rw [sizeLine_eq]; show 1 ≤ _; decide) ?_)
      refine stay_init (mb := mb) (I1.ok.mod.kin.keeps up) (I1.ok.mod.nolimit.keeps up) (by have := hr.dp; rw [make_depth]; omega) S N (I1.ok.mod.glob.keeps up) hsup (hmb1.keeps up) (by rw [hmb2 _ (by decide)]; decide +kernel) hget hxK fun h' tk' dx t1 k hle hne hx' hn => ?_
      refine ⟨rfl, ?_⟩
      obtain ⟨G, g1', g2'⟩ := restrict h' fun b => decide (b ≠ hp.objs.size + 1)
      have gk : ∀ b, b ≠ hp.objs.size + 1 → G.get? b = h'.get? b := fun b hb => g1' b (decide_eq_true hb)
      have ge : G.get? (hp.objs.size + 1) = none := g2' _ (by simp)
      have nha : ∀ {b : Addr} {o : Obj}, hp.get? b = some o → b ≠ hp.objs.size + 1 := fun {b o} z => Nat.ne_of_lt (Nat.lt_of_lt_of_le (Heap.lt_size z) hsz)
      have kG : ∀ b o, hp.get? b = some o → G.get? b = some o := fun b o z => by rw [gk b (nha z)]; exact k b o (nha z) (kk b o z)
      have hdx : hp.objs.size ≤ dx := by omega
      have hnd : H1 dx = none := I1.hok.fresh hdx
      have J : Inv X pins σ (upd H1 dx (.xd [("value", v)])) ⟨G, g, dr, tk', os⟩ := I1.laid (t' := tk') (a := dx) (o := .xd [("value", v)]) (h' := G) kG hdx ⟨_, hn.at fun o y => (gk dx hne).trans y, fun f => by
        show RelO (List.lookup f [(("value" : Str), v)]) (if f = ("value" : Str) then some u else none)
        rw [List.lookup_cons]
        by_cases hf : f = ("value" : Str)
        · subst hf
          rw [if_pos rfl, show (("value" : Str) == ("value" : Str)) = true by decide +kernel]
          exact ru
        · rw [if_neg hf, show (f == ("value" : Str)) = false by simpa using hf]
          trivial⟩
      refine ⟨hp.objs.size + 1, _, _, ⟨G, g, dr, tk', os⟩, _, .ref C, some dx, rfl, J, fun b o z => ?_, ge, hx', ⟨rfl, rfl⟩, rfl, rfl, ?_, rfl, I1.bare, raises_own S.oex.exC S.oex.tyC, q1 dx hnd⟩
      · by_cases hb : b = hp.objs.size + 1
        · rw [hb, ge] at z
          cases z
        · exact (gk b hb).symm.trans z
      · rw [upd_ne (Ne.symm hne)]
        exact I1.hok.fresh hsz
  · exact h
end NX

/-! NX, part c: several except clauses, each with its name. -/
namespace NX
open PySem L2 PySem.Spec PyProof.Rows
/-- one clause: its class, its name's slot, the suite's reading -/
abbrev Hd1 : Type := Value × Option Nat × (Addr → Value → Option Addr → TS)
/-- the ends within a clause whose name is in slot i -/
def endsA (i : Nat) (D : Ends) : Ends := { nx := fun τ G => D.nx (τ.set i none) G, rt := D.rt, bk := fun τ G => D.bk (τ.set i none) G, ct := fun τ G => D.ct (τ.set i none) G }
def wManyA (K : PySem.W.Frag) (Wout : WX) (D : Ends) : List Hd1 → WX
  | [] => Wout
  | (c, nm, ts) :: rest => fun cls d σ H => ∃ b, PySem.W.exmOne K cls c = some b ∧ (b = true → ∀ a, H a = none → match nm with
      | none => ts a cls d D σ H
      | some i => ts a cls d (endsA i D) (σ.set i (some (.ref a))) H) ∧ (b = false → wManyA K Wout D rest cls d σ H)
/-- a suite's promise, for whatever is caught -/
def Suite (X : Cx) (ss : List Stmt) (ts : Addr → Value → Option Addr → TS) : Prop := ∀ (a : Addr) (ob : Obj) (cls : Value) (d : Option Addr) (more : List (Addr × Obj)), Zc cls d ob → (∃ vs, ob.data = .fields vs) → PSs (X.suite a ((a, ob) :: more)) ss (ts a cls d)
inductive HdsA (X : Cx) : List ExceptHandler → List Hd1 → Prop
  | nil : HdsA X [] []
  | cons {x : Str} {c : Value} {ts : Addr → Value → Option Addr → TS} {s0 : Stmt} {ss : List Stmt} {q1 q2 : Pos} {es : List ExceptHandler} {l : List Hd1} (hc : Names X x c) (hsu : Suite X (s0 :: ss) ts) (r : HdsA X es l) :
      HdsA X (.ExceptHandler (some (.Name x q1)) none (s0 :: ss) q2 :: es) ((c, none, ts) :: l)
  | as {x n : Str} {i : Nat} {c : Value} {ts : Addr → Value → Option Addr → TS} {s0 : Stmt} {ss : List Stmt} {q1 q2 : Pos} {es : List ExceptHandler} {l : List Hd1} (hc : Names X x c) (hi : X.N[i]? = some n) (hln : X.env.kindOf n = some .local) (hsu : Suite X (s0 :: ss) ts) (r : HdsA X es l) :
      HdsA X (.ExceptHandler (some (.Name x q1)) (some n) (s0 :: ss) q2 :: es) ((c, some i, ts) :: l)
/-- a def's body runs here: its own frame is on top -/
structure Top1 (X : Cx) : Prop where
  stk : X.stack = X.env :: X.outer
  frm : X.env.frame = some X.env.locals
/-- the exception at a has landed in this frame; base and g: the ground and the state where it was raised -/
structure Land (X : Cx) (pins : List (Addr × Obj)) (a : Addr) (cls : Value) (d : Option Addr) (σ : L2.St) (H : Hp) (base : Heap) (g s : Shared) : Prop where
  inv : Inv X pins σ H g
  grd : ∀ b ob, g.heap.get? b = some ob → b ∉ frs X.stack → base.get? b = some ob
  ups : g.heap.UpToSlots s.heap
  fly : HandSPX.FlyingZ base (X.env :: X.outer) a (Zc cls d) s.heap
  new : H a = none
  osq : s.os = g.os
  brq : AllBare s.gens
section
variable {X : Cx} {pins : List (Addr × Obj)} {a : Addr} {cls : Value} {d : Option Addr} {σ : L2.St} {H : Hp} {base : Heap} {g s : Shared}
theorem Land.here (L : Land X pins a cls d σ H base g s) : Inv X pins σ H s := L.inv.landed L.grd L.fly.1 L.ups L.osq L.brq
theorem Land.moved (L : Land X pins a cls d σ H base g s) {h' : Heap} (fl : HandSPX.FlyingZ base (X.env :: X.outer) a (Zc cls d) h') (u : s.heap.UpToSlots h') : Land X pins a cls d σ H base g { s with heap := h' } :=
  ⟨L.inv, L.grd, L.ups.trans u, fl, L.new, L.osq, L.brq⟩
/-- the state of a suite -/
theorem Land.suite (T : Top1 X) (L : Land X pins a cls d σ H base g s) : ∃ ob, Zc cls d ob ∧ (∃ vs, ob.data = .fields vs) ∧ s.heap.get? a = some ob ∧ Inv (X.suite a ((a, ob) :: (X.pn ++ pins))) [] σ H s := by
  obtain ⟨ob, vs, at_a, zc, dat⟩ := L.fly.there
  have off : a ∉ frs (X.env :: X.outer) := fun m => by
    obtain ⟨_, ob2, e2, nof⟩ := L.fly.2.2.1.mem m
    rw [at_a] at e2
    cases e2
    exact nof _ dat
  have off1 : a ≠ X.env.locals := fun z => off (List.mem_filterMap.mpr ⟨X.env, by simp, by rw [T.frm, z]⟩)
  have off2 : a ∉ X.fs := fun m => by
    obtain ⟨ev, hev, hq⟩ := List.mem_filterMap.mp m
    exact off (List.mem_filterMap.mpr ⟨ev, by simp [hev], hq⟩)
  exact ⟨ob, zc, ⟨vs, dat⟩, at_a, L.here.suite at_a dat L.new off1 off2⟩
/-- the clause's test: its class, then whether the landed one is of it -/
theorem Land.test (T : Top1 X) (L : Land X pins a cls d σ H base g s) {x : Str} {c : Value} {np : Pos} {b : Bool} {R : Bool → Shared → Prop} {E E' : Value → Shared → Prop} (hc : Names X x c) (hb : PySem.W.exmOne X.K cls c = some b) (q : R b s) :
    wpAny (model X.prog X.w) (X.A.mark (some (.ref a))) (eval (.Name x np) X.env) (fun v s1 => wpAny (model X.prog X.w) (X.A.mark (some (.ref a))) (excMatches (.ref a) v) R E s1) E' s := by
  obtain ⟨ob, zc, _, at_a, S⟩ := L.suite T
  have kind : PySem.W.Looks (model X.prog X.w) s.heap (typeOf (.ref a)) cls := fun A Q E s1 k z => wpAny_typeOf_ref (k _ _ at_a) (by rw [zc.1]; exact z)
  have fits := (PySem.W.exm_one (M := model X.prog X.w) L.here.kIn kind hb)
  obtain ⟨gl1, dbg, m1 | ⟨m1, bt, nn⟩⟩ := hc
  · exact ld_glob (X := X.suite a ((a, ob) :: (X.pn ++ pins))) S gl1 m1 (fits.here q) dbg
  · exact ld_blt (X := X.suite a ((a, ob) :: (X.pn ++ pins))) S gl1 m1 bt (fits.here q) nn dbg
/-- back from a suite -/
theorem back {D : Ends} {ob : Obj} {fl : Flow} (ok : X.Ok) (h : SP (X.suite a ((a, ob) :: (X.pn ++ pins))) [] D fl s) : SP X pins D fl s := by
  cases fl with
  | ret u => obtain ⟨v, τ, G, J, rv, q⟩ := h; exact ⟨v, τ, G, J.unsuite ok, rv, q⟩
  | next => obtain ⟨τ, G, J, q⟩ := h; exact ⟨τ, G, J.unsuite ok, q⟩
  | brk => obtain ⟨τ, G, J, q⟩ := h; exact ⟨τ, G, J.unsuite ok, q⟩
  | cont => obtain ⟨τ, G, J, q⟩ := h; exact ⟨τ, G, J.unsuite ok, q⟩
/-- the same, the clause's name taken away -/
theorem backA {D : Ends} {ob : Obj} {fl : Flow} {i : Nat} {n : Str} {p : Pos} (ok : X.Ok) (hN : X.N.Nodup) (hi : X.N[i]? = some n) (hln : X.env.kindOf n = some .local) (h : SP (X.suite a ((a, ob) :: (X.pn ++ pins))) [] (endsA i D) fl s) :
    wpAny (model X.prog X.w) X.A (do bindName X.env n .none; unbindBehindTheSuite X.env n p) (fun _ s7 => SP X pins D fl s7) X.xe s := by
  cases fl with
  | ret u => obtain ⟨v, τ, G, J, rv, q⟩ := h; exact gone_ok (J.unsuite ok) hN hi hln fun s7 J7 => ⟨v, _, G, J7, rv, q⟩
  | next => obtain ⟨τ, G, J, q⟩ := h; exact gone_ok (J.unsuite ok) hN hi hln fun s7 J7 => ⟨_, G, J7, q⟩
  | brk => obtain ⟨τ, G, J, q⟩ := h; exact gone_ok (J.unsuite ok) hN hi hln fun s7 J7 => ⟨_, G, J7, q⟩
  | cont => obtain ⟨τ, G, J, q⟩ := h; exact gone_ok (J.unsuite ok) hN hi hln fun s7 J7 => ⟨_, G, J7, q⟩
/-- no clause took it: it flies on -/
theorem Land.on {Wout : WX} {D : Ends} (T : Top1 X) (tk : Takes X Wout) (L : Land X pins a cls d σ H base g s) (w : Wout cls d σ H) : wpAny (model X.prog X.w) X.A (handleBy (.ref a) X.env []) (SP X pins D) X.xe s := by
  refine wpAny_handleBy_nil ?_
  obtain ⟨_, _, _, ob, vs, tb, _, _, at_a, _, dat, f1, _⟩ := id L.fly
  unfold PySem.passOn
  refine wpAny_bind (wpAny_field at_a dat f1 ?_)
  rw [if_neg (by simp)]
  have last : wpAny (model X.prog X.w) X.A (setFlight (.ref a) X.env.frame) (fun _ s4 => wpAny (model X.prog X.w) X.A (throw (.ref a) : Sem Flow) (SP X pins D) X.xe s4) X.xe s := by
    rw [T.frm]
    exact HandSPX.setFlight_upZ L.fly fun h4 held up4 => wpAny_throw (tk _ _ ⟨a, base, g, pins, σ, H, cls, d, rfl, L.inv, L.grd, L.ups.trans up4, .inr (.inr (by rw [T.stk]; exact held)), L.new, L.osq, L.brq, w⟩)
  first | exact wpAny_bind last | exact wpAny_bind (wpAny_pure (wpAny_bind last))
/-- the clauses, one after the other -/
theorem Land.clauses {Wout : WX} {D : Ends} (T : Top1 X) (hN : X.N.Nodup) (tk : Takes X Wout) (L : Land X pins a cls d σ H base g s) : ∀ {es : List ExceptHandler} {l : List Hd1}, HdsA X es l → wManyA X.K Wout D l cls d σ H → wpAny (model X.prog X.w) X.A (handleBy (.ref a) X.env es) (SP X pins D) X.xe s
  | _, _, .nil, w => L.on T tk w
  | _, _, .cons hc hsu r, w => by
    obtain ⟨b, hb, yes, no⟩ := w
    refine wpAny_handleBy_cons (codeAny_handlers_test (L.test T hc hb ?_)) (fun z => by cases z)
    cases b with
    | false => exact L.clauses T hN tk r (no rfl)
    | true =>
      refine codeAny_handlers_suite (HandSPX.lands_againZ L.fly fun h4 fl4 up4 => ?_)
      obtain ⟨ob, zc, dat, _, S⟩ := (L.moved fl4 up4).suite T
      exact wpAny_mono ((hsu a ob cls d (X.pn ++ pins) zc dat).run [] _ _ H _ S (yes rfl a L.new)) (fun fl s6 hsp => back L.inv.ok hsp) (fun _ _ z => z.elim)
  | _, _, .as hc hi hln hsu r, w => by
    obtain ⟨b, hb, yes, no⟩ := w
    refine wpAny_handleBy_cons (codeAny_handlers_test (L.test T hc hb ?_)) (fun z => by cases z)
    cases b with
    | false => exact L.clauses T hN tk r (no rfl)
    | true =>
      refine codeAny_handlers_suite_as (HandSPX.lands_againZ L.fly fun h4 fl4 up4 => ?_)
      obtain ⟨ob, zc, dat, _, S⟩ := (L.moved fl4 up4).suite T
      refine store_ok (X := X.suite a ((a, ob) :: (X.pn ++ pins))) (v := .ref a) S hN hi (.inl hln) rfl (fun s5 S5 => ?_) (.inr hln)
      exact wpAny_mono ((hsu a ob cls d (X.pn ++ pins) zc dat).run [] s5 _ H _ S5 (yes rfl a L.new)) (fun fl s6 hsp => backA L.inv.ok hN hi hln hsp) (fun _ _ z => z.elim)
end
/-- try: body, except clauses -/
theorem ps_try_manyA {X : Cx} {body : List Stmt} {e0 : ExceptHandler} {es : List ExceptHandler} {l : List Hd1} {pos : Pos} {tb : WX → TS} {Wout : WX} (T : Top1 X) (hN : X.N.Nodup) (tk : Takes X Wout)
    (hb : ∀ (W : WX) (more : List (Addr × Obj)) (xe : Value → Shared → Prop), Takes (X.tr more xe) W → PassesOwn (model X.prog X.w) X.A X.env xe → PSs (X.tr more xe) body (tb W))
    (hh : HdsA X (e0 :: es) l) : PS X (.Try body (e0 :: es) [] [] pos) (fun D σ H => tb (wManyA X.K Wout D l) D σ H) := ⟨fun pins s σ H D I h => by
  have frs0 : X.A.frames = some (X.env :: X.outer) := by rw [I.ok.frames, T.stk]
  refine wpAny_Try_except (wpAny_mono ((hb (wManyA X.K Wout D l) (X.pn ++ pins) _ ?tk PassesOwn.looking).run [] s σ H D (I.toTry _) h) (fun fl s1 q => ?fin) (fun _ _ q => q))
  case tk =>
    rintro u s1 ⟨a, base, g, pins1, τ, G, cls, d, rfl, J, grd, ups, sky, na, osq, brq, w⟩
    have sky1 : Sky base (X.env :: X.outer) a (Zc cls d) X.env.locals s1.heap := T.stk ▸ sky
    refine Sky.land Zc.steady frs0 T.frm sky1 fun h3 fly up3 => ?_
    exact Land.clauses (s := { s1 with heap := h3 }) T hN tk ⟨J.ofTry I.ok, grd, ups.trans up3, fly, na, osq, brq⟩ hh w
  case fin =>
    cases fl with
    | ret u => obtain ⟨v, τ, G, J, rv, q⟩ := q; exact ⟨v, τ, G, J.ofTry I.ok, rv, q⟩
    | next => obtain ⟨τ, G, J, q⟩ := q; exact wpAny_execs_nil ⟨τ, G, J.ofTry I.ok, q⟩
    | brk => obtain ⟨τ, G, J, q⟩ := q; exact ⟨τ, G, J.ofTry I.ok, q⟩
    | cont => obtain ⟨τ, G, J, q⟩ := q; exact ⟨τ, G, J.ofTry I.ok, q⟩⟩
end NX

/-! NX, part d: defs that call what they got and tell what was raised. -/
namespace NX
open PySem L2 LamX PySem.Spec PyProof.Rows
/-- the class of an exception whose value can be read -/
structure Rdx (K : PySem.W.Frag) (cls : Value) (C : Addr) : Prop where
  eq : cls = .ref C
  xf : XfC K C
  no : PySem.W.findIn K (.ref C) "value" = some none
/-- what the clauses wish: a new list of the tag and the value -/
def hw (K : PySem.W.Frag) (Q : VK) : List (Value × Str) → XK
  | [] => fun _ _ _ => False
  | (c, tag) :: hs => fun cls d H => ∃ b, PySem.W.exmOne K cls c = some b ∧ (b = true → ∃ C dd v, Rdx K cls C ∧ d = some dd ∧ H dd = some (.xd [("value", v)]) ∧ ∀ p, H p = none → Q (.ref p) (upd H p (.lst [.str tag, v]))) ∧ (b = false → hw K Q hs cls d H)
theorem look1 {v : V} : List.lookup ("value" : Str) [(("value" : Str), v)] = some v := by
  rw [List.lookup_cons, show (("value" : Str) == ("value" : Str)) = true by decide +kernel]
/-- [tag, n.value] in an except clause -/
def tTag (K : PySem.W.Frag) (a : Addr) (cls : Value) (d : Option Addr) (i : Nat) (tag : Str) : TE := fun σ H Q => σ[i]? = some (some (.ref a)) ∧ ∃ C dd v, Rdx K cls C ∧ d = some dd ∧ H dd = some (.xd [("value", v)]) ∧ ∀ p, H p = none → Q (.ref p) (upd H p (.lst [.str tag, v]))
theorem pe_tag {X : Cx} {a : Addr} {oe : Obj} {cls : Value} {d : Option Addr} {pn : List (Addr × Obj)} {n tag : Str} {i j : Nat} {p1 p2 p3 p4 : Pos} (hz : Zc cls d oe) (hf : ∃ vs, oe.data = .fields vs) (hi : X.N[i]? = some n) (hv : Vis X.env.scope n)
    (hdb : (n == ("__debug__" : Str)) = false) (hcd : (n == ("__classdict__" : Str)) = false) :
    PE (X.suite a ((a, oe) :: pn)) (.List [.Constant (.str tag) j p1, .Attribute (.Name n p2) "value" p3] p4) (tTag X.K a cls d i tag) := by
  refine ⟨fun pins s σ H Q I h => ?_⟩
  obtain ⟨h0, C, dd, v, R, hd, hH, q⟩ := h
  have pv : PE (X.suite a ((a, oe) :: pn)) (.Name n p2) _ := pe_var (pos := p2) (i := i) hi hv hdb hcd
  have pe := pe_lst (pos := p4) (pa_cons (pe_str (X := X.suite a ((a, oe) :: pn)) (x := tag) (j := j) (pos := p1)) (pa_cons (pe_xf (pos := p3) (n := ("value" : Str)) R.xf R.no hz hf pv rfl) pa_nil rfl) rfl)
  refine pe.run pins s σ H Q I ?_
  refine ⟨.ref a, h0, rfl, R.eq, dd, _, v, hd, hH, look1, ?_⟩
  exact ⟨by show 2 ≤ sizeLine; rw [sizeLine_eq]; decide, fun p hp => q p hp⟩
/-! ### the clauses as they are written -/
/-- except c as n: return [tag, n.value] -/
inductive Ret1 (X : Cx) : List ExceptHandler → List (Value × Str) → Prop
  | nil : Ret1 X [] []
  | cons {x n tag : Str} {i j : Nat} {c : Value} {p1 p2 p3 p4 p5 p6 p7 : Pos} {hds : List ExceptHandler} {l : List (Value × Str)} (hc : Names X x c) (hi : X.N[i]? = some n) (hln : X.env.kindOf n = some .local) (hdb : (n == ("__debug__" : Str)) = false)
      (hcd : (n == ("__classdict__" : Str)) = false) (r : Ret1 X hds l) :
      Ret1 X (.ExceptHandler (some (.Name x p1)) (some n) [.Return (some (.List [.Constant (.str tag) j p2, .Attribute (.Name n p3) "value" p4] p5)) p6] p7 :: hds) ((c, tag) :: l)
/-- except c as n: y = [tag, n.value], y in slot m -/
inductive Set1 (X : Cx) (y : Str) (m : Nat) : List ExceptHandler → List (Value × Str) → Prop
  | nil : Set1 X y m [] []
  | cons {x n tag : Str} {i j : Nat} {c : Value} {p1 p2 p3 p4 p5 p6 p7 p8 : Pos} {hds : List ExceptHandler} {l : List (Value × Str)} (hc : Names X x c) (hi : X.N[i]? = some n) (hln : X.env.kindOf n = some .local) (hne : i ≠ m) (hdb : (n == ("__debug__" : Str)) = false)
      (hcd : (n == ("__classdict__" : Str)) = false) (r : Set1 X y m hds l) :
      Set1 X y m (.ExceptHandler (some (.Name x p1)) (some n) [.Assign [.Name y p2] (.List [.Constant (.str tag) j p3, .Attribute (.Name n p4) "value" p5] p6) p7] p8 :: hds) ((c, tag) :: l)
theorem slot_set {σ : L2.St} {i : Nat} {v : V} (h : i < σ.length) : (σ.set i (some v))[i]? = some (some v) := List.getElem?_set_self h
section
variable {X : Cx}
theorem ret1_ok : ∀ {hds : List ExceptHandler} {l : List (Value × Str)}, Ret1 X hds l → ∃ l', HdsA X hds l' ∧ ∀ (Q : VK) (D : Ends), D.rt = Q → ∀ cls d H, hw X.K Q l cls d H → ∀ σ, σ.length = X.N.length → wManyA X.K (fun _ _ _ _ => False) D l' cls d σ H
  | _, _, .nil => ⟨[], .nil, fun _ _ _ _ _ _ h => h.elim⟩
  | _, _, .cons (i := i) (tag := tag) (c := c) hc hi hln hdb hcd r => by
    obtain ⟨l', h1, h2⟩ := ret1_ok r
    refine ⟨(c, some i, fun a cls d => tRet (tTag X.K a cls d i tag)) :: l', .as hc hi hln (fun a oe cls d pn hz hf => pss_one (ps_ret (pe_tag hz hf hi (.inl hln) hdb hcd))) h1, fun Q D hD cls d H h σ hσ => ?_⟩
    obtain ⟨b, e, hy, hn⟩ := h
    refine ⟨b, e, fun hb a ha => ?_, fun hb => h2 Q D hD cls d H (hn hb) σ hσ⟩
    obtain ⟨C, dd, v, R, hd, hH, q⟩ := hy hb
    have hlt : i < σ.length := by rw [hσ]; exact (List.getElem?_eq_some_iff.mp hi).1
    refine ⟨slot_set hlt, C, dd, v, R, hd, hH, fun p hp => ?_⟩
    show D.rt _ _
    rw [hD]
    exact q p hp
theorem set1_ok {y : Str} {m : Nat} (hN : X.N.Nodup) (hm : X.N[m]? = some y) (hly : X.env.kindOf y = some .local) : ∀ {hds : List ExceptHandler} {l : List (Value × Str)}, Set1 X y m hds l → ∃ l', HdsA X hds l' ∧
    ∀ (Q : VK) (D : Ends), (∀ (σ : L2.St) (v : V) (H : Hp), σ[m]? = some (some v) → Q v H → D.nx σ H) → ∀ cls d H, hw X.K Q l cls d H → ∀ σ, σ.length = X.N.length → wManyA X.K (fun _ _ _ _ => False) D l' cls d σ H
  | _, _, .nil => ⟨[], .nil, fun _ _ _ _ _ _ h => h.elim⟩
  | _, _, .cons (i := i) (tag := tag) (c := c) hc hi hln hne hdb hcd r => by
    obtain ⟨l', h1, h2⟩ := set1_ok hN hm hly r
    refine ⟨(c, some i, fun a cls d => tAsg (tTag X.K a cls d i tag) (gName m)) :: l', .as hc hi hln (fun a oe cls d pn hz hf => pss_one (ps_set (X := X.suite a ((a, oe) :: pn)) hN hm (.inl hly) (pe_tag hz hf hi (.inl hln) hdb hcd) rfl (.inr hly))) h1, fun Q D hD cls d H h σ hσ => ?_⟩
    obtain ⟨b, e, hy, hn⟩ := h
    refine ⟨b, e, fun hb a ha => ?_, fun hb => h2 Q D hD cls d H (hn hb) σ hσ⟩
    obtain ⟨C, dd, v, R, hd, hH, q⟩ := hy hb
    have hlt : i < σ.length := by rw [hσ]; exact (List.getElem?_eq_some_iff.mp hi).1
    have hltm : m < σ.length := by rw [hσ]; exact (List.getElem?_eq_some_iff.mp hm).1
    refine ⟨slot_set hlt, C, dd, v, R, hd, hH, fun p hp => ?_⟩
    show D.nx _ _
    refine hD _ (.ref p) _ ?_ (q p hp)
    rw [List.getElem?_set_ne hne, List.getElem?_set_self (by rw [List.length_set]; exact hltm)]
theorem takes_len {W : WX} (tk : Takes X W) : Takes X (fun cls d σ H => σ.length = X.N.length → W cls d σ H) := fun u s' h => by
  obtain ⟨a, B, sI, pins, σ, H, cls, d, e, I, nb, up, sky, na, os, ag, w⟩ := h
  exact tk u s' ⟨a, B, sI, pins, σ, H, cls, d, e, I, nb, up, sky, na, os, ag, w I.len⟩
/-- try: return [told, a()] / except ..: return [tag, n.value] -/
def TT1 (K : PySem.W.Frag) (told : Str) (l : List (Value × Str)) : (XK → Hp → VK → Prop) → Hp → VK → Prop := fun tl H Q => tl (hw K Q l) H fun v H1 => ([V.str told, v] : List V).length ≤ sizeLine ∧ ∀ p, H1 p = none → Q (.ref p) (upd H1 p (.lst [.str told, v]))
abbrev catX (X : Cx) (Ng : List Str) (x : Str) (sg : Scope) (g : Addr) (cdg : Value) (s : Shared) (H : Hp) : Cx := (cxOf C8.CX0 X.prog X.w X.K X.mg X.base Ng x sg g cdg X.A X.stack s H C8.E0).nox
theorem cat1_gives {Ng : List Str} {x a q told : Str} {sg : Scope} {g : Addr} {cdg : Value} {j : Nat} {p1 p2 p3 p4 p5 p6 : Pos} {h₀ : ExceptHandler} {hds : List ExceptHandler} {l : List (Value × Str)} (hN : Ng.Nodup)
    (hH : ∀ s H, Ret1 (catX X Ng x sg g cdg s H) (h₀ :: hds) l) (h0 : ∀ f : Addr, (L2.start Ng [V.ref f])[0]? = some (some (V.ref f))) :
    GivesTo X Ng x sg g cdg [.Try [.Return (some (.List [.Constant (.str told) j p1, .Call (.Name a p2) [] [] p3] p4)) p5] (h₀ :: hds) [] [] p6] a q (TT1 X.K told l) := by
  intro f c' s H Q tl act hc h
  obtain ⟨l', k1, k2⟩ := ret1_ok (hH s H)
  refine ⟨_, pss_one (ps_try_manyA (X := catX X Ng x sg g cdg s H) (Wout := fun _ _ _ _ => False) (l := l')
    (tb := fun W D σ H => ∃ Ech : XK, (∀ cls d σ' H', Ech cls d H' → σ'.length = Ng.length → W cls d σ' H') ∧ σ[0]? = some (some (.ref f)) ∧ H c' = some (CodeO c' q) ∧ tl Ech H fun v H1 => ([V.str told, v] : List V).length ≤ sizeLine ∧ ∀ p, H1 p = none → D.rt (.ref p) (upd H1 p (.lst [.str told, v])))
    ⟨rfl, rfl⟩ hN LamX.takes0 (fun W pn xe tk _ => ?_) k1), ?_⟩
  · refine ⟨fun pin1 s2 τ G D I ⟨Ech, hW, h1, h2, h3⟩ => ?_⟩
    have hp := act (fun cls d σ H => σ.length = Ng.length → W cls d σ H) pn xe Ech p2 p3 (takes_len tk) hW
    have hq := pss_one (ps_ret (pos := p5) (pe_lst (pos := p4) (pa_cons (pe_str (x := told) (j := j) (pos := p1)) (pa_cons hp pa_nil rfl) rfl)))
    exact hq.run pin1 s2 τ G D I ⟨h1, h2, h3⟩
  · exact ⟨hw X.K Q l, fun cls d σ' H' hh hl => k2 Q _ rfl cls d H' hh σ' hl, h0 f, hc, h⟩
/-- y = [] / try: a() / except ..: y = [tag, n.value] / return y -/
def TT0 (K : PySem.W.Frag) (l : List (Value × Str)) : (XK → Hp → VK → Prop) → Hp → VK → Prop := fun tl H Q => ([] : List V).length ≤ sizeLine ∧ ∀ p0, H p0 = none → tl (hw K Q l) (upd H p0 (.lst [])) fun _ H1 => Q (.ref p0) H1
theorem cat0_gives {Ng : List Str} {x a q y : Str} {sg : Scope} {g : Addr} {cdg : Value} {m : Nat} {p1 p2 p3 p4 p5 p6 p7 p8 p9 : Pos} {h₀ : ExceptHandler} {hds : List ExceptHandler} {l : List (Value × Str)} (hN : Ng.Nodup) (hm : Ng[m]? = some y) (hm0 : m ≠ 0) (hly : sg.names.lookup y = some .local)
    (hyd : (y == ("__debug__" : Str)) = false) (hyc : (y == ("__classdict__" : Str)) = false)
    (hH : ∀ s H, Set1 (catX X Ng x sg g cdg s H) y m (h₀ :: hds) l) (h0 : ∀ f : Addr, (L2.start Ng [V.ref f])[0]? = some (some (V.ref f))) (hlen : ∀ f : Addr, (L2.start Ng [V.ref f]).length = Ng.length) :
    GivesTo X Ng x sg g cdg [.Assign [.Name y p1] (.List [] p2) p3, .Try [.Expr (.Call (.Name a p4) [] [] p5) p6] (h₀ :: hds) [] [] p7, .Return (some (.Name y p8)) p9] a q (TT0 X.K l) := by
  intro f c' s H Q tl act hc h
  obtain ⟨l', k1, k2⟩ := set1_ok (X := catX X Ng x sg g cdg s H) hN hm hly (hH s H)
  have hset : PS (catX X Ng x sg g cdg s H) (.Assign [.Name y p1] (.List [] p2) p3) _ := ps_set (X := catX X Ng x sg g cdg s H) (pos := p3) hN hm (.inl hly) (pe_lst (pos := p2) pa_nil) rfl (.inr hly)
  have hret : PE (catX X Ng x sg g cdg s H) (.Name y p8) _ := pe_var (pos := p8) (i := m) hm (.inl hly) hyd hyc
  refine ⟨_, pss_cons hset (pss_cons (ps_try_manyA (X := catX X Ng x sg g cdg s H) (Wout := fun _ _ _ _ => False) (l := l')
    (tb := fun W D σ H => ∃ Ech : XK, (∀ cls d σ' H', Ech cls d H' → σ'.length = Ng.length → W cls d σ' H') ∧ σ[0]? = some (some (.ref f)) ∧ H c' = some (CodeO c' q) ∧ tl Ech H fun v H1 => D.nx σ H1)
    ⟨rfl, rfl⟩ hN LamX.takes0 (fun W pn xe tk _ => ?_) k1) (pss_one (ps_ret (pos := p9) hret))), ?_⟩
  · refine ⟨fun pin1 s2 τ G D I ⟨Ech, hW, h1, h2, h3⟩ => ?_⟩
    have hp := act (fun cls d σ H => σ.length = Ng.length → W cls d σ H) pn xe Ech p4 p5 (takes_len tk) hW
    have hq := pss_one (ps_expr (pos := p6) hp rfl)
    exact hq.run pin1 s2 τ G D I ⟨h1, h2, h3⟩
  · obtain ⟨hz, h⟩ := h
    have hltm : m < (L2.start Ng [V.ref f]).length := by rw [hlen]; exact (List.getElem?_eq_some_iff.mp hm).1
    refine ⟨hz, fun p0 hp0 => ?_⟩
    have nec : c' ≠ p0 := ne_of_none hc hp0
    refine ⟨hw X.K Q l, fun cls d σ' H' hh hl => by
      refine k2 Q _ ?_ cls d H' hh σ' hl
      intro σ v H hv hq
      exact ⟨v, hv, hq⟩, ?_, by rw [upd_ne nec]; exact hc, ?_⟩
    · rw [List.getElem?_set_ne hm0]
      exact h0 f
    · have := h p0 hp0
      refine cast ?_ this
      congr 1
      funext v H1
      refine propext ⟨fun hq => ⟨.ref p0, List.getElem?_set_self hltm, hq⟩, fun ⟨v, e, hq⟩ => ?_⟩
      rw [List.getElem?_set_self hltm] at e
      cases e
      exact hq
end
end NX

/-! MP2, part i: which MP terms stand for which Python terms; what a context must keep. -/
namespace MP
open PySem PySem.Spec L2
/-- what is known of the module's names: the defs, the built-ins that are still themselves, the constants, the exceptions' classes (the first is above the others), calls by names, defs that catch; whether lambdas may be made here -/
structure Gb where
  fns : List Str
  free : List Str
  nums : List (Str × Int)
  tups : List (Str × List D) := []
  cls : List Str := []
  kws : List (Nat × List Str × List Nat) := []
  cats : List (Str × Nat × List (Nat × Str)) := []
  lm : Bool := false
def Gb.calm (G : Gb) : Gb := { G with lm := false }
/-- whether the class c is the class c' or beneath it -/
def subC (c c' : Nat) : Bool := c == c' || c' == 0
def plainName (x : Str) : Bool := !(x == ("__debug__" : Str)) && !(x == ("__classdict__" : Str)) && !decide (x = ("__name__" : Str))
def vis (sc : Scope) (x : Str) : Bool := match sc.names.lookup x with
  | some .local => true
  | some .cell => true
  | some .free => true
  | _ => false
def gl (sc : Scope) (x : Str) : Bool := decide (sc.names.lookup x = some .globalImplicit)
def notStar : Expr → Bool
  | .Starred .. => false
  | _ => true
def isSlice : Expr → Bool
  | .Slice .. => true
  | _ => false
def isSet : Expr → Bool
  | .Set .. => true
  | _ => false
def isComp : Expr → Bool
  | .ListComp .. => true
  | .SetComp .. => true
  | .DictComp .. => true
  | _ => false
def isCall0 : Expr → Bool
  | .Call (.Name _ _) [] [] _ => true
  | _ => false
def conOk : D → Const → Bool
  | .none, .none => true
  | .bool b, .bool c => b == c
  | .int i, .int j => decide (i = j)
  | .str x, .str y => decide (x = y) && decide (x.length ≤ big)
  | _, _ => false
def memB {α : Type} [DecidableEq α] (x : α) (l : List α) : Bool := decide (x ∈ l)
/-- a name that may be stored -/
def loc (fn : Str → Bool) (sc : Scope) (x : Str) : Bool := match sc.names.lookup x with
  | some .local => true
  | some .cell => fn x
  | _ => false
mutual
def okP (N : List Str) (sc : Scope) (fn : Str → Bool) : Pat → Expr → Bool
  | .nm i, .Name x _ => decide (N[i]? = some x) && loc fn sc x
  | .tp ps, .Tuple es _ _ => okPs N sc fn ps es
  | _, _ => false
def okPs (N : List Str) (sc : Scope) (fn : Str → Bool) : List Pat → List Expr → Bool
  | [], [] => true
  | p :: ps, e :: es => notStar e && okP N sc fn p e && okPs N sc fn ps es
  | _, _ => false
end
/-! the names that a target binds -/
mutual
def patVars : Pat → List Nat
  | .nm i => [i]
  | .tp ps => patsVars ps
def patsVars : List Pat → List Nat
  | [] => []
  | p :: ps => patVars p ++ patsVars ps
end
def isHole : E → Bool
  | .hole => true
  | _ => false
def okOp (h : Bool) (r : Expr → Bool) : Option Expr → Bool
  | none => h
  | some e => !h && r e
def cellFn (scope : Scope) : Str → Bool := fun x => scope.names.lookup x == some .cell
/-- the same ints and texts -/
def sameF : List D → List D → Bool
  | [], [] => true
  | .int i :: xs, .int j :: ys => decide (i = j) && sameF xs ys
  | .str i :: xs, .str j :: ys => decide (i = j) && decide (i.length ≤ big) && sameF xs ys
  | _, _ => false
theorem sameF_eq : ∀ {xs ys : List D}, sameF xs ys = true → xs = ys
  | [], [], _ => rfl
  | x :: xs, [], h => by cases x <;> cases h
  | [], y :: ys, h => by cases y <;> cases h
  | x :: xs, y :: ys, h => by
    cases x <;> cases y <;> first | (cases h; done) | skip
    · simp only [sameF, Bool.and_eq_true, decide_eq_true_eq] at h
      rw [h.1, sameF_eq h.2]
    · simp only [sameF, Bool.and_eq_true, decide_eq_true_eq] at h
      rw [h.1.1, sameF_eq h.2]
def noArgs (a : Arguments) : Bool := a.posonlyargs.isEmpty && a.args.isEmpty && a.vararg.isNone && a.kwonlyargs.isEmpty && a.kwarg.isNone && a.defaults.isEmpty && a.kw_defaults.isEmpty
/-- constants as keys of a written dict -/
def okKeys : List D → List (Option Expr) → Bool
  | [], [] => true
  | k :: ks, some (.Constant c _ _) :: es => conOk k c && (keyD k).isSome && okKeys ks es
  | _, _ => false
def okNames : List Str → List Keyword → Bool
  | [], [] => true
  | n :: ns, k :: ks => decide (k.arg = some n) && okNames ns ks
  | _, _ => false
def isTupE : Expr → Bool
  | .Tuple .. => true
  | _ => false
/-- pairs are walked into a tuple of targets -/
def tgOk : E → Expr → Bool
  | .enm _, tg => isTupE tg
  | .zp _ _, tg => isTupE tg
  | _, _ => true
/-- an expression whose test is its value's truth -/
def plainTest : Expr → Bool
  | .UnaryOp .Not _ _ => false
  | .BoolOp .. => false
  | .IfExp .. => false
  | .Compare .. => false
  | _ => true
def Ask.nm : Ask → Str
  | .index => "index"
  | .get => "get"
  | .cnt => "count"
def askLen : Ask → Nat → Bool
  | .get, n => n == 1 || n == 2
  | _, n => n == 1
def litNm (b : Bool) : Str := if b then "tuple" else "list"
mutual
def okE : Gb → List Str → E → Scope → Expr → Bool
  | _, _, .hole, _, _ => true
  | _, N, .var i, sc, .Name x _ => decide (N[i]? = some x) && vis sc x && plainName x
  | _, _, .con v, _, .Constant c _ _ => conOk v c
  | G, _, .glo x (.int i), sc, .Name y _ => decide (x = y) && gl sc x && memB (x, i) G.nums && plainName x
  | G, _, .glo x (.tuple xs), sc, .Name y _ => decide (x = y) && gl sc x && (G.tups.any fun p => decide (p.1 = x) && sameF p.2 xs) && plainName x
  | G, N, .op o a b, sc, .BinOp l p r _ => decide (p = o.py) && okE G N a sc l && okE G N b sc r
  | G, N, .neg a, sc, .UnaryOp .USub x _ => okE G N a sc x
  | G, N, .cmp c a b, sc, .Compare l [p] [r] _ => decide (p = c.py) && okE G N a sc l && okE G N b sc r && !isSet r
  | G, N, .chain c c' a b e, sc, .Compare l [p, p'] [r, r'] _ => decide (p = c.py) && decide (p' = c'.py) && okE G N a sc l && okE G N b sc r && okE G N e sc r' && !isSet r && !isSet r'
  | G, N, .and a b, sc, .BoolOp .And [x, y] _ => okE G N a sc x && okE G N b sc y
  | G, N, .and a b, sc, .BoolOp .And (x :: y :: z :: r) p => okE G N a sc x && okE G N b sc (.BoolOp .And (y :: z :: r) p)
  | G, N, .or a b, sc, .BoolOp .Or [x, y] _ => okE G N a sc x && okE G N b sc y
  | G, N, .or a b, sc, .BoolOp .Or (x :: y :: z :: r) p => okE G N a sc x && okE G N b sc (.BoolOp .Or (y :: z :: r) p)
  | G, N, .not a, sc, .UnaryOp .Not x _ => okE G N a sc x
  | G, N, .ite c a b, sc, .IfExp t x y _ => okE G N c sc t && okE G N a sc x && okE G N b sc y
  | G, N, .tup es, sc, .Tuple xs _ _ => okEs G N es sc xs && decide (es.length ≤ big)
  | G, N, .lst es, sc, .List xs _ => okEs G N es sc xs && decide (es.length ≤ big)
  | _, _, .dct [] [], _, .Dict [] [] _ => true
  | G, N, .dct (k :: ks) es, sc, .Dict (k' :: ks') vs _ => okKeys (k :: ks) (k' :: ks') && okEs G N es sc vs && decide (ks'.length < 14) && decide (ks.length = ks'.length) && decide (vs.length = ks'.length + 1)
  | G, N, .call f es, sc, .Call (.Name x _) (y :: ys) [] _ => decide (G.fns[f]? = some x) && gl sc x && plainName x && okEs G N es sc (y :: ys)
  | G, N, .prim p es, sc, .Call (.Name x _) (y :: ys) [] _ => decide (x = p.py) && gl sc x && memB x G.free && plainName x && okEs G N es sc (y :: ys)
  | G, N, .isi a t, sc, .Call (.Name x _) [y, .Name z _] [] _ => decide (x = "isinstance") && gl sc x && memB x G.free && decide (z = (t.py : String)) && gl sc z && memB z G.free && okE G N a sc y && notStar y
  | G, N, .ix a i, sc, .Subscript v s _ => okE G N a sc v && okE G N i sc s && !isSlice s
  | G, N, .sl a lo hi, sc, .Subscript v (.Slice l h none _) _ => okE G N a sc v && okOp (isHole lo) (okE G N lo sc) l && okOp (isHole hi) (okE G N hi sc) h
  | G, N, .comp own p it conds elt, sc, .ListComp e [⟨tg, iter, ifs, ay⟩] scope _ => decide (ay = 0) && okE G N it sc iter && !isSet iter && blkC N sc scope (own.map fun i => (N.getD i "", i)) && okP N (relS scope sc) (cellFn scope) p tg &&
      okCs G.calm N conds (relS scope sc) ifs && okE G.calm N elt (relS scope sc) e && (patVars p).all (fun i => memB i own) && tgOk it tg
  | G, N, .meth m o es, sc, .Call (.Attribute v n apos) xs [] cpos => decide (n = m.nm) && okE G N o sc v && okEs G N es sc xs && !isCall0 v && (apos.endLine == cpos.line) && decide (xs.length < 20)
  | G, N, .rng [a], sc, .Call (.Name x _) [y] [] _ => decide (x = "range") && gl sc x && memB x G.free && okE G N a sc y && notStar y
  | G, N, .rng [a, b], sc, .Call (.Name x _) [y, z] [] _ => decide (x = "range") && gl sc x && memB x G.free && okE G N a sc y && notStar y && okE G N b sc z && notStar z
  | G, N, .enm a, sc, .Call (.Name x _) [y] [] _ => decide (x = "enumerate") && gl sc x && memB x G.free && okE G N a sc y && notStar y
  | G, N, .zp a b, sc, .Call (.Name x _) [y, z] [] _ => decide (x = "zip") && gl sc x && memB x G.free && okE G N a sc y && notStar y && okE G N b sc z && notStar z
  | G, N, .al a, sc, e => okE G N a sc e && plainTest e
  | G, N, .caught k hs a, sc, .Call (.Name x _) [.Lambda params body scope _] [] _ => G.lm && memB (x, k, hs) G.cats && gl sc x && plainName x && noArgs params && LamX.lamSB sc scope && okE G.calm N a scope body
  | G, _, .call f [], sc, .Call (.Name x _) [] [] _ => decide (G.fns[f]? = some x) && gl sc x && plainName x
  | G, N, .callk f pm es, sc, .Call (.Name x _) [] ks _ => decide (G.fns[f]? = some x) && gl sc x && plainName x && okKs G N es sc ks && (G.kws.any fun q => decide (q.1 = f) && decide (q.2.2 = pm) && okNames q.2.1 ks)
  | G, N, .ask m o es, sc, .Call (.Attribute v n apos) xs [] cpos => decide (n = m.nm) && okE G N o sc v && okEs G N es sc xs && !isCall0 v && (apos.endLine == cpos.line) && askLen m xs.length
  | G, N, .disp true bs es, sc, .Tuple xs _ _ => okDs G N es bs sc xs
  | G, N, .disp false bs es, sc, .List xs _ => okDs G N es bs sc xs
  | G, N, .dcomp own p it conds k v, sc, .DictComp kx vx [⟨tg, iter, ifs, ay⟩] scope _ => decide (ay = 0) && okE G N it sc iter && !isSet iter && blkC N sc scope (own.map fun i => (N.getD i "", i)) && okP N (relS scope sc) (cellFn scope) p tg &&
      okCs G.calm N conds (relS scope sc) ifs && okE G.calm N k (relS scope sc) kx && okE G.calm N v (relS scope sc) vx && (patVars p).all (fun i => memB i own) && tgOk it tg
  | G, N, .lit b es, sc, .Call (.Name x _) [.Call (.Name r _) ys [] _] [] _ => decide (x = litNm b) && gl sc x && memB x G.free && decide (r = "range") && gl sc r && memB r G.free && okEs G N es sc ys && (decide (ys.length = 1) || decide (ys.length = 2))
  | _, _, _, _, _ => false
termination_by structural _ _ c => c
def okKs : Gb → List Str → List E → Scope → List Keyword → Bool
  | _, _, [], _, [] => true
  | G, N, c :: cs, sc, ⟨a, e, _⟩ :: ks => okE G N c sc e && a.isSome && okKs G N cs sc ks
  | _, _, _, _, _ => false
termination_by structural _ _ c => c
def okDs : Gb → List Str → List E → List Bool → Scope → List Expr → Bool
  | _, _, [], _, _, [] => true
  | G, N, c :: cs, bs, sc, .Starred e _ :: es => bs.headD false && okE G N c sc e && okDs G N cs bs.tail sc es
  | G, N, c :: cs, bs, sc, e :: es => !bs.headD false && okE G N c sc e && notStar e && okDs G N cs bs.tail sc es
  | _, _, _, _, _, _ => false
termination_by structural _ _ c => c
def okEs : Gb → List Str → List E → Scope → List Expr → Bool
  | _, _, [], _, [] => true
  | G, N, c :: cs, sc, e :: es => okE G N c sc e && notStar e && okEs G N cs sc es
  | _, _, _, _, _ => false
termination_by structural _ _ c => c
def okCs : Gb → List Str → List E → Scope → List Expr → Bool
  | _, _, [], _, [] => true
  | G, N, [c], sc, [e] => okE G N c sc e
  | _, _, _, _, _ => false
termination_by structural _ _ c => c
end
/-! ### defs that catch -/
/-- a name that is a def's own, no cell -/
def locN (sc : Scope) (x : Str) : Bool := decide (sc.names.lookup x = some .local) && plainName x
def okR1 (L : List Str) (N : List Str) (sc : Scope) : List (Nat × Str) → List ExceptHandler → Bool
  | [], [] => true
  | (c, tag) :: hs, .ExceptHandler (some (.Name x _)) (some n) [.Return (some (.List [.Constant (.str z) _ _, .Attribute (.Name n' _) at_ _] _)) _] _ :: es =>
    decide (L[c]? = some x) && decide (c ≠ 0) && gl sc x && plainName x && memB n N && locN sc n && decide (z = tag) && decide (n' = n) && decide (at_ = "value") && decide (tag.length ≤ big) && okR1 L N sc hs es
  | _, _ => false
def okS1 (L : List Str) (N : List Str) (sc : Scope) (y : Str) : List (Nat × Str) → List ExceptHandler → Bool
  | [], [] => true
  | (c, tag) :: hs, .ExceptHandler (some (.Name x _)) (some n) [.Assign [.Name y' _] (.List [.Constant (.str z) _ _, .Attribute (.Name n' _) at_ _] _) _] _ :: es =>
    decide (L[c]? = some x) && decide (c ≠ 0) && gl sc x && plainName x && memB n N && locN sc n && decide (n ≠ y) && decide (y' = y) && decide (z = tag) && decide (n' = n) && decide (at_ = "value") && decide (tag.length ≤ big) && okS1 L N sc y hs es
  | _, _ => false
def catOk (L : List Str) (N : List Str) (sc : Scope) (a : Str) : Nat → List (Nat × Str) → List Stmt → Bool
  | 0, hs, [.Assign [.Name y _] (.List [] _) _, .Try [.Expr (.Call (.Name a' _) [] [] _) _] (h :: hds) [] [] _, .Return (some (.Name y' _)) _] =>
    decide (a' = a) && decide (y' = y) && memB y N && decide (N[0]? ≠ some y) && locN sc y && okS1 L N sc y hs (h :: hds)
  | 1, hs, [.Try [.Return (some (.List [.Constant (.str told) _ _, .Call (.Name a' _) [] [] _] _)) _] (h :: hds) [] [] _] => decide (a' = a) && decide (told = "told") && okR1 L N sc hs (h :: hds)
  | _, _, _ => false
def CatAt (K : Fg) (mg : Str → Option Value) (G : Gb) (q : Str × Nat × List (Nat × Str)) : Prop :=
  ∃ (g : Addr) (pg : Arguments) (bg : List Stmt) (sg : Scope) (dV kV doc pm cdv ct oc : Value) (an od : Option Addr) (osl : Array (Option Value)) (Ng : List Str) (a : Str),
    mg q.1 = some (.ref g) ∧ PySem.W.keepIn K (.ref g) = true ∧ K.lookup g = some ⟨oc, od, .func (PySem.W.fnOf q.1 q.1 pg bg sg dV kV doc pm an cdv ct), osl⟩ ∧ PySem.W.codeIn K cdv q.1 = true ∧
    Binds K (PySem.W.fnOf q.1 q.1 pg bg sg dV kV doc pm an cdv ct) [a] [] ∧ FnScope Ng [a] sg ∧ Ng[0]? = some a ∧ vis sg a = true ∧ plainName a = true ∧ catOk G.cls Ng sg a q.2.1 q.2.2 bg = true
/-! ### a def's promise, with the guards known -/
structure FnG (P : Program) (w : World) (K : Fg) (mg : Str → Option Value) (base : Heap) (k : Nat) (f : Addr) (fd : FuncData) (ps : List Str) (sp : Sp) : Prop where
  len : ∀ vs H Q E, sp vs H Q E → vs.length = ps.length
  run : ∀ (A : Around) (outer : List PySem.Env) (s : Shared) (H : Hp) (args : Args) (us : List Value) (vs : List V) (Q : VK) (E : XK), Room k A → A.guards = some [] → Env0 P w K mg base A outer s H →
    BindsTo s fd args (ps.zip us) → Vals vs us → sp vs H Q E → codeAny (model P w) A (.call (.ref f) args) (CR (L2.CX P w) outer P w H s Q E) s
def spF (K : Fg) (cl : Bs) (cf : CF) (f : Nat) : Sp := fun vs H Q E => ∃ F ρ st args, SR cl.tt F ρ K st H ∧ TRs F ρ K H args vs ∧ Post (RV_ K) cl (fun c d _ H => E c d H) [] F ρ K H (cf f args st) Q
/-- a global tuple of ints and texts -/
def KTup (K : Fg) (a : Addr) (xs : List D) : Prop := ∀ (F : FS) (H : Hp), RD F K H (.tuple xs) (.ref a)
structure XOk (G : Gb) (N : List Str) (sc : Scope) (fn : Str → Bool) (cl : Bs) (W : WX) (cf : CF) (lv : Nat) (X : Cx) : Prop where
  hN : X.N = N
  hsc : X.env.scope = sc
  nd : N.Nodup
  calm : X.calm = true
  guards : X.A.guards = some []
  units : X.A.units + 64 < cLine
  smod : SysM X.K
  fnx : ∀ x, fn x = true → X.fn x = true
  free : ∀ x ∈ G.free, X.mg x = none
  nums : ∀ p ∈ G.nums, ∃ t, X.mg p.1 = some (.int p.2 t)
  tups : ∀ p ∈ G.tups, ∃ a, X.mg p.1 = some (.ref a) ∧ KTup X.K a p.2
  calls : ∀ (f : Nat) (x : Str), G.fns[f]? = some x → ∃ (fa : Addr) (fd : FuncData) (ps : List Str), X.mg x = some (.ref fa) ∧ PySem.W.keepIn X.K (.ref fa) = true ∧ FnG X.prog X.w X.K X.mg X.base lv fa fd ps (spF X.K cl cf f) ∧
    Binds X.K fd ps [] ∧ ∀ ks pm, (f, ks, pm) ∈ G.kws → ∀ (s : Shared) (us : List Value), X.K.In s.heap → us.length = ks.length → ∃ zs, pick us pm = some zs ∧ BindsTo s fd ⟨[], ks.zip us⟩ (ps.zip zs)
  room : Room lv X.A
  excs : ∀ (c : Nat) (x : Str), G.cls[c]? = some x → ∃ (C D fI : Addr) (fd : FuncData), X.mg x = some (.ref C) ∧ cl.cl c = .ref C ∧ NX.StayC X.prog X.K C D fI ∧ NX.IniK X.prog X.K D fI fd
  exm : ∀ (c c' : Nat) (x x' : Str), G.cls[c]? = some x → G.cls[c']? = some x' → PySem.W.exmOne X.K (cl.cl c) (cl.cl c') = some (subC c c')
  cats : ∀ q ∈ G.cats, CatAt X.K X.mg G q
  lam : G.lm = true → Room (lv + 2) X.A ∧ ∃ c P, LamX.TabB X.base X.mg c P ∧ X.env.code = .ref c ∧ (P, X.env.qual ++ "<lambda>") ∈ cl.tt ∧ ∀ p ∈ cl.tt, p.1 = P → p.2 = X.env.qual ++ "<lambda>"
  takes : Takes X W
section
variable {G : Gb} {N : List Str} {sc : Scope} {fn : Str → Bool} {cl : Bs} {W : WX} {cf : CF} {lv : Nat} {X : Cx}
theorem CatAt.calm {K : Fg} {mg : Str → Option Value} {q : Str × Nat × List (Nat × Str)} (h : CatAt K mg G q) : CatAt K mg G.calm q := h
theorem XOk.blk (x : XOk G N sc fn cl W cf lv X) (s : Shared) (H : Hp) (scope : Scope) (C : Addr) (cs : List (Str × Addr)) (fp : List Addr) :
    XOk G.calm N (relS scope sc) (cellFn scope) cl (fun _ _ _ _ => False) cf lv (X.blk s H scope (compEnvC scope cs C X.env) fp) where
  hN := x.hN
  hsc := by
    have h := x.hsc
    subst h
    rfl
  nd := x.nd
  calm := x.calm
  guards := x.guards
  units := x.units
  smod := x.smod
  fnx := fun y h => h
  free := x.free
  nums := x.nums
  tups := x.tups
  calls := x.calls
  room := x.room
  excs := x.excs
  exm := x.exm
  cats := fun q hq => (x.cats q hq).calm
  lam := fun h => by cases h
  takes := takes0
theorem vis_ok {x : Str} (h : vis sc x = true) : Vis sc x := by
  unfold vis at h
  split at h
  · exact .inl (by assumption)
  · exact .inr (.inl (by assumption))
  · exact .inr (.inr (by assumption))
  · cases h
theorem loc_ok (x : XOk G N sc fn cl W cf lv X) {y : Str} (h : loc fn sc y = true) : Loc X.env.scope y ∧ (X.fn y = true ∨ X.env.scope.names.lookup y = some .local) := by
  rw [x.hsc]
  unfold loc at h
  split at h
  · exact ⟨.inl (by assumption), .inr (by assumption)⟩
  · exact ⟨.inr (by assumption), .inl (x.fnx y h)⟩
  · cases h
theorem gl_ok (x : XOk G N sc fn cl W cf lv X) {y : Str} (h : gl sc y = true) : Gl X y := by
  unfold gl at h
  show X.env.scope.names.lookup y = some .globalImplicit
  rw [x.hsc]
  exact of_decide_eq_true h
theorem plain_ok {x : Str} (h : plainName x = true) : (x == ("__debug__" : Str)) = false ∧ (x == ("__classdict__" : Str)) = false ∧ x ≠ ("__name__" : Str) := by
  unfold plainName at h
  simp only [Bool.and_eq_true, Bool.not_eq_true', decide_eq_false_iff_not] at h
  exact ⟨h.1.1, h.1.2, h.2⟩
theorem memB_ok {α : Type} [DecidableEq α] {x : α} {l : List α} (h : memB x l = true) : x ∈ l := of_decide_eq_true h
theorem star_ok {e : Expr} {es : List Expr} {env : PySem.Env} (h : notStar e = true) : starEach (e :: es) env = (false, eval e env) :: starEach es env := by
  cases e <;> first | rfl | cases h
theorem plainIx_ok {e : Expr} (h : isSlice e = false) : PlainIx e := by
  cases e <;> first | (intro _ _; rfl) | cases h
theorem noMark {op : CmpOp} {e : Expr} (h : isSet e = false) : behindInMarks op e = false := by
  cases e <;> first | rfl | cases h
theorem noFold {e : Expr} (h : isSet e = false) {env : PySem.Env} : ∀ x, foldedSetIterable e env x = pure x := by
  cases e <;> first | (intro _; rfl) | cases h
theorem base_ok {e : Expr} {n : Str} {env : PySem.Env} (h : isCall0 e = false) : attributeBase e n env (eval e env) = eval e env := by
  cases e with
  | Call f as ks p =>
    cases f with
    | Name x q =>
      cases as with
      | nil => cases ks with
        | nil => cases h
        | cons => rfl
      | cons => rfl
    | _ => rfl
  | _ => rfl
theorem noSwap {e : Expr} {t : Option Expr} {l : Nat} {env : PySem.Env} (h : isComp e = false) : swapsWith e t l env = pure false := by
  cases e <;> first | rfl | cases h
/-- what okEs says of stars -/
theorem stars_ok : ∀ {cs : List E} {es : List Expr} {env : PySem.Env} {pos : Pos}, okEs G N cs sc es = true → (backTo pos (starEach es env)).any (·.1) = false ∧ (backTo pos (starEach es env)).all (fun x => !x.1) = true
  | [], [], env, pos, _ => ⟨rfl, rfl⟩
  | [], _ :: _, _, _, h => by simp [okEs] at h
  | _ :: _, [], _, _, h => by simp [okEs] at h
  | c :: cs, e :: es, env, pos, h => by
    simp only [okEs, Bool.and_eq_true] at h
    obtain ⟨h1, h2⟩ := stars_ok (env := env) (pos := pos) h.2
    rw [star_ok h.1.2]
    constructor
    · show (false || (backTo pos (starEach es env)).any (·.1)) = false
      rw [h1]
      rfl
    · show (true && (backTo pos (starEach es env)).all (fun x => !x.1)) = true
      rw [h2]
      rfl
end
end MP

/-! MP2, part j: soundness of expressions, one rule a constructor. -/
namespace MP
open PySem PySem.Spec L2
section
variable {G : Gb} {N : List Str} {sc : Scope} {fn : Str → Bool} {cl : Bs} {W : WX} {cf : CF} {lv : Nat} {X : Cx} {pos : Pos}
theorem rv_int {F : FS} {ρ : List Addr} {K : Fg} {H : Hp} {i : Int} : RVR F ρ K H (.t (.d (.int i))) (.int i) := by unfold RVR TR RD; rfl
theorem rv_bool {F : FS} {ρ : List Addr} {K : Fg} {H : Hp} {b : Bool} : RVR F ρ K H (.t (.d (.bool b))) (.bl b) := by unfold RVR TR RD; rfl
theorem rv_none {F : FS} {ρ : List Addr} {K : Fg} {H : Hp} : RVR F ρ K H (.t (.d .none)) .non := by unfold RVR TR RD; rfl
theorem rv_str {F : FS} {ρ : List Addr} {K : Fg} {H : Hp} {x : Str} (h : x.length ≤ big) : RVR F ρ K H (.t (.d (.str x))) (.str x) := by unfold RVR TR RD; exact ⟨rfl, h⟩
abbrev PEx (X : Cx) (cl : Bs) (W : WX) (cf : CF) (c : E) (e : Expr) : Prop := PE X e (tE X.K cl W cf c)
theorem PEx.s {c : E} {e : Expr} (h : PEx X cl W cf c e) : PE X e (tS X.K cl W cf c) := PE.imp h fun _ _ _ => tS_E
theorem e_var (x : XOk G N sc fn cl W cf lv X) {i : Nat} {y : Str} (h : okE G N (.var i) sc (.Name y pos) = true) : PEx X cl W cf (.var i) (.Name y pos) := by
  simp only [okE, Bool.and_eq_true, decide_eq_true_eq] at h
  obtain ⟨⟨h1, h2⟩, h3⟩ := h
  obtain ⟨p1, p2, p3⟩ := plain_ok h3
  refine PE.imp (pe_var (i := i) (by rw [x.hN]; exact h1) (by rw [x.hsc]; exact vis_ok h2) p1 p2) fun σ H Q q => ?_
  obtain ⟨F, ρ, env, st, hS, hE, p⟩ := q
  simp only [evalE] at p
  cases he : env[i]? with
  | none => rw [he] at p; exact p.elim
  | some o =>
    cases o with
    | none => rw [he] at p; exact p.elim
    | some v =>
      rw [he] at p
      obtain ⟨u, e1, e2⟩ := hE.2 i v he
      exact ⟨u, e1, p F ρ H u .refl hS e2⟩
theorem e_con (x : XOk G N sc fn cl W cf lv X) {v : D} {c : Const} {k : Nat} (h : okE G N (.con v) sc (.Constant c k pos) = true) : PEx X cl W cf (.con v) (.Constant c k pos) := by
  simp only [okE] at h
  cases v <;> cases c <;> simp [conOk] at h
  · refine PE.imp pe_non fun σ H Q q => ?_
    obtain ⟨F, ρ, env, st, hS, hE, p⟩ := q
    simp only [evalE] at p
    exact p F ρ H _ .refl hS (by first | exact rv_int | exact rv_bool | exact rv_none)
  · subst h
    refine PE.imp pe_bl fun σ H Q q => ?_
    obtain ⟨F, ρ, env, st, hS, hE, p⟩ := q
    simp only [evalE] at p
    exact p F ρ H _ .refl hS (by first | exact rv_int | exact rv_bool | exact rv_none)
  · subst h
    refine PE.imp pe_int fun σ H Q q => ?_
    obtain ⟨F, ρ, env, st, hS, hE, p⟩ := q
    simp only [evalE] at p
    exact p F ρ H _ .refl hS (by first | exact rv_int | exact rv_bool | exact rv_none)
  · obtain ⟨rfl, h2⟩ := h
    refine PE.imp pe_str fun σ H Q q => ?_
    obtain ⟨F, ρ, env, st, hS, hE, p⟩ := q
    simp only [evalE] at p
    exact p F ρ H _ .refl hS (rv_str h2)
theorem e_glo (x : XOk G N sc fn cl W cf lv X) {y z : Str} {i : Int} (h : okE G N (.glo y (.int i)) sc (.Name z pos) = true) : PEx X cl W cf (.glo y (.int i)) (.Name z pos) := by
  simp only [okE, Bool.and_eq_true, decide_eq_true_eq] at h
  obtain ⟨⟨⟨rfl, h2⟩, h3⟩, h4⟩ := h
  obtain ⟨t, ht⟩ := x.nums _ (memB_ok h3)
  refine PE.imp (pe_glob (v := .int i) (gl_ok x h2) ht ⟨t, rfl⟩ (plain_ok h4).1) fun σ H Q q => ?_
  obtain ⟨F, ρ, env, st, hS, hE, p⟩ := q
  simp only [evalE] at p
  exact p F ρ H _ .refl hS (by first | exact rv_int | exact rv_bool | exact rv_none)
theorem e_gloT (x : XOk G N sc fn cl W cf lv X) {y z : Str} {xs : List D} (h : okE G N (.glo y (.tuple xs)) sc (.Name z pos) = true) : PEx X cl W cf (.glo y (.tuple xs)) (.Name z pos) := by
  simp only [okE, Bool.and_eq_true, decide_eq_true_eq, List.any_eq_true] at h
  obtain ⟨⟨⟨rfl, h2⟩, ⟨y', ys⟩, hp, h3, h3'⟩, h4⟩ := h
  obtain rfl : y' = y := h3
  obtain rfl : ys = xs := sameF_eq h3'
  obtain ⟨a, ht, hK⟩ := x.tups _ hp
  refine PE.imp (pe_glob (v := .ref a) (gl_ok x h2) ht rfl (plain_ok h4).1) fun σ H Q q => ?_
  obtain ⟨F, ρ, env, st, hS, hE, p⟩ := q
  simp only [evalE] at p
  exact p F ρ H _ .refl hS (by show TR F ρ X.K H (.d (.tuple ys)) (.ref a); unfold TR; exact hK F H)
theorem e_op (x : XOk G N sc fn cl W cf lv X) {o : Op} {a b : E} {l r : Expr} (ha : PEx X cl W cf a l) (hb : PEx X cl W cf b r) : PEx X cl W cf (.op o a b) (.BinOp l o.py r pos) := by
  refine PE.imp (pe_op (ob_bin o) ha.s hb.s) fun σ H Q q => ?_
  obtain ⟨F, ρ, env, st, hS, hE, p⟩ := q
  simp only [evalE] at p
  refine tS2 hS hE p fun F2 ρ2 H2 x y vx vy st2 q2 e2 r1 r2 p2 => ?_
  obtain ⟨v, e, p3⟩ := Post.lift p2
  exact ⟨cl.tt, F2, ρ2, st2, x, y, v, q2, r1, r2, e, p3⟩
theorem e_neg (x : XOk G N sc fn cl W cf lv X) {a : E} {l : Expr} (ha : PEx X cl W cf a l) : PEx X cl W cf (.neg a) (.UnaryOp .USub l pos) := by
  refine PE.imp (pe_un un_neg ha.s) fun σ H Q q => ?_
  obtain ⟨F, ρ, env, st, hS, hE, p⟩ := q
  simp only [evalE] at p
  refine tS1 hS hE p fun F2 ρ2 H2 x vx st2 q2 e2 r p2 => ?_
  split at p2
  · rename_i i hv
    exact ⟨i, vint r hv, p2 F2 ρ2 H2 _ .refl q2 rv_int⟩
  · exact p2.elim
theorem e_cmp (x : XOk G N sc fn cl W cf lv X) {c : Cm} {a b : E} {l r : Expr} (ha : PEx X cl W cf a l) (hb : PEx X cl W cf b r) (hr : isSet r = false) : PEx X cl W cf (.cmp c a b) (.Compare l [c.py] [r] pos) := by
  refine PE.imp (pe_cmpR (ob_cmp x.units c) ha.s hb.s (noMark hr)) fun σ H Q q => ?_
  obtain ⟨F, ρ, env, st, hS, hE, p⟩ := q
  simp only [evalE] at p
  refine tS2 hS hE p fun F2 ρ2 H2 x y vx vy st2 q2 e2 r1 r2 p2 => ?_
  obtain ⟨v, e, p3⟩ := Post.lift p2
  obtain ⟨b, e', rfl⟩ := Option.map_eq_some_iff.mp e
  clear e
  have e := e'
  obtain ⟨dx, e1, e⟩ := Option.bind_eq_some_iff.mp e
  obtain ⟨dy, e2', e⟩ := Option.bind_eq_some_iff.mp e
  exact ⟨cl.tt, F2, ρ2, st2, dx, dy, b, q2, q2.deep r1 e1, q2.deep r2 e2', e, p3 F2 ρ2 H2 _ .refl q2 (by first | exact rv_int | exact rv_bool | exact rv_none)⟩
theorem chain_imp {c c' : Cm} {a b e : E} {σ : L2.St} {H : Hp} {Q : VK} (q : tE X.K cl W cf (.chain c c' a b e) σ H Q) :
    tChain (rCmp X.K c) (rCmp X.K c') (tS X.K cl W cf a) (tS X.K cl W cf b) (tS X.K cl W cf e) σ H Q := by
  obtain ⟨F, ρ, env, st, hS, hE, p⟩ := q
  simp only [evalE] at p
  refine tS2 hS hE p fun F2 ρ2 H2 x y vx vy st2 q2 e2 r1 r2 p2 => ?_
  cases hk : ((rd st2 x).bind fun x => (rd st2 y).bind fun y => cmpD c x y) with
  | none => rw [hk] at p2; exact p2.elim
  | some k =>
    rw [hk] at p2
    obtain ⟨dx, e1, ek⟩ := Option.bind_eq_some_iff.mp hk
    obtain ⟨dy, e2', ek⟩ := Option.bind_eq_some_iff.mp ek
    refine ⟨cl.tt, F2, ρ2, st2, dx, dy, k, q2, q2.deep r1 e1, q2.deep r2 e2', ek, k, rfl, ?_⟩
    have p3 : Post (RV_ X.K) cl W σ F2 ρ2 X.K H2 (if k then (settled (evalE cf e env st2)).bind fun z st3 => lift (((rd st3 y).bind fun y => (rd st3 z).bind fun z => cmpD c' y z).map tB) st3 else .ok (tB false) st2) Q := p2
    cases k with
    | false => exact p3 F2 ρ2 H2 _ .refl q2 (by first | exact rv_int | exact rv_bool | exact rv_none)
    | true =>
      refine ⟨F2, ρ2, env, st2, q2, e2, Post.bind p3 fun z st3 F3 ρ3 H3 vz s3 q3 r3 p4 => ?_⟩
      obtain ⟨v, e, p5⟩ := Post.lift p4
      obtain ⟨b, e', rfl⟩ := Option.map_eq_some_iff.mp e
      clear e
      have e := e'
      obtain ⟨dy, e1, e⟩ := Option.bind_eq_some_iff.mp e
      obtain ⟨dz, e2', e⟩ := Option.bind_eq_some_iff.mp e
      exact ⟨cl.tt, F3, ρ3, st3, dy, dz, b, q3, q3.deep (s3.tr r2) e1, q3.deep r3 e2', e, p5 F3 ρ3 H3 _ .refl q3 (by first | exact rv_int | exact rv_bool | exact rv_none)⟩
theorem e_chain (x : XOk G N sc fn cl W cf lv X) {c c' : Cm} {a b e : E} {l r r' : Expr} (ha : PEx X cl W cf a l) (hb : PEx X cl W cf b r) (he : PEx X cl W cf e r') (h1 : isSet r = false) (h2 : isSet r' = false) :
    PEx X cl W cf (.chain c c' a b e) (.Compare l [c.py, c'.py] [r, r'] pos) :=
  PE.imp (pe_chain (ob_cmp x.units c) (ob_cmp x.units c') ha.s hb.s he.s (noMark h2)) fun σ H Q q => chain_imp q
theorem and_imp {a b : E} {σ : L2.St} {H : Hp} {Q : VK} (q : tE X.K cl W cf (.and a b) σ H Q) : tAndV (tS X.K cl W cf a) (tE X.K cl W cf b) σ H Q := by
  obtain ⟨F, ρ, env, st, hS, hE, p⟩ := q
  simp only [evalE] at p
  refine tS1 hS hE p fun F2 ρ2 H2 x vx st2 q2 e2 r p2 => ?_
  split at p2
  · exact ⟨true, r.bool_iff, F2, ρ2, env, st2, q2, e2, p2⟩
  · exact ⟨false, r.bool_iff, p2 F2 ρ2 H2 _ .refl q2 rv_bool⟩
  · exact p2.elim
theorem or_imp {a b : E} {σ : L2.St} {H : Hp} {Q : VK} (q : tE X.K cl W cf (.or a b) σ H Q) : tOrV (tS X.K cl W cf a) (tE X.K cl W cf b) σ H Q := by
  obtain ⟨F, ρ, env, st, hS, hE, p⟩ := q
  simp only [evalE] at p
  refine tS1 hS hE p fun F2 ρ2 H2 x vx st2 q2 e2 r p2 => ?_
  split at p2
  · exact ⟨false, r.bool_iff, F2, ρ2, env, st2, q2, e2, p2⟩
  · exact ⟨true, r.bool_iff, p2 F2 ρ2 H2 _ .refl q2 rv_bool⟩
  · exact p2.elim
theorem e_and2 (x : XOk G N sc fn cl W cf lv X) {a b : E} {l r : Expr} (ha : PEx X cl W cf a l) (hb : PEx X cl W cf b r) : PEx X cl W cf (.and a b) (.BoolOp .And [l, r] pos) :=
  PE.imp (pe_and ha.s (pe_one hb)) fun σ H Q q => and_imp q
theorem e_and (x : XOk G N sc fn cl W cf lv X) {a b : E} {l r : Expr} {rs : List Expr} (ha : PEx X cl W cf a l) (hb : PEx X cl W cf b (.BoolOp .And (r :: rs) pos)) : PEx X cl W cf (.and a b) (.BoolOp .And (l :: r :: rs) pos) :=
  PE.imp (pe_and ha.s hb) fun σ H Q q => and_imp q
theorem e_or2 (x : XOk G N sc fn cl W cf lv X) {a b : E} {l r : Expr} (ha : PEx X cl W cf a l) (hb : PEx X cl W cf b r) : PEx X cl W cf (.or a b) (.BoolOp .Or [l, r] pos) :=
  PE.imp (pe_or ha.s (pe_one hb)) fun σ H Q q => or_imp q
theorem e_or (x : XOk G N sc fn cl W cf lv X) {a b : E} {l r : Expr} {rs : List Expr} (ha : PEx X cl W cf a l) (hb : PEx X cl W cf b (.BoolOp .Or (r :: rs) pos)) : PEx X cl W cf (.or a b) (.BoolOp .Or (l :: r :: rs) pos) :=
  PE.imp (pe_or ha.s hb) fun σ H Q q => or_imp q
theorem e_not (x : XOk G N sc fn cl W cf lv X) {a : E} {l : Expr} (ha : PEx X cl W cf a l) : PEx X cl W cf (.not a) (.UnaryOp .Not l pos) := by
  refine PE.imp (pe_notT ha.s) fun σ H Q q => ?_
  obtain ⟨F, ρ, env, st, hS, hE, p⟩ := q
  simp only [evalE] at p
  refine tC_S ?_
  refine tC1 hS hE p fun F2 ρ2 H2 b st2 q2 e2 p2 => ?_
  exact p2 F2 ρ2 H2 _ .refl q2 rv_bool
/-! ### tests -/
abbrev PTx (X : Cx) (cl : Bs) (W : WX) (cf : CF) (c : E) (e : Expr) : Prop := PT X e (tC X.K cl W cf c)
theorem t_of {c : E} {e : Expr} (h : PEx X cl W cf c e) (he : ∀ whole, isTrue e X.env whole = (do let v ← whole; standAt e.pos; holding [v] (truthy v))) : PTx X cl W cf c e :=
  PT.imp (pt_truth h.s he) fun σ H Q q => tC_S q
theorem e_ite (x : XOk G N sc fn cl W cf lv X) {c a b : E} {t l r : Expr} (hc : PTx X cl W cf c t) (ha : PEx X cl W cf a l) (hb : PEx X cl W cf b r) : PEx X cl W cf (.ite c a b) (.IfExp t l r pos) := by
  refine PE.imp (pe_ifExp hc ha hb) fun σ H Q q => ?_
  obtain ⟨F, ρ, env, st, hS, hE, p⟩ := q
  simp only [evalE] at p
  refine tC1 hS hE p fun F2 ρ2 H2 b st2 q2 e2 p2 => ?_
  cases b with
  | true => exact ⟨F2, ρ2, env, st2, q2, e2, p2⟩
  | false => exact ⟨F2, ρ2, env, st2, q2, e2, p2⟩
theorem truthOf_bind {α : Type} (r : Res α) (f : α → Store → Res RV) : truthOf (r.bind f) = r.bind fun a st => truthOf (f a st) := by
  cases r <;> rfl
theorem truthOf_tB (o : Option Bool) (st : Store) : truthOf (lift (o.map tB) st) = lift o st := by cases o <;> rfl
theorem t_cmp (x : XOk G N sc fn cl W cf lv X) {c : Cm} {a b : E} {l r : Expr} (ha : PEx X cl W cf a l) (hb : PEx X cl W cf b r) (hr : isSet r = false) : PTx X cl W cf (.cmp c a b) (.Compare l [c.py] [r] pos) := by
  refine PT.imp (pt_cmpR (ob_cmp x.units c) ha.s hb.s (noMark hr)) fun σ H Q q => ?_
  obtain ⟨F, ρ, env, st, hS, hE, p⟩ := q
  simp only [evalE, truthOf_bind, truthOf_tB] at p
  refine tS2 hS hE p fun F2 ρ2 H2 x y vx vy st2 q2 e2 r1 r2 p2 => ?_
  obtain ⟨k, e, p3⟩ := Post.lift p2
  obtain ⟨dx, e1, ek⟩ := Option.bind_eq_some_iff.mp e
  obtain ⟨dy, e2', ek⟩ := Option.bind_eq_some_iff.mp ek
  exact ⟨cl.tt, F2, ρ2, st2, dx, dy, k, q2, q2.deep r1 e1, q2.deep r2 e2', ek, k, rfl, p3 F2 ρ2 H2 _ .refl q2 rfl⟩
end
end MP

/-! NX, part g: an item's place in a tuple; a dict comprehension at a name. -/
namespace NX
open PySem PySem.Spec PyProof.Rows L2
section
variable {X : Cx}
def rIndexT (K : PySem.W.Frag) : V → List V → Hp → VK → Prop := fun x xs H Q => ∃ (a : Addr) (ys : List V) (y : V) (j : Nat) (z : V), x = V.ref a ∧ xs = [y] ∧ SqT K H a ys ∧ flatV y = true ∧ ys.all flatV = true ∧ ys[j]? = some z ∧ eqV z y = true ∧
  (∀ (m : Nat) (z' : V), m < j → ys[m]? = some z' → eqV z' y = false) ∧ Q (.int (j : Nat)) H
theorem mt_tindex : MtR X "tuple.index" (rIndexT X.K) := by
  intro pins s σ H x xs v us Q I rx rxs h
  obtain ⟨a, ys, y, j, z, rfl, rfl, hs, fy, fys, hz, hzj, hno, q⟩ := h
  cases rx
  cases rxs with
  | cons ry rt =>
    rename_i uy ut
    cases rt
    obtain ⟨its, rv, pl, hlen⟩ := I.tuple hs
    obtain ⟨⟨cls, dd, data, sl⟩, ho, hc, n, hd⟩ := pl
    simp only at hc hd
    subst hc hd
    obtain ⟨u, hu, ru⟩ := rv.get hz
    obtain ⟨hjl, hje⟩ := List.getElem?_eq_some_iff.mp hu
    have hvl := rv.length
    have hj : j < its.toArray.size := by simpa using hjl
    refine call_meets PySem.F.slot_tuple_index ⟨_, ho, rfl⟩ PySem.F.entry_tuple_index (PySem.F.args_tuple_index_2 _ _)
      (TI.tuple_indexAt a its.toArray n dd sl uy (eqU y) j hj ?_ ?_) ⟨ho, fun u' hu' => mem_eqAt ry fy rv fys u' (by simpa using hu'), ⟨.int (j : Nat), H, I.tok _, ⟨_, rfl⟩, q⟩⟩
    · have e1 : its.toArray[j] = u := by simpa using hje
      rw [e1, eqU_of ru (flat_at fys hz)]
      exact hzj
    · intro m hm hmj
      have hml : m < its.length := by simpa using hm
      have hmy : m < ys.length := by omega
      have hy' : ys[m]? = some ys[m] := List.getElem?_eq_getElem hmy
      obtain ⟨u2, hu2, ru2⟩ := rv.get hy'
      obtain ⟨_, hm2⟩ := List.getElem?_eq_some_iff.mp hu2
      have e2 : its.toArray[m] = u2 := by simpa using hm2
      rw [e2, eqU_of ru2 (flat_at fys hy')]
      exact hno m _ hmj hy'
/-- name = {k: v for ..} -/
theorem ps_setDc {i : Nat} {y : Str} {py : Pos} {kx vx tg iter : Expr} {ifs : List Expr} {scope : Scope} {own : List (Str × Nat)} {pos spos : Pos} {wi : TI} {g : TG} {tt : TT} {tk tv : TE} (hc : X.calm = true) (hN : X.N.Nodup) (hy : X.N[i]? = some y) (hyl : X.env.scope.names.lookup y = some .local)
    (hsw : swapsWith (.DictComp kx vx [⟨tg, iter, ifs, 0⟩] scope pos) (some (.Name y py)) spos.line X.env = pure true) (hi : PI X tg iter wi) (ok : BlkOk X.N X.env.scope scope own)
    (hg : ∀ (s : Shared) (H : Hp) (C : Addr) (cl : List (Str × Addr)) (fp : List Addr), PG (X.blk s H scope (compEnvC scope cl C X.env) fp) tg g) (ht : ∀ (s : Shared) (H : Hp) (C : Addr) (cl : List (Str × Addr)) (fp : List Addr), PTs (X.blk s H scope (compEnvC scope cl C X.env) fp) ifs tt)
    (hk : ∀ (s : Shared) (H : Hp) (C : Addr) (cl : List (Str × Addr)) (fp : List Addr), PE (X.blk s H scope (compEnvC scope cl C X.env) fp) kx tk)
    (he : ∀ (s : Shared) (H : Hp) (C : Addr) (cl : List (Str × Addr)) (fp : List Addr), PE (X.blk s H scope (compEnvC scope cl C X.env) fp) vx tv) (hs : ∀ x, foldedSetIterable iter X.env x = pure x := by intro _; rfl) :
    PS X (.Assign [.Name y py] (.DictComp kx vx [⟨tg, iter, ifs, 0⟩] scope pos) spos) (tAsg (tDc wi g tt tk tv (own.map (·.2))) (gName i)) := by
  refine ⟨fun pins s σ H D I h => ?_⟩
  rw [exec_Assign_Name_used _ _ _ _ hsw]
  refine wpAny_bind (wpAny_standAt (wpAny_bind ?_))
  show wpAny _ X.A (do let _ ← comprehension (.DictComp kx vx [⟨tg, iter, ifs, 0⟩] scope pos) scope X.env (firstIterPos [⟨tg, iter, ifs, 0⟩] pos) newDict false (eval iter X.env) (some (assign (.Name y py) X.env))) _ _ s
  have h : tDc wi g tt tk tv (own.map (·.2)) σ H (fun x H1 => gName i x σ H1 D.nx) := h
  refine wpAny_bind (thn (dc_core (Qf := fun _ s' => SP X pins D .next s') hc hN I hi ok hg ht hk he hs h fun L C s' m H' I' q hn f => ?_) fun _ s' hq => wpAny_pure (wpAny_pure hq))
  show wpAny _ _ (assign (.Name y py) X.env (.ref L)) _ _ _
  refine wpAny_assign_Name (store_ok2 (v := V.ref L) I' hN hy (.inl hyl) rfl (fun s2 I2 ⟨a, sb, ha⟩ => ?_) (.inr hyl))
  obtain ⟨f0, f1, f2, f3, f4, f5⟩ := f
  have haC : C ≠ a := by
    rcases ha with z | z
    · rw [z]; exact f1
    · exact fun e => f4 y a z e.symm
  refine ⟨m, hn.sameBut sb haC, fun h3 sb3 => ?_⟩
  exact ⟨_, H', I2.turned (t' := s2.toks) (fun b o hb e => (sb3.2 b hb).trans e) f0 f1 f3 f4 f5, q⟩
end
end NX

/-! MP2, part k: tests, lists of expressions, calls, items. -/
namespace MP
open PySem PySem.Spec L2
section
variable {G : Gb} {N : List Str} {sc : Scope} {fn : Str → Bool} {cl : Bs} {W : WX} {cf : CF} {lv : Nat} {X : Cx} {pos : Pos}
theorem bind_ok {α β : Type} {r : Res α} {f : α → Store → Res β} {b : β} {st' : Store} (h : r.bind f = .ok b st') : ∃ a st, r = .ok a st ∧ f a st = .ok b st' := by
  cases r with
  | ok a st => exact ⟨a, st, rfl, h⟩
  | exc _ _ _ => cases h
  | stuck => cases h
theorem chain_t {c c' : Cm} {a b e : E} {σ : L2.St} {H : Hp} {Q : Bool → Hp → Prop} (q : tC X.K cl W cf (.chain c c' a b e) σ H Q) : tE X.K cl W cf (.chain c c' a b e) σ H fun x H' => ∃ k, x = .bl k ∧ Q k H' := by
  obtain ⟨F, ρ, env, st, hS, hE, p⟩ := q
  refine ⟨F, ρ, env, st, hS, hE, ?_⟩
  cases hr : evalE cf (.chain c c' a b e) env st with
  | stuck => rw [hr] at p ⊢; exact p
  | exc c x st1 => rw [hr] at p ⊢; exact p
  | ok v st1 =>
    have hb : ∃ k, v = tB k := by
      simp only [evalE] at hr
      obtain ⟨x, s1, _, h⟩ := bind_ok hr
      obtain ⟨y, s2, _, h⟩ := bind_ok h
      obtain ⟨k, s3, _, h⟩ := bind_ok h
      cases k with
      | false => cases h; exact ⟨false, rfl⟩
      | true =>
        obtain ⟨z, s4, _, h⟩ := bind_ok h
        cases ho : ((rd s4 y).bind fun y => (rd s4 z).bind fun z => cmpD c' y z) with
        | none => rw [ho] at h; cases h
        | some b => rw [ho] at h; cases h; exact ⟨b, rfl⟩
    obtain ⟨k, rfl⟩ := hb
    rw [hr] at p ⊢
    intro F2 ρ2 H2 u s q r
    have e : u = .bl k := TR.bool_iff (F := F2) (ρ := ρ2) (K := X.K) (H := H2) r
    exact ⟨k, e, p F2 ρ2 H2 k s q rfl⟩
theorem t_chain (x : XOk G N sc fn cl W cf lv X) {c c' : Cm} {a b e : E} {l r r' : Expr} (ha : PEx X cl W cf a l) (hb : PEx X cl W cf b r) (he : PEx X cl W cf e r') (h1 : isSet r = false) (h2 : isSet r' = false) :
    PTx X cl W cf (.chain c c' a b e) (.Compare l [c.py, c'.py] [r, r'] pos) :=
  PT.imp (pt_chain (ob_cmp x.units c) (ob_cmp x.units c') ha.s hb.s he.s (noMark h2)) fun σ H Q q => chain_imp (chain_t q)
theorem tand_imp {a b : E} {σ : L2.St} {H : Hp} {Q : Bool → Hp → Prop} (q : tC X.K cl W cf (.and a b) σ H Q) : tAnd (tC X.K cl W cf a) (tC X.K cl W cf b) σ H Q := by
  obtain ⟨F, ρ, env, st, hS, hE, p⟩ := q
  simp only [evalE, truthOf_bind] at p
  refine ⟨F, ρ, env, st, hS, hE, ?_⟩
  unfold truthOf
  cases hr : settled (evalE cf a env st) with
  | stuck => rw [hr] at p ⊢; exact p
  | exc c x st1 => rw [hr] at p ⊢; exact p
  | ok x st1 =>
    rw [hr] at p ⊢
    simp only [Res.bind] at p ⊢
    split at p
    · exact fun F2 ρ2 H2 k s q r => by
        cases (show k = true from r)
        exact ⟨F2, ρ2, env, st1, q, s.er hE, Post.step s p⟩
    · exact fun F2 ρ2 H2 k s q r => by
        cases (show k = false from r)
        exact p F2 ρ2 H2 false s q rfl
    · exact p.elim
theorem tor_imp {a b : E} {σ : L2.St} {H : Hp} {Q : Bool → Hp → Prop} (q : tC X.K cl W cf (.or a b) σ H Q) : tOr (tC X.K cl W cf a) (tC X.K cl W cf b) σ H Q := by
  obtain ⟨F, ρ, env, st, hS, hE, p⟩ := q
  simp only [evalE, truthOf_bind] at p
  refine ⟨F, ρ, env, st, hS, hE, ?_⟩
  unfold truthOf
  cases hr : settled (evalE cf a env st) with
  | stuck => rw [hr] at p ⊢; exact p
  | exc c x st1 => rw [hr] at p ⊢; exact p
  | ok x st1 =>
    rw [hr] at p ⊢
    simp only [Res.bind] at p ⊢
    split at p
    · exact fun F2 ρ2 H2 k s q r => by
        cases (show k = false from r)
        exact ⟨F2, ρ2, env, st1, q, s.er hE, Post.step s p⟩
    · exact fun F2 ρ2 H2 k s q r => by
        cases (show k = true from r)
        exact p F2 ρ2 H2 true s q rfl
    · exact p.elim
theorem pw_of {op : BoolOp} {vs : List Expr} {t : TT} (h : PT X (.BoolOp op vs pos) t) : PW X (.BoolOp op vs pos) t := ⟨fun _ pins s σ H Q I q => h.run pins s σ H Q I q⟩
theorem t_and2 (x : XOk G N sc fn cl W cf lv X) {a b : E} {l r : Expr} (ha : PTx X cl W cf a l) (hb : PTx X cl W cf b r) : PTx X cl W cf (.and a b) (.BoolOp .And [l, r] pos) :=
  PT.imp (PW.pt (pw_and ha (pw_and1 hb))) fun σ H Q q => tand_imp q
theorem t_and (x : XOk G N sc fn cl W cf lv X) {a b : E} {l r : Expr} {rs : List Expr} (ha : PTx X cl W cf a l) (hb : PTx X cl W cf b (.BoolOp .And (r :: rs) pos)) : PTx X cl W cf (.and a b) (.BoolOp .And (l :: r :: rs) pos) :=
  PT.imp (PW.pt (pw_and ha (pw_of hb))) fun σ H Q q => tand_imp q
theorem t_or2 (x : XOk G N sc fn cl W cf lv X) {a b : E} {l r : Expr} (ha : PTx X cl W cf a l) (hb : PTx X cl W cf b r) : PTx X cl W cf (.or a b) (.BoolOp .Or [l, r] pos) :=
  PT.imp (PW.pt (pw_or ha (pw_or1 hb))) fun σ H Q q => tor_imp q
theorem t_or (x : XOk G N sc fn cl W cf lv X) {a b : E} {l r : Expr} {rs : List Expr} (ha : PTx X cl W cf a l) (hb : PTx X cl W cf b (.BoolOp .Or (r :: rs) pos)) : PTx X cl W cf (.or a b) (.BoolOp .Or (l :: r :: rs) pos) :=
  PT.imp (PW.pt (pw_or ha (pw_of hb))) fun σ H Q q => tor_imp q
theorem t_not (x : XOk G N sc fn cl W cf lv X) {a : E} {l : Expr} (ha : PTx X cl W cf a l) : PTx X cl W cf (.not a) (.UnaryOp .Not l pos) := by
  refine PT.imp (pt_not ha) fun σ H Q q => ?_
  obtain ⟨F, ρ, env, st, hS, hE, p⟩ := q
  simp only [evalE, truthOf_bind] at p
  refine tC1 hS hE p fun F2 ρ2 H2 b st2 q2 e2 p2 => ?_
  exact p2 F2 ρ2 H2 _ .refl q2 rfl
theorem pt_ifE {c a b : Expr} {tc ta tb : TT} (hc : PT X c tc) (ha : PT X a ta) (hb : PT X b tb) : PT X (.IfExp c a b pos) (fun σ H Q => tc σ H fun k H1 => if k = true then ta σ H1 Q else tb σ H1 Q) := by
  refine ⟨fun pins s σ H Q I h => ?_⟩
  rw [PySem.isTrue]
  refine wpAny_bind (thn (hc.run pins s σ H _ I h) fun d s1 ⟨H1, I1, q1⟩ => ?_)
  cases d with
  | true => exact ha.run pins s1 σ H1 Q I1 q1
  | false => exact hb.run pins s1 σ H1 Q I1 q1
theorem t_ite (x : XOk G N sc fn cl W cf lv X) {c a b : E} {t l r : Expr} (hc : PTx X cl W cf c t) (ha : PTx X cl W cf a l) (hb : PTx X cl W cf b r) : PTx X cl W cf (.ite c a b) (.IfExp t l r pos) := by
  refine PT.imp (pt_ifE hc ha hb) fun σ H Q q => ?_
  obtain ⟨F, ρ, env, st, hS, hE, p⟩ := q
  simp only [evalE, truthOf_bind] at p
  refine tC1 hS hE p fun F2 ρ2 H2 b st2 q2 e2 p2 => ?_
  cases b with
  | true => exact ⟨F2, ρ2, env, st2, q2, e2, p2⟩
  | false => exact ⟨F2, ρ2, env, st2, q2, e2, p2⟩
/-! ### argument lists -/
theorem a_nil : PA X [] (tTs X.K cl W cf []) := by
  refine PA.imp pa_nil fun σ H Q q => ?_
  obtain ⟨F, ρ, env, st, hS, hE, p⟩ := q
  simp only [evalTs] at p
  exact p F ρ H [] .refl hS .nil
theorem a_cons {c : E} {cs : List E} {e : Expr} {es : List Expr} (h1 : PEx X cl W cf c e) (h2 : PA X es (tTs X.K cl W cf cs)) (hn : notStar e = true) : PA X (e :: es) (tTs X.K cl W cf (c :: cs)) := by
  refine PA.imp (pa_cons h1.s h2 (star_ok hn)) fun σ H Q q => ?_
  obtain ⟨F, ρ, env, st, hS, hE, p⟩ := q
  simp only [evalTs] at p
  refine ⟨F, ρ, env, st, hS, hE, Post.bind p fun x st1 F1 ρ1 H1 v s1 q1 r1 p1 => ?_⟩
  refine ⟨F1, ρ1, env, st1, q1, s1.er hE, Post.bind p1 fun xs st2 F2 ρ2 H2 vs s2 q2 r2 p2 => ?_⟩
  exact p2 F2 ρ2 H2 _ .refl q2 (.cons (s2.tr r1) r2)
theorem evalTs_len : ∀ {cs : List E} {env : Env} {st st' : Store} {xs : List T}, evalTs cf cs env st = .ok xs st' → xs.length = cs.length
  | [], env, st, st', xs, h => by simp only [evalTs] at h; cases h; rfl
  | c :: cs, env, st, st', xs, h => by
    simp only [evalTs] at h
    obtain ⟨_, _, _, h⟩ := bind_ok h
    obtain ⟨ys, s2, h1, h⟩ := bind_ok h
    cases h
    simp [evalTs_len h1]
theorem e_tup (x : XOk G N sc fn cl W cf lv X) {es : List E} {xs : List Expr} {k : Nat} (h : PA X xs (tTs X.K cl W cf es)) (hl : es.length ≤ big) : PEx X cl W cf (.tup es) (.Tuple xs k pos) := by
  refine PE.imp (pe_tup h) fun σ H Q q => ?_
  obtain ⟨F, ρ, env, st, hS, hE, p⟩ := q
  simp only [evalE] at p
  refine ⟨F, ρ, env, st, hS, hE, ?_⟩
  cases hr : evalTs cf es env st with
  | ok ds st1 =>
    rw [hr] at p ⊢
    intro F1 ρ1 H1 vs s1 q1 r1
    have hlen : ds.length ≤ big := by rw [evalTs_len hr]; exact hl
    refine ⟨by rw [← TRs.length r1, ← big_size]; exact hlen, fun a ha => ?_⟩
    obtain ⟨F2, s2, q2, r2⟩ := q1.newT ha hlen r1
    exact p F2 ρ1 _ _ (s1.trans s2) q2 r2
  | exc c x st1 => rw [hr] at p ⊢; exact p
  | stuck => rw [hr] at p ⊢; exact p
theorem e_lst (x : XOk G N sc fn cl W cf lv X) {es : List E} {xs : List Expr} (h : PA X xs (tTs X.K cl W cf es)) (hl : es.length ≤ big) : PEx X cl W cf (.lst es) (.List xs pos) := by
  refine PE.imp (pe_lst h) fun σ H Q q => ?_
  obtain ⟨F, ρ, env, st, hS, hE, p⟩ := q
  simp only [evalE] at p
  refine ⟨F, ρ, env, st, hS, hE, ?_⟩
  cases hr : evalTs cf es env st with
  | ok ds st1 =>
    rw [hr] at p ⊢
    intro F1 ρ1 H1 vs s1 q1 r1
    have hlen : ds.length ≤ big := by rw [evalTs_len hr]; exact hl
    refine ⟨by rw [← TRs.length r1, ← big_size]; exact hlen, fun a ha => ?_⟩
    obtain ⟨s2, q2, r2⟩ := q1.newL ha hlen r1
    exact p F1 ρ1 _ _ (s1.trans s2) q2 r2
  | exc c x st1 => rw [hr] at p ⊢; exact p
  | stuck => rw [hr] at p ⊢; exact p
/-! ### displays with stars -/
def tSs (K : Fg) (cl : Bs) (W : WX) (cf : CF) (cs : List E) (bs : List Bool) : TA := fun σ H Q => Sta cl K σ H fun F ρ env st => Post (RTs_ K) cl W σ F ρ K H (evalSs cf cs bs env st) Q
theorem d_nil {bs : List Bool} : PA X [] (tSs X.K cl W cf [] bs) := by
  refine PA.imp pa_nil fun σ H Q q => ?_
  obtain ⟨F, ρ, env, st, hS, hE, p⟩ := q
  simp only [evalSs] at p
  exact p F ρ H [] .refl hS .nil
theorem d_cons {c : E} {cs : List E} {bs : List Bool} {e : Expr} {es : List Expr} (hb : bs.headD false = false) (h1 : PEx X cl W cf c e) (h2 : PA X es (tSs X.K cl W cf cs bs.tail)) (hn : notStar e = true) : PA X (e :: es) (tSs X.K cl W cf (c :: cs) bs) := by
  refine PA.imp (pa_cons h1.s h2 (star_ok hn)) fun σ H Q q => ?_
  obtain ⟨F, ρ, env, st, hS, hE, p⟩ := q
  simp only [evalSs, hb] at p
  refine ⟨F, ρ, env, st, hS, hE, Post.bind p fun x st1 F1 ρ1 H1 v s1 q1 r1 p1 => ?_⟩
  have p1' : Post (RTs_ X.K) cl W σ F1 ρ1 X.K H1 ((evalSs cf cs bs.tail env st1).bind fun vs st2 => .ok ([x] ++ vs) st2) Q := p1
  refine ⟨F1, ρ1, env, st1, q1, s1.er hE, Post.bind p1' fun xs st2 F2 ρ2 H2 vs s2 q2 r2 p2 => ?_⟩
  exact p2 F2 ρ2 H2 _ .refl q2 (.cons (s2.tr r1) r2)
theorem SR.seqOf {tt : List (Addr × Str)} {F : FS} {ρ : List Addr} {K : Fg} {st : Store} {H : Hp} (s : SR tt F ρ K st H) {t : T} {v : V} {ws : List T} (h : TR F ρ K H t v) (e : MP.seqOf (view st t) = some ws) : ∃ a vs, v = .ref a ∧ (SqT K H a vs ∨ SqL K H a vs) ∧ ws.length ≤ big ∧ TRs F ρ K H ws vs := by
  cases hv : view st t with
  | lst ts =>
    rw [hv] at e
    cases e
    obtain ⟨a, vs, e1, e2, e3, e4⟩ := s.vlst h hv
    exact ⟨a, vs, e1, .inr (.inl e2), e3, e4⟩
  | tup ts =>
    rw [hv] at e
    cases e
    obtain ⟨a, vs, e1, e2, e3, e4⟩ := s.vtup h hv
    exact ⟨a, vs, e1, .inl e2.sq, e3, e4⟩
  | dat x => rw [hv] at e; cases e
  | dct ks ts => rw [hv] at e; cases e
  | bad => rw [hv] at e; cases e
theorem d_star {c : E} {cs : List E} {bs : List Bool} {e : Expr} {es : List Expr} {sp : Pos} (hb : bs.headD false = true) (h1 : PEx X cl W cf c e) (h2 : PA X es (tSs X.K cl W cf cs bs.tail)) : PA X (.Starred e sp :: es) (tSs X.K cl W cf (c :: cs) bs) := by
  refine PA.imp (StX.pa_star h1.s h2) fun σ H Q q => ?_
  obtain ⟨F, ρ, env, st, hS, hE, p⟩ := q
  simp only [evalSs, hb, if_true] at p
  refine ⟨F, ρ, env, st, hS, hE, Post.bind p fun x st1 F1 ρ1 H1 v s1 q1 r1 p1 => ?_⟩
  cases hs : seqOf (view st1 x) with
  | none => rw [hs] at p1; exact p1.elim
  | some ws =>
    rw [hs] at p1
    obtain ⟨a, vs, rfl, e2, e3, e4⟩ := q1.seqOf r1 hs
    have p1' : Post (RTs_ X.K) cl W σ F1 ρ1 X.K H1 ((evalSs cf cs bs.tail env st1).bind fun vs st2 => .ok (ws ++ vs) st2) Q := p1
    refine ⟨a, vs, rfl, e2, F1, ρ1, env, st1, q1, s1.er hE, Post.bind p1' fun xs st2 F2 ρ2 H2 us s2 q2 r2 p2 => ?_⟩
    exact p2 F2 ρ2 H2 _ .refl q2 ((s2.trs e4).append r2)
theorem e_dispT (x : XOk G N sc fn cl W cf lv X) {es : List E} {bs : List Bool} {xs : List Expr} {k : Nat} (h : PA X xs (tSs X.K cl W cf es bs)) : PEx X cl W cf (.disp true bs es) (.Tuple xs k pos) := by
  refine PE.imp (pe_tup h) fun σ H Q q => ?_
  obtain ⟨F, ρ, env, st, hS, hE, p⟩ := q
  simp only [evalE] at p
  refine ⟨F, ρ, env, st, hS, hE, ?_⟩
  cases hr : evalSs cf es bs env st with
  | ok ds st1 =>
    rw [hr] at p ⊢
    have p' : Post (RV_ X.K) cl W σ F ρ X.K H (if ds.length ≤ big then .ok (.t (mkTup ds)) st1 else .stuck) Q := p
    split at p'
    · rename_i hlen
      intro F1 ρ1 H1 vs s1 q1 r1
      refine ⟨by rw [← TRs.length r1, ← big_size]; exact hlen, fun a ha => ?_⟩
      obtain ⟨F2, s2, q2, r2⟩ := q1.newT ha hlen r1
      exact p' F2 ρ1 _ _ (s1.trans s2) q2 r2
    · exact p'.elim
  | exc c x st1 => rw [hr] at p ⊢; exact p
  | stuck => rw [hr] at p ⊢; exact p
theorem e_dispL (x : XOk G N sc fn cl W cf lv X) {es : List E} {bs : List Bool} {xs : List Expr} (h : PA X xs (tSs X.K cl W cf es bs)) : PEx X cl W cf (.disp false bs es) (.List xs pos) := by
  refine PE.imp (pe_lst h) fun σ H Q q => ?_
  obtain ⟨F, ρ, env, st, hS, hE, p⟩ := q
  simp only [evalE] at p
  refine ⟨F, ρ, env, st, hS, hE, ?_⟩
  cases hr : evalSs cf es bs env st with
  | ok ds st1 =>
    rw [hr] at p ⊢
    have p' : Post (RV_ X.K) cl W σ F ρ X.K H (if ds.length ≤ big then .ok (.new ds) st1 else .stuck) Q := p
    split at p'
    · rename_i hlen
      intro F1 ρ1 H1 vs s1 q1 r1
      refine ⟨by rw [← TRs.length r1, ← big_size]; exact hlen, fun a ha => ?_⟩
      obtain ⟨s2, q2, r2⟩ := q1.newL ha hlen r1
      exact p' F1 ρ1 _ _ (s1.trans s2) q2 r2
    · exact p'.elim
  | exc c x st1 => rw [hr] at p ⊢; exact p
  | stuck => rw [hr] at p ⊢; exact p
theorem e_dct0 (x : XOk G N sc fn cl W cf lv X) : PEx X cl W cf (.dct [] []) (.Dict [] [] pos) := by
  refine PE.imp pe_dnewK fun σ H Q q => ?_
  obtain ⟨F, ρ, env, st, hS, hE, p⟩ := q
  simp only [evalE, evalTs, Res.bind] at p
  intro d hd
  have p' : Post (RV_ X.K) cl W σ F ρ X.K H (.ok (.newD [] []) st) Q := p
  obtain ⟨a, b, c, e⟩ := hS.grow (o := .dK []) hd
  exact p' F ρ _ _ a b ⟨d, [], rfl, c, e, upd_same, rfl, Nat.zero_le _, .nil⟩
/-- a thing that is to be changed later -/
theorem e_al (x : XOk G N sc fn cl W cf lv X) {a : E} {e : Expr} (ha : PEx X cl W cf a e) : PEx X cl W cf (.al a) e := by
  refine PE.imp ha fun σ H Q q => ?_
  obtain ⟨F, ρ, env, st, hS, hE, p⟩ := q
  simp only [evalE] at p
  refine ⟨F, ρ, env, st, hS, hE, ?_⟩
  cases hr : evalE cf a env st with
  | stuck => rw [hr] at p ⊢; exact p
  | exc c x st1 => rw [hr] at p ⊢; exact p
  | ok v st1 =>
    rw [hr] at p ⊢
    intro F1 ρ1 H1 u s1 q1 r1
    cases ha : alloc (Res.ok v st1) with
    | stuck => rw [ha] at p; exact p.elim
    | exc c x st2 =>
      exfalso
      cases v with
      | t t => cases ha
      | new xs =>
        have ha' : (if olds st1.length xs then Res.ok (T.ref st1.length) (st1 ++ [Cell.lst xs]) else .stuck) = .exc c x st2 := ha
        split at ha' <;> cases ha'
      | newD ks xs =>
        have ha' : (if olds st1.length xs then Res.ok (T.ref st1.length) (st1 ++ [Cell.dct ks xs]) else .stuck) = .exc c x st2 := ha
        split at ha' <;> cases ha'
    | ok t st2 =>
      rw [ha] at p
      obtain ⟨ρ2, s2, q2, r2⟩ := q1.alloc r1 ha
      exact p F1 ρ2 H1 u (s1.trans s2) q2 r2
end
end MP

/-! MP2, part l: calls, items, slices, methods. -/
namespace MP
open PySem PySem.Spec L2
section
variable {G : Gb} {N : List Str} {sc : Scope} {fn : Str → Bool} {cl : Bs} {W : WX} {cf : CF} {lv : Nat} {X : Cx} {pos : Pos}
theorem Post.wish {α β : Type} {R : FS → List Addr → Hp → α → β → Prop} {σ : L2.St} {F : FS} {ρ : List Addr} {K : Fg} {H : Hp} {r : Res α} {Q : β → Hp → Prop} (h : Post R cl W σ F ρ K H r Q) : Post R cl (fun c d _ H => W c d σ H) [] F ρ K H r Q := by
  cases r with
  | ok a st => exact h
  | exc c x st => exact h
  | stuck => exact h
theorem e_call (x : XOk G N sc fn cl W cf lv X) {f : Nat} {nm : Str} {es : List E} {y : Expr} {ys : List Expr} {p : Pos} (hf : G.fns[f]? = some nm) (hg : gl sc nm = true) (hp : plainName nm = true) (ha : PA X (y :: ys) (tTs X.K cl W cf es)) (hs : okEs G N es sc (y :: ys) = true) :
    PEx X cl W cf (.call f es) (.Call (.Name nm p) (y :: ys) [] pos) := by
  refine ⟨fun pins s σ H Q I h => ?_⟩
  obtain ⟨fa, fd, ps, hm, hk, FG, hb, _⟩ := x.calls f nm hf
  have h' : tTs X.K cl W cf es σ H fun vs H1 => spF X.K cl cf f vs H1 Q fun c d H => W c d σ H := by
    obtain ⟨F, ρ, env, st, hS, hE, p⟩ := h
    simp only [evalE] at p
    exact ⟨F, ρ, env, st, hS, hE, Post.bind p fun xs st1 F1 ρ1 H1 vs s1 q1 r1 p1 => ⟨F1, ρ1, st1, xs, q1, r1, p1.wish⟩⟩
  cases es with
  | nil => simp [okEs] at hs
  | cons c cs =>
    simp only [okEs, Bool.and_eq_true] at hs
    have hst := hs.1.2
    obtain ⟨hp1, _⟩ := stars_ok (env := X.env) (pos := pos) hs.2
    refine wpAny_Call_Name_kw (ld_glob I (gl_ok x hg) hm ?_ (plain_ok hp).1)
    refine PySem.W.callWith_K (h₀ := X.base) I.ok.mod.kin hk (thn (ha.run pos pins s σ H _ I h') fun us s1 ⟨vs, H1, I1, r, q⟩ => ⟨I1.kIn, ?_⟩) (star_ok hst) hp1
    have hl : us.length = ps.length := by rw [← r.length]; exact FG.len _ _ _ _ q
    have hbb := hb s1 us I1.kIn (by rw [List.append_nil]; exact hl)
    rw [List.append_nil] at hbb
    refine wpAny_call (codeAny_mono (FG.run X.A X.stack s1 H1 ⟨us, []⟩ us vs Q _ x.room x.guards I1.env0 hbb r q) fun rr s' hq => ?_)
    cases rr with
    | error e => exact x.takes e s' (XE.of_call I1 (fun cls d H' h => h) hq)
    | ok fl =>
      cases fl with
      | ret u => exact I1.after hq
      | next => exact hq.elim
      | brk => exact hq.elim
      | cont => exact hq.elim
theorem prim_imp {p : Prim} {es : List E} {σ : L2.St} {H : Hp} {Q : VK} (h : tE X.K cl W cf (.prim p es) σ H Q) : tCB (rPrim X.K p) (tTs X.K cl W cf es) σ H Q := by
  obtain ⟨F, ρ, env, st, hS, hE, pp⟩ := h
  simp only [evalE] at pp
  refine ⟨F, ρ, env, st, hS, hE, Post.bind pp fun xs st1 F1 ρ1 H1 vs s1 q1 r1 p1 => ?_⟩
  obtain ⟨v, e, p2⟩ := Post.lift p1
  exact ⟨cl.tt, F1, ρ1, st1, xs, v, q1, r1, e, p2⟩
theorem e_prim (x : XOk G N sc fn cl W cf lv X) {p : Prim} {es : List E} {y : Expr} {ys : List Expr} {pn : Pos} (hg : gl sc p.py = true) (hf : p.py ∈ G.free) (hp : plainName p.py = true) (ha : PA X (y :: ys) (tTs X.K cl W cf es)) (hs : okEs G N es sc (y :: ys) = true) :
    PEx X cl W cf (.prim p es) (.Call (.Name p.py pn) (y :: ys) [] pos) := by
  have R := ob_prim x.smod x.calm x.guards x.units p
  have hv := Prim.boot p
  obtain ⟨p1, p2, p3⟩ := plain_ok hp
  cases es with
  | nil => simp [okEs] at hs
  | cons c cs =>
    simp only [okEs, Bool.and_eq_true] at hs
    have hst := star_ok (es := ys) (env := X.env) hs.1.2
    obtain ⟨hp1, _⟩ := stars_ok (env := X.env) (pos := pos) hs.2
    cases hval : p.val with
    | builtin id =>
      rw [hval] at R hv
      exact PE.imp (pe_callB R (gl_ok x hg) (x.free _ hf) hv ha p3 p1 hst hp1) fun σ H Q h => prim_imp h
    | type T =>
      rw [hval] at R hv
      exact PE.imp (pe_callTy R (gl_ok x hg) (x.free _ hf) hv ha p3 p1 hst hp1) fun σ H Q h => prim_imp h
    | _ => cases p <;> simp [Prim.val] at hval
theorem Ty.boot (t : Ty) : bootBuiltins (t.py : String) = some (.type t.py) := by cases t <;> decide +kernel
theorem e_isi (x : XOk G N sc fn cl W cf lv X) {a : E} {t : Ty} {y : Expr} {p1 p2 : Pos} (h1 : gl sc "isinstance" = true) (h2 : ("isinstance" : Str) ∈ G.free) (h3 : gl sc (t.py : String) = true) (h4 : ((t.py : String) : Str) ∈ G.free) (ha : PEx X cl W cf a y) (hs : notStar y = true) :
    PEx X cl W cf (.isi a t) (.Call (.Name "isinstance" p1) [y, .Name (t.py : String) p2] [] pos) := by
  have pz : PE X (.Name (t.py : String) p2) (L2.tC (.ty t.py)) := pe_bltn (gl_ok x h3) (x.free _ h4) (Ty.boot t) rfl (by cases t <;> decide) (by cases t <;> decide)
  refine PE.imp (pe_callB (ob_isi t) (gl_ok x h1) (x.free _ h2) (by decide +kernel) (pa_cons ha.s (pa_cons pz pa_nil) (star_ok hs)) (by decide) (by decide) (star_ok hs) rfl) fun σ H Q q => ?_
  obtain ⟨F, ρ, env, st, hS, hE, p⟩ := q
  simp only [evalE] at p
  refine tS1 hS hE p fun F2 ρ2 H2 d vx st2 q2 e2 r p2 => ?_
  obtain ⟨rv, e, p3⟩ := Post.lift p2
  obtain ⟨b, e', rfl⟩ := Option.map_eq_some_iff.mp e
  exact ⟨cl.tt, F2, ρ2, st2, d, vx, b, rfl, q2, r, e', p3 F2 ρ2 H2 _ .refl q2 rv_bool⟩
theorem e_ix (x : XOk G N sc fn cl W cf lv X) {a i : E} {v s : Expr} (ha : PEx X cl W cf a v) (hi : PEx X cl W cf i s) (hs : isSlice s = false) : PEx X cl W cf (.ix a i) (.Subscript v s pos) := by
  refine PE.imp (pe_ix (ob_ix (by have := x.units; omega)) ha.s hi.s (plainIx_ok hs)) fun σ H Q q => ?_
  obtain ⟨F, ρ, env, st, hS, hE, p⟩ := q
  simp only [evalE] at p
  refine tS2 hS hE p fun F2 ρ2 H2 x y vx vy st2 q2 e2 r1 r2 p2 => ?_
  obtain ⟨v, e, p3⟩ := Post.lift p2
  obtain ⟨tz, e', rfl⟩ := Option.map_eq_some_iff.mp e
  exact ⟨cl.tt, F2, ρ2, st2, x, y, tz, q2, r1, r2, e', p3⟩
abbrev RO_ : FS → List Addr → Hp → Option Int → Option Int → Prop := fun _ _ _ o o' => o' = o
def tO (K : Fg) (cl : Bs) (W : WX) (cf : CF) (c : E) : TO := fun σ H Q => Sta cl K σ H fun F ρ env st => Post RO_ cl W σ F ρ K H (evalO cf c env st) Q
theorem o_none : PO X none (tO X.K cl W cf .hole) := by
  have h := po_none (X := X)
  refine ⟨fun pins s σ H Q I q => h.run pins s σ H Q I ?_⟩
  obtain ⟨F, ρ, env, st, hS, hE, p⟩ := q
  simp only [evalO] at p
  exact p F ρ H none .refl hS rfl
theorem evalO_eq {c : E} {env : Env} {st : Store} (hc : c ≠ .hole) : evalO cf c env st = (settled (evalE cf c env st)).bind fun x st1 => match view st1 x with
    | .dat (.int i) => .ok (some i) st1
    | _ => .stuck := by
  cases c <;> first | (exact absurd rfl hc) | (simp only [evalO]; done) | (simp only [evalO]; congr 1)
theorem o_some {c : E} {e : Expr} (h1 : PEx X cl W cf c e) (hc : c ≠ .hole) : PO X (some e) (tO X.K cl W cf c) := by
  have h := po_some h1.s
  refine ⟨fun pins s σ H Q I q => h.run pins s σ H Q I ?_⟩
  obtain ⟨F, ρ, env, st, hS, hE, p⟩ := q
  rw [evalO_eq hc] at p
  refine tS1 hS hE p fun F2 ρ2 H2 d vx st2 q2 e2 r p2 => ?_
  split at p2
  · rename_i i hv
    exact ⟨i, vint r hv, p2 F2 ρ2 H2 _ .refl q2 rfl⟩
  · exact p2.elim
theorem e_sl (x : XOk G N sc fn cl W cf lv X) {a lo hi : E} {v : Expr} {l h : Option Expr} {p2 : Pos} (ha : PEx X cl W cf a v) (hl : PO X l (tO X.K cl W cf lo)) (hh : PO X h (tO X.K cl W cf hi)) : PEx X cl W cf (.sl a lo hi) (.Subscript v (.Slice l h none p2) pos) := by
  refine PE.imp (pe_slice ob_sl ha.s hl hh) fun σ H Q q => ?_
  obtain ⟨F, ρ, env, st, hS, hE, p⟩ := q
  simp only [evalE] at p
  refine ⟨F, ρ, env, st, hS, hE, Post.bind p fun t st1 F1 ρ1 H1 vx s1 q1 r1 p1 => ?_⟩
  refine ⟨F1, ρ1, env, st1, q1, s1.er hE, Post.bind p1 fun o st2 F2 ρ2 H2 o' s2 q2 r2 p2 => ?_⟩
  cases (show o' = o from r2)
  refine ⟨F2, ρ2, env, st2, q2, s2.er (s1.er hE), Post.bind p2 fun o1 st3 F3 ρ3 H3 o1' s3 q3 r3 p3 => ?_⟩
  cases (show o1' = o1 from r3)
  obtain ⟨rv, e, p4⟩ := Post.lift p3
  exact ⟨cl.tt, F3, ρ3, st3, t, rv, q3, s3.tr (s2.tr r1), e, p4⟩
theorem e_meth (x : XOk G N sc fn cl W cf lv X) {m : Meth} {o : E} {es : List E} {v : Expr} {xs : List Expr} {apos : Pos} (ho : PEx X cl W cf o v) (ha : PA X xs (tTs X.K cl W cf es)) (hv : isCall0 v = false) (hline : (apos.endLine == pos.line) = true) (hlen : xs.length < 20)
    (hs : okEs G N es sc xs = true) : PEx X cl W cf (.meth m o es) (.Call (.Attribute v m.nm apos) xs [] pos) := by
  have core : ∀ {σ : L2.St} {H : Hp} {Q : VK}, tE X.K cl W cf (.meth m o es) σ H Q → tS X.K cl W cf o σ H fun x H1 => tyV X.K "list" x H1 ∧ tTs X.K cl W cf es σ H1 fun vs H2 => rMeth X.K m x vs H2 Q := by
    intro σ H Q q
    obtain ⟨F, ρ, env, st, hS, hE, p⟩ := q
    simp only [evalE] at p
    refine ⟨F, ρ, env, st, hS, hE, Post.bind p fun t st1 F1 ρ1 H1 vx s1 q1 r1 p1 => ?_⟩
    cases t with
    | d y => exact p1.elim
    | tup y => exact p1.elim
    | lst y => exact p1.elim
    | dct k y => exact p1.elim
    | ref n =>
      have r1' : TR F1 ρ1 X.K H1 (.ref n) vx := r1
      unfold TR at r1'
      obtain ⟨a, hn, rfl⟩ := r1'
      cases hc : st1[n]? with
      | none => simp only [hc] at p1; exact p1.elim
      | some cc =>
        cases cc with
        | dead => simp only [hc] at p1; exact p1.elim
        | dct k y => simp only [hc] at p1; exact p1.elim
        | lst zs =>
          simp only [hc] at p1
          obtain ⟨ws, g1, _⟩ := q1.cells n _ a hc hn
          refine ⟨.inl ⟨rfl, ws, SqL.of g1⟩, F1, ρ1, env, st1, q1, s1.er hE, Post.bind p1 fun ys st2 F2 ρ2 H2 vs s2 q2 r2 p2 => ?_⟩
          cases hc2 : st2[n]? with
          | none => simp only [hc2] at p2; exact p2.elim
          | some c2 =>
            cases c2 with
            | dead => simp only [hc2] at p2; exact p2.elim
            | dct k y => simp only [hc2] at p2; exact p2.elim
            | lst zs2 =>
              simp only [hc2] at p2
              cases hm : methT st2 m zs2 ys with
              | none => simp only [hm] at p2; exact p2.elim
              | some r =>
                obtain ⟨w, zs3⟩ := r
                simp only [hm] at p2
                split at p2
                · rename_i ho
                  exact ⟨cl.tt, F2, ρ2, st2, n, a, zs2, ys, w, zs3, q2, s2.get hn, rfl, hc2, r2, hm, ho, p2⟩
                · exact p2.elim
  cases xs with
  | nil =>
    cases es with
    | cons => simp [okEs] at hs
    | nil =>
      refine PE.imp (pe_bm0 PySem.F.plainAttrs_list (Meth.slot m) (Meth.ty m) (ob_meth m) ho.s (base_ok hv) hline) fun σ H Q q => ?_
      obtain ⟨F, ρ, env, st, hS, hE, p⟩ := core q
      refine ⟨F, ρ, env, st, hS, hE, Post.map p fun t st1 F1 ρ1 H1 vx er s1 q1 r1 => ?_⟩
      rw [er] at p
      obtain ⟨h1, F2, ρ2, env2, st2, q2, e2, p2⟩ := p F1 ρ1 H1 vx s1 q1 r1
      simp only [evalTs] at p2
      exact ⟨h1, p2 F2 ρ2 H1 [] .refl q2 .nil⟩
  | cons y ys =>
    obtain ⟨hp1, hp2⟩ := stars_ok (env := X.env) (pos := pos) hs
    cases es with
    | nil => simp [okEs] at hs
    | cons c cs =>
      simp only [okEs, Bool.and_eq_true] at hs
      obtain ⟨hp3, _⟩ := stars_ok (env := X.env) (pos := pos) hs.2
      refine PE.imp (pe_bm PySem.F.plainAttrs_list (Meth.slot m) (Meth.ty m) (ob_meth m) ho.s ha (base_ok hv) ?_ hline (star_ok hs.1.2) hp3) fun σ H Q q => core q
      rw [hp2]
      have hl : decide ((y :: ys).length + ([] : List Keyword).length + (if ([] : List Keyword).isEmpty then 0 else 1) < 30) = true := by
        apply decide_eq_true
        simp only [List.length_nil, List.isEmpty_nil, if_true]
        omega
      rw [hl]
      rfl
/-! ### calls without arguments, calls by names -/
theorem e_call0 (x : XOk G N sc fn cl W cf lv X) {f : Nat} {nm : Str} {p : Pos} (hf : G.fns[f]? = some nm) (hg : gl sc nm = true) (hp : plainName nm = true) : PEx X cl W cf (.call f []) (.Call (.Name nm p) [] [] pos) := by
  refine ⟨fun pins s σ H Q I h => ?_⟩
  obtain ⟨fa, fd, ps, hm, hk, FG, hb, _⟩ := x.calls f nm hf
  have q : spF X.K cl cf f [] H Q fun c d H => W c d σ H := by
    obtain ⟨F, ρ, env, st, hS, hE, p⟩ := h
    simp only [evalE, evalTs] at p
    have p' : Post (RV_ X.K) cl W σ F ρ X.K H (cf f [] st) Q := p
    exact ⟨F, ρ, st, [], hS, .nil, p'.wish⟩
  refine wpAny_Call_Name_kw (ld_glob I (gl_ok x hg) hm ?_ (plain_ok hp).1)
  refine PySem.W.callWith_K0 I.kIn hk ?_
  have hl : ([] : List Value).length = ps.length := FG.len _ _ _ _ q
  have hbb := hb s [] I.kIn (by rw [List.append_nil]; exact hl)
  rw [List.append_nil] at hbb
  refine wpAny_call (codeAny_mono (FG.run X.A X.stack s H ⟨[], []⟩ [] [] Q _ x.room x.guards I.env0 hbb .nil q) fun rr s' hq => ?_)
  cases rr with
  | error e => exact x.takes e s' (XE.of_call I (fun cls d H' h => h) hq)
  | ok fl =>
    cases fl with
    | ret u => exact I.after hq
    | next => exact hq.elim
    | brk => exact hq.elim
    | cont => exact hq.elim
theorem pick_vals : ∀ {pm : List Nat} {vs : List V} {us zs : List Value}, Vals vs us → pick us pm = some zs → ∃ ws, pick vs pm = some ws ∧ Vals ws zs
  | [], vs, us, zs, r, e => by cases e; exact ⟨[], rfl, .nil⟩
  | i :: pm, vs, us, zs, r, e => by
    unfold pick at e
    cases h1 : us[i]? with
    | none => simp [h1] at e
    | some u =>
      cases h2 : pick us pm with
      | none => simp [h1, h2] at e
      | some zs' =>
        simp only [h1, h2, Option.some.injEq] at e
        subst e
        obtain ⟨ws, e1, e2⟩ := pick_vals r h2
        have hi : i < vs.length := by rw [r.length]; exact (List.getElem?_eq_some_iff.mp h1).1
        have hv : vs[i]? = some vs[i] := List.getElem?_eq_getElem hi
        obtain ⟨u', g1, g2⟩ := r.get hv
        rw [h1] at g1
        cases g1
        refine ⟨vs[i] :: ws, ?_, .cons g2 e2⟩
        unfold pick
        simp only [hv, e1]
theorem pick_trs {F : FS} {ρ : List Addr} {K : Fg} {H : Hp} : ∀ {pm : List Nat} {xs ys : List T} {vs : List V}, TRs F ρ K H xs vs → pick xs pm = some ys → ∃ ws, pick vs pm = some ws ∧ TRs F ρ K H ys ws
  | [], xs, ys, vs, r, e => by cases e; exact ⟨[], rfl, .nil⟩
  | i :: pm, xs, ys, vs, r, e => by
    unfold pick at e
    cases h1 : xs[i]? with
    | none => simp [h1] at e
    | some u =>
      cases h2 : pick xs pm with
      | none => simp [h1, h2] at e
      | some zs' =>
        simp only [h1, h2, Option.some.injEq] at e
        subst e
        obtain ⟨ws, e1, e2⟩ := pick_trs r h2
        obtain ⟨v, g1, g2⟩ := r.get h1
        refine ⟨v :: ws, ?_, .cons g2 e2⟩
        unfold pick
        simp only [g1, e1]
theorem k_nil : PK X [] (tTs X.K cl W cf []) := by
  have h := pk_nil (X := X)
  refine ⟨fun pos pins s σ H Q I q => h.run pos pins s σ H Q I ?_⟩
  obtain ⟨F, ρ, env, st, hS, hE, p⟩ := q
  simp only [evalTs] at p
  exact p F ρ H [] .refl hS .nil
theorem k_cons {c : E} {cs : List E} {e : Expr} {nm : Option Str} {kp : Pos} {ks : List Keyword} (h1 : PEx X cl W cf c e) (h2 : PK X ks (tTs X.K cl W cf cs)) : PK X (⟨nm, e, kp⟩ :: ks) (tTs X.K cl W cf (c :: cs)) := by
  have h := pk_cons (nm := nm) (kpos := kp) h1.s h2
  refine ⟨fun pos pins s σ H Q I q => h.run pos pins s σ H Q I ?_⟩
  obtain ⟨F, ρ, env, st, hS, hE, p⟩ := q
  simp only [evalTs] at p
  refine ⟨F, ρ, env, st, hS, hE, Post.bind p fun x st1 F1 ρ1 H1 v s1 q1 r1 p1 => ?_⟩
  refine ⟨F1, ρ1, env, st1, q1, s1.er hE, Post.bind p1 fun xs st2 F2 ρ2 H2 vs s2 q2 r2 p2 => ?_⟩
  exact p2 F2 ρ2 H2 _ .refl q2 (.cons (s2.tr r1) r2)
theorem names_ok {env : PySem.Env} {pos : Pos} : ∀ {ns : List Str} {ks : List Keyword}, okNames ns ks = true → (backToKw pos (keywordEach ks env)).filterMap (·.1) = ns ∧ (backToKw pos (keywordEach ks env)).all (·.1.isSome) = true ∧ (backToKw pos (keywordEach ks env)).any (·.1.isNone) = false ∧ ns.length = ks.length
  | [], [], _ => ⟨rfl, rfl, rfl, rfl⟩
  | [], _ :: _, h => by simp [okNames] at h
  | _ :: _, [], h => by simp [okNames] at h
  | n :: ns, ⟨a, e, p⟩ :: ks, h => by
    simp only [okNames, Bool.and_eq_true, decide_eq_true_eq] at h
    obtain ⟨h1, h2⟩ := h
    subst h1
    obtain ⟨i1, i2, i3, i4⟩ := names_ok (env := env) (pos := pos) h2
    refine ⟨?_, ?_, ?_, by simp [i4]⟩
    · show n :: (backToKw pos (keywordEach ks env)).filterMap (·.1) = _
      rw [i1]
    · show (true && (backToKw pos (keywordEach ks env)).all (·.1.isSome)) = true
      rw [i2]
      rfl
    · show (false || (backToKw pos (keywordEach ks env)).any (·.1.isNone)) = false
      rw [i3]
      rfl
theorem e_callk (x : XOk G N sc fn cl W cf lv X) {f : Nat} {pm : List Nat} {nm : Str} {es : List E} {ns : List Str} {kws : List Keyword} {p : Pos} (hf : G.fns[f]? = some nm) (hg : gl sc nm = true) (hp : plainName nm = true) (ha : PK X kws (tTs X.K cl W cf es)) (hl : es.length = kws.length) (hq : (f, ns, pm) ∈ G.kws) (hns : okNames ns kws = true) :
    PEx X cl W cf (.callk f pm es) (.Call (.Name nm p) [] kws pos) := by
  refine ⟨fun pins s σ H Q I h => ?_⟩
  obtain ⟨fa, fd, ps, hm, hk, FG, hb, hkw⟩ := x.calls f nm hf
  obtain ⟨n1, n2, n3, n4⟩ := names_ok (env := X.env) (pos := pos) hns
  have h' : tTs X.K cl W cf es σ H fun vs H1 => vs.length = kws.length ∧ ∃ ws, pick vs pm = some ws ∧ spF X.K cl cf f ws H1 Q fun c d H => W c d σ H := by
    obtain ⟨F, ρ, env, st, hS, hE, p⟩ := h
    simp only [evalE] at p
    refine ⟨F, ρ, env, st, hS, hE, ?_⟩
    cases hr : evalTs cf es env st with
    | stuck => rw [hr] at p ⊢; exact p
    | exc c x st1 => rw [hr] at p ⊢; exact p
    | ok xs st1 =>
      rw [hr] at p ⊢
      intro F1 ρ1 H1 vs s1 q1 r1
      cases hy : pick xs pm with
      | none =>
        have p' : Post (RV_ X.K) cl W σ F ρ X.K H (match pick xs pm with | some ys => cf f ys st1 | none => .stuck) Q := p
        rw [hy] at p'
        exact p'.elim
      | some ys =>
        have p' : Post (RV_ X.K) cl W σ F ρ X.K H (match pick xs pm with | some ys => cf f ys st1 | none => .stuck) Q := p
        rw [hy] at p'
        obtain ⟨ws, w1, w2⟩ := pick_trs (show TRs F1 ρ1 X.K H1 xs vs from r1) hy
        have hlen : vs.length = kws.length := by rw [← TRs.length r1, evalTs_len hr, hl]
        exact ⟨hlen, ws, w1, F1, ρ1, st1, ys, q1, w2, (Post.step s1 p').wish⟩
  refine wpAny_Call_Name_kw (ld_glob I (gl_ok x hg) hm ?_ (plain_ok hp).1)
  refine PySem.W.callWith_KW0 (h₀ := X.base) I.ok.mod.kin hk n2 (thn (ha.run pos pins s σ H _ I h') fun us s1 ⟨vs, H1, I1, r, hlen, ws, w1, q⟩ => ⟨I1.kIn, ?_⟩) (by rw [n3]; rfl)
  rw [n1]
  obtain ⟨zs, z1, z2⟩ := hkw ns pm hq s1 us I1.kIn (by rw [← r.length, hlen, n4])
  obtain ⟨ws', y1, y2⟩ := pick_vals r z1
  rw [w1] at y1
  cases y1
  refine wpAny_call (codeAny_mono (FG.run X.A X.stack s1 H1 ⟨[], ns.zip us⟩ zs ws Q _ x.room x.guards I1.env0 z2 y2 q) fun rr s' hq => ?_)
  cases rr with
  | error e => exact x.takes e s' (XE.of_call I1 (fun cls d H' h => h) hq)
  | ok fl =>
    cases fl with
    | ret u => exact I1.after hq
    | next => exact hq.elim
    | brk => exact hq.elim
    | cont => exact hq.elim
/-! ### methods that change nothing -/
theorem idx_spec {K : Fg} {F : FS} {H : Hp} {v : D} {y : V} (fv : flatD v = true) (hv : RD F K H v y) : ∀ {xs : List D} {vs : List V} {j : Nat}, xs.all flatD = true → RDs F K H xs vs → idxOf v xs = some j →
    vs.all flatV = true ∧ ∃ z, vs[j]? = some z ∧ eqV z y = true ∧ ∀ (m : Nat) (z' : V), m < j → vs[m]? = some z' → eqV z' y = false
  | [], vs, j, _, _, e => by cases e
  | x :: xs, vs, j, f, r, e => by
    simp only [List.all_cons, Bool.and_eq_true] at f
    unfold RDs at r
    obtain ⟨w, ws, rfl, r1, r2⟩ := r
    have fw : flatV w = true := RN.flat (K := K) (H := H) f.1 (RD.rn _ _ r1)
    have he : eqV w y = eqF x v := RN.eqf f.1 fv (RD.rn _ _ r1) (RD.rn _ _ hv)
    have all' : ws.all flatV = true := RNs.flat f.2 (RDs.rn _ _ r2)
    refine ⟨by simp only [List.all_cons, fw, all', Bool.and_self], ?_⟩
    unfold idxOf at e
    split at e
    · rename_i h
      cases e
      exact ⟨w, rfl, by rw [he]; exact h, fun m z' hm => by omega⟩
    · rename_i h
      obtain ⟨k, e1, rfl⟩ := Option.map_eq_some_iff.mp e
      obtain ⟨_, z, z1, z2, z3⟩ := idx_spec fv hv f.2 r2 e1
      refine ⟨z, by simpa using z1, z2, fun m z' hm hz => ?_⟩
      cases m with
      | zero =>
        simp at hz
        subst hz
        rw [he]
        simpa using h
      | succ m => exact z3 m z' (by omega) (by simpa using hz)
def Ask.ty : Ask → String
  | .get => "dict"
  | _ => "list"
def rAsk (K : Fg) (m : Ask) : V → List V → Hp → VK → Prop := fun x vs H Q => ∃ tt F ρ st tx ys r, SR tt F ρ K st H ∧ TR F ρ K H tx x ∧ TRs F ρ K H ys vs ∧ askT st m tx ys = some r ∧ Aft tt F ρ K H st r Q
theorem ask_flat {K : Fg} {F : FS} {ρ : List Addr} {H : Hp} {v : D} {ts : List T} {vs : List V} {y : V} {r : RV} (hts : TRs F ρ K H ts vs) (hv : RD F K H v y) (e : flatIdx v ts = some r) :
    flatV y = true ∧ vs.all flatV = true ∧ ∃ j z, r = tI (j : Nat) ∧ vs[j]? = some z ∧ eqV z y = true ∧ ∀ (m : Nat) (z' : V), m < j → vs[m]? = some z' → eqV z' y = false := by
  unfold flatIdx at e
  split at e
  · rename_i xs hx
    split at e
    · rename_i f
      simp only [Bool.and_eq_true] at f
      obtain ⟨j, e1, rfl⟩ := Option.map_eq_some_iff.mp e
      have e' := pures_eq hx
      subst e'
      obtain ⟨a1, z, z1, z2, z3⟩ := idx_spec f.2 hv f.1 hts.rds e1
      exact ⟨RN.flat (K := K) (H := H) f.2 (RD.rn _ _ hv), a1, j, z, rfl, z1, z2, z3⟩
    · cases e
  · cases e
theorem ob_index : MtR X "list.index" (rAsk X.K .index) := by
  intro pins s σ H x xs v us Q I rx rxs h
  obtain ⟨tt, F, ρ, st, tx, ys, r, hS, hx, hys, e, af⟩ := h
  refine mt_index pins s σ H x xs v us Q I rx rxs ?_
  match ys, hys, e with
  | [y], hys, e =>
    obtain ⟨w, rfl, hw⟩ := trs1 hys
    simp only [askT] at e
    split at e
    · rename_i ts d hv1 hv2
      obtain ⟨a, vs, rfl, h1, h2, h3⟩ := hS.vlst hx hv1
      obtain ⟨f1, f2, j, z, rfl, z1, z2, z3⟩ := ask_flat h3 (vdat hw hv2).2 e
      exact ⟨a, vs, w, j, z, rfl, rfl, .inl h1, f1, f2, z1, z2, z3, af F ρ H _ .refl hS rv_int⟩
    · cases e
  | [], _, e => simp [askT] at e
  | _ :: _ :: _, _, e => simp [askT] at e
theorem ask_core {m : Ask} {o : E} {es : List E} {σ : L2.St} {H : Hp} {Q : VK} (q : tE X.K cl W cf (.ask m o es) σ H Q) : tS X.K cl W cf o σ H fun x H1 => (∃ tt F ρ st t, SR tt F ρ X.K st H1 ∧ TR F ρ X.K H1 t x ∧ askKind m (view st t) = true) ∧ tTs X.K cl W cf es σ H1 fun vs H2 => rAsk X.K m x vs H2 Q := by
  obtain ⟨F, ρ, env, st, hS, hE, p⟩ := q
  simp only [evalE] at p
  refine ⟨F, ρ, env, st, hS, hE, Post.bind p fun t st1 F1 ρ1 H1 vx s1 q1 r1 p1 => ?_⟩
  split at p1
  · rename_i hk
    refine ⟨⟨cl.tt, F1, ρ1, st1, t, q1, r1, hk⟩, F1, ρ1, env, st1, q1, s1.er hE, Post.bind p1 fun ys st2 F2 ρ2 H2 vs s2 q2 r2 p2 => ?_⟩
    obtain ⟨rv, e, p3⟩ := Post.lift p2
    exact ⟨cl.tt, F2, ρ2, st2, t, ys, rv, q2, s2.tr r1, r2, e, p3⟩
  · exact p1.elim
theorem few_ok {xs : List Expr} {env : PySem.Env} {pos : Pos} {es : List E} (hs : okEs G N es sc xs = true) (hlen : xs.length < 20) : ((backTo pos (starEach xs env)).all (fun x => !x.1) && (backToKw pos (keywordEach [] env)).all (fun x => x.1.isSome)
      && decide (xs.length + ([] : List Keyword).length + (if ([] : List Keyword).isEmpty then 0 else 1) < 30)) = true := by
  obtain ⟨_, hp2⟩ := stars_ok (env := env) (pos := pos) hs
  rw [hp2]
  have hl : decide (xs.length + ([] : List Keyword).length + (if ([] : List Keyword).isEmpty then 0 else 1) < 30) = true := by
    apply decide_eq_true
    simp only [List.length_nil, List.isEmpty_nil, if_true]
    omega
  rw [hl]
  rfl
theorem ob_cnt : MtR X "list.count" (rAsk X.K .cnt) := by
  intro pins s σ H x xs v us Q I rx rxs h
  obtain ⟨tt, F, ρ, st, tx, ys, r, hS, hx, hys, e, af⟩ := h
  refine mt_lcount pins s σ H x xs v us Q I rx rxs ?_
  match ys, hys, e with
  | [y], hys, e =>
    obtain ⟨w, rfl, hw⟩ := trs1 hys
    simp only [askT] at e
    split at e
    · rename_i ts i hv1 hv2
      obtain ⟨a, vs, rfl, h1, h2, h3⟩ := hS.vlst hx hv1
      obtain ⟨ns, e1, rfl⟩ := Option.map_eq_some_iff.mp e
      have ev := h3.ints e1
      subst ev
      exact ⟨a, ns, i, rfl, by rw [vint hw hv2], .inl h1, af F ρ H _ .refl hS rv_int⟩
    · cases e
  | [], _, e => simp [askT] at e
  | _ :: _ :: _, _, e => simp [askT] at e
theorem ask_list {m : Ask} (hm : m = .index ∨ m = .cnt) {x : V} {H : Hp} (h : ∃ tt F ρ st t, SR tt F ρ X.K st H ∧ TR F ρ X.K H t x ∧ askKind m (view st t) = true) : tyV X.K "list" x H := by
  obtain ⟨tt, F, ρ, st, t, hS, hx, hk⟩ := h
  cases hv : view st t with
  | lst ts =>
    obtain ⟨a, vs, rfl, h1, _⟩ := hS.vlst hx hv
    exact .inl ⟨rfl, vs, .inl h1⟩
  | _ => rw [hv] at hk; rcases hm with rfl | rfl <;> cases hk
theorem ask_dct {x : V} {H : Hp} (h : ∃ tt F ρ st t, SR tt F ρ X.K st H ∧ TR F ρ X.K H t x ∧ askKind .get (view st t) = true) : ∃ a, x = .ref a ∧ IsD H a := by
  obtain ⟨tt, F, ρ, st, t, hS, hx, hk⟩ := h
  cases hv : view st t with
  | dct ks ts =>
    obtain ⟨a, vs, rfl, h1, _⟩ := hS.vdct hx hv
    exact ⟨a, rfl, .inl ⟨_, .inl h1⟩⟩
  | _ => rw [hv] at hk; cases hk
/-- what a list is asked -/
theorem e_askL (x : XOk G N sc fn cl W cf lv X) {m : Ask} {id : String} {o : E} {es : List E} {v y : Expr} {ys : List Expr} {apos : Pos} (hm : m = .index ∨ m = .cnt) (slot : Slot "list" m.nm id) (ty : typeOf (.builtin id) = pure (.type "method_descriptor")) (hr : MtR X id (rAsk X.K m))
    (ho : PEx X cl W cf o v) (ha : PA X (y :: ys) (tTs X.K cl W cf es)) (hv : isCall0 v = false) (hline : (apos.endLine == pos.line) = true) (hlen : (y :: ys).length < 20)
    (hs : okEs G N es sc (y :: ys) = true) : PEx X cl W cf (.ask m o es) (.Call (.Attribute v m.nm apos) (y :: ys) [] pos) := by
  cases es with
  | nil => simp [okEs] at hs
  | cons c cs =>
    have hfew := few_ok (env := X.env) (pos := pos) hs hlen
    simp only [okEs, Bool.and_eq_true] at hs
    obtain ⟨hp3, _⟩ := stars_ok (env := X.env) (pos := pos) hs.2
    refine PE.imp (pe_bm PySem.F.plainAttrs_list slot ty hr ho.s ha (base_ok hv) hfew hline (star_ok hs.1.2) hp3) fun σ H Q q => ?_
    obtain ⟨F, ρ, env, st, hS, hE, p⟩ := ask_core q
    refine ⟨F, ρ, env, st, hS, hE, Post.map p fun t1 st1 F1 ρ1 H1 w1 er s1 q1 r1 => ?_⟩
    rw [er] at p
    obtain ⟨h1, h2⟩ := p F1 ρ1 H1 w1 s1 q1 r1
    exact ⟨ask_list hm h1, h2⟩
theorem getK_none {k : Key} {F : FS} {ρ : List Addr} {K : Fg} {H : Hp} : ∀ {ks : List Key} {ts : List T} {vs : List V}, ks.length = vs.length → TRs F ρ K H ts vs → MP.getK k ks ts = none → valV (ks.zip vs) k = none
  | [], ts, vs, hl, r, e => by simp [valV]
  | k' :: ks, ts, vs, hl, r, e => by
    cases vs with
    | nil => simp at hl
    | cons v vs =>
      cases ts with
      | nil => unfold TRs at r; cases r
      | cons t ts =>
        unfold TRs at r
        obtain ⟨_, _, e1, _, r2⟩ := r
        cases e1
        unfold MP.getK at e
        split at e
        · cases e
        · rename_i hk
          have ih := getK_none (k := k) (ks := ks) (by simpa using hl) r2 e
          simp only [List.zip_cons_cons]
          unfold valV at ih ⊢
          simp only [List.find?_cons]
          split
          · rename_i h
            simp at h
            exact absurd h hk
          · exact ih
theorem ask_get {x : V} {vs : List V} {H : Hp} {Q : VK} (h : rAsk X.K .get x vs H Q) : ∃ a y, x = .ref a ∧ ((vs = [y] ∧ ∃ o, DGet H a y o ∧ Q (o.getD .non) H) ∨ ∃ z, vs = [y, z] ∧ ∃ o, DGet H a y o ∧ Q (o.getD z) H) := by
  obtain ⟨tt, F, ρ, st, tx, ys, r, hS, hx, hys, e, af⟩ := h
  have key : ∀ {t : T} {w : V} {k : Key}, TR F ρ X.K H t w → keyV (view st t) = some k → w = kV k := fun {t w k} ht hk => by
    unfold keyV at hk
    split at hk <;> first | (cases hk; done) | skip
    · rename_i hv
      cases hk
      exact vint ht hv
    · rename_i hv
      cases hk
      exact (vstr ht hv).1
  have got : ∀ {ks : List Key} {ts : List T} {k : Key} {d : T} {wd : V}, view st tx = .dct ks ts → TR F ρ X.K H d wd → r = .t ((getK k ks ts).getD d) → ∃ a, x = .ref a ∧ ∃ o, DGet H a (kV k) o ∧ Q (o.getD wd) H := fun {ks ts k d wd} hv hd er => by
    subst er
    obtain ⟨a, us, rfl, h1, h2, h3, h4⟩ := hS.vdct hx hv
    refine ⟨a, rfl, valV (ks.zip us) k, DGet.k h1, ?_⟩
    cases hg : getK k ks ts with
    | none =>
      rw [getK_none h2 h4 hg]
      rw [hg] at af
      exact af F ρ H _ .refl hS hd
    | some t =>
      obtain ⟨u, e1, e2⟩ := h4.getK h2 hg
      rw [e1]
      rw [hg] at af
      exact af F ρ H _ .refl hS e2
  match ys, hys, e with
  | [k], hys, e =>
    obtain ⟨w, rfl, hw⟩ := trs1 hys
    simp only [askT] at e
    split at e
    · rename_i ks ts kk hv1 hk
      obtain ⟨a, rfl, o, g1, g2⟩ := got (wd := .non) hv1 (by unfold TR RD; rfl) (Option.some.inj e).symm
      exact ⟨a, w, rfl, .inl ⟨rfl, o, by rw [key hw hk]; exact g1, g2⟩⟩
    · cases e
  | [k, d], hys, e =>
    obtain ⟨w, z, rfl, hw, hz⟩ := trs2 hys
    simp only [askT] at e
    split at e
    · rename_i ks ts kk hv1 hk
      obtain ⟨a, rfl, o, g1, g2⟩ := got (wd := z) hv1 hz (Option.some.inj e).symm
      exact ⟨a, w, rfl, .inr ⟨z, rfl, o, by rw [key hw hk]; exact g1, g2⟩⟩
    · cases e
  | [], _, e => simp [askT] at e
  | _ :: _ :: _ :: _, _, e => simp [askT] at e
theorem trees1 {e : Expr} {env : PySem.Env} {pos : Pos} (h : notStar e = true) : backTo pos (starEach [e] env) = [(false, eval e env)] := by
  rw [star_ok h]
  rfl
theorem ts1 {c : E} {σ : L2.St} {H : Hp} {R : List V → Hp → Prop} (h : tTs X.K cl W cf [c] σ H R) : tS X.K cl W cf c σ H fun y H2 => R [y] H2 := by
  obtain ⟨F, ρ, env, st, hS, hE, p⟩ := h
  simp only [evalTs] at p
  refine ⟨F, ρ, env, st, hS, hE, Post.bind p fun t st1 F1 ρ1 H1 vx s1 q1 r1 p1 => ?_⟩
  exact p1 F1 ρ1 H1 _ .refl q1 (.one r1)
theorem ts2 {c d : E} {σ : L2.St} {H : Hp} {R : List V → Hp → Prop} (h : tTs X.K cl W cf [c, d] σ H R) : tS X.K cl W cf c σ H fun y H2 => tS X.K cl W cf d σ H2 fun z H3 => R [y, z] H3 := by
  obtain ⟨F, ρ, env, st, hS, hE, p⟩ := h
  simp only [evalTs] at p
  refine ⟨F, ρ, env, st, hS, hE, Post.bind p fun t st1 F1 ρ1 H1 vx s1 q1 r1 p1 => ?_⟩
  refine ⟨F1, ρ1, env, st1, q1, s1.er hE, ?_⟩
  cases hd : settled (evalE cf d env st1) with
  | stuck => rw [hd] at p1; exact p1.elim
  | exc c x st2 => rw [hd] at p1 ⊢; exact p1
  | ok t2 st2 =>
    rw [hd] at p1 ⊢
    intro F2 ρ2 H2 v2 s2 q2 r2
    exact p1 F2 ρ2 H2 _ s2 q2 (.cons (s2.tr r1) (.one r2))
theorem e_get1 (x : XOk G N sc fn cl W cf lv X) {o c : E} {v y : Expr} {apos : Pos} (ho : PEx X cl W cf o v) (hc : PEx X cl W cf c y) (hv : isCall0 v = false) (hline : (apos.endLine == pos.line) = true) (hs : okEs G N [c] sc [y] = true) (hn : notStar y = true) :
    PEx X cl W cf (.ask .get o [c]) (.Call (.Attribute v "get" apos) [y] [] pos) := by
  have hfew := few_ok (env := X.env) (pos := pos) hs (by simp)
  refine PE.imp (pe_dget1 (by have := x.units; omega) ho.s hc.s ⟨base_ok hv, hfew, hline, trees1 hn⟩) fun σ H Q q => ?_
  obtain ⟨F, ρ, env, st, hS, hE, p⟩ := ask_core q
  refine ⟨F, ρ, env, st, hS, hE, Post.map p fun t1 st1 F1 ρ1 H1 w1 er s1 q1 r1 => ?_⟩
  rw [er] at p
  obtain ⟨h1, h2⟩ := p F1 ρ1 H1 w1 s1 q1 r1
  obtain ⟨a, rfl, hd⟩ := ask_dct h1
  refine ⟨a, rfl, hd, ?_⟩
  obtain ⟨F2, ρ2, env2, st2, q2, e2, p2⟩ := ts1 h2
  refine ⟨F2, ρ2, env2, st2, q2, e2, Post.map p2 fun t3 st3 F3 ρ3 H3 w3 er3 s3 q3 r3 => ?_⟩
  rw [er3] at p2
  obtain ⟨a', y', e1, hh⟩ := ask_get (p2 F3 ρ3 H3 w3 s3 q3 r3)
  cases e1
  rcases hh with ⟨e2, o, g1, g2⟩ | ⟨z, e2, _⟩
  · cases e2
    exact ⟨o, g1, g2⟩
  · cases e2
theorem e_get2 (x : XOk G N sc fn cl W cf lv X) {o c d : E} {v y z : Expr} {apos : Pos} (ho : PEx X cl W cf o v) (hc : PEx X cl W cf c y) (hd : PEx X cl W cf d z) (hv : isCall0 v = false) (hline : (apos.endLine == pos.line) = true) (hs : okEs G N [c, d] sc [y, z] = true) (hn : notStar y = true) (hn' : notStar z = true) :
    PEx X cl W cf (.ask .get o [c, d]) (.Call (.Attribute v "get" apos) [y, z] [] pos) := by
  have hfew := few_ok (env := X.env) (pos := pos) hs (by simp)
  have tr : backTo pos (starEach [y, z] X.env) = [(false, eval y X.env), (false, eval z X.env)] := by rw [star_ok hn, star_ok hn']; rfl
  refine PE.imp (pe_dget2 (by have := x.units; omega) ho.s hc.s hd.s ⟨base_ok hv, hfew, hline, tr⟩) fun σ H Q q => ?_
  obtain ⟨F, ρ, env, st, hS, hE, p⟩ := ask_core q
  refine ⟨F, ρ, env, st, hS, hE, Post.map p fun t1 st1 F1 ρ1 H1 w1 er s1 q1 r1 => ?_⟩
  rw [er] at p
  obtain ⟨h1, h2⟩ := p F1 ρ1 H1 w1 s1 q1 r1
  obtain ⟨a, rfl, hd'⟩ := ask_dct h1
  refine ⟨a, rfl, hd', ?_⟩
  obtain ⟨F2, ρ2, env2, st2, q2, e2, p2⟩ := ts2 h2
  refine ⟨F2, ρ2, env2, st2, q2, e2, Post.map p2 fun t3 st3 F3 ρ3 H3 w3 er3 s3 q3 r3 => ?_⟩
  rw [er3] at p2
  obtain ⟨F4, ρ4, env4, st4, q4, e4, p4⟩ := p2 F3 ρ3 H3 w3 s3 q3 r3
  refine ⟨F4, ρ4, env4, st4, q4, e4, Post.map p4 fun t5 st5 F5 ρ5 H5 w5 er5 s5 q5 r5 => ?_⟩
  rw [er5] at p4
  obtain ⟨a', y', e1, hh⟩ := ask_get (p4 F5 ρ5 H5 w5 s5 q5 r5)
  cases e1
  rcases hh with ⟨e2, _⟩ | ⟨z', e2, o, g1, g2⟩
  · cases e2
  · cases e2
    exact ⟨o, g1, g2⟩
end
end MP

/-! MP2, part m: a new object that is kept aside; written dicts; calls by names. -/
namespace MP
open PySem PySem.Spec L2
abbrev withP (F : FS) (p : Addr) : FS := ⟨F.f, fun a => F.u a ∨ a = p⟩
section
variable {tt : List (Addr × Str)} {F F' : FS} {ρ ρ' : List Addr} {K : Fg} {H H' : Hp} {st st' : Store} {p : Addr} {o : HO}
theorem SR.asideP (hS : SR tt F ρ K st H) (hp : H p = none) (ho : Pl o) : SR tt (withP F p) ρ K st (upd H p o) ∧ Lat F ρ H (withP F p) ρ (upd H p o) ∧ (¬ F.f p ∧ ¬ F.u p) ∧ p ∉ ρ := by
  obtain ⟨t1, t2, ⟨nf, nu⟩, nρ⟩ := hS.grow (o := o) hp
  exact ⟨t2.reU (fun a ha => ha.elim (hS.uf a) fun z => z ▸ nf) (fun a ha z => z.elim (hS.un a ha) fun z => nρ (z ▸ ha)) (fun a ha => ha.elim (t2.ud a) fun z => ⟨o, by rw [z]; exact upd_same, ho⟩), ⟨fun a ha => ⟨ha, t1.h a ha⟩, t1.p⟩, ⟨nf, nu⟩, nρ⟩
theorem SR.backP (hS : SR tt F ρ K st H) (hp : H p = none) (s : Stp (withP F p) ρ (upd H p o) F' ρ' H') (q : SR tt F' ρ' K st' H') :
    Stp F ρ H ⟨F'.f, F.u⟩ ρ' H' ∧ SR tt ⟨F'.f, F.u⟩ ρ' K st' H' ∧ Lat F' ρ' H' ⟨F'.f, F.u⟩ ρ' H' ∧ H' p = some o ∧ ¬ F'.f p ∧ p ∉ ρ' := by
  obtain ⟨t1, t2, ⟨nf, nu⟩, nρ⟩ := hS.grow (o := o) hp
  have hu : ∀ a, F.u a → F'.u a := fun a ha => by rw [s.u]; exact .inl ha
  have up : F'.u p := by rw [s.u]; exact .inr rfl
  refine ⟨⟨s.f, fun a ha => (s.h a ha).trans (t1.h a ha), s.p, rfl, fun a ha => (s.k a (.inl ha)).trans (t1.k a ha)⟩, q.reU (fun a ha => q.uf a (hu a ha)) (fun a ha z => q.un a ha (hu a z)) fun a ha => q.ud a (hu a ha), ⟨fun a ha => ⟨ha, rfl⟩, List.prefix_refl _⟩, ?_, q.uf p up, fun z => q.un p z up⟩
  rw [s.k p (.inr rfl), upd_same]
end
section
variable {G : Gb} {N : List Str} {sc : Scope} {fn : Str → Bool} {cl : Bs} {W : WX} {cf : CF} {lv : Nat} {X : Cx} {pos : Pos}
def PEs (X : Cx) (cl : Bs) (W : WX) (cf : CF) : List E → List Expr → Prop
  | [], [] => True
  | c :: cs, e :: es => PEx X cl W cf c e ∧ PEs X cl W cf cs es
  | _, _ => False
def trsP (K : Fg) (cl : Bs) (W : WX) (cf : CF) : List D → List E → List (TE × TE)
  | k :: ks, e :: es => (tS K cl W cf (.con k), tS K cl W cf e) :: trsP K cl W cf ks es
  | _, _ => []
theorem pps_of (x : XOk G N sc fn cl W cf lv X) : ∀ {ks : List D} {es : List E} {ks' : List (Option Expr)} {vs : List Expr}, okKeys ks ks' = true → PEs X cl W cf es vs → ks'.length = vs.length → PPs X pos ks' vs (trsP X.K cl W cf ks es)
  | [], [], [], [], _, _, _ => pps_nil
  | [], _, _ :: _, _, h, _, _ => by simp [okKeys] at h
  | _ :: _, _, [], _, h, _, _ => by simp [okKeys] at h
  | [], _ :: _, [], vs, _, h, l => by
    cases vs with
    | nil => exact h.elim
    | cons => simp at l
  | [], [], [], _ :: _, _, h, l => by simp at l
  | k :: ks, [], k' :: ks', [], h, _, l => by simp at l
  | k :: ks, [], k' :: ks', _ :: _, h, hv, _ => hv.elim
  | k :: ks, _ :: _, k' :: ks', [], h, hv, _ => hv.elim
  | k :: ks, e :: es, k' :: ks', v :: vs, h, hv, l => by
    cases k' with
    | none => simp [okKeys] at h
    | some k' =>
      cases k' <;> first | (simp [okKeys] at h; done) | skip
      rename_i c n p1
      simp only [okKeys, Bool.and_eq_true] at h
      exact pps_cons (e_con (pos := p1) (k := n) (v := k) x (by simp only [okE]; exact h.1.1)).s hv.1.s (pps_of x h.2 hv.2 (by simpa using l))
theorem con_key {F : FS} {ρ : List Addr} {K : Fg} {H : Hp} {k : D} {k' : Key} {v : V} (hk : keyD k = some k') (h : TR F ρ K H (.d k) v) : v = kV k' := by
  cases k <;> simp [keyD] at hk
  · subst hk
    unfold TR RD at h
    exact h
  · subst hk
    unfold TR RD at h
    exact h.1
theorem pairs_imp {σ : L2.St} {env : Env} : ∀ {ks : List D} {es : List E} {l : List Key} {H : Hp} {F : FS} {ρ : List Addr} {st : Store} {Q : List (V × V) → Hp → Prop}, SR cl.tt F ρ X.K st H → ER F ρ X.K H env σ → ks.mapM keyD = some l → ks.length = es.length →
    Post (RTs_ X.K) cl W σ F ρ X.K H (evalTs cf es env st) (fun vs H2 => Q ((l.zip vs).map fun kv => (kV kv.1, kv.2)) H2) → tPairs (trsP X.K cl W cf ks es) σ H Q
  | [], [], l, H, F, ρ, st, Q, hS, hE, hk, _, p => by
    simp at hk
    subst hk
    simp only [evalTs] at p
    exact p F ρ H [] .refl hS .nil
  | [], _ :: _, _, _, _, _, _, _, _, _, _, h, _ => by simp at h
  | _ :: _, [], _, _, _, _, _, _, _, _, _, h, _ => by simp at h
  | k :: ks, e :: es, l, H, F, ρ, st, Q, hS, hE, hk, hl, p => by
    rw [List.mapM_cons] at hk
    obtain ⟨k', e1, hk⟩ := Option.bind_eq_some_iff.mp hk
    obtain ⟨l', e2, hk⟩ := Option.bind_eq_some_iff.mp hk
    cases hk
    refine ⟨F, ρ, env, st, hS, hE, ?_⟩
    simp only [evalE]
    intro F1 ρ1 H1 v1 s1 q1 r1
    have ev : v1 = kV k' := con_key (F := F1) (ρ := ρ1) (K := X.K) (H := H1) e1 r1
    subst ev
    have p' := Post.step s1 p
    simp only [evalTs] at p'
    refine ⟨F1, ρ1, env, st, q1, s1.er hE, Post.bind p' fun t st2 F2 ρ2 H2 y s2 q2 r2 p2 => ?_⟩
    refine pairs_imp (Q := fun ps H3 => Q ((kV k', y) :: ps) H3) q2 (s2.er (s1.er hE)) e2 (by simpa using hl) ?_
    refine Post.bind p2 fun vs st3 F3 ρ3 H3 us s3 q3 r3 p3 => ?_
    exact p3 F3 ρ3 H3 (y :: us) .refl q3 (.cons (s3.tr r2) r3)
theorem mergeK_nodup : ∀ {l : List Key} {acc : List (Key × V)} {vs : List V}, l.Nodup → (∀ k ∈ l, k ∉ acc.map (·.1)) → l.length = vs.length → mergeK acc (l.zip vs) = acc ++ l.zip vs
  | [], acc, vs, _, _, _ => by simp [mergeK]
  | k :: l, acc, [], _, _, h => by simp at h
  | k :: l, acc, v :: vs, hn, hd, h => by
    rw [List.zip_cons_cons]
    show mergeK (putK acc k v) (l.zip vs) = _
    have e : putK acc k v = acc ++ [(k, v)] := putK_new v (by
      cases hv : valV acc k with
      | none => rfl
      | some u =>
        exfalso
        have := valV_any k acc
        rw [hv] at this
        simp only [Option.isSome_some, List.any_eq_true, decide_eq_true_eq] at this
        obtain ⟨p, hp, e⟩ := this
        exact hd k (by simp) (List.mem_map.mpr ⟨p, hp, e⟩))
    rw [e, mergeK_nodup (List.nodup_cons.mp hn).2 (fun k' hk' => ?_) (by simpa using h), List.append_assoc]
    · rfl
    · rw [List.map_append, List.mem_append]
      rintro (z | z)
      · exact hd k' (by simp [hk']) z
      · simp at z
        subst z
        exact (List.nodup_cons.mp hn).1 hk'
theorem mapM_len {α β : Type} {f : α → Option β} : ∀ {xs : List α} {ys : List β}, xs.mapM f = some ys → ys.length = xs.length
  | [], ys, h => by simp at h; subst h; rfl
  | x :: xs, ys, h => by
    rw [List.mapM_cons] at h
    obtain ⟨y, _, h⟩ := Option.bind_eq_some_iff.mp h
    obtain ⟨zs, e2, h⟩ := Option.bind_eq_some_iff.mp h
    cases h
    simp [mapM_len e2]
theorem keys_some : ∀ {ks : List D} {ks' : List (Option Expr)}, okKeys ks ks' = true → ks.mapM keyD ≠ none
  | [], _, _ => by simp
  | k :: ks, [], h => by simp [okKeys] at h
  | k :: ks, none :: ks', h => by simp [okKeys] at h
  | k :: ks, some e :: ks', h => by
    cases e <;> first | (simp [okKeys] at h; done) | skip
    simp only [okKeys, Bool.and_eq_true] at h
    obtain ⟨⟨h1, h2⟩, h3⟩ := h
    obtain ⟨a, ha⟩ := Option.isSome_iff_exists.mp h2
    have ih := keys_some h3
    cases hm : ks.mapM keyD with
    | none => exact absurd hm ih
    | some l => simp [List.mapM_cons, ha, hm]
theorem e_dctN (x : XOk G N sc fn cl W cf lv X) {ks : List D} {es : List E} {ks' : List (Option Expr)} {vs : List Expr} (hk : okKeys ks ks' = true) (hv : PEs X cl W cf es vs) (hl : ks'.length = vs.length) (hl2 : ks.length = es.length) (h0 : ks' ≠ []) (h15 : ks'.length ≤ 15) :
    PEx X cl W cf (.dct ks es) (.Dict ks' vs pos) := by
  have hall : ks'.all (·.isSome) = true := by
    have : ∀ (ks : List D) (ks' : List (Option Expr)), okKeys ks ks' = true → ks'.all (·.isSome) = true := by
      intro ks ks'
      fun_induction okKeys ks ks' <;> simp_all
    exact this ks ks' hk
  refine PE.imp (pe_disp (pps_of x hk hv hl) hall hl h0 h15) fun σ H Q q => ?_
  obtain ⟨F, ρ, env, st, hS, hE, pp⟩ := q
  simp only [evalE] at pp
  intro p hp
  obtain ⟨q2, l2, nfu, nρ⟩ := hS.asideP (o := .dK []) hp trivial
  cases hm : ks.mapM keyD with
  | none =>
    rw [hm] at pp
    exact absurd hm (keys_some hk)
  | some l =>
    rw [hm] at pp
    refine pairs_imp q2 (l2.er hE) hm hl2 ?_
    cases hr : evalTs cf es env st with
    | stuck => rw [hr] at pp; exact pp.elim
    | exc c2 x2 st2 =>
      rw [hr] at pp
      intro F' ρ' H' w d s q r hd
      obtain ⟨b1, b2, b3, _⟩ := hS.backP hp s q
      exact pp ⟨F'.f, F.u⟩ ρ' H' w d b1 b2 (b3.tr r) hd
    | ok ts st2 =>
      rw [hr] at pp
      simp only [Res.bind] at pp
      split at pp
      · rename_i hc
        obtain ⟨hc1, hc2⟩ := hc
        intro F' ρ' H' us s q r
        obtain ⟨b1, b2, b3, b4, b5, b6⟩ := hS.backP hp s q
        have hlu := TRs.length r
        have hlu2 : l.length = us.length := by omega
        unfold keysOk at hc2
        rw [hm] at hc2
        simp only [Bool.and_eq_true, decide_eq_true_eq] at hc2
        have hlen : l.length = ks.length := by
          exact mapM_len hm
        refine ⟨b4, l.zip us, rfl, ?_, ?_⟩
        · rw [List.length_zip]
          omega
        · rw [mergeK_nodup hc2.2 (by simp) hlu2, List.nil_append]
          have nu' : ¬ F.u p := nfu.2
          have keep : ∀ a, F'.f a → upd H' p (.dK (l.zip us)) a = H' a := fun a ha => upd_ne fun z => b5 (z ▸ ha)
          have keepU : ∀ a, F.u a → upd H' p (.dK (l.zip us)) a = H' a := fun a ha => upd_ne fun z => nu' (z ▸ ha)
          have up : F'.u p := by rw [s.u]; exact .inr rfl
          obtain ⟨u1, u2⟩ := q.updU (o := .dK (l.zip us)) up trivial
          have b7 : SR cl.tt ⟨F'.f, F.u⟩ ρ' X.K st2 (upd H' p (.dK (l.zip us))) := u1.reU b2.uf b2.un fun a ha => by rw [keepU a ha]; exact b2.ud a ha
          have b8 : Stp F ρ H ⟨F'.f, F.u⟩ ρ' (upd H' p (.dK (l.zip us))) := ⟨b1.f, fun a ha => (keep a (b1.f a ha)).trans (b1.h a ha), b1.p, rfl, fun a ha => (keepU a ha).trans (b1.k a ha)⟩
          refine pp ⟨F'.f, F.u⟩ ρ' _ (.ref p) b8 b7 ⟨p, us, rfl, ⟨b5, nu'⟩, b6, upd_same, hlu2, ?_, ?_⟩
          · show _ ≤ 16777216
            omega
          · exact TRs.mono (F := F') (F' := ⟨F'.f, F.u⟩) ⟨fun a ha => ⟨ha, keep a ha⟩, List.prefix_refl _⟩ _ _ r
      · exact pp.elim
end
end MP

/-! NX, part e: f(lambda: body), where what guards the frames is known in the body, too. -/
namespace NX
open PySem L2 LamX PySem.Spec PyProof.Rows
/-- what is written of the lambda: no parameter, names of others alone -/
structure LamW (X : Cx) (params : Arguments) (body : Expr) (scope : Scope) : Prop where
  own : LamS X.env.scope scope
  dfl : defaultsOf params X.env = ([], [])
  bnd : ∀ (q : Str) (cl : List (Str × Addr)) (m v w : Value), bindArgs (PySem.W.kla_fn "<lambda>" q params body scope cl m v w) ⟨[], []⟩ = pure []
/-- the object of a lambda that was made at the state s -/
structure LamO (X : Cx) (params : Arguments) (body : Expr) (scope : Scope) (f c1 : Addr) (H : Hp) (s : Shared) : Prop where
  obj : ∃ m w, s.heap.get? f = some (PySem.W.kla_obj "<lambda>" (X.env.qual ++ "<lambda>") params body scope (cloFrom X.env.cells scope.names []) m c1 w)
  free : H f = none
  off : f ∉ frs X.stack
/-- the body's promise -/
def LamB (X : Cx) (scope : Scope) (body : Expr) (k : Nat) (E : XK) (f c1 : Addr) (t : TE) : Prop :=
  ∀ (A : Around) (fr : List PySem.Env) (s : Shared) (H : Hp), A.guards = some [] → Room k (A.deeper (lamEnv X scope s.heap.objs.size f c1)) → PE (lamCx X A fr s H E scope f c1) body t
/-- the lambda is called in a frame whose around is A; s0: the state where it was made -/
theorem lam_call {X : Cx} {pins : List (Addr × Obj)} {σ : L2.St} {H G : Hp} {s0 s1 : Shared} {params : Arguments} {body : Expr} {scope : Scope} {f c1 : Addr} {k : Nat} {A : Around} {fr : List PySem.Env} {E : XK} {t : TE} {Q : VK}
    (W : LamW X params body scope) (I0 : Inv X pins σ H s0) (O : LamO X params body scope f c1 H s0) (hgu : A.guards = some []) (hr : Room (k + 1) A) (hB : LamB X scope body k E f c1 t)
    (e0 : Env0 X.prog X.w X.K X.mg X.base A fr s1 G) (lim : s1.heap.NoLimit) (hx : Un (frs X.stack) [] H G s0.heap s1.heap) (hc : G c1 = some (CodeO c1 (X.env.qual ++ "<lambda>"))) (q : t σ G Q) :
    codeAny (model X.prog X.w) A (.call (.ref f) ⟨[], []⟩) (CR (L2.CX X.prog X.w) fr X.prog X.w G s1 Q E) s1 := by
  obtain ⟨m, w, obj0⟩ := O.obj
  have obj1 := hx.keep f _ obj0 O.free O.off (by simp)
  have rec1 := (e0.hok c1 _ hc).1
  obtain ⟨oc, vs, tk, r1, r2, r3⟩ := rec1
  refine PySem.W.kla_callFunE hr.depth obj1 rfl W.own.co W.own.gen rfl ⟨c1, oc, vs, tk, rfl, r1, r2, r3⟩ ?_
  rw [W.bnd]
  refine wpAny_pure (wpAny_newFunctionEnv (fun y hy => (W.own.own y hy).2) (fun _ z => by simp at z) (fun h2 names same => ?_) W.own.kind)
  have keeps : ∀ b ob, s1.heap.get? b = some ob → h2.get? b = some ob := fun b ob e => same.extBut b ob (Nat.ne_of_lt (Heap.lt_size e)) (Heap.get?_push_of_some _ e)
  have J := lam_start2 (E := E) (f := f) (c' := c1) (tk := s1.toks + ([] : List (Str × Value)).length) I0 W.own e0 hr.hd hx names keeps
  refine ⟨lim.fresh _ same, PySem.W.kla_codeExpr (wpAny_mono ((hB A fr s1 G hgu (hr.deeper _)).run [] _ σ G Q J q) (fun u s2 z => ?_) fun _ _ z => z)⟩
  obtain ⟨v, G2, J2, rv, z⟩ := z
  exact ⟨v, G2, J2.os, J2.bare, J2.base, J2.hok, rv, z⟩
/-- a(), within the def at g that got the lambda in its slot i -/
theorem pe_ask {X : Cx} {pins : List (Addr × Obj)} {σ : L2.St} {H : Hp} {s : Shared} {params : Arguments} {body : Expr} {scope : Scope} {f c1 g : Addr} {k i : Nat} {E Eg : XK} {t : TE} {CXg : CXT} {Ng : List Str} {qg a : Str} {sg : Scope} {cdg : Value} {more : List (Addr × Obj)}
    {xe : Value → Shared → Prop} {Wx : WX} {q1 q2 : Pos} (W : LamW X params body scope) (I0 : Inv X pins σ H s) (O : LamO X params body scope f c1 H s) (hgu : X.A.guards = some []) (hr : Room (k + 1) (X.A.deeper (envOfC qg sg s.heap.objs.size g cdg))) (hB : LamB X scope body k E f c1 t)
    (tk : Takes ((cxOf CXg X.prog X.w X.K X.mg X.base Ng qg sg g cdg X.A X.stack s H Eg).tr more xe) Wx) (hW : ∀ cls d τ G, E cls d G → Wx cls d τ G) (hN : Ng[i]? = some a) (hv : Vis sg a) (d1 : (a == ("__debug__" : Str)) = false) (d2 : (a == ("__classdict__" : Str)) = false) :
    PE ((cxOf CXg X.prog X.w X.K X.mg X.base Ng qg sg g cdg X.A X.stack s H Eg).tr more xe) (.Call (.Name a q1) [] [] q2) (fun τ G Q => τ[i]? = some (some (.ref f)) ∧ G c1 = some (CodeO c1 (X.env.qual ++ "<lambda>")) ∧ t σ G Q) := by
  refine ⟨fun pin1 s1 τ G Q J ⟨slot, code, q⟩ => ?_⟩
  have name := (pe_var (X := (cxOf CXg X.prog X.w X.K X.mg X.base Ng qg sg g cdg X.A X.stack s H Eg).tr more xe) (pos := q1) (i := i) hN hv d1 d2).run pin1 s1 τ G (fun v G1 => v = .ref f ∧ G1 = G) J ⟨.ref f, slot, rfl, rfl⟩
  refine wpAny_Call_Name_kw (thn name fun u s2 ⟨v, G1, J1, rv, ev, eG⟩ => ?_)
  subst ev eG
  cases (show u = Value.ref f from rv)
  have since : Un (frs X.stack) [] H G1 s.heap s2.heap := J1.base
  obtain ⟨m, w, obj0⟩ := O.obj
  refine PySem.W.callWith_F0 ⟨_, _, _, _, since.keep f _ obj0 O.free O.off (by simp)⟩ (wpAny_call (codeAny_mono (lam_call (X := X) (A := X.A.deeper (envOfC qg sg s.heap.objs.size g cdg)) (s1 := s2) (G := G1) W I0 O hgu hr hB J1.env0 J1.nolimit since code q) fun r s3 z => ?_))
  match r, z with
  | .ok (.ret u), z => exact J1.after z
  | .error e, z => exact passes_call tk hW pin1 τ G1 s2 e s3 J1 z
  | .ok .next, z => exact z.elim
  | .ok .brk, z => exact z.elim
  | .ok .cont, z => exact z.elim
/-- the def that gets the lambda -/
structure CatF (X : Cx) (x a : Str) (g : Addr) (bg : List Stmt) (sg : Scope) (cdv : Value) (Ng : List Str) : Prop where
  nm : X.mg x = some (.ref g)
  kp : PySem.W.keepIn X.K (.ref g) = true
  cd : PySem.W.codeIn X.K cdv x = true
  fn : ∃ (pg : Arguments) (dV kV doc pm ct oc : Value) (an od : Option Addr) (osl : Array (Option Value)), X.K.lookup g = some ⟨oc, od, .func (PySem.W.fnOf x x pg bg sg dV kV doc pm an cdv ct), osl⟩ ∧ Binds X.K (PySem.W.fnOf x x pg bg sg dV kV doc pm an cdv ct) [a] []
  sc : FnScope Ng [a] sg
  at0 : Ng[0]? = some a
  vis : Vis sg a
  d1 : (a == ("__debug__" : Str)) = false
  d2 : (a == ("__classdict__" : Str)) = false
/-- where lambdas may be made: the code object's table is known -/
structure LamT (X : Cx) (T : List (Addr × Str)) : Prop where
  ex : ∃ c P, TabB X.base X.mg c P ∧ X.env.code = .ref c ∧ (P, X.env.qual ++ "<lambda>") ∈ T ∧ ∀ p ∈ T, p.1 = P → p.2 = X.env.qual ++ "<lambda>"
theorem pe_lamG {X : Cx} {T : List (Addr × Str)} {TT : (XK → Hp → VK → Prop) → Hp → VK → Prop} {x a : Str} {g : Addr} {bg : List Stmt} {sg : Scope} {cdv : Value} {Ng : List Str} {k : Nat} {params : Arguments} {body : Expr} {scope : Scope} {t : XK → TE} {q1 q2 q3 : Pos}
    (hg : Gl X x) (C : CatF X x a g bg sg cdv Ng) (hG : GivesTo X Ng x sg g cdv bg a (X.env.qual ++ "<lambda>") TT) (L : LamT X T) (hr : Room (k + 2) X.A) (hgu : X.A.guards = some []) (W : LamW X params body scope)
    (hB : ∀ (E : XK) (f c1 : Addr), LamB X scope body k E f c1 (t E)) (d0 : (x == ("__debug__" : Str)) = false) : PE X (.Call (.Name x q1) [.Lambda params body scope q2] [] q3) (tLam T TT t) := by
  obtain ⟨c, P, TB, code, inT, uniq⟩ := L.ex
  obtain ⟨pg, dV, kV, doc, pm, ct, oc, an, od, osl, lk, bnd⟩ := C.fn
  refine ⟨fun pins s σ H Q I ⟨tabs, h⟩ => ?_⟩
  refine wpAny_Call_Name_kw (ld_glob I hg C.nm (PySem.W.callWith_K (h₀ := X.base) I.ok.mod.kin C.kp ?_ rfl rfl) d0)
  refine Calls.spliced_cons (lam_make2 I TB code inT uniq tabs W.dfl (W.own.has I.ok) fun f c1 m w H1 s1 I1 ext tabs1 obj fr off hco => Calls.spliced_nil ⟨I1.kIn, ?_⟩)
  have O : LamO X params body scope f c1 H1 s1 := ⟨⟨m, w, obj⟩, fr, off⟩
  refine wpAny_call (codeAny_mono (run_ofS (CX := C8.CX0) (N := Ng) (ps := [a]) (us := [.ref f]) (vs := [.ref f]) (Q := Q) (E := C8.E0) lk C.cd C.sc hr I1.env0 (bnd s1 [.ref f] I1.kIn rfl) (.cons rfl .nil) rfl fun hr1 => ?_) fun r s2 z => ?_)
  · obtain ⟨u, hu, hq⟩ := hG f c1 s1 H1 Q (fun E G Q' => t E σ G Q') (fun Wx more xe E p1 p2 tk hW => pe_ask (i := 0) W I1 O hgu hr1 (hB E f c1) tk hW C.at0 C.vis C.d1 C.d2) hco (h H1 ext tabs1)
    exact ⟨u, hu.nox, hq⟩
  · match r, z with
    | .ok (.ret u), z => exact I1.after z
    | .error e, z => exact (show False from z).elim
    | .ok .next, z => exact z.elim
    | .ok .brk, z => exact z.elim
    | .ok .cont, z => exact z.elim
end NX

/-! MP2, part n: a call that is looked at by a def that catches. -/
namespace MP
open PySem PySem.Spec L2
section
variable {tt : List (Addr × Str)} {F F' : FS} {ρ ρ' : List Addr} {K : Fg} {H H' : Hp} {st st' : Store}
theorem Pl.notTbl {o : HO} (h : Pl o) : ∀ ps, o ≠ .tbl ps := fun ps e => by subst e; exact h
theorem SR.extN (q : SR tt F ρ K st H) (e : LamX.ExtN H H') (t : LamX.Tabs tt H') : SR tt F ρ K st H' ∧ Stp F ρ H F ρ H' := by
  have kf : ∀ a, F.f a → H' a = H a := fun a ha => by
    obtain ⟨o, h1, h2⟩ := q.fd a ha
    rw [h1, e a o h1 h2.notTbl]
  have ku : ∀ a, F.u a → H' a = H a := fun a ha => by
    obtain ⟨o, h1, h2⟩ := q.ud a ha
    rw [h1, e a o h1 h2.notTbl]
  have lt : Lat F ρ H F ρ H' := ⟨fun a ha => ⟨ha, kf a ha⟩, List.prefix_refl _⟩
  refine ⟨⟨q.len, q.nd, q.nf, fun a ha => by rw [kf a ha]; exact q.fd a ha, q.uf, q.un, fun a ha => by rw [ku a ha]; exact q.ud a ha, fun i c a e1 e2 => ?_, q.old, t⟩, ⟨fun _ h => h, kf, List.prefix_refl _, rfl, ku⟩⟩
  have c1 := q.cells i c a e1 e2
  obtain ⟨o, h1, h2⟩ := c1.some
  exact c1.mono lt (by rw [h1, e a o h1 h2.notTbl])
end
theorem lookup_mem {c : Nat} {tag : Str} : ∀ {hs : List (Nat × Str)}, hs.lookup c = some tag → (c, tag) ∈ hs
  | (c', tag') :: hs, h => by
    rw [List.lookup_cons] at h
    by_cases e : c == c'
    · simp only [e] at h
      rw [eq_of_beq e]
      cases h
      exact List.mem_cons_self
    · have e' : (c == c') = false := by simpa using e
      simp only [e'] at h
      exact List.mem_cons_of_mem _ (lookup_mem h)
section
variable {G : Gb} {N : List Str} {sc : Scope} {fn : Str → Bool} {cl : Bs} {W : WX} {cf : CF} {lv : Nat} {X : Cx} {pos : Pos}
/-- the clauses' classes as values -/
def clsOf (cl : Bs) (hs : List (Nat × Str)) : List (Value × Str) := hs.map fun p => (cl.cl p.1, p.2)
theorem okR1_ok {L : List Str} {Ng : List Str} {sg : Scope} {Y : Cx} (hN : Y.N = Ng) (hsc : Y.env.scope = sg) (hx : ∀ (c : Nat) (x : Str), L[c]? = some x → gl sg x = true → plainName x = true → Names Y x (cl.cl c)) :
    ∀ {hs : List (Nat × Str)} {hds : List ExceptHandler}, okR1 L Ng sg hs hds = true → NX.Ret1 Y hds (clsOf cl hs) ∧ ∀ p ∈ hs, (∃ x, L[p.1]? = some x) ∧ p.1 ≠ 0 ∧ p.2.length ≤ big := by
  intro hs hds h
  fun_induction okR1 L Ng sg hs hds with
  | case1 => exact ⟨.nil, fun _ h => nomatch h⟩
  | case2 c tag hs x p1 n z j p2 n' p3 at_ p4 p5 p6 p7 es ih =>
    simp only [Bool.and_eq_true, decide_eq_true_eq] at h
    obtain ⟨⟨⟨⟨⟨⟨⟨⟨⟨⟨h1, h0⟩, h2⟩, h3⟩, h4⟩, h5⟩, rfl⟩, rfl⟩, rfl⟩, h6⟩, h7⟩ := h
    obtain ⟨r1, r2⟩ := ih h7
    obtain ⟨i, hi⟩ := List.mem_iff_getElem?.mp (memB_ok h4)
    unfold locN at h5
    simp only [Bool.and_eq_true, decide_eq_true_eq] at h5
    obtain ⟨d1, d2, _⟩ := plain_ok h5.2
    refine ⟨.cons (hx c x h1 h2 h3) (by rw [hN]; exact hi) (by show Y.env.scope.names.lookup _ = _; rw [hsc]; exact h5.1) d1 d2 r1, fun p hp => ?_⟩
    rcases List.mem_cons.mp hp with rfl | hp
    · exact ⟨⟨x, h1⟩, h0, h6⟩
    · exact r2 p hp
  | case3 => cases h
theorem okS1_ok {L : List Str} {Ng : List Str} {sg : Scope} {Y : Cx} {y : Str} {m : Nat} (hm : Ng[m]? = some y) (hN : Y.N = Ng) (hsc : Y.env.scope = sg) (hx : ∀ (c : Nat) (x : Str), L[c]? = some x → gl sg x = true → plainName x = true → Names Y x (cl.cl c)) :
    ∀ {hs : List (Nat × Str)} {hds : List ExceptHandler}, okS1 L Ng sg y hs hds = true → NX.Set1 Y y m hds (clsOf cl hs) ∧ ∀ p ∈ hs, (∃ x, L[p.1]? = some x) ∧ p.1 ≠ 0 ∧ p.2.length ≤ big := by
  intro hs hds h
  fun_induction okS1 L Ng sg y hs hds with
  | case1 => exact ⟨.nil, fun _ h => nomatch h⟩
  | case2 c tag hs x p1 n y' p0 z j p2 n' p3 at_ p4 p5 p6 p7 es ih =>
    simp only [Bool.and_eq_true, decide_eq_true_eq] at h
    obtain ⟨⟨⟨⟨⟨⟨⟨⟨⟨⟨⟨⟨h1, h0⟩, h2⟩, h3⟩, h4⟩, h5⟩, hne⟩, rfl⟩, rfl⟩, rfl⟩, rfl⟩, h6⟩, h7⟩ := h
    obtain ⟨r1, r2⟩ := ih h7
    obtain ⟨i, hi⟩ := List.mem_iff_getElem?.mp (memB_ok h4)
    unfold locN at h5
    simp only [Bool.and_eq_true, decide_eq_true_eq] at h5
    obtain ⟨d1, d2, _⟩ := plain_ok h5.2
    refine ⟨.cons (hx c x h1 h2 h3) (by rw [hN]; exact hi) (by show Y.env.scope.names.lookup _ = _; rw [hsc]; exact h5.1) (fun z => hne ?_) d1 d2 r1, fun p hp => ?_⟩
    · subst z
      rw [hi] at hm
      cases hm
      rfl
    · rcases List.mem_cons.mp hp with rfl | hp
      · exact ⟨⟨x, h1⟩, h0, h6⟩
      · exact r2 p hp
  | case3 => cases h
theorem hw_ok (x : XOk G N sc fn cl W cf lv X) {Q : VK} {c : Nat} {y tag : Str} {d : Addr} {v : V} {H : Hp} (hy : G.cls[c]? = some y) (hd : H d = some (.xd [("value", v)])) (q : ∀ p, H p = none → Q (.ref p) (upd H p (.lst [.str tag, v]))) :
    ∀ {hs : List (Nat × Str)}, (∀ p ∈ hs, (∃ x, G.cls[p.1]? = some x) ∧ p.1 ≠ 0 ∧ p.2.length ≤ big) → hs.lookup c = some tag → NX.hw X.K Q (clsOf cl hs) (cl.cl c) (some d) H
  | [], _, h => by cases h
  | (c', tag') :: hs, hh, h => by
    obtain ⟨⟨z, hz⟩, h0, _⟩ := hh _ List.mem_cons_self
    refine ⟨subC c c', x.exm c c' y z hy hz, fun hb => ?_, fun hb => ?_⟩
    · have e : c = c' := by
        unfold subC at hb
        simp only [Bool.or_eq_true, beq_iff_eq] at hb
        exact hb.resolve_right h0
      subst e
      rw [List.lookup_cons, beq_self_eq_true] at h
      cases h
      obtain ⟨C, D, fI, fd, e1, e2, e3, e4⟩ := x.excs c y hy
      exact ⟨C, d, v, ⟨e2, e3.xf, e3.noval⟩, rfl, hd, q⟩
    · have e : (c == c') = false := by
        unfold subC at hb
        simp only [Bool.or_eq_false_iff] at hb
        exact hb.1
      rw [List.lookup_cons, e] at h
      exact hw_ok x hy hd q (fun p hp => hh p (List.mem_cons_of_mem _ hp)) h
theorem clsIn_ok (x : XOk G N sc fn cl W cf lv X) {hs : List (Nat × Str)} {c : Nat} {tag : Str} (hh : ∀ p ∈ hs, (∃ x, G.cls[p.1]? = some x) ∧ p.1 ≠ 0 ∧ p.2.length ≤ big) (h : hs.lookup c = some tag) : (∃ y, G.cls[c]? = some y) ∧ tag.length ≤ big :=
  let z := hh _ (lookup_mem h)
  ⟨z.1, z.2.2⟩
/-- the reading of what is looked at -/
def tIn (K : Fg) (cl : Bs) (cf : CF) (a : E) : XK → TE := fun E => tE K cl (fun c d _ H => E c d H) cf a
theorem two_trs {F : FS} {ρ : List Addr} {K : Fg} {H : Hp} {tag : Str} {t : T} {v : V} (h : tag.length ≤ big) (r : TR F ρ K H t v) : TRs F ρ K H [.d (.str tag), t] [.str tag, v] := by
  unfold TRs
  refine ⟨_, _, rfl, ?_, ?_⟩
  · unfold TR RD
    exact ⟨rfl, h⟩
  · unfold TRs
    refine ⟨_, _, rfl, r, ?_⟩
    unfold TRs
    rfl
theorem told1 (x : XOk G N sc fn cl W cf lv X) {a : E} {hs : List (Nat × Str)} (hh : ∀ p ∈ hs, (∃ x, G.cls[p.1]? = some x) ∧ p.1 ≠ 0 ∧ p.2.length ≤ big) {σ : L2.St} {H : Hp} {Q : VK} (h : tE X.K cl W cf (.caught 1 hs a) σ H Q) :
    LamX.tLam cl.tt (NX.TT1 X.K "told" (clsOf cl hs)) (tIn X.K cl cf a) σ H Q := by
  obtain ⟨F, ρ, env, st, hS, hE, p⟩ := h
  simp only [evalE] at p
  refine ⟨hS.tb, fun H1 e1 t1 => ?_⟩
  obtain ⟨q1, s1⟩ := hS.extN e1 t1
  have p1 := Post.step s1 p
  refine ⟨F, ρ, env, st, q1, s1.er hE, ?_⟩
  show Post _ _ _ _ _ _ _ _ (evalE cf a env st) _
  cases hr : evalE cf a env st with
  | stuck => rw [hr] at p1; exact p1.elim
  | ok v st2 =>
    rw [hr] at p1
    intro F2 ρ2 H2 b s2 q2 r2
    refine ⟨by show 2 ≤ sizeLine; rw [sizeLine_eq]; decide, fun p0 hp0 => ?_⟩
    obtain ⟨F3, s3, q3, r3⟩ := q2.settle r2
    obtain ⟨s4, q4, r4⟩ := q3.newL (xs := [.d (.str "told"), v.settle]) hp0 (show 2 ≤ big by decide) (two_trs (by decide) r3)
    exact p1 F3 ρ2 _ _ ((s2.trans s3).trans s4) q4 r4
  | exc c v st2 =>
    rw [hr] at p1
    intro F2 ρ2 H2 w d s2 q2 r2 hd
    cases ht : hs.lookup c with
    | none => simp only [caughtOf, ht] at p1; exact p1.elim
    | some tag =>
      simp only [caughtOf, ht] at p1
      obtain ⟨⟨y, hy⟩, hb⟩ := clsIn_ok x hh ht
      refine hw_ok x hy hd (fun p0 hp0 => ?_) hh ht
      obtain ⟨s4, q4, r4⟩ := q2.newL (xs := [.d (.str tag), v]) hp0 (show 2 ≤ big by decide) (two_trs hb r2)
      exact p1 F2 ρ2 _ _ (s2.trans s4) q4 r4
theorem told0 (x : XOk G N sc fn cl W cf lv X) {a : E} {hs : List (Nat × Str)} (hh : ∀ p ∈ hs, (∃ x, G.cls[p.1]? = some x) ∧ p.1 ≠ 0 ∧ p.2.length ≤ big) {σ : L2.St} {H : Hp} {Q : VK} (h : tE X.K cl W cf (.caught 0 hs a) σ H Q) :
    LamX.tLam cl.tt (NX.TT0 X.K (clsOf cl hs)) (tIn X.K cl cf a) σ H Q := by
  obtain ⟨F, ρ, env, st, hS, hE, p⟩ := h
  simp only [evalE] at p
  refine ⟨hS.tb, fun H1 e1 t1 => ⟨Nat.zero_le _, fun p0 hp0 => ?_⟩⟩
  obtain ⟨q1, s1⟩ := hS.extN e1 t1
  have p1 := Post.step s1 p
  obtain ⟨qa, la, na, nρ⟩ := q1.asideP (o := .lst []) hp0 True.intro
  refine ⟨withP F p0, ρ, env, st, qa, la.er (s1.er hE), ?_⟩
  show Post _ _ _ _ _ _ _ _ (evalE cf a env st) _
  cases hr : evalE cf a env st with
  | stuck => rw [hr] at p1; exact p1.elim
  | ok v st2 =>
    rw [hr] at p1
    intro F2 ρ2 H2 b s2 q2 r2
    obtain ⟨t1, t2, t3, t4, t5, t6⟩ := q1.backP hp0 s2 q2
    refine p1 _ ρ2 H2 _ t1 t2 ?_
    exact ⟨p0, [], rfl, ⟨t5, na.2⟩, t6, t4, Nat.zero_le _, by unfold TRs; rfl⟩
  | exc c v st2 =>
    rw [hr] at p1
    intro F2 ρ2 H2 w d s2 q2 r2 hd
    obtain ⟨t1, t2, t3, t4, t5, t6⟩ := q1.backP hp0 s2 q2
    cases ht : hs.lookup c with
    | none => simp only [caughtOf, ht] at p1; exact p1.elim
    | some tag =>
      simp only [caughtOf, ht] at p1
      obtain ⟨⟨y, hy⟩, hb⟩ := clsIn_ok x hh ht
      refine hw_ok x hy hd (fun p2 hp2 => ?_) hh ht
      obtain ⟨s4, q4, r4⟩ := t2.newL (xs := [.d (.str tag), v]) hp2 (show 2 ≤ big by decide) (two_trs hb (t3.tr r2))
      exact p1 _ ρ2 _ _ (t1.trans s4) q4 r4
theorem okR1_all {L Ng : List Str} {sg : Scope} {hs : List (Nat × Str)} {hds : List ExceptHandler} (h : okR1 L Ng sg hs hds = true) : ∀ p ∈ hs, (∃ x, L[p.1]? = some x) ∧ p.1 ≠ 0 ∧ p.2.length ≤ big := by
  fun_induction okR1 L Ng sg hs hds with
  | case1 => exact fun _ h => nomatch h
  | case2 c tag hs x p1 n z j p2 n' p3 at_ p4 p5 p6 p7 es ih =>
    simp only [Bool.and_eq_true, decide_eq_true_eq] at h
    intro p hp
    rcases List.mem_cons.mp hp with rfl | hp
    · exact ⟨⟨x, h.1.1.1.1.1.1.1.1.1.1⟩, h.1.1.1.1.1.1.1.1.1.2, h.1.2⟩
    · exact ih h.2 p hp
  | case3 => cases h
theorem okS1_all {L Ng : List Str} {sg : Scope} {y : Str} {hs : List (Nat × Str)} {hds : List ExceptHandler} (h : okS1 L Ng sg y hs hds = true) : ∀ p ∈ hs, (∃ x, L[p.1]? = some x) ∧ p.1 ≠ 0 ∧ p.2.length ≤ big := by
  fun_induction okS1 L Ng sg y hs hds with
  | case1 => exact fun _ h => nomatch h
  | case2 c tag hs x p1 n y' p0 z j p2 n' p3 at_ p4 p5 p6 p7 es ih =>
    simp only [Bool.and_eq_true, decide_eq_true_eq] at h
    intro p hp
    rcases List.mem_cons.mp hp with rfl | hp
    · exact ⟨⟨x, h.1.1.1.1.1.1.1.1.1.1.1.1⟩, h.1.1.1.1.1.1.1.1.1.1.1.2, h.1.2⟩
    · exact ih h.2 p hp
  | case3 => cases h
theorem cat_inv {L Ng : List Str} {sg : Scope} {av : Str} {k : Nat} {hs : List (Nat × Str)} {bg : List Stmt} (h : catOk L Ng sg av k hs bg = true) :
    (k = 0 ∧ ∃ z hh hds q1 q2 q3 q4 q5 q6 q7 q8 q9, bg = [.Assign [.Name z q1] (.List [] q2) q3, .Try [.Expr (.Call (.Name av q4) [] [] q5) q6] (hh :: hds) [] [] q7, .Return (some (.Name z q8)) q9] ∧ memB z Ng = true ∧ Ng[0]? ≠ some z ∧ locN sg z = true ∧ okS1 L Ng sg z hs (hh :: hds) = true) ∨
    (k = 1 ∧ ∃ hh hds j q1 q2 q3 q4 q5 q6, bg = [.Try [.Return (some (.List [.Constant (.str "told") j q1, .Call (.Name av q2) [] [] q3] q4)) q5] (hh :: hds) [] [] q6] ∧ okR1 L Ng sg hs (hh :: hds) = true) := by
  unfold catOk at h
  split at h
  · simp only [Bool.and_eq_true, decide_eq_true_eq] at h
    obtain ⟨⟨⟨⟨⟨rfl, rfl⟩, n1⟩, n2⟩, n3⟩, n4⟩ := h
    exact .inl ⟨rfl, _, _, _, _, _, _, _, _, _, _, _, _, rfl, n1, n2, n3, n4⟩
  · simp only [Bool.and_eq_true, decide_eq_true_eq] at h
    obtain ⟨⟨rfl, rfl⟩, n4⟩ := h
    exact .inr ⟨rfl, _, _, _, _, _, _, _, _, _, rfl, n4⟩
  · cases h
theorem lamW_of {Y : Cx} {params : Arguments} {body : Expr} {scope : Scope} (h : noArgs params = true) (hs : LamX.LamS Y.env.scope scope) : NX.LamW Y params body scope := by
  obtain ⟨po, ar, va, ko, kd, ka, df⟩ := params
  unfold noArgs at h
  simp only [Bool.and_eq_true, List.isEmpty_iff, Option.isNone_iff_eq_none] at h
  obtain ⟨⟨⟨⟨⟨⟨rfl, rfl⟩, rfl⟩, rfl⟩, rfl⟩, rfl⟩, rfl⟩ := h
  refine ⟨hs, rfl, fun q cl m v w => rfl⟩
theorem XOk.lamC (x : XOk G N sc fn cl W cf lv X) (A : Around) (fr : List PySem.Env) (s : Shared) (H : Hp) (E : XK) (scope : Scope) (f c1 : Addr) (hg : A.guards = some []) (hr : Room lv (A.deeper (LamX.lamEnv X scope s.heap.objs.size f c1))) :
    XOk G.calm N scope (fun _ => false) cl (fun c d _ H => E c d H) cf lv (LamX.lamCx X A fr s H E scope f c1) where
  hN := x.hN
  hsc := rfl
  nd := x.nd
  calm := rfl
  guards := hg
  units := hr.units
  smod := x.smod
  fnx := fun y h => h
  free := x.free
  nums := x.nums
  tups := x.tups
  calls := x.calls
  room := hr
  excs := x.excs
  exm := x.exm
  cats := fun q hq => (x.cats q hq).calm
  lam := fun h => by cases h
  takes := takes_of rfl rfl rfl rfl
theorem e_caught (x : XOk G N sc fn cl W cf lv X) {k : Nat} {hs : List (Nat × Str)} {a : E} {y : Str} {params : Arguments} {body : Expr} {scope : Scope} {p1 p2 : Pos} (h : okE G N (.caught k hs a) sc (.Call (.Name y p1) [.Lambda params body scope p2] [] pos) = true)
    (hb : ∀ (X' : Cx) (W' : WX), XOk G.calm N scope (fun _ => false) cl W' cf lv X' → PEx X' cl W' cf a body) : PEx X cl W cf (.caught k hs a) (.Call (.Name y p1) [.Lambda params body scope p2] [] pos) := by
  simp only [okE, Bool.and_eq_true] at h
  obtain ⟨⟨⟨⟨⟨⟨h1, h2⟩, h3⟩, h4⟩, h5⟩, h6⟩, h7⟩ := h
  obtain ⟨g, pg, bg, sg, dV, kV, doc, pm, cdv, ct, oc, an, od, osl, Ng, av, m1, m2, m3, m4, m5, m6, m7, m8, m9, m10⟩ := x.cats _ (memB_ok h2)
  obtain ⟨hroom, ltab⟩ := x.lam h1
  have hd := plain_ok h4
  have hda := plain_ok m9
  have hls : LamX.LamS X.env.scope scope := by rw [x.hsc]; exact LamX.lamS_by h6
  have C : NX.CatF X y av g bg sg cdv Ng := ⟨m1, m2, m4, ⟨pg, dV, kV, doc, pm, ct, oc, an, od, osl, m3, m5⟩, m6, m7, vis_ok m8, hda.1, hda.2.1⟩
  have L : NX.LamT X cl.tt := ⟨ltab⟩
  have hB : ∀ (E : XK) (f c1 : Addr), NX.LamB X scope body lv E f c1 (tIn X.K cl cf a E) := fun E f c1 A fr s H hgu hr => hb _ _ (x.lamC A fr s H E scope f c1 hgu hr)
  have names : ∀ (s : Shared) (H : Hp) (c : Nat) (z : Str), G.cls[c]? = some z → gl sg z = true → plainName z = true → Names (NX.catX X Ng y sg g cdv s H) z (cl.cl c) := fun s H c z hz hg hp => by
    obtain ⟨Ca, D, fI, fd, e1, e2, e3, e4⟩ := x.excs c z hz
    refine ⟨?_, (plain_ok hp).1, .inl ?_⟩
    · unfold gl at hg
      have hg' := of_decide_eq_true hg
      exact hg'
    · rw [e2]
      exact e1
  have start0 : ∀ f : Addr, (L2.start Ng [V.ref f])[0]? = some (some (V.ref f)) := fun f => rfl
  have hnd : Ng.Nodup := m6.nd
  rcases cat_inv m10 with ⟨hk, z, hh, hds, q1, q2, q3, q4, q5, q6, q7, q8, q9, hbg, n1, n2, n3, n4⟩ | ⟨hk, hh, hds, j, q1, q2, q3, q4, q5, q6, hbg, n4⟩
  · cases (show k = 0 from hk)
    cases hbg
    obtain ⟨m, hm⟩ := List.mem_iff_getElem?.mp (memB_ok n1)
    unfold locN at n3
    simp only [Bool.and_eq_true, decide_eq_true_eq] at n3
    have hz := plain_ok n3.2
    have hG := NX.cat0_gives (X := X) (Ng := Ng) (x := y) (a := av) (q := X.env.qual ++ "<lambda>") (sg := sg) (g := g) (cdg := cdv) (p1 := q1) (p2 := q2) (p3 := q3) (p4 := q4) (p5 := q5) (p6 := q6) (p7 := q7) (p8 := q8) (p9 := q9) hnd hm
      (fun e => n2 (by rw [e] at hm; exact hm)) n3.1 hz.1 hz.2.1 (fun s H => (okS1_ok (cl := cl) (Y := NX.catX X Ng y sg g cdv s H) hm rfl rfl (names s H) n4).1) start0 (fun f => by
        unfold L2.start
        have : 0 < Ng.length := (List.getElem?_eq_some_iff.mp m7).1
        simp
        omega)
    refine PE.imp (NX.pe_lamG (k := lv) (gl_ok x h3) C hG L hroom x.guards (lamW_of h5 hls) hB hd.1) fun σ H Q q => ?_
    exact told0 x (okS1_all n4) q
  · cases (show k = 1 from hk)
    cases hbg
    have hG := NX.cat1_gives (X := X) (Ng := Ng) (x := y) (a := av) (q := X.env.qual ++ "<lambda>") (told := "told") (sg := sg) (g := g) (cdg := cdv) (j := j) (p1 := q1) (p2 := q2) (p3 := q3) (p4 := q4) (p5 := q5) (p6 := q6) hnd
      (fun s H => (okR1_ok (cl := cl) (Y := NX.catX X Ng y sg g cdv s H) rfl rfl (names s H) n4).1) start0
    refine PE.imp (NX.pe_lamG (k := lv) (gl_ok x h3) C hG L hroom x.guards (lamW_of h5 hls) hB hd.1) fun σ H Q q => ?_
    exact told1 x (okR1_all n4) q
end
end MP

/-! NX, part f: enumerate over a tuple. -/
namespace NX
open PySem L2 PySem.Spec PyProof.Rows
/-- the two objects of an enumerate that was just made over v -/
abbrev enumO (n : Nat) : Obj := { cls := .type "enumerate", data := .fields #[.none, .bool false, .ref n, rawInt 0, .none, .none] }
theorem enum_new1 {v : Value} {o : Obj} {D : Heap → Prop} (B : Begins v o D) :
    Meets (Builtin.«enumerate.__new__» ⟨[.type "enumerate", v], []⟩) fun _ R s => D s.heap ∧ R (.ok (.ret (.ref (s.heap.push o).objs.size))) { s with heap := (s.heap.push o).push (enumO s.heap.objs.size) } := by
  refine .of_wp fun prog w A R s ⟨d0, fin⟩ => ?_
  obtain ⟨hp, gs, dr, tk, os⟩ := s
  have sb := sub_enumerate
  have it : ∀ {A' : Around} {E : Value → Shared → Prop} {Q : Value → Shared → Prop}, Q (.ref hp.objs.size) ⟨hp.push o, gs, dr, tk, os⟩ → wpAny (model prog w) A' (pyIter v) Q E ⟨hp, gs, dr, tk, os⟩ := fun z => B.iter prog w _ _ ⟨hp, gs, dr, tk, os⟩ _ d0 z
  wp_walk using it
  refine wpAny_stack_any fun _ => wpAny_pure ?_
  split
  · rename_i c _ _ _ _ _
    cases (c == Value.type "enumerate") <;> (wp_walk using it; exact ⟨_, rfl, fin⟩)
  · wp_walk using it
    exact ⟨_, rfl, fin⟩
theorem enum_call1 {prog : Program} {w : World} {A : Around} {E : Value → Shared → Prop} {s : Shared} {v : Value} {o : Obj} {D : Heap → Prop} {Q : Value → Shared → Prop} (B : Begins v o D) (d0 : D s.heap)
    (fin : ∀ h', IsEnum h' (s.heap.objs.size + 1) s.heap.objs.size 0 .none → h'.get? s.heap.objs.size = some o → (∀ b ob, s.heap.get? b = some ob → h'.get? b = some ob) → Q (.ref (s.heap.objs.size + 1)) { s with heap := h' }) :
    wpAny (model prog w) A (call (.type "enumerate") [v]) Q E s := by
  have sz : (s.heap.push o).objs.size = s.heap.objs.size + 1 := Heap.size_push ..
  have ob : ((s.heap.push o).push (enumO s.heap.objs.size)).get? (s.heap.objs.size + 1) = some (enumO s.heap.objs.size) := by
    have z := Heap.get?_push_size (s.heap.push o) (o := enumO s.heap.objs.size) rfl
    rwa [sz] at z
  refine callType_new F.called_enumerate (by decide) (F.typeCall_enumerate_1 _) (F.newCall_enumerate_1 _) (fun obj => F.args_object_init_2 obj _) F.entry_enumerate_new (enum_new1 B) ⟨d0, ?_⟩
  show _ ∧ _
  rw [sz]
  exact ⟨⟨_, ob, rfl⟩, fin _ ob (Heap.get?_push_of_some _ (Heap.get?_push_size _ B.free)) fun b z e => Heap.get?_push_of_some _ (Heap.get?_push_of_some _ e)⟩
/-- the tuple at a, each item in a new pair with its number -/
def IteT (K : PySem.W.Frag) (a : Addr) : It where
  go := fun i H => ∃ (xs : List V) (x : V), SqT K H a xs ∧ xs[i]? = some x
  yld := fun i H v H' => ∃ T x, v = .ref T ∧ H T = none ∧ H' = upd H T (.tup [.int (i : Nat), x]) ∧ ∀ xs, SqT K H a xs → xs[i]? = some x
  stop := fun i H => ∃ xs : List V, SqT K H a xs ∧ xs.length ≤ i
/-- how the iterator stands ahead of its turn i -/
structure EnT (a e it : Addr) (i : Nat) (h : Heap) : Prop where
  en : ∃ old, IsEnum h e it ((i : Nat) : Int) old
  tu : h.IsTupleIter it a i
  ne : e ≠ it
theorem EnT.apart {a e it : Addr} {i : Nat} {h : Heap} {its : Array Value} (z : EnT a e it i h) (t : h.IsTuple a its) : a ≠ it ∧ e ≠ a := by
  obtain ⟨_, he⟩ := z.en
  obtain ⟨oi, hi, ci, _⟩ := z.tu
  obtain ⟨oa, ha, ca, _⟩ := t
  refine ⟨fun q => ?_, fun q => ?_⟩
  · rw [q, hi] at ha
    cases ha
    rw [ci] at ca
    exact absurd ca (by decide)
  · rw [← q, he] at ha
    cases ha
    exact absurd (show Value.type "enumerate" = Value.type "tuple" from ca) (by decide)
theorem turn_enumT {P : Program} {w : World} {K : PySem.W.Frag} {elts : List Expr} {kk : Nat} {tpos : Pos} (a e it : Addr) : Turn P w K (.Tuple elts kk tpos) (IteT K a) [e, it] e (EnT a e it) where
  mem := List.mem_cons_self
  obj := fun i h z b hb => by
    obtain ⟨_, he⟩ := z.en
    obtain ⟨oi, hi, _, di⟩ := z.tu
    rcases (show b = e ∨ b = it by simpa using hb) with q | q <;> subst q
    · exact ⟨_, he, fun _ => nofun⟩
    · exact ⟨oi, hi, fun _ c => by rw [di] at c; cases c⟩
  keep := fun i h h' z k => by
    obtain ⟨old, he⟩ := z.en
    exact ⟨⟨old, k e (by simp) _ he⟩, z.tu.at fun o q => k it (by simp) o q, z.ne⟩
  item := by
    rintro X rfl rfl rfl hc i pins s σ H E I fp z ⟨xs, x, sq, at_i⟩
    obtain ⟨its, rv, tup, _⟩ := I.tuple sq
    obtain ⟨u, hu, ru⟩ := rv.get at_i
    have tup' : s.heap.IsTuple a its.toArray := tup
    obtain ⟨n1, n2⟩ := z.apart tup'
    obtain ⟨old, he⟩ := z.en
    have le : e < s.heap.objs.size := Heap.lt_size he
    have li : it < s.heap.objs.size := let ⟨_, q, _⟩ := z.tu; Heap.lt_size q
    have lt : i < its.toArray.size := by
      have := (List.getElem?_eq_some_iff.mp hu).1
      simpa using this
    refine wpAny_pyNext_enum_itemD (Draws.tuple (A := X.A.in1) (I.ok.hd hc) it a n1 its.toArray) he ⟨z.tu, tup'⟩ lt z.ne (by simp [z.ne, n2]) fun v h1 tk hv out st hT _ kp => ?_
    have ev : v = u := by
      have h1 : its.toArray[i]? = some v := hv
      have h2 : its.toArray[i]? = some u := by simpa using hu
      rw [h2] at h1
      exact (Option.some.inj h1).symm
    subst ev
    refine ⟨_, rfl, wpAny_letOwnedTupleGo_enum (s := { s with heap := h1, toks := tk + 1 }) out fun h2 he2 sb => ?_⟩
    have hT2 : h2.get? s.heap.objs.size = some { cls := .type "tuple", data := .seq #[.int i tk, v] } := (sb.2 _ (Nat.ne_of_gt le)).trans hT
    have fresh : ObjOk X.prog X.w (upd H s.heap.objs.size (.tup [.int (i : Nat), x])) h2 s.heap.objs.size (.tup [.int (i : Nat), x]) := ⟨by show 2 ≤ sizeLine; decide, [.int i tk, v], .cons ⟨_, rfl⟩ (.cons ru .nil), _, hT2, rfl, _, rfl⟩
    have J : Inv X pins σ (upd H s.heap.objs.size (.tup [.int (i : Nat), x])) { s with heap := h2, toks := tk + 1 } :=
      I.turnedNew (ch := [e, it]) (fun b ob hb q => (sb.2 b fun w => hb (by simp [w])).trans (kp b ob (fun w => hb (by simp [w])) (fun w => hb (by simp [w])) q)) fp (Nat.le_refl _) fresh
    refine ⟨.ref s.heap.objs.size, _, J, rfl, ⟨_, x, rfl, I.hok.fresh (Nat.le_refl _), rfl, fun ys hy => ?_⟩, ⟨⟨v, ?_⟩, st.1.at fun o q => (sb.2 it (Ne.symm z.ne)).trans q, z.ne⟩, fun b hb => ?_⟩
    · rw [I.tuple_inj hy sq]
      exact at_i
    · exact he2
    · have lb : b < s.heap.objs.size := by
        rcases (show b = e ∨ b = it by simpa using hb) with q | q <;> subst q
        · exact le
        · exact li
      rw [upd_ne (Nat.ne_of_lt lb)]
      exact (fp b hb).1
  done := by
    rintro X rfl rfl rfl hc i pins s σ H E I fp z ⟨xs, sq, ge⟩
    obtain ⟨its, rv, tup, _⟩ := I.tuple sq
    have tup' : s.heap.IsTuple a its.toArray := tup
    obtain ⟨n1, n2⟩ := z.apart tup'
    obtain ⟨old, he⟩ := z.en
    have len := rv.length
    have none_i : its.toArray[i]? = none := by simp; omega
    have D : Draws X.prog X.w X.A.in1 it [it, a] i (fun j v => its.toArray[j]? = some v) (fun j h => (h.IsTupleIter it a j ∧ j = i) ∧ h.IsTuple a its.toArray) :=
      { live := fun _ _ st => let ⟨o, ho, _⟩ := st.1.1; ⟨o, ho⟩
        frame := fun _ _ _ st k => ⟨⟨st.1.1.at fun o q => k it (by simp) o q, st.1.2⟩, st.2.at fun o q => k a (by simp) o q⟩
        item := fun j s Q E hj st _ => absurd st.1.2 (Nat.ne_of_lt hj)
        done := fun s Q E st hE => wpAny_nextOf_tuple_end (I.ok.hd hc) st.1.1 st.2 none_i hE }
    refine wpAny_pyNext_enum_endD D he ⟨⟨z.tu, rfl⟩, tup'⟩ fun h' eb => ⟨rfl, ?_⟩
    exact I.turnedL (t' := s.toks) (ch := [e, it]) (fun b o hb q => eb b o (fun w => hb (by simp [w])) q) fp
  self := fun A i s Q E z q => let ⟨_, he⟩ := z.en; wpAny_pyIter_enum he q
/-- enumerate(e), e a list or a tuple -/
def iEnumA (K : PySem.W.Frag) (te : TE) : TI := fun σ H R => te σ H fun v H1 => ∃ a xs, ([v] : List V) = [.ref a] ∧ ((SqL K H1 a xs ∧ R (Ite K a) H1) ∨ (SqT K H1 a xs ∧ R (IteT K a) H1))
theorem pi_enumA {X : Cx} {e : Expr} {te : TE} {p pos tpos : Pos} {elts : List Expr} {kk : Nat} (hg : Gl X "enumerate") (hm : X.mg "enumerate" = none) (he : PE X e te) (hs : starEach [e] X.env = (false, eval e X.env) :: starEach [] X.env) :
    PI X (.Tuple elts kk tpos) (.Call (.Name "enumerate" p) [e] [] pos) (iEnumA X.K te) := by
  have pa := pa_cons he pa_nil hs
  refine ⟨fun pins s σ H R I h => Call_ (ld_blt I hg hm boot_enumerate (PyProof.Rows.callWith_type1 (thn (pa.run pos pins s σ H (fun vs H1 => ∃ a xs, vs = [.ref a] ∧ ((SqL X.K H1 a xs ∧ R (Ite X.K a) H1) ∨ (SqT X.K H1 a xs ∧ R (IteT X.K a) H1))) I ?_) fun us s1 ⟨vs, H1, I1, r1, q1⟩ => ?_) hs rfl))⟩
  · exact h
  · obtain ⟨a, xs, rfl, q1⟩ := q1
    cases r1 with
    | cons r rr =>
      cases rr
      cases r
      have two : ∀ b ∈ [s1.heap.objs.size + 1, s1.heap.objs.size], FpOk X pins H1 b := fun b hb => by
        have ge : s1.heap.objs.size ≤ b := by
          rcases (show b = s1.heap.objs.size + 1 ∨ b = s1.heap.objs.size by simpa using hb) with q | q <;> omega
        exact I1.fpOk ge (I1.hok.fresh ge)
      rcases q1 with ⟨sq, q⟩ | ⟨sq, q⟩
      · obtain ⟨its, rv, pl, _⟩ := I1.list sq
        refine enum_call1 (begins_list a its.toArray) pl.isList fun h1 en it0 kp => wpAny_pyIter_enum en ?_
        exact ⟨_, [s1.heap.objs.size + 1, s1.heap.objs.size], _, _, H1, rfl, I1.kept (t' := s1.toks) kp, turn_enum a (s1.heap.objs.size + 1) s1.heap.objs.size, ⟨⟨.none, en⟩, ⟨_, it0, rfl, rfl⟩, Nat.succ_ne_self _⟩, two, q⟩
      · obtain ⟨its, rv, pl, _⟩ := I1.tuple sq
        refine enum_call1 (begins_tuple a its.toArray) (show s1.heap.IsTuple a its.toArray from pl) fun h1 en it0 kp => wpAny_pyIter_enum en ?_
        exact ⟨_, [s1.heap.objs.size + 1, s1.heap.objs.size], _, _, H1, rfl, I1.kept (t' := s1.toks) kp, turn_enumT a (s1.heap.objs.size + 1) s1.heap.objs.size, ⟨⟨.none, en⟩, ⟨_, it0, rfl, rfl⟩, Nat.succ_ne_self _⟩, two, q⟩
end NX

/-! MP2, part o: targets, what is walked. -/
namespace MP
open PySem PySem.Spec L2
/-- the slots outside vs are as they were -/
def Out (vs : List Nat) (σ σ' : L2.St) : Prop := σ'.length = σ.length ∧ ∀ i, i ∉ vs → σ'[i]? = σ[i]?
def tP (K : Fg) (tt : List (Addr × Str)) (p : Pat) : TG := fun v σ H Q => ∃ F ρ env st x env', SR tt F ρ K st H ∧ ER F ρ K H env σ ∧ TR F ρ K H x v ∧ bindP st p x env = some env' ∧ ∀ σ', ER F ρ K H env' σ' → Out (patVars p) σ σ' → Q σ' H
def tPs (K : Fg) (tt : List (Addr × Str)) (ps : List Pat) : TGs := fun vs σ H Q => ∃ F ρ env st xs env', SR tt F ρ K st H ∧ ER F ρ K H env σ ∧ TRs F ρ K H xs vs ∧ bindPs st ps xs env = some env' ∧ ∀ σ', ER F ρ K H env' σ' → Out (patsVars ps) σ σ' → Q σ' H
theorem patVars_tp (ps : List Pat) : patVars (.tp ps) = patsVars ps := by rw [patVars]
theorem Out.refl {vs : List Nat} {σ : L2.St} : Out vs σ σ := ⟨rfl, fun _ _ => rfl⟩
theorem ER.set {F : FS} {ρ : List Addr} {K : Fg} {H : Hp} {env : Env} {σ : L2.St} {i : Nat} {x : T} {v : V} (h : ER F ρ K H env σ) (r : TR F ρ K H x v) : ER F ρ K H (env.set i (some x)) (σ.set i (some v)) := by
  refine ⟨by simp [h.1], fun j t e => ?_⟩
  by_cases hj : i = j
  · subst hj
    by_cases hi : i < env.length
    · rw [List.getElem?_set_self hi] at e
      cases e
      exact ⟨v, by rw [List.getElem?_set_self (by rw [← h.1]; exact hi)], r⟩
    · rw [List.getElem?_eq_none (by simpa using hi)] at e
      cases e
  · rw [List.getElem?_set_ne hj] at e
    obtain ⟨u, e1, e2⟩ := h.2 j t e
    exact ⟨u, by rw [List.getElem?_set_ne hj]; exact e1, e2⟩
theorem bindPs_len {st : Store} : ∀ {ps : List Pat} {xs : List T} {env env' : Env}, bindPs st ps xs env = some env' → ps.length = xs.length
  | [], [], _, _, _ => rfl
  | [], _ :: _, _, _, h => by simp [bindPs] at h
  | _ :: _, [], _, _, h => by simp [bindPs] at h
  | p :: ps, x :: xs, env, env', h => by
    simp only [bindPs] at h
    obtain ⟨e1, _, h2⟩ := Option.bind_eq_some_iff.mp h
    simp [bindPs_len h2]
theorem asg_star {e : Expr} {es : List Expr} {env : PySem.Env} (h : notStar e = true) : assignEach (e :: es) env = (false, assign e env) :: assignEach es env := by
  cases e <;> first | rfl | cases h
section
variable {G : Gb} {N : List Str} {sc : Scope} {fn : Str → Bool} {cl : Bs} {W : WX} {cf : CF} {lv : Nat} {X : Cx} {pos : Pos}
theorem asgs_ok : ∀ {ps : List Pat} {es : List Expr} {env : PySem.Env}, okPs N sc fn ps es = true → (assignEach es env).length = ps.length ∧ (assignEach es env).findIdx? (·.1) = none
  | [], [], _, _ => ⟨rfl, rfl⟩
  | [], _ :: _, _, h => by simp [okPs] at h
  | _ :: _, [], _, h => by simp [okPs] at h
  | p :: ps, e :: es, env, h => by
    simp only [okPs, Bool.and_eq_true] at h
    obtain ⟨h1, h2⟩ := asgs_ok (env := env) h.2
    rw [asg_star h.1.1]
    refine ⟨by simp [h1], ?_⟩
    rw [List.findIdx?_cons, h2]
    rfl
mutual
theorem g_pat (x : XOk G N sc fn cl W cf lv X) : ∀ (p : Pat) (e : Expr), okP N sc fn p e = true → PG X e (tP X.K cl.tt p)
  | .nm i, e, h => by
    cases e with
    | Name y q =>
      simp only [okP, Bool.and_eq_true, decide_eq_true_eq] at h
      obtain ⟨l1, l2⟩ := loc_ok x h.2
      have g := pg_name (X := X) (pos := q) (i := i) (by rw [x.hN]; exact x.nd) (by rw [x.hN]; exact h.1) l1 l2
      refine ⟨fun pins s σ H v u Q I r q => g.run pins s σ H v u Q I r ?_⟩
      obtain ⟨F, ρ, env, st, t, env', hS, hE, hT, e, k⟩ := q
      simp only [bindP] at e
      cases e
      refine k _ (hE.set hT) ⟨by simp, fun j hj => ?_⟩
      rw [patVars] at hj
      rw [List.getElem?_set_ne (by rintro rfl; exact hj (by simp))]
    | _ => simp [okP] at h
  | .tp ps, e, h => by
    cases e with
    | Tuple es k q =>
      simp only [okP] at h
      obtain ⟨h1, h2⟩ := asgs_ok (env := X.env) h
      have gs := g_pats x ps es h
      have g1 := pg_tup (X := X) (k := k) (pos := q) x.calm gs h1 h2
      have g2 := pg_unl (X := X) (k := k) (pos := q) x.calm gs h1 h2
      refine ⟨fun pins s σ H v u Q I r q => ?_⟩
      obtain ⟨F, ρ, env, st, t, env', hS, hE, hT, e, kk⟩ := q
      simp only [bindP] at e
      split at e
      · rename_i ts hv
        obtain ⟨a, vs, rfl, f1, f2, f3⟩ := hS.vtup hT hv
        exact g1.run pins s σ H _ u Q I r ⟨a, vs, rfl, f1.sq, by rw [← f3.length, bindPs_len e], F, ρ, env, st, ts, env', hS, hE, f3, e, fun σ' e1 e2 => kk σ' e1 (by rw [patVars_tp]; exact e2)⟩
      · rename_i ts hv
        obtain ⟨a, vs, rfl, f1, f2, f3⟩ := hS.vlst hT hv
        exact g2.run pins s σ H _ u Q I r ⟨a, vs, rfl, .inl f1, by rw [← f3.length, bindPs_len e], F, ρ, env, st, ts, env', hS, hE, f3, e, fun σ' e1 e2 => kk σ' e1 (by rw [patVars_tp]; exact e2)⟩
      · cases e
    | _ => simp [okP] at h
theorem g_pats (x : XOk G N sc fn cl W cf lv X) : ∀ (ps : List Pat) (es : List Expr), okPs N sc fn ps es = true → PGs X es (tPs X.K cl.tt ps)
  | [], [], h => by
    have g := pgs_nil (X := X)
    refine ⟨fun pins s σ H vs us Q I r q => g.run pins s σ H vs us Q I r ?_⟩
    obtain ⟨F, ρ, env, st, xs, env', hS, hE, hR, e, k⟩ := q
    cases xs with
    | nil =>
      simp only [bindPs] at e
      cases e
      unfold TRs at hR
      exact ⟨hR, k σ hE .refl⟩
    | cons => simp [bindPs] at e
  | [], _ :: _, h => by simp [okPs] at h
  | _ :: _, [], h => by simp [okPs] at h
  | p :: ps, e :: es, h => by
    simp only [okPs, Bool.and_eq_true] at h
    have g := pgs_cons (X := X) (g_pat x p e h.1.2) (g_pats x ps es h.2) (by rw [asg_star h.1.1]; rfl)
    refine ⟨fun pins s σ H vs us Q I r q => g.run pins s σ H vs us Q I r ?_⟩
    obtain ⟨F, ρ, env, st, xs, env', hS, hE, hR, e, k⟩ := q
    cases xs with
    | nil => simp [bindPs] at e
    | cons y ys =>
      simp only [bindPs] at e
      obtain ⟨env1, e1, e2⟩ := Option.bind_eq_some_iff.mp e
      unfold TRs at hR
      obtain ⟨v, r', rfl, r1, r2⟩ := hR
      refine ⟨v, r', rfl, F, ρ, env, st, y, env1, hS, hE, r1, e1, fun σ1 g1 g2 => ?_⟩
      refine ⟨F, ρ, env1, st, ys, env', hS, g1, r2, e2, fun σ2 k1 k2 => k σ2 k1 ?_⟩
      refine ⟨k2.1.trans g2.1, fun i hi => ?_⟩
      rw [patsVars, List.mem_append, not_or] at hi
      exact (k2.2 i hi.2).trans (g2.2 i hi.1)
end
/-! ### what is walked -/
end
/-! ### what is walked -/
/-- an iterator that yields the items xs, at any later time -/
structure ItF (tt : List (Addr × Str)) (K : Fg) (F : FS) (ρ : List Addr) (H : Hp) (J : It) (xs : List T) : Prop where
  len : xs.length ≤ big
  go : ∀ (i : Nat) (F' : FS) (ρ' : List Addr) (H' : Hp), i < xs.length → Lat F ρ H F' ρ' H' → J.go i H'
  yld : ∀ (i : Nat) (F' : FS) (ρ' : List Addr) (H' H'' : Hp) (st : Store) (v : V), i < xs.length → Lat F ρ H F' ρ' H' → SR tt F' ρ' K st H' → J.yld i H' v H'' →
    ∃ F'' x, xs[i]? = some x ∧ Stp F' ρ' H' F'' ρ' H'' ∧ SR tt F'' ρ' K st H'' ∧ TR F'' ρ' K H'' x v
  stop : ∀ (F' : FS) (ρ' : List Addr) (H' : Hp), Lat F ρ H F' ρ' H' → J.stop xs.length H'
def itC (K : Fg) (e : Bool) (a : Addr) : It := if e then Ite K a else Itl K a
def SrcR (tt : List (Addr × Str)) (K : Fg) : FS → List Addr → Hp → Src → It → Prop
  | F, ρ, H, .fz xs, J => ItF tt K F ρ H J xs
  | F, ρ, H, .cell n e, J => ∃ a, ρ[n]? = some a ∧ J = itC K e a
def tIt (K : Fg) (cl : Bs) (W : WX) (cf : CF) (c : E) : TI := fun σ H R => Sta cl K σ H fun F ρ env st => Post (SrcR cl.tt K) cl W σ F ρ K H (evalIt cf c env st) R
section
variable {tt : List (Addr × Str)} {K : Fg} {F : FS} {ρ : List Addr} {H : Hp} {a : Addr} {vs : List V} {xs : List T}
theorem itf_list (h1 : FzL F K H a vs) (h2 : xs.length ≤ big) (h3 : TRs F ρ K H xs vs) : ItF tt K F ρ H (Itl K a) xs where
  len := h2
  go := fun i F' ρ' H' hi s => ⟨vs, vs[i]'(by rw [← h3.length]; exact hi), (h1.mono s.1).sq, by simp⟩
  yld := fun i F' ρ' H' H'' st v hi s q y => by
    obtain ⟨rfl, y⟩ := y
    obtain ⟨x, e1, e2⟩ := (TRs.mono s _ _ h3).getV (y vs (h1.mono s.1).sq)
    exact ⟨F', x, e1, .refl, q, e2⟩
  stop := fun F' ρ' H' s => ⟨vs, (h1.mono s.1).sq, by rw [h3.length]; exact Nat.le_refl _⟩
theorem itf_tup (h1 : FzT F K H a vs) (h2 : xs.length ≤ big) (h3 : TRs F ρ K H xs vs) : ItF tt K F ρ H (Itt K a) xs where
  len := h2
  go := fun i F' ρ' H' hi s => ⟨vs, vs[i]'(by rw [← h3.length]; exact hi), (h1.mono s.1).sq, by simp⟩
  yld := fun i F' ρ' H' H'' st v hi s q y => by
    obtain ⟨rfl, y⟩ := y
    obtain ⟨x, e1, e2⟩ := (TRs.mono s _ _ h3).getV (y vs (h1.mono s.1).sq)
    exact ⟨F', x, e1, .refl, q, e2⟩
  stop := fun F' ρ' H' s => ⟨vs, (h1.mono s.1).sq, by rw [h3.length]; exact Nat.le_refl _⟩
theorem itf_rng {lo : Int} {n : Nat} (hn : n ≤ big) : ItF tt K F ρ H (Itr lo n) (intsFrom lo n) where
  len := by unfold intsFrom; simpa using hn
  go := fun i F' ρ' H' hi s => by
    show i < n
    unfold intsFrom at hi
    simpa using hi
  yld := fun i F' ρ' H' H'' st v hi s q y => by
    obtain ⟨rfl, rfl⟩ := y
    refine ⟨F', .d (.int (lo + i)), ?_, .refl, q, by unfold TR RD; rfl⟩
    unfold intsFrom at hi ⊢
    simp at hi
    simp [hi]
  stop := fun F' ρ' H' s => by
    show n ≤ (intsFrom lo n).length
    unfold intsFrom
    simp
theorem enumT_len (xs : List T) : (enumT xs).length = xs.length := by unfold enumT; simp
theorem enumT_get {i : Nat} {x : T} (h : xs[i]? = some x) : (enumT xs)[i]? = some (mkTup [.d (.int (i : Nat)), x]) := by
  unfold enumT
  rw [List.getElem?_map, List.getElem?_zipIdx, h]
  simp
theorem pair_trs {i : Nat} {x : T} {v : V} (h : TR F ρ K H x v) : TRs F ρ K H [.d (.int (i : Nat)), x] [.int (i : Nat), v] := .cons (by unfold TR RD; rfl) (.one h)
theorem itf_enumL (h1 : FzL F K H a vs) (h2 : xs.length ≤ big) (h3 : TRs F ρ K H xs vs) : ItF tt K F ρ H (Ite K a) (enumT xs) where
  len := by rw [enumT_len]; exact h2
  go := fun i F' ρ' H' hi s => ⟨vs, vs[i]'(by rw [← h3.length, ← enumT_len]; exact hi), (h1.mono s.1).sq, by simp⟩
  yld := fun i F' ρ' H' H'' st v hi s q y => by
    obtain ⟨p, x', rfl, hp, rfl, y⟩ := y
    obtain ⟨x, e1, e2⟩ := (TRs.mono s _ _ h3).getV (y vs (h1.mono s.1).sq)
    obtain ⟨F2, s2, q2, r2⟩ := q.newT (xs := [.d (.int (i : Nat)), x]) hp (show 2 ≤ big by decide) (pair_trs e2)
    exact ⟨F2, _, enumT_get e1, s2, q2, r2⟩
  stop := fun F' ρ' H' s => ⟨vs, (h1.mono s.1).sq, by rw [enumT_len, h3.length]; exact Nat.le_refl _⟩
theorem itf_enumT (h1 : FzT F K H a vs) (h2 : xs.length ≤ big) (h3 : TRs F ρ K H xs vs) : ItF tt K F ρ H (NX.IteT K a) (enumT xs) where
  len := by rw [enumT_len]; exact h2
  go := fun i F' ρ' H' hi s => ⟨vs, vs[i]'(by rw [← h3.length, ← enumT_len]; exact hi), (h1.mono s.1).sq, by simp⟩
  yld := fun i F' ρ' H' H'' st v hi s q y => by
    obtain ⟨p, x', rfl, hp, rfl, y⟩ := y
    obtain ⟨x, e1, e2⟩ := (TRs.mono s _ _ h3).getV (y vs (h1.mono s.1).sq)
    obtain ⟨F2, s2, q2, r2⟩ := q.newT (xs := [.d (.int (i : Nat)), x]) hp (show 2 ≤ big by decide) (pair_trs e2)
    exact ⟨F2, _, enumT_get e1, s2, q2, r2⟩
  stop := fun F' ρ' H' s => ⟨vs, (h1.mono s.1).sq, by rw [enumT_len, h3.length]; exact Nat.le_refl _⟩
theorem zipT_get {ys : List T} {i : Nat} {x y : T} (h : xs[i]? = some x) (h' : ys[i]? = some y) : (zipT xs ys)[i]? = some (mkTup [x, y]) := by
  unfold zipT
  rw [List.getElem?_map, show (xs.zip ys)[i]? = some (x, y) from List.getElem?_zip_eq_some.mpr ⟨h, h'⟩]
  rfl
theorem zipT_len (xs ys : List T) : (zipT xs ys).length = min xs.length ys.length := by unfold zipT; simp
theorem itf_zipL {b : Addr} {us : List V} {ys : List T} (h1 : FzL F K H a vs) (h2 : xs.length ≤ big) (h3 : TRs F ρ K H xs vs) (k1 : FzL F K H b us) (k3 : TRs F ρ K H ys us) : ItF tt K F ρ H (Itz K a b) (zipT xs ys) where
  len := by rw [zipT_len]; omega
  go := fun i F' ρ' H' hi s => by
    rw [zipT_len] at hi
    exact ⟨vs, us, vs[i]'(by rw [← h3.length]; omega), us[i]'(by rw [← k3.length]; omega), (h1.mono s.1).sq, (k1.mono s.1).sq, by simp, by simp⟩
  yld := fun i F' ρ' H' H'' st v hi s q y => by
    obtain ⟨p, x', y', rfl, hp, rfl, y1, y2⟩ := y
    obtain ⟨x, e1, e2⟩ := (TRs.mono s _ _ h3).getV (y1 vs (h1.mono s.1).sq)
    obtain ⟨z, e3, e4⟩ := (TRs.mono s _ _ k3).getV (y2 us (k1.mono s.1).sq)
    obtain ⟨F2, s2, q2, r2⟩ := q.newT (xs := [x, z]) hp (show 2 ≤ big by decide) (.cons e2 (.one e4))
    exact ⟨F2, _, zipT_get e1 e3, s2, q2, r2⟩
  stop := fun F' ρ' H' s => ⟨vs, us, (h1.mono s.1).sq, (k1.mono s.1).sq, by rw [zipT_len, ← h3.length, ← k3.length]; omega⟩
theorem itf_zipT {b : Addr} {us : List V} {ys : List T} (h1 : FzT F K H a vs) (h2 : xs.length ≤ big) (h3 : TRs F ρ K H xs vs) (k1 : FzT F K H b us) (k3 : TRs F ρ K H ys us) : ItF tt K F ρ H (RZ.ItzT K a b) (zipT xs ys) where
  len := by rw [zipT_len]; omega
  go := fun i F' ρ' H' hi s => by
    rw [zipT_len] at hi
    exact ⟨vs, us, vs[i]'(by rw [← h3.length]; omega), us[i]'(by rw [← k3.length]; omega), (h1.mono s.1).sq, (k1.mono s.1).sq, by simp, by simp⟩
  yld := fun i F' ρ' H' H'' st v hi s q y => by
    obtain ⟨p, x', y', rfl, hp, rfl, y1, y2⟩ := y
    obtain ⟨x, e1, e2⟩ := (TRs.mono s _ _ h3).getV (y1 vs (h1.mono s.1).sq)
    obtain ⟨z, e3, e4⟩ := (TRs.mono s _ _ k3).getV (y2 us (k1.mono s.1).sq)
    obtain ⟨F2, s2, q2, r2⟩ := q.newT (xs := [x, z]) hp (show 2 ≤ big by decide) (.cons e2 (.one e4))
    exact ⟨F2, _, zipT_get e1 e3, s2, q2, r2⟩
  stop := fun F' ρ' H' s => ⟨vs, us, (h1.mono s.1).sq, (k1.mono s.1).sq, by rw [zipT_len, ← h3.length, ← k3.length]; omega⟩
/-- a list that is no cell stands still -/
theorem vlstF {st : Store} {t : T} {v : V} (ht : ∀ n, t ≠ .ref n) (h : TR F ρ K H t v) (e : view st t = .lst xs) : ∃ a vs, v = .ref a ∧ FzL F K H a vs ∧ xs.length ≤ big ∧ TRs F ρ K H xs vs := by
  cases t with
  | ref n => exact absurd rfl (ht n)
  | d x =>
    cases x <;> simp [view] at e
    · subst e
      unfold TR RD at h
      obtain ⟨a, vs, rfl, g1, g2, g3⟩ := h
      exact ⟨a, vs, rfl, g1, by simpa using g2, g3.trs⟩
    · split at e <;> cases e
  | tup ts => simp [view] at e
  | lst ts =>
    simp [view] at e
    subst e
    unfold TR at h
    exact h
  | dct ks ts => simp [view] at e
end
section
variable {G : Gb} {N : List Str} {sc : Scope} {fn : Str → Bool} {cl : Bs} {W : WX} {cf : CF} {lv : Nat} {X : Cx} {pos : Pos}
theorem PI.imp {tg e : Expr} {t t' : TI} (h : PI X tg e t) (i : ∀ σ H R, t' σ H R → t σ H R) : PI X tg e t' := ⟨fun pins s σ H R I q => h.run pins s σ H R I (i σ H R q)⟩
/-- a sequence: a list, a tuple, a cell -/
theorem i_seq {tg e : Expr} {te : TE} (h : PE X e te) : PI X tg e (fun σ H R => te σ H fun v H1 => (∃ a, v = .ref a ∧ (∃ xs, SqL X.K H1 a xs) ∧ R (Itl X.K a) H1) ∨ ∃ a, v = .ref a ∧ (∃ xs, SqT X.K H1 a xs) ∧ R (Itt X.K a) H1) := by
  refine ⟨fun pins s σ H R I q => ?_⟩
  refine thn (h.run pins s σ H _ I q) fun v s1 ⟨x, H1, I1, r1, q1⟩ => ?_
  rcases q1 with ⟨a, rfl, ⟨xs, hq⟩, q⟩ | ⟨a, rfl, ⟨xs, hq⟩, q⟩
  · cases r1
    obtain ⟨its, rv, p, hz⟩ := I1.list hq
    refine wpAny_pyIter_list p.isList ?_
    refine ⟨s1.heap.objs.size, [s1.heap.objs.size], _, _, H1, rfl, I1.kept (t' := s1.toks) fun b o e => Heap.get?_push_of_some _ e, turn_list a _, ⟨_, Heap.get?_push_size _ rfl, rfl, rfl⟩, fun b hb => ?_, q⟩
    cases (show b = s1.heap.objs.size by simpa using hb)
    exact I1.fpOk (Nat.le_refl _) (I1.hok.fresh (Nat.le_refl _))
  · cases r1
    obtain ⟨its, rv, p, hz⟩ := I1.tuple hq
    refine wpAny_pyIter_tuple (show s1.heap.IsTuple a its.toArray from p) ?_
    refine ⟨s1.heap.objs.size, [s1.heap.objs.size], _, _, H1, rfl, I1.kept (t' := s1.toks) fun b o e => Heap.get?_push_of_some _ e, turn_tuple a _, ⟨_, Heap.get?_push_size _ rfl, rfl, rfl⟩, fun b hb => ?_, q⟩
    cases (show b = s1.heap.objs.size by simpa using hb)
    exact I1.fpOk (Nat.le_refl _) (I1.hok.fresh (Nat.le_refl _))
def isIt : E → Bool
  | .rng _ => true
  | .enm _ => true
  | .zp _ _ => true
  | _ => false
theorem evalIt_eq {c : E} {env : Env} {st : Store} (hc : isIt c = false) : evalIt cf c env st = (evalE cf c env st).bind fun v st1 => lift (srcOf st1 v) st1 := by
  cases c <;> first | (simp only [evalIt]; done) | (exact absurd hc (by simp [isIt]))
/-- what a value is that can be walked -/
theorem src_cases {F1 : FS} {ρ1 : List Addr} {K : Fg} {tt : List (Addr × Str)} {H1 : Hp} {st1 : Store} {v : RV} {u : V} {src : Src} (q1 : SR tt F1 ρ1 K st1 H1) (r1 : RVR F1 ρ1 K H1 v u) (e : srcOf st1 v = some src) :
    ∃ F2 a, Stp F1 ρ1 H1 F2 ρ1 H1 ∧ SR tt F2 ρ1 K st1 H1 ∧ u = .ref a ∧ ((∃ n vs, src = .cell n false ∧ ρ1[n]? = some a ∧ SqL K H1 a vs) ∨ (∃ xs vs, src = .fz xs ∧ FzL F2 K H1 a vs ∧ xs.length ≤ big ∧ TRs F2 ρ1 K H1 xs vs) ∨ ∃ xs vs, src = .fz xs ∧ FzT F2 K H1 a vs ∧ xs.length ≤ big ∧ TRs F2 ρ1 K H1 xs vs) := by
  cases v with
  | newD ks ts => simp [srcOf] at e
  | new xs =>
    simp only [srcOf] at e
    cases e
    obtain ⟨a, vs, rfl, k1, k2, k3, k4, k5⟩ := r1
    obtain ⟨s2, q2⟩ := q1.frz k1 k2 ⟨_, k3, trivial⟩
    exact ⟨_, a, s2, q2, rfl, .inr (.inl ⟨xs, vs, rfl, ⟨.inr rfl, .inl k3⟩, k4, s2.trs k5⟩)⟩
  | t w =>
    by_cases hw : ∃ n, w = .ref n
    · obtain ⟨n, rfl⟩ := hw
      simp only [srcOf] at e
      split at e
      · rename_i zs hcc
        cases e
        have r1' : TR F1 ρ1 K H1 (.ref n) u := r1
        unfold TR at r1'
        obtain ⟨a, hn, rfl⟩ := r1'
        obtain ⟨vs, g1, _⟩ := q1.cells n _ a hcc hn
        exact ⟨F1, a, .refl, q1, rfl, .inl ⟨n, vs, rfl, hn, SqL.of g1⟩⟩
      · cases e
    · have hw' : ∀ n, w ≠ .ref n := fun n z => hw ⟨n, z⟩
      have r1' : TR F1 ρ1 K H1 w u := r1
      have e' : (match view st1 w with
        | .lst ts => some (Src.fz ts)
        | .tup ts => some (.fz ts)
        | _ => none) = some src := by
        cases w <;> first | exact e | exact absurd rfl (hw' _)
      split at e'
      · rename_i ts hv
        cases e'
        obtain ⟨a, vs, rfl, g1, g2, g3⟩ := vlstF hw' r1' hv
        exact ⟨F1, a, .refl, q1, rfl, .inr (.inl ⟨ts, vs, rfl, g1, g2, g3⟩)⟩
      · rename_i ts hv
        cases e'
        obtain ⟨a, vs, rfl, g1, g2, g3⟩ := q1.vtup r1' hv
        exact ⟨F1, a, .refl, q1, rfl, .inr (.inr ⟨ts, vs, rfl, g1, g2, g3⟩)⟩
      · cases e'
theorem i_plain (x : XOk G N sc fn cl W cf lv X) {tg e : Expr} {c : E} (h : PEx X cl W cf c e) (hc : isIt c = false) : PI X tg e (tIt X.K cl W cf c) := by
  refine PI.imp (i_seq h) fun σ H R q => ?_
  obtain ⟨F, ρ, env, st, hS, hE, p⟩ := q
  rw [evalIt_eq hc] at p
  refine ⟨F, ρ, env, st, hS, hE, Post.bind p fun v st1 F1 ρ1 H1 u s1 q1 r1 p1 => ?_⟩
  obtain ⟨src, e, p2⟩ := Post.lift p1
  obtain ⟨F2, a, s2, q2, rfl, ⟨n, vs, rfl, hn, sq⟩ | ⟨xs, vs, rfl, g1, g2, g3⟩ | ⟨xs, vs, rfl, g1, g2, g3⟩⟩ := src_cases q1 r1 e
  · exact .inl ⟨a, rfl, ⟨vs, sq⟩, p2 F2 ρ1 H1 _ s2 q2 ⟨a, hn, rfl⟩⟩
  · exact .inl ⟨a, rfl, ⟨vs, g1.sq⟩, p2 F2 ρ1 H1 _ s2 q2 (itf_list g1 g2 g3)⟩
  · exact .inr ⟨a, rfl, ⟨vs, g1.sq⟩, p2 F2 ρ1 H1 _ s2 q2 (itf_tup g1 g2 g3)⟩
theorem i_enm (x : XOk G N sc fn cl W cf lv X) {y : Expr} {c : E} {p tpos : Pos} {elts : List Expr} {kk : Nat} (hg : gl sc "enumerate" = true) (hf : ("enumerate" : Str) ∈ G.free) (h : PEx X cl W cf c y) (hs : notStar y = true) :
    PI X (.Tuple elts kk tpos) (.Call (.Name "enumerate" p) [y] [] pos) (tIt X.K cl W cf (.enm c)) := by
  refine PI.imp (NX.pi_enumA (gl_ok x hg) (x.free _ hf) h (star_ok hs)) fun σ H R q => ?_
  obtain ⟨F, ρ, env, st, hS, hE, p⟩ := q
  simp only [evalIt] at p
  refine ⟨F, ρ, env, st, hS, hE, Post.bind p fun v st1 F1 ρ1 H1 u s1 q1 r1 p1 => ?_⟩
  obtain ⟨src, e, p2⟩ := Post.lift p1
  unfold srcE at e
  cases ho : srcOf st1 v with
  | none => rw [ho] at e; cases e
  | some src0 =>
    rw [ho] at e
    obtain ⟨F2, a, s2, q2, rfl, ⟨n, vs, rfl, hn, sq⟩ | ⟨xs, vs, rfl, g1, g2, g3⟩ | ⟨xs, vs, rfl, g1, g2, g3⟩⟩ := src_cases q1 r1 ho
    · cases e
      exact ⟨a, vs, rfl, .inl ⟨sq, p2 F2 ρ1 H1 _ s2 q2 ⟨a, hn, rfl⟩⟩⟩
    · cases e
      exact ⟨a, vs, rfl, .inl ⟨g1.sq, p2 F2 ρ1 H1 _ s2 q2 (itf_enumL g1 g2 g3)⟩⟩
    · cases e
      exact ⟨a, vs, rfl, .inr ⟨g1.sq, p2 F2 ρ1 H1 _ s2 q2 (itf_enumT g1 g2 g3)⟩⟩
theorem seqRV_cases {F1 : FS} {ρ1 : List Addr} {K : Fg} {tt : List (Addr × Str)} {H1 : Hp} {st1 : Store} {w : T} {u : V} {b : Bool} {xs : List T} (q1 : SR tt F1 ρ1 K st1 H1) (r1 : TR F1 ρ1 K H1 w u) (e : seqRV st1 (.t w) = some (b, xs)) :
    ∃ a vs, u = .ref a ∧ xs.length ≤ big ∧ TRs F1 ρ1 K H1 xs vs ∧ (b = true → FzL F1 K H1 a vs) ∧ (b = false → FzT F1 K H1 a vs) := by
  by_cases hw : ∃ n, w = .ref n
  · obtain ⟨n, rfl⟩ := hw
    simp [seqRV] at e
  · have hw' : ∀ n, w ≠ .ref n := fun n z => hw ⟨n, z⟩
    have e' : (match view st1 w with
      | .lst ts => some (true, ts)
      | .tup ts => some (false, ts)
      | _ => none) = some (b, xs) := by
      cases w <;> first | exact e | exact absurd rfl (hw' _)
    split at e'
    · rename_i ts hv
      cases e'
      obtain ⟨a, vs, rfl, g1, g2, g3⟩ := vlstF hw' r1 hv
      exact ⟨a, vs, rfl, g2, g3, fun _ => g1, nofun⟩
    · rename_i ts hv
      cases e'
      obtain ⟨a, vs, rfl, g1, g2, g3⟩ := q1.vtup r1 hv
      exact ⟨a, vs, rfl, g2, g3, nofun, fun _ => g1⟩
    · cases e'
theorem i_zp (x : XOk G N sc fn cl W cf lv X) {y z : Expr} {c d : E} {p tpos : Pos} {elts : List Expr} {kk : Nat} (hg : gl sc "zip" = true) (hf : ("zip" : Str) ∈ G.free) (h : PEx X cl W cf c y) (hs : notStar y = true) (h' : PEx X cl W cf d z) (hs' : notStar z = true) :
    PI X (.Tuple elts kk tpos) (.Call (.Name "zip" p) [y, z] [] pos) (tIt X.K cl W cf (.zp c d)) := by
  refine PI.imp (RZ.pi_zipA (gl_ok x hg) (x.free _ hf) (pa_cons h.s (pa_cons h'.s pa_nil (star_ok hs')) (star_ok hs)) (star_ok hs) (by rw [star_ok hs']; rfl)) fun σ H R q => ?_
  obtain ⟨F, ρ, env, st, hS, hE, p⟩ := q
  simp only [evalIt] at p
  refine tS2 hS hE p fun F2 ρ2 H2 t1 t2 v1 v2 st2 q2 e2 r1 r2 p2 => ?_
  obtain ⟨src, e, p3⟩ := Post.lift p2
  cases o1 : seqRV st2 (.t t1) with
  | none => rw [o1] at e; simp [zipS] at e
  | some b1 =>
    cases o2 : seqRV st2 (.t t2) with
    | none => rw [o1, o2] at e; simp [zipS] at e
    | some b2 =>
      obtain ⟨b, xs⟩ := b1
      obtain ⟨b', ys⟩ := b2
      rw [o1, o2] at e
      simp only [zipS] at e
      split at e
      · rename_i hb
        cases e
        obtain ⟨a, vs, rfl, g2, g3, gl, gt⟩ := seqRV_cases q2 r1 o1
        obtain ⟨a', us, rfl, k2, k3, kl, kt⟩ := seqRV_cases q2 r2 o2
        cases (eq_of_beq hb)
        cases b with
        | true => exact ⟨a, a', vs, us, rfl, .inl ⟨(gl rfl).sq, (kl rfl).sq, p3 F2 ρ2 H2 _ .refl q2 (itf_zipL (gl rfl) g2 g3 (kl rfl) k3)⟩⟩
        | false => exact ⟨a, a', vs, us, rfl, .inr ⟨(gt rfl).sq, (kt rfl).sq, p3 F2 ρ2 H2 _ .refl q2 (itf_zipT (gt rfl) g2 g3 (kt rfl) k3)⟩⟩
      · cases e
end
end MP

/-! MP2, part p: comprehensions. -/
namespace MP
open PySem PySem.Spec L2
def nxOf : Src → Nat → Store → Option (Option T)
  | .fz xs, i, _ => some xs[i]?
  | .cell n e, i, st => match st[n]? with
    | some (.lst ys) => some (ys[i]?.map (wrapE e i))
    | _ => none
def compG {α : Type} (nx : Nat → Store → Option (Option T)) (g : T → Store → Res (Option α)) : Nat → Nat → Store → Res (List α)
  | 0, _, _ => .stuck
  | k + 1, i, st => match nx i st with
    | some (some x) => (g x st).bind fun o st' => (compG nx g k (i + 1) st').bind fun r st'' => .ok (consO o r) st''
    | some none => .ok [] st
    | none => .stuck
theorem compL_G {α : Type} {g : T → Store → Res (Option α)} : ∀ (m : Nat) {xs : List T} {i : Nat} {st : Store}, m = xs.length - i → i ≤ xs.length → compL g (xs.drop i) st = compG (nxOf (.fz xs)) g (m + 1) i st
  | 0, xs, i, st, h, hi => by
    have e : xs.drop i = [] := List.drop_eq_nil_of_le (by omega)
    have e2 : xs[i]? = none := List.getElem?_eq_none (by omega)
    rw [e]
    simp only [compL, compG, nxOf, e2]
  | m + 1, xs, i, st, h, hi => by
    have hlt : i < xs.length := by omega
    have e : xs.drop i = xs[i] :: xs.drop (i + 1) := List.drop_eq_getElem_cons hlt
    have e2 : xs[i]? = some xs[i] := List.getElem?_eq_getElem hlt
    rw [e, compG]
    simp only [compL, nxOf, e2]
    congr 1
    funext o st'
    rw [compL_G m (by omega) (by omega)]
theorem compC_G {α : Type} {g : T → Store → Res (Option α)} {n : Nat} {e : Bool} : ∀ (k i : Nat) (st : Store), compC g n e k i st = compG (nxOf (.cell n e)) g k i st
  | 0, _, _ => rfl
  | k + 1, i, st => by
    rw [compC, compG]
    simp only [nxOf]
    cases st[n]? with
    | none => rfl
    | some c =>
      cases c with
      | dead => rfl
      | dct ks ts => rfl
      | lst xs =>
        simp only
        cases xs[i]? with
        | none => rfl
        | some x =>
          simp only [Option.map]
          congr 1
          funext o st'
          rw [compC_G k]
theorem loopSrc_G {α : Type} {g : T → Store → Res (Option α)} {src : Src} {st : Store} {res : List α} {st' : Store} (h : loopSrc g src st = .ok res st') : ∃ k, compG (nxOf src) g k 0 st = .ok res st' := by
  cases src with
  | fz xs =>
    refine ⟨xs.length + 1, ?_⟩
    rw [← compL_G xs.length (by omega) (by omega)]
    exact h
  | cell n e =>
    simp only [loopSrc] at h
    split at h
    · rename_i xs _
      refine ⟨xs.length + 1, ?_⟩
      rw [← compC_G]
      exact h
    · cases h
section
variable {tt : List (Addr × Str)} {K : Fg} {F F' : FS} {ρ ρ' : List Addr} {H H' : Hp} {st : Store} {src : Src} {J : It} {i : Nat}
theorem src_go (h : SrcR tt K F ρ H src J) (l : Lat F ρ H F' ρ' H') (q : SR tt F' ρ' K st H') {x : T} (e : nxOf src i st = some (some x)) :
    i < big ∧ J.go i H' ∧ ∀ v H'', J.yld i H' v H'' → ∃ F'', Stp F' ρ' H' F'' ρ' H'' ∧ SR tt F'' ρ' K st H'' ∧ TR F'' ρ' K H'' x v := by
  cases src with
  | fz xs =>
    simp only [nxOf, Option.some.injEq] at e
    have hi : i < xs.length := (List.getElem?_eq_some_iff.mp e).1
    have h' : ItF tt K F ρ H J xs := h
    refine ⟨Nat.lt_of_lt_of_le hi h'.len, h'.go i F' ρ' H' hi l, fun v H'' y => ?_⟩
    obtain ⟨F'', x', e1, e2, e3, e4⟩ := h'.yld i F' ρ' H' H'' st v hi l q y
    rw [e] at e1
    cases e1
    exact ⟨F'', e2, e3, e4⟩
  | cell n en =>
    obtain ⟨a, ha, rfl⟩ := h
    simp only [nxOf] at e
    split at e
    · rename_i ys hc
      simp only [Option.some.injEq] at e
      obtain ⟨y, ey, rfl⟩ := Option.map_eq_some_iff.mp e
      obtain ⟨vs, g1, g2, g3⟩ := q.cells n _ a hc (l.get ha)
      have hi : i < ys.length := (List.getElem?_eq_some_iff.mp ey).1
      obtain ⟨v, e1, e2⟩ := g3.get ey
      cases en with
      | false =>
        refine ⟨Nat.lt_of_lt_of_le hi g2, ⟨vs, v, SqL.of g1, e1⟩, fun v' H'' y => ?_⟩
        obtain ⟨rfl, y⟩ := y
        have e3 := y vs (SqL.of g1)
        rw [e1] at e3
        cases e3
        exact ⟨F', .refl, q, e2⟩
      | true =>
        refine ⟨Nat.lt_of_lt_of_le hi g2, ⟨vs, v, SqL.of g1, e1⟩, fun v' H'' yy => ?_⟩
        obtain ⟨p, x', rfl, hp, rfl, yy⟩ := yy
        have e3 := yy vs (SqL.of g1)
        rw [e1] at e3
        cases e3
        obtain ⟨F2, s2, q2, r2⟩ := q.newT (xs := [.d (.int (i : Nat)), y]) hp (show 2 ≤ big by decide) (pair_trs e2)
        exact ⟨F2, s2, q2, r2⟩
    · cases e
theorem src_stop (h : SrcR tt K F ρ H src J) (l : Lat F ρ H F' ρ' H') (q : SR tt F' ρ' K st H') (e : nxOf src i st = some none) (hi : ∀ xs, src = .fz xs → i ≤ xs.length) : J.stop i H' := by
  cases src with
  | fz xs =>
    simp only [nxOf, Option.some.injEq] at e
    have h1 : xs.length ≤ i := List.getElem?_eq_none_iff.mp e
    have h2 := hi xs rfl
    have h3 : i = xs.length := by omega
    subst h3
    have h' : ItF tt K F ρ H J xs := h
    exact h'.stop F' ρ' H' l
  | cell n en =>
    obtain ⟨a, ha, rfl⟩ := h
    simp only [nxOf] at e
    split at e
    · rename_i ys hc
      simp only [Option.some.injEq] at e
      have e' : ys[i]? = none := Option.map_eq_none_iff.mp e
      obtain ⟨vs, g1, g2, g3⟩ := q.cells n _ a hc (l.get ha)
      have le : vs.length ≤ i := by rw [← g3.length]; exact List.getElem?_eq_none_iff.mp e'
      cases en with
      | false => exact ⟨vs, SqL.of g1, le⟩
      | true => exact ⟨vs, SqL.of g1, le⟩
    · cases e
end
theorem wipe_get : ∀ (vs : List Nat) (σ : L2.St) (i : Nat), (L2.wipe σ vs)[i]? = if i ∈ vs then (if i < σ.length then some none else none) else σ[i]?
  | [], σ, i => by simp [L2.wipe]
  | v :: vs, σ, i => by
    unfold L2.wipe
    by_cases hv : v = i
    · subst hv
      by_cases hl : v < σ.length
      · rw [List.getElem?_set_self (by rw [wipe_length]; exact hl)]
        simp [hl]
      · rw [List.getElem?_eq_none (by rw [List.length_set, wipe_length]; omega)]
        simp [hl]
    · rw [List.getElem?_set_ne hv, wipe_get vs σ i]
      have : (i ∈ v :: vs) ↔ i ∈ vs := by
        constructor
        · intro h
          rcases List.mem_cons.mp h with h | h
          · exact absurd h.symm hv
          · exact h
        · exact List.mem_cons_of_mem _
      simp only [this]
theorem wipeE_get : ∀ (vs : List Nat) (env : Env) (i : Nat), (MP.wipe env vs)[i]? = if i ∈ vs then (if i < env.length then some none else none) else env[i]?
  | [], env, i => by simp [MP.wipe]
  | v :: vs, env, i => by
    have hlen : ∀ vs : List Nat, (MP.wipe env vs).length = env.length := by
      intro vs
      induction vs with
      | nil => rfl
      | cons a l ih => unfold MP.wipe; rw [List.length_set, ih]
    unfold MP.wipe
    by_cases hv : v = i
    · subst hv
      by_cases hl : v < env.length
      · rw [List.getElem?_set_self (by rw [hlen]; exact hl)]
        simp [hl]
      · rw [List.getElem?_eq_none (by rw [List.length_set, hlen]; omega)]
        simp [hl]
    · rw [List.getElem?_set_ne hv, wipeE_get vs env i]
      have : (i ∈ v :: vs) ↔ i ∈ vs := by
        constructor
        · intro h
          rcases List.mem_cons.mp h with h | h
          · exact absurd h.symm hv
          · exact h
        · exact List.mem_cons_of_mem _
      simp only [this]
theorem wipeE_len (env : Env) : ∀ vs : List Nat, (MP.wipe env vs).length = env.length
  | [] => rfl
  | a :: l => by unfold MP.wipe; rw [List.length_set, wipeE_len env l]
theorem ER.wipe {F : FS} {ρ : List Addr} {K : Fg} {H : Hp} {env : Env} {σ : L2.St} (h : ER F ρ K H env σ) (vs : List Nat) : ER F ρ K H (MP.wipe env vs) (L2.wipe σ vs) := by
  refine ⟨by rw [wipeE_len, wipe_length, h.1], fun i t e => ?_⟩
  rw [wipeE_get] at e
  split at e
  · split at e <;> cases e
  · rename_i hi
    obtain ⟨v, e1, e2⟩ := h.2 i t e
    exact ⟨v, by rw [wipe_get, if_neg hi]; exact e1, e2⟩
theorem wipe_out {vs ws : List Nat} {σ σ' : L2.St} (h : Out vs (L2.wipe σ ws) σ') (hs : ∀ i ∈ vs, i ∈ ws) : L2.wipe σ' ws = L2.wipe σ ws := by
  apply List.ext_getElem?
  intro i
  have hl : σ'.length = σ.length := by rw [h.1, wipe_length]
  rw [wipe_get]
  by_cases hi : i ∈ ws
  · rw [if_pos hi, wipe_get, if_pos hi, hl]
  · rw [if_neg hi, h.2 i fun z => hi (hs i z)]
def tCs (K : Fg) (cl : Bs) (W : WX) (cf : CF) (cs : List E) : TT := fun σ H Q => Sta cl K σ H fun F ρ env st => Post RBb_ cl W σ F ρ K H (evalCs cf cs env st) Q
abbrev W0 : WX := fun _ _ _ _ => False
section
variable {G : Gb} {N : List Str} {sc : Scope} {fn : Str → Bool} {cl : Bs} {W : WX} {cf : CF} {lv : Nat} {X : Cx} {pos : Pos}
theorem c_nil : PTs X [] (tCs X.K cl W cf []) := by
  have h := pts_nil (X := X)
  refine ⟨fun pins s σ H Q I q => h.run pins s σ H Q I ?_⟩
  obtain ⟨F, ρ, env, st, hS, hE, p⟩ := q
  simp only [evalCs] at p
  exact p F ρ H true .refl hS rfl
theorem c_one {c : E} {e : Expr} (h1 : PTx X cl W cf c e) : PTs X [e] (tCs X.K cl W cf [c]) := by
  have h := pts_one h1
  refine ⟨fun pins s σ H Q I q => h.run pins s σ H Q I ?_⟩
  obtain ⟨F, ρ, env, st, hS, hE, p⟩ := q
  simp only [evalCs] at p
  refine tC1 hS hE p fun F2 ρ2 H2 b st2 q2 e2 p2 => ?_
  cases b with
  | true => exact p2 F2 ρ2 H2 true .refl q2 rfl
  | false => exact p2 F2 ρ2 H2 false .refl q2 rfl
/-- one turn's body -/
abbrev bodyC (cf : CF) (own : List Nat) (p : Pat) (conds : List E) (elt : E) (env : Env) : T → Store → Res (Option T) := fun x st => (lift (bindP st p x (MP.wipe env own)) st).bind fun env' st2 => (evalCs cf conds env' st2).bind fun b st3 =>
      if b then (settled (evalE cf elt env' st3)).bind fun v st4 => .ok (some v) st4 else .ok none st3
theorem noexc_ok {α : Type} {r : Res α} {a : α} {st : Store} (h : r.noexc = .ok a st) : r = .ok a st := by
  cases r <;> first | exact h | cases h
theorem comp_imp {own : List Nat} {p : Pat} {it elt : E} {conds : List E} (hv : ∀ i ∈ patVars p, i ∈ own) {σ : L2.St} {H : Hp} {Q : VK} (q : tE X.K cl W cf (.comp own p it conds elt) σ H Q) :
    tLc (tIt X.K cl W cf it) (tP X.K cl.tt p) (tCs X.K cl W0 cf conds) (tS X.K cl W0 cf elt) own σ H Q := by
  obtain ⟨F, ρ, env, st, hS, hE, pp⟩ := q
  simp only [evalE] at pp
  refine ⟨F, ρ, env, st, hS, hE, Post.bind pp fun src st1 F1 ρ1 H1 J s1 q1 r1 p1 => ?_⟩
  have hE1 := s1.er hE
  intro A hA
  -- the whole loop comes to its end
  cases hL : (loopSrc (bodyC cf own p conds elt env) src st1).noexc with
  | exc _ _ _ => cases hL' : loopSrc (bodyC cf own p conds elt env) src st1 <;> rw [hL'] at hL <;> cases hL
  | stuck => rw [hL] at p1; exact p1.elim
  | ok res st5 =>
    rw [hL] at p1
    have pf : ∀ (F' : FS) (ρ' : List Addr) (H' : Hp) (b : V), Stp F1 ρ1 H1 F' ρ' H' → SR cl.tt F' ρ' X.K st5 H' → RVR F' ρ' X.K H' (.new res) b → Q b H' := p1
    obtain ⟨k0, hk0⟩ := loopSrc_G (noexc_ok hL)
    obtain ⟨t1, t2, ⟨nf, nu⟩, nρ⟩ := q1.grow (o := .lst []) hA
    have W1 : ∃ W : Nat → Nat → Hp → Prop, W = fun i m H' => ∃ (F' : FS) (ρ' : List Addr) (st' : Store) (ad : List T) (av : List V) (rest : List T), SR cl.tt F' ρ' X.K st' H' ∧ (∀ a, F'.u a ↔ (F1.u a ∨ a = A)) ∧ Lat F1 ρ1 H1 F' ρ' H' ∧
        (∀ a, F1.u a → H' a = H1 a) ∧ H' A = some (.lst av) ∧ TRs F' ρ' X.K H' ad av ∧ ad.length ≤ i ∧ ad.length ≤ big ∧ (∀ xs, src = .fz xs → i ≤ xs.length) ∧ compG (nxOf src) (bodyC cf own p conds elt env) m i st' = .ok rest st5 ∧ res = ad ++ rest := ⟨_, rfl⟩
    obtain ⟨Wv, eW⟩ := W1
    refine ⟨Wv, ⟨k0, ?_⟩, fun i m H' hW => ?_⟩
    · rw [eW]
      have q2 : SR cl.tt ⟨F1.f, fun a => F1.u a ∨ a = A⟩ ρ1 X.K st1 (upd H1 A (.lst [])) := t2.reU (fun a ha => by
          rcases ha with ha | ha
          · exact q1.uf a ha
          · subst ha; exact nf) (fun a ha z => by
          rcases z with z | z
          · exact q1.un a ha z
          · exact nρ (z ▸ ha)) (fun a ha => by
          rcases ha with ha | ha
          · exact t2.ud a ha
          · exact ⟨.lst [], by rw [ha, upd_same], True.intro⟩)
      exact ⟨_, ρ1, st1, [], [], res, q2, fun a => Iff.rfl, ⟨fun a ha => ⟨ha, t1.h a ha⟩, List.prefix_refl _⟩, fun a ha => t1.k a ha, upd_same, .nil, Nat.zero_le _, Nat.zero_le _, fun _ _ => Nat.zero_le _, hk0, rfl⟩
    · rw [eW] at hW
      obtain ⟨F', ρ', st', ad, av, rest, q', hu, lat, ku, hD, hR, hlen, hbig, hfz, hrun, hres⟩ := hW
      have uA : F'.u A := (hu A).mpr (.inr rfl)
      cases m with
      | zero => simp [compG] at hrun
      | succ m =>
        rw [compG] at hrun
        cases hn : nxOf src i st' with
        | none => rw [hn] at hrun; cases hrun
        | some o =>
          rw [hn] at hrun
          cases o with
          | none =>
            simp only at hrun
            cases hrun
            refine .inl ⟨src_stop r1 lat q' hn hfz, ?_⟩
            rw [List.append_nil] at hres
            subst hres
            have q3 : SR cl.tt ⟨F'.f, F1.u⟩ ρ' X.K st5 H' := q'.reU (fun a ha => q'.uf a ((hu a).mpr (.inl ha))) (fun a ha z => q'.un a ha ((hu a).mpr (.inl z))) (fun a ha => q'.ud a ((hu a).mpr (.inl ha)))
            refine pf ⟨F'.f, F1.u⟩ ρ' H' (.ref A) ⟨fun a ha => (lat.1 a ha).1, fun a ha => (lat.1 a ha).2, lat.2, rfl, ku⟩ q3 ?_
            exact ⟨A, av, rfl, ⟨q'.uf A uA, nu⟩, fun z => q'.un A z uA, hD, hbig, TRs.mono (F := F') (F' := ⟨F'.f, F1.u⟩) ⟨fun b h => ⟨h, rfl⟩, List.prefix_refl _⟩ _ _ hR⟩
          | some xx =>
            simp only at hrun
            obtain ⟨ib, go, yl⟩ := src_go r1 lat q' hn
            have hfz' : ∀ xs, src = .fz xs → i + 1 ≤ xs.length := fun xs e => by
              subst e
              simp only [nxOf, Option.some.injEq] at hn
              exact (List.getElem?_eq_some_iff.mp hn).1
            refine .inr ⟨go, fun H'' => Wv (i + 1) m H'', fun H'' h => ⟨m, Nat.lt_succ_self m, h⟩, fun v H'' y => ?_⟩
            obtain ⟨F2, s2, q2, r2⟩ := yl v H'' y
            obtain ⟨o, stb, hb1, hb2⟩ := bind_ok hrun
            obtain ⟨rest', stc, hb3, hb4⟩ := bind_ok hb2
            obtain ⟨env', st2, hb5, hb6⟩ := bind_ok hb1
            obtain ⟨b, st3, hb7, hb8⟩ := bind_ok hb6
            have hbind : bindP st' p xx (MP.wipe env own) = some env' ∧ st2 = st' := by
              cases hbp : bindP st' p xx (MP.wipe env own) with
              | none => rw [hbp] at hb5; cases hb5
              | some w => rw [hbp] at hb5; cases hb5; exact ⟨rfl, rfl⟩
            obtain ⟨hbp, rfl⟩ := hbind
            cases hb4
            have lat2 : Lat F1 ρ1 H1 F2 ρ' H'' := lat.trans s2.lat
            refine ⟨F2, ρ', MP.wipe env own, st2, xx, env', q2, (lat2.er hE1).wipe own, r2, hbp, fun σ2 e1 e2 => ⟨wipe_out e2 hv, ?_⟩⟩
            refine ⟨F2, ρ', env', st2, q2, e1, ?_⟩
            show Post RBb_ cl W0 σ2 F2 ρ' X.K H'' (evalCs cf conds env' st2) _
            rw [hb7]
            intro F3 ρ3 H3 b' s3 q3 eb
            cases (show b' = b from eb)
            have u3 : F3.u = F'.u := s3.u.trans s2.u
            have stay : ∀ (F4 : FS) (ρ4 : List Addr) (H4 : Hp), Stp F' ρ' H' F4 ρ4 H4 → (∀ a, F1.u a → H4 a = H1 a) ∧ H4 A = some (.lst av) ∧ Lat F1 ρ1 H1 F4 ρ4 H4 ∧ TRs F4 ρ4 X.K H4 ad av ∧ F4.u A ∧ (∀ a, F4.u a ↔ (F1.u a ∨ a = A)) := fun F4 ρ4 H4 s4 =>
              ⟨fun a ha => (s4.k a ((hu a).mpr (.inl ha))).trans (ku a ha), (s4.k A uA).trans hD, lat.trans s4.lat, s4.trs hR, by rw [s4.u]; exact uA, fun a => by rw [s4.u]; exact hu a⟩
            cases b with
            | false =>
              rw [if_neg (by decide)] at hb8
              cases hb8
              obtain ⟨g1, g2, g3, g4, g5, g6⟩ := stay F3 ρ3 H3 (s2.trans s3)
              rw [if_neg (by decide)]
              rw [eW]
              exact ⟨F3, ρ3, stb, ad, av, rest', q3, g6, g3, g1, g2, g4, by omega, hbig, hfz', hb3, hres⟩
            | true =>
              rw [if_pos rfl] at hb8
              rw [if_pos rfl]
              refine ⟨F3, ρ3, env', st3, q3, s3.er e1, ?_⟩
              obtain ⟨t, st4, hc1, hc2⟩ := bind_ok hb8
              show Post (RT_ X.K) cl W0 σ2 F3 ρ3 X.K H3 (settled (evalE cf elt env' st3)) _
              rw [hc1]
              intro F4 ρ4 H4 w s4 q4 r4
              · have hc2' : (Res.ok (some t) st4 : Res (Option T)) = .ok o stb := hc2
                cases hc2'
                obtain ⟨g1, g2, g3, g4, g5, g6⟩ := stay F4 ρ4 H4 ((s2.trans s3).trans s4)
                refine ⟨av, g2, by rw [← g4.length, ← big_size]; omega, ?_⟩
                obtain ⟨q5, k5⟩ := q4.updU (o := .lst (av ++ [w])) g5 trivial
                have mono5 : ∀ a, F4.f a → F4.f a ∧ upd H4 A (.lst (av ++ [w])) a = H4 a := fun a ha => ⟨ha, k5 a ha⟩
                rw [eW]
                refine ⟨F4, ρ4, _, ad ++ [t], av ++ [w], rest', q5, g6, ?_, fun a ha => ?_, upd_same, TRs.mono ⟨mono5, List.prefix_refl _⟩ _ _ (g4.append (.one r4)), by rw [List.length_append, List.length_singleton]; omega,
                  by rw [List.length_append, List.length_singleton]; omega, hfz', hb3, ?_⟩
                · exact g3.trans ⟨mono5, List.prefix_refl _⟩
                · have ne : a ≠ A := by
                    rintro rfl
                    exact nu ha
                  rw [upd_ne ne]
                  exact g1 a ha
                · rw [hres, List.append_assoc]
                  rfl
theorem e_comp (x : XOk G N sc fn cl W cf lv X) {own : List Nat} {p : Pat} {it elt : E} {conds : List E} {e tg iter : Expr} {ifs : List Expr} {scope : Scope} (hi : PI X tg iter (tIt X.K cl W cf it)) (hset : isSet iter = false)
    (hb : blkC N sc scope (own.map fun i => (N.getD i "", i)) = true) (hg : ∀ X', XOk G.calm N (relS scope sc) (cellFn scope) cl W0 cf lv X' → PG X' tg (tP X'.K cl.tt p)) (ht : ∀ X', XOk G.calm N (relS scope sc) (cellFn scope) cl W0 cf lv X' → PTs X' ifs (tCs X'.K cl W0 cf conds))
    (he : ∀ X', XOk G.calm N (relS scope sc) (cellFn scope) cl W0 cf lv X' → PEx X' cl W0 cf elt e) (hv : ∀ i ∈ patVars p, i ∈ own) : PEx X cl W cf (.comp own p it conds elt) (.ListComp e [⟨tg, iter, ifs, 0⟩] scope pos) := by
  have bo : BlkOk X.N X.env.scope scope (own.map fun i => (N.getD i "", i)) := by rw [x.hN, x.hsc]; exact blkOk_by hb
  have eo : (own.map fun i => (N.getD i "", i)).map (fun q => q.2) = own := by
    rw [List.map_map]
    exact List.map_id own
  refine PE.imp (pe_lc (pos := pos) (g := tP X.K cl.tt p) (tt := tCs X.K cl W0 cf conds) (te := tS X.K cl W0 cf elt) x.calm (by rw [x.hN]; exact x.nd) hi bo (fun s H C cs fp => hg _ (x.blk s H scope C cs fp)) (fun s H C cs fp => ht _ (x.blk s H scope C cs fp)) (fun s H C cs fp => (he _ (x.blk s H scope C cs fp)).s) (noFold hset)) fun σ H Q q => ?_
  rw [eo]
  exact comp_imp hv q
/-! ### dict comprehensions -/
abbrev bodyD (cf : CF) (own : List Nat) (p : Pat) (conds : List E) (k v : E) (env : Env) : T → Store → Res (Option (Key × T)) := fun x st => (lift (bindP st p x (MP.wipe env own)) st).bind fun env' st2 => (evalCs cf conds env' st2).bind fun b st3 =>
      if b then (settled (evalE cf k env' st3)).bind fun kx st4 => (settled (evalE cf v env' st4)).bind fun vx st5 => lift ((keyV (view st5 kx)).map fun q => some (q, vx)) st5 else .ok none st3
theorem dctOf_snoc {p : Key × T} : ∀ {ks : List Key} {ts : List T} (l : List (Key × T)), dctOf ks ts (l ++ [p]) = setK p.1 p.2 (dctOf ks ts l).1 (dctOf ks ts l).2
  | ks, ts, [] => rfl
  | ks, ts, q :: l => by
    rw [List.cons_append, dctOf, dctOf]
    exact dctOf_snoc l
theorem put_core {F : FS} {ρ : List Addr} {K : Fg} {H : Hp} {k : Key} {x : T} {v : V} {ks : List Key} {ts : List T} {ws : List V} (hx : TR F ρ K H x v) (h2 : ks.length = ws.length) (h4 : TRs F ρ K H ts ws) :
    ∃ vs', putK (ks.zip ws) k v = (setK k x ks ts).1.zip vs' ∧ (setK k x ks ts).1.length = vs'.length ∧ (setK k x ks ts).1.length ≤ ks.length + 1 ∧ TRs F ρ K H (setK k x ks ts).2 vs' := by
  have e := zip_any k ks ws h2
  unfold putK setK
  rw [e]
  by_cases hb : (ks.any fun k' => decide (k' = k)) = true
  · rw [if_pos hb, if_pos hb]
    refine ⟨_, zip_map k v ks ws h2, ?_, Nat.le_succ _, TRs.setZ hx h2 h4⟩
    show ks.length = (List.zipWith _ ks ws).length
    rw [List.length_zipWith]
    omega
  · rw [if_neg hb, if_neg hb]
    refine ⟨ws ++ [v], ?_, by simp [h2], by simp, h4.append (.one hx)⟩
    rw [List.zip_append h2]
    rfl
theorem dcomp_imp {own : List Nat} {p : Pat} {it kk vv : E} {conds : List E} (hv : ∀ i ∈ patVars p, i ∈ own) {σ : L2.St} {H : Hp} {Q : VK} (q : tE X.K cl W cf (.dcomp own p it conds kk vv) σ H Q) :
    tDc (tIt X.K cl W cf it) (tP X.K cl.tt p) (tCs X.K cl W0 cf conds) (tS X.K cl W0 cf kk) (tS X.K cl W0 cf vv) own σ H Q := by
  obtain ⟨F, ρ, env, st, hS, hE, pp⟩ := q
  simp only [evalE] at pp
  refine ⟨F, ρ, env, st, hS, hE, Post.bind pp fun src st1 F1 ρ1 H1 J s1 q1 r1 p1 => ?_⟩
  have hE1 := s1.er hE
  intro A hA
  -- the whole loop comes to its end
  cases hL : (loopSrc (bodyD cf own p conds kk vv env) src st1).noexc with
  | exc _ _ _ => cases hL' : loopSrc (bodyD cf own p conds kk vv env) src st1 <;> rw [hL'] at hL <;> cases hL
  | stuck => rw [hL] at p1; exact p1.elim
  | ok res st5 =>
    rw [hL] at p1
    have pf : ∀ (F' : FS) (ρ' : List Addr) (H' : Hp) (b : V), Stp F1 ρ1 H1 F' ρ' H' → SR cl.tt F' ρ' X.K st5 H' → RVR F' ρ' X.K H' (.newD (dctOf [] [] res).1 (dctOf [] [] res).2) b → Q b H' := p1
    obtain ⟨k0, hk0⟩ := loopSrc_G (noexc_ok hL)
    obtain ⟨t1, t2, ⟨nf, nu⟩, nρ⟩ := q1.grow (o := .dK []) hA
    have W1 : ∃ W : Nat → Nat → Hp → Prop, W = fun i m H' => ∃ (F' : FS) (ρ' : List Addr) (st' : Store) (ad : List (Key × T)) (av : List V) (rest : List (Key × T)), SR cl.tt F' ρ' X.K st' H' ∧ (∀ a, F'.u a ↔ (F1.u a ∨ a = A)) ∧ Lat F1 ρ1 H1 F' ρ' H' ∧
        (∀ a, F1.u a → H' a = H1 a) ∧ H' A = some (.dK ((dctOf [] [] ad).1.zip av)) ∧ ((dctOf [] [] ad).1.length = av.length ∧ TRs F' ρ' X.K H' (dctOf [] [] ad).2 av) ∧ (dctOf [] [] ad).1.length ≤ i ∧ (dctOf [] [] ad).1.length ≤ big ∧ (∀ xs, src = .fz xs → i ≤ xs.length) ∧ compG (nxOf src) (bodyD cf own p conds kk vv env) m i st' = .ok rest st5 ∧ res = ad ++ rest := ⟨_, rfl⟩
    obtain ⟨Wv, eW⟩ := W1
    refine ⟨Wv, ⟨k0, ?_⟩, fun i m H' hW => ?_⟩
    · rw [eW]
      have q2 : SR cl.tt ⟨F1.f, fun a => F1.u a ∨ a = A⟩ ρ1 X.K st1 (upd H1 A (.dK [])) := t2.reU (fun a ha => by
          rcases ha with ha | ha
          · exact q1.uf a ha
          · subst ha; exact nf) (fun a ha z => by
          rcases z with z | z
          · exact q1.un a ha z
          · exact nρ (z ▸ ha)) (fun a ha => by
          rcases ha with ha | ha
          · exact t2.ud a ha
          · exact ⟨.dK [], by rw [ha, upd_same], True.intro⟩)
      exact ⟨_, ρ1, st1, [], [], res, q2, fun a => Iff.rfl, ⟨fun a ha => ⟨ha, t1.h a ha⟩, List.prefix_refl _⟩, fun a ha => t1.k a ha, upd_same, ⟨rfl, .nil⟩, Nat.zero_le _, Nat.zero_le _, fun _ _ => Nat.zero_le _, hk0, rfl⟩
    · rw [eW] at hW
      obtain ⟨F', ρ', st', ad, av, rest, q', hu, lat, ku, hD, hR, hlen, hbig, hfz, hrun, hres⟩ := hW
      have uA : F'.u A := (hu A).mpr (.inr rfl)
      cases m with
      | zero => simp [compG] at hrun
      | succ m =>
        rw [compG] at hrun
        cases hn : nxOf src i st' with
        | none => rw [hn] at hrun; cases hrun
        | some o =>
          rw [hn] at hrun
          cases o with
          | none =>
            simp only at hrun
            cases hrun
            refine .inl ⟨src_stop r1 lat q' hn hfz, ?_⟩
            rw [List.append_nil] at hres
            subst hres
            have q3 : SR cl.tt ⟨F'.f, F1.u⟩ ρ' X.K st5 H' := q'.reU (fun a ha => q'.uf a ((hu a).mpr (.inl ha))) (fun a ha z => q'.un a ha ((hu a).mpr (.inl z))) (fun a ha => q'.ud a ((hu a).mpr (.inl ha)))
            refine pf ⟨F'.f, F1.u⟩ ρ' H' (.ref A) ⟨fun a ha => (lat.1 a ha).1, fun a ha => (lat.1 a ha).2, lat.2, rfl, ku⟩ q3 ?_
            exact ⟨A, av, rfl, ⟨q'.uf A uA, nu⟩, fun z => q'.un A z uA, hD, hR.1, hbig, TRs.mono (F := F') (F' := ⟨F'.f, F1.u⟩) ⟨fun b h => ⟨h, rfl⟩, List.prefix_refl _⟩ _ _ hR.2⟩
          | some xx =>
            simp only at hrun
            obtain ⟨ib, go, yl⟩ := src_go r1 lat q' hn
            have hfz' : ∀ xs, src = .fz xs → i + 1 ≤ xs.length := fun xs e => by
              subst e
              simp only [nxOf, Option.some.injEq] at hn
              exact (List.getElem?_eq_some_iff.mp hn).1
            refine .inr ⟨go, fun H'' => Wv (i + 1) m H'', fun H'' h => ⟨m, Nat.lt_succ_self m, h⟩, fun v H'' y => ?_⟩
            obtain ⟨F2, s2, q2, r2⟩ := yl v H'' y
            obtain ⟨o, stb, hb1, hb2⟩ := bind_ok hrun
            obtain ⟨rest', stc, hb3, hb4⟩ := bind_ok hb2
            obtain ⟨env', st2, hb5, hb6⟩ := bind_ok hb1
            obtain ⟨b, st3, hb7, hb8⟩ := bind_ok hb6
            have hbind : bindP st' p xx (MP.wipe env own) = some env' ∧ st2 = st' := by
              cases hbp : bindP st' p xx (MP.wipe env own) with
              | none => rw [hbp] at hb5; cases hb5
              | some w => rw [hbp] at hb5; cases hb5; exact ⟨rfl, rfl⟩
            obtain ⟨hbp, rfl⟩ := hbind
            cases hb4
            have lat2 : Lat F1 ρ1 H1 F2 ρ' H'' := lat.trans s2.lat
            refine ⟨F2, ρ', MP.wipe env own, st2, xx, env', q2, (lat2.er hE1).wipe own, r2, hbp, fun σ2 e1 e2 => ⟨wipe_out e2 hv, ?_⟩⟩
            refine ⟨F2, ρ', env', st2, q2, e1, ?_⟩
            show Post RBb_ cl W0 σ2 F2 ρ' X.K H'' (evalCs cf conds env' st2) _
            rw [hb7]
            intro F3 ρ3 H3 b' s3 q3 eb
            cases (show b' = b from eb)
            have u3 : F3.u = F'.u := s3.u.trans s2.u
            have stay : ∀ (F4 : FS) (ρ4 : List Addr) (H4 : Hp), Stp F' ρ' H' F4 ρ4 H4 → (∀ a, F1.u a → H4 a = H1 a) ∧ H4 A = some (.dK ((dctOf [] [] ad).1.zip av)) ∧ Lat F1 ρ1 H1 F4 ρ4 H4 ∧ TRs F4 ρ4 X.K H4 (dctOf [] [] ad).2 av ∧ F4.u A ∧ (∀ a, F4.u a ↔ (F1.u a ∨ a = A)) := fun F4 ρ4 H4 s4 =>
              ⟨fun a ha => (s4.k a ((hu a).mpr (.inl ha))).trans (ku a ha), (s4.k A uA).trans hD, lat.trans s4.lat, s4.trs hR.2, by rw [s4.u]; exact uA, fun a => by rw [s4.u]; exact hu a⟩
            cases b with
            | false =>
              rw [if_neg (by decide)] at hb8
              cases hb8
              obtain ⟨g1, g2, g3, g4, g5, g6⟩ := stay F3 ρ3 H3 (s2.trans s3)
              rw [if_neg (by decide)]
              rw [eW]
              exact ⟨F3, ρ3, stb, ad, av, rest', q3, g6, g3, g1, g2, ⟨hR.1, g4⟩, by omega, hbig, hfz', hb3, hres⟩
            | true =>
              rw [if_pos rfl] at hb8
              rw [if_pos rfl]
              refine ⟨F3, ρ3, env', st3, q3, s3.er e1, ?_⟩
              obtain ⟨kt, st4, hc1, hc2⟩ := bind_ok hb8
              obtain ⟨vt, st5', hc3, hc4⟩ := bind_ok hc2
              show Post (RT_ X.K) cl W0 σ2 F3 ρ3 X.K H3 (settled (evalE cf kk env' st3)) _
              rw [hc1]
              intro F4 ρ4 H4 w s4 q4 r4
              refine ⟨F4, ρ4, env', st4, q4, s4.er (s3.er e1), ?_⟩
              show Post (RT_ X.K) cl W0 σ2 F4 ρ4 X.K H4 (settled (evalE cf vv env' st4)) _
              rw [hc3]
              intro F5 ρ5 H5 w2 s5 q5 r5
              cases hkey : keyV (view st5' kt) with
              | none => rw [hkey] at hc4; cases hc4
              | some key =>
                rw [hkey] at hc4
                cases hc4
                have ek : w = kV key := by
                  have r4' := s5.tr r4
                  unfold keyV at hkey
                  split at hkey <;> first | (cases hkey; done) | skip
                  · rename_i hv'
                    cases hkey
                    exact vint r4' hv'
                  · rename_i hv'
                    cases hkey
                    exact (vstr r4' hv').1
                obtain ⟨g1, g2, g3, g4, g5, g6⟩ := stay F5 ρ5 H5 (((s2.trans s3).trans s4).trans s5)
                obtain ⟨av', c1, c2, c3, c4⟩ := put_core (k := key) r5 hR.1 g4
                refine ⟨_, key, ek, g2, by rw [List.length_zip, ← big_size]; omega, ?_⟩
                rw [c1]
                obtain ⟨q6, k6⟩ := q5.updU (o := .dK ((setK key vt (dctOf [] [] ad).1 (dctOf [] [] ad).2).1.zip av')) g5 trivial
                have mono6 : ∀ a, F5.f a → F5.f a ∧ upd H5 A (.dK ((setK key vt (dctOf [] [] ad).1 (dctOf [] [] ad).2).1.zip av')) a = H5 a := fun a ha => ⟨ha, k6 a ha⟩
                rw [eW]
                have es := dctOf_snoc (ks := []) (ts := []) (p := (key, vt)) ad
                refine ⟨F5, ρ5, _, ad ++ [(key, vt)], av', rest', q6, g6, ?_, fun a ha => ?_, by rw [es]; exact upd_same, by rw [es]; exact ⟨c2, TRs.mono ⟨mono6, List.prefix_refl _⟩ _ _ c4⟩, by rw [es]; simp only; omega,
                  by rw [es]; simp only; omega, hfz', hb3, ?_⟩
                · exact g3.trans ⟨mono6, List.prefix_refl _⟩
                · have ne : a ≠ A := by
                    rintro rfl
                    exact nu ha
                  rw [upd_ne ne]
                  exact g1 a ha
                · rw [hres, List.append_assoc]
                  rfl
theorem e_dcomp (x : XOk G N sc fn cl W cf lv X) {own : List Nat} {p : Pat} {it kk vv : E} {conds : List E} {kx vx tg iter : Expr} {ifs : List Expr} {scope : Scope} (hi : PI X tg iter (tIt X.K cl W cf it)) (hset : isSet iter = false)
    (hb : blkC N sc scope (own.map fun i => (N.getD i "", i)) = true) (hg : ∀ X', XOk G.calm N (relS scope sc) (cellFn scope) cl W0 cf lv X' → PG X' tg (tP X'.K cl.tt p)) (ht : ∀ X', XOk G.calm N (relS scope sc) (cellFn scope) cl W0 cf lv X' → PTs X' ifs (tCs X'.K cl W0 cf conds))
    (hk : ∀ X', XOk G.calm N (relS scope sc) (cellFn scope) cl W0 cf lv X' → PEx X' cl W0 cf kk kx) (he : ∀ X', XOk G.calm N (relS scope sc) (cellFn scope) cl W0 cf lv X' → PEx X' cl W0 cf vv vx) (hv : ∀ i ∈ patVars p, i ∈ own) : PEx X cl W cf (.dcomp own p it conds kk vv) (.DictComp kx vx [⟨tg, iter, ifs, 0⟩] scope pos) := by
  have bo : BlkOk X.N X.env.scope scope (own.map fun i => (N.getD i "", i)) := by rw [x.hN, x.hsc]; exact blkOk_by hb
  have eo : (own.map fun i => (N.getD i "", i)).map (fun q => q.2) = own := by
    rw [List.map_map]
    exact List.map_id own
  refine PE.imp (pe_dc (pos := pos) (g := tP X.K cl.tt p) (tt := tCs X.K cl W0 cf conds) (tk := tS X.K cl W0 cf kk) (tv := tS X.K cl W0 cf vv) x.calm (by rw [x.hN]; exact x.nd) hi bo (fun s H C cs fp => hg _ (x.blk s H scope C cs fp)) (fun s H C cs fp => ht _ (x.blk s H scope C cs fp)) (fun s H C cs fp => (hk _ (x.blk s H scope C cs fp)).s) (fun s H C cs fp => (he _ (x.blk s H scope C cs fp)).s) (noFold hset)) fun σ H Q q => ?_
  rw [eo]
  exact dcomp_imp hv q
end
end MP

/-! MP2, part q: soundness of all expressions. -/
namespace MP
open PySem PySem.Spec L2
section
variable {G : Gb} {N : List Str} {sc : Scope} {fn : Str → Bool} {cl : Bs} {W : WX} {cf : CF} {lv : Nat} {X : Cx} {pos : Pos}
theorem i_rng1 (x : XOk G N sc fn cl W cf lv X) {tg y : Expr} {a : E} {p : Pos} (hg : gl sc "range" = true) (hf : ("range" : Str) ∈ G.free) (h : PEx X cl W cf a y) (hs : notStar y = true) : PI X tg (.Call (.Name "range" p) [y] [] pos) (tIt X.K cl W cf (.rng [a])) := by
  refine PI.imp (pi_range1 (gl_ok x hg) (x.free _ hf) (pa_cons h.s pa_nil (star_ok hs)) (star_ok hs)) fun σ H R q => ?_
  obtain ⟨F, ρ, env, st, hS, hE, p⟩ := q
  simp only [evalIt] at p
  refine tS1 hS hE p fun F2 ρ2 H2 d vx st2 q2 e2 r p2 => ?_
  split at p2
  · rename_i n hv
    split at p2
    · rename_i hn
      have h1 := hn.1
      have h2 := hn.2
      refine ⟨n, by rw [vint r hv], by simp only [big] at h1; omega, by simp only [big] at h2; omega, p2 F2 ρ2 H2 _ .refl q2 (itf_rng ?_)⟩
      simp only [big] at h2 ⊢
      omega
    · exact p2.elim
  · exact p2.elim
theorem i_rng2 (x : XOk G N sc fn cl W cf lv X) {tg y z : Expr} {a b : E} {p : Pos} (hg : gl sc "range" = true) (hf : ("range" : Str) ∈ G.free) (h : PEx X cl W cf a y) (hs : notStar y = true) (h' : PEx X cl W cf b z) (hs' : notStar z = true) :
    PI X tg (.Call (.Name "range" p) [y, z] [] pos) (tIt X.K cl W cf (.rng [a, b])) := by
  refine PI.imp (pi_range2 (gl_ok x hg) (x.free _ hf) (pa_cons h.s (pa_cons h'.s pa_nil (star_ok hs')) (star_ok hs)) (by rw [star_ok hs, star_ok hs']; rfl) (star_ok hs')) fun σ H R q => ?_
  obtain ⟨F, ρ, env, st, hS, hE, p⟩ := q
  simp only [evalIt] at p
  refine tS2 hS hE p fun F3 ρ3 H3 d d' vx vx' st3 q3 e3 r r' p3 => ?_
  split at p3
  · rename_i i j hv hv'
    split at p3
    · rename_i hn
      obtain ⟨h1, h2, h3, h4⟩ := hn
      simp only [big] at h1 h2 h3 h4
      refine ⟨i, j, by rw [vint r hv, vint r' hv'], ⟨by omega, by omega, by omega, by omega⟩, p3 F3 ρ3 H3 _ .refl q3 (itf_rng ?_)⟩
      simp only [big]
      omega
    · exact p3.elim
  · exact p3.elim
/-! ### list(range(..)), tuple(range(..)) -/
theorem rg_trs {F : FS} {ρ : List Addr} {K : Fg} {H : Hp} {a b : Int} : TRs F ρ K H (intsFrom a (b - a).toNat) (rgV a b) := by
  unfold intsFrom rgV
  have h := TRs.ofInts (F := F) (ρ := ρ) (K := K) (H := H) ((List.range (b - a).toNat).map fun i => a + (i : Nat))
  rw [List.map_map, List.map_map] at h
  exact h
theorem rg_len {a b : Int} : (intsFrom a (b - a).toNat).length = (b - a).toNat := by unfold intsFrom; simp
theorem lit_fin {σ : L2.St} {F : FS} {ρ : List Addr} {H : Hp} {st : Store} {Q : VK} {b : Bool} {i j : Int} (q : SR cl.tt F ρ X.K st H) (hl : (j - i).toNat ≤ big)
    (p : Post (RV_ X.K) cl W σ F ρ X.K H (.ok (if b then .t (mkTup (intsFrom i (j - i).toNat)) else .new (intsFrom i (j - i).toNat)) st) Q) :
    ∀ a, H a = none → Q (.ref a) (upd H a (if b then .tup (rgV i j) else .lst (rgV i j))) := fun a ha => by
  have hl' : (intsFrom i (j - i).toNat).length ≤ big := by rw [rg_len]; exact hl
  cases b with
  | true =>
    obtain ⟨F2, s2, q2, r2⟩ := q.newT ha hl' rg_trs
    exact p F2 ρ _ _ s2 q2 r2
  | false =>
    obtain ⟨s2, q2, r2⟩ := q.newL ha hl' rg_trs
    exact p F ρ _ _ s2 q2 r2
theorem lit_imp {b : Bool} {es : List E} {σ : L2.St} {H : Hp} {Q : VK} (q : tE X.K cl W cf (.lit b es) σ H Q) : tTs X.K cl W cf es σ H fun vs H1 => ∃ i j, (vs = [.int j] ∧ i = 0 ∨ vs = [.int i, .int j]) ∧ RgOk i j ∧ ∀ q, H1 q = none → Q (.ref q) (upd H1 q (if b then .tup (rgV i j) else .lst (rgV i j))) := by
  obtain ⟨F, ρ, env, st, hS, hE, p⟩ := q
  simp only [evalE] at p
  refine ⟨F, ρ, env, st, hS, hE, Post.bind p fun ts st1 F1 ρ1 H1 vs s1 q1 r1 p1 => ?_⟩
  cases hr : rngT (ts.map (view st1)) with
  | none => rw [hr] at p1; exact p1.elim
  | some xs =>
    rw [hr] at p1
    have p2 : Post (RV_ X.K) cl W σ F1 ρ1 X.K H1 (.ok (if b then .t (mkTup xs) else .new xs) st1) Q := p1
    unfold rngT at hr
    split at hr
    · rename_i n hm
      obtain ⟨t, rfl, hv⟩ := map1 hm
      obtain ⟨w, rfl, hw⟩ := trs1 r1
      split at hr
      · rename_i hn
        cases hr
        have h1 := hn.1
        have h2 := hn.2
        simp only [big] at h1 h2
        exact ⟨0, n, .inl ⟨by rw [vint hw hv], rfl⟩, ⟨by omega, by omega, by omega, by omega, by omega⟩, lit_fin (W := W) (σ := σ) q1 (by simp only [big]; omega) p2⟩
      · cases hr
    · rename_i i j hm
      obtain ⟨t, t', rfl, hv, hv'⟩ := map2 hm
      obtain ⟨w, w', rfl, hw, hw'⟩ := trs2 r1
      split at hr
      · rename_i hn
        cases hr
        obtain ⟨h1, h2, h3, h4⟩ := hn
        simp only [big] at h1 h2 h3 h4
        exact ⟨i, j, .inr (by rw [vint hw hv, vint hw' hv']), ⟨by omega, by omega, by omega, by omega, by omega⟩, lit_fin (W := W) (σ := σ) q1 (by simp only [big]; omega) p2⟩
      · cases hr
    · cases hr
theorem e_lit1 (x : XOk G N sc fn cl W cf lv X) {b : Bool} {a : E} {y : Expr} {p p1 p2 : Pos} (hg : gl sc "range" = true) (hf : ("range" : Str) ∈ G.free) (hg2 : gl sc (litNm b) = true) (hf2 : litNm b ∈ G.free) (h : PEx X cl W cf a y) (hs : notStar y = true) :
    PEx X cl W cf (.lit b [a]) (.Call (.Name (litNm b) p) [.Call (.Name "range" p1) [y] [] p2] [] pos) := by
  have pr := prg_1 (p := p1) (pos := p2) (gl_ok x hg) (x.free _ hf) h.s (star_ok hs)
  have im : ∀ {σ : L2.St} {H : Hp} {Q : VK}, tE X.K cl W cf (.lit b [a]) σ H Q → tRg1 (tS X.K cl W cf a) σ H fun i j H1 => RgOk i j ∧ ∀ q, H1 q = none → Q (.ref q) (upd H1 q (if b then .tup (rgV i j) else .lst (rgV i j))) := fun {σ H Q} q => by
    obtain ⟨F, ρ, env, st, hS, hE, p⟩ := ts1 (lit_imp q)
    refine ⟨F, ρ, env, st, hS, hE, Post.map p fun t1 st1 F1 ρ1 H1 w1 er s1 q1 r1 => ?_⟩
    rw [er] at p
    obtain ⟨i, j, hh, h1, h2⟩ := p F1 ρ1 H1 w1 s1 q1 r1
    rcases hh with ⟨e1, rfl⟩ | e1
    · cases e1
      exact ⟨j, rfl, h1, h2⟩
    · cases e1
  cases b with
  | true => exact PE.imp (pe_tupRg (p := p) (pos := pos) x.calm (gl_ok x hg2) (x.free _ hf2) pr) fun σ H Q q => im q
  | false => exact PE.imp (pe_listRg (p := p) (pos := pos) x.calm (gl_ok x hg2) (x.free _ hf2) pr) fun σ H Q q => im q
theorem e_lit2 (x : XOk G N sc fn cl W cf lv X) {b : Bool} {a c : E} {y z : Expr} {p p1 p2 : Pos} (hg : gl sc "range" = true) (hf : ("range" : Str) ∈ G.free) (hg2 : gl sc (litNm b) = true) (hf2 : litNm b ∈ G.free) (h : PEx X cl W cf a y) (hs : notStar y = true) (h' : PEx X cl W cf c z) (hs' : notStar z = true) :
    PEx X cl W cf (.lit b [a, c]) (.Call (.Name (litNm b) p) [.Call (.Name "range" p1) [y, z] [] p2] [] pos) := by
  have pr := prg_2 (p := p1) (pos := p2) (gl_ok x hg) (x.free _ hf) h.s h'.s (by rw [star_ok hs]) (star_ok hs') (by rw [star_ok hs']; rfl)
  have im : ∀ {σ : L2.St} {H : Hp} {Q : VK}, tE X.K cl W cf (.lit b [a, c]) σ H Q → tRg2 (tS X.K cl W cf a) (tS X.K cl W cf c) σ H fun i j H1 => RgOk i j ∧ ∀ q, H1 q = none → Q (.ref q) (upd H1 q (if b then .tup (rgV i j) else .lst (rgV i j))) := fun {σ H Q} q => by
    obtain ⟨F, ρ, env, st, hS, hE, p⟩ := ts2 (lit_imp q)
    refine ⟨F, ρ, env, st, hS, hE, Post.map p fun t1 st1 F1 ρ1 H1 w1 er s1 q1 r1 => ?_⟩
    rw [er] at p
    obtain ⟨F2, ρ2, env2, st2, q2, e2, p2⟩ := p F1 ρ1 H1 w1 s1 q1 r1
    refine ⟨F2, ρ2, env2, st2, q2, e2, Post.map p2 fun t3 st3 F3 ρ3 H3 w3 er3 s3 q3 r3 => ?_⟩
    rw [er3] at p2
    obtain ⟨i, j, hh, h1, h2⟩ := p2 F3 ρ3 H3 w3 s3 q3 r3
    rcases hh with ⟨e1, rfl⟩ | e1
    · cases e1
    · cases e1
      exact ⟨i, j, rfl, rfl, h1, h2⟩
  cases b with
  | true => exact PE.imp (pe_tupRg (p := p) (pos := pos) x.calm (gl_ok x hg2) (x.free _ hf2) pr) fun σ H Q q => im q
  | false => exact PE.imp (pe_listRg (p := p) (pos := pos) x.calm (gl_ok x hg2) (x.free _ hf2) pr) fun σ H Q q => im q
/-- what is to be shown of an expression -/
def PEok (c : E) : Prop := ∀ {G : Gb} {N : List Str} {sc : Scope} {fn : Str → Bool} {cl : Bs} {W : WX} {cf : CF} {lv : Nat} {X : Cx} (x : XOk G N sc fn cl W cf lv X) (e : Expr), okE G N c sc e = true → PEx X cl W cf c e
def PTok (c : E) : Prop := ∀ {G : Gb} {N : List Str} {sc : Scope} {fn : Str → Bool} {cl : Bs} {W : WX} {cf : CF} {lv : Nat} {X : Cx} (x : XOk G N sc fn cl W cf lv X) (e : Expr), okE G N c sc e = true → PTx X cl W cf c e
def PIok (c : E) : Prop := ∀ {G : Gb} {N : List Str} {sc : Scope} {fn : Str → Bool} {cl : Bs} {W : WX} {cf : CF} {lv : Nat} {X : Cx} (x : XOk G N sc fn cl W cf lv X) (tg e : Expr), tgOk c tg = true → okE G N c sc e = true → PI X tg e (tIt X.K cl W cf c)
structure Ex (c : E) : Prop where
  e : PEok c
  t : PTok c
  i : PIok c
structure Exs (cs : List E) : Prop where
  a : ∀ {G : Gb} {N : List Str} {sc : Scope} {fn : Str → Bool} {cl : Bs} {W : WX} {cf : CF} {lv : Nat} {X : Cx} (x : XOk G N sc fn cl W cf lv X) (es : List Expr), okEs G N cs sc es = true → PA X es (tTs X.K cl W cf cs)
  p : ∀ {G : Gb} {N : List Str} {sc : Scope} {fn : Str → Bool} {cl : Bs} {W : WX} {cf : CF} {lv : Nat} {X : Cx} (x : XOk G N sc fn cl W cf lv X) (es : List Expr), okEs G N cs sc es = true → PEs X cl W cf cs es
  c : ∀ {G : Gb} {N : List Str} {sc : Scope} {fn : Str → Bool} {cl : Bs} {W : WX} {cf : CF} {lv : Nat} {X : Cx} (x : XOk G N sc fn cl W cf lv X) (es : List Expr), okCs G N cs sc es = true → PTs X es (tCs X.K cl W cf cs)
  all : ∀ c ∈ cs, Ex c
  d : ∀ {G : Gb} {N : List Str} {sc : Scope} {fn : Str → Bool} {cl : Bs} {W : WX} {cf : CF} {lv : Nat} {X : Cx} (x : XOk G N sc fn cl W cf lv X) (bs : List Bool) (es : List Expr), okDs G N cs bs sc es = true → PA X es (tSs X.K cl W cf cs bs)
  k : ∀ {G : Gb} {N : List Str} {sc : Scope} {fn : Str → Bool} {cl : Bs} {W : WX} {cf : CF} {lv : Nat} {X : Cx} (x : XOk G N sc fn cl W cf lv X) (ks : List Keyword), okKs G N cs sc ks = true → PK X ks (tTs X.K cl W cf cs)
theorem plainTest_ok {e : Expr} {env : PySem.Env} (h : plainTest e = true) : ∀ whole, PySem.isTrue e env whole = (do let v ← whole; standAt e.pos; holding [v] (truthy v)) := by
  intro whole
  cases e <;> first | rfl | (cases h; done) | skip
  rename_i op x p
  cases op <;> first | rfl | cases h
theorem Ex.mk1 {c : E} (hc : isIt c = false) (h : PEok c) (ht : ∀ {G : Gb} {N : List Str} {sc : Scope} (e : Expr), okE G N c sc e = true → plainTest e = true) : Ex c where
  e := h
  t := fun x e o => t_of (h x e o) (plainTest_ok (ht e o))
  i := fun x tg e _ o => i_plain x (h x e o) hc
theorem Ex.mk2 {c : E} (hc : isIt c = false) (h : PEok c) (ht : PTok c) : Ex c where
  e := h
  t := ht
  i := fun x tg e _ o => i_plain x (h x e o) hc
theorem ex_var (i : Nat) : Ex (.var i) := .mk1 rfl (fun x e h => by
    cases e <;> first | exact e_var x h | (simp [okE] at h; done)) (fun e h => by cases e <;> first | rfl | (simp [okE] at h; done))
theorem ex_con (v : D) : Ex (.con v) := .mk1 rfl (fun x e h => by
    cases e <;> first | exact e_con x h | (simp [okE] at h; done)) (fun e h => by cases e <;> first | rfl | (simp [okE] at h; done))
theorem ex_glo (y : Str) (v : D) : Ex (.glo y v) := .mk1 rfl (fun x e h => by
    cases v <;> cases e <;> first | exact e_glo x h | exact e_gloT x h | (simp [okE] at h; done)) (fun e h => by cases v <;> cases e <;> first | rfl | (simp [okE] at h; done))
theorem ex_hole : Ex .hole where
  e := fun x e o => ⟨fun pins s σ H Q I q => by
    obtain ⟨F, ρ, env, st, _, _, p⟩ := q
    simp only [evalE] at p
    exact p.elim⟩
  t := fun x e o => ⟨fun pins s σ H Q I q => by
    obtain ⟨F, ρ, env, st, _, _, p⟩ := q
    simp only [evalE] at p
    exact p.elim⟩
  i := fun x tg e _ o => ⟨fun pins s σ H Q I q => by
    obtain ⟨F, ρ, env, st, _, _, p⟩ := q
    simp only [evalIt, evalE] at p
    exact p.elim⟩
theorem ex_op {o : Op} {a b : E} (ha : Ex a) (hb : Ex b) : Ex (.op o a b) := .mk1 rfl (fun x e h => by
    cases e <;> first | (simp [okE] at h; done) | skip
    simp only [okE, Bool.and_eq_true, decide_eq_true_eq] at h
    obtain ⟨⟨rfl, h1⟩, h2⟩ := h
    exact e_op x (ha.e x _ h1) (hb.e x _ h2)) (fun e h => by cases e <;> first | rfl | (simp [okE] at h; done))
theorem ex_neg {a : E} (ha : Ex a) : Ex (.neg a) := .mk1 rfl (fun x e h => by
    cases e <;> first | (simp [okE] at h; done) | skip
    rename_i op y p
    cases op <;> first | (simp [okE] at h; done) | skip
    simp only [okE] at h
    exact e_neg x (ha.e x _ h)) (fun e h => by
    cases e <;> first | rfl | (simp [okE] at h; done) | skip
    rename_i op y p
    cases op <;> first | rfl | (simp [okE] at h; done))
theorem cmp_inv {c : Cm} {a b : E} {e : Expr} (h : okE G N (.cmp c a b) sc e = true) : ∃ l r p, e = .Compare l [c.py] [r] p ∧ okE G N a sc l = true ∧ okE G N b sc r = true ∧ isSet r = false := by
  cases e <;> first | (simp [okE] at h; done) | skip
  rename_i l ops cs p
  match ops, cs, h with
  | [op], [r], h =>
    simp only [okE, Bool.and_eq_true, decide_eq_true_eq, Bool.not_eq_true'] at h
    obtain ⟨⟨⟨rfl, h1⟩, h2⟩, h3⟩ := h
    exact ⟨l, r, p, rfl, h1, h2, h3⟩
  | [], _, h => simp [okE] at h
  | [_], [], h => simp [okE] at h
  | [_], _ :: _ :: _, h => simp [okE] at h
  | _ :: _ :: _, _, h => simp [okE] at h
theorem ex_cmp {c : Cm} {a b : E} (ha : Ex a) (hb : Ex b) : Ex (.cmp c a b) := .mk2 rfl (fun x e h => by
    obtain ⟨l, r, p, rfl, h1, h2, h3⟩ := cmp_inv h
    exact e_cmp x (ha.e x _ h1) (hb.e x _ h2) h3) (fun x e h => by
    obtain ⟨l, r, p, rfl, h1, h2, h3⟩ := cmp_inv h
    exact t_cmp x (ha.e x _ h1) (hb.e x _ h2) h3)
theorem chain_inv {c c' : Cm} {a b d : E} {e : Expr} (h : okE G N (.chain c c' a b d) sc e = true) : ∃ l r r' p, e = .Compare l [c.py, c'.py] [r, r'] p ∧ okE G N a sc l = true ∧ okE G N b sc r = true ∧ okE G N d sc r' = true ∧ isSet r = false ∧ isSet r' = false := by
  cases e <;> first | (simp [okE] at h; done) | skip
  rename_i l ops cs p
  match ops, cs, h with
  | [op, op'], [r, r'], h =>
    simp only [okE, Bool.and_eq_true, decide_eq_true_eq, Bool.not_eq_true'] at h
    obtain ⟨⟨⟨⟨⟨⟨rfl, rfl⟩, h1⟩, h2⟩, h3⟩, h4⟩, h5⟩ := h
    exact ⟨l, r, r', p, rfl, h1, h2, h3, h4, h5⟩
  | [], _, h => simp [okE] at h
  | [_], _, h => simp [okE] at h
  | [_, _], [], h => simp [okE] at h
  | [_, _], [_], h => simp [okE] at h
  | [_, _], _ :: _ :: _ :: _, h => simp [okE] at h
  | _ :: _ :: _ :: _, _, h => simp [okE] at h
theorem ex_chain {c c' : Cm} {a b d : E} (ha : Ex a) (hb : Ex b) (hd : Ex d) : Ex (.chain c c' a b d) := .mk2 rfl (fun x e h => by
    obtain ⟨l, r, r', p, rfl, h1, h2, h3, h4, h5⟩ := chain_inv h
    exact e_chain x (ha.e x _ h1) (hb.e x _ h2) (hd.e x _ h3) h4 h5) (fun x e h => by
    obtain ⟨l, r, r', p, rfl, h1, h2, h3, h4, h5⟩ := chain_inv h
    exact t_chain x (ha.e x _ h1) (hb.e x _ h2) (hd.e x _ h3) h4 h5)
theorem and_inv {a b : E} {e : Expr} (h : okE G N (.and a b) sc e = true) : ∃ l p, (∃ r, e = .BoolOp .And [l, r] p ∧ okE G N b sc r = true) ∧ okE G N a sc l = true ∨ (∃ r rs, e = .BoolOp .And (l :: r :: rs) p ∧ okE G N b sc (.BoolOp .And (r :: rs) p) = true) ∧ okE G N a sc l = true := by
  cases e <;> first | (simp [okE] at h; done) | skip
  rename_i op vs p
  cases op <;> first | (simp [okE] at h; done) | skip
  match vs, h with
  | [], h => simp [okE] at h
  | [_], h => simp [okE] at h
  | [l, r], h =>
    simp only [okE, Bool.and_eq_true] at h
    exact ⟨l, p, .inl ⟨⟨r, rfl, h.2⟩, h.1⟩⟩
  | l :: r :: z :: rs, h =>
    simp only [okE, Bool.and_eq_true] at h
    exact ⟨l, p, .inr ⟨⟨r, z :: rs, rfl, h.2⟩, h.1⟩⟩
theorem or_inv {a b : E} {e : Expr} (h : okE G N (.or a b) sc e = true) : ∃ l p, (∃ r, e = .BoolOp .Or [l, r] p ∧ okE G N b sc r = true) ∧ okE G N a sc l = true ∨ (∃ r rs, e = .BoolOp .Or (l :: r :: rs) p ∧ okE G N b sc (.BoolOp .Or (r :: rs) p) = true) ∧ okE G N a sc l = true := by
  cases e <;> first | (simp [okE] at h; done) | skip
  rename_i op vs p
  cases op <;> first | (simp [okE] at h; done) | skip
  match vs, h with
  | [], h => simp [okE] at h
  | [_], h => simp [okE] at h
  | [l, r], h =>
    simp only [okE, Bool.and_eq_true] at h
    exact ⟨l, p, .inl ⟨⟨r, rfl, h.2⟩, h.1⟩⟩
  | l :: r :: z :: rs, h =>
    simp only [okE, Bool.and_eq_true] at h
    exact ⟨l, p, .inr ⟨⟨r, z :: rs, rfl, h.2⟩, h.1⟩⟩
theorem ex_and {a b : E} (ha : Ex a) (hb : Ex b) : Ex (.and a b) := .mk2 rfl (fun x e h => by
    obtain ⟨l, p, ⟨⟨r, rfl, h2⟩, h1⟩ | ⟨⟨r, rs, rfl, h2⟩, h1⟩⟩ := and_inv h
    · exact e_and2 x (ha.e x _ h1) (hb.e x _ h2)
    · exact e_and x (ha.e x _ h1) (hb.e x _ h2)) (fun x e h => by
    obtain ⟨l, p, ⟨⟨r, rfl, h2⟩, h1⟩ | ⟨⟨r, rs, rfl, h2⟩, h1⟩⟩ := and_inv h
    · exact t_and2 x (ha.t x _ h1) (hb.t x _ h2)
    · exact t_and x (ha.t x _ h1) (hb.t x _ h2))
theorem ex_or {a b : E} (ha : Ex a) (hb : Ex b) : Ex (.or a b) := .mk2 rfl (fun x e h => by
    obtain ⟨l, p, ⟨⟨r, rfl, h2⟩, h1⟩ | ⟨⟨r, rs, rfl, h2⟩, h1⟩⟩ := or_inv h
    · exact e_or2 x (ha.e x _ h1) (hb.e x _ h2)
    · exact e_or x (ha.e x _ h1) (hb.e x _ h2)) (fun x e h => by
    obtain ⟨l, p, ⟨⟨r, rfl, h2⟩, h1⟩ | ⟨⟨r, rs, rfl, h2⟩, h1⟩⟩ := or_inv h
    · exact t_or2 x (ha.t x _ h1) (hb.t x _ h2)
    · exact t_or x (ha.t x _ h1) (hb.t x _ h2))
theorem not_inv {a : E} {e : Expr} (h : okE G N (.not a) sc e = true) : ∃ l p, e = .UnaryOp .Not l p ∧ okE G N a sc l = true := by
  cases e <;> first | (simp [okE] at h; done) | skip
  rename_i op y p
  cases op <;> first | (simp [okE] at h; done) | skip
  simp only [okE] at h
  exact ⟨y, p, rfl, h⟩
theorem ex_not {a : E} (ha : Ex a) : Ex (.not a) := .mk2 rfl (fun x e h => by
    obtain ⟨l, p, rfl, h1⟩ := not_inv h
    exact e_not x (ha.e x _ h1)) (fun x e h => by
    obtain ⟨l, p, rfl, h1⟩ := not_inv h
    exact t_not x (ha.t x _ h1))
theorem ite_inv {c a b : E} {e : Expr} (h : okE G N (.ite c a b) sc e = true) : ∃ t l r p, e = .IfExp t l r p ∧ okE G N c sc t = true ∧ okE G N a sc l = true ∧ okE G N b sc r = true := by
  cases e <;> first | (simp [okE] at h; done) | skip
  rename_i t l r p
  simp only [okE, Bool.and_eq_true] at h
  exact ⟨t, l, r, p, rfl, h.1.1, h.1.2, h.2⟩
theorem ex_ite {c a b : E} (hc : Ex c) (ha : Ex a) (hb : Ex b) : Ex (.ite c a b) := .mk2 rfl (fun x e h => by
    obtain ⟨t, l, r, p, rfl, h1, h2, h3⟩ := ite_inv h
    exact e_ite x (hc.t x _ h1) (ha.e x _ h2) (hb.e x _ h3)) (fun x e h => by
    obtain ⟨t, l, r, p, rfl, h1, h2, h3⟩ := ite_inv h
    exact t_ite x (hc.t x _ h1) (ha.t x _ h2) (hb.t x _ h3))
end
end MP

/-! MP2, part r: soundness of all expressions, continued. -/
namespace MP
open PySem PySem.Spec L2
section
variable {G : Gb} {N : List Str} {sc : Scope} {fn : Str → Bool} {cl : Bs} {W : WX} {cf : CF} {lv : Nat} {X : Cx} {pos : Pos}
theorem ex_tup {es : List E} (h : Exs es) : Ex (.tup es) := .mk1 rfl (fun x e o => by
    cases e <;> first | (simp [okE] at o; done) | skip
    simp only [okE, Bool.and_eq_true, decide_eq_true_eq] at o
    exact e_tup x (h.a x _ o.1) o.2) (fun e o => by cases e <;> first | rfl | (simp [okE] at o; done))
theorem ex_lst {es : List E} (h : Exs es) : Ex (.lst es) := .mk1 rfl (fun x e o => by
    cases e <;> first | (simp [okE] at o; done) | skip
    simp only [okE, Bool.and_eq_true, decide_eq_true_eq] at o
    exact e_lst x (h.a x _ o.1) o.2) (fun e o => by cases e <;> first | rfl | (simp [okE] at o; done))
theorem okEs_len : ∀ {cs : List E} {es : List Expr}, okEs G N cs sc es = true → cs.length = es.length
  | [], [], _ => rfl
  | [], _ :: _, h => by simp [okEs] at h
  | _ :: _, [], h => by simp [okEs] at h
  | c :: cs, e :: es, h => by
    simp only [okEs, Bool.and_eq_true] at h
    simp [okEs_len h.2]
theorem dct_inv {ks : List D} {es : List E} {e : Expr} (h : okE G N (.dct ks es) sc e = true) : (∃ q, ks = [] ∧ es = [] ∧ e = .Dict [] [] q) ∨ ∃ k ks0 k' ks' vs q, ks = k :: ks0 ∧ e = .Dict (k' :: ks') vs q ∧ okKeys (k :: ks0) (k' :: ks') = true ∧ okEs G N es sc vs = true ∧ ks'.length < 14 ∧ ks0.length = ks'.length ∧ vs.length = ks'.length + 1 := by
  unfold okE at h
  split at h <;> first | (cases h; done) | (rename_i hb; cases hb)
  · exact .inl ⟨_, rfl, rfl, rfl⟩
  · simp only [Bool.and_eq_true, decide_eq_true_eq] at h
    obtain ⟨⟨⟨⟨h1, h2⟩, h3⟩, h4⟩, h5⟩ := h
    exact .inr ⟨_, _, _, _, _, _, rfl, rfl, h1, h2, h3, h4, h5⟩
theorem ex_dct {ks : List D} {es : List E} (h : Exs es) : Ex (.dct ks es) := .mk1 rfl (fun x e o => by
    rcases dct_inv o with ⟨q, rfl, rfl, rfl⟩ | ⟨k, ks0, k', ks', vs, q, rfl, rfl, h1, h2, h3, h4, h5⟩
    · exact e_dct0 x
    · have hl := okEs_len h2
      exact e_dctN x h1 (h.p x _ h2) (by simp [h5]) (by simp [h4, hl, h5]) (by simp) (by simp; omega)) (fun e o => by
    rcases dct_inv o with ⟨q, rfl, rfl, rfl⟩ | ⟨k, ks0, k', ks', vs, q, rfl, rfl, _⟩ <;> rfl)
theorem call_inv {f : Nat} {es : List E} {e : Expr} (h : okE G N (.call f es) sc e = true) : (∃ x p1 y ys p, e = .Call (.Name x p1) (y :: ys) [] p ∧ G.fns[f]? = some x ∧ gl sc x = true ∧ plainName x = true ∧ okEs G N es sc (y :: ys) = true) ∨ ∃ x p1 p, es = [] ∧ e = .Call (.Name x p1) [] [] p ∧ G.fns[f]? = some x ∧ gl sc x = true ∧ plainName x = true := by
  cases e <;> first | (simp [okE] at h; done) | skip
  rename_i fe args kws p
  cases fe <;> first | (simp [okE] at h; done) | skip
  rename_i x p1
  cases args with
  | cons y ys =>
    cases kws <;> first | (simp [okE] at h; done) | skip
    simp only [okE, Bool.and_eq_true, decide_eq_true_eq] at h
    exact .inl ⟨x, p1, y, ys, p, rfl, h.1.1.1, h.1.1.2, h.1.2, h.2⟩
  | nil =>
    cases kws <;> first | (simp [okE] at h; done) | skip
    cases es with
    | cons c cs => simp [okE] at h
    | nil =>
      simp only [okE, Bool.and_eq_true, decide_eq_true_eq] at h
      exact .inr ⟨x, p1, p, rfl, rfl, h.1.1, h.1.2, h.2⟩
theorem ex_call {f : Nat} {es : List E} (h : Exs es) : Ex (.call f es) := .mk1 rfl (fun x e o => by
    rcases call_inv o with ⟨nm, p1, y, ys, p, rfl, h1, h2, h3, h4⟩ | ⟨nm, p1, p, rfl, rfl, h1, h2, h3⟩
    · exact e_call x h1 h2 h3 (h.a x _ h4) h4
    · exact e_call0 x h1 h2 h3) (fun e o => by
    rcases call_inv o with ⟨nm, p1, y, ys, p, rfl, _⟩ | ⟨nm, p1, p, _, rfl, _⟩ <;> rfl)
theorem ex_prim {p : Prim} {es : List E} (h : Exs es) : Ex (.prim p es) := .mk1 rfl (fun x e o => by
    cases e <;> first | (simp [okE] at o; done) | skip
    rename_i fe args kws q
    cases fe <;> first | (simp [okE] at o; done) | skip
    cases args <;> first | (simp [okE] at o; done) | skip
    cases kws <;> first | (simp [okE] at o; done) | skip
    simp only [okE, Bool.and_eq_true, decide_eq_true_eq] at o
    obtain ⟨⟨⟨⟨rfl, o1⟩, o2⟩, o3⟩, o4⟩ := o
    exact e_prim x o1 (memB_ok o2) o3 (h.a x _ o4) o4) (fun e o => by cases e <;> first | rfl | (simp [okE] at o; done))
theorem isi_inv {a : E} {t : Ty} {e : Expr} (h : okE G N (.isi a t) sc e = true) : ∃ y p1 p2 p, e = .Call (.Name "isinstance" p1) [y, .Name (t.py : String) p2] [] p ∧ gl sc "isinstance" = true ∧ ("isinstance" : Str) ∈ G.free ∧ gl sc (t.py : String) = true ∧ ((t.py : String) : Str) ∈ G.free ∧ okE G N a sc y = true ∧ notStar y = true := by
  cases e <;> first | (simp [okE] at h; done) | skip
  rename_i fe args kws q
  cases fe <;> first | (simp [okE] at h; done) | skip
  rename_i nm p1
  match args, kws, h with
  | [y, z], [], h =>
    cases z <;> first | (simp [okE] at h; done) | skip
    rename_i zn p2
    simp only [okE, Bool.and_eq_true, decide_eq_true_eq] at h
    obtain ⟨⟨⟨⟨⟨⟨⟨rfl, h1⟩, h2⟩, rfl⟩, h3⟩, h4⟩, h5⟩, h6⟩ := h
    exact ⟨y, p1, p2, q, rfl, h1, memB_ok h2, h3, memB_ok h4, h5, h6⟩
  | [], _, h => simp [okE] at h
  | [_], _, h => simp [okE] at h
  | _ :: _ :: _ :: _, _, h => simp [okE] at h
  | [_, _], _ :: _, h => simp [okE] at h
theorem ex_isi {a : E} {t : Ty} (h : Ex a) : Ex (.isi a t) := .mk1 rfl (fun x e o => by
    obtain ⟨y, p1, p2, p, rfl, h1, h2, h3, h4, h5, h6⟩ := isi_inv o
    exact e_isi x h1 h2 h3 h4 (h.e x _ h5) h6) (fun e o => by
    obtain ⟨y, p1, p2, p, rfl, _⟩ := isi_inv o
    rfl)
theorem ex_ix {a i : E} (ha : Ex a) (hi : Ex i) : Ex (.ix a i) := .mk1 rfl (fun x e o => by
    cases e <;> first | (simp [okE] at o; done) | skip
    simp only [okE, Bool.and_eq_true, Bool.not_eq_true'] at o
    exact e_ix x (ha.e x _ o.1.1) (hi.e x _ o.1.2) o.2) (fun e o => by cases e <;> first | rfl | (simp [okE] at o; done))
theorem o_of (x : XOk G N sc fn cl W cf lv X) {c : E} {o : Option Expr} (h : Ex c) (ho : okOp (isHole c) (okE G N c sc) o = true) : PO X o (tO X.K cl W cf c) := by
  cases o with
  | none =>
    have ho' : isHole c = true := ho
    cases c <;> first | exact o_none | (cases ho'; done)
  | some e =>
    simp only [okOp, Bool.and_eq_true, Bool.not_eq_true'] at ho
    exact o_some (h.e x e ho.2) fun hc => by
      subst hc
      exact absurd ho.1 (by simp [isHole])
theorem sl_inv {a lo hi : E} {e : Expr} (h : okE G N (.sl a lo hi) sc e = true) : ∃ v l u p1 p, e = .Subscript v (.Slice l u none p1) p ∧ okE G N a sc v = true ∧ okOp (isHole lo) (okE G N lo sc) l = true ∧ okOp (isHole hi) (okE G N hi sc) u = true := by
  cases e <;> first | (simp [okE] at h; done) | skip
  rename_i v s p
  cases s <;> first | (simp [okE] at h; done) | skip
  rename_i l u stp p1
  cases stp <;> first | (simp [okE] at h; done) | skip
  simp only [okE, Bool.and_eq_true] at h
  exact ⟨v, l, u, p1, p, rfl, h.1.1, h.1.2, h.2⟩
theorem ex_sl {a lo hi : E} (ha : Ex a) (hl : Ex lo) (hh : Ex hi) : Ex (.sl a lo hi) := .mk1 rfl (fun x e o => by
    obtain ⟨v, l, u, p1, p, rfl, h1, h2, h3⟩ := sl_inv o
    exact e_sl x (ha.e x _ h1) (o_of x hl h2) (o_of x hh h3)) (fun e o => by
    obtain ⟨v, l, u, p1, p, rfl, _⟩ := sl_inv o
    rfl)
theorem meth_inv {m : Meth} {o : E} {es : List E} {e : Expr} (h : okE G N (.meth m o es) sc e = true) : ∃ v xs ap p, e = .Call (.Attribute v m.nm ap) xs [] p ∧ okE G N o sc v = true ∧ okEs G N es sc xs = true ∧ isCall0 v = false ∧ (ap.endLine == p.line) = true ∧ xs.length < 20 := by
  cases e <;> first | (simp [okE] at h; done) | skip
  rename_i fe args kws q
  cases fe <;> first | (simp [okE] at h; done) | skip
  rename_i v nm ap
  cases kws <;> first | (simp [okE] at h; done) | skip
  simp only [okE, Bool.and_eq_true, decide_eq_true_eq, Bool.not_eq_true'] at h
  obtain ⟨⟨⟨⟨⟨rfl, h1⟩, h2⟩, h3⟩, h4⟩, h5⟩ := h
  exact ⟨v, args, ap, q, rfl, h1, h2, h3, h4, h5⟩
theorem ex_meth {m : Meth} {o : E} {es : List E} (ho : Ex o) (h : Exs es) : Ex (.meth m o es) := .mk1 rfl (fun x e k => by
    obtain ⟨v, xs, ap, p, rfl, h1, h2, h3, h4, h5⟩ := meth_inv k
    exact e_meth x (ho.e x _ h1) (h.a x _ h2) h3 h4 h5 h2) (fun e k => by
    obtain ⟨v, xs, ap, p, rfl, _⟩ := meth_inv k
    rfl)
theorem comp_inv {own : List Nat} {p : Pat} {it elt : E} {conds : List E} {e : Expr} (h : okE G N (.comp own p it conds elt) sc e = true) : ∃ el tg iter ifs scope q, e = .ListComp el [⟨tg, iter, ifs, 0⟩] scope q ∧ okE G N it sc iter = true ∧ isSet iter = false ∧
    blkC N sc scope (own.map fun i => (N.getD i "", i)) = true ∧ okP N (relS scope sc) (cellFn scope) p tg = true ∧ okCs G.calm N conds (relS scope sc) ifs = true ∧ okE G.calm N elt (relS scope sc) el = true ∧ (∀ i ∈ patVars p, i ∈ own) ∧ tgOk it tg = true := by
  cases e <;> first | (simp [okE] at h; done) | skip
  rename_i el gens scope q
  match gens, h with
  | [⟨tg, iter, ifs, a⟩], h =>
    simp only [okE, Bool.and_eq_true, Bool.not_eq_true', List.all_eq_true, decide_eq_true_eq] at h
    obtain ⟨⟨⟨⟨⟨⟨⟨⟨h0, h1⟩, h2⟩, h3⟩, h4⟩, h5⟩, h6⟩, h7⟩, h8⟩ := h
    subst h0
    exact ⟨el, tg, iter, ifs, scope, q, rfl, h1, h2, h3, h4, h5, h6, fun i hi => memB_ok (h7 i hi), h8⟩
  | [], h => simp [okE] at h
  | _ :: _ :: _, h => simp [okE] at h
theorem ex_comp {own : List Nat} {p : Pat} {it elt : E} {conds : List E} (hi : Ex it) (hc : Exs conds) (he : Ex elt) : Ex (.comp own p it conds elt) := .mk1 rfl (fun x e k => by
    obtain ⟨el, tg, iter, ifs, scope, q, rfl, h1, h2, h3, h4, h5, h6, h7, h8⟩ := comp_inv k
    exact e_comp x (hi.i x tg _ h8 h1) h2 h3 (fun X' x' => g_pat x' _ _ h4) (fun X' x' => hc.c x' _ h5) (fun X' x' => he.e x' _ h6) h7) (fun e k => by
    obtain ⟨el, tg, iter, ifs, scope, q, rfl, _⟩ := comp_inv k
    rfl)
theorem rng1_inv {a : E} {e : Expr} (h : okE G N (.rng [a]) sc e = true) : ∃ y p1 p, e = .Call (.Name "range" p1) [y] [] p ∧ gl sc "range" = true ∧ ("range" : Str) ∈ G.free ∧ okE G N a sc y = true ∧ notStar y = true := by
  cases e <;> first | (simp [okE] at h; done) | skip
  rename_i fe args kws q
  cases fe <;> first | (simp [okE] at h; done) | skip
  rename_i nm p1
  match args, kws, h with
  | [y], [], h =>
    simp only [okE, Bool.and_eq_true, decide_eq_true_eq] at h
    obtain ⟨⟨⟨⟨rfl, o1⟩, o2⟩, o3⟩, o4⟩ := h
    exact ⟨y, p1, q, rfl, o1, memB_ok o2, o3, o4⟩
  | [], _, h => simp [okE] at h
  | _ :: _ :: _, _, h => simp [okE] at h
  | [_], _ :: _, h => simp [okE] at h
theorem rng2_inv {a b : E} {e : Expr} (h : okE G N (.rng [a, b]) sc e = true) : ∃ y z p1 p, e = .Call (.Name "range" p1) [y, z] [] p ∧ gl sc "range" = true ∧ ("range" : Str) ∈ G.free ∧ okE G N a sc y = true ∧ notStar y = true ∧ okE G N b sc z = true ∧ notStar z = true := by
  cases e <;> first | (simp [okE] at h; done) | skip
  rename_i fe args kws q
  cases fe <;> first | (simp [okE] at h; done) | skip
  rename_i nm p1
  match args, kws, h with
  | [y, z], [], h =>
    simp only [okE, Bool.and_eq_true, decide_eq_true_eq] at h
    obtain ⟨⟨⟨⟨⟨⟨rfl, o1⟩, o2⟩, o3⟩, o4⟩, o5⟩, o6⟩ := h
    exact ⟨y, z, p1, q, rfl, o1, memB_ok o2, o3, o4, o5, o6⟩
  | [], _, h => simp [okE] at h
  | [_], _, h => simp [okE] at h
  | _ :: _ :: _ :: _, _, h => simp [okE] at h
  | [_, _], _ :: _, h => simp [okE] at h
theorem ex_rng {es : List E} (h : Exs es) : Ex (.rng es) where
  e := fun x e o => ⟨fun pins s σ H Q I q => by
    obtain ⟨F, ρ, env, st, _, _, p⟩ := q
    simp only [evalE] at p
    exact p.elim⟩
  t := fun x e o => ⟨fun pins s σ H Q I q => by
    obtain ⟨F, ρ, env, st, _, _, p⟩ := q
    simp only [evalE] at p
    exact p.elim⟩
  i := fun x tg e _ o => by
    match es, h, o with
    | [], _, o => simp [okE] at o
    | [a], h, o =>
      obtain ⟨y, p1, p, rfl, o1, o2, o3, o4⟩ := rng1_inv o
      exact i_rng1 x o1 o2 ((h.all a (by simp)).e x _ o3) o4
    | [a, b], h, o =>
      obtain ⟨y, z, p1, p, rfl, o1, o2, o3, o4, o5, o6⟩ := rng2_inv o
      exact i_rng2 x o1 o2 ((h.all a (by simp)).e x _ o3) o4 ((h.all b (by simp)).e x _ o5) o6
    | _ :: _ :: _ :: _, _, o => simp [okE] at o
theorem enm_inv {a : E} {e : Expr} (h : okE G N (.enm a) sc e = true) : ∃ y p1 p, e = .Call (.Name "enumerate" p1) [y] [] p ∧ gl sc "enumerate" = true ∧ ("enumerate" : Str) ∈ G.free ∧ okE G N a sc y = true ∧ notStar y = true := by
  cases e <;> first | (simp [okE] at h; done) | skip
  rename_i fe args kws q
  cases fe <;> first | (simp [okE] at h; done) | skip
  rename_i nm p1
  match args, kws, h with
  | [y], [], h =>
    simp only [okE, Bool.and_eq_true, decide_eq_true_eq] at h
    obtain ⟨⟨⟨⟨rfl, o1⟩, o2⟩, o3⟩, o4⟩ := h
    exact ⟨y, p1, q, rfl, o1, memB_ok o2, o3, o4⟩
  | [], _, h => simp [okE] at h
  | _ :: _ :: _, _, h => simp [okE] at h
  | [_], _ :: _, h => simp [okE] at h
theorem zp_inv {a b : E} {e : Expr} (h : okE G N (.zp a b) sc e = true) : ∃ y z p1 p, e = .Call (.Name "zip" p1) [y, z] [] p ∧ gl sc "zip" = true ∧ ("zip" : Str) ∈ G.free ∧ okE G N a sc y = true ∧ notStar y = true ∧ okE G N b sc z = true ∧ notStar z = true := by
  cases e <;> first | (simp [okE] at h; done) | skip
  rename_i fe args kws q
  cases fe <;> first | (simp [okE] at h; done) | skip
  rename_i nm p1
  match args, kws, h with
  | [y, z], [], h =>
    simp only [okE, Bool.and_eq_true, decide_eq_true_eq] at h
    obtain ⟨⟨⟨⟨⟨⟨rfl, o1⟩, o2⟩, o3⟩, o4⟩, o5⟩, o6⟩ := h
    exact ⟨y, z, p1, q, rfl, o1, memB_ok o2, o3, o4, o5, o6⟩
  | [], _, h => simp [okE] at h
  | [_], _, h => simp [okE] at h
  | _ :: _ :: _ :: _, _, h => simp [okE] at h
  | [_, _], _ :: _, h => simp [okE] at h
theorem tup_tg {tg : Expr} (h : isTupE tg = true) : ∃ es k p, tg = .Tuple es k p := by
  cases tg <;> first | exact ⟨_, _, _, rfl⟩ | (cases h; done)
theorem ex_enm {a : E} (h : Ex a) : Ex (.enm a) where
  e := fun x e o => ⟨fun pins s σ H Q I q => by
    obtain ⟨F, ρ, env, st, _, _, p⟩ := q
    simp only [evalE] at p
    exact p.elim⟩
  t := fun x e o => ⟨fun pins s σ H Q I q => by
    obtain ⟨F, ρ, env, st, _, _, p⟩ := q
    simp only [evalE] at p
    exact p.elim⟩
  i := fun x tg e ht o => by
    obtain ⟨es, k, p, rfl⟩ := tup_tg ht
    obtain ⟨y, p1, p, rfl, o1, o2, o3, o4⟩ := enm_inv o
    exact i_enm x o1 o2 (h.e x _ o3) o4
theorem ex_zp {a b : E} (h : Ex a) (h' : Ex b) : Ex (.zp a b) where
  e := fun x e o => ⟨fun pins s σ H Q I q => by
    obtain ⟨F, ρ, env, st, _, _, p⟩ := q
    simp only [evalE] at p
    exact p.elim⟩
  t := fun x e o => ⟨fun pins s σ H Q I q => by
    obtain ⟨F, ρ, env, st, _, _, p⟩ := q
    simp only [evalE] at p
    exact p.elim⟩
  i := fun x tg e ht o => by
    obtain ⟨es, k, p, rfl⟩ := tup_tg ht
    obtain ⟨y, z, p1, p, rfl, o1, o2, o3, o4, o5, o6⟩ := zp_inv o
    exact i_zp x o1 o2 (h.e x _ o3) o4 (h'.e x _ o5) o6
theorem okKs_len : ∀ {cs : List E} {ks : List Keyword}, okKs G N cs sc ks = true → cs.length = ks.length
  | [], [], _ => rfl
  | [], _ :: _, h => by simp [okKs] at h
  | _ :: _, [], h => by simp [okKs] at h
  | c :: cs, ⟨a, e, p⟩ :: ks, h => by
    simp only [okKs, Bool.and_eq_true] at h
    simp [okKs_len h.2]
theorem callk_inv {f : Nat} {pm : List Nat} {es : List E} {e : Expr} (h : okE G N (.callk f pm es) sc e = true) : ∃ x p1 ks p ns, e = .Call (.Name x p1) [] ks p ∧ G.fns[f]? = some x ∧ gl sc x = true ∧ plainName x = true ∧ okKs G N es sc ks = true ∧ (f, ns, pm) ∈ G.kws ∧ okNames ns ks = true := by
  cases e <;> first | (simp [okE] at h; done) | skip
  rename_i fe args kws p
  cases fe <;> first | (simp [okE] at h; done) | skip
  rename_i x p1
  cases args with
  | cons y ys => simp [okE] at h
  | nil =>
    simp only [okE, Bool.and_eq_true, decide_eq_true_eq, List.any_eq_true] at h
    obtain ⟨⟨⟨⟨h1, h2⟩, h3⟩, h4⟩, ⟨f', ns, pm'⟩, h5, ⟨h6, h7⟩, h8⟩ := h
    obtain rfl : f' = f := h6
    obtain rfl : pm' = pm := h7
    exact ⟨x, p1, kws, p, ns, rfl, h1, h2, h3, h4, h5, h8⟩
theorem ex_callk {f : Nat} {pm : List Nat} {es : List E} (h : Exs es) : Ex (.callk f pm es) := .mk1 rfl (fun x e o => by
    obtain ⟨nm, p1, ks, p, ns, rfl, h1, h2, h3, h4, h5, h6⟩ := callk_inv o
    exact e_callk x h1 h2 h3 (h.k x _ h4) (okKs_len h4) h5 h6) (fun e o => by
    obtain ⟨nm, p1, ks, p, ns, rfl, _⟩ := callk_inv o
    rfl)
theorem ask_inv {m : Ask} {o : E} {es : List E} {e : Expr} (h : okE G N (.ask m o es) sc e = true) : ∃ v xs ap p, e = .Call (.Attribute v m.nm ap) xs [] p ∧ okE G N o sc v = true ∧ okEs G N es sc xs = true ∧ isCall0 v = false ∧ (ap.endLine == p.line) = true ∧ askLen m xs.length = true := by
  cases e <;> first | (simp [okE] at h; done) | skip
  rename_i fe args kws q
  cases fe <;> first | (simp [okE] at h; done) | skip
  rename_i v nm ap
  cases kws <;> first | (simp [okE] at h; done) | skip
  simp only [okE, Bool.and_eq_true, decide_eq_true_eq, Bool.not_eq_true'] at h
  obtain ⟨⟨⟨⟨⟨rfl, h1⟩, h2⟩, h3⟩, h4⟩, h5⟩ := h
  exact ⟨v, args, ap, q, rfl, h1, h2, h3, h4, h5⟩
theorem ex_ask {m : Ask} {o : E} {es : List E} (ho : Ex o) (h : Exs es) : Ex (.ask m o es) := .mk1 rfl (fun x e k => by
    obtain ⟨v, xs, ap, p, rfl, h1, h2, h3, h4, h5⟩ := ask_inv k
    match xs, es, h, h2, h5 with
    | [], _, _, _, h5 => cases m <;> cases h5
    | [y], [], _, h2, _ => simp [okEs] at h2
    | [y], [c], h, h2, h5 =>
      cases m with
      | index => exact e_askL x (.inl rfl) PySem.F.slot_list_index PySem.F.type_list_index ob_index (ho.e x _ h1) (h.a x _ h2) h3 h4 (by simp) h2
      | cnt => exact e_askL x (.inr rfl) PySem.F.slot_list_count PySem.F.type_list_count ob_cnt (ho.e x _ h1) (h.a x _ h2) h3 h4 (by simp) h2
      | get =>
        have h2' := h2
        simp only [okEs, Bool.and_eq_true] at h2'
        exact e_get1 x (ho.e x _ h1) ((h.all c (by simp)).e x _ h2'.1.1) h3 h4 h2 h2'.1.2
    | [y], _ :: _ :: _, _, h2, _ => simp [okEs] at h2
    | [y, z], [c, d], h, h2, h5 =>
      cases m with
      | index => cases h5
      | cnt => cases h5
      | get =>
        have h2' := h2
        simp only [okEs, Bool.and_eq_true] at h2'
        exact e_get2 x (ho.e x _ h1) ((h.all c (by simp)).e x _ h2'.1.1) ((h.all d (by simp)).e x _ h2'.2.1.1) h3 h4 h2 h2'.1.2 h2'.2.1.2
    | [y, z], [], _, h2, _ => simp [okEs] at h2
    | [y, z], [_], _, h2, _ => simp [okEs] at h2
    | [y, z], _ :: _ :: _ :: _, _, h2, _ => simp [okEs] at h2
    | _ :: _ :: _ :: _, _, _, _, h5 => cases m <;> simp [askLen] at h5) (fun e k => by
    obtain ⟨v, xs, ap, p, rfl, _⟩ := ask_inv k
    rfl)
theorem ex_disp {b : Bool} {bs : List Bool} {es : List E} (h : Exs es) : Ex (.disp b bs es) := .mk1 rfl (fun x e o => by
    cases b <;> cases e <;> first | (simp [okE] at o; done) | skip
    · simp only [okE] at o
      exact e_dispL x (h.d x bs _ o)
    · simp only [okE] at o
      exact e_dispT x (h.d x bs _ o)) (fun e o => by cases b <;> cases e <;> first | rfl | (simp [okE] at o; done))
theorem dcomp_inv {own : List Nat} {p : Pat} {it kk vv : E} {conds : List E} {e : Expr} (h : okE G N (.dcomp own p it conds kk vv) sc e = true) : ∃ kx vx tg iter ifs scope q, e = .DictComp kx vx [⟨tg, iter, ifs, 0⟩] scope q ∧ okE G N it sc iter = true ∧ isSet iter = false ∧
    blkC N sc scope (own.map fun i => (N.getD i "", i)) = true ∧ okP N (relS scope sc) (cellFn scope) p tg = true ∧ okCs G.calm N conds (relS scope sc) ifs = true ∧ okE G.calm N kk (relS scope sc) kx = true ∧ okE G.calm N vv (relS scope sc) vx = true ∧ (∀ i ∈ patVars p, i ∈ own) ∧ tgOk it tg = true := by
  cases e <;> first | (simp [okE] at h; done) | skip
  rename_i kx vx gens scope q
  match gens, h with
  | [⟨tg, iter, ifs, a⟩], h =>
    simp only [okE, Bool.and_eq_true, Bool.not_eq_true', List.all_eq_true, decide_eq_true_eq] at h
    obtain ⟨⟨⟨⟨⟨⟨⟨⟨⟨h0, h1⟩, h2⟩, h3⟩, h4⟩, h5⟩, h6⟩, h6'⟩, h7⟩, h8⟩ := h
    subst h0
    exact ⟨kx, vx, tg, iter, ifs, scope, q, rfl, h1, h2, h3, h4, h5, h6, h6', fun i hi => memB_ok (h7 i hi), h8⟩
  | [], h => simp [okE] at h
  | _ :: _ :: _, h => simp [okE] at h
theorem ex_dcomp {own : List Nat} {p : Pat} {it kk vv : E} {conds : List E} (hi : Ex it) (hc : Exs conds) (hk : Ex kk) (he : Ex vv) : Ex (.dcomp own p it conds kk vv) := .mk1 rfl (fun x e k => by
    obtain ⟨kx, vx, tg, iter, ifs, scope, q, rfl, h1, h2, h3, h4, h5, h6, h6', h7, h8⟩ := dcomp_inv k
    exact e_dcomp x (hi.i x tg _ h8 h1) h2 h3 (fun X' x' => g_pat x' _ _ h4) (fun X' x' => hc.c x' _ h5) (fun X' x' => hk.e x' _ h6) (fun X' x' => he.e x' _ h6') h7) (fun e k => by
    obtain ⟨kx, vx, tg, iter, ifs, scope, q, rfl, _⟩ := dcomp_inv k
    rfl)
theorem lit_inv {b : Bool} {es : List E} {e : Expr} (h : okE G N (.lit b es) sc e = true) : ∃ ys p1 p2 p3 p, e = .Call (.Name (litNm b) p1) [.Call (.Name "range" p2) ys [] p3] [] p ∧ gl sc (litNm b) = true ∧ litNm b ∈ G.free ∧ gl sc "range" = true ∧ ("range" : Str) ∈ G.free ∧ okEs G N es sc ys = true ∧ (ys.length = 1 ∨ ys.length = 2) := by
  unfold okE at h
  split at h <;> first | (cases h; done) | (rename_i hb; cases hb) | skip
  rename_i hb
  simp only [Bool.and_eq_true, decide_eq_true_eq, Bool.or_eq_true] at h
  obtain ⟨⟨⟨⟨⟨⟨⟨rfl, o1⟩, o2⟩, rfl⟩, o3⟩, o4⟩, o5⟩, o6⟩ := h
  exact ⟨_, _, _, _, _, rfl, o1, memB_ok o2, o3, memB_ok o4, o5, o6⟩
theorem ex_lit {b : Bool} {es : List E} (h : Exs es) : Ex (.lit b es) := .mk1 rfl (fun x e o => by
    obtain ⟨ys, p1, p2, p3, p, rfl, h1, h2, h3, h4, h5, h6⟩ := lit_inv o
    match es, ys, h, h5, h6 with
    | [a], [y], h, h5, _ =>
      simp only [okEs, Bool.and_eq_true] at h5
      exact e_lit1 x h3 h4 h1 h2 ((h.all a (by simp)).e x _ h5.1.1) h5.1.2
    | [a, c], [y, z], h, h5, _ =>
      simp only [okEs, Bool.and_eq_true] at h5
      exact e_lit2 x h3 h4 h1 h2 ((h.all a (by simp)).e x _ h5.1.1) h5.1.2 ((h.all c (by simp)).e x _ h5.2.1.1) h5.2.1.2
    | _, [], _, _, h6 => simp at h6
    | _, _ :: _ :: _ :: _, _, _, h6 => simp at h6
    | [], [_], _, h5, _ => simp [okEs] at h5
    | [], [_, _], _, h5, _ => simp [okEs] at h5
    | [_], [_, _], _, h5, _ => simp [okEs] at h5
    | _ :: _ :: _, [_], _, h5, _ => simp [okEs] at h5
    | _ :: _ :: _ :: _, [_, _], _, h5, _ => simp [okEs] at h5) (fun e o => by
    obtain ⟨ys, p1, p2, p3, p, rfl, _⟩ := lit_inv o
    rfl)
theorem okDs_cons {c : E} {cs : List E} {bs : List Bool} {e : Expr} {es : List Expr} (hst : ¬ ∃ e' p, e = .Starred e' p) (o : okDs G N (c :: cs) bs sc (e :: es) = true) : bs.headD false = false ∧ okE G N c sc e = true ∧ notStar e = true ∧ okDs G N cs bs.tail sc es = true := by
  have o' : (!bs.headD false && okE G N c sc e && notStar e && okDs G N cs bs.tail sc es) = true := by
    cases e <;> first | exact o | exact absurd ⟨_, _, rfl⟩ hst
  simp only [Bool.and_eq_true, Bool.not_eq_true'] at o'
  exact ⟨o'.1.1.1, o'.1.1.2, o'.1.2, o'.2⟩
theorem ex_isis (a : E) (ts : List Ty) : Ex (.isis a ts) := .mk1 rfl (fun x e o => by simp [okE] at o) (fun e o => by simp [okE] at o)
theorem ex_rev (a : E) : Ex (.rev a) := .mk1 rfl (fun x e o => by simp [okE] at o) (fun e o => by simp [okE] at o)
theorem ex_al {a : E} (h : Ex a) : Ex (.al a) := .mk1 rfl (fun x e o => by
    unfold okE at o
    simp only [Bool.and_eq_true] at o
    exact e_al x (h.e x _ o.1)) (fun e o => by
    unfold okE at o
    simp only [Bool.and_eq_true] at o
    exact o.2)
theorem caught_inv {k : Nat} {hs : List (Nat × Str)} {a : E} {e : Expr} (h : okE G N (.caught k hs a) sc e = true) : ∃ y p1 params body scope p2 p, e = .Call (.Name y p1) [.Lambda params body scope p2] [] p ∧ okE G.calm N a scope body = true := by
  cases e <;> first | (simp [okE] at h; done) | skip
  rename_i fe args kws q
  cases fe <;> first | (simp [okE] at h; done) | skip
  rename_i nm p1
  match args, kws, h with
  | [y], [], h =>
    cases y <;> first | (simp [okE] at h; done) | skip
    rename_i params body scope p2
    have h' := h
    simp only [okE, Bool.and_eq_true] at h'
    exact ⟨nm, p1, params, body, scope, p2, q, rfl, h'.2⟩
  | [], _, h => simp [okE] at h
  | _ :: _ :: _, _, h => simp [okE] at h
  | [_], _ :: _, h => simp [okE] at h
theorem ex_caught {k : Nat} {hs : List (Nat × Str)} {a : E} (ha : Ex a) : Ex (.caught k hs a) := .mk1 rfl (fun x e o => by
    obtain ⟨y, p1, params, body, scope, p2, p, rfl, h⟩ := caught_inv o
    exact e_caught x o fun X' W' x' => ha.e x' _ h) (fun e o => by
    obtain ⟨y, p1, params, body, scope, p2, p, rfl, h⟩ := caught_inv o
    rfl)
theorem exs_nil : Exs [] where
  a := fun x es o => by cases es <;> first | exact a_nil | (simp [okEs] at o; done)
  p := fun x es o => by cases es <;> first | exact True.intro | (simp [okEs] at o; done)
  c := fun x es o => by cases es <;> first | exact c_nil | (simp [okCs] at o; done)
  all := fun c hc => by cases hc
  d := fun x bs es o => by cases es <;> first | exact d_nil | (simp [okDs] at o; done)
  k := fun x ks o => by cases ks <;> first | exact k_nil | (simp [okKs] at o; done)
theorem exs_cons {c : E} {cs : List E} (h : Ex c) (hs : Exs cs) : Exs (c :: cs) where
  a := fun x es o => by
    cases es with
    | nil => simp [okEs] at o
    | cons e es =>
      simp only [okEs, Bool.and_eq_true] at o
      exact a_cons (h.e x _ o.1.1) (hs.a x _ o.2) o.1.2
  p := fun x es o => by
    cases es with
    | nil => simp [okEs] at o
    | cons e es =>
      simp only [okEs, Bool.and_eq_true] at o
      exact ⟨h.e x _ o.1.1, hs.p x _ o.2⟩
  c := fun x es o => by
    match cs, es, o with
    | [], [e], o =>
      simp only [okCs] at o
      exact c_one (h.t x _ o)
    | [], [], o => simp [okCs] at o
    | [], _ :: _ :: _, o => simp [okCs] at o
    | _ :: _, _, o => simp [okCs] at o
  all := fun d hd => by
    rcases List.mem_cons.mp hd with rfl | hd
    · exact h
    · exact hs.all d hd
  d := fun x bs es o => by
    cases es with
    | nil => simp [okDs] at o
    | cons e es =>
      by_cases hst : ∃ e' p, e = .Starred e' p
      · obtain ⟨e', p, rfl⟩ := hst
        simp only [okDs, Bool.and_eq_true] at o
        exact d_star o.1.1 (h.e x _ o.1.2) (hs.d x _ _ o.2)
      · obtain ⟨o1, o2, o3, o4⟩ := okDs_cons hst o
        exact d_cons o1 (h.e x _ o2) (hs.d x _ _ o4) o3
  k := fun x ks o => by
    cases ks with
    | nil => simp [okKs] at o
    | cons q ks =>
      obtain ⟨a, e, p⟩ := q
      simp only [okKs, Bool.and_eq_true] at o
      exact k_cons (h.e x _ o.1.1) (hs.k x _ o.2)
mutual
theorem ex_all : ∀ c : E, Ex c
  | .hole => ex_hole
  | .var i => ex_var i
  | .con v => ex_con v
  | .glo x v => ex_glo x v
  | .op o a b => ex_op (ex_all a) (ex_all b)
  | .neg a => ex_neg (ex_all a)
  | .cmp c a b => ex_cmp (ex_all a) (ex_all b)
  | .chain c c' a b e => ex_chain (ex_all a) (ex_all b) (ex_all e)
  | .and a b => ex_and (ex_all a) (ex_all b)
  | .or a b => ex_or (ex_all a) (ex_all b)
  | .not a => ex_not (ex_all a)
  | .ite c a b => ex_ite (ex_all c) (ex_all a) (ex_all b)
  | .tup es => ex_tup (exs_all es)
  | .lst es => ex_lst (exs_all es)
  | .dct ks es => ex_dct (exs_all es)
  | .call f es => ex_call (exs_all es)
  | .prim p es => ex_prim (exs_all es)
  | .isi a t => ex_isi (ex_all a)
  | .ix a i => ex_ix (ex_all a) (ex_all i)
  | .sl a lo hi => ex_sl (ex_all a) (ex_all lo) (ex_all hi)
  | .comp own p it conds elt => ex_comp (ex_all it) (exs_all conds) (ex_all elt)
  | .meth m o es => ex_meth (ex_all o) (exs_all es)
  | .rng es => ex_rng (exs_all es)
  | .enm a => ex_enm (ex_all a)
  | .zp a b => ex_zp (ex_all a) (ex_all b)
  | .callk f pm es => ex_callk (exs_all es)
  | .ask m o es => ex_ask (ex_all o) (exs_all es)
  | .disp b bs es => ex_disp (exs_all es)
  | .dcomp own p it conds k v => ex_dcomp (ex_all it) (exs_all conds) (ex_all k) (ex_all v)
  | .lit b es => ex_lit (exs_all es)
  | .isis a ts => ex_isis a ts
  | .rev a => ex_rev a
  | .al a => ex_al (ex_all a)
  | .caught k hs a => ex_caught (ex_all a)
theorem exs_all : ∀ cs : List E, Exs cs
  | [] => exs_nil
  | c :: cs => exs_cons (ex_all c) (exs_all cs)
end
end
end MP

/-! MP2, part s: statements. -/
namespace MP
open PySem PySem.Spec L2
def PostS (K : Fg) (cl : Bs) (W : WX) (F : FS) (ρ : List Addr) (H : Hp) (r : RS) (D : Ends) : Prop :=
  match r with
  | .ok fl env st => ∀ (F' : FS) (ρ' : List Addr) (H' : Hp) (σ' : L2.St), Stp F ρ H F' ρ' H' → SR cl.tt F' ρ' K st H' → ER F' ρ' K H' env σ' → match fl with
    | .next => D.nx σ' H'
    | .brk => D.bk σ' H'
    | .cont => D.ct σ' H'
    | .ret v => ∀ u, RVR F' ρ' K H' v u → D.rt u H'
  | .exc c x env st => ∀ (F' : FS) (ρ' : List Addr) (H' : Hp) (σ' : L2.St) (w : V) (d : Addr), Stp F ρ H F' ρ' H' → SR cl.tt F' ρ' K st H' → ER F' ρ' K H' env σ' → TR F' ρ' K H' x w → H' d = some (.xd [("value", w)]) → W (cl.cl c) (some d) σ' H'
  | .stuck => False
section
variable {K : Fg} {cl : Bs} {W : WX} {cf : CF} {wf : Nat} {F F' : FS} {ρ ρ' : List Addr} {H H' : Hp}
theorem PostS.step {r : RS} {D : Ends} (s : Stp F ρ H F' ρ' H') (h : PostS K cl W F ρ H r D) : PostS K cl W F' ρ' H' r D := by
  cases r with
  | ok fl env st => exact fun F2 ρ2 H2 σ t q p => h F2 ρ2 H2 σ (s.trans t) q p
  | exc c x env st => exact fun F2 ρ2 H2 σ w d t => h F2 ρ2 H2 σ w d (s.trans t)
  | stuck => exact h
/-- an expression of a statement -/
theorem PostS.then {α β : Type} {R : FS → List Addr → Hp → α → β → Prop} {r : Res α} {env : Env} {f : α → Store → RS} {D : Ends} {σ : L2.St} {Q : β → Hp → Prop} (hE : ER F ρ K H env σ) (h : PostS K cl W F ρ H (r.then env f) D)
    (k : ∀ (a : α) (st : Store) (F' : FS) (ρ' : List Addr) (H' : Hp) (b : β), Stp F ρ H F' ρ' H' → SR cl.tt F' ρ' K st H' → R F' ρ' H' a b → PostS K cl W F' ρ' H' (f a st) D → Q b H') : Post R cl W σ F ρ K H r Q := by
  cases r with
  | ok a st => exact fun F2 ρ2 H2 b t q p => k a st F2 ρ2 H2 b t q p (PostS.step t h)
  | exc c x st => exact fun F2 ρ2 H2 w d t q p e => h F2 ρ2 H2 σ w d t q (t.er hE) p e
  | stuck => exact h
def tSt (K : Fg) (cl : Bs) (W : WX) (cf : CF) (wf : Nat) (s : S) : TS := fun D σ H => Sta cl K σ H fun F ρ env st => PostS K cl W F ρ H (exec cf wf s env st) D
def tSts (K : Fg) (cl : Bs) (W : WX) (cf : CF) (wf : Nat) (s : List S) : TS := fun D σ H => Sta cl K σ H fun F ρ env st => PostS K cl W F ρ H (execs cf wf s env st) D
theorem seq_imp {s : S} {ss : List S} {D : Ends} {σ : L2.St} (h : tSts K cl W cf wf (s :: ss) D σ H) : tSeq (tSt K cl W cf wf s) (tSts K cl W cf wf ss) D σ H := by
  obtain ⟨F, ρ, env, st, hS, hE, p⟩ := h
  refine ⟨F, ρ, env, st, hS, hE, ?_⟩
  simp only [execs] at p
  cases hr : exec cf wf s env st with
  | ok fl env1 st1 =>
    rw [hr] at p ⊢
    cases fl with
    | next =>
      intro F2 ρ2 H2 σ2 t q e
      exact ⟨F2, ρ2, env1, st1, q, e, PostS.step t p⟩
    | brk => exact p
    | cont => exact p
    | ret v => exact p
  | exc c x env1 st1 => rw [hr] at p ⊢; exact p
  | stuck => rw [hr] at p ⊢; exact p
end
/-! ### which statements -/
def notTup : Expr → Bool
  | .Tuple .. => false
  | _ => true
/-- two names in a row on one line, stored from a display of two that is not all constants -/
def parOk (sc : Scope) (x y : Str) (px py : Pos) (u v : Expr) : Bool := decide (sc.names.lookup x = some .local) && decide (sc.names.lookup y = some .local) && (py.line == px.line) && !(foldedForSure 8 u && foldedForSure 8 v) && !(constantsAlone 8 u && constantsAlone 8 v)
def parNo (sc : Scope) (x y : Str) : Bool := !decide (sc.names.lookup x = some .local) || !decide (sc.names.lookup y = some .local)
/-- a display stored at targets one after the other -/
def noSwT (sc : Scope) (es : List Expr) : Expr → Bool
  | .Tuple _ _ _ => decide (3 < es.length) || es.any fun e => match e with
    | .Name x _ => !decide (sc.names.lookup x = some .local)
    | _ => true
  | _ => true
def parOk3 (sc : Scope) (x y z : Str) (px py pz : Pos) (u v w : Expr) : Bool := decide (sc.names.lookup x = some .local) && decide (sc.names.lookup y = some .local) && decide (sc.names.lookup z = some .local) && (py.line == px.line) && (pz.line == px.line) &&
  !(foldedForSure 8 u && (foldedForSure 8 v && foldedForSure 8 w)) && !(constantsAlone 8 u && (constantsAlone 8 v && constantsAlone 8 w))
/-- what is allocated is no comprehension (a comprehension is allocated by setM) -/
def okAl : E → Expr → Bool
  | .al _, v => !isComp v
  | _, _ => true
mutual
def okS (G : Gb) (N : List Str) (sc : Scope) (fn : Str → Bool) : S → Stmt → Bool
  | .set (.nm i) e, .Assign [.Name x _] v _ => decide (N[i]? = some x) && loc fn sc x && okE G N e sc v && okAl e v
  | .set (.tp ps) e, .Assign [.Tuple es _ _] v _ => okPs N sc fn ps es && okE G N e sc v && noSwT sc es v
  | .setM i e, .Assign [.Name x _] v _ => decide (N[i]? = some x) && loc fn sc x && okE G N e sc v && okAl e v
  | .par [(i, _), (j, _)] [a, b], .Assign [.Tuple [.Name x px, .Name y py] _ _] (.Tuple [u, v] _ _) _ => decide (N[i]? = some x) && decide (N[j]? = some y) && decide (i ≠ j) && loc fn sc x && loc fn sc y && okE G N a sc u && okE G N b sc v && notStar u && notStar v &&
      (parOk sc x y px py u v || parNo sc x y)
  | .par [(i, _), (j, _), (l, _)] [a, b, c], .Assign [.Tuple [.Name x px, .Name y py, .Name z pz] _ _] (.Tuple [u, v, w] _ _) _ => decide (N[i]? = some x) && decide (N[j]? = some y) && decide (N[l]? = some z) && decide (i ≠ j) && decide (i ≠ l) && decide (j ≠ l) && okE G N a sc u && okE G N b sc v && okE G N c sc w && notStar u && notStar v && notStar w &&
      parOk3 sc x y z px py pz u v w
  | .setI o i e, .Assign [.Subscript o' i' _] v _ => okE G N o sc o' && okE G N i sc i' && okE G N e sc v && !isSlice i'
  | .aug i o e, .AugAssign (.Name x _) p v _ => decide (N[i]? = some x) && loc fn sc x && decide (p = o.py) && okE G N e sc v
  | .expr e, .Expr v _ => okE G N e sc v && !isComp v
  | .ret e, .Return (some v) _ => okE G N e sc v
  | .retN, .Return none _ => true
  | .ife c a b, .If t x y _ => okE G N c sc t && okSs G N sc fn a x && okSs G N sc fn b y
  | .for p it body, .For tg iter bd [] _ => okE G N it sc iter && !isSet iter && okP N sc fn p tg && tgOk it tg && okSs G N sc fn body bd
  | .whl c body, .While t bd [] _ => okE G N c sc t && okSs G N sc fn body bd
  | .pass, .Pass _ => true
  | .brk, .Break _ => true
  | .cont, .Continue _ => true
  | .rais c e, .Raise (some (.Call (.Name x _) [v] [] _)) none _ => decide (G.cls[c]? = some x) && gl sc x && plainName x && okE G N e sc v && notStar v && memB ("super" : Str) G.free
  | .dead, _ => true
  | _, _ => false
def okSs (G : Gb) (N : List Str) (sc : Scope) (fn : Str → Bool) : List S → List Stmt → Bool
  | [], [] => true
  | s :: ss, t :: ts => okS G N sc fn s t && okSs G N sc fn ss ts
  | _, _ => false
end
/-- a context in which statements run -/
structure XS (G : Gb) (N : List Str) (sc : Scope) (fn : Str → Bool) (cl : Bs) (W : WX) (cf : CF) (lv : Nat) (X : Cx) : Prop extends XOk G N sc fn cl W cf lv X where
  own : PassesOwn (model X.prog X.w) X.A X.env X.xe
section
variable {G : Gb} {N : List Str} {sc : Scope} {fn : Str → Bool} {cl : Bs} {W : WX} {cf : CF} {lv wf : Nat} {X : Cx} {pos : Pos}
abbrev PSx (X : Cx) (cl : Bs) (W : WX) (cf : CF) (wf : Nat) (c : S) (s : Stmt) : Prop := PS X s (tSt X.K cl W cf wf c)
abbrev PSsx (X : Cx) (cl : Bs) (W : WX) (cf : CF) (wf : Nat) (c : List S) (s : List Stmt) : Prop := PSs X s (tSts X.K cl W cf wf c)
theorem ss_nil : PSsx X cl W cf wf [] [] := PSs.imp pss_nil fun D σ H h => by
  obtain ⟨F, ρ, env, st, hS, hE, p⟩ := h
  simp only [execs] at p
  exact p F ρ H σ .refl hS hE
theorem ss_cons {c : S} {cs : List S} {s : Stmt} {ss : List Stmt} (h1 : PSx X cl W cf wf c s) (h2 : PSsx X cl W cf wf cs ss) : PSsx X cl W cf wf (c :: cs) (s :: ss) := PSs.imp (pss_cons h1 h2) fun D σ H h => seq_imp h
theorem set_imp {i : Nat} {e : E} {D : Ends} {σ : L2.St} {H : Hp} (h : tSt X.K cl W cf wf (.set (.nm i) e) D σ H) : tAsg (tS X.K cl W cf e) (gName i) D σ H := by
  obtain ⟨F, ρ, env, st, hS, hE, p⟩ := h
  simp only [exec] at p
  refine ⟨F, ρ, env, st, hS, hE, PostS.then hE p fun t st1 F1 ρ1 H1 u s1 q1 r1 p1 => ?_⟩
  simp only [bindP] at p1
  exact p1 F1 ρ1 H1 _ .refl q1 ((s1.er hE).set r1)
def tF (K : Fg) (cl : Bs) (W : WX) (cf : CF) (m : Bool) (c : E) : TE := fun σ H Q => Sta cl K σ H fun F ρ env st => Post (RT_ K) cl W σ F ρ K H (evalF m (evalE cf c env st)) Q
theorem tF_E {K : Fg} {m : Bool} {c : E} {σ : L2.St} {H : Hp} {Q : VK} (h : tF K cl W cf m c σ H Q) : tE K cl W cf c σ H Q := by
  obtain ⟨F, ρ, env, st, hS, hE, p⟩ := h
  unfold evalF at p
  cases m with
  | false => exact tS_E ⟨F, ρ, env, st, hS, hE, p⟩
  | true =>
    rw [if_pos rfl] at p
    refine ⟨F, ρ, env, st, hS, hE, Post.bind p fun a st1 F1 ρ1 H1 b s q r p1 => ?_⟩
    cases hal : MP.alloc (.ok a st1) with
    | ok t st2 =>
      obtain ⟨ρ2, s2, q2, r2⟩ := q.alloc r hal
      have p2 : Post (RT_ K) cl W σ F1 ρ1 K H1 (MP.alloc (.ok a st1)) Q := p1
      rw [hal] at p2
      exact p2 F1 ρ2 H1 b s2 q2 r2
    | exc c x st2 =>
      cases a <;> simp only [MP.alloc, Res.bind] at hal <;> (try split at hal) <;> cases hal
    | stuck =>
      have p2 : Post (RT_ K) cl W σ F1 ρ1 K H1 (MP.alloc (.ok a st1)) Q := p1
      rw [hal] at p2
      exact p2.elim
theorem setM_imp {i : Nat} {e : E} {D : Ends} {σ : L2.St} {H : Hp} (h : tSt X.K cl W cf wf (.setM i e) D σ H) : tAsg (tF X.K cl W cf true e) (gName i) D σ H := by
  obtain ⟨F, ρ, env, st, hS, hE, p⟩ := h
  simp only [exec] at p
  refine ⟨F, ρ, env, st, hS, hE, PostS.then hE p fun t st1 F1 ρ1 H1 u s1 q1 r1 p1 => ?_⟩
  exact p1 F1 ρ1 H1 _ .refl q1 ((s1.er hE).set r1)
end
end MP

/-! MP2, part t: soundness of statements. -/
namespace MP
open PySem PySem.Spec L2
theorem par_swap {x y : Str} {px py pt pt2 : Pos} {kt k2 : Nat} {u v : Expr} {env : PySem.Env} (hk : env.scope.kind = .function) (hx : env.scope.names.lookup x = some .local) (hy : env.scope.names.lookup y = some .local) (hl : (py.line == px.line) = true) (hxy : x ≠ y)
    (hu : notStar u = true) (hv : notStar v = true) (hf : (foldedForSure 8 u && foldedForSure 8 v) = false) (hc : (constantsAlone 8 u && constantsAlone 8 v) = false) :
    swappedStores [.Tuple [.Name x px, .Name y py] kt pt] (.Tuple [u, v] k2 pt2) env = pure (some [x, y]) := by
  have kx : env.kindOf x = some .local := hx
  have ky : env.kindOf y = some .local := hy
  have hb : env.blockKind = .function := by unfold Env.blockKind; rw [hk]; rfl
  have hd : ([x, y] : List Str).eraseDups = [x, y] := by
    simp [List.eraseDups_cons, hxy, Ne.symm hxy]
  unfold swappedStores
  simp only [hb, kx, ky, hl, hf, hc, Expr.pos, List.filterMap, List.length, List.head?, Option.map, Option.getD, List.any, List.all, Bool.and_true, hd]
  simp [hl, hd]
  rintro (h | h)
  · cases u <;> first | (cases h; done) | (cases hu; done)
  · cases v <;> first | (cases h; done) | (cases hv; done)
theorem par_noswap {x y : Str} {px py pt pt2 : Pos} {kt k2 : Nat} {u v : Expr} {env : PySem.Env} (hn : parNo env.scope x y = true) :
    swappedStores [.Tuple [.Name x px, .Name y py] kt pt] (.Tuple [u, v] k2 pt2) env = pure none := by
  unfold parNo at hn
  simp only [Bool.or_eq_true, Bool.not_eq_true', decide_eq_false_iff_not] at hn
  have hk : ¬ (env.kindOf x = some .local ∧ env.kindOf y = some .local) := fun z => hn.elim (fun h => h z.1) fun h => h z.2
  unfold swappedStores
  by_cases hx : env.kindOf x = some .local
  · have hy : ¬ env.kindOf y = some .local := fun z => hk ⟨hx, z⟩
    simp [hx, hy, List.filterMap, Expr.pos]
  · by_cases hy : env.kindOf y = some .local
    · simp only [List.filterMap, Expr.pos, List.head?, Option.map, Option.getD]
      by_cases hl : py.line = px.line
      · simp [hx, hy, hl]
      · simp [hx, hy, hl]
    · simp [hx, hy, List.filterMap]

theorem fm_short {α β : Type} {f : α → Option β} : ∀ {xs : List α}, (∃ x ∈ xs, f x = none) → (xs.filterMap f).length < xs.length
  | [], h => by obtain ⟨x, hx, _⟩ := h; cases hx
  | x :: xs, h => by
    have le : (xs.filterMap f).length ≤ xs.length := List.length_filterMap_le f xs
    rw [List.filterMap_cons]
    cases hf : f x with
    | none => simp only [List.length_cons]; omega
    | some y =>
      obtain ⟨z, hz, hn⟩ := h
      rcases List.mem_cons.mp hz with rfl | hz
      · rw [hf] at hn; cases hn
      · have := fm_short ⟨z, hz, hn⟩
        simp only [List.length_cons]
        omega
theorem sw_none {es : List Expr} {k : Nat} {q : Pos} {v : Expr} {env : PySem.Env} (h : noSwT env.scope es v = true) : swappedStores [.Tuple es k q] v env = pure none := by
  cases v <;> first | rfl | skip
  rename_i vs k2 p2
  unfold noSwT at h
  simp only [Bool.or_eq_true, decide_eq_true_eq, List.any_eq_true] at h
  unfold swappedStores
  simp only
  split
  · rfl
  · rename_i hc
    split
    · rfl
    · rw [if_pos]
      rcases h with h | ⟨e, he, hn⟩
      · exfalso
        simp only [Bool.or_eq_true, Bool.not_eq_true', not_or, Bool.not_eq_false, beq_iff_eq] at hc
        omega
      · simp only [Bool.or_eq_true, bne_iff_ne, ne_eq]
        left
        refine Nat.ne_of_lt (fm_short ⟨e, he, ?_⟩)
        cases e <;> first | rfl | skip
        rename_i x px
        simp only [Bool.not_eq_true', decide_eq_false_iff_not] at hn
        have hk : ¬ env.kindOf x = some .local := hn
        simp [hk]
theorem par_swap3 {x y z : Str} {px py pz pt pt2 : Pos} {kt k2 : Nat} {u v w : Expr} {env : PySem.Env} (hk : env.scope.kind = .function) (hx : env.scope.names.lookup x = some .local) (hy : env.scope.names.lookup y = some .local) (hz : env.scope.names.lookup z = some .local) (hl : (py.line == px.line) = true) (hl2 : (pz.line == px.line) = true) (hxy : x ≠ y) (hxz : x ≠ z) (hyz : y ≠ z)
    (hu : notStar u = true) (hv : notStar v = true) (hw : notStar w = true) (hf : (foldedForSure 8 u && (foldedForSure 8 v && foldedForSure 8 w)) = false) (hc : (constantsAlone 8 u && (constantsAlone 8 v && constantsAlone 8 w)) = false) :
    swappedStores [.Tuple [.Name x px, .Name y py, .Name z pz] kt pt] (.Tuple [u, v, w] k2 pt2) env = pure (some [x, y, z]) := by
  have kx : env.kindOf x = some .local := hx
  have ky : env.kindOf y = some .local := hy
  have kz : env.kindOf z = some .local := hz
  have hb : env.blockKind = .function := by unfold Env.blockKind; rw [hk]; rfl
  have hd : ([x, y, z] : List Str).eraseDups = [x, y, z] := by
    simp [List.eraseDups_cons, hxy, hxz, hyz, Ne.symm hxy, Ne.symm hxz, Ne.symm hyz]
  unfold swappedStores
  simp only [hb, kx, ky, kz, hl, hl2, hf, hc, Expr.pos, List.filterMap, List.length, List.head?, Option.map, Option.getD, List.any, List.all, Bool.and_true, hd]
  simp [hl, hl2, hd]
  rintro (h | h | h)
  · cases u <;> first | (cases h; done) | (cases hu; done)
  · cases v <;> first | (cases h; done) | (cases hv; done)
  · cases w <;> first | (cases h; done) | (cases hw; done)
section
variable {G : Gb} {N : List Str} {sc : Scope} {fn : Str → Bool} {cl : Bs} {W : WX} {cf : CF} {lv wf : Nat} {X : Cx} {pos : Pos}
theorem noSwap1 {e t : Expr} {l : Nat} {env : PySem.Env} (h : isComp e = false) : swapsWithSole [t] e l env = pure false := by
  unfold swapsWithSole
  exact noSwap h
/-- name = value, whatever the value -/
theorem asg_any (x : XS G N sc fn cl W cf lv X) {i : Nat} {y : Str} {e : E} {v : Expr} {pn : Pos} (hi : N[i]? = some y) (hl : loc fn sc y = true) (ho : okE G N e sc v = true) (hal : okAl e v = true) : PS X (.Assign [.Name y pn] v pos) (tAsg (tE X.K cl W cf e) (gName i)) := by
  obtain ⟨l1, l2⟩ := loc_ok x.toXOk hl
  have nd : X.N.Nodup := by rw [x.hN]; exact x.nd
  have hi' : X.N[i]? = some y := by rw [x.hN]; exact hi
  have pe := (ex_all e).e x.toXOk v ho
  by_cases hc : isComp v = false
  · exact ps_set nd hi' l1 pe (noSwap hc) l2
  · cases e with
    | comp own p it conds elt =>
      obtain ⟨el, tg, iter, ifs, scope, q, rfl, h1, h2, h3, h4, h5, h6, h7, h8⟩ := comp_inv ho
      have hsw : ∃ b, swapsWith (.ListComp el [⟨tg, iter, ifs, 0⟩] scope q) (some (.Name y pn)) pos.line X.env = pure b ∧ (b = true → X.env.kindOf y = some .local) := by
        refine ⟨X.env.blockKind == .function && X.env.kindOf y == some .local && pn.line == q.line && !(scope.names.any fun (n, k) => n == y && (k == .local || k == .cell)), rfl, fun h => ?_⟩
        simp only [Bool.and_eq_true, beq_iff_eq] at h
        exact h.1.1.2
      obtain ⟨b, hb, hb2⟩ := hsw
      cases b with
      | false => exact ps_set nd hi' l1 pe hb l2
      | true =>
        have bo : BlkOk X.N X.env.scope scope (own.map fun i => (N.getD i "", i)) := by rw [x.hN, x.hsc]; exact blkOk_by h3
        have eo : (own.map fun i => (N.getD i "", i)).map (fun q => q.2) = own := by
          rw [List.map_map]
          exact List.map_id own
        refine PS.imp (ps_setLc (i := i) (y := y) (g := tP X.K cl.tt p) (tt := tCs X.K cl W0 cf conds) (te := tS X.K cl W0 cf elt) x.calm nd hi' (hb2 rfl) hb ((ex_all it).i x.toXOk tg _ h8 h1) bo
          (fun s H C cs fp => g_pat (x.toXOk.blk s H scope C cs fp) _ _ h4) (fun s H C cs fp => (exs_all conds).c (x.toXOk.blk s H scope C cs fp) _ h5) (fun s H C cs fp => ((ex_all elt).e (x.toXOk.blk s H scope C cs fp) _ h6).s) (noFold h2)) fun D σ H h => ?_
        rw [eo]
        exact comp_imp h7 h
    | dcomp own p it conds kk vv =>
      obtain ⟨kx, vx, tg, iter, ifs, scope, q, rfl, h1, h2, h3, h4, h5, h6, h6', h7, h8⟩ := dcomp_inv ho
      have hsw : ∃ b, swapsWith (.DictComp kx vx [⟨tg, iter, ifs, 0⟩] scope q) (some (.Name y pn)) pos.line X.env = pure b ∧ (b = true → X.env.kindOf y = some .local) := by
        refine ⟨X.env.blockKind == .function && X.env.kindOf y == some .local && pn.line == q.line && !(scope.names.any fun (n, k) => n == y && (k == .local || k == .cell)), rfl, fun h => ?_⟩
        simp only [Bool.and_eq_true, beq_iff_eq] at h
        exact h.1.1.2
      obtain ⟨b, hb, hb2⟩ := hsw
      cases b with
      | false => exact ps_set nd hi' l1 pe hb l2
      | true =>
        have bo : BlkOk X.N X.env.scope scope (own.map fun i => (N.getD i "", i)) := by rw [x.hN, x.hsc]; exact blkOk_by h3
        have eo : (own.map fun i => (N.getD i "", i)).map (fun q => q.2) = own := by
          rw [List.map_map]
          exact List.map_id own
        refine PS.imp (NX.ps_setDc (i := i) (y := y) (g := tP X.K cl.tt p) (tt := tCs X.K cl W0 cf conds) (tk := tS X.K cl W0 cf kk) (tv := tS X.K cl W0 cf vv) x.calm nd hi' (hb2 rfl) hb ((ex_all it).i x.toXOk tg _ h8 h1) bo
          (fun s H C cs fp => g_pat (x.toXOk.blk s H scope C cs fp) _ _ h4) (fun s H C cs fp => (exs_all conds).c (x.toXOk.blk s H scope C cs fp) _ h5) (fun s H C cs fp => ((ex_all kk).e (x.toXOk.blk s H scope C cs fp) _ h6).s) (fun s H C cs fp => ((ex_all vv).e (x.toXOk.blk s H scope C cs fp) _ h6').s) (noFold h2)) fun D σ H h => ?_
        rw [eo]
        exact dcomp_imp h7 h
    | hole =>
      refine ⟨fun pins s σ H D I q => ?_⟩
      obtain ⟨F, ρ, env, st, _, _, p⟩ := q
      simp only [evalE] at p
      exact p.elim
    | al a =>
      exfalso
      apply hc
      simpa [okAl] using hal
    | _ =>
      exfalso
      apply hc
      cases v <;> first | rfl | (simp [okE] at ho; done)
theorem s_set (x : XS G N sc fn cl W cf lv X) {i : Nat} {y : Str} {e : E} {v : Expr} {pn : Pos} (hi : N[i]? = some y) (hl : loc fn sc y = true) (ho : okE G N e sc v = true) (hal : okAl e v = true) : PSx X cl W cf wf (.set (.nm i) e) (.Assign [.Name y pn] v pos) :=
  PS.imp (asg_any x hi hl ho hal) fun D σ H h => tS_E (set_imp h)
theorem s_setM (x : XS G N sc fn cl W cf lv X) {i : Nat} {y : Str} {e : E} {v : Expr} {pn : Pos} (hi : N[i]? = some y) (hl : loc fn sc y = true) (ho : okE G N e sc v = true) (hal : okAl e v = true) : PSx X cl W cf wf (.setM i e) (.Assign [.Name y pn] v pos) :=
  PS.imp (asg_any x hi hl ho hal) fun D σ H h => tF_E (setM_imp h)
theorem noSwapT {es : List Expr} {k : Nat} {q : Pos} {v : Expr} {l : Nat} {env : PySem.Env} : swapsWithSole [.Tuple es k q] v l env = pure false := by cases v <;> rfl
theorem noSwapS {o i : Expr} {q : Pos} {v : Expr} {l : Nat} {env : PySem.Env} : swapsWithSole [.Subscript o i q] v l env = pure false := by cases v <;> rfl
theorem s_tup (x : XS G N sc fn cl W cf lv X) {ps : List Pat} {e : E} {v : Expr} {es : List Expr} {k : Nat} {q : Pos} (hp : okPs N sc fn ps es = true) (ho : okE G N e sc v = true) (ht : noSwT sc es v = true) : PSx X cl W cf wf (.set (.tp ps) e) (.Assign [.Tuple es k q] v pos) := by
  have hw : swappedStores [.Tuple es k q] v X.env = pure none := sw_none (by rw [x.hsc]; exact ht)
  have hp' : okP N sc fn (.tp ps) (.Tuple es k q) = true := by simp only [okP]; exact hp
  refine PS.imp (ps_asg ((ex_all e).e x.toXOk v ho).s (g_pat x.toXOk _ _ hp') noSwapT hw (by rw [asg_star rfl]; rfl)) fun D σ H h => ?_
  obtain ⟨F, ρ, env, st, hS, hE, p⟩ := h
  simp only [exec] at p
  refine ⟨F, ρ, env, st, hS, hE, PostS.then hE p fun t st1 F1 ρ1 H1 u s1 q1 r1 p1 => ?_⟩
  cases hb : bindP st1 (.tp ps) t env with
  | none => rw [hb] at p1; exact p1.elim
  | some env' =>
    rw [hb] at p1
    exact ⟨F1, ρ1, env, st1, t, env', q1, s1.er hE, r1, hb, fun σ' e1 e2 => p1 F1 ρ1 H1 σ' .refl q1 e1⟩
theorem s_expr (x : XS G N sc fn cl W cf lv X) {e : E} {v : Expr} (ho : okE G N e sc v = true) (hc : isComp v = false) : PSx X cl W cf wf (.expr e) (.Expr v pos) := by
  refine PS.imp (ps_expr ((ex_all e).e x.toXOk v ho) (noSwap hc)) fun D σ H h => ?_
  obtain ⟨F, ρ, env, st, hS, hE, p⟩ := h
  simp only [exec] at p
  refine ⟨F, ρ, env, st, hS, hE, PostS.then hE p fun t st1 F1 ρ1 H1 u s1 q1 r1 p1 => ?_⟩
  exact p1 F1 ρ1 H1 σ .refl q1 (s1.er hE)
theorem s_ret (x : XS G N sc fn cl W cf lv X) {e : E} {v : Expr} (ho : okE G N e sc v = true) : PSx X cl W cf wf (.ret e) (.Return (some v) pos) := by
  refine PS.imp (ps_ret ((ex_all e).e x.toXOk v ho)) fun D σ H h => ?_
  obtain ⟨F, ρ, env, st, hS, hE, p⟩ := h
  simp only [exec] at p
  refine ⟨F, ρ, env, st, hS, hE, PostS.then hE p fun t st1 F1 ρ1 H1 u s1 q1 r1 p1 => ?_⟩
  exact p1 F1 ρ1 H1 σ .refl q1 (s1.er hE) u r1
theorem s_retN : PSx X cl W cf wf .retN (.Return none pos) := by
  refine PS.imp ps_retN fun D σ H h => ?_
  obtain ⟨F, ρ, env, st, hS, hE, p⟩ := h
  simp only [exec] at p
  exact p F ρ H σ .refl hS hE _ rv_none
theorem s_pass : PSx X cl W cf wf .pass (.Pass pos) := by
  refine PS.imp ps_pass fun D σ H h => ?_
  obtain ⟨F, ρ, env, st, hS, hE, p⟩ := h
  simp only [exec] at p
  exact p F ρ H σ .refl hS hE
theorem s_brk : PSx X cl W cf wf .brk (.Break pos) := by
  refine PS.imp ps_break fun D σ H h => ?_
  obtain ⟨F, ρ, env, st, hS, hE, p⟩ := h
  simp only [exec] at p
  exact p F ρ H σ .refl hS hE
theorem s_cont : PSx X cl W cf wf .cont (.Continue pos) := by
  refine PS.imp ps_continue fun D σ H h => ?_
  obtain ⟨F, ρ, env, st, hS, hE, p⟩ := h
  simp only [exec] at p
  exact p F ρ H σ .refl hS hE
theorem s_if (x : XS G N sc fn cl W cf lv X) {c : E} {a b : List S} {t : Expr} {u v : List Stmt} (ho : okE G N c sc t = true) (ha : PSsx X cl W cf wf a u) (hb : PSsx X cl W cf wf b v) : PSx X cl W cf wf (.ife c a b) (.If t u v pos) := by
  refine PS.imp (ps_if ((ex_all c).t x.toXOk t ho) ha hb) fun D σ H h => ?_
  obtain ⟨F, ρ, env, st, hS, hE, p⟩ := h
  simp only [exec] at p
  refine ⟨F, ρ, env, st, hS, hE, PostS.then hE p fun d st1 F1 ρ1 H1 k s1 q1 r1 p1 => ?_⟩
  cases (show k = d from r1)
  cases d with
  | true => exact ⟨F1, ρ1, env, st1, q1, s1.er hE, p1⟩
  | false => exact ⟨F1, ρ1, env, st1, q1, s1.er hE, p1⟩
theorem s_setI (x : XS G N sc fn cl W cf lv X) {o i e : E} {o' i' v : Expr} {pt : Pos} (h1 : okE G N o sc o' = true) (h2 : okE G N i sc i' = true) (h3 : okE G N e sc v = true) (hs : isSlice i' = false) : PSx X cl W cf wf (.setI o i e) (.Assign [.Subscript o' i' pt] v pos) := by
  have hu : X.A.units + 1 < cLine := by have := x.units; omega
  have hg := pg_sub (X := X) (pos := pt) ((ex_all o).e x.toXOk o' h1).s ((ex_all i).e x.toXOk i' h2).s (ob_set hu) (by intro w; cases i' <;> first | rfl | (cases hs; done))
  refine PS.imp (ps_asg ((ex_all e).e x.toXOk v h3).s hg noSwapS (by cases v <;> rfl) (by rw [asg_star rfl]; rfl)) fun D σ H h => ?_
  obtain ⟨F, ρ, env, st, hS, hE, p⟩ := h
  simp only [exec] at p
  refine ⟨F, ρ, env, st, hS, hE, PostS.then hE p fun t st1 F1 ρ1 H1 u s1 q1 r1 p1 => ?_⟩
  refine ⟨F1, ρ1, env, st1, q1, s1.er hE, PostS.then (s1.er hE) p1 fun t2 st2 F2 ρ2 H2 u2 s2 q2 r2 p2 => ?_⟩
  refine ⟨F2, ρ2, env, st2, q2, s2.er (s1.er hE), PostS.then (s2.er (s1.er hE)) p2 fun k st3 F3 ρ3 H3 u3 s3 q3 r3 p3 => ?_⟩
  have hE3 := s3.er (s2.er (s1.er hE))
  cases t2 with
  | ref n =>
    have r2' : TR F3 ρ3 X.K H3 (.ref n) u2 := s3.tr r2
    unfold TR at r2'
    obtain ⟨a, hn, rfl⟩ := r2'
    simp only at p3
    cases hc : st3[n]? with
    | none => rw [hc] at p3; exact p3.elim
    | some cc =>
      rw [hc] at p3
      cases cc with
      | dead => exact p3.elim
      | lst xs =>
        simp only at p3
        split at p3
        · rename_i kk hk
          split at p3
          · rename_i j hj
            split at p3
            · rename_i hold
              exact ⟨cl.tt, F3, ρ3, st3, n, a, q3, hn, rfl, .inl ⟨xs, kk, j, t, vint r3 hk, hc, hj, s3.tr (s2.tr r1), hold, fun H' t1 t2 => p3 F3 ρ3 H' σ t1 t2 (t1.er hE3)⟩⟩
            · exact p3.elim
          · exact p3.elim
        · exact p3.elim
      | dct ks ts =>
        simp only at p3
        split at p3
        · rename_i kk hk
          split at p3
          · rename_i hold
            refine ⟨cl.tt, F3, ρ3, st3, n, a, q3, hn, rfl, .inr ⟨ks, ts, kk, t, ?_, hc, hold.2, s3.tr (s2.tr r1), hold.1, fun H' t1 t2 => p3 F3 ρ3 H' σ t1 t2 (t1.er hE3)⟩⟩
            unfold keyV at hk
            split at hk <;> first | (cases hk; done) | skip
            · rename_i hv
              cases hk
              exact vint r3 hv
            · rename_i hv
              cases hk
              exact (vstr r3 hv).1
          · exact p3.elim
        · exact p3.elim
  | _ => exact p3.elim
theorem ip_aug (o : Op) : PIp X o.py (fun x y H Q => ∃ a b c, x = .int a ∧ y = .int b ∧ augI o a b = some c ∧ Q (.int c) H) := by
  intro pins s σ H x y v u Q I r1 r2 h
  obtain ⟨a, b, c, rfl, rfl, e, q⟩ := h
  obtain ⟨t, rfl⟩ := r1
  obtain ⟨t', rfl⟩ := r2
  cases o with
  | add => cases e; exact PyProof.Rows.iadd_int ⟨.int _, H, I.tok _, ⟨_, rfl⟩, q⟩
  | sub => cases e; exact PyProof.Rows.isub_int ⟨.int _, H, I.tok _, ⟨_, rfl⟩, q⟩
  | mul =>
    simp only [augI] at e
    split at e
    · rename_i hm
      cases e
      exact PyProof.Rows.imul_int ⟨.int _, H, I.tok _, ⟨_, rfl⟩, q⟩ (CMulV.ok (by unfold mulOk at hm; unfold CMulV; exact of_decide_eq_true hm))
    · cases e
  | fdiv => cases e
  | mod => cases e
  | pow => cases e
theorem s_aug (x : XS G N sc fn cl W cf lv X) {i : Nat} {o : Op} {y : Str} {e : E} {v : Expr} {pn : Pos} (hi : N[i]? = some y) (hl : loc fn sc y = true) (ho : okE G N e sc v = true) : PSx X cl W cf wf (.aug i o e) (.AugAssign (.Name y pn) o.py v pos) := by
  obtain ⟨l1, l2⟩ := loc_ok x.toXOk hl
  have nd : X.N.Nodup := by rw [x.hN]; exact x.nd
  have hi' : X.N[i]? = some y := by rw [x.hN]; exact hi
  refine PS.imp (ps_aug nd hi' l1 ((ex_all e).e x.toXOk v ho).s (ip_aug o) l2) fun D σ H h => ?_
  obtain ⟨F, ρ, env, st, hS, hE, p⟩ := h
  simp only [exec] at p
  split at p
  · rename_i a ha
    obtain ⟨w, e1, r⟩ := hE.2 i _ ha
    rw [r.int_iff] at e1
    refine ⟨_, e1, F, ρ, env, st, hS, hE, PostS.then hE p fun t st1 F1 ρ1 H1 u s1 q1 r1 p1 => ?_⟩
    split at p1
    · rename_i b
      split at p1
      · rename_i c hc
        refine ⟨a, b, c, rfl, r1.int_iff, hc, p1 F1 ρ1 H1 _ .refl q1 ((s1.er hE).set ?_)⟩
        unfold TR RD
        rfl
      · exact p1.elim
    · exact p1.elim
  · exact p.elim
theorem s_dead {t : Stmt} : PSx X cl W cf wf .dead t := ⟨fun pins s σ H D I q => by
  obtain ⟨F, ρ, env, st, _, _, p⟩ := q
  simp only [exec] at p
  exact p.elim⟩
theorem s_rais (x : XS G N sc fn cl W cf lv X) {c : Nat} {e : E} {y : Str} {v : Expr} {p1 p2 : Pos} (hc : G.cls[c]? = some y) (hg : gl sc y = true) (hp : plainName y = true) (he : okE G N e sc v = true) (hs : notStar v = true) (hf : ("super" : Str) ∈ G.free) :
    PSx X cl W cf wf (.rais c e) (.Raise (some (.Call (.Name y p1) [v] [] p2)) none pos) := by
  obtain ⟨C, D0, fI, fd, e1, e2, e3, e4⟩ := x.excs c y hc
  have hr : Room 0 X.A := x.room.mono (Nat.zero_le _)
  refine PS.imp (ps_raise x.calm x.takes (NX.pmk_stay e3 e4 hr (gl_ok x.toXOk hg) e1 (x.free _ hf) ((ex_all e).e x.toXOk v he).s (star_ok hs) (plain_ok hp).1)) fun D σ H h => ?_
  obtain ⟨F, ρ, env, st, hS, hE, p⟩ := h
  simp only [exec] at p
  refine ⟨F, ρ, env, st, hS, hE, PostS.then hE p fun t st1 F1 ρ1 H1 u s1 q1 r1 p1 => ⟨u, rfl, fun d hd => ?_⟩⟩
  obtain ⟨t1, t2, _, _⟩ := q1.grow (o := .xd [("value", u)]) hd
  rw [← e2]
  exact p1 F1 ρ1 _ σ u d t1 t2 (t1.er (s1.er hE)) (t1.tr r1) upd_same
end
end MP

/-! MP2, part u: pairs, loops, all statements. -/
namespace MP
open PySem PySem.Spec L2
def forG (nx : Nat → Store → Option (Option T)) (f : T → Env → Store → RS) : Nat → Nat → Env → Store → RS
  | 0, _, _, _ => .stuck
  | k + 1, i, env, st => match nx i st with
    | some (some x) => (f x env st).turn fun env' st' => forG nx f k (i + 1) env' st'
    | some none => .ok .next env st
    | none => .stuck
theorem forL_G {f : T → Env → Store → RS} : ∀ (m : Nat) {xs : List T} {i : Nat} {env : Env} {st : Store}, m = xs.length - i → i ≤ xs.length → forL f (xs.drop i) env st = forG (nxOf (.fz xs)) f (m + 1) i env st
  | 0, xs, i, env, st, h, hi => by
    have e : xs.drop i = [] := List.drop_eq_nil_of_le (by omega)
    have e2 : xs[i]? = none := List.getElem?_eq_none (by omega)
    rw [e]
    simp only [forL, forG, nxOf, e2]
  | m + 1, xs, i, env, st, h, hi => by
    have hlt : i < xs.length := by omega
    have e : xs.drop i = xs[i] :: xs.drop (i + 1) := List.drop_eq_getElem_cons hlt
    have e2 : xs[i]? = some xs[i] := List.getElem?_eq_getElem hlt
    rw [e, forG]
    simp only [forL, nxOf, e2]
    congr 1
    funext env' st'
    rw [forL_G m (by omega) (by omega)]
theorem forC_G {f : T → Env → Store → RS} {n : Nat} {e : Bool} : ∀ (k i : Nat) (env : Env) (st : Store), forC f n e k i env st = forG (nxOf (.cell n e)) f k i env st
  | 0, _, _, _ => rfl
  | k + 1, i, env, st => by
    rw [forC, forG]
    simp only [nxOf]
    cases st[n]? with
    | none => rfl
    | some c =>
      cases c with
      | dead => rfl
      | dct ks ts => rfl
      | lst xs =>
        simp only
        cases xs[i]? with
        | none => rfl
        | some x =>
          simp only [Option.map]
          congr 1
          funext env' st'
          rw [forC_G k]
theorem forSrc_G {f : T → Env → Store → RS} {src : Src} {env : Env} {st : Store} : forSrc f src env st = .stuck ∨ ∃ k, forSrc f src env st = forG (nxOf src) f k 0 env st := by
  cases src with
  | fz xs =>
    refine .inr ⟨xs.length + 1, ?_⟩
    rw [← forL_G xs.length (by omega) (by omega)]
    rfl
  | cell n e =>
    simp only [forSrc]
    split
    · rename_i xs _
      exact .inr ⟨xs.length + 1, forC_G _ _ _ _⟩
    · exact .inl rfl
theorem then_bind {α β : Type} {r : Res α} {g : α → β} {env : Env} {k : β → Store → RS} : (r.bind fun x st => Res.ok (g x) st).then env k = r.then env fun x st => k (g x) st := by
  cases r <;> rfl
section
variable {G : Gb} {N : List Str} {sc : Scope} {fn : Str → Bool} {cl : Bs} {W : WX} {cf : CF} {lv wf : Nat} {X : Cx} {pos : Pos}
/-- a turn's end -/
theorem turn_post {K : Fg} {F : FS} {ρ : List Addr} {H : Hp} {r : RS} {k : Env → Store → RS} {D : Ends} {M : L2.St → Hp → Prop} (h : PostS K cl W F ρ H (r.turn k) D)
    (hM : ∀ (env : Env) (st : Store) (F' : FS) (ρ' : List Addr) (H' : Hp) (σ' : L2.St), Stp F ρ H F' ρ' H' → SR cl.tt F' ρ' K st H' → ER F' ρ' K H' env σ' → PostS K cl W F' ρ' H' (k env st) D → M σ' H') :
    PostS K cl W F ρ H r { D with nx := M, ct := M, bk := D.nx } := by
  cases r with
  | ok fl env st =>
    cases fl with
    | next => exact fun F' ρ' H' σ' t q e => hM env st F' ρ' H' σ' t q e (PostS.step t h)
    | cont => exact fun F' ρ' H' σ' t q e => hM env st F' ρ' H' σ' t q e (PostS.step t h)
    | brk => exact h
    | ret v => exact h
  | exc c x env st => exact h
  | stuck => exact h
theorem s_for (x : XS G N sc fn cl W cf lv X) {p : Pat} {it : E} {body : List S} {tg iter : Expr} {bd : List Stmt} (hi : okE G N it sc iter = true) (hs : isSet iter = false) (hp : okP N sc fn p tg = true) (ht : tgOk it tg = true) (hb : PSsx X cl W cf wf body bd) :
    PSx X cl W cf wf (.for p it body) (.For tg iter bd [] pos) := by
  refine PS.imp (ps_for x.own x.calm ((ex_all it).i x.toXOk tg iter ht hi) (g_pat x.toXOk p tg hp) hb (noFold hs)) fun D σ H h => ?_
  obtain ⟨F, ρ, env, st, hS, hE, pp⟩ := h
  simp only [exec] at pp
  refine ⟨F, ρ, env, st, hS, hE, PostS.then hE pp fun src st1 F1 ρ1 H1 J s1 q1 r1 p1 => ?_⟩
  rcases forSrc_G (f := fun y env st => bindThen (bindP st p y env) fun env' => execs cf wf body env' st) (src := src) (env := env) (st := st1) with hstk | ⟨k0, hk0⟩
  · rw [hstk] at p1
    exact p1.elim
  · rw [hk0] at p1
    have W1 : ∃ Wv : Nat → Nat → L2.St → Hp → Prop, Wv = fun i m σ' H' => ∃ (F' : FS) (ρ' : List Addr) (env' : Env) (st' : Store), SR cl.tt F' ρ' X.K st' H' ∧ ER F' ρ' X.K H' env' σ' ∧ Stp F1 ρ1 H1 F' ρ' H' ∧ (∀ xs, src = .fz xs → i ≤ xs.length) ∧
        PostS X.K cl W F' ρ' H' (forG (nxOf src) (fun y env st => bindThen (bindP st p y env) fun env' => execs cf wf body env' st) m i env' st') D := ⟨_, rfl⟩
    obtain ⟨Wv, eW⟩ := W1
    refine ⟨Wv, ⟨k0, by rw [eW]; exact ⟨F1, ρ1, env, st1, q1, s1.er hE, .refl, fun _ _ => Nat.zero_le _, p1⟩⟩, fun i m σ' H' hW => ?_⟩
    rw [eW] at hW
    obtain ⟨F', ρ', env', st', q', e', sp, hfz, pw⟩ := hW
    cases m with
    | zero => exact pw.elim
    | succ m =>
      rw [forG] at pw
      cases hn : nxOf src i st' with
      | none => rw [hn] at pw; exact pw.elim
      | some o =>
        rw [hn] at pw
        cases o with
        | none => exact .inl ⟨src_stop r1 sp.lat q' hn hfz, pw F' ρ' H' σ' .refl q' e'⟩
        | some xx =>
          obtain ⟨ib, go, yl⟩ := src_go r1 sp.lat q' hn
          have hfz' : ∀ xs, src = .fz xs → i + 1 ≤ xs.length := fun xs e => by
            subst e
            simp only [nxOf, Option.some.injEq] at hn
            exact (List.getElem?_eq_some_iff.mp hn).1
          refine .inr ⟨go, fun σ2 H2 => Wv (i + 1) m σ2 H2, fun σ2 H2 h => ⟨m, Nat.lt_succ_self m, h⟩, fun v H'' y => ?_⟩
          obtain ⟨F2, s2, q2, r2⟩ := yl v H'' y
          have pw' := PostS.step s2 pw
          simp only at pw'
          cases hbp : bindP st' p xx env' with
          | none => rw [hbp] at pw'; exact pw'.elim
          | some env2 =>
            rw [hbp] at pw'
            refine ⟨F2, ρ', env', st', xx, env2, q2, s2.er e', r2, hbp, fun σ2 e1 _ => ?_⟩
            refine ⟨F2, ρ', env2, st', q2, e1, turn_post pw' fun env3 st3 F3 ρ3 H3 σ3 t3 q3 e3 p3 => ?_⟩
            rw [eW]
            exact ⟨F3, ρ3, env3, st3, q3, e3, (sp.trans s2).trans t3, hfz', p3⟩
theorem s_whl (x : XS G N sc fn cl W cf lv X) {c : E} {body : List S} {t : Expr} {bd : List Stmt} (hc : okE G N c sc t = true) (hb : PSsx X cl W cf wf body bd) : PSx X cl W cf wf (.whl c body) (.While t bd [] pos) := by
  refine PS.imp (ps_while x.own ((ex_all c).t x.toXOk t hc) hb) fun D σ H h => ?_
  obtain ⟨F, ρ, env, st, hS, hE, pp⟩ := h
  simp only [exec] at pp
  have W1 : ∃ Wv : Nat → L2.St → Hp → Prop, Wv = fun m σ' H' => ∃ (F' : FS) (ρ' : List Addr) (env' : Env) (st' : Store), SR cl.tt F' ρ' X.K st' H' ∧ ER F' ρ' X.K H' env' σ' ∧
      PostS X.K cl W F' ρ' H' (whileL (fun env st => truthOf (evalE cf c env st)) (fun env st => execs cf wf body env st) m env' st') D := ⟨_, rfl⟩
  obtain ⟨Wv, eW⟩ := W1
  refine ⟨Wv, ⟨wf, by rw [eW]; exact ⟨F, ρ, env, st, hS, hE, pp⟩⟩, fun m σ' H' hW => ?_⟩
  rw [eW] at hW
  obtain ⟨F', ρ', env', st', q', e', pw⟩ := hW
  cases m with
  | zero => exact pw.elim
  | succ m =>
    rw [whileL] at pw
    refine ⟨F', ρ', env', st', q', e', PostS.then e' pw fun d st1 F1 ρ1 H1 k s1 q1 r1 p1 => ?_⟩
    cases (show k = d from r1)
    cases d with
    | false =>
      rw [if_neg (by decide)] at p1 ⊢
      exact p1 F1 ρ1 H1 σ' .refl q1 (s1.er e')
    | true =>
      rw [if_pos rfl] at p1 ⊢
      refine ⟨fun σ2 H2 => Wv m σ2 H2, fun σ2 H2 h => ⟨m, Nat.lt_succ_self m, h⟩, F1, ρ1, env', st1, q1, s1.er e', turn_post p1 fun env3 st3 F3 ρ3 H3 σ3 t3 q3 e3 p3 => ?_⟩
      rw [eW]
      exact ⟨F3, ρ3, env3, st3, q3, e3, p3⟩
theorem fs2 {i j : Nat} {mi mj : Bool} {a b : E} {env : Env} {st : Store} : ((evalFs cf [(i, mi), (j, mj)] [a, b] env st).then env fun vs st1 => bindThen (setAll (([(i, mi), (j, mj)] : List (Nat × Bool)).map (·.1)) vs env) fun env' => RS.ok .next env' st1) =
    (evalF mi (evalE cf a env st)).then env fun v st1 => (evalF mj (evalE cf b env st1)).then env fun w st2 => .ok .next ((env.set i (some v)).set j (some w)) st2 := by
  simp only [evalFs]
  cases evalF mi (evalE cf a env st) with
  | ok v st1 =>
    simp only [Res.bind, Res.then]
    cases evalF mj (evalE cf b env st1) <;> rfl
  | exc c x st1 => rfl
  | stuck => rfl
theorem s_par (x : XS G N sc fn cl W cf lv X) {i j : Nat} {mi mj : Bool} {a b : E} {y z : Str} {py pz pt pt2 : Pos} {kt k2 : Nat} {u v : Expr} (hi : N[i]? = some y) (hj : N[j]? = some z) (hij : i ≠ j) (ly : loc fn sc y = true) (lz : loc fn sc z = true)
    (hk : sc.kind = .function) (ha : okE G N a sc u = true) (hb : okE G N b sc v = true) (hu : notStar u = true) (hv : notStar v = true) (hp : (parOk sc y z py pz u v || parNo sc y z) = true) :
    PSx X cl W cf wf (.par [(i, mi), (j, mj)] [a, b]) (.Assign [.Tuple [.Name y py, .Name z pz] kt pt] (.Tuple [u, v] k2 pt2) pos) := by
  have nd : X.N.Nodup := by rw [x.hN]; exact x.nd
  have hi' : X.N[i]? = some y := by rw [x.hN]; exact hi
  have hj' : X.N[j]? = some z := by rw [x.hN]; exact hj
  have hyz : y ≠ z := fun e => by
    subst e
    exact hij (nodup_ix nd hi' hj')
  have pa : PA X [u, v] (tCons (tF X.K cl W cf mi a) (tCons (tF X.K cl W cf mj b) tNil)) :=
    pa_cons (PE.imp ((ex_all a).e x.toXOk u ha) fun _ _ _ => tF_E) (pa_cons (PE.imp ((ex_all b).e x.toXOk v hb) fun _ _ _ => tF_E) pa_nil (star_ok hv)) (star_ok hu)
  have core : ∀ {D : Ends} {σ : L2.St} {H : Hp}, tSt X.K cl W cf wf (.par [(i, mi), (j, mj)] [a, b]) D σ H → tF X.K cl W cf mi a σ H fun w1 H1 => tF X.K cl W cf mj b σ H1 fun w2 H2 => ∃ F2 ρ2 st2 env2, SR cl.tt F2 ρ2 X.K st2 H2 ∧ ER F2 ρ2 X.K H2 env2 ((σ.set i (some w1)).set j (some w2)) ∧
      PostS X.K cl W F2 ρ2 H2 (.ok .next env2 st2) D := by
    intro D σ H h
    obtain ⟨F, ρ, env, st, hS, hE, p⟩ := h
    simp only [exec] at p
    rw [fs2] at p
    refine ⟨F, ρ, env, st, hS, hE, PostS.then hE p fun t1 st1 F1 ρ1 H1 w1 s1 q1 r1 p1 => ?_⟩
    refine ⟨F1, ρ1, env, st1, q1, s1.er hE, PostS.then (s1.er hE) p1 fun t2 st2 F2 ρ2 H2 w2 s2 q2 r2 p2 => ?_⟩
    exact ⟨F2, ρ2, st2, _, q2, ((s2.er (s1.er hE)).set (s2.tr r1)).set r2, p2⟩
  rw [Bool.or_eq_true] at hp
  rcases hp with hp | hp
  · unfold parOk at hp
    simp only [Bool.and_eq_true, decide_eq_true_eq, Bool.not_eq_true'] at hp
    obtain ⟨⟨⟨⟨h1, h2⟩, h3⟩, h4⟩, h5⟩ := hp
    have sk : X.env.scope.kind = .function := by rw [x.hsc]; exact hk
    refine PS.imp (ps_par x.calm nd hi' hj' hij (by rw [x.hsc]; exact h1) (by rw [x.hsc]; exact h2) pa (par_swap sk (by rw [x.hsc]; exact h1) (by rw [x.hsc]; exact h2) h3 hyz hu hv h4 h5) (noSwap1 rfl)) fun D σ H h => ?_
    obtain ⟨F, ρ, env, st, hS, hE, p⟩ := core h
    refine ⟨F, ρ, env, st, hS, hE, Post.map p fun t1 st1 F1 ρ1 H1 w1 er s1 q1 r1 => ?_⟩
    rw [er] at p
    obtain ⟨F2, ρ2, env2, st2, q2, e2, p2⟩ := p F1 ρ1 H1 w1 s1 q1 r1
    refine ⟨F2, ρ2, env2, st2, q2, e2, Post.map p2 fun t3 st3 F3 ρ3 H3 w3 er3 s3 q3 r3 => ?_⟩
    rw [er3] at p2
    obtain ⟨F4, ρ4, st4, env4, q4, e4, p4⟩ := p2 F3 ρ3 H3 w3 s3 q3 r3
    exact ⟨w1, w3, rfl, p4 F4 ρ4 H3 _ .refl q4 e4⟩
  · obtain ⟨l1, l2⟩ := loc_ok x.toXOk ly
    obtain ⟨l3, l4⟩ := loc_ok x.toXOk lz
    have pg := pg_tup (X := X) (k := kt) (pos := pt) x.calm (pgs_cons (pg_name (pos := py) nd hi' l1 l2) (pgs_cons (pg_name (pos := pz) nd hj' l3 l4) pgs_nil))
    refine PS.imp (ps_asg (pe_tup (x1 := k2) (pos := pt2) pa) pg (noSwap1 rfl) (par_noswap (by rw [x.hsc]; exact hp)) (by rw [asg_star rfl]; rfl)) fun D σ H h => ?_
    obtain ⟨F, ρ, env, st, hS, hE, p⟩ := core h
    refine ⟨F, ρ, env, st, hS, hE, Post.map p fun t1 st1 F1 ρ1 H1 w1 er s1 q1 r1 => ?_⟩
    rw [er] at p
    obtain ⟨F2, ρ2, env2, st2, q2, e2, p2⟩ := p F1 ρ1 H1 w1 s1 q1 r1
    refine ⟨F2, ρ2, env2, st2, q2, e2, Post.map p2 fun t3 st3 F3 ρ3 H3 w3 er3 s3 q3 r3 => ?_⟩
    rw [er3] at p2
    obtain ⟨F4, ρ4, st4, env4, q4, e4, p4⟩ := p2 F3 ρ3 H3 w3 s3 q3 r3
    refine ⟨by show 2 ≤ sizeLine; decide, fun pp hpp => ?_⟩
    obtain ⟨t1', t2', _, _⟩ := q4.grow (o := .tup [w1, w3]) hpp
    refine ⟨pp, [w1, w3], rfl, SqT.of upd_same, rfl, w1, [w3], rfl, w3, [], rfl, rfl, ?_⟩
    exact p4 F4 ρ4 _ _ t1' t2' (t1'.er e4)
theorem fs3 {i j l : Nat} {mi mj ml : Bool} {a b c : E} {env : Env} {st : Store} : ((evalFs cf [(i, mi), (j, mj), (l, ml)] [a, b, c] env st).then env fun vs st1 => bindThen (setAll (([(i, mi), (j, mj), (l, ml)] : List (Nat × Bool)).map (·.1)) vs env) fun env' => RS.ok .next env' st1) =
    (evalF mi (evalE cf a env st)).then env fun v st1 => (evalF mj (evalE cf b env st1)).then env fun w st2 => (evalF ml (evalE cf c env st2)).then env fun z st3 => .ok .next (((env.set i (some v)).set j (some w)).set l (some z)) st3 := by
  simp only [evalFs]
  cases evalF mi (evalE cf a env st) with
  | ok v st1 =>
    simp only [Res.bind, Res.then]
    cases evalF mj (evalE cf b env st1) with
    | ok w st2 =>
      simp only [Res.bind, Res.then]
      cases evalF ml (evalE cf c env st2) <;> rfl
    | exc c x st1 => rfl
    | stuck => rfl
  | exc c x st1 => rfl
  | stuck => rfl
theorem s_par3 (x : XS G N sc fn cl W cf lv X) {i j l : Nat} {mi mj ml : Bool} {a b c : E} {y z w : Str} {py pz pw pt pt2 : Pos} {kt k2 : Nat} {u v r : Expr} (hi : N[i]? = some y) (hj : N[j]? = some z) (hl : N[l]? = some w) (hij : i ≠ j) (hil : i ≠ l) (hjl : j ≠ l)
    (hk : sc.kind = .function) (ha : okE G N a sc u = true) (hb : okE G N b sc v = true) (hc : okE G N c sc r = true) (hu : notStar u = true) (hv : notStar v = true) (hr : notStar r = true) (hp : parOk3 sc y z w py pz pw u v r = true) :
    PSx X cl W cf wf (.par [(i, mi), (j, mj), (l, ml)] [a, b, c]) (.Assign [.Tuple [.Name y py, .Name z pz, .Name w pw] kt pt] (.Tuple [u, v, r] k2 pt2) pos) := by
  have nd : X.N.Nodup := by rw [x.hN]; exact x.nd
  have hi' : X.N[i]? = some y := by rw [x.hN]; exact hi
  have hj' : X.N[j]? = some z := by rw [x.hN]; exact hj
  have hl' : X.N[l]? = some w := by rw [x.hN]; exact hl
  have pa : PA X [u, v, r] (tCons (tF X.K cl W cf mi a) (tCons (tF X.K cl W cf mj b) (tCons (tF X.K cl W cf ml c) tNil))) :=
    pa_cons (PE.imp ((ex_all a).e x.toXOk u ha) fun _ _ _ => tF_E) (pa_cons (PE.imp ((ex_all b).e x.toXOk v hb) fun _ _ _ => tF_E) (pa_cons (PE.imp ((ex_all c).e x.toXOk r hc) fun _ _ _ => tF_E) pa_nil (star_ok hr)) (star_ok hv)) (star_ok hu)
  unfold parOk3 at hp
  simp only [Bool.and_eq_true, decide_eq_true_eq, Bool.not_eq_true'] at hp
  obtain ⟨⟨⟨⟨⟨⟨h1, h2⟩, h3⟩, h4⟩, h5⟩, h6⟩, h7⟩ := hp
  have sk : X.env.scope.kind = .function := by rw [x.hsc]; exact hk
  have n1 : y ≠ z := fun e => by subst e; exact hij (nodup_ix nd hi' hj')
  have n2 : y ≠ w := fun e => by subst e; exact hil (nodup_ix nd hi' hl')
  have n3 : z ≠ w := fun e => by subst e; exact hjl (nodup_ix nd hj' hl')
  refine PS.imp (ps_par3 x.calm nd hi' hj' hl' hij hil hjl (by rw [x.hsc]; exact h1) (by rw [x.hsc]; exact h2) (by rw [x.hsc]; exact h3) pa (par_swap3 sk (by rw [x.hsc]; exact h1) (by rw [x.hsc]; exact h2) (by rw [x.hsc]; exact h3) h4 h5 n1 n2 n3 hu hv hr h6 h7) (noSwap1 rfl)) fun D σ H h => ?_
  obtain ⟨F, ρ, env, st, hS, hE, p⟩ := h
  simp only [exec] at p
  rw [fs3] at p
  refine ⟨F, ρ, env, st, hS, hE, PostS.then hE p fun t1 st1 F1 ρ1 H1 w1 s1 q1 r1 p1 => ?_⟩
  refine ⟨F1, ρ1, env, st1, q1, s1.er hE, PostS.then (s1.er hE) p1 fun t2 st2 F2 ρ2 H2 w2 s2 q2 r2 p2 => ?_⟩
  refine ⟨F2, ρ2, env, st2, q2, s2.er (s1.er hE), PostS.then (s2.er (s1.er hE)) p2 fun t3 st3 F3 ρ3 H3 w3 s3 q3 r3 p3 => ?_⟩
  exact ⟨w1, w2, w3, rfl, p3 F3 ρ3 H3 _ .refl q3 ((((s3.er (s2.er (s1.er hE))).set (s3.tr (s2.tr r1))).set (s3.tr r2)).set r3)⟩
end
end MP

/-! MP2, part v: all statements. -/
namespace MP
open PySem PySem.Spec L2
section
variable {G : Gb} {N : List Str} {sc : Scope} {fn : Str → Bool}
structure SSnd (G : Gb) (N : List Str) (sc : Scope) (fn : Str → Bool) (c : S) : Prop where
  s : ∀ {cl : Bs} {W : WX} {cf : CF} {lv wf : Nat} {X : Cx}, XS G N sc fn cl W cf lv X → sc.kind = .function → ∀ t, okS G N sc fn c t = true → PSx X cl W cf wf c t
structure SSnds (G : Gb) (N : List Str) (sc : Scope) (fn : Str → Bool) (c : List S) : Prop where
  s : ∀ {cl : Bs} {W : WX} {cf : CF} {lv wf : Nat} {X : Cx}, XS G N sc fn cl W cf lv X → sc.kind = .function → ∀ t, okSs G N sc fn c t = true → PSsx X cl W cf wf c t
theorem set_inv {p : Pat} {e : E} {t : Stmt} (h : okS G N sc fn (.set p e) t = true) : (∃ i y pn v q, p = .nm i ∧ t = .Assign [.Name y pn] v q ∧ N[i]? = some y ∧ loc fn sc y = true ∧ okE G N e sc v = true ∧ okAl e v = true) ∨
    ∃ ps es k pt v q, p = .tp ps ∧ t = .Assign [.Tuple es k pt] v q ∧ okPs N sc fn ps es = true ∧ okE G N e sc v = true ∧ noSwT sc es v = true := by
  unfold okS at h
  split at h <;> first | (cases h; done) | (rename_i hb; cases hb)
  · simp only [Bool.and_eq_true, decide_eq_true_eq] at h
    exact .inl ⟨_, _, _, _, _, rfl, rfl, h.1.1.1, h.1.1.2, h.1.2, h.2⟩
  · simp only [Bool.and_eq_true, Bool.not_eq_true'] at h
    exact .inr ⟨_, _, _, _, _, _, rfl, rfl, h.1.1, h.1.2, h.2⟩
theorem sn_set (p : Pat) (e : E) : SSnd G N sc fn (.set p e) := ⟨fun x hk t h => by
  rcases set_inv h with ⟨_, _, _, _, _, rfl, rfl, h1, h2, h3, h3'⟩ | ⟨_, _, _, _, _, _, rfl, rfl, h1, h2, h3⟩
  · exact s_set x h1 h2 h3 h3'
  · exact s_tup x h1 h2 h3⟩
theorem sn_setM (i : Nat) (e : E) : SSnd G N sc fn (.setM i e) := ⟨fun x hk t h => by
  unfold okS at h
  split at h <;> first | (cases h; done) | (rename_i hb; cases hb)
  simp only [Bool.and_eq_true, decide_eq_true_eq] at h
  exact s_setM x h.1.1.1 h.1.1.2 h.1.2 h.2⟩
theorem par_inv {is : List (Nat × Bool)} {es : List E} {t : Stmt} (h : okS G N sc fn (.par is es) t = true) : (∃ i mi j mj a b y py z pz kt pt u v k2 pt2 q, is = [(i, mi), (j, mj)] ∧ es = [a, b] ∧ t = .Assign [.Tuple [.Name y py, .Name z pz] kt pt] (.Tuple [u, v] k2 pt2) q ∧
    N[i]? = some y ∧ N[j]? = some z ∧ i ≠ j ∧ loc fn sc y = true ∧ loc fn sc z = true ∧ okE G N a sc u = true ∧ okE G N b sc v = true ∧ notStar u = true ∧ notStar v = true ∧ (parOk sc y z py pz u v || parNo sc y z) = true) ∨
    ∃ i mi j mj l ml a b c y py z pz w pw kt pt u v r k2 pt2 q, is = [(i, mi), (j, mj), (l, ml)] ∧ es = [a, b, c] ∧ t = .Assign [.Tuple [.Name y py, .Name z pz, .Name w pw] kt pt] (.Tuple [u, v, r] k2 pt2) q ∧
    N[i]? = some y ∧ N[j]? = some z ∧ N[l]? = some w ∧ i ≠ j ∧ i ≠ l ∧ j ≠ l ∧ okE G N a sc u = true ∧ okE G N b sc v = true ∧ okE G N c sc r = true ∧ notStar u = true ∧ notStar v = true ∧ notStar r = true ∧ parOk3 sc y z w py pz pw u v r = true := by
  unfold okS at h
  split at h <;> first | (cases h; done) | (rename_i hb; cases hb)
  · rw [Bool.and_eq_true] at h
    obtain ⟨h, hp⟩ := h
    simp only [Bool.and_eq_true, decide_eq_true_eq] at h
    obtain ⟨⟨⟨⟨⟨⟨⟨⟨h1, h2⟩, h3⟩, h4⟩, h5⟩, h6⟩, h7⟩, h8⟩, h9⟩ := h
    exact .inl ⟨_, _, _, _, _, _, _, _, _, _, _, _, _, _, _, _, _, rfl, rfl, rfl, h1, h2, h3, h4, h5, h6, h7, h8, h9, hp⟩
  · rw [Bool.and_eq_true] at h
    obtain ⟨h, hp⟩ := h
    simp only [Bool.and_eq_true, decide_eq_true_eq] at h
    obtain ⟨⟨⟨⟨⟨⟨⟨⟨⟨⟨⟨h1, h2⟩, h3⟩, h4⟩, h5⟩, h6⟩, h7⟩, h8⟩, h9⟩, g1⟩, g2⟩, g3⟩ := h
    exact .inr ⟨_, _, _, _, _, _, _, _, _, _, _, _, _, _, _, _, _, _, _, _, _, _, _, rfl, rfl, rfl, h1, h2, h3, h4, h5, h6, h7, h8, h9, g1, g2, g3, hp⟩
theorem sn_par (is : List (Nat × Bool)) (es : List E) : SSnd G N sc fn (.par is es) := ⟨fun x hk t h => by
  rcases par_inv h with ⟨_, _, _, _, _, _, _, _, _, _, _, _, _, _, _, _, _, rfl, rfl, rfl, h1, h2, h3, h4, h5, h6, h7, h8, h9, hp⟩ | ⟨_, _, _, _, _, _, _, _, _, _, _, _, _, _, _, _, _, _, _, _, _, _, _, rfl, rfl, rfl, h1, h2, h3, h4, h5, h6, h7, h8, h9, g1, g2, g3, hp⟩
  · exact s_par x h1 h2 h3 h4 h5 hk h6 h7 h8 h9 hp
  · exact s_par3 x h1 h2 h3 h4 h5 h6 hk h7 h8 h9 g1 g2 g3 hp⟩
theorem sn_setI (o i e : E) : SSnd G N sc fn (.setI o i e) := ⟨fun x hk t h => by
  unfold okS at h
  split at h <;> first | (cases h; done) | (rename_i hb; cases hb)
  simp only [Bool.and_eq_true, Bool.not_eq_true'] at h
  exact s_setI x h.1.1.1 h.1.1.2 h.1.2 h.2⟩
theorem sn_aug (i : Nat) (o : Op) (e : E) : SSnd G N sc fn (.aug i o e) := ⟨fun x hk t h => by
  unfold okS at h
  split at h <;> first | (cases h; done) | (rename_i hb; cases hb)
  simp only [Bool.and_eq_true, decide_eq_true_eq] at h
  obtain ⟨⟨⟨h1, h2⟩, h3⟩, h4⟩ := h
  subst h3
  exact s_aug x h1 h2 h4⟩
theorem sn_rais (c : Nat) (e : E) : SSnd G N sc fn (.rais c e) := ⟨fun x hk t h => by
  unfold okS at h
  split at h <;> first | (cases h; done) | (rename_i hb; cases hb)
  simp only [Bool.and_eq_true, decide_eq_true_eq] at h
  obtain ⟨⟨⟨⟨⟨h1, h2⟩, h3⟩, h4⟩, h5⟩, h6⟩ := h
  exact s_rais x h1 h2 h3 h4 h5 (memB_ok h6)⟩
theorem sn_dead : SSnd G N sc fn .dead := ⟨fun x hk t h => s_dead⟩
theorem sn_expr (e : E) : SSnd G N sc fn (.expr e) := ⟨fun x hk t h => by
  cases t <;> first | (simp [okS] at h; done) | skip
  simp only [okS, Bool.and_eq_true, Bool.not_eq_true'] at h
  exact s_expr x h.1 h.2⟩
theorem sn_ret (e : E) : SSnd G N sc fn (.ret e) := ⟨fun x hk t h => by
  cases t <;> first | (simp [okS] at h; done) | skip
  rename_i v q
  cases v with
  | none => simp [okS] at h
  | some v =>
    simp only [okS] at h
    exact s_ret x h⟩
theorem sn_retN : SSnd G N sc fn .retN := ⟨fun x hk t h => by
  cases t <;> first | (simp [okS] at h; done) | skip
  rename_i v q
  cases v with
  | none => exact s_retN
  | some v => simp [okS] at h⟩
theorem sn_pass : SSnd G N sc fn .pass := ⟨fun x hk t h => by
  cases t <;> first | (simp [okS] at h; done) | skip
  exact s_pass⟩
theorem sn_brk : SSnd G N sc fn .brk := ⟨fun x hk t h => by
  cases t <;> first | (simp [okS] at h; done) | skip
  exact s_brk⟩
theorem sn_cont : SSnd G N sc fn .cont := ⟨fun x hk t h => by
  cases t <;> first | (simp [okS] at h; done) | skip
  exact s_cont⟩
theorem sn_ife {c : E} {a b : List S} (ha : SSnds G N sc fn a) (hb : SSnds G N sc fn b) : SSnd G N sc fn (.ife c a b) := ⟨fun x hk t h => by
  cases t <;> first | (simp [okS] at h; done) | skip
  simp only [okS, Bool.and_eq_true] at h
  exact s_if x h.1.1 (ha.s x hk _ h.1.2) (hb.s x hk _ h.2)⟩
theorem sn_for {p : Pat} {it : E} {b : List S} (hb : SSnds G N sc fn b) : SSnd G N sc fn (.for p it b) := ⟨fun x hk t h => by
  cases t <;> first | (simp [okS] at h; done) | skip
  rename_i tg iter bd els q
  cases els with
  | cons _ _ => simp [okS] at h
  | nil =>
    simp only [okS, Bool.and_eq_true, Bool.not_eq_true'] at h
    exact s_for x h.1.1.1.1 h.1.1.1.2 h.1.1.2 h.1.2 (hb.s x hk _ h.2)⟩
theorem sn_whl {c : E} {b : List S} (hb : SSnds G N sc fn b) : SSnd G N sc fn (.whl c b) := ⟨fun x hk t h => by
  cases t <;> first | (simp [okS] at h; done) | skip
  rename_i tg bd els q
  cases els with
  | cons _ _ => simp [okS] at h
  | nil =>
    simp only [okS, Bool.and_eq_true] at h
    exact s_whl x h.1 (hb.s x hk _ h.2)⟩
theorem sn_nil : SSnds G N sc fn [] := ⟨fun x hk t h => by
  cases t with
  | nil => exact ss_nil
  | cons _ _ => simp [okSs] at h⟩
theorem sn_cons {c : S} {cs : List S} (h1 : SSnd G N sc fn c) (h2 : SSnds G N sc fn cs) : SSnds G N sc fn (c :: cs) := ⟨fun x hk t h => by
  cases t with
  | nil => simp [okSs] at h
  | cons t ts =>
    simp only [okSs, Bool.and_eq_true] at h
    exact ss_cons (h1.s x hk _ h.1) (h2.s x hk _ h.2)⟩
mutual
theorem sn_all : ∀ c : S, SSnd G N sc fn c
  | .set p e => sn_set p e
  | .setM i e => sn_setM i e
  | .par is es => sn_par is es
  | .setI o i e => sn_setI o i e
  | .aug i o e => sn_aug i o e
  | .expr e => sn_expr e
  | .ret e => sn_ret e
  | .retN => sn_retN
  | .dead => sn_dead
  | .ife c a b => sn_ife (sns_all a) (sns_all b)
  | .for p it b => sn_for (sns_all b)
  | .whl c b => sn_whl (sns_all b)
  | .pass => sn_pass
  | .brk => sn_brk
  | .cont => sn_cont
  | .rais c e => sn_rais c e
theorem sns_all : ∀ cs : List S, SSnds G N sc fn cs
  | [] => sn_nil
  | c :: cs => sn_cons (sn_all c) (sns_all cs)
end
end
end MP

/-! MP2, part w: defs. -/
namespace MP
open PySem PySem.Spec PyProof.Rows L2
mutual
theorem T.old_mono {m n : Nat} (hm : m ≤ n) : ∀ t : T, t.old m = true → t.old n = true
  | .d _, _ => by unfold T.old; rfl
  | .ref k, h => by
    unfold T.old at h ⊢
    have := of_decide_eq_true h
    exact decide_eq_true (by omega)
  | .tup ts, h => by unfold T.old at h ⊢; exact olds_mono hm ts h
  | .lst ts, h => by unfold T.old at h ⊢; exact olds_mono hm ts h
  | .dct ks ts, h => by unfold T.old at h ⊢; exact olds_mono hm ts h
theorem olds_mono {m n : Nat} (hm : m ≤ n) : ∀ ts : List T, olds m ts = true → olds n ts = true
  | [], _ => by unfold olds; rfl
  | t :: ts, h => by
    unfold olds at h ⊢
    rw [Bool.and_eq_true] at h ⊢
    exact ⟨T.old_mono hm t h.1, olds_mono hm ts h.2⟩
end
section
variable {tt : List (Addr × Str)} {F F' : FS} {ρ ρ' : List Addr} {K : Fg} {H H' : Hp} {st st' : Store} {cl : Bs}
theorem Stp.take (s : Stp F ρ H F' ρ' H') : ρ'.take ρ.length = ρ := by
  obtain ⟨t, e⟩ := s.p
  rw [← e, List.take_left']
  rfl
theorem Stp.pop (s : Stp F ρ H F' ρ' H') : Stp F ρ H F' ρ H' := ⟨s.f, s.h, List.prefix_refl _, s.u, s.k⟩
mutual
/-- what holds no new cell is read with the old cells alone -/
theorem TR.less (e : ρ'.take ρ.length = ρ) : ∀ (t : T) (v : V), t.old ρ.length = true → TR F ρ' K H t v → TR F ρ K H t v
  | .d x, v, _, h => by unfold TR at h ⊢; exact h
  | .ref n, v, o, h => by
    unfold TR at h ⊢
    unfold T.old at o
    obtain ⟨a, h1, h2⟩ := h
    refine ⟨a, ?_, h2⟩
    rw [← e, List.getElem?_take_of_lt (of_decide_eq_true o)]
    exact h1
  | .tup ts, v, o, h => by
    unfold TR at h ⊢
    unfold T.old at o
    obtain ⟨a, vs, h1, h2, h3, h4⟩ := h
    exact ⟨a, vs, h1, h2, h3, TRs.less e ts vs o h4⟩
  | .lst ts, v, o, h => by
    unfold TR at h ⊢
    unfold T.old at o
    obtain ⟨a, vs, h1, h2, h3, h4⟩ := h
    exact ⟨a, vs, h1, h2, h3, TRs.less e ts vs o h4⟩
  | .dct ks ts, v, o, h => by
    unfold TR at h ⊢
    unfold T.old at o
    obtain ⟨a, vs, h1, h2, h3, h4, h5, h6⟩ := h
    exact ⟨a, vs, h1, h2, h3, h4, h5, TRs.less e ts vs o h6⟩
theorem TRs.less (e : ρ'.take ρ.length = ρ) : ∀ (ts : List T) (vs : List V), olds ρ.length ts = true → TRs F ρ' K H ts vs → TRs F ρ K H ts vs
  | [], vs, _, h => by unfold TRs at h ⊢; exact h
  | t :: ts, vs, o, h => by
    unfold TRs at h ⊢
    unfold olds at o
    rw [Bool.and_eq_true] at o
    obtain ⟨v, r, h1, h2, h3⟩ := h
    exact ⟨v, r, h1, TR.less e t v o.1 h2, TRs.less e ts r o.2 h3⟩
end
theorem SR.pop (s : Stp F ρ H F' ρ' H') (q : SR tt F' ρ' K st' H') : SR tt F' ρ K (st'.take ρ.length) H' := by
  have e := s.take
  have hsub : ∀ a ∈ ρ, a ∈ ρ' := fun a ha => s.p.subset ha
  have hl : ρ.length ≤ ρ'.length := s.p.length_le
  refine ⟨?_, q.nd.sublist s.p.sublist, fun a ha => q.nf a (hsub a ha), q.fd, q.uf, fun a ha => q.un a (hsub a ha), q.ud, fun i c a e1 e2 => ?_, fun i c e1 => ?_, q.tb⟩
  · rw [List.length_take, ← q.len]
    omega
  · have hi : i < ρ.length := (List.getElem?_eq_some_iff.mp e2).1
    rw [List.getElem?_take_of_lt hi] at e1
    have ho := q.old i c e1
    have cc := q.cells i c a e1 (s.get e2)
    cases c with
    | lst ts =>
      obtain ⟨vs, k1, k2, k3⟩ := cc
      exact ⟨vs, k1, k2, TRs.less e ts vs (olds_mono (Nat.le_of_lt hi) ts ho) k3⟩
    | dct ks ts =>
      obtain ⟨vs, k1, k2, k3, k4⟩ := cc
      exact ⟨vs, k1, k2, k3, TRs.less e ts vs (olds_mono (Nat.le_of_lt hi) ts ho) k4⟩
    | dead => exact cc
  · by_cases hi : i < ρ.length
    · rw [List.getElem?_take_of_lt hi] at e1
      exact q.old i c e1
    · rw [List.getElem?_eq_none (by rw [List.length_take]; omega)] at e1
      cases e1
theorem notIn_old (s : Stp F ρ H F' ρ' H') (nd : ρ'.Nodup) {n : Nat} {a : Addr} (h1 : ρ'[n]? = some a) (hn : ¬ n < ρ.length) : a ∉ ρ := fun z => hn (by
  obtain ⟨i, hi, ei⟩ := List.mem_iff_getElem.mp z
  have e2 : ρ'[i]? = some a := s.get (by rw [List.getElem?_eq_getElem hi, ei])
  obtain ⟨l1, w1⟩ := List.getElem?_eq_some_iff.mp h1
  obtain ⟨l2, w2⟩ := List.getElem?_eq_some_iff.mp e2
  have := (List.getElem_inj nd).mp (w1.trans w2.symm)
  omega)
/-- a def's value leaves it -/
theorem rv_leave (s : Stp F ρ H F' ρ' H') (q : SR tt F' ρ' K st' H') {v : RV} {r : RV} {st2 : Store} {u : V} (e : leave ρ.length st' v = .ok r st2) (h : RVR F' ρ' K H' v u) :
    ∃ ρ2, Stp F ρ H F' ρ2 H' ∧ SR tt F' ρ2 K st2 H' ∧ RVR F' ρ2 K H' r u := by
  have tk := s.take
  cases v with
  | new xs =>
    simp only [leave] at e
    split at e
    · rename_i ho
      cases e
      obtain ⟨a, vs, h1, h2, h3, h4, h5, h6⟩ := h
      exact ⟨ρ, s.pop, q.pop s, a, vs, h1, h2, fun z => h3 (s.p.subset z), h4, h5, TRs.less tk _ _ ho h6⟩
    · cases e
      exact ⟨ρ', s, q, h⟩
  | newD ks xs =>
    simp only [leave] at e
    split at e
    · rename_i ho
      cases e
      obtain ⟨a, vs, h1, h2, h3, h4, h5, h6, h7⟩ := h
      exact ⟨ρ, s.pop, q.pop s, a, vs, h1, h2, fun z => h3 (s.p.subset z), h4, h5, h6, TRs.less tk _ _ ho h7⟩
    · cases e
      exact ⟨ρ', s, q, h⟩
  | t x =>
    simp only [leave] at e
    split at e
    · rename_i ho
      cases e
      exact ⟨ρ, s.pop, q.pop s, TR.less tk _ _ ho h⟩
    · rename_i ho
      split at e
      · rename_i n
        have hn : ¬ n < ρ.length := fun z => ho (by unfold T.old; exact decide_eq_true z)
        have h' : TR F' ρ' K H' (.ref n) u := h
        unfold TR at h'
        obtain ⟨a, h1, rfl⟩ := h'
        have ha : a ∈ ρ' := List.mem_of_getElem? h1
        split at e
        · rename_i xs hc
          obtain ⟨vs, q1, q2, q3⟩ := q.cells n _ a hc h1
          split at e
          · rename_i ho2
            cases e
            exact ⟨ρ, s.pop, q.pop s, a, vs, rfl, ⟨q.nf a ha, q.un a ha⟩, notIn_old s q.nd h1 hn, q1, q2, TRs.less tk _ _ ho2 q3⟩
          · cases e
            exact ⟨ρ', s, q, h⟩
        · rename_i ks xs hc
          obtain ⟨vs, q1, q2, q3, q4⟩ := q.cells n _ a hc h1
          split at e
          · rename_i ho2
            cases e
            exact ⟨ρ, s.pop, q.pop s, a, vs, rfl, ⟨q.nf a ha, q.un a ha⟩, notIn_old s q.nd h1 hn, q1, q2, q3, TRs.less tk _ _ ho2 q4⟩
          · cases e
            exact ⟨ρ', s, q, h⟩
        · cases e
      · cases e
        exact ⟨ρ', s, q, h⟩
theorem leave_ok {n0 : Nat} {v : RV} : (∃ r st2, leave n0 st v = .ok r st2) ∨ leave n0 st v = .stuck := by
  cases v with
  | new xs =>
    simp only [leave]
    split <;> exact .inl ⟨_, _, rfl⟩
  | newD ks xs =>
    simp only [leave]
    split <;> exact .inl ⟨_, _, rfl⟩
  | t x =>
    simp only [leave]
    split
    · exact .inl ⟨_, _, rfl⟩
    · split
      · split
        · split <;> exact .inl ⟨_, _, rfl⟩
        · split <;> exact .inl ⟨_, _, rfl⟩
        · exact .inr rfl
      · exact .inl ⟨_, _, rfl⟩
/-- from what a call wants to what the body wants -/
theorem fin_post {E : XK} {Q : VK} {r : RS} {n0 : Nat} (hn : ρ.length = n0) (h : Post (RV_ K) cl (fun c d _ H => E c d H) [] F ρ K H (finish n0 r) Q) :
    PostS K cl (fun c d _ H => E c d H) F ρ H r { nx := fun _ H' => Q .non H', rt := Q } := by
  subst hn
  cases r with
  | stuck => exact h
  | exc c x env st =>
    simp only [finish] at h
    intro F' ρ' H' σ' w d s q e r1 hd
    split at h
    · rename_i ho
      exact h F' ρ H' w d s.pop (q.pop s) (TR.less s.take _ _ ho r1) hd
    · exact h F' ρ' H' w d s q r1 hd
  | ok fl env st =>
    cases fl with
    | next =>
      intro F' ρ' H' σ' s q e
      exact h F' ρ H' .non s.pop (q.pop s) (by show TR F' ρ K H' (.d .none) .non; unfold TR RD; rfl)
    | brk => exact h.elim
    | cont => exact h.elim
    | ret v =>
      intro F' ρ' H' σ' s q e u r1
      simp only [finish] at h
      rcases leave_ok (st := st) (n0 := ρ.length) (v := v) with ⟨r2, st2, hv⟩ | hv
      · rw [hv] at h
        obtain ⟨ρ2, t1, t2, t3⟩ := rv_leave s q hv r1
        exact h F' ρ2 H' u t1 t2 t3
      · rw [hv] at h
        exact h.elim
theorem er_start {N : List Str} {d : Def} {args : List T} {vs : List V} (hn : N.length = d.n) (h : TRs F ρ K H args vs) : ER F ρ K H (startE d args) (L2.start N vs) := by
  have hl := h.length
  refine ⟨?_, fun i t e => ?_⟩
  · unfold startE L2.start
    simp only [List.length_append, List.length_map, List.length_replicate]
    omega
  · have hi : i < args.length := by
      by_cases hi : i < args.length
      · exact hi
      · unfold startE at e
        rw [List.getElem?_append_right (by simpa using hi), List.getElem?_replicate] at e
        split at e <;> cases e
    have ea : args[i]? = some t := by
      unfold startE at e
      rw [List.getElem?_append_left (by simpa using hi), List.getElem?_map] at e
      cases q : args[i]? with
      | none => rw [q] at e; cases e
      | some z => rw [q] at e; cases e; rfl
    obtain ⟨v, q1, q2⟩ := h.get ea
    refine ⟨v, ?_, q2⟩
    unfold L2.start
    rw [List.getElem?_append_left (by simpa [← hl] using hi), List.getElem?_map, q1]
    rfl
end
/-! ### a def by its body, the guards known -/
theorem fnG {P : Program} {w : World} {K : Fg} {mg : Str → Option Value} {base : Heap} {k : Nat} {f : Addr} {name qual : Str} {params : Arguments} {body : List Stmt} {scope : Scope} {dV kV doc pm cdv ct oc : Value} {an od : Option Addr}
    {osl : Array (Option Value)} {N ps : List Str} {sp : Sp} (lk : K.lookup f = some ⟨oc, od, .func (PySem.W.fnOf name qual params body scope dV kV doc pm an cdv ct), osl⟩) (hcd : PySem.W.codeIn K cdv qual = true) (S : FnScope N ps scope)
    (len : ∀ vs H Q E, sp vs H Q E → vs.length = ps.length)
    (hbody : ∀ (A : Around) (outer : List PySem.Env) (s : Shared) (H : Hp) (vs : List V) (Q : VK) (E : XK), A.guards = some [] → Room k (A.deeper (envOfC qual scope s.heap.objs.size f cdv)) → sp vs H Q E →
      ∃ t, PSs (cxOf (L2.CX P w) P w K mg base N qual scope f cdv A outer s H E) body t ∧ t { nx := fun _ H' => Q .non H', rt := Q } (L2.start N vs) H) :
    FnG P w K mg base (k + 1) f (PySem.W.fnOf name qual params body scope dV kV doc pm an cdv ct) ps sp where
  len := len
  run := by
    intro A outer s H args us vs Q E room hgu e0 hbi hvs hsp
    have up : ∀ b o, base.get? b = some o → s.heap.get? b = some o := fun b o e => (e0.bs b o e).1
    have kin : K.In s.heap := e0.mod.kin.keeps up
    have kinds : ∀ y ∈ ps.zip us, scope.names.lookup y.1 = some .local ∨ (scope.names.lookup y.1 = some .cell ∧ ((cellsFrom (s.heap.objs.size + 1) scope.names []).lookup y.1).isSome = true) := by
      rintro ⟨n, v⟩ hy
      exact (S.par n (List.of_mem_zip hy).1).imp id fun q => ⟨q, PySem.W.cellsFrom_some _ _ _ (.inl q)⟩
    refine codeAny_call_function room.depth (kin _ _ lk) rfl S.co S.gen rfl (PySem.W.codeRec_of kin hcd) (hbi _ _ _ _ (wpAny_newFunctionEnv_cells S.kind kinds fun env he s1 x => ?_))
    subst he
    refine ⟨(e0.mod.nolimit.keeps up).keeps x.toInCall.keep, codeAny_func ?_⟩
    obtain ⟨t, ht, hq⟩ := hbody A outer s H vs Q E hgu (room.deeper _) hsp
    refine wpAny_mono (ht.run [] s1 (L2.start N vs) H _ (inv_start S room.hd e0 (len _ _ _ _ hsp) hvs x) hq) (fun fl s' hs => ?_) fun e s' hs => hs
    cases fl with
    | brk => exact hs.elim fun _ ⟨_, _, z⟩ => False.elim z
    | cont => exact hs.elim fun _ ⟨_, _, z⟩ => False.elim z
    | next =>
      obtain ⟨σ', H', J, q⟩ := hs
      exact ⟨.non, H', J.os, J.bare, J.base, J.hok, rfl, q⟩
    | ret u =>
      obtain ⟨v, σ', H', J, rv, q⟩ := hs
      exact ⟨v, H', J.os, J.bare, J.base, J.hok, rv, q⟩
end MP

/-! MP2, part x: the defs of a table keep their promise. -/
namespace MP
open PySem PySem.Spec PyProof.Rows L2
/-- what is known of the module -/
structure MdOk (P : Program) (K : Fg) (mg : Str → Option Value) (cl : Bs) (G : Gb) : Prop where
  smod : SysM K
  free : ∀ x ∈ G.free, mg x = none
  nums : ∀ p ∈ G.nums, ∃ t, mg p.1 = some (.int p.2 t)
  tups : ∀ p ∈ G.tups, ∃ a, mg p.1 = some (.ref a) ∧ KTup K a p.2
  excs : ∀ (c : Nat) (x : Str), G.cls[c]? = some x → ∃ (C D fI : Addr) (fd : FuncData), mg x = some (.ref C) ∧ cl.cl c = .ref C ∧ NX.StayC P K C D fI ∧ NX.IniK P K D fI fd
  exm : ∀ (c c' : Nat) (x x' : Str), G.cls[c]? = some x → G.cls[c']? = some x' → PySem.W.exmOne K (cl.cl c) (cl.cl c') = some (subC c c')
  cats : ∀ q ∈ G.cats, CatAt K mg G q
/-- how a lambda of a def is named -/
def lamQ (qual : Str) : Str := (envOfC qual default 0 0 .none).qual ++ "<lambda>"
/-- a def of the table stands in the module; cs: code objects with their tables -/
def DefAt (K : Fg) (mg : Str → Option Value) (cs : List (Addr × Addr)) (cl : Bs) (G : Gb) (f : Nat) (x : Str) (d : Def) : Prop :=
  ∃ (fa : Addr) (name qual : Str) (params : Arguments) (body : List Stmt) (scope : Scope) (dV kV doc pm cdv ct oc : Value) (an od : Option Addr) (osl : Array (Option Value)) (N ps : List Str) (lm : Bool),
    mg x = some (.ref fa) ∧ PySem.W.keepIn K (.ref fa) = true ∧ K.lookup fa = some ⟨oc, od, .func (PySem.W.fnOf name qual params body scope dV kV doc pm an cdv ct), osl⟩ ∧ PySem.W.codeIn K cdv qual = true ∧ FnScope N ps scope ∧
      ps.length = d.np ∧ N.length = d.n ∧ okSs { G with lm := lm } N scope (fun _ => true) d.body body = true ∧ Binds K (PySem.W.fnOf name qual params body scope dV kV doc pm an cdv ct) ps [] ∧
      (∀ ks pmu, (f, ks, pmu) ∈ G.kws → ∀ (s : Shared) (us : List Value), K.In s.heap → us.length = ks.length → ∃ zs, pick us pmu = some zs ∧ BindsTo s (PySem.W.fnOf name qual params body scope dV kV doc pm an cdv ct) ⟨[], ks.zip us⟩ (ps.zip zs)) ∧
      (lm = true → ∃ c P, (c, P) ∈ cs ∧ cdv = .ref c ∧ (P, lamQ qual) ∈ cl.tt ∧ ∀ p ∈ cl.tt, p.1 = P → p.2 = lamQ qual)
theorem fns_ok {P : Program} {w : World} {K : Fg} {mg : Str → Option Value} {base : Heap} {G : Gb} {cl : Bs} {cs : List (Addr × Addr)} {tbl : List Def} {wf : Nat} (m : MdOk P K mg cl G) (TB : ∀ p ∈ cs, LamX.TabB base mg p.1 p.2)
    (hd : ∀ (f : Nat) (x : Str), G.fns[f]? = some x → ∃ d, tbl[f]? = some d ∧ DefAt K mg cs cl G f x d) : ∀ (n f : Nat) (x : Str), G.fns[f]? = some x →
      ∃ (fa : Addr) (fd : FuncData) (ps : List Str), mg x = some (.ref fa) ∧ PySem.W.keepIn K (.ref fa) = true ∧ FnG P w K mg base (3 * n) fa fd ps (spF K cl (callN tbl wf n) f) ∧ Binds K fd ps [] ∧
        ∀ ks pm, (f, ks, pm) ∈ G.kws → ∀ (s : Shared) (us : List Value), K.In s.heap → us.length = ks.length → ∃ zs, pick us pm = some zs ∧ BindsTo s fd ⟨[], ks.zip us⟩ (ps.zip zs)
  | 0, f, x, hx => by
    obtain ⟨d, _, fa, name, qual, params, body, scope, dV, kV, doc, pm, cdv, ct, oc, an, od, osl, N, ps, lm, h1, h2, h3, h4, h5, h6, h7, h8, h9, h10, h11⟩ := hd f x hx
    refine ⟨fa, _, ps, h1, h2, ⟨?_, ?_⟩, h9, h10⟩
    · rintro vs H Q E ⟨F, ρ, st, args, _, _, p⟩
      exact p.elim
    · rintro A outer s H args us vs Q E _ _ _ _ _ ⟨F, ρ, st, as, _, _, p⟩
      exact p.elim
  | n + 1, f, x, hx => by
    obtain ⟨d, hf, fa, name, qual, params, body, scope, dV, kV, doc, pm, cdv, ct, oc, an, od, osl, N, ps, lm, h1, h2, h3, h4, h5, h6, h7, h8, h9, h10, h11⟩ := hd f x hx
    refine ⟨fa, _, ps, h1, h2, fnG (k := 3 * n + 2) h3 h4 h5 ?_ ?_, h9, h10⟩
    · rintro vs H Q E ⟨F, ρ, st, args, _, ht, p⟩
      simp only [callN, hf] at p
      split at p
      · rename_i hl
        rw [← ht.length, hl, h6]
      · exact p.elim
    · rintro A outer s H vs Q E hg room ⟨F, ρ, st, args, hS, ht, p⟩
      simp only [callN, hf] at p
      split at p
      · refine ⟨_, (sns_all d.body).s (cl := cl) (W := fun c d _ H => E c d H) (cf := callN tbl wf n) (lv := 3 * n) (wf := wf) (G := { G with lm := lm }) ⟨⟨rfl, rfl, h5.nd, rfl, hg, room.units, m.smod, fun _ _ => rfl, m.free, m.nums, m.tups, fun f' x' hx' => ?_, room.mono (by omega), m.excs, m.exm, m.cats, fun hl => ⟨room, ?_⟩, takes_of rfl rfl rfl rfl⟩, passes_of rfl⟩ h5.kind body h8, ?_⟩
        · exact fns_ok (P := P) (w := w) (base := base) (cl := cl) (wf := wf) m TB hd n f' x' hx'
        · obtain ⟨c, Pt, k1, k2, k3, k4⟩ := h11 hl
          exact ⟨c, Pt, TB _ k1, k2, k3, k4⟩
        · exact ⟨F, ρ, startE d args, st, hS, er_start h7 ht, fin_post hS.len p⟩
      · exact p.elim
end MP

/-! MP2, part y: the law's call. -/
namespace MP
open PySem PySem.Spec PyProof.Rows L2
abbrev lstO (vs : List Value) : Obj := { cls := .type "list", data := .seq vs.toArray }
abbrev tabO (ps : Array Value) : Obj := { cls := .none, data := .fields ps }
/-- the script and the tables, alone -/
def H0 (a : Addr) (vs : List Value) (ns : List Int) (ts : List Addr) : Hp := fun b => if b = a then some (.frz (lstO vs) (.lst (ns.map V.int))) else if b ∈ ts then some (.tbl #[]) else none
section
variable {a : Addr} {vs : List Value} {ns : List Int} {ts : List Addr}
theorem H0_a : H0 a vs ns ts a = some (.frz (lstO vs) (.lst (ns.map V.int))) := if_pos rfl
theorem H0_t {b : Addr} (h : b ≠ a) (hb : b ∈ ts) : H0 a vs ns ts b = some (.tbl #[]) := (if_neg h).trans (if_pos hb)
theorem H0_n {b : Addr} (h : b ≠ a) (hb : b ∉ ts) : H0 a vs ns ts b = none := (if_neg h).trans (if_neg hb)
end
theorem law_callM {P : Program} {w : World} {K : Fg} {mg mb : Str → Option Value} {k : Nat} {fa a : Addr} {sp : Sp} {s₁ : Shared} {vs : List Value} {ns : List Int} {cs : List (Addr × Addr)}
    (kin : K.In s₁.heap) (hka : K.lookup a = none) (hns : s₁.heap.Ns mainGlobals mg) (hb : s₁.heap.Ns builtinsNs mb) (hbb : ∀ x : Str, x ≠ "__name__" → mb x = bootBuiltins x) (hlim : s₁.heap.NoLimit) (hg : s₁.gens = #[])
    (hT : ∀ p ∈ cs, s₁.heap.get? p.2 = some (tabO #[])) (nT : ∀ p ∈ cs, K.lookup p.2 = none) (hC : ∀ p ∈ cs, PySem.W.codeHdIn K p.1 p.2 = true)
    (hbm : ∃ (bm : Addr) (ob : Obj), mg "__builtins__" = some (.ref bm) ∧ bm ≠ builtinsNs ∧ s₁.heap.get? bm = some ob ∧ ob.cls = .type "module" ∧ ob.dict = some builtinsNs ∧ ob.data = .plain)
    (ha : s₁.heap.get? a = some (lstO vs)) (hi : IntsAre vs ns) (hl : ns.length ≤ sizeLine) (hr : Room k callerA)
    (hF : ∀ base : Heap, (∀ p ∈ cs, LamX.TabB base mg p.1 p.2) → ∃ fd ps, FnG P w K mg base k fa fd ps sp ∧ Binds K fd ps [])
    (hsp : sp [.ref a] (H0 a vs ns (cs.map (·.2))) (fun v _ => v = .bl true) fun _ _ _ => False) :
    codeAny (model P w) callerA (.call (.ref fa) ⟨[.ref a], []⟩) (fun r s' => r = .ok (.ret (.bool true)) ∧ OldK s₁.heap s'.heap ∧ s'.os = s₁.os ∧ AllBare s'.gens) s₁ := by
  obtain ⟨H, eH⟩ : ∃ H, H = H0 a vs ns (cs.map (·.2)) := ⟨_, rfl⟩
  rw [← eH] at hsp
  have tabs : ∀ b ∈ cs.map (·.2), s₁.heap.get? b = some (tabO #[]) ∧ K.lookup b = none := fun b h => by
    obtain ⟨p, hp, rfl⟩ := List.mem_map.mp h
    exact ⟨hT p hp, nT p hp⟩
  have apart : ∀ b ∈ cs.map (·.2), b ≠ a := fun b h z => by
    have q := (tabs b h).1
    rw [z, ha] at q
    cases q
  have at_a : H a = some (.frz (lstO vs) (.lst (ns.map V.int))) := by rw [eH]; exact H0_a
  have at_t : ∀ b ∈ cs.map (·.2), H b = some (.tbl #[]) := fun b h => by rw [eH]; exact H0_t (apart b h) h
  -- an object that is neither a list nor an empty table is not tracked
  have off : ∀ {b : Addr} {o : Obj}, s₁.heap.get? b = some o → o ≠ lstO vs → o ≠ tabO #[] → H b = none := fun {b o} e n1 n2 => by
    rw [eH]
    refine H0_n (fun z => ?_) fun z => ?_
    · rw [z, ha] at e
      exact n1 (Option.some.inj e).symm
    · rw [(tabs b z).1] at e
      exact n2 (Option.some.inj e).symm
  have offK : ∀ {b : Addr} {o : Obj}, K.lookup b = some o → H b = none := fun {b o} e => by
    rw [eH]
    refine H0_n (fun z => ?_) fun z => ?_
    · rw [z, hka] at e; cases e
    · rw [(tabs b z).2] at e; cases e
  have hok : HOk P w H s₁.heap := fun b u z => by
    rw [eH] at z
    by_cases e : b = a
    · subst e
      rw [H0_a] at z
      cases z
      exact ⟨ha, by rw [List.length_map]; exact hl, vs, _, vals_ints hi, ha⟩
    · by_cases hb : b ∈ cs.map (·.2)
      · rw [H0_t e hb] at z
        cases z
        exact (tabs b hb).1
      · rw [H0_n e hb] at z
        cases z
  have dicts : ∀ {b : Addr} {o : Obj} {es : Array DictEntry} {ep : Nat}, s₁.heap.get? b = some o → o.data = .dict es ep → H b = none := fun e d => off e (fun z => by subst z; cases d) fun z => by subst z; cases d
  have names : ∀ {b : Addr} {m : Str → Option Value}, s₁.heap.Ns b m → (hidT s₁.heap H).Ns b m := fun ⟨o, es, ep, e, d, r⟩ => ⟨o, es, ep, hidT_get e (dicts e d), d, r⟩
  have kbase : K.In (hidT s₁.heap H) := fun b o e => hidT_get (kin b o e) (offK e)
  have hM : Mod K mg (hidT s₁.heap H) := ⟨kbase, names hns, ⟨mb, names hb, hbb⟩, let ⟨mc, h1, h2⟩ := hlim; ⟨mc, names h1, h2⟩⟩
  have TB : ∀ p ∈ cs, LamX.TabB (hidT s₁.heap H) mg p.1 p.2 := fun p hp => by
    obtain ⟨bm, ob, b1, b2, b3, b4, b5, b6⟩ := hbm
    have n1 : bm ≠ mainGlobals := fun z => by
      obtain ⟨o, es, ep, e, d, _⟩ := hns
      rw [z, e] at b3
      cases b3
      rw [d] at b6
      cases b6
    have n2 : bm ≠ p.2 := fun z => by
      rw [z, hT p hp] at b3
      cases b3
      cases b6
    have nG : mainGlobals ≠ p.2 := fun z => by
      obtain ⟨o, es, ep, e, d, _⟩ := hns
      rw [z, hT p hp] at e
      cases e
      cases d
    have b7 : (hidT s₁.heap H).get? bm = some ob := hidT_get b3 (off b3 (fun z => by subst z; cases b6) fun z => by subst z; cases b6)
    exact NdefX.tabB_of_K kbase (hC p hp) ⟨bm, ob, b1, b2, n1, n2, b7, b4, b5, b6⟩ nG
  have e0 : Env0 P w K mg (hidT s₁.heap H) callerA [] s₁ H := ⟨rfl, hM, fun b o e => of_hidT e, Nat.le_of_eq (hidT_size _ _), trivial, fun b z => absurd (show b ∈ ([] : List Addr) from z) (by simp), hok, .of_eq hg⟩
  obtain ⟨fd, ps, F, hbind⟩ := hF _ TB
  refine codeAny_mono (F.run callerA [] s₁ H ⟨[.ref a], []⟩ [.ref a] [.ref a] _ _ hr rfl e0 (hbind s₁ [.ref a] kin (F.len _ _ _ _ hsp)) (.cons rfl .nil) hsp) fun r s' h => ?_
  match r, h with
  | .error e, h =>
    obtain ⟨_, _, _, _, _, _, _, _, _, _, _, _, z⟩ := h
    exact z.elim
  | .ok .next, h => exact False.elim h
  | .ok .brk, h => exact False.elim h
  | .ok .cont, h => exact False.elim h
  | .ok (.ret u), h =>
    obtain ⟨v, H', os, bare, un, hok', r', q⟩ := h
    cases (show v = .bl true from q)
    obtain rfl : u = Value.bool true := r'
    -- the tables have grown, all else is as it was
    have same : ∀ b o, b ∉ cs.map (·.2) → s₁.heap.get? b = some o → s'.heap.get? b = some o := fun b o nb e => by
      by_cases hba : b = a
      · subst hba
        obtain ⟨e1, _⟩ := hok b _ at_a
        obtain ⟨e2, _⟩ := hok' b _ (un.frzs b _ _ at_a)
        rw [e] at e1
        cases e1
        exact e2
      · exact un.keep b o e (by rw [eH]; exact H0_n hba nb) (by intro z; exact absurd (show b ∈ ([] : List Addr) from z) (by simp)) (by simp)
    have more : ∀ p ∈ cs, ∃ ps, s'.heap.get? p.2 = some (tabO ps) := fun p hp => by
      obtain ⟨ps, z⟩ := un.tbls p.2 #[] (at_t _ (List.mem_map_of_mem hp))
      exact ⟨_, hok' p.2 _ z⟩
    refine ⟨rfl, ⟨fun b o e => ?_, fun b o e => ?_⟩, os, bare⟩
    · by_cases hb : b ∈ cs.map (·.2)
      · obtain ⟨p, hp, rfl⟩ := List.mem_map.mp hb
        obtain ⟨ps, z⟩ := more p hp
        rw [hT p hp] at e
        cases e
        exact .inr (.inl ⟨((PySem.W.codeHd_of_K kin (hC p hp)).tab (hT p hp)).isCodeTable, rfl, #[], ps, rfl, by rw [Array.empty_append]; exact z⟩)
      · exact .inl (same b o hb e)
    · by_cases hb : b ∈ cs.map (·.2)
      · obtain ⟨p, hp, rfl⟩ := List.mem_map.mp hb
        obtain ⟨ps, z⟩ := more p hp
        exact ⟨_, z⟩
      · exact ⟨o, same b o hb e⟩
end MP

/-! MP2, part z: what is read of the module's head. -/
namespace MP
open PySem PySem.Spec PyProof.Rows L2 He
/-! ### the classes -/
def noLst (K : Fg) : Bool := K.all fun p => !isLstO p.2
theorem noLst_ok {K : Fg} {h : Heap} {a : Addr} {vs : List Value} (hn : noLst K = true) (X : K.In h) (ha : h.get? a = some (lstO vs)) : K.lookup a = none := by
  cases e : K.lookup a with
  | none => rfl
  | some o =>
    have e1 := X a o e
    rw [ha] at e1
    have e2 := List.all_eq_true.mp hn _ (He.lookup_mem e)
    cases e1
    cases e2
def oexB (K : Fg) (C : Addr) : Bool := match K.lookup C with
  | some ⟨.type t, _, .cls ⟨_, _, .ref C' :: bm, _, _, true, _, _, _, _, false⟩, ⟨[_, _, _, _, some (.builtin n), _]⟩⟩ => decide (t = "type") && (decide (C' = C) && (PySem.HandSPX.refsVE bm && decide (n = "ValueError.__new__")))
  | _ => false
def stayB (K : Fg) (C D fI : Addr) : Bool := oexB K C && (decide (PySem.W.findIn K (.ref C) "__setattr__" = some (some (.builtin "object.__setattr__"))) && (decide (PySem.W.subIn K (.ref C) (.type "BaseException") = some true) && (decide (PySem.W.typeIn K (.ref C) = some (.type "type")) && (PySem.W.keepIn K (.ref C) &&
  (decide (PySem.W.findIn K (.ref C) "__init__" = some (some (.ref fI))) && (decide (PySem.W.typeIn K (.ref fI) = some (.type "function")) && (decide (PySem.W.ks_superIn K C D "__init__" = some (some (.builtin "ValueError.__init__"))) && (decide (PySem.W.subIn K (.ref C) (.type "ValueError") = some true) &&
  (decide (PySem.W.mroIn K C (.ref D) = some true) && (decide (PySem.W.nsIn K cStatics "thirdparty.any" = some none) && (decide (PySem.W.findIn K (.ref C) "value" = some none) && xfB K C)))))))))))
theorem stayB_ok {P : Program} {K : Fg} {C D fI : Addr} (h : stayB K C D fI = true) : NX.StayC P K C D fI := by
  unfold stayB at h
  simp only [Bool.and_eq_true, decide_eq_true_eq] at h
  obtain ⟨h1, h2, h3, h4, h5, h6, h7, h8, h9, h10, h11, h12, h13⟩ := h
  refine ⟨⟨?_, h2, h3, h4, h5⟩, h6, h7, h8, h9, h10, h11, h12, xfB_ok h13⟩
  unfold oexB at h1
  split at h1
  · rename_i t dd nm bs C' bm ns q sn sub ab col k0 k1 k2 k3 n k5 hK
    simp only [Bool.and_eq_true, decide_eq_true_eq] at h1
    obtain ⟨rfl, rfl, z, rfl⟩ := h1
    exact ⟨nm, q, ns, bs, bm, sn, sub, ab, col, dd, k0, k1, k2, k3, k5, hK, z⟩
  · cases h1
/-! ### the errors' __init__ -/
abbrev IniV : Type := Option (Str × Str × Arguments × FuncBody × Scope × Addr × Addr)
def iniW (K : Fg) (fI : Addr) : IniV := match K.lookup fI with
  | some ⟨_, _, .func fd, _⟩ => some (fd.name, fd.qualname, fd.params, fd.body, fd.scope, fd.globals, fd.builtins)
  | _ => none
def cellB (K : Fg) (D : Addr) : List (Str × Addr) → Bool
  | [(x, cc)] => decide (x = ("__class__" : Str)) && (match K.lookup cc with
    | some ⟨_, _, .cell (some (.ref D')), _⟩ => decide (D' = D)
    | _ => false)
  | _ => false
def fileB (P : Program) (K : Fg) (q : Str) : Value → Bool
  | .ref cda => PySem.W.codeIn K (.ref cda) q && (match K.lookup cda with
    | some ⟨_, _, .fields vs, _⟩ => (match (vs[2]? : Option Value) with
      | some (Value.str file _) => (P.main.file : Str) == file
      | _ => false)
    | _ => false)
  | _ => false
def isNoneV : Value → Bool
  | .none => true
  | _ => false
def iniB (P : Program) (K : Fg) (fI D : Addr) : Bool := match K.lookup fI with
  | some ⟨_, _, .func fd, _⟩ => cellB K D fd.closure && (fileB P K fd.qualname fd.code && (isNoneV fd.defaults && (PySem.W.clsIn K D).isSome))
  | _ => false
/-- its text -/
def iniT : List Stmt → Bool
  | [.Expr (.Call (.Attribute (.Call (.Name s _) [] [] _) i p3) [.Constant (.str _) _ _] [] p5) _, .Assign [.Attribute (.Name f _) v _] (.Name v' _) _] =>
    decide (s = "super") && (decide (i = "__init__") && (decide (f = "self") && (decide (v = "value") && (decide (v' = "value") && (p3.endLine == p5.line)))))
  | _ => false
def iniS (sc : Scope) : Bool := !sc.isCoroutine && (!sc.isGenerator && (decide (sc.kind = .function) && ((sc.names.all fun x => !decide (x.2 = .cell)) && (decide (sc.names.lookup ("super" : Str) = some .globalImplicit) && (decide (sc.names.lookup ("__class__" : Str) = some .free) &&
  (decide (sc.names.lookup ("self" : Str) = some .local) && decide (sc.names.lookup ("value" : Str) = some .local)))))))
def iniP (P : Program) (params : Arguments) : Bool := decide ((params.posonlyargs ++ params.args).head?.map (·.arg) = some "self") && !(P.main.scope.names.lookup ("super" : Str)).isSome
theorem iniS_ok {sc : Scope} (h : iniS sc = true) : NX.IniS sc := by
  unfold iniS at h
  simp only [Bool.and_eq_true, Bool.not_eq_true', decide_eq_true_eq, List.all_eq_true, decide_eq_false_iff_not] at h
  obtain ⟨h1, h2, h3, h4, h5, h6, h7, h8⟩ := h
  exact ⟨h1, h2, h3, h4, h5, h6, h7, h8⟩
theorem cellB_ok {K : Fg} {D : Addr} {l : List (Str × Addr)} (h : cellB K D l = true) : ∃ cc, l = [(("__class__" : Str), cc)] ∧ ∃ cl cld csl, K.lookup cc = some ⟨cl, cld, .cell (some (.ref D)), csl⟩ := by
  unfold cellB at h
  split at h
  · simp only [Bool.and_eq_true, decide_eq_true_eq] at h
    obtain ⟨rfl, h⟩ := h
    split at h
    · rename_i hcc
      cases (of_decide_eq_true h)
      exact ⟨_, rfl, _, _, _, hcc⟩
    · cases h
  · cases h
theorem fileB_ok {P : Program} {K : Fg} {q : Str} {v : Value} (h : fileB P K q v = true) : ∃ cda, v = .ref cda ∧ PySem.W.codeIn K (.ref cda) q = true ∧ ∃ ccl cdd vs ccs file tf, K.lookup cda = some ⟨ccl, cdd, .fields vs, ccs⟩ ∧ vs[2]? = some (.str file tf) ∧ ((P.main.file : Str) == file) = true := by
  unfold fileB at h
  split at h
  · simp only [Bool.and_eq_true] at h
    obtain ⟨c1, c2⟩ := h
    split at c2
    · rename_i hcd
      split at c2
      · rename_i hvs
        exact ⟨_, rfl, c1, _, _, _, _, _, _, hcd, hvs, c2⟩
      · cases c2
    · cases c2
  · cases h
theorem iniT_ok {body : List Stmt} (h : iniT body = true) : ∃ (p1 p2 p3 p4 p5 p6 p7 p8 p9 p10 : Pos) (j : Nat) (txt : Str), (p3.endLine == p5.line) = true ∧
    body = [.Expr (.Call (.Attribute (.Call (.Name "super" p1) [] [] p2) "__init__" p3) [.Constant (.str txt) j p4] [] p5) p6, .Assign [.Attribute (.Name "self" p7) "value" p8] (.Name "value" p9) p10] := by
  unfold iniT at h
  split at h
  · simp only [Bool.and_eq_true, decide_eq_true_eq] at h
    obtain ⟨rfl, rfl, rfl, rfl, rfl, t6⟩ := h
    exact ⟨_, _, _, _, _, _, _, _, _, _, _, _, t6, rfl⟩
  · cases h
theorem iniK_of {P : Program} {K : Fg} {fI D : Addr} {name qual : Str} {params : Arguments} {body : List Stmt} {scope : Scope} (hw : iniW K fI = some (name, qual, params, .stmts body, scope, mainGlobals, builtinsNs)) (hb : iniB P K fI D = true) (ht : iniT body = true) (hs : iniS scope = true) (hp : iniP P params = true)
    (hB : ∀ (kV doc pm : Value) (an : Option Addr) (cdv ct : Value) (cc : Addr) (a b : Value), bindArgs (PySem.W.ksFn name qual params body scope .none kV doc pm an cdv ct cc) ⟨[a, b], []⟩ = pure [(("self" : Str), a), (("value" : Str), b)]) : ∃ fd, NX.IniK P K D fI fd := by
  unfold iniW at hw
  unfold iniB at hb
  cases hK : K.lookup fI with
  | none => rw [hK] at hw; cases hw
  | some o =>
    obtain ⟨oc, od, dt, osl⟩ := o
    rw [hK] at hw hb
    cases dt with
    | func fd =>
      obtain ⟨n1, n2, n3, n4, n5, n6, n7, n8, n9, n10, n11, n12, n13, n14, n15⟩ := fd
      simp only [Option.some.injEq, Prod.mk.injEq] at hw
      obtain ⟨rfl, rfl, rfl, rfl, rfl, rfl, rfl⟩ := hw
      simp only [Bool.and_eq_true] at hb
      obtain ⟨b1, b2, b3, b4⟩ := hb
      obtain ⟨cc, rfl, hcc⟩ := cellB_ok b1
      obtain ⟨cda, rfl, c1, hcd⟩ := fileB_ok b2
      obtain rfl : n8 = .none := by
        revert b3
        cases n8 <;> first | (intro _; rfl) | (intro z; cases z)
      unfold iniP at hp
      simp only [Bool.and_eq_true, decide_eq_true_eq, Bool.not_eq_true'] at hp
      obtain ⟨p1, p2, p3, p4, p5, p6, p7, p8, p9, p10, j, txt, t6, rfl⟩ := iniT_ok ht
      exact ⟨_, ⟨oc, od, osl, _, _, _, p1, p2, p3, p4, p5, p6, p7, p8, p9, p10, j, txt, _, .none, n9, n10, n11, n14, n12, cc, cda, hK, rfl, c1, iniS_ok hs, hp.1, hcc, hcd, Option.isSome_iff_exists.mp b4, hp.2, t6⟩, fun s a b => .of_eq (hB _ _ _ _ _ _ _ a b)⟩
    | _ => cases hb
/-! ### tuples -/
def dvOf : D → Dv
  | .int i => .int i
  | .str x => .str x
  | _ => .non
theorem ktup_of {K : Fg} {x : Str} {xs : List D} (h : tupB K x (xs.map dvOf) = true) (hf : sameF xs xs = true) (hl : xs.length ≤ big) : KTup K (ga K x) xs := by
  intro F H
  unfold tupB at h
  cases q : K.lookup (ga K x) with
  | none => rw [q] at h; cases h
  | some o =>
    obtain ⟨oc, od, dt, osl⟩ := o
    rw [q] at h
    cases oc with
    | type c =>
      cases dt with
      | seq its n =>
        obtain ⟨h1, h2⟩ := ba (show (decide (c = "tuple") && (decide (its.size ≤ sizeLine) && relAll ((xs.map dvOf).map (Dv.v K)) its.toList)) = true from h)
        obtain ⟨h3, h4⟩ := ba h2
        unfold RD
        refine ⟨ga K x, (xs.map dvOf).map (Dv.v K), rfl, .inr ⟨_, its, n, q, congrArg Value.type (of_decide_eq_true h1), rfl, of_decide_eq_true h3, relAll_ok h4⟩, hl, ?_⟩
        clear h h2 h3 h4 q hl
        induction xs with
        | nil => unfold RDs; rfl
        | cons y ys ih =>
          cases y <;> simp [sameF] at hf
          · unfold RDs
            exact ⟨_, _, rfl, by unfold RD; rfl, ih hf⟩
          · unfold RDs
            exact ⟨_, _, rfl, by unfold RD; exact ⟨rfl, hf.1⟩, ih hf.2⟩
      | _ => cases h
    | _ => cases dt <;> cases h
end MP

/-! MP2's end: the hook, the law from its MP run. -/
namespace MP
open PySem PySem.Spec PyProof.Rows L2 He
/-- what is asked of the module's head -/
structure Hq where
  P : Program
  n : Nat
  fns : List DefD
  glos : List Str
  free : List Str
  nums : List (Str × Int)
  tups : List (Str × List D) := []
  cls : List Str := []
  tf : List Defn := []
  ini : IniV := none
namespace Hq
def fa (q : Hq) : List Fa := q.glos.map .glo ++ (q.free.map .free ++ q.nums.map fun p => .int p.1 p.2)
def dAd (q : Hq) (K : Fg) : Addr := ga K (q.cls.headD "")
def iAd (q : Hq) (K : Fg) : Addr := ma K (q.dAd K) "__init__"
def exmB (q : Hq) (K : Fg) : Bool := q.cls.zipIdx.all fun x => q.cls.zipIdx.all fun y => decide (PySem.W.exmOne K (.ref (ga K x.1)) (.ref (ga K y.1)) = some (subC x.2 y.2))
def ex (q : Hq) (K : Fg) : Bool := (noLst K && (K.lookup sysModules).isSome) && ((q.cls.all fun x => stayB K (ga K x) (q.dAd K) (q.iAd K)) && (q.exmB K && ((q.cls.isEmpty || iniB q.P K (q.iAd K) (q.dAd K)) && (decide (q.tf.map fun p => (cT K p).2).Nodup && q.tups.all fun p => tupB K p.1 (p.2.map dvOf)))))
def iniO (q : Hq) (K : Fg) : IniV := if q.cls.isEmpty then none else iniW K (q.iAd K)
def kM (q : Hq) (g : Addr → Option Obj) : Fg := frT g (cStatics :: sysModules :: asD g q.n)
abbrev Al : Type := AlD × Bool × IniV
def obsK (q : Hq) (g : Addr → Option Obj) (K : Fg) : Al := (obsD q.fa q.fns K, q.ex K && tabsB g q.tf K, q.iniO K)
def obsG (q : Hq) (g : Addr → Option Obj) : Al := q.obsK g (q.kM g)
def val (q : Hq) : Al := (valD q.fns, true, q.ini)
structure Says (q : Hq) (h : Heap) (K : Fg) : Prop where
  d : SaysD q.fa q.fns K
  more : q.ex K = true
  hd : ∀ p ∈ q.tf, PySem.W.codeHdIn K (cT K p).1 (cT K p).2 = true
  out : ∀ p ∈ q.tf, K.lookup (cT K p).2 = none
  empty : ∀ p ∈ q.tf, h.get? (cT K p).2 = some (tabO #[])
  ini : q.iniO K = q.ini
theorem says_of {q : Hq} {h : Heap} (e : q.obsG h.get? = q.val) : q.Says h (q.kM h.get?) := by
  have e1 : obsD q.fa q.fns (q.kM h.get?) = valD q.fns := congrArg (fun z : Al => z.1) e
  have e2 : (q.ex (q.kM h.get?) && tabsB h.get? q.tf (q.kM h.get?)) = true := congrArg (fun z : Al => z.2.1) e
  have e3 : q.iniO (q.kM h.get?) = q.ini := congrArg (fun z : Al => z.2.2) e
  obtain ⟨h1, h2⟩ := ba e2
  have key : ∀ p ∈ q.tf, PySem.W.codeHdIn (q.kM h.get?) (cT (q.kM h.get?) p).1 (cT (q.kM h.get?) p).2 = true ∧ ∃ o, h.get? (cT (q.kM h.get?) p).2 = some o ∧ emptyTab o = true := fun p hp => by
    obtain ⟨h3, h4⟩ := ba (List.all_eq_true.mp h2 p hp)
    refine ⟨h3, ?_⟩
    split at h4
    · rename_i o ho
      exact ⟨o, ho, h4⟩
    · cases h4
  refine ⟨e1, h1, fun p hp => (key p hp).1, fun p hp => ?_, fun p hp => ?_, e3⟩
  · obtain ⟨_, o, z, t⟩ := key p hp
    exact frT_none z t
  · obtain ⟨_, o, z, t⟩ := key p hp
    rw [z, emptyTab_eq t]
def hook (q : Hq) : PySem.W.Hook where
  α := Al
  obs := fun s => q.obsG s.heap.get?
  val := fun _ => q.val
  says := fun _ h => ∃ K : Fg, K.In h ∧ q.Says h K
  of := fun _ _ e => ⟨_, frT_in, says_of e⟩
  keeps := fun _ _ _ ⟨K, hK, c⟩ k => ⟨K, PySem.W.Frag.In.keeps hK k, ⟨c.d, c.more, c.hd, c.out, fun p hp => k _ _ (c.empty p hp), c.ini⟩⟩
theorem obs_eq {q : Hq} {g : Addr → Option Obj} {s : Shared} (h : ∀ a, g a = s.heap.get? a) : q.obsG g = q.hook.obs s := by
  have e : g = s.heap.get? := funext h
  rw [e]
  rfl
/-- the classes' values, the tables -/
def bs (q : Hq) (K : Fg) : Bs := ⟨fun c => match q.cls[c]? with
  | some x => .ref (ga K x)
  | none => .none, q.tf.map fun p => ((cT K p).2, lamQ p.1)⟩
def cs (q : Hq) (K : Fg) : List (Addr × Addr) := q.tf.map (cT K)
end Hq
section
variable {q : Hq} {h : Heap} {K : Fg} {mg : Str → Option Value}
theorem says_glo (X : K.In h) (Gn : h.Ns mainGlobals mg) (c : q.Says h K) {x : Str} (hx : x ∈ q.glos) : mg x = some (.ref (ga K x)) :=
  glo_ok X Gn (c.d.facts (f := .glo x) (List.mem_append_left _ (List.mem_map_of_mem hx)))
theorem nodup_inj {α β : Type} {f : α → β} : ∀ {l : List α}, (l.map f).Nodup → ∀ {a b : α}, a ∈ l → b ∈ l → f a = f b → a = b
  | [], _, _, _, h, _, _ => nomatch h
  | x :: l, hn, a, b, ha, hb, e => by
    rw [List.map_cons, List.nodup_cons] at hn
    rcases List.mem_cons.mp ha with ea | ha' <;> rcases List.mem_cons.mp hb with eb | hb'
    · rw [ea, eb]
    · exact absurd (ea ▸ e ▸ List.mem_map_of_mem hb') hn.1
    · exact absurd (eb ▸ e ▸ List.mem_map_of_mem ha') hn.1
    · exact nodup_inj hn.2 ha' hb' e
theorem mdOk_of {G : Gb} (X : K.In h) (Gn : h.Ns mainGlobals mg) (c : q.Says h K) (h1 : G.free = q.free) (h2 : G.nums = q.nums) (h3 : G.tups = q.tups) (h3' : ∀ p ∈ q.tups, sameF p.2 p.2 = true ∧ p.2.length ≤ big ∧ p.1 ∈ q.glos) (h4 : G.cls = q.cls) (h4' : ∀ x ∈ q.cls, x ∈ q.glos)
    (hI : q.cls ≠ [] → ∃ fd, NX.IniK q.P K (q.dAd K) (q.iAd K) fd) (hC : ∀ z ∈ G.cats, CatAt K mg G z) : MdOk q.P K mg (q.bs K) G := by
  have m := c.more
  unfold Hq.ex at m
  simp only [Bool.and_eq_true, List.all_eq_true] at m
  obtain ⟨m1, m2, m3, m4, m5, m6⟩ := m
  refine ⟨?_, fun x hx => ?_, fun p hp => ?_, fun p hp => ?_, fun i x hx => ?_, fun i j x y hx hy => ?_, hC⟩
  · obtain ⟨o, ho⟩ := Option.isSome_iff_exists.mp m1.2
    exact ⟨o, ho, by simpa using List.all_eq_true.mp m1.1 _ (He.lookup_mem ho)⟩
  · rw [h1] at hx
    exact free_ok X Gn (c.d.facts (f := .free x) (List.mem_append_right _ (List.mem_append_left _ (List.mem_map_of_mem hx))))
  · rw [h2] at hp
    exact int_ok X Gn (c.d.facts (f := .int p.1 p.2) (List.mem_append_right _ (List.mem_append_right _ (List.mem_map_of_mem (f := fun p : Str × Int => Fa.int p.1 p.2) hp))))
  · rw [h3] at hp
    obtain ⟨k1, k2, k3⟩ := h3' p hp
    exact ⟨_, says_glo X Gn c k3, ktup_of (m6 p hp) k1 k2⟩
  · rw [h4] at hx
    have hm : x ∈ q.cls := List.mem_of_getElem? hx
    obtain ⟨fd, hI⟩ := hI (fun z => by rw [z] at hm; cases hm)
    refine ⟨ga K x, q.dAd K, q.iAd K, fd, says_glo X Gn c (h4' x hm), ?_, stayB_ok (m2 x hm), hI⟩
    show (match q.cls[i]? with
      | some x => Value.ref (ga K x)
      | none => .none) = _
    rw [hx]
  · rw [h4] at hx hy
    have e1 : (q.bs K).cl i = .ref (ga K x) := by
      show (match q.cls[i]? with
        | some x => Value.ref (ga K x)
        | none => .none) = _
      rw [hx]
    have e2 : (q.bs K).cl j = .ref (ga K y) := by
      show (match q.cls[j]? with
        | some x => Value.ref (ga K x)
        | none => .none) = _
      rw [hy]
    rw [e1, e2]
    unfold Hq.exmB at m3
    simp only [List.all_eq_true] at m3
    have a1 : (x, i) ∈ q.cls.zipIdx := List.mem_of_getElem? (i := i) (by rw [List.getElem?_zipIdx, hx]; simp)
    have a2 : (y, j) ∈ q.cls.zipIdx := List.mem_of_getElem? (i := j) (by rw [List.getElem?_zipIdx, hy]; simp)
    exact of_decide_eq_true (m3 _ a1 _ a2)
/-- a def of the head, as the table wants it -/
theorem kw_of {G : Gb} {f : Nat} {ks : List Str} {pm : List Nat} {l : List (List Str × List Nat)} (h : (f, ks, pm) ∈ G.kws) (e : (G.kws.filterMap fun q => if q.1 = f then some q.2 else none) = l) : (ks, pm) ∈ l := by
  rw [← e]
  exact List.mem_filterMap.mpr ⟨_, h, by rw [if_pos rfl]⟩
theorem defAt_of {G : Gb} {f : Nat} {x : Str} {i : Nat} {params : Arguments} {body : List Stmt} {scope : Scope} {N ps : List Str} {d : Def} (lm : Bool) (X : K.In h) (Gn : h.Ns mainGlobals mg) (c : q.Says h K) (hx : x ∈ q.glos) (hi : q.fns[i]? = some ⟨(x, none), x, x, params, body, scope, [], []⟩) (S : FnScope N ps scope)
    (h1 : ps.length = d.np) (h2 : N.length = d.n) (ok : okSs { G with lm := lm } N scope (fun _ => true) d.body body = true) (hl : lm = true → (x, none) ∈ q.tf)
    (hB : ∀ (kV doc pm : Value) (an : Option Addr) (cdv ct : Value) (us : List Value), us.length = ps.length → bindArgs (PySem.W.fnOf x x params body scope .none kV doc pm an cdv ct) ⟨us, []⟩ = pure (ps.zip us))
    (hk : ∀ ks pmu, (f, ks, pmu) ∈ G.kws → ∀ (kV doc pm : Value) (an : Option Addr) (cdv ct : Value) (us : List Value), us.length = ks.length → ∃ zs, pick us pmu = some zs ∧ bindArgs (PySem.W.fnOf x x params body scope .none kV doc pm an cdv ct) ⟨[], ks.zip us⟩ = pure (ps.zip zs)) :
    DefAt K mg (q.cs K) (q.bs K) G f x d := by
  obtain ⟨fd, D⟩ := c.d.def_ i hi
  obtain ⟨oc, od, dV, kV, doc, pm, an, cdv, ct, osl, rfl, lk, hcd, hD, _⟩ := D.ex
  have lk' : K.lookup (ga K x) = _ := lk
  rcases hD with ⟨_, rfl⟩ | ⟨e, _⟩
  · refine ⟨ga K x, x, x, params, body, scope, .none, kV, doc, pm, cdv, ct, oc, an, od, osl, N, ps, lm, says_glo X Gn c hx, ?_, lk', hcd, S, h1, h2, ok, .all (hB kV doc pm an cdv ct), fun ks pmu hm s us _ hlen => ?_, fun hlm => ?_⟩
    · unfold PySem.W.keepIn
      simp only [lk']
    · obtain ⟨zs, e1, e2⟩ := hk ks pmu hm kV doc pm an cdv ct us hlen
      exact ⟨zs, e1, .of_eq e2⟩
    · have hm := hl hlm
      obtain ⟨cd, ecd⟩ := codeIn_ref hcd
      have ec : codeOf K (x, none) = cd := codeOf_eq (p := (x, none)) lk ecd
      refine ⟨cd, (cT K (x, none)).2, ?_, ecd, List.mem_map_of_mem (f := fun p : Defn => ((cT K p).2, lamQ p.1)) hm, fun p hp e => ?_⟩
      · have : cT K (x, none) ∈ q.cs K := List.mem_map_of_mem hm
        have e2 : cT K (x, none) = (cd, (cT K (x, none)).2) := by
          unfold cT
          rw [ec]
        rw [← e2]
        exact this
      · obtain ⟨p', hp', rfl⟩ := List.mem_map.mp hp
        have m := c.more
        unfold Hq.ex at m
        simp only [Bool.and_eq_true, decide_eq_true_eq] at m
        have e3 := nodup_inj m.2.2.2.2.1 hp' hm e
        rw [e3]
  · exact absurd rfl e
theorem catAt_of {G : Gb} {x : Str} {i k : Nat} {hs : List (Nat × Str)} {params : Arguments} {body : List Stmt} {scope : Scope} {Ng : List Str} {a : Str} (X : K.In h) (Gn : h.Ns mainGlobals mg) (c : q.Says h K) (hx : x ∈ q.glos) (hi : q.fns[i]? = some ⟨(x, none), x, x, params, body, scope, [], []⟩) (S : FnScope Ng [a] scope)
    (h0 : Ng[0]? = some a) (hv : vis scope a = true) (hp : plainName a = true) (ok : catOk G.cls Ng scope a k hs body = true)
    (hB : ∀ (kV doc pm : Value) (an : Option Addr) (cdv ct : Value) (us : List Value), us.length = 1 → bindArgs (PySem.W.fnOf x x params body scope .none kV doc pm an cdv ct) ⟨us, []⟩ = pure ([a].zip us)) : CatAt K mg G (x, k, hs) := by
  obtain ⟨fd, D⟩ := c.d.def_ i hi
  obtain ⟨oc, od, dV, kV, doc, pm, an, cdv, ct, osl, rfl, lk, hcd, hD, _⟩ := D.ex
  have lk' : K.lookup (ga K x) = _ := lk
  rcases hD with ⟨_, rfl⟩ | ⟨e, _⟩
  · refine ⟨ga K x, params, body, scope, .none, kV, doc, pm, cdv, ct, oc, an, od, osl, Ng, a, says_glo X Gn c hx, ?_, lk', hcd, .all (hB kV doc pm an cdv ct), S, h0, hv, hp, ok⟩
    unfold PySem.W.keepIn
    simp only [lk']
  · exact absurd rfl e
theorem says_ini (c : q.Says h K) (h0 : q.cls.isEmpty = false) {name qual : Str} {params : Arguments} {body : List Stmt} {scope : Scope} (hv : q.ini = some (name, qual, params, .stmts body, scope, mainGlobals, builtinsNs)) (ht : iniT body = true) (hs : iniS scope = true) (hp : iniP q.P params = true)
    (hB : ∀ (kV doc pm : Value) (an : Option Addr) (cdv ct : Value) (cc : Addr) (a b : Value), bindArgs (PySem.W.ksFn name qual params body scope .none kV doc pm an cdv ct cc) ⟨[a, b], []⟩ = pure [(("self" : Str), a), (("value" : Str), b)]) : ∃ fd, NX.IniK q.P K (q.dAd K) (q.iAd K) fd := by
  have m := c.more
  unfold Hq.ex at m
  simp only [Bool.and_eq_true, Bool.or_eq_true] at m
  have i1 := c.ini
  unfold Hq.iniO at i1
  rw [h0, hv] at i1
  exact iniK_of i1 (m.2.2.2.1.resolve_left (by rw [h0]; decide)) ht hs hp hB
end
/-- THE END: a law by its MP run -/
theorem walk_mp2 {l : PySem.W.OpenLaw} {n k i : Nat} {p : Program} {loose : List Str} {XP : (Str → Option Value) → Heap → Prop} {d : DefRec} {q : Hq} {G : Gb} {tbl : List Def} {wf : Nat}
    (hP : q.P = l.prog) (hn : l.most = some n) (hn2 : n ≤ big) (hdf : d.params.defaults = []) (hr : Room (3 * k) callerA) (hi : G.fns[i]? = some d.name)
    (F : ∀ (mg : Str → Option Value) (K : Fg) (h : Heap), K.In h → h.Ns mainGlobals mg → q.Says h K → MdOk q.P K mg (q.bs K) G ∧ ∀ (f : Nat) (y : Str), G.fns[f]? = some y → ∃ d, tbl[f]? = some d ∧ DefAt K mg (q.cs K) (q.bs K) G f y d)
    (hrun : ∀ ns : List Int, ns.length ≤ n → (∀ z ∈ ns, Builtin.Int.intBits z ≤ 1048576) → ∃ st, callN tbl wf k i [.d (.list (ns.map .int))] [] = .ok (.t (.d (.bool true))) st) :
    PySem.W.WalkO p loose XP q.hook.says l.row.toRowW d [] (fun f vs => PySem.call f vs) := by
  refine Att.attach_callB hn hdf fun w s₀ s₁ mg mb fa o pm cd doc a vs ns G' Y ho hd hcd hmg hobj hints hlen hbits hg => ?_
  obtain ⟨K, KX, c⟩ := Y
  obtain ⟨md, hdefs⟩ := F mg K _ KX G'.T.g c
  rw [hP] at md
  obtain ⟨st, hst⟩ := hrun ns hlen hbits
  have m := c.more
  unfold Hq.ex at m
  simp only [Bool.and_eq_true] at m
  have hka : K.lookup a = none := noLst_ok m.1.1 KX hobj
  have tab : ∀ z ∈ q.cs K, s₁.heap.get? z.2 = some (tabO #[]) ∧ K.lookup z.2 = none ∧ PySem.W.codeHdIn K z.1 z.2 = true := fun z hz => by
    obtain ⟨p', hp', rfl⟩ := List.mem_map.mp hz
    exact ⟨c.empty p' hp', c.out p' hp', c.hd p' hp'⟩
  have one : ∀ base : Heap, (∀ z ∈ q.cs K, LamX.TabB base mg z.1 z.2) → ∃ fd ps, FnG l.prog w K mg base (3 * k) fa fd ps (spF K (q.bs K) (callN tbl wf k) i) ∧ Binds K fd ps [] := fun base TB => by
    obtain ⟨fa', fd, ps, e1, e2, hF, hB, _⟩ := fns_ok (P := l.prog) (w := w) (base := base) (wf := wf) md TB hdefs k i d.name hi
    rw [hmg] at e1
    cases e1
    exact ⟨fd, ps, hF, hB⟩
  refine law_callM (cs := q.cs K) KX hka G'.T.g G'.T.b G'.T.builtins G'.T.nolimit hg (fun z hz => (tab z hz).1) (fun z hz => (tab z hz).2.1) (fun z hz => (tab z hz).2.2) G'.T.bmain hobj hints (Nat.le_trans hlen (big_size ▸ hn2)) hr one ?_
  have at_t : ∀ b ∈ (q.cs K).map (·.2), b ≠ a := fun b hb z => by
    obtain ⟨p', hp', rfl⟩ := List.mem_map.mp hb
    have e := (tab p' hp').1
    rw [z, hobj] at e
    cases e
  refine ⟨⟨fun b => b = a, fun _ => False⟩, [], [], [.d (.list (ns.map .int))], ⟨rfl, List.nodup_nil, fun _ h => (nomatch h), fun b hb => ⟨.frz (lstO vs) (.lst (ns.map V.int)), (show b = a from hb) ▸ H0_a, True.intro⟩, fun _ h => h.elim, fun _ h => (nomatch h), fun _ h => h.elim, fun i c b e => by simp at e, fun i c e => by simp at e, fun z hz => ?_⟩, .one ?_, ?_⟩
  · obtain ⟨p', hp', rfl⟩ := List.mem_map.mp hz
    have hm : (cT K p').2 ∈ (q.cs K).map (·.2) := List.mem_map_of_mem (List.mem_map_of_mem hp')
    exact LamX.TabS.nil (H0_t (at_t _ hm) hm)
  · unfold TR RD
    refine ⟨a, ns.map V.int, rfl, ⟨rfl, .inr ⟨_, H0_a⟩⟩, by rw [List.length_map]; exact Nat.le_trans hlen hn2, ?_⟩
    have t := TRs.ofInts (F := ⟨fun b => b = a, fun _ => False⟩) (ρ := []) (K := K) (H := H0 a vs ns ((q.cs K).map (·.2))) ns
    rw [show (ns.map fun i => T.d (.int i)) = (ns.map PyData.int).map T.d by rw [List.map_map]; rfl] at t
    exact t.rds
  · rw [hst]
    intro F' ρ' H' b _ _ r
    have r' : TR F' ρ' K H' (.d (.bool true)) b := r
    unfold TR RD at r'
    exact r'
end MP

/-! NQ: what a run of MP2 gives, in plain words. Every rule speaks of wp, so that nothing is rewritten ahead of its turn. -/
namespace MP
open PySem
abbrev XC := Nat → T → Store → Prop
abbrev XS_ := Nat → T → Env → Store → Prop
abbrev KS := Flow → Env → Store → Prop
def Res.wp {α : Type} (r : Res α) (X : XC) (P : α → Store → Prop) : Prop := match r with
  | .ok a st => P a st
  | .exc c v st => X c v st
  | .stuck => False
def RS.wp (r : RS) (X : XS_) (P : KS) : Prop := match r with
  | .ok f env st => P f env st
  | .exc c v env st => X c v env st
  | .stuck => False
abbrev noX : XC := fun _ _ _ => False
def oK {α : Type} (o : Option α) (k : α → Prop) : Prop := ∃ a, o = some a ∧ k a
theorem oK_some {α : Type} {a : α} {k : α → Prop} : oK (some a) k = k a := propext ⟨fun ⟨b, e, h⟩ => by cases e; exact h, fun h => ⟨a, rfl, h⟩⟩
theorem oK_none {α : Type} {k : α → Prop} : oK none k = False := propext ⟨fun ⟨b, e, h⟩ => (nomatch e), False.elim⟩
section
variable {α β : Type} {X : XC} {P Q : α → Store → Prop} {st : Store}
/-- what comes after a step -/
def bnd (f : β → Store → Res α) (X : XC) (k : α → Store → Prop) : β → Store → Prop := fun b st => (f b st).wp X k
theorem bnd_ap {f : β → Store → Res α} {b : β} : bnd f X P b st = (f b st).wp X P := rfl
def at_ (k : α → Store → Prop) (st : Store) : α → Prop := fun a => k a st
theorem at_ap {a : α} : at_ P st a = P a st := rfl
def stl (k : T → Store → Prop) : RV → Store → Prop := fun v st => k v.settle st
theorem stl_ap {k : T → Store → Prop} {v : RV} : stl k v st = k v.settle st := rfl
def alc (k : T → Store → Prop) : RV → Store → Prop := fun v st => match v with
  | .t v => k v st
  | .new xs => olds st.length xs = true ∧ k (.ref st.length) (st ++ [.lst xs])
  | .newD ks xs => olds st.length xs = true ∧ k (.ref st.length) (st ++ [.dct ks xs])
theorem alc_t {k : T → Store → Prop} {v : T} : alc k (.t v) st = k v st := rfl
theorem alc_n {k : T → Store → Prop} {xs : List T} : alc k (.new xs) st = (olds st.length xs = true ∧ k (.ref st.length) (st ++ [.lst xs])) := rfl
theorem alc_d {k : T → Store → Prop} {ks : List Key} {xs : List T} : alc k (.newD ks xs) st = (olds st.length xs = true ∧ k (.ref st.length) (st ++ [.dct ks xs])) := rfl
theorem wp_ok {a : α} : (Res.ok a st).wp X P = P a st := rfl
theorem wp_exc {c : Nat} {v : T} : (Res.exc c v st : Res α).wp X P = X c v st := rfl
theorem wp_stuck : (Res.stuck : Res α).wp X P = False := rfl
theorem wp_bind {r : Res β} {f : β → Store → Res α} : (r.bind f).wp X P = r.wp X (bnd f X P) := by cases r <;> rfl
theorem wp_lift {o : Option α} : (lift o st).wp X P = oK o (at_ P st) := by
  cases o with
  | none => exact oK_none.symm
  | some a => rw [oK_some]; rfl
theorem wp_settled {r : Res RV} {P : T → Store → Prop} : (settled r).wp X P = r.wp X (stl P) := by unfold settled; rw [wp_bind]; rfl
theorem wp_alloc {r : Res RV} {P : T → Store → Prop} : (alloc r).wp X P = r.wp X (alc P) := by
  unfold alloc
  cases r with
  | ok v s =>
    cases v with
    | t v => rfl
    | new xs =>
      show (if olds s.length xs = true then Res.ok (T.ref s.length) (s ++ [Cell.lst xs]) else Res.stuck).wp X P = _
      rw [wp_ok, alc_n]
      by_cases h : olds s.length xs = true
      · rw [if_pos h]; exact propext ⟨fun p => ⟨h, p⟩, fun p => p.2⟩
      · rw [if_neg h]; exact propext ⟨fun p => p.elim, fun p => (h p.1).elim⟩
    | newD ks xs =>
      show (if olds s.length xs = true then Res.ok (T.ref s.length) (s ++ [Cell.dct ks xs]) else Res.stuck).wp X P = _
      rw [wp_ok, alc_d]
      by_cases h : olds s.length xs = true
      · rw [if_pos h]; exact propext ⟨fun p => ⟨h, p⟩, fun p => p.2⟩
      · rw [if_neg h]; exact propext ⟨fun p => p.elim, fun p => (h p.1).elim⟩
  | exc _ _ _ => rfl
  | stuck => rfl
def tru (k : Bool → Store → Prop) : RV → Store → Prop := fun v st => oK (truthV (view st v.settle)) (at_ k st)
theorem tru_ap {k : Bool → Store → Prop} {v : RV} : tru k v st = oK (truthV (view st v.settle)) (at_ k st) := rfl
theorem wp_truth {r : Res RV} {P : Bool → Store → Prop} : (truthOf r).wp X P = r.wp X (tru P) := by
  unfold truthOf
  rw [wp_bind, wp_settled]
  congr 1
  funext v s
  show (lift _ _).wp X P = _
  rw [wp_lift]
  rfl
theorem wp_evF {r : Res RV} {P : T → Store → Prop} : (evalF false r).wp X P = r.wp X (stl P) := by unfold evalF; rw [if_neg (by decide), wp_settled]
theorem wp_evT {r : Res RV} {P : T → Store → Prop} : (evalF true r).wp X P = r.wp X (alc P) := by unfold evalF; rw [if_pos rfl, wp_alloc]
theorem Res.wp.mono {r : Res α} (h : r.wp X P) (k : ∀ a s, P a s → Q a s) : r.wp X Q := by
  cases r with
  | ok a s => exact k _ _ h
  | exc _ _ _ => exact h
  | stuck => exact h
theorem Res.wp.mono2 {Y : XC} {r : Res α} (h : r.wp X P) (x : ∀ c v s, X c v s → Y c v s) (k : ∀ a s, P a s → Q a s) : r.wp Y Q := by
  cases r with
  | ok a s => exact k _ _ h
  | exc _ _ _ => exact x _ _ _ h
  | stuck => exact h
theorem Res.wp.get {r : Res α} (h : r.wp noX P) : ∃ a s, r = .ok a s ∧ P a s := by
  cases r with
  | ok a s => exact ⟨a, s, rfl, h⟩
  | exc _ _ _ => exact h.elim
  | stuck => exact h.elim
theorem wp_noexc {r : Res α} : r.noexc.wp X P = r.wp noX P := by cases r <;> rfl
end
section
variable {X : XS_} {P Q : KS} {st : Store} {env : Env} {α : Type}
def xe (X : XS_) (env : Env) : XC := fun c v st => X c v env st
theorem xe_ap {c : Nat} {v : T} : xe X env c v st = X c v env st := rfl
abbrev noXS : XS_ := fun _ _ _ _ => False
theorem xe_no : xe noXS env = noX := rfl
def bndS (f : α → Store → RS) (X : XS_) (k : KS) : α → Store → Prop := fun b st => (f b st).wp X k
theorem bndS_ap {f : α → Store → RS} {b : α} : bndS f X P b st = (f b st).wp X P := rfl
theorem wp_then {r : Res α} {f : α → Store → RS} : (r.then env f).wp X P = r.wp (xe X env) (bndS f X P) := by cases r <;> rfl
theorem wps_ok {f : Flow} : (RS.ok f env st).wp X P = P f env st := rfl
theorem wps_exc {c : Nat} {v : T} : (RS.exc c v env st).wp X P = X c v env st := rfl
theorem wps_stuck : (RS.stuck).wp X P = False := rfl
def bT (k : Env → RS) (X : XS_) (ks : KS) : Env → Prop := fun e => (k e).wp X ks
theorem bT_ap {k : Env → RS} : bT k X P env = (k env).wp X P := rfl
theorem wp_bt {o : Option Env} {k : Env → RS} : (bindThen o k).wp X P = oK o (bT k X P) := by
  cases o with
  | none => exact oK_none.symm
  | some a => rw [oK_some]; rfl
theorem RS.wp.mono {r : RS} (h : r.wp X P) (k : ∀ a e s, P a e s → Q a e s) : r.wp X Q := by
  cases r with
  | ok a e s => exact k _ _ _ h
  | exc _ _ _ _ => exact h
  | stuck => exact h
/-- what the rest of a block wants of a statement -/
def nxt (X : XS_) (P : KS) (f : Env → Store → RS) : KS
  | .next, e, s => (f e s).wp X P
  | fl, e, s => P fl e s
theorem nxt_next {f : Env → Store → RS} : nxt X P f .next env st = (f env st).wp X P := rfl
theorem nxt_ret {f : Env → Store → RS} {v : RV} : nxt X P f (.ret v) env st = P (.ret v) env st := rfl
theorem nxt_brk {f : Env → Store → RS} : nxt X P f .brk env st = P .brk env st := rfl
theorem nxt_cont {f : Env → Store → RS} : nxt X P f .cont env st = P .cont env st := rfl
theorem wps_seq {r : RS} {f : Env → Store → RS} : (r.seq f).wp X P = r.wp X (nxt X P f) := by
  cases r with
  | ok fl e s => cases fl <;> rfl
  | exc _ _ _ _ => rfl
  | stuck => rfl
def trn (X : XS_) (P : KS) (f : Env → Store → RS) : KS
  | .next, e, s => (f e s).wp X P
  | .cont, e, s => (f e s).wp X P
  | .brk, e, s => P .next e s
  | .ret v, e, s => P (.ret v) e s
theorem wps_turn {r : RS} {f : Env → Store → RS} : (r.turn f).wp X P = r.wp X (trn X P f) := by
  cases r with
  | ok fl e s => cases fl <;> rfl
  | exc _ _ _ _ => rfl
  | stuck => rfl
/-- a loop over what stands still: an invariant; a return allowed -/
theorem forL_inv {f : T → Env → Store → RS} (I : List T → Env → Store → Prop) : ∀ {xs : List T} {env : Env} {st : Store}, I xs env st → (∀ x xs env st, I (x :: xs) env st → (f x env st).wp X fun fl e s => match fl with
      | .next => I xs e s
      | .cont => I xs e s
      | .brk => P .next e s
      | .ret v => P (.ret v) e s) →
    (∀ e s, I [] e s → P .next e s) → (forL f xs env st).wp X P
  | [], env, st, h, _, k => k _ _ h
  | x :: xs, env, st, h, hb, k => by
    rw [forL, wps_turn]
    refine (hb x xs env st h).mono fun fl e s hI => ?_
    cases fl with
    | next => exact forL_inv I hI hb k
    | cont => exact forL_inv I hI hb k
    | brk => exact hI
    | ret v => exact hI
theorem while_inv {c : Env → Store → Res Bool} {f : Env → Store → RS} (I : Nat → Env → Store → Prop) : ∀ {wf m : Nat} {env : Env} {st : Store}, m < wf → I m env st →
    (∀ m env st, I m env st → (c env st).wp (xe X env) fun b s1 => if b then (f env s1).wp X (fun fl e s => match fl with
      | .next => ∃ m', m' < m ∧ I m' e s
      | .cont => ∃ m', m' < m ∧ I m' e s
      | .brk => P .next e s
      | .ret v => P (.ret v) e s) else P .next env s1) → (whileL c f wf env st).wp X P
  | 0, m, env, st, h, _, _ => by omega
  | wf + 1, m, env, st, h, hI, hb => by
    rw [whileL, wp_then]
    refine (hb m env st hI).mono fun b s1 q => ?_
    show (if b then _ else _ : RS).wp X P
    cases b with
    | false => exact q
    | true =>
      show (RS.turn _ _).wp X P
      rw [wps_turn]
      refine RS.wp.mono q fun fl e s z => ?_
      cases fl with
      | next =>
        obtain ⟨m', h1, h2⟩ := z
        exact while_inv I (by omega) h2 hb
      | cont =>
        obtain ⟨m', h1, h2⟩ := z
        exact while_inv I (by omega) h2 hb
      | brk => exact z
      | ret v => exact z
end
/-! ### comprehensions -/
section
variable {X : XC} {k : List T → Store → Prop} {st : Store}
theorem compL_inv {g : T → Store → Res (Option T)} (I : List T → List T → Store → Prop) : ∀ {xs acc : List T} {st : Store}, I xs acc st → (∀ x xs acc st, I (x :: xs) acc st → (g x st).wp noX fun o s => I xs (acc ++ o.toList) s) →
    (∀ acc s, I [] acc s → k acc s) → (compL g xs st).wp noX fun r s => k (acc ++ r) s
  | [], acc, st, h, _, q => by rw [compL, wp_ok, List.append_nil]; exact q _ _ h
  | x :: xs, acc, st, h, hb, q => by
    rw [compL, wp_bind]
    refine (hb x xs acc st h).mono fun o s hI => ?_
    rw [bnd_ap, wp_bind]
    refine (compL_inv I hI hb q).mono fun r s2 z => ?_
    rw [bnd_ap, wp_ok]
    cases o with
    | none => simpa [consO] using z
    | some y => simpa [consO] using z
/-- no change of the store -/
theorem compL_pure {g : T → Store → Res (Option T)} {f : T → Option T} : ∀ {xs : List T}, (∀ x ∈ xs, (g x st).wp noX fun o s => o = f x ∧ s = st) → (compL g xs st).wp noX fun r s => r = xs.filterMap f ∧ s = st
  | [], _ => by rw [compL, wp_ok]; exact ⟨rfl, rfl⟩
  | x :: xs, h => by
    rw [compL, wp_bind]
    have ih := compL_pure (g := g) (f := f) (xs := xs) fun y hy => h y (List.mem_cons_of_mem _ hy)
    refine (h x (by simp)).mono fun o s ⟨e1, e2⟩ => ?_
    rw [e2, e1, bnd_ap, wp_bind]
    refine ih.mono fun r s2 ⟨e3, e4⟩ => ?_
    rw [e3, e4, bnd_ap, wp_ok]
    cases hf : f x <;> simp [consO, hf]
end
end MP

/-! NQ, part b: the rules of a run. -/
namespace MP
open PySem
section
variable {cf : CF} {wf : Nat} {env : Env} {st : Store} {X : XC} {k : RV → Store → Prop} {kt : List T → Store → Prop} {ks : KS} {XS : XS_}
def kV (k : RV → Store → Prop) (st : Store) : Option T → Prop
  | some v => k (.t v) st
  | none => False
theorem kV_some {v : T} : kV k st (some v) = k (.t v) st := rfl
theorem w_var {i : Nat} : (evalE cf (.var i) env st).wp X k = oK (env[i]?) (kV k st) := by
  simp only [evalE]
  cases h : env[i]? with
  | none => exact oK_none.symm
  | some o =>
    rw [oK_some]
    cases o <;> rfl
theorem w_con {v : D} : (evalE cf (.con v) env st).wp X k = k (.t (.d v)) st := by simp only [evalE, wp_ok]
theorem w_glo {x : Str} {v : D} : (evalE cf (.glo x v) env st).wp X k = k (.t (.d v)) st := by simp only [evalE, wp_ok]
theorem w_op {o : Op} {a b : E} : (evalE cf (.op o a b) env st).wp X k = (evalE cf a env st).wp X (stl (bnd (fun x st1 => (settled (evalE cf b env st1)).bind fun y st2 => lift (binV o (view st2 x) (view st2 y)) st2) X k)) := by
  simp only [evalE, wp_bind, wp_settled]
theorem w_neg {a : E} : (evalE cf (.neg a) env st).wp X k = (evalE cf a env st).wp X (stl (bnd (fun x st1 => match view st1 x with
    | .dat (.int i) => .ok (tI (-i)) st1
    | _ => .stuck) X k)) := by
  simp only [evalE, wp_bind, wp_settled]
  all_goals rfl
theorem w_cmp {c : Cm} {a b : E} : (evalE cf (.cmp c a b) env st).wp X k = (evalE cf a env st).wp X (stl (bnd (fun x st1 => (settled (evalE cf b env st1)).bind fun y st2 => lift (((rd st2 x).bind fun x => (rd st2 y).bind fun y => cmpD c x y).map tB) st2) X k)) := by
  simp only [evalE, wp_bind, wp_settled]
theorem w_chain {c c' : Cm} {a b e : E} : (evalE cf (.chain c c' a b e) env st).wp X k = (evalE cf a env st).wp X (stl (bnd (fun x st1 => (settled (evalE cf b env st1)).bind fun y st2 =>
      (lift ((rd st2 x).bind fun x => (rd st2 y).bind fun y => cmpD c x y) st2).bind fun k st2 => if k then (settled (evalE cf e env st2)).bind fun z st3 => lift (((rd st3 y).bind fun y => (rd st3 z).bind fun z => cmpD c' y z).map tB) st3 else .ok (tB false) st2) X k)) := by
  simp only [evalE, wp_bind, wp_settled]
theorem w_and {a b : E} : (evalE cf (.and a b) env st).wp X k = (evalE cf a env st).wp X (stl (bnd (fun x st1 => match x with
    | .d (.bool true) => evalE cf b env st1
    | .d (.bool false) => .ok (tB false) st1
    | _ => .stuck) X k)) := by
  simp only [evalE, wp_bind, wp_settled]
  all_goals rfl
theorem w_or {a b : E} : (evalE cf (.or a b) env st).wp X k = (evalE cf a env st).wp X (stl (bnd (fun x st1 => match x with
    | .d (.bool false) => evalE cf b env st1
    | .d (.bool true) => .ok (tB true) st1
    | _ => .stuck) X k)) := by
  simp only [evalE, wp_bind, wp_settled]
  all_goals rfl
theorem w_not {a : E} : (evalE cf (.not a) env st).wp X k = (evalE cf a env st).wp X (tru (bnd (fun b st1 => .ok (tB (!b)) st1) X k)) := by simp only [evalE, wp_bind, wp_truth]
theorem w_ite {c a b : E} : (evalE cf (.ite c a b) env st).wp X k = (evalE cf c env st).wp X (tru (bnd (fun x st1 => if x then evalE cf a env st1 else evalE cf b env st1) X k)) := by simp only [evalE, wp_bind, wp_truth]
theorem w_tup {es : List E} : (evalE cf (.tup es) env st).wp X k = (evalTs cf es env st).wp X (bnd (fun xs st1 => .ok (.t (mkTup xs)) st1) X k) := by simp only [evalE, wp_bind]
theorem w_lst {es : List E} : (evalE cf (.lst es) env st).wp X k = (evalTs cf es env st).wp X (bnd (fun xs st1 => .ok (.new xs) st1) X k) := by simp only [evalE, wp_bind]
theorem w_dct {q : List D} {es : List E} : (evalE cf (.dct q es) env st).wp X k = (evalTs cf es env st).wp X (bnd (fun xs st1 => match q.mapM keyD with
    | some l => if l.length = xs.length ∧ keysOk q then .ok (.newD l xs) st1 else .stuck
    | none => .stuck) X k) := by
  simp only [evalE, wp_bind]
  all_goals rfl
theorem w_call {f : Nat} {es : List E} : (evalE cf (.call f es) env st).wp X k = (evalTs cf es env st).wp X (bnd (fun xs st1 => cf f xs st1) X k) := by simp only [evalE, wp_bind]
theorem w_prim {p : Prim} {es : List E} : (evalE cf (.prim p es) env st).wp X k = (evalTs cf es env st).wp X (bnd (fun xs st1 => lift (primT st1 p xs) st1) X k) := by simp only [evalE, wp_bind]
theorem w_isi {a : E} {t : Ty} : (evalE cf (.isi a t) env st).wp X k = (evalE cf a env st).wp X (stl (bnd (fun x st1 => lift ((isiV t (view st1 x)).map tB) st1) X k)) := by simp only [evalE, wp_bind, wp_settled]
theorem w_ix {a i : E} : (evalE cf (.ix a i) env st).wp X k = (evalE cf a env st).wp X (stl (bnd (fun x st1 => (settled (evalE cf i env st1)).bind fun y st2 => lift ((ixV (view st2 x) (view st2 y)).map .t) st2) X k)) := by simp only [evalE, wp_bind, wp_settled]
theorem w_sl {a lo hi : E} : (evalE cf (.sl a lo hi) env st).wp X k = (evalE cf a env st).wp X (stl (bnd (fun x st1 => (evalO cf lo env st1).bind fun l st2 => (evalO cf hi env st2).bind fun h st3 => lift (slV (view st3 x) l h) st3) X k)) := by simp only [evalE, wp_bind, wp_settled]
theorem w_comp {own : List Nat} {p : Pat} {it : E} {conds : List E} {elt : E} : (evalE cf (.comp own p it conds elt) env st).wp X k = (evalIt cf it env st).wp X (bnd (fun src st1 => ((loopSrc (fun x st => (lift (bindP st p x (wipe env own)) st).bind fun env' st2 => (evalCs cf conds env' st2).bind fun b st3 =>
      if b then (settled (evalE cf elt env' st3)).bind fun v st4 => .ok (some v) st4 else .ok none st3) src st1).noexc).bind fun xs st5 => .ok (.new xs) st5) X k) := by simp only [evalE, wp_bind]
theorem w_meth {m : Meth} {o : E} {es : List E} : (evalE cf (.meth m o es) env st).wp X k = (evalE cf o env st).wp X (stl (bnd (fun x st1 => match x with
    | .ref n => match st1[n]? with
      | some (.lst _) => (evalTs cf es env st1).bind fun ys st2 => match st2[n]? with
        | some (.lst xs) => match methT st2 m xs ys with
          | some (v, xs') => if olds n xs' then .ok (.t v) (st2.set n (.lst xs')) else .stuck
          | none => .stuck
        | _ => .stuck
      | _ => .stuck
    | _ => .stuck) X k)) := by
  simp only [evalE, wp_bind, wp_settled]
  all_goals rfl
theorem w_al {a : E} : (evalE cf (.al a) env st).wp X k = (evalE cf a env st).wp X (alc (bnd (fun v st1 => .ok (.t v) st1) X k)) := by simp only [evalE, wp_bind, wp_alloc]
/-- a call that is looked at -/
def ctX (hs : List (Nat × Str)) (k : RV → Store → Prop) : XC := fun c v st => oK (hs.lookup c) fun tag => k (.new [.d (.str tag), v]) st
theorem ctX_ap {hs : List (Nat × Str)} {c : Nat} {v : T} : ctX hs k c v st = oK (hs.lookup c) fun tag => k (.new [.d (.str tag), v]) st := rfl
def ctK (n : Nat) (k : RV → Store → Prop) : RV → Store → Prop := fun v st => match n with
  | 0 => k (.new []) st
  | _ => k (.new [.d (.str "told"), v.settle]) st
theorem ctK0 {v : RV} : ctK 0 k v st = k (.new []) st := rfl
theorem ctK1 {v : RV} : ctK 1 k v st = k (.new [.d (.str "told"), v.settle]) st := rfl
theorem w_caught {n : Nat} {hs : List (Nat × Str)} {a : E} : (evalE cf (.caught n hs a) env st).wp X k = (evalE cf a env st).wp (ctX hs k) (ctK n k) := by
  simp only [evalE]
  cases evalE cf a env st with
  | ok v s => cases n <;> rfl
  | stuck => rfl
  | exc c v s =>
    show (match hs.lookup c with
      | some tag => Res.ok (RV.new [.d (.str tag), v]) s
      | none => .stuck).wp X k = oK (hs.lookup c) _
    cases hs.lookup c with
    | none => exact oK_none.symm
    | some t => rw [oK_some]; rfl
theorem w_ts0 : (evalTs cf [] env st).wp X kt = kt [] st := by simp only [evalTs, wp_ok]
theorem w_ts {e : E} {es : List E} : (evalTs cf (e :: es) env st).wp X kt = (evalE cf e env st).wp X (stl (bnd (fun v st1 => (evalTs cf es env st1).bind fun vs st2 => .ok (v :: vs) st2) X kt)) := by simp only [evalTs, wp_bind, wp_settled]
theorem w_fs0 {is : List (Nat × Bool)} : (evalFs cf is [] env st).wp X kt = kt [] st := by simp only [evalFs, wp_ok]
theorem w_fs {i : Nat} {m : Bool} {is : List (Nat × Bool)} {e : E} {es : List E} : (evalFs cf ((i, m) :: is) (e :: es) env st).wp X kt = (evalF m (evalE cf e env st)).wp X (bnd (fun v st1 => (evalFs cf is es env st1).bind fun vs st2 => .ok (v :: vs) st2) X kt) := by simp only [evalFs, wp_bind]
theorem w_cs0 {kb : Bool → Store → Prop} : (evalCs cf [] env st).wp X kb = kb true st := by simp only [evalCs, wp_ok]
theorem w_cs {kb : Bool → Store → Prop} {e : E} {es : List E} : (evalCs cf (e :: es) env st).wp X kb = (evalE cf e env st).wp X (tru (bnd (fun x st1 => if x then evalCs cf es env st1 else .ok false st1) X kb)) := by simp only [evalCs, wp_bind, wp_truth]
def isHoleE : E → Bool
  | .hole => true
  | _ => false
theorem w_o0 {ko : Option Int → Store → Prop} : (evalO cf .hole env st).wp X ko = ko none st := by simp only [evalO, wp_ok]
theorem w_o {ko : Option Int → Store → Prop} {e : E} (h : isHoleE e = false) : (evalO cf e env st).wp X ko = (evalE cf e env st).wp X (stl (bnd (fun x st1 => match view st1 x with
    | .dat (.int i) => .ok (some i) st1
    | _ => .stuck) X ko)) := by
  have e1 : evalO cf e env st = (settled (evalE cf e env st)).bind fun x st1 => match view st1 x with
    | .dat (.int i) => .ok (some i) st1
    | _ => .stuck := by cases e <;> first | (cases h; done) | (rw [evalO] <;> first | rfl | exact fun z => nomatch z)
  rw [e1, wp_bind, wp_settled]
def isItE : E → Bool
  | .rng _ => true
  | .enm _ => true
  | .zp _ _ => true
  | _ => false
theorem w_it {kj : Src → Store → Prop} {e : E} (h : isItE e = false) : (evalIt cf e env st).wp X kj = (evalE cf e env st).wp X (bnd (fun v st1 => lift (srcOf st1 v) st1) X kj) := by
  have e1 : evalIt cf e env st = (evalE cf e env st).bind fun v st1 => lift (srcOf st1 v) st1 := by cases e <;> first | (cases h; done) | (simp only [evalIt]; done)
  rw [e1, wp_bind]
theorem w_rng {kj : Src → Store → Prop} {a : E} : (evalIt cf (.rng [a]) env st).wp X kj = (evalE cf a env st).wp X (stl (bnd (fun x st1 => match view st1 x with
    | .dat (.int n) => if -(big : Int) ≤ n ∧ n ≤ big then .ok (.fz (intsFrom 0 n.toNat)) st1 else .stuck
    | _ => .stuck) X kj)) := by
  simp only [evalIt, wp_bind, wp_settled]
  all_goals rfl
theorem w_rng2 {kj : Src → Store → Prop} {a b : E} : (evalIt cf (.rng [a, b]) env st).wp X kj = (evalE cf a env st).wp X (stl (bnd (fun x st1 => (settled (evalE cf b env st1)).bind fun y st2 => match view st2 x, view st2 y with
    | .dat (.int i), .dat (.int j) => if -(big : Int) ≤ i ∧ i ≤ big ∧ -(big : Int) ≤ j ∧ j - i ≤ big then .ok (.fz (intsFrom i (j - i).toNat)) st2 else .stuck
    | _, _ => .stuck) X kj)) := by
  simp only [evalIt, wp_bind, wp_settled]
  all_goals rfl
theorem w_enm {kj : Src → Store → Prop} {a : E} : (evalIt cf (.enm a) env st).wp X kj = (evalE cf a env st).wp X (bnd (fun v st1 => lift (srcE st1 v) st1) X kj) := by simp only [evalIt, wp_bind]
theorem w_zp {kj : Src → Store → Prop} {a b : E} : (evalIt cf (.zp a b) env st).wp X kj = (evalE cf a env st).wp X (stl (bnd (fun v st1 => (settled (evalE cf b env st1)).bind fun u st2 => lift (zipS (seqRV st2 (.t v)) (seqRV st2 (.t u))) st2) X kj)) := by simp only [evalIt, wp_bind, wp_settled]
/-! more expressions -/
theorem w_callk {f : Nat} {pm : List Nat} {es : List E} : (evalE cf (.callk f pm es) env st).wp X k = (evalTs cf es env st).wp X (bnd (fun xs st1 => match pick xs pm with
    | some ys => cf f ys st1
    | none => .stuck) X k) := by
  simp only [evalE, wp_bind]
  all_goals rfl
theorem w_ask {m : Ask} {o : E} {es : List E} : (evalE cf (.ask m o es) env st).wp X k = (evalE cf o env st).wp X (stl (bnd (fun x st1 => if askKind m (view st1 x) then (evalTs cf es env st1).bind fun ys st2 => lift (askT st2 m x ys) st2 else .stuck) X k)) := by simp only [evalE, wp_bind, wp_settled]
theorem w_disp {b : Bool} {bs : List Bool} {es : List E} : (evalE cf (.disp b bs es) env st).wp X k = (evalSs cf es bs env st).wp X (bnd (fun xs st1 => if xs.length ≤ big then (if b then .ok (.t (mkTup xs)) st1 else .ok (.new xs) st1) else .stuck) X k) := by simp only [evalE, wp_bind]
theorem w_ss0 {bs : List Bool} : (evalSs cf [] bs env st).wp X kt = kt [] st := by simp only [evalSs, wp_ok]
theorem w_ss {e : E} {es : List E} {bs : List Bool} : (evalSs cf (e :: es) bs env st).wp X kt = (evalE cf e env st).wp X (stl (bnd (fun v st1 => (lift (if bs.headD false then seqOf (view st1 v) else some [v]) st1).bind fun ws st1 => (evalSs cf es bs.tail env st1).bind fun vs st2 => .ok (ws ++ vs) st2) X kt)) := by simp only [evalSs, wp_bind, wp_settled]
theorem w_dcomp {own : List Nat} {p : Pat} {it : E} {conds : List E} {q v : E} : (evalE cf (.dcomp own p it conds q v) env st).wp X k = (evalIt cf it env st).wp X (bnd (fun src st1 => ((loopSrc (fun x st => (lift (bindP st p x (wipe env own)) st).bind fun env' st2 => (evalCs cf conds env' st2).bind fun b st3 =>
      if b then (settled (evalE cf q env' st3)).bind fun kx st4 => (settled (evalE cf v env' st4)).bind fun vx st5 => lift ((keyV (view st5 kx)).map fun q => some (q, vx)) st5 else .ok none st3) src st1).noexc).bind fun ps st6 => .ok (.newD (dctOf [] [] ps).1 (dctOf [] [] ps).2) st6) X k) := by simp only [evalE, wp_bind]
theorem w_lit {b : Bool} {es : List E} : (evalE cf (.lit b es) env st).wp X k = (evalTs cf es env st).wp X (bnd (fun vs st1 => (lift (rngT (vs.map (view st1))) st1).bind fun xs st2 => .ok (if b then .t (mkTup xs) else .new xs) st2) X k) := by simp only [evalE, wp_bind]
/-! statements -/
theorem x_nil : (execs cf wf [] env st).wp XS ks = ks .next env st := by simp only [execs, wps_ok]
theorem x_cons {s : S} {ss : List S} : (execs cf wf (s :: ss) env st).wp XS ks = (exec cf wf s env st).wp XS (nxt XS ks (fun env' st1 => execs cf wf ss env' st1)) := by simp only [execs, wps_seq]
theorem x_set {p : Pat} {e : E} : (exec cf wf (.set p e) env st).wp XS ks = (evalE cf e env st).wp (xe XS env) (stl (bndS (fun v st1 => bindThen (bindP st1 p v env) fun env' => .ok .next env' st1) XS ks)) := by simp only [exec, wp_then, wp_settled]
theorem x_setM {i : Nat} {e : E} : (exec cf wf (.setM i e) env st).wp XS ks = (evalE cf e env st).wp (xe XS env) (alc (bndS (fun v st1 => .ok .next (env.set i (some v)) st1) XS ks)) := by simp only [exec, wp_then, wp_alloc]
theorem x_par {is : List (Nat × Bool)} {es : List E} : (exec cf wf (.par is es) env st).wp XS ks = (evalFs cf is es env st).wp (xe XS env) (bndS (fun vs st1 => bindThen (setAll (is.map (·.1)) vs env) fun env' => .ok .next env' st1) XS ks) := by simp only [exec, wp_then]
theorem x_expr {e : E} : (exec cf wf (.expr e) env st).wp XS ks = (evalE cf e env st).wp (xe XS env) (bndS (fun _ st1 => .ok .next env st1) XS ks) := by simp only [exec, wp_then]
theorem x_ret {e : E} : (exec cf wf (.ret e) env st).wp XS ks = (evalE cf e env st).wp (xe XS env) (bndS (fun v st1 => .ok (.ret v) env st1) XS ks) := by simp only [exec, wp_then]
theorem x_retN : (exec cf wf .retN env st).wp XS ks = ks (.ret (.t (.d .none))) env st := by simp only [exec, wps_ok]
theorem x_pass : (exec cf wf .pass env st).wp XS ks = ks .next env st := by simp only [exec, wps_ok]
theorem x_ife {c : E} {a b : List S} : (exec cf wf (.ife c a b) env st).wp XS ks = (evalE cf c env st).wp (xe XS env) (tru (bndS (fun x st1 => if x then execs cf wf a env st1 else execs cf wf b env st1) XS ks)) := by simp only [exec, wp_then, wp_truth]
theorem x_for {p : Pat} {it : E} {body : List S} : (exec cf wf (.for p it body) env st).wp XS ks = (evalIt cf it env st).wp (xe XS env) (bndS (fun src st1 => forSrc (fun x env st => bindThen (bindP st p x env) fun env' => execs cf wf body env' st) src env st1) XS ks) := by simp only [exec, wp_then]
theorem x_whl {c : E} {body : List S} : (exec cf wf (.whl c body) env st).wp XS ks = (whileL (fun env st => truthOf (evalE cf c env st)) (fun env st => execs cf wf body env st) wf env st).wp XS ks := by simp only [exec]
theorem x_rais {c : Nat} {e : E} : (exec cf wf (.rais c e) env st).wp XS ks = (evalE cf e env st).wp (xe XS env) (stl (bndS (fun v st1 => .exc c v env st1) XS ks)) := by simp only [exec, wp_then, wp_settled]
theorem x_setI {o i e : E} : (exec cf wf (.setI o i e) env st).wp XS ks = (evalE cf e env st).wp (xe XS env) (stl (bndS (fun v st1 => (settled (evalE cf o env st1)).then env fun x st2 => (settled (evalE cf i env st2)).then env fun k st3 => match x with
    | .ref n => match st3[n]? with
      | some (.lst xs) => match view st3 k with
        | .dat (.int k) => match ixN xs.length k with
          | some j => if v.old n then .ok .next env (st3.set n (.lst (xs.set j v))) else .stuck
          | none => .stuck
        | _ => .stuck
      | some (.dct ks ts) => match keyV (view st3 k) with
        | some k => if v.old n ∧ ks.length < 1000 then .ok .next env (st3.set n (.dct (setK k v ks ts).1 (setK k v ks ts).2)) else .stuck
        | none => .stuck
      | _ => .stuck
    | _ => .stuck) XS ks)) := by
  simp only [exec, wp_then, wp_settled]
  all_goals rfl
/-! a call -/
def finK (n0 : Nat) (X : XC) (k : RV → Store → Prop) : KS := fun fl _ st => match fl with
  | .ret v => (leave n0 st v).wp X k
  | .next => k (.t (.d .none)) (st.take n0)
  | _ => False
theorem fin_ret {n0 : Nat} {v : RV} : finK n0 X k (.ret v) env st = (leave n0 st v).wp X k := rfl
theorem fin_next {n0 : Nat} : finK n0 X k .next env st = k (.t (.d .none)) (st.take n0) := rfl
def finX (n0 : Nat) (X : XC) : XS_ := fun c v _ st => if v.old n0 then X c v (st.take n0) else X c v st
theorem finX_d {n0 : Nat} {c : Nat} {x : D} : finX n0 X c (.d x) env st = X c (.d x) (st.take n0) := by unfold finX; rw [if_pos (by unfold T.old; rfl)]
theorem finX_old {n0 : Nat} {c : Nat} {v : T} (h : v.old n0 = true) : finX n0 X c v env st = X c v (st.take n0) := by unfold finX; rw [if_pos h]
theorem wp_callN {tbl : List Def} {n f : Nat} {args : List T} {d : Def} (h : tbl[f]? = some d) (hl : args.length = d.np) : (callN tbl wf (n + 1) f args st).wp X k = (execs (callN tbl wf n) wf d.body (startE d args) st).wp (finX st.length X) (finK st.length X k) := by
  simp only [callN, h, hl, if_true]
  cases execs (callN tbl wf n) wf d.body (startE d args) st with
  | ok fl e s => cases fl <;> rfl
  | exc c x e s =>
    show (if x.old st.length = true then Res.exc c x (s.take st.length) else Res.exc c x s).wp X k = if x.old st.length = true then X c x (s.take st.length) else X c x s
    split <;> rfl
  | stuck => rfl
theorem old_d {n : Nat} {x : D} : (T.d x).old n = true := by unfold T.old; rfl
theorem old_ref {n m : Nat} : (T.ref m).old n = decide (m < n) := by unfold T.old; rfl
theorem olds_nil {n : Nat} : olds n [] = true := by unfold olds; rfl
theorem olds_cons {n : Nat} {t : T} {ts : List T} : olds n (t :: ts) = (t.old n && olds n ts) := by conv => lhs; unfold olds
theorem olds_map {n : Nat} : ∀ {xs : List D}, olds n (xs.map .d) = true
  | [] => olds_nil
  | x :: xs => by rw [List.map_cons, olds_cons, old_d, olds_map]; rfl
theorem lv_d {n0 : Nat} {x : D} : (leave n0 st (.t (.d x))).wp X k = k (.t (.d x)) (st.take n0) := by
  simp only [leave, old_d, if_true, wp_ok]
theorem lv_n {n0 : Nat} {xs : List T} (h : olds n0 xs = true) : (leave n0 st (.new xs)).wp X k = k (.new xs) (st.take n0) := by
  simp only [leave, h, if_true, wp_ok]
theorem lv_nd {n0 : Nat} {q : List Key} {xs : List T} (h : olds n0 xs = true) : (leave n0 st (.newD q xs)).wp X k = k (.newD q xs) (st.take n0) := by
  simp only [leave, h, if_true, wp_ok]
theorem lv_old {n0 : Nat} {v : T} (h : v.old n0 = true) : (leave n0 st (.t v)).wp X k = k (.t v) (st.take n0) := by
  simp only [leave, h, if_true, wp_ok]
theorem lv_c {n0 n : Nat} {xs : List T} (h : ¬ n < n0) (hc : st[n]? = some (.lst xs)) (ho : olds n0 xs = true) : (leave n0 st (.t (.ref n))).wp X k = k (.new xs) (st.take n0) := by
  simp only [leave, old_ref, decide_eq_false h, hc, ho, if_true]
  all_goals rfl
end
/-! ### values -/
section
variable {st : Store} {xs ys : List D} {ts : List T} {i j : Int}
theorem v_int : view st (.d (.int i)) = .dat (.int i) := rfl
theorem v_bool {b : Bool} : view st (.d (.bool b)) = .dat (.bool b) := rfl
theorem v_str {x : Str} : view st (.d (.str x)) = .dat (.str x) := rfl
theorem v_none : view st (.d .none) = .dat .none := rfl
theorem v_list : view st (.d (.list xs)) = .lst (xs.map .d) := rfl
theorem v_tuple : view st (.d (.tuple xs)) = .tup (xs.map .d) := rfl
theorem v_tup : view st (.tup ts) = .tup ts := rfl
theorem v_lst : view st (.lst ts) = .lst ts := rfl
theorem v_ref {n : Nat} (h : st[n]? = some (.lst ts)) : view st (.ref n) = .lst ts := by simp only [view, h]
theorem rd_d {x : D} : rd st (.d x) = some x := by unfold rd rdF; rfl
theorem rdF_d {n : Nat} {x : D} : rdF st n (.d x) = some x := by unfold rdF; rfl
theorem mapM_rdF {n : Nat} : ∀ xs : List D, (xs.map T.d).mapM (rdF st n) = some xs
  | [] => rfl
  | x :: xs => by rw [List.map_cons, List.mapM_cons, mapM_rdF xs, rdF_d]; rfl
theorem rd_ref {n : Nat} (h : st[n]? = some (.lst (xs.map .d))) : rd st (.ref n) = some (.list xs) := by
  show rdF st 8 (.ref n) = _
  unfold rdF
  simp only [h, mapM_rdF]
  all_goals rfl
theorem st_t {v : T} : (RV.t v).settle = v := rfl
def mkL (ts : List T) : Option (List D) → T
  | some xs => .d (.list xs)
  | none => .lst ts
def mkT (ts : List T) : Option (List D) → T
  | some xs => .d (.tuple xs)
  | none => .tup ts
theorem st_n : (RV.new ts).settle = mkL ts (pures ts) := by
  show mkLst ts = _
  unfold mkLst mkL
  cases pures ts <;> rfl
theorem mk_t : mkTup ts = mkT ts (pures ts) := by
  unfold mkTup mkT
  cases pures ts <;> rfl
theorem mkL_some : mkL ts (some xs) = .d (.list xs) := rfl
theorem mkL_none : mkL ts none = .lst ts := rfl
theorem mkT_some : mkT ts (some xs) = .d (.tuple xs) := rfl
theorem mkT_none : mkT ts none = .tup ts := rfl
theorem pu_nil : pures [] = some [] := rfl
theorem pu_d {x : D} : pures (.d x :: ts) = (pures ts).map (x :: ·) := rfl
theorem pu_ref {n : Nat} : pures (.ref n :: ts) = none := rfl
theorem pu_map : ∀ {xs : List D}, pures (xs.map T.d) = some xs
  | [] => rfl
  | x :: xs => by rw [List.map_cons, pu_d, pu_map]; rfl
def atD (xs : List D) (i : Int) : Option D := (ixN xs.length i).bind fun j => xs[j]?
theorem atT_map : atT (xs.map .d) i = (atD xs i).map .d := by
  unfold atT atD
  rw [List.length_map]
  cases ixN xs.length i with
  | none => rfl
  | some j => simp
theorem at0 {t : T} : atT (t :: ts) 0 = some t := by
  unfold atT ixN
  rw [if_pos (by omega), if_pos (by simp only [List.length_cons]; omega)]
  all_goals rfl
theorem at1 {t u : T} : atT (t :: u :: ts) 1 = some u := by
  unfold atT ixN
  rw [if_pos (by omega), if_pos (by simp only [List.length_cons]; omega)]
  all_goals rfl
theorem at2 {t u v : T} : atT (t :: u :: v :: ts) 2 = some v := by
  unfold atT ixN
  rw [if_pos (by omega), if_pos (by simp only [List.length_cons]; omega)]
  all_goals rfl
theorem at3 {t u v w : T} : atT (t :: u :: v :: w :: ts) 3 = some w := by
  unfold atT ixN
  rw [if_pos (by omega), if_pos (by simp only [List.length_cons]; omega)]
  all_goals rfl
def cutD (xs : List D) (lo hi : Option Int) : List D := (xs.drop (sIx xs.length 0 lo)).take (sIx xs.length xs.length hi - sIx xs.length 0 lo)
theorem cutT_map {lo hi : Option Int} : cutT (xs.map .d) lo hi = (cutD xs lo hi).map .d := by
  unfold cutT cutD
  rw [List.length_map, List.map_take, List.map_drop]
theorem b_add : binV .add (.dat (.int i)) (.dat (.int j)) = some (.t (.d (.int (i + j)))) := rfl
theorem b_sub : binV .sub (.dat (.int i)) (.dat (.int j)) = some (.t (.d (.int (i - j)))) := rfl
theorem b_addL {us : List T} (h : ts.length + us.length ≤ big) : binV .add (.lst ts) (.lst us) = some (.new (ts ++ us)) := if_pos h
theorem b_addT {us : List T} (h : ts.length + us.length ≤ big) : binV .add (.tup ts) (.tup us) = some (.t (mkTup (ts ++ us))) := if_pos h
theorem b_mul (h : mulOk i j = true) : binV .mul (.dat (.int i)) (.dat (.int j)) = some (.t (.d (.int (i * j)))) := if_pos h
theorem b_pow (h : powOk i j = true) : binV .pow (.dat (.int i)) (.dat (.int j)) = some (.t (.d (.int (i ^ j.toNat)))) := if_pos h
theorem b_mulT (h : -1000 ≤ j ∧ j ≤ 1000 ∧ ts.length ≤ 1000) : binV .mul (.tup ts) (.dat (.int j)) = some (.t (mkTup (repT ts j))) := if_pos h
theorem b_mulL (h : 0 ≤ j ∧ j ≤ 1000 ∧ ts.length ≤ 1000) : binV .mul (.lst ts) (.dat (.int j)) = some (.new (repT ts j)) := if_pos h
theorem b_fdiv (h : 0 < j ∧ j < 1073741824) : binV .fdiv (.dat (.int i)) (.dat (.int j)) = some (.t (.d (.int (i / j)))) := if_pos h
theorem b_mod (h : 0 < j) : binV .mod (.dat (.int i)) (.dat (.int j)) = some (.t (.d (.int (i % j)))) := if_pos h
theorem c_lt : cmpD .lt (.int i) (.int j) = some (decide (i < j)) := rfl
theorem c_le : cmpD .le (.int i) (.int j) = some (decide (i ≤ j)) := rfl
theorem c_gt : cmpD .gt (.int i) (.int j) = some (decide (j < i)) := rfl
theorem c_ge : cmpD .ge (.int i) (.int j) = some (decide (j ≤ i)) := rfl
theorem shI : SeqAt.shaped (.int i) = true := by simp [SeqAt.shaped, PyData.canLay0, PyData.depth]
theorem c_eq {x y : D} (hx : SeqAt.shaped x = true) (hy : SeqAt.shaped y = true) (h : isStr y = false) : cmpD .eq x y = some (PyData.eqv x y) := by
  show eqE x y = _
  have e : eqD x y = some (PyData.eqv x y) := by
    unfold eqD
    rw [h, Bool.and_false, if_neg (by decide), hx, hy]
    rfl
  unfold eqE
  rw [e]
/-- a list and the empty one -/
theorem c_eqN {xs : List D} : cmpD .eq (.list xs) (.list []) = some xs.isEmpty := by
  show eqE _ _ = _
  unfold eqE eqD
  cases xs with
  | nil => rfl
  | cons x xs =>
    rw [if_neg (by simp [isStr])]
    cases hs : SeqAt.shaped (.list (x :: xs)) && SeqAt.shaped (.list []) with
    | true => rw [if_pos rfl]; simp [PyData.eqv, PyData.eqvAll]
    | false => rw [if_neg (by simp)]; simp [lenNe]
theorem c_ne {x y : D} (hx : SeqAt.shaped x = true) (hy : SeqAt.shaped y = true) (h : isStr y = false) : cmpD .ne x y = some (!PyData.eqv x y) := by
  show (eqD x y).map _ = _
  unfold eqD
  rw [h, Bool.and_false, if_neg (by decide), hx, hy]
  rfl
theorem c_eqS {x y : Str} : cmpD .eq (.str x) (.str y) = some (decide (x = y)) := rfl
theorem c_neS {x y : Str} : cmpD .ne (.str x) (.str y) = some (!decide (x = y)) := rfl
theorem c_eqI : cmpD .eq (.int i) (.int j) = some (decide (i = j)) := by
  rw [c_eq shI shI rfl]
  simp only [PyData.eqv]
  all_goals rfl
theorem c_neI : cmpD .ne (.int i) (.int j) = some (!decide (i = j)) := by
  rw [c_ne shI shI rfl]
  simp only [PyData.eqv]
  all_goals rfl
theorem c_isB {a b : Bool} : cmpD .is (.bool a) (.bool b) = some (a == b) := rfl
theorem c_isnotB {a b : Bool} : cmpD .isnot (.bool a) (.bool b) = some (!(a == b)) := rfl
/-- repr apart -/
theorem p_repr {x : T} : primT st .repr [x] = (rd st x).bind fun x => if reprOk x then some (.t (.d (.str x.shown))) else none := rfl
theorem p_len {vs : List T} : primT st .len vs = primV .len (vs.map (view st)) := rfl
theorem p_int {vs : List T} : primT st .int vs = primV .int (vs.map (view st)) := rfl
theorem p_max {vs : List T} : primT st .max vs = primV .max (vs.map (view st)) := rfl
theorem p_min {vs : List T} : primT st .min vs = primV .min (vs.map (view st)) := rfl
theorem p_all {vs : List T} : primT st .all vs = primV .all (vs.map (view st)) := rfl
theorem p_any {vs : List T} : primT st .any vs = primV .any (vs.map (view st)) := rfl
theorem p_tuple {vs : List T} : primT st .tuple vs = primV .tuple (vs.map (view st)) := rfl
theorem p_list {vs : List T} : primT st .list vs = primV .list (vs.map (view st)) := rfl
theorem p_sum {vs : List T} : primT st .sum vs = primV .sum (vs.map (view st)) := rfl
theorem p_sorted {vs : List T} : primT st .sorted vs = primV .sorted (vs.map (view st)) := rfl
theorem p_abs {vs : List T} : primT st .abs vs = primV .abs (vs.map (view st)) := rfl
theorem q_lenL : primV .len [.lst ts] = some (.t (.d (.int ts.length))) := rfl
theorem q_lenT : primV .len [.tup ts] = some (.t (.d (.int ts.length))) := rfl
theorem q_int : primV .int [.dat (.int i)] = some (.t (.d (.int i))) := rfl
theorem q_max2 : primV .max [.dat (.int i), .dat (.int j)] = some (.t (.d (.int (if j > i then j else i)))) := rfl
theorem q_min2 : primV .min [.dat (.int i), .dat (.int j)] = some (.t (.d (.int (if j < i then j else i)))) := rfl
theorem q_tupL : primV .tuple [.lst ts] = some (.t (mkTup ts)) := rfl
theorem q_tupT : primV .tuple [.tup ts] = some (.t (mkTup ts)) := rfl
theorem q_lstL : primV .list [.lst ts] = some (.new ts) := rfl
theorem q_lstT : primV .list [.tup ts] = some (.new ts) := rfl
theorem i_l : ixV (.lst ts) (.dat (.int i)) = atT ts i := rfl
theorem i_t : ixV (.tup ts) (.dat (.int i)) = atT ts i := rfl
theorem s_l {a b : Option Int} : slV (.lst ts) a b = some (.new (cutT ts a b)) := rfl
theorem s_t {a b : Option Int} : slV (.tup ts) a b = some (.t (mkTup (cutT ts a b))) := rfl
theorem t_bool {b : Bool} : truthV (.dat (.bool b)) = some b := rfl
theorem bp_nm {n : Nat} {v : T} {env : Env} : bindP st (.nm n) v env = some (env.set n (some v)) := by simp only [bindP]
theorem bp_tp {ps : List Pat} {env : Env} : bindP st (.tp ps) (.d (.tuple xs)) env = bindPs st ps (xs.map .d) env := by simp only [bindP, view]
theorem bp_tt {ps : List Pat} {env : Env} : bindP st (.tp ps) (.tup ts) env = bindPs st ps ts env := by simp only [bindP, view]
theorem bps0 {env : Env} : bindPs st [] [] env = some env := by simp only [bindPs]
theorem bps1 {p : Pat} {ps : List Pat} {x : T} {env : Env} : bindPs st (p :: ps) (x :: ts) env = (bindP st p x env).bind fun env' => bindPs st ps ts env' := by simp only [bindPs]
theorem sr_l : srcOf st (.t (.d (.list xs))) = some (.fz (xs.map .d)) := rfl
theorem sr_t : srcOf st (.t (.d (.tuple xs))) = some (.fz (xs.map .d)) := rfl
theorem sr_n : srcOf st (.new ts) = some (.fz ts) := rfl
theorem sr_tt : srcOf st (.t (.tup ts)) = some (.fz ts) := rfl
theorem sr_ll : srcOf st (.t (.lst ts)) = some (.fz ts) := rfl
theorem se_t : srcE st (.t (.d (.tuple xs))) = some (.fz (enumT (xs.map .d))) := rfl
theorem se_l : srcE st (.t (.d (.list xs))) = some (.fz (enumT (xs.map .d))) := rfl
theorem se_n : srcE st (.new ts) = some (.fz (enumT ts)) := rfl
theorem fs_fz {f : T → Env → Store → RS} {env : Env} : forSrc f (.fz ts) env st = forL f ts env st := rfl
theorem ls_fz {α : Type} {g : T → Store → Res (Option α)} : loopSrc g (.fz ts) st = compL g ts st := rfl
theorem tB_eq {b : Bool} : tB b = .t (.d (.bool b)) := rfl
theorem tI_eq : tI i = .t (.d (.int i)) := rfl
theorem sa0 {env : Env} : setAll [] [] env = some env := rfl
theorem sa1 {i : Nat} {is : List Nat} {v : T} {vs : List T} {env : Env} : setAll (i :: is) (v :: vs) env = setAll is vs (env.set i (some v)) := rfl
theorem isi_i {t : Ty} : isiV t (.dat (.int i)) = some (match t with | .int => true | _ => false) := by cases t <;> rfl
theorem isi_b {t : Ty} {b : Bool} : isiV t (.dat (.bool b)) = some (match t with | .int => true | .bool => true | _ => false) := by cases t <;> rfl
theorem isi_t {t : Ty} : isiV t (.tup ts) = some (match t with | .tuple => true | _ => false) := by cases t <;> rfl
theorem isi_l {t : Ty} : isiV t (.lst ts) = some (match t with | .list => true | _ => false) := by cases t <;> rfl
end
theorem v_dct {st : Store} {ks : List Key} {ts : List T} : view st (.dct ks ts) = .dct ks ts := rfl
theorem v_refD {st : Store} {n : Nat} {ks : List Key} {ts : List T} (h : st[n]? = some (.dct ks ts)) : view st (.ref n) = .dct ks ts := by simp only [view, h]
theorem i_d {ks : List Key} {ts : List T} {i : Int} : ixV (.dct ks ts) (.dat (.int i)) = getK (.inl i) ks ts := rfl
theorem i_ds {ks : List Key} {ts : List T} {x : Str} : ixV (.dct ks ts) (.dat (.str x)) = getK (.inr x) ks ts := rfl
theorem ky_i {i : Int} : keyV (.dat (.int i)) = some (.inl i) := rfl
theorem ky_s {x : Str} : keyV (.dat (.str x)) = some (.inr x) := rfl
theorem sq_l {ts : List T} : seqOf (.lst ts) = some ts := rfl
theorem sq_t {ts : List T} : seqOf (.tup ts) = some ts := rfl
theorem iv_callk {f : Nat} {pm : List Nat} {es : List E} : isItE (.callk f pm es) = false := by simp [isItE]
theorem hv_callk {f : Nat} {pm : List Nat} {es : List E} : isHoleE (.callk f pm es) = false := by simp [isHoleE]
theorem iv_ask {m : Ask} {o : E} {es : List E} : isItE (.ask m o es) = false := by simp [isItE]
theorem hv_ask {m : Ask} {o : E} {es : List E} : isHoleE (.ask m o es) = false := by simp [isHoleE]
theorem iv_disp {b : Bool} {bs : List Bool} {es : List E} : isItE (.disp b bs es) = false := by simp [isItE]
theorem iv_dcomp {own : List Nat} {p : Pat} {it : E} {conds : List E} {q v : E} : isItE (.dcomp own p it conds q v) = false := by simp [isItE]
theorem iv_lit {b : Bool} {es : List E} : isItE (.lit b es) = false := by simp [isItE]
theorem iv_caught {n : Nat} {hs : List (Nat × Str)} {a : E} : isItE (.caught n hs a) = false := by simp [isItE]
theorem iv_var {i : Nat} : isItE (.var i) = false := by simp [isItE]
theorem hv_var {i : Nat} : isHoleE (.var i) = false := by simp [isHoleE]
theorem iv_con {v : D} : isItE (.con v) = false := by simp [isItE]
theorem hv_con {v : D} : isHoleE (.con v) = false := by simp [isHoleE]
theorem iv_glo {x : Str} {v : D} : isItE (.glo x v) = false := by simp [isItE]
theorem hv_glo {x : Str} {v : D} : isHoleE (.glo x v) = false := by simp [isHoleE]
theorem iv_op {o : Op} {a b : E} : isItE (.op o a b) = false := by simp [isItE]
theorem hv_op {o : Op} {a b : E} : isHoleE (.op o a b) = false := by simp [isHoleE]
theorem iv_neg {a : E} : isItE (.neg a) = false := by simp [isItE]
theorem hv_neg {a : E} : isHoleE (.neg a) = false := by simp [isHoleE]
theorem iv_ite {c a b : E} : isItE (.ite c a b) = false := by simp [isItE]
theorem hv_ite {c a b : E} : isHoleE (.ite c a b) = false := by simp [isHoleE]
theorem iv_tup {es : List E} : isItE (.tup es) = false := by simp [isItE]
theorem hv_tup {es : List E} : isHoleE (.tup es) = false := by simp [isHoleE]
theorem iv_lst {es : List E} : isItE (.lst es) = false := by simp [isItE]
theorem hv_lst {es : List E} : isHoleE (.lst es) = false := by simp [isHoleE]
theorem iv_call {f : Nat} {es : List E} : isItE (.call f es) = false := by simp [isItE]
theorem hv_call {f : Nat} {es : List E} : isHoleE (.call f es) = false := by simp [isHoleE]
theorem iv_prim {p : Prim} {es : List E} : isItE (.prim p es) = false := by simp [isItE]
theorem hv_prim {p : Prim} {es : List E} : isHoleE (.prim p es) = false := by simp [isHoleE]
theorem iv_ix {a i : E} : isItE (.ix a i) = false := by simp [isItE]
theorem hv_ix {a i : E} : isHoleE (.ix a i) = false := by simp [isHoleE]
theorem iv_sl {a l h : E} : isItE (.sl a l h) = false := by simp [isItE]
theorem hv_sl {a l h : E} : isHoleE (.sl a l h) = false := by simp [isHoleE]
theorem iv_comp {w : List Nat} {p : Pat} {it : E} {cs : List E} {e : E} : isItE (.comp w p it cs e) = false := by simp [isItE]
theorem hv_comp {w : List Nat} {p : Pat} {it : E} {cs : List E} {e : E} : isHoleE (.comp w p it cs e) = false := by simp [isHoleE]
theorem iv_al {a : E} : isItE (.al a) = false := by simp [isItE]
theorem hv_al {a : E} : isHoleE (.al a) = false := by simp [isHoleE]
theorem iv_meth {m : Meth} {o : E} {es : List E} : isItE (.meth m o es) = false := by simp [isItE]
theorem hv_meth {m : Meth} {o : E} {es : List E} : isHoleE (.meth m o es) = false := by simp [isHoleE]
end MP
local macro_rules | `(tactic| simp! only [$ls,*]) => `(tactic| simp only [MP.w_var, MP.kV_some, MP.w_con, MP.w_glo, MP.w_op, MP.w_neg, MP.w_cmp, MP.w_chain, MP.w_and, MP.w_or, MP.w_not, MP.w_ite, MP.w_tup, MP.w_lst, MP.w_dct, MP.w_call, MP.w_prim, MP.w_isi, MP.w_ix, MP.w_sl, MP.w_comp, MP.w_meth, MP.w_al, MP.w_caught, MP.ctK0, MP.ctK1, MP.ctX_ap, MP.w_ts0, MP.w_ts, MP.w_fs0, MP.w_fs, MP.w_cs0, MP.w_cs, MP.w_o0, MP.w_o, MP.w_it, MP.iv_var, MP.hv_var, MP.iv_con, MP.hv_con, MP.iv_glo, MP.hv_glo, MP.iv_op, MP.hv_op, MP.iv_neg, MP.hv_neg, MP.iv_ite, MP.hv_ite, MP.iv_tup, MP.hv_tup, MP.iv_lst, MP.hv_lst, MP.iv_call, MP.hv_call, MP.iv_prim, MP.hv_prim, MP.iv_ix, MP.hv_ix, MP.iv_sl, MP.hv_sl, MP.iv_comp, MP.hv_comp, MP.iv_al, MP.hv_al, MP.iv_meth, MP.hv_meth, MP.w_rng, MP.w_rng2, MP.w_enm, MP.w_zp, MP.w_callk, MP.w_ask, MP.w_disp, MP.w_ss0, MP.w_ss, MP.w_dcomp, MP.w_lit, MP.v_dct, MP.v_refD, MP.i_d, MP.i_ds, MP.ky_i, MP.ky_s, MP.sq_l, MP.sq_t, MP.iv_callk, MP.hv_callk, MP.iv_ask, MP.hv_ask, MP.iv_disp, MP.iv_dcomp, MP.iv_lit, List.headD_cons, List.headD_nil, List.tail_cons, List.tail_nil, MP.askKind, MP.x_nil, MP.x_cons, MP.x_set, MP.x_setM, MP.x_par, MP.x_expr, MP.x_ret, MP.x_retN, MP.x_pass, MP.x_ife, MP.x_for, MP.x_rais, MP.x_setI, MP.fin_ret, MP.fin_next, MP.finX_d, MP.old_d, MP.olds_nil, MP.olds_cons, MP.olds_map, MP.lv_d, MP.lv_n, MP.lv_nd, MP.wp_ok, MP.wp_exc, MP.wp_stuck, MP.wp_bind, MP.bnd_ap, MP.at_ap, MP.stl_ap, MP.alc_t, MP.alc_n, MP.alc_d, MP.wp_lift, MP.wp_settled, MP.wp_alloc, MP.tru_ap, MP.wp_truth, MP.wp_evF, MP.wp_evT, MP.wp_noexc, MP.xe_ap, MP.bndS_ap, MP.wp_then, MP.wps_ok, MP.wps_exc, MP.wps_stuck, MP.bT_ap, MP.wp_bt, MP.nxt_next, MP.nxt_ret, MP.nxt_brk, MP.nxt_cont, MP.oK_some, MP.v_int, MP.v_bool, MP.v_str, MP.v_none, MP.v_list, MP.v_tuple, MP.v_tup, MP.v_lst, MP.v_ref, MP.rd_d, MP.rd_ref, MP.st_t, MP.st_n, MP.mk_t, MP.mkL_some, MP.mkL_none, MP.mkT_some, MP.mkT_none, MP.pu_nil, MP.pu_d, MP.pu_ref, MP.pu_map, MP.atT_map, MP.at0, MP.at1, MP.at2, MP.at3, MP.cutT_map, MP.b_add, MP.b_sub, MP.c_lt, MP.c_le, MP.c_gt, MP.c_ge, MP.c_eqI, MP.c_neI, MP.c_eqS, MP.c_neS, MP.c_isB, MP.c_isnotB, MP.p_repr, MP.p_len, MP.p_int, MP.p_max, MP.p_min, MP.p_all, MP.p_any, MP.p_tuple, MP.p_list, MP.p_sum, MP.p_sorted, MP.p_abs, MP.q_lenL, MP.q_lenT, MP.q_int, MP.q_max2, MP.q_min2, MP.q_tupL, MP.q_tupT, MP.q_lstL, MP.q_lstT, MP.i_l, MP.i_t, MP.s_l, MP.s_t, MP.t_bool, MP.bp_nm, MP.bp_tp, MP.bp_tt, MP.bps0, MP.bps1, MP.sr_l, MP.sr_t, MP.sr_n, MP.sr_tt, MP.sr_ll, MP.se_t, MP.se_l, MP.se_n, MP.fs_fz, MP.ls_fz, MP.tB_eq, MP.tI_eq, MP.sa0, MP.sa1, MP.startE, MP.wipe, List.map_cons, List.map_nil, List.length_cons, List.length_nil, List.length_map, List.replicate, List.cons_append, List.nil_append, List.append_nil, Nat.reduceAdd, Nat.reduceSub, Nat.reduceMul, List.getElem?_cons_zero, List.getElem?_cons_succ, List.getElem?_nil, List.set_cons_zero, List.set_cons_succ, Option.map_some, Option.map_none, Option.bind_some, Bool.not_true, Bool.not_false, Bool.and_true, Bool.true_and, if_true, if_false, Bool.false_eq_true, true_and, and_true, $ls,*])

namespace Lw
open PySem PySem.Spec PyProof.Rows L2 MP
def d_is_count : Def := ⟨3, 3, [(.ret (.and (.isi (.var 0) .int) (.and (.not (.isi (.var 0) .bool)) (.chain .le .le (.var 1) (.var 0) (.var 2)))))]⟩
def d_are_widths : Def := ⟨1, 2, [(.ife (.or (.not (.isi (.var 0) .tuple)) (.not (.chain .le .le (.con (.int 1)) (.prim .len [(.var 0)]) (.glo (Str.ofString "MOST_PLACES") (.int 17))))) [(.ret (.con (.bool false)))] []), (.ret (.prim .all [(.comp [1] (.nm 1) (.var 0) [] (.call 0 [(.var 1), (.con (.int 0)), (.glo (Str.ofString "MOST_WIDTH") (.int 8))]))]))]⟩
def d_choices_of : Def := ⟨2, 8, [(.set (.nm 2) (.lst [(.tup [])])), (.for (.tp [(.nm 3), (.nm 4)]) (.var 0) [(.setM 5 (.lst [])), (.for (.nm 6) (.var 2) [(.expr (.meth .extend (.var 5) [(.comp [7] (.nm 7) (.rng [(.op .add (.prim .min [(.var 4), (.op .sub (.var 1) (.prim .sum [(.var 6)]))]) (.con (.int 1)))]) [] (.disp true [true, false] [(.var 6), (.var 7)]))]))]), (.set (.nm 2) (.var 5))]), (.ret (.var 2))]⟩
def d_gone_on : Def := ⟨3, 12, [(.set (.tp [(.nm 5), (.nm 6)]) (.var 0)), (.setM 3 (.lst [])), (.for (.nm 4) (.call 2 [(.var 6), (.var 2)]) [(.par [(7, true), (8, true)] [(.prim .list [(.var 5)]), (.lst [])]), (.for (.tp [(.nm 9), (.tp [(.nm 10), (.nm 11)])]) (.zp (.var 4) (.var 6)) [(.ife (.cmp .lt (.var 9) (.var 11)) [(.expr (.meth .append (.var 7) [(.tup [(.var 10), (.op .sub (.var 1) (.con (.int 1))), (.op .sub (.var 11) (.var 9))])]))] []), (.ife (.cmp .gt (.var 9) (.con (.int 0))) [(.expr (.meth .append (.var 8) [(.tup [(.var 10), (.var 9)])]))] [])]), (.ife (.cmp .lt (.prim .sum [(.var 4)]) (.var 2)) [(.expr (.meth .append (.var 8) [(.tup [(.var 1), (.op .sub (.var 2) (.prim .sum [(.var 4)]))])]))] []), (.expr (.meth .append (.var 3) [(.tup [(.prim .tuple [(.var 7)]), (.prim .tuple [(.var 8)])])]))]), (.ret (.var 3))]⟩
def d_all_ended : Def := ⟨2, 6, [(.set (.tp [(.nm 2), (.nm 3)]) (.var 0)), (.ret (.prim .tuple [(.prim .sorted [(.op .add (.var 2) (.prim .tuple [(.comp [4, 5] (.tp [(.nm 4), (.nm 5)]) (.var 3) [] (.tup [(.var 4), (.var 1), (.var 5)]))]))])]))]⟩
def d_heaps_with : Def := ⟨1, 5, [(.ife (.not (.call 1 [(.var 0)])) [(.rais 9 (.var 0))] []), (.set (.nm 1) (.lst [(.tup [(.tup []), (.ite (.cmp .gt (.ix (.var 0) (.con (.int 0))) (.con (.int 0))) (.tup [(.tup [(.con (.int 0)), (.ix (.var 0) (.con (.int 0)))])]) (.tup []))])])), (.for (.nm 2) (.rng [(.con (.int 1)), (.prim .len [(.var 0)])]) [(.setM 3 (.lst [])), (.for (.nm 4) (.var 1) [(.expr (.meth .extend (.var 3) [(.call 3 [(.var 4), (.var 2), (.ix (.var 0) (.var 2))])])), (.ife (.cmp .gt (.prim .len [(.var 3)]) (.glo (Str.ofString "MOST_HEAPS") (.int 1000))) [(.rais 10 (.glo (Str.ofString "MOST_HEAPS") (.int 1000)))] [])]), (.set (.nm 1) (.var 3))]), (.ret (.prim .sorted [(.comp [4] (.nm 4) (.var 1) [] (.call 4 [(.var 4), (.op .sub (.prim .len [(.var 0)]) (.con (.int 1)))]))]))]⟩
def d__law_tape : Def := ⟨2, 5, [(.set (.nm 2) (.op .add (.con (.int 101)) (.op .mul (.var 1) (.con (.int 53))))), (.for (.nm 3) (.var 0) [(.set (.nm 2) (.op .add (.op .mod (.prim .int [(.op .pow (.op .add (.op .add (.op .mul (.var 2) (.con (.int 30029))) (.op .mul (.var 3) (.var 3))) (.con (.int 13))) (.con (.int 2)))]) (.con (.int 2147483563))) (.con (.int 2))))]), (.set (.nm 4) (.ite (.and (.cmp .lt (.var 1) (.prim .len [(.var 0)])) (.cmp .ge (.ix (.var 0) (.var 1)) (.op .pow (.con (.int 10)) (.con (.int 18))))) (.op .sub (.ix (.var 0) (.var 1)) (.op .pow (.con (.int 10)) (.con (.int 18)))) (.con (.int 0)))), (.ret (.dct [(.str (Str.ofString "digits")), (.str (Str.ofString "mixed"))] [(.var 4), (.var 2)]))]⟩
def d__law_pick : Def := ⟨2, 4, [(.ife (.cmp .ge (.ix (.var 0) (.con (.str (Str.ofString "digits")))) (.var 1)) [(.set (.nm 3) (.op .mod (.prim .int [(.ix (.var 0) (.con (.str (Str.ofString "digits"))))]) (.var 1))), (.setI (.var 0) (.con (.str (Str.ofString "digits"))) (.op .fdiv (.ix (.var 0) (.con (.str (Str.ofString "digits")))) (.var 1))), (.ret (.var 3))] []), (.setI (.var 0) (.con (.str (Str.ofString "mixed"))) (.op .mod (.prim .int [(.op .add (.op .mul (.ix (.var 0) (.con (.str (Str.ofString "mixed")))) (.con (.int 40014))) (.con (.int 1031)))]) (.con (.int 2147483563)))), (.set (.nm 2) (.op .mod (.prim .int [(.op .pow (.ix (.var 0) (.con (.str (Str.ofString "mixed")))) (.con (.int 2)))]) (.con (.int 2147483399)))), (.ret (.op .mod (.prim .int [(.op .fdiv (.op .mod (.prim .int [(.op .pow (.var 2) (.con (.int 3)))]) (.con (.int 998244353))) (.con (.int 13)))]) (.var 1)))]⟩
def d__law_one_of : Def := ⟨2, 2, [(.ret (.ix (.var 1) (.call 7 [(.var 0), (.prim .len [(.var 1)])])))]⟩
def d__law_heaps : Def := ⟨1, 12, [(.set (.nm 1) (.prim .len [(.var 0)])), (.set (.nm 2) (.lst [])), (.for (.nm 3) (.rng [(.var 1)]) [(.set (.nm 2) (.op .add (.var 2) (.comp [5] (.nm 5) (.rng [(.var 3), (.var 1)]) [] (.tup [(.var 3), (.var 5)]))))]), (.set (.nm 4) (.lst [(.tup [(.tup []), (.var 0)])])), (.for (.tp [(.nm 3), (.nm 5)]) (.var 2) [(.setM 6 (.lst [])), (.for (.tp [(.nm 7), (.nm 8)]) (.var 4) [(.for (.nm 9) (.rng [(.op .add (.prim .min [(.sl (.var 8) (.var 3) (.op .add (.var 5) (.con (.int 1))))]) (.con (.int 1)))]) [(.set (.nm 10) (.prim .tuple [(.comp [11] (.nm 11) (.rng [(.var 1)]) [] (.op .sub (.ix (.var 8) (.var 11)) (.op .mul (.var 9) (.prim .int [(.chain .le .le (.var 3) (.var 11) (.var 5))]))))])), (.ife (.or (.cmp .lt (.var 5) (.op .sub (.var 1) (.con (.int 1)))) (.cmp .eq (.ix (.var 10) (.var 3)) (.con (.int 0)))) [(.expr (.meth .append (.var 6) [(.tup [(.op .add (.var 7) (.op .mul (.tup [(.tup [(.var 3), (.var 5), (.var 9)])]) (.prim .int [(.cmp .gt (.var 9) (.con (.int 0)))]))), (.var 10)])]))] [])])]), (.set (.nm 4) (.var 6))]), (.ret (.prim .sorted [(.comp [7, 8] (.tp [(.nm 7), (.nm 8)]) (.var 4) [] (.var 7))]))]⟩
def d_law : Def := ⟨1, 13, [(.for (.nm 1) (.rng [(.prim .max [(.con (.int 1)), (.prim .min [(.con (.int 3)), (.prim .len [(.var 0)])])])]) [(.setM 4 (.call 6 [(.var 0), (.var 1)])), (.for (.nm 5) (.rng [(.con (.int 3))]) [(.set (.nm 6) (.call 8 [(.var 4), (.lst [(.con (.int 1)), (.con (.int 2)), (.con (.int 3))])])), (.set (.nm 7) (.prim .tuple [(.comp [12] (.nm 12) (.rng [(.call 8 [(.var 4), (.lst [(.con (.int 1)), (.con (.int 2)), (.con (.int 3)), (.con (.int 3)), (.ite (.cmp .lt (.var 6) (.con (.int 3))) (.con (.int 4)) (.con (.int 2)))])])]) [] (.call 7 [(.var 4), (.op .add (.var 6) (.con (.int 1)))]))])), (.set (.nm 8) (.call 9 [(.var 7)])), (.for (.nm 9) (.lst [(.al (.call 5 [(.var 7)])), (.al (.callk 5 [0] [(.var 7)]))]) [(.ife (.cmp .ne (.prim .repr [(.var 9)]) (.prim .repr [(.var 8)])) [(.ret (.con (.bool false)))] []), (.expr (.meth .append (.var 9) [(.con .none)]))]), (.set (.nm 10) (.call 8 [(.var 4), (.lst [(.con .none), (.lst []), (.tup []), (.lst [(.con (.int 1)), (.con (.int 2))]), (.tup [(.con (.int 9))]), (.tup [(.op .sub (.con (.int 0)) (.con (.int 1))), (.con (.int 1))]), (.tup [(.con (.bool true))]), (.tup [(.con (.int 1)), (.con .none)]), (.op .mul (.tup [(.con (.int 1))]) (.con (.int 18))), (.con (.str (Str.ofString "11"))), (.con (.int 3)), (.tup [(.tup [(.con (.int 1))])])])])), (.set (.nm 11) (.call 8 [(.var 4), (.lst [(.op .mul (.tup [(.con (.int 8))]) (.con (.int 5))), (.op .mul (.tup [(.con (.int 3))]) (.con (.int 9))), (.op .mul (.tup [(.con (.int 2))]) (.con (.int 17))), (.op .mul (.tup [(.con (.int 8))]) (.con (.int 17))), (.op .mul (.tup [(.con (.int 1))]) (.con (.int 17)))])])), (.ife (.cmp .ne (.prim .repr [(.lst [(.caught 0 [(5, (Str.ofString "prime")), (8, (Str.ofString "width")), (7, (Str.ofString "signs")), (1, (Str.ofString "heap")), (9, (Str.ofString "widths")), (3, (Str.ofString "line")), (4, (Str.ofString "pair")), (6, (Str.ofString "sign")), (2, (Str.ofString "joining")), (10, (Str.ofString "many"))] (.call 5 [(.var 10)])), (.caught 0 [(5, (Str.ofString "prime")), (8, (Str.ofString "width")), (7, (Str.ofString "signs")), (1, (Str.ofString "heap")), (9, (Str.ofString "widths")), (3, (Str.ofString "line")), (4, (Str.ofString "pair")), (6, (Str.ofString "sign")), (2, (Str.ofString "joining")), (10, (Str.ofString "many"))] (.call 5 [(.var 11)]))])]) (.prim .repr [(.lst [(.lst [(.con (.str (Str.ofString "widths"))), (.var 10)]), (.lst [(.con (.str (Str.ofString "many"))), (.con (.int 1000))])])])) [(.ret (.con (.bool false)))] [])])]), (.set (.nm 2) (.lst [(.tup [(.con (.int 6)), (.con (.int 7)), (.con (.int 2)), (.con (.int 8))]), (.tup [(.con (.int 3)), (.con (.int 4)), (.con (.int 3)), (.con (.int 8))]), (.tup [(.con (.int 5)), (.con (.int 6)), (.con (.int 8)), (.con (.int 1))]), (.tup [(.con (.int 2)), (.con (.int 3)), (.con (.int 2)), (.con (.int 3)), (.con (.int 2))]), (.tup [(.con (.int 1)), (.con (.int 1)), (.con (.int 1)), (.con (.int 1)), (.con (.int 1)), (.con (.int 1)), (.con (.int 1)), (.con (.int 1))]), (.tup [(.con (.int 8)), (.con (.int 8))]), (.tup [(.con (.int 4)), (.con (.int 8)), (.con (.int 4))])])), (.set (.nm 3) (.call 8 [(.al (.call 6 [(.var 0), (.con (.int 0))])), (.var 2)])), (.ife (.or (.cmp .ne (.prim .repr [(.call 5 [(.var 3)])]) (.prim .repr [(.call 9 [(.var 3)])])) (.cmp .ne (.caught 0 [(5, (Str.ofString "prime")), (8, (Str.ofString "width")), (7, (Str.ofString "signs")), (1, (Str.ofString "heap")), (9, (Str.ofString "widths")), (3, (Str.ofString "line")), (4, (Str.ofString "pair")), (6, (Str.ofString "sign")), (2, (Str.ofString "joining")), (10, (Str.ofString "many"))] (.call 5 [(.op .mul (.tup [(.con (.int 1))]) (.con (.int 11)))])) (.lst [(.con (.str (Str.ofString "many"))), (.con (.int 1000))]))) [(.ret (.con (.bool false)))] []), (.ret (.and (.cmp .eq (.call 5 [(.tup [(.con (.int 8))])]) (.lst [(.tup [(.tup [(.con (.int 0)), (.con (.int 0)), (.con (.int 8))])])])) (.and (.cmp .eq (.call 5 [(.tup [(.con (.int 0))])]) (.lst [(.tup [])])) (.cmp .eq (.lst [(.prim .len [(.call 5 [(.op .mul (.tup [(.con (.int 1))]) (.con (.int 10)))])]), (.prim .len [(.call 5 [(.tup [(.con (.int 2)), (.con (.int 4)), (.con (.int 4)), (.con (.int 3)), (.con (.int 3))])])])]) (.lst [(.con (.int 512)), (.con (.int 1000))])))))]⟩
def tbl : List Def := [d_is_count, d_are_widths, d_choices_of, d_gone_on, d_all_ended, d_heaps_with, d__law_tape, d__law_pick, d__law_one_of, d__law_heaps, d_law]
def top (i : Nat) : Stmt := PySem.Challenge.pw_staybars_k74_heaps_with_widths.main.body.getD i (.Pass ⟨0, 0, 0, 0⟩)
def mkD (i : Nat) (x : Str) : He.DefD := ⟨(x, none), x, x, defArgs (top i), defBody (top i), defScope (top i), [], []⟩
def clsBody : Stmt → List Stmt
  | .ClassDef _ _ _ b .. => b
  | _ => []
def initS : Stmt := (clsBody (top 1)).getD 0 (.Pass ⟨0, 0, 0, 0⟩)
def gb : Gb := { fns := [(Str.ofString "is_count"), (Str.ofString "are_widths"), (Str.ofString "choices_of"), (Str.ofString "gone_on"), (Str.ofString "all_ended"), (Str.ofString "heaps_with"), (Str.ofString "_law_tape"), (Str.ofString "_law_pick"), (Str.ofString "_law_one_of"), (Str.ofString "_law_heaps"), (Str.ofString "law")], free := [(Str.ofString "all"), (Str.ofString "bool"), (Str.ofString "int"), (Str.ofString "isinstance"), (Str.ofString "len"), (Str.ofString "list"), (Str.ofString "max"), (Str.ofString "min"), (Str.ofString "range"), (Str.ofString "repr"), (Str.ofString "sorted"), (Str.ofString "sum"), (Str.ofString "super"), (Str.ofString "tuple"), (Str.ofString "zip")], nums := [("MOST_WIDTH", 8), ("MOST_PLACES", 17), ("MOST_HEAPS", 1000)], tups := [], cls := [(Str.ofString "StayError"), (Str.ofString "BadHeap"), (Str.ofString "BadJoining"), (Str.ofString "BadLine"), (Str.ofString "BadPair"), (Str.ofString "BadPrime"), (Str.ofString "BadSign"), (Str.ofString "BadSigns"), (Str.ofString "BadWidth"), (Str.ofString "BadWidths"), (Str.ofString "TooMany")], kws := [(5, [(Str.ofString "widths")], [0])], cats := [("_law_stopped", 0, [(5, (Str.ofString "prime")), (8, (Str.ofString "width")), (7, (Str.ofString "signs")), (1, (Str.ofString "heap")), (9, (Str.ofString "widths")), (3, (Str.ofString "line")), (4, (Str.ofString "pair")), (6, (Str.ofString "sign")), (2, (Str.ofString "joining")), (10, (Str.ofString "many"))])] }
def hq : Hq where
  P := PySem.Challenge.pw_staybars_k74_heaps_with_widths
  n := 6
  fns := [mkD 14 "is_count", mkD 18 "are_widths", mkD 19 "choices_of", mkD 20 "gone_on", mkD 21 "all_ended", mkD 22 "heaps_with", mkD 24 "_law_tape", mkD 25 "_law_pick", mkD 26 "_law_one_of", mkD 27 "_law_stopped", mkD 28 "_law_heaps", mkD 29 "law"]
  glos := [(Str.ofString "is_count"), (Str.ofString "are_widths"), (Str.ofString "choices_of"), (Str.ofString "gone_on"), (Str.ofString "all_ended"), (Str.ofString "heaps_with"), (Str.ofString "_law_tape"), (Str.ofString "_law_pick"), (Str.ofString "_law_one_of"), (Str.ofString "_law_stopped"), (Str.ofString "_law_heaps"), (Str.ofString "law"), (Str.ofString "StayError"), (Str.ofString "BadHeap"), (Str.ofString "BadJoining"), (Str.ofString "BadLine"), (Str.ofString "BadPair"), (Str.ofString "BadPrime"), (Str.ofString "BadSign"), (Str.ofString "BadSigns"), (Str.ofString "BadWidth"), (Str.ofString "BadWidths"), (Str.ofString "TooMany")]
  free := [(Str.ofString "all"), (Str.ofString "bool"), (Str.ofString "int"), (Str.ofString "isinstance"), (Str.ofString "len"), (Str.ofString "list"), (Str.ofString "max"), (Str.ofString "min"), (Str.ofString "range"), (Str.ofString "repr"), (Str.ofString "sorted"), (Str.ofString "sum"), (Str.ofString "super"), (Str.ofString "tuple"), (Str.ofString "zip")]
  nums := [("MOST_WIDTH", 8), ("MOST_PLACES", 17), ("MOST_HEAPS", 1000)]
  tups := []
  cls := [(Str.ofString "StayError"), (Str.ofString "BadHeap"), (Str.ofString "BadJoining"), (Str.ofString "BadLine"), (Str.ofString "BadPair"), (Str.ofString "BadPrime"), (Str.ofString "BadSign"), (Str.ofString "BadSigns"), (Str.ofString "BadWidth"), (Str.ofString "BadWidths"), (Str.ofString "TooMany")]
  tf := [("law", none)]
  ini := some ("__init__", "StayError.__init__", defArgs initS, .stmts (defBody initS), defScope initS, mainGlobals, builtinsNs)
abbrev hrow : PySem.W.OpenRow := PySem.W.OpenLaw.row PySem.Challenge.rw_staybars_k74_heaps_with_widths
def hob (s : PySem.W.SharedT) : Hq.Al := hq.obsG (HandSHeadRun.getT s)
theorem hob_eq (s : PySem.W.SharedT) : hob s = hq.hook.obs s.abs := Hq.obs_eq (HandSHeadRun.getT_eq s)
theorem hrun (w : World) : HandSHeadRun.RunEq hrow (PySem.W.view hrow.prog [29]) hq.hook hob 8000 [(Str.ofString "StayError"), (Str.ofString "BadHeap"), (Str.ofString "BadJoining"), (Str.ofString "BadLine"), (Str.ofString "BadPair"), (Str.ofString "BadPrime"), (Str.ofString "BadSign"), (Str.ofString "BadSigns"), (Str.ofString "BadWidth"), (Str.ofString "BadWidths"), (Str.ofString "TooMany"), (Str.ofString "MOST_WIDTH"), (Str.ofString "is_count"), (Str.ofString "MOST_PLACES"), (Str.ofString "MOST_HEAPS"), (Str.ofString "are_widths"), (Str.ofString "choices_of"), (Str.ofString "gone_on"), (Str.ofString "all_ended"), (Str.ofString "heaps_with"), (Str.ofString "_law_tape"), (Str.ofString "_law_pick"), (Str.ofString "_law_one_of"), (Str.ofString "_law_stopped"), (Str.ofString "_law_heaps")] w := by
  intro os
  kernel_rfl
def nm_is_count : List Str := [(Str.ofString "value"), (Str.ofString "low"), (Str.ofString "high")]
def ps_is_count : List Str := [(Str.ofString "value"), (Str.ofString "low"), (Str.ofString "high")]
theorem sc_is_count : FnScope nm_is_count ps_is_count (defScope (top 14)) := ⟨rfl, rfl, rfl, by decide +kernel, rfl, by decide +kernel, by decide +kernel⟩
theorem ok_is_count : okSs { gb with lm := false } nm_is_count (defScope (top 14)) (fun _ => true) d_is_count.body (defBody (top 14)) = true := by decide +kernel
theorem at_is_count {K : Fg} {h : Heap} {mg : Str → Option Value} (X : K.In h) (G : h.Ns mainGlobals mg) (c : hq.Says h K) : DefAt K mg (hq.cs K) (hq.bs K) gb 0 "is_count" d_is_count :=
  defAt_of (i := 0) false X G c (by decide +kernel) rfl sc_is_count rfl rfl ok_is_count (fun z => nomatch z) (fun _ _ _ _ _ _ us hl => match us, hl with | [_, _, _], _ => rfl) fun _ _ hm => nomatch (kw_of (l := []) hm rfl)
def nm_are_widths : List Str := [(Str.ofString "value"), (Str.ofString "width")]
def ps_are_widths : List Str := [(Str.ofString "value")]
theorem sc_are_widths : FnScope nm_are_widths ps_are_widths (defScope (top 18)) := ⟨rfl, rfl, rfl, by decide +kernel, rfl, by decide +kernel, by decide +kernel⟩
theorem ok_are_widths : okSs { gb with lm := false } nm_are_widths (defScope (top 18)) (fun _ => true) d_are_widths.body (defBody (top 18)) = true := by decide +kernel
theorem at_are_widths {K : Fg} {h : Heap} {mg : Str → Option Value} (X : K.In h) (G : h.Ns mainGlobals mg) (c : hq.Says h K) : DefAt K mg (hq.cs K) (hq.bs K) gb 1 "are_widths" d_are_widths :=
  defAt_of (i := 1) false X G c (by decide +kernel) rfl sc_are_widths rfl rfl ok_are_widths (fun z => nomatch z) (fun _ _ _ _ _ _ us hl => match us, hl with | [_], _ => rfl) fun _ _ hm => nomatch (kw_of (l := []) hm rfl)
def nm_choices_of : List Str := [(Str.ofString "going"), (Str.ofString "width"), (Str.ofString "choices"), (Str.ofString "birth"), (Str.ofString "often"), (Str.ofString "longer"), (Str.ofString "choice"), (Str.ofString "many")]
def ps_choices_of : List Str := [(Str.ofString "going"), (Str.ofString "width")]
theorem sc_choices_of : FnScope nm_choices_of ps_choices_of (defScope (top 19)) := ⟨rfl, rfl, rfl, by decide +kernel, rfl, by decide +kernel, by decide +kernel⟩
theorem ok_choices_of : okSs { gb with lm := false } nm_choices_of (defScope (top 19)) (fun _ => true) d_choices_of.body (defBody (top 19)) = true := by decide +kernel
theorem at_choices_of {K : Fg} {h : Heap} {mg : Str → Option Value} (X : K.In h) (G : h.Ns mainGlobals mg) (c : hq.Says h K) : DefAt K mg (hq.cs K) (hq.bs K) gb 2 "choices_of" d_choices_of :=
  defAt_of (i := 2) false X G c (by decide +kernel) rfl sc_choices_of rfl rfl ok_choices_of (fun z => nomatch z) (fun _ _ _ _ _ _ us hl => match us, hl with | [_, _], _ => rfl) fun _ _ hm => nomatch (kw_of (l := []) hm rfl)
def nm_gone_on : List Str := [(Str.ofString "state"), (Str.ofString "k"), (Str.ofString "width"), (Str.ofString "states"), (Str.ofString "choice"), (Str.ofString "ended"), (Str.ofString "going"), (Str.ofString "rows"), (Str.ofString "later"), (Str.ofString "many"), (Str.ofString "birth"), (Str.ofString "often")]
def ps_gone_on : List Str := [(Str.ofString "state"), (Str.ofString "k"), (Str.ofString "width")]
theorem sc_gone_on : FnScope nm_gone_on ps_gone_on (defScope (top 20)) := ⟨rfl, rfl, rfl, by decide +kernel, rfl, by decide +kernel, by decide +kernel⟩
theorem ok_gone_on : okSs { gb with lm := false } nm_gone_on (defScope (top 20)) (fun _ => true) d_gone_on.body (defBody (top 20)) = true := by decide +kernel
theorem at_gone_on {K : Fg} {h : Heap} {mg : Str → Option Value} (X : K.In h) (G : h.Ns mainGlobals mg) (c : hq.Says h K) : DefAt K mg (hq.cs K) (hq.bs K) gb 3 "gone_on" d_gone_on :=
  defAt_of (i := 3) false X G c (by decide +kernel) rfl sc_gone_on rfl rfl ok_gone_on (fun z => nomatch z) (fun _ _ _ _ _ _ us hl => match us, hl with | [_, _, _], _ => rfl) fun _ _ hm => nomatch (kw_of (l := []) hm rfl)
def nm_all_ended : List Str := [(Str.ofString "state"), (Str.ofString "last"), (Str.ofString "ended"), (Str.ofString "going"), (Str.ofString "birth"), (Str.ofString "often")]
def ps_all_ended : List Str := [(Str.ofString "state"), (Str.ofString "last")]
theorem sc_all_ended : FnScope nm_all_ended ps_all_ended (defScope (top 21)) := ⟨rfl, rfl, rfl, by decide +kernel, rfl, by decide +kernel, by decide +kernel⟩
theorem ok_all_ended : okSs { gb with lm := false } nm_all_ended (defScope (top 21)) (fun _ => true) d_all_ended.body (defBody (top 21)) = true := by decide +kernel
theorem at_all_ended {K : Fg} {h : Heap} {mg : Str → Option Value} (X : K.In h) (G : h.Ns mainGlobals mg) (c : hq.Says h K) : DefAt K mg (hq.cs K) (hq.bs K) gb 4 "all_ended" d_all_ended :=
  defAt_of (i := 4) false X G c (by decide +kernel) rfl sc_all_ended rfl rfl ok_all_ended (fun z => nomatch z) (fun _ _ _ _ _ _ us hl => match us, hl with | [_, _], _ => rfl) fun _ _ hm => nomatch (kw_of (l := []) hm rfl)
def nm_heaps_with : List Str := [(Str.ofString "widths"), (Str.ofString "states"), (Str.ofString "k"), (Str.ofString "longer"), (Str.ofString "state")]
def ps_heaps_with : List Str := [(Str.ofString "widths")]
theorem sc_heaps_with : FnScope nm_heaps_with ps_heaps_with (defScope (top 22)) := ⟨rfl, rfl, rfl, by decide +kernel, rfl, by decide +kernel, by decide +kernel⟩
theorem ok_heaps_with : okSs { gb with lm := false } nm_heaps_with (defScope (top 22)) (fun _ => true) d_heaps_with.body (defBody (top 22)) = true := by decide +kernel
theorem at_heaps_with {K : Fg} {h : Heap} {mg : Str → Option Value} (X : K.In h) (G : h.Ns mainGlobals mg) (c : hq.Says h K) : DefAt K mg (hq.cs K) (hq.bs K) gb 5 "heaps_with" d_heaps_with :=
  defAt_of (i := 5) false X G c (by decide +kernel) rfl sc_heaps_with rfl rfl ok_heaps_with (fun z => nomatch z) (fun _ _ _ _ _ _ us hl => match us, hl with | [_], _ => rfl) (by
    intro ks pmu hm
    have h := kw_of (l := [([(Str.ofString "widths")], [0])]) hm rfl
    simp only [List.mem_cons, List.not_mem_nil, or_false, Prod.mk.injEq] at h
    rcases h with ⟨rfl, rfl⟩
    · exact fun _ _ _ _ _ _ us hl => match us, hl with | [_], _ => ⟨_, rfl, rfl⟩)
def nm__law_tape : List Str := [(Str.ofString "_law_script"), (Str.ofString "_law_first"), (Str.ofString "_law_mixed"), (Str.ofString "_law_cell"), (Str.ofString "_law_digits")]
def ps__law_tape : List Str := [(Str.ofString "_law_script"), (Str.ofString "_law_first")]
theorem sc__law_tape : FnScope nm__law_tape ps__law_tape (defScope (top 24)) := ⟨rfl, rfl, rfl, by decide +kernel, rfl, by decide +kernel, by decide +kernel⟩
theorem ok__law_tape : okSs { gb with lm := false } nm__law_tape (defScope (top 24)) (fun _ => true) d__law_tape.body (defBody (top 24)) = true := by decide +kernel
theorem at__law_tape {K : Fg} {h : Heap} {mg : Str → Option Value} (X : K.In h) (G : h.Ns mainGlobals mg) (c : hq.Says h K) : DefAt K mg (hq.cs K) (hq.bs K) gb 6 "_law_tape" d__law_tape :=
  defAt_of (i := 6) false X G c (by decide +kernel) rfl sc__law_tape rfl rfl ok__law_tape (fun z => nomatch z) (fun _ _ _ _ _ _ us hl => match us, hl with | [_, _], _ => rfl) fun _ _ hm => nomatch (kw_of (l := []) hm rfl)
def nm__law_pick : List Str := [(Str.ofString "_law_tape_here"), (Str.ofString "_law_many"), (Str.ofString "_law_once"), (Str.ofString "_law_found")]
def ps__law_pick : List Str := [(Str.ofString "_law_tape_here"), (Str.ofString "_law_many")]
theorem sc__law_pick : FnScope nm__law_pick ps__law_pick (defScope (top 25)) := ⟨rfl, rfl, rfl, by decide +kernel, rfl, by decide +kernel, by decide +kernel⟩
theorem ok__law_pick : okSs { gb with lm := false } nm__law_pick (defScope (top 25)) (fun _ => true) d__law_pick.body (defBody (top 25)) = true := by decide +kernel
theorem at__law_pick {K : Fg} {h : Heap} {mg : Str → Option Value} (X : K.In h) (G : h.Ns mainGlobals mg) (c : hq.Says h K) : DefAt K mg (hq.cs K) (hq.bs K) gb 7 "_law_pick" d__law_pick :=
  defAt_of (i := 7) false X G c (by decide +kernel) rfl sc__law_pick rfl rfl ok__law_pick (fun z => nomatch z) (fun _ _ _ _ _ _ us hl => match us, hl with | [_, _], _ => rfl) fun _ _ hm => nomatch (kw_of (l := []) hm rfl)
def nm__law_one_of : List Str := [(Str.ofString "_law_tape_here"), (Str.ofString "_law_things")]
def ps__law_one_of : List Str := [(Str.ofString "_law_tape_here"), (Str.ofString "_law_things")]
theorem sc__law_one_of : FnScope nm__law_one_of ps__law_one_of (defScope (top 26)) := ⟨rfl, rfl, rfl, by decide +kernel, rfl, by decide +kernel, by decide +kernel⟩
theorem ok__law_one_of : okSs { gb with lm := false } nm__law_one_of (defScope (top 26)) (fun _ => true) d__law_one_of.body (defBody (top 26)) = true := by decide +kernel
theorem at__law_one_of {K : Fg} {h : Heap} {mg : Str → Option Value} (X : K.In h) (G : h.Ns mainGlobals mg) (c : hq.Says h K) : DefAt K mg (hq.cs K) (hq.bs K) gb 8 "_law_one_of" d__law_one_of :=
  defAt_of (i := 8) false X G c (by decide +kernel) rfl sc__law_one_of rfl rfl ok__law_one_of (fun z => nomatch z) (fun _ _ _ _ _ _ us hl => match us, hl with | [_, _], _ => rfl) fun _ _ hm => nomatch (kw_of (l := []) hm rfl)
def nm__law_heaps : List Str := [(Str.ofString "_law_widths_here"), (Str.ofString "_law_places"), (Str.ofString "_law_stretches"), (Str.ofString "_law_first"), (Str.ofString "_law_lots"), (Str.ofString "_law_last"), (Str.ofString "_law_longer"), (Str.ofString "_law_rows"), (Str.ofString "_law_left"), (Str.ofString "_law_often"), (Str.ofString "_law_more"), (Str.ofString "_law_k")]
def ps__law_heaps : List Str := [(Str.ofString "_law_widths_here")]
theorem sc__law_heaps : FnScope nm__law_heaps ps__law_heaps (defScope (top 28)) := ⟨rfl, rfl, rfl, by decide +kernel, rfl, by decide +kernel, by decide +kernel⟩
theorem ok__law_heaps : okSs { gb with lm := false } nm__law_heaps (defScope (top 28)) (fun _ => true) d__law_heaps.body (defBody (top 28)) = true := by decide +kernel
theorem at__law_heaps {K : Fg} {h : Heap} {mg : Str → Option Value} (X : K.In h) (G : h.Ns mainGlobals mg) (c : hq.Says h K) : DefAt K mg (hq.cs K) (hq.bs K) gb 9 "_law_heaps" d__law_heaps :=
  defAt_of (i := 10) false X G c (by decide +kernel) rfl sc__law_heaps rfl rfl ok__law_heaps (fun z => nomatch z) (fun _ _ _ _ _ _ us hl => match us, hl with | [_], _ => rfl) fun _ _ hm => nomatch (kw_of (l := []) hm rfl)
def nm_law : List Str := [(Str.ofString "_law_script"), (Str.ofString "_law_start"), (Str.ofString "_law_some"), (Str.ofString "_law_wide"), (Str.ofString "_law_tape_here"), (Str.ofString "_law_turn"), (Str.ofString "_law_most"), (Str.ofString "_law_widths_here"), (Str.ofString "_law_due"), (Str.ofString "_law_told"), (Str.ofString "_law_odd"), (Str.ofString "_law_great"), (Str.ofString "_law_look")]
def ps_law : List Str := [(Str.ofString "_law_script")]
theorem sc_law : FnScope nm_law ps_law (defScope (top 29)) := ⟨rfl, rfl, rfl, by decide +kernel, rfl, by decide +kernel, by decide +kernel⟩
theorem ok_law : okSs { gb with lm := true } nm_law (defScope (top 29)) (fun _ => true) d_law.body (defBody (top 29)) = true := by decide +kernel
theorem at_law {K : Fg} {h : Heap} {mg : Str → Option Value} (X : K.In h) (G : h.Ns mainGlobals mg) (c : hq.Says h K) : DefAt K mg (hq.cs K) (hq.bs K) gb 10 "law" d_law :=
  defAt_of (i := 11) true X G c (by decide +kernel) rfl sc_law rfl rfl ok_law (fun _ => by decide +kernel) (fun _ _ _ _ _ _ us hl => match us, hl with | [_], _ => rfl) fun _ _ hm => nomatch (kw_of (l := []) hm rfl)
theorem at_all {K : Fg} {h : Heap} {mg : Str → Option Value} (X : K.In h) (G : h.Ns mainGlobals mg) (c : hq.Says h K) : ∀ (f : Nat) (y : Str), gb.fns[f]? = some y → ∃ d, tbl[f]? = some d ∧ DefAt K mg (hq.cs K) (hq.bs K) gb f y d
  | 0, _, rfl => ⟨_, rfl, at_is_count X G c⟩
  | 1, _, rfl => ⟨_, rfl, at_are_widths X G c⟩
  | 2, _, rfl => ⟨_, rfl, at_choices_of X G c⟩
  | 3, _, rfl => ⟨_, rfl, at_gone_on X G c⟩
  | 4, _, rfl => ⟨_, rfl, at_all_ended X G c⟩
  | 5, _, rfl => ⟨_, rfl, at_heaps_with X G c⟩
  | 6, _, rfl => ⟨_, rfl, at__law_tape X G c⟩
  | 7, _, rfl => ⟨_, rfl, at__law_pick X G c⟩
  | 8, _, rfl => ⟨_, rfl, at__law_one_of X G c⟩
  | 9, _, rfl => ⟨_, rfl, at__law_heaps X G c⟩
  | 10, _, rfl => ⟨_, rfl, at_law X G c⟩
  | f + 11, y, e => by
    have e2 : gb.fns[f + 11]? = none := List.getElem?_eq_none (by show 11 ≤ f + 11; omega)
    rw [e2] at e
    cases e
def nm__law_stopped : List Str := [(Str.ofString "_law_call"), (Str.ofString "_law_why"), (Str.ofString "e")]
theorem sc__law_stopped : FnScope nm__law_stopped ["_law_call"] (defScope (top 27)) := ⟨rfl, rfl, rfl, by decide +kernel, rfl, by decide +kernel, by decide +kernel⟩
theorem cat__law_stopped {K : Fg} {h : Heap} {mg : Str → Option Value} (X : K.In h) (G : h.Ns mainGlobals mg) (c : hq.Says h K) : CatAt K mg gb ("_law_stopped", 0, [(5, (Str.ofString "prime")), (8, (Str.ofString "width")), (7, (Str.ofString "signs")), (1, (Str.ofString "heap")), (9, (Str.ofString "widths")), (3, (Str.ofString "line")), (4, (Str.ofString "pair")), (6, (Str.ofString "sign")), (2, (Str.ofString "joining")), (10, (Str.ofString "many"))]) :=
  catAt_of (i := 9) (Ng := nm__law_stopped) (a := "_law_call") X G c (by decide +kernel) rfl sc__law_stopped rfl (by decide +kernel) (by decide +kernel) (by decide +kernel) fun _ _ _ _ _ _ us hl => match us, hl with | [_], _ => rfl
theorem md_all {K : Fg} {h : Heap} {mg : Str → Option Value} (X : K.In h) (G : h.Ns mainGlobals mg) (c : hq.Says h K) : MdOk hq.P K mg (hq.bs K) gb := by
  refine mdOk_of X G c rfl rfl rfl (by decide +kernel) rfl (by decide +kernel) (fun _ => ?_) fun z hz => ?_
  · exact says_ini c rfl rfl (by decide +kernel) (by decide +kernel) (by decide +kernel) fun _ _ _ _ _ _ _ _ _ => rfl
  · have hz : z ∈ [(("_law_stopped" : Str), (0 : Nat), ([(5, (Str.ofString "prime")), (8, (Str.ofString "width")), (7, (Str.ofString "signs")), (1, (Str.ofString "heap")), (9, (Str.ofString "widths")), (3, (Str.ofString "line")), (4, (Str.ofString "pair")), (6, (Str.ofString "sign")), (2, (Str.ofString "joining")), (10, (Str.ofString "many"))] : List (Nat × Str)))] := hz
    simp only [List.mem_cons, List.not_mem_nil, or_false] at hz
    rcases hz with rfl
    exact cat__law_stopped X G c
end Lw
open PySem PySem.W PySem.Calls PyProof.Rows in
theorem law_of_run (hr : ∀ ns : List Int, ns.length ≤ 63 → (∀ z ∈ ns, Builtin.Int.intBits z ≤ 1048576) → ∃ st, MP.callN Lw.tbl 100000 30 10 [.d (.list (ns.map .int))] [] = .ok (.t (.d (.bool true))) st) : PySem.Challenge.rw_staybars_k74_heaps_with_widths.Holds := by
  w_on; o_law
  refine HandSHeadRun.head_any (r := OpenLaw.row PySem.Challenge.rw_staybars_k74_heaps_with_widths) (q := view (OpenLaw.row PySem.Challenge.rw_staybars_k74_heaps_with_widths).prog [29]) (H := Lw.hq.hook) (ob := Lw.hob) (M := 8000) (loose := [(Str.ofString "StayError"), (Str.ofString "BadHeap"), (Str.ofString "BadJoining"), (Str.ofString "BadLine"), (Str.ofString "BadPair"), (Str.ofString "BadPrime"), (Str.ofString "BadSign"), (Str.ofString "BadSigns"), (Str.ofString "BadWidth"), (Str.ofString "BadWidths"), (Str.ofString "TooMany"), (Str.ofString "MOST_WIDTH"), (Str.ofString "is_count"), (Str.ofString "MOST_PLACES"), (Str.ofString "MOST_HEAPS"), (Str.ofString "are_widths"), (Str.ofString "choices_of"), (Str.ofString "gone_on"), (Str.ofString "all_ended"), (Str.ofString "heaps_with"), (Str.ofString "_law_tape"), (Str.ofString "_law_pick"), (Str.ofString "_law_one_of"), (Str.ofString "_law_stopped"), (Str.ofString "_law_heaps")]) (d := HandSHeadRun.topDef (OpenLaw.row PySem.Challenge.rw_staybars_k74_heaps_with_widths).prog 29) (kwd := []) Lw.hob_eq
    (by kernel_rfl) (fun s => by kernel_rfl) Lw.hrun (by kernel_rfl) (by kernel_rfl) (by kernel_rfl) (by rfl) (by first | assumption | decide +kernel) (by decide +kernel) ⟨rfl, rfl, rfl, rfl, rfl, by decide +kernel⟩ ?hw ?hc
  case hw => w_witness2
  case hc =>
    have en : (HandSHeadRun.topDef (OpenLaw.row PySem.Challenge.rw_staybars_k74_heaps_with_widths).prog 29).name = ("law" : PySem.Str) := by kernel_rfl
    refine MP.walk_mp2 (l := PySem.Challenge.rw_staybars_k74_heaps_with_widths) (n := 63) (k := 30) (i := 10) (G := Lw.gb) (tbl := Lw.tbl) (wf := 100000) (q := Lw.hq) rfl rfl (by decide) (by kernel_rfl) ⟨rfl, by decide, by decide⟩ (by rw [en]; rfl) (fun mg K h X G c => ⟨Lw.md_all X G c, Lw.at_all X G c⟩) hr

/-! defs that many laws share -/
namespace Nt
open PySem MP
structure Ix where
  is_number : Nat := 0
  is_life : Nat := 0
  is_tie : Nat := 0
  is_net : Nat := 0
  need_net : Nat := 0
  need_day : Nat := 0
  tie_lives : Nat := 0
  lives_touching : Nat := 0
  source : Nat := 0
  draw : Nat := 0
  pick : Nat := 0
  mixed : Nat := 0
  life : Nat := 0
  ties : Nat := 0
  net : Nat := 0
  great_net : Nat := 0
  any_net : Nat := 0
  same : Nat := 0
  odd_net : Nat := 0
  days_of : Nat := 0
  points_on : Nat := 0
  ties_on : Nat := 0
  in_ : Nat := 0
  spots : Nat := 0
  cNet : Nat := 0
  cDay : Nat := 0
def D_is_number (ix : Ix) : Def := ⟨3, 3, [(.ret (.and (.isi (.var 0) .int) (.and (.not (.isi (.var 0) .bool)) (.chain .le .le (.var 1) (.var 0) (.var 2)))))]⟩
def D_is_life (ix : Ix) : Def := ⟨3, 4, [(.ife (.or (.not (.isi (.var 0) .tuple)) (.or (.cmp .ne (.prim .len [(.var 0)]) (.con (.int 2))) (.not (.prim .all [(.comp [3] (.nm 3) (.var 0) [] (.call ix.is_number [(.var 3), (.var 1), (.var 2)]))])))) [(.ret (.con (.bool false)))] []), (.ret (.cmp .le (.ix (.var 0) (.con (.int 0))) (.ix (.var 0) (.con (.int 1)))))]⟩
def D_is_tie (ix : Ix) : Def := ⟨2, 5, [(.ife (.or (.not (.isi (.var 0) .tuple)) (.cmp .ne (.prim .len [(.var 0)]) (.con (.int 4)))) [(.ret (.con (.bool false)))] []), (.ife (.or (.not (.prim .all [(.comp [3] (.nm 3) (.sl (.var 0) .hole (.con (.int 2))) [] (.call ix.is_number [(.var 3), (.con (.int 0)), (.op .sub (.prim .len [(.var 1)]) (.con (.int 1)))]))])) (.cmp .ge (.ix (.var 0) (.con (.int 0))) (.ix (.var 0) (.con (.int 1))))) [(.ret (.con (.bool false)))] []), (.set (.nm 2) (.comp [3] (.nm 3) (.sl (.var 0) .hole (.con (.int 2))) [] (.ix (.var 1) (.var 3)))), (.ret (.call ix.is_life [(.sl (.var 0) (.con (.int 2)) .hole), (.prim .max [(.comp [4] (.nm 4) (.var 2) [] (.ix (.var 4) (.con (.int 0))))]), (.prim .min [(.comp [4] (.nm 4) (.var 2) [] (.ix (.var 4) (.con (.int 1))))])]))]⟩
def D_is_net (ix : Ix) : Def := ⟨1, 6, [(.ife (.or (.not (.isi (.var 0) .tuple)) (.or (.cmp .ne (.prim .len [(.var 0)]) (.con (.int 3))) (.not (.call ix.is_number [(.ix (.var 0) (.con (.int 0))), (.con (.int 0)), (.glo (Str.ofString "GREATEST_DAY") (.int 8))])))) [(.ret (.con (.bool false)))] []), (.set (.tp [(.nm 1), (.nm 2), (.nm 3)]) (.var 0)), (.ife (.or (.not (.isi (.var 2) .tuple)) (.cmp .gt (.prim .len [(.var 2)]) (.glo (Str.ofString "MOST_POINTS") (.int 7)))) [(.ret (.con (.bool false)))] []), (.ife (.or (.not (.isi (.var 3) .tuple)) (.cmp .gt (.prim .len [(.var 3)]) (.glo (Str.ofString "MOST_TIES") (.int 9)))) [(.ret (.con (.bool false)))] []), (.ret (.and (.prim .all [(.comp [4] (.nm 4) (.var 2) [] (.call ix.is_life [(.var 4), (.con (.int 0)), (.var 1)]))]) (.prim .all [(.comp [5] (.nm 5) (.var 3) [] (.call ix.is_tie [(.var 5), (.var 2)]))])))]⟩
def D_need_net (ix : Ix) : Def := ⟨1, 1, [(.ife (.not (.call ix.is_net [(.var 0)])) [(.rais ix.cNet (.var 0))] [])]⟩
def D_need_day (ix : Ix) : Def := ⟨2, 2, [(.ife (.not (.call ix.is_number [(.var 0), (.con (.int 0)), (.var 1)])) [(.rais ix.cDay (.var 0))] [])]⟩
def D_tie_lives (ix : Ix) : Def := ⟨1, 2, [(.ret (.comp [1] (.nm 1) (.ix (.var 0) (.con (.int 2))) [] (.sl (.var 1) (.con (.int 2)) .hole)))]⟩
def D_lives_touching (ix : Ix) : Def := ⟨3, 6, [(.ret (.comp [3, 4, 5] (.tp [(.nm 3), (.tp [(.nm 4), (.nm 5)])]) (.enm (.var 0)) [(.and (.cmp .le (.var 4) (.var 2)) (.cmp .le (.var 1) (.var 5)))] (.var 3)))]⟩
def D_days_of (ix : Ix) : Def := ⟨1, 1, [(.expr (.call ix.need_net [(.var 0)])), (.ret (.op .add (.ix (.var 0) (.con (.int 0))) (.con (.int 1))))]⟩
def D_points_on (ix : Ix) : Def := ⟨2, 2, [(.expr (.call ix.need_net [(.var 0)])), (.expr (.call ix.need_day [(.var 1), (.ix (.var 0) (.con (.int 0)))])), (.ret (.call ix.lives_touching [(.ix (.var 0) (.con (.int 1))), (.var 1), (.var 1)]))]⟩
def D_ties_on (ix : Ix) : Def := ⟨2, 2, [(.expr (.call ix.need_net [(.var 0)])), (.expr (.call ix.need_day [(.var 1), (.ix (.var 0) (.con (.int 0)))])), (.ret (.call ix.lives_touching [(.call ix.tie_lives [(.var 0)]), (.var 1), (.var 1)]))]⟩
def D_source (ix : Ix) : Def := ⟨2, 5, [(.set (.nm 2) (.op .add (.con (.int 101)) (.var 1))), (.for (.nm 3) (.var 0) [(.set (.nm 2) (.op .add (.op .mod (.prim .int [(.op .pow (.prim .int [(.op .add (.op .mul (.var 2) (.con (.int 50021))) (.prim .int [(.var 3)]))]) (.con (.int 3)))]) (.con (.int 2147483563))) (.con (.int 1))))]), (.set (.nm 4) (.con (.int 0))), (.ife (.and (.cmp .lt (.var 1) (.prim .len [(.var 0)])) (.cmp .ge (.ix (.var 0) (.var 1)) (.op .pow (.con (.int 10)) (.con (.int 18))))) [(.set (.nm 4) (.op .sub (.ix (.var 0) (.var 1)) (.op .pow (.con (.int 10)) (.con (.int 18)))))] []), (.ret (.lst [(.var 4), (.var 2)]))]⟩
def D_draw (ix : Ix) : Def := ⟨2, 3, [(.ife (.cmp .ge (.ix (.var 0) (.con (.int 0))) (.var 1)) [(.set (.nm 2) (.op .mod (.prim .int [(.ix (.var 0) (.con (.int 0)))]) (.var 1))), (.setI (.var 0) (.con (.int 0)) (.op .fdiv (.ix (.var 0) (.con (.int 0))) (.var 1))), (.ret (.var 2))] []), (.setI (.var 0) (.con (.int 1)) (.op .mod (.prim .int [(.op .add (.op .mul (.ix (.var 0) (.con (.int 1))) (.con (.int 69621))) (.con (.int 7129)))]) (.con (.int 2147483647)))), (.ret (.op .mod (.prim .int [(.op .fdiv (.op .mod (.prim .int [(.op .pow (.prim .int [(.ix (.var 0) (.con (.int 1)))]) (.con (.int 5)))]) (.con (.int 1000000007))) (.con (.int 41)))]) (.var 1)))]⟩
def D_pick (ix : Ix) : Def := ⟨2, 2, [(.ret (.ix (.var 1) (.call ix.draw [(.var 0), (.prim .len [(.var 1)])])))]⟩
def D_mixed (ix : Ix) : Def := ⟨2, 4, [(.par [(2, true), (3, true)] [(.prim .list [(.var 1)]), (.lst [])]), (.whl (.cmp .ne (.var 2) (.lst [])) [(.expr (.meth .append (.var 3) [(.meth .pop (.var 2) [(.call ix.draw [(.var 0), (.prim .len [(.var 2)])])])]))]), (.ret (.var 3))]⟩
def D_life (ix : Ix) : Def := ⟨4, 6, [(.set (.nm 4) (.op .add (.var 1) (.call ix.draw [(.var 0), (.op .add (.op .sub (.var 2) (.var 1)) (.con (.int 1)))]))), (.set (.nm 5) (.op .add (.var 4) (.call ix.draw [(.var 0), (.op .add (.op .sub (.var 2) (.var 4)) (.con (.int 1)))]))), (.ife (.var 3) [(.par [(4, false), (5, false)] [(.op .add (.var 1) (.call ix.draw [(.var 0), (.prim .min [(.con (.int 2)), (.op .add (.op .sub (.var 2) (.var 1)) (.con (.int 1)))])])), (.var 2)]), (.set (.nm 5) (.prim .max [(.var 4), (.op .sub (.var 5) (.call ix.draw [(.var 0), (.con (.int 2))]))]))] []), (.ret (.tup [(.var 4), (.var 5)]))]⟩
def D_ties (ix : Ix) : Def := ⟨5, 13, [(.setM 5 (.lst [])), (.for (.nm 6) (.rng [(.var 3)]) [(.set (.tp [(.nm 9), (.nm 10)]) (.call ix.pick [(.var 0), (.var 2)])), (.set (.nm 7) (.prim .max [(.ix (.ix (.var 1) (.var 9)) (.con (.int 0))), (.ix (.ix (.var 1) (.var 10)) (.con (.int 0)))])), (.set (.nm 8) (.prim .min [(.ix (.ix (.var 1) (.var 9)) (.con (.int 1))), (.ix (.ix (.var 1) (.var 10)) (.con (.int 1)))])), (.ife (.cmp .le (.var 7) (.var 8)) [(.set (.tp [(.nm 11), (.nm 12)]) (.call ix.life [(.var 0), (.var 7), (.var 8), (.cmp .eq (.call ix.draw [(.var 0), (.con (.int 3))]) (.con (.int 0)))])), (.expr (.meth .append (.var 5) [(.tup [(.var 9), (.var 10), (.var 11), (.ite (.var 4) (.var 8) (.var 12))])]))] [])]), (.ret (.prim .tuple [(.var 5)]))]⟩
def D_net (ix : Ix) : Def := ⟨4, 13, [(.par [(7, false), (8, false)] [(.call ix.draw [(.var 0), (.var 2)]), (.call ix.draw [(.var 0), (.con (.int 3))])]), (.set (.nm 4) (.comp [9] (.nm 9) (.rng [(.op .add (.con (.int 1)) (.prim .max [(.call ix.draw [(.var 0), (.var 1)]), (.var 8)]))]) [] (.call ix.life [(.var 0), (.con (.int 0)), (.var 7), (.cmp .gt (.var 8) (.con (.int 0)))]))), (.ife (.var 3) [(.set (.nm 4) (.comp [10, 11] (.tp [(.nm 10), (.nm 11)]) (.var 4) [] (.tup [(.var 10), (.var 7)])))] []), (.set (.nm 5) (.lst [])), (.for (.nm 6) (.rng [(.prim .len [(.var 4)])]) [(.set (.nm 5) (.op .add (.var 5) (.comp [12] (.nm 12) (.rng [(.var 6)]) [] (.tup [(.var 12), (.var 6)]))))]), (.ife (.cmp .eq (.var 5) (.lst [])) [(.ret (.tup [(.var 7), (.prim .tuple [(.var 4)]), (.tup [])]))] []), (.set (.nm 5) (.sl (.call ix.mixed [(.var 0), (.var 5)]) .hole (.op .add (.con (.int 2)) (.call ix.draw [(.var 0), (.con (.int 4))])))), (.ret (.tup [(.var 7), (.prim .tuple [(.var 4)]), (.call ix.ties [(.var 0), (.var 4), (.var 5), (.call ix.draw [(.var 0), (.con (.int 8))]), (.var 3)])]))]⟩
def D_in_ (ix : Ix) : Def := ⟨4, 5, [(.ife (.var 3) [(.ret (.comp [4] (.nm 4) (.rng [(.prim .len [(.var 0)])]) [(.and (.cmp .le (.ix (.ix (.var 0) (.var 4)) (.con (.int 0))) (.var 2)) (.cmp .le (.var 1) (.ix (.ix (.var 0) (.var 4)) (.con (.int 1)))))] (.var 4)))] []), (.ret (.comp [4] (.nm 4) (.rng [(.prim .len [(.var 0)])]) [(.and (.cmp .le (.ix (.ix (.var 0) (.var 4)) (.con (.int 0))) (.var 1)) (.cmp .le (.var 2) (.ix (.ix (.var 0) (.var 4)) (.con (.int 1)))))] (.var 4)))]⟩
def D_spots (ix : Ix) : Def := ⟨4, 5, [(.ret (.lst [(.call ix.in_ [(.ix (.var 0) (.con (.int 1))), (.var 1), (.var 2), (.var 3)]), (.call ix.in_ [(.comp [4] (.nm 4) (.ix (.var 0) (.con (.int 2))) [] (.sl (.var 4) (.con (.int 2)) .hole)), (.var 1), (.var 2), (.var 3)])]))]⟩
def D_same (ix : Ix) : Def := ⟨2, 2, [(.ret (.cmp .eq (.prim .repr [(.var 0)]) (.prim .repr [(.var 1)])))]⟩
def D_odd_net (ix : Ix) : Def := ⟨1, 2, [(.set (.nm 1) (.lst [(.con .none), (.con (.int 5)), (.tup []), (.tup [(.con (.int 0)), (.tup []), (.tup []), (.tup [])]), (.tup [(.con (.int 0)), (.tup [])]), (.al (.lst [(.con (.int 0)), (.tup []), (.tup [])])), (.tup [(.con (.int 9)), (.tup []), (.tup [])]), (.tup [(.con (.bool true)), (.tup []), (.tup [])]), (.tup [(.con (.int 0)), (.lst []), (.tup [])]), (.tup [(.con (.int 0)), (.tup []), (.lst [])])])), (.set (.nm 1) (.op .add (.var 1) (.lst [(.tup [(.con (.int 1)), (.tup [(.tup [(.con (.int 0)), (.con (.int 2))])]), (.tup [])]), (.tup [(.con (.int 1)), (.tup [(.tup [(.con (.int 1)), (.con (.int 0))])]), (.tup [])]), (.tup [(.con (.int 1)), (.op .mul (.tup [(.tup [(.con (.int 0)), (.con (.int 1))])]) (.con (.int 8))), (.tup [])])]))), (.set (.nm 1) (.op .add (.var 1) (.lst [(.tup [(.con (.int 0)), (.tup [(.tup [(.con (.int 0)), (.con (.int 0))]), (.tup [(.con (.int 0)), (.con (.int 0))])]), (.tup [(.tup [(.con (.int 1)), (.con (.int 0)), (.con (.int 0)), (.con (.int 0))])])]), (.tup [(.con (.int 0)), (.tup [(.tup [(.con (.int 0)), (.con (.int 0))])]), (.tup [(.tup [(.con (.int 0)), (.con (.int 0)), (.con (.int 0)), (.con (.int 0))])])])]))), (.set (.nm 1) (.op .add (.var 1) (.lst [(.tup [(.con (.int 1)), (.tup [(.tup [(.con (.int 0)), (.con (.int 0))]), (.tup [(.con (.int 0)), (.con (.int 1))])]), (.tup [(.tup [(.con (.int 0)), (.con (.int 1)), (.con (.int 0)), (.con (.int 1))])])]), (.con (.str (Str.ofString "net"))), (.dct [(.int 0)] [(.tup [])]), (.tup [(.op .sub (.con (.int 0)) (.con (.int 1))), (.tup []), (.tup [])]), (.tup [(.con (.bool false)), (.tup []), (.tup [])])]))), (.ret (.call ix.pick [(.var 0), (.var 1)]))]⟩
def D_great_net (ix : Ix) : Def := ⟨2, 9, [(.set (.nm 2) (.comp [5] (.nm 5) (.rng [(.con (.int 7))]) [] (.call ix.life [(.var 0), (.con (.int 0)), (.con (.int 8)), (.cmp .gt (.call ix.draw [(.var 0), (.con (.int 3))]) (.con (.int 0)))]))), (.ife (.var 1) [(.set (.nm 2) (.comp [6, 7] (.tp [(.nm 6), (.nm 7)]) (.var 2) [] (.tup [(.var 6), (.con (.int 8))])))] []), (.set (.nm 3) (.lst [])), (.for (.nm 4) (.rng [(.con (.int 7))]) [(.set (.nm 3) (.op .add (.var 3) (.comp [8] (.nm 8) (.rng [(.var 4)]) [] (.tup [(.var 8), (.var 4)]))))]), (.ret (.tup [(.con (.int 8)), (.prim .tuple [(.var 2)]), (.sl (.call ix.ties [(.var 0), (.var 2), (.call ix.mixed [(.var 0), (.var 3)]), (.con (.int 16)), (.var 1)]) .hole (.con (.int 9)))]))]⟩
def D_any_net (ix : Ix) : Def := ⟨4, 4, [(.ife (.cmp .eq (.call ix.draw [(.var 0), (.con (.int 6))]) (.con (.int 0))) [(.ret (.call ix.great_net [(.var 0), (.var 3)]))] []), (.ret (.call ix.net [(.var 0), (.var 1), (.var 2), (.var 3)]))]⟩
end Nt

/-! the source of numbers -/
namespace Nt
open PySem MP
/-- the source of numbers in a cell -/
def Sr (st : Store) (c : Nat) : Prop := ∃ a b : Int, st[c]? = some (.lst [.d (.int a), .d (.int b)]) ∧ 0 ≤ a ∧ 0 ≤ b ∧ b ≤ 2147483647
/-- only the cell c may have changed -/
def Sm (c : Nat) (st st' : Store) : Prop := st'.length = st.length ∧ (∀ i, i ≠ c → st'[i]? = st[i]?) ∧ Sr st' c
theorem Sm.trans {c : Nat} {s1 s2 s3 : Store} (a : Sm c s1 s2) (b : Sm c s2 s3) : Sm c s1 s3 := ⟨b.1.trans a.1, fun i h => (b.2.1 i h).trans (a.2.1 i h), b.2.2⟩
theorem Sm.refl {c : Nat} {s : Store} (h : Sr s c) : Sm c s s := ⟨rfl, fun _ _ => rfl, h⟩
theorem Sm.set {c : Nat} {st : Store} {a b : Int} (hlt : c < st.length) (ha : 0 ≤ a) (hb0 : 0 ≤ b) (hb1 : b ≤ 2147483647) : Sm c st (st.set c (.lst [.d (.int a), .d (.int b)])) :=
  ⟨by simp, fun i h => by rw [List.getElem?_set_ne (Ne.symm h)], a, b, by rw [List.getElem?_set_self hlt], ha, hb0, hb1⟩
theorem bits_small {i : Int} {k : Nat} (h : i.natAbs < 2 ^ k) : Builtin.Int.intBits i ≤ k := by
  unfold Builtin.Int.intBits
  split
  · exact Nat.zero_le _
  · rename_i hz
    have hn : i.natAbs ≠ 0 := fun e => hz (by simp [Int.natAbs_eq_zero.mp e])
    have := (Nat.log2_lt hn).mpr h
    omega
theorem mul_small {i j : Int} (hi : i.natAbs < 2 ^ 64) (hj : j.natAbs < 2 ^ 64) : mulOk i j = true := by
  have h1 := bits_small hi
  have h2 := bits_small hj
  exact decide_eq_true (by omega)
theorem pow_small {i j : Int} (hi : i.natAbs < 2 ^ 64) (h0 : 0 ≤ j) (hj : j ≤ 1000) : powOk i j = true := by
  have h1 := bits_small hi
  unfold powOk
  rw [decide_eq_true h0, Bool.true_and]
  refine decide_eq_true ?_
  have h2 : (Builtin.Int.intBits i : Int) * j ≤ 64 * 1000 := Int.mul_le_mul (by omega) hj h0 (by omega)
  omega
theorem take_len {st st' : Store} (h : st'.length = st.length) : st'.take st.length = st' := by rw [← h]; exact List.take_length
section
variable {tbl : List Def} {ix : Ix} {n wf : Nat} {st : Store} {c : Nat} {X : XC}
theorem draw {span : Int} (hd : tbl[ix.draw]? = some (D_draw ix)) (h : Sr st c) (hs : 0 < span) (hb : span < 1073741824) :
    (callN tbl wf (n + 1) ix.draw [.ref c, .d (.int span)] st).wp X fun v st' => (∃ r : Int, v = .t (.d (.int r)) ∧ 0 ≤ r ∧ r < span) ∧ Sm c st st' := by
  obtain ⟨a, b, hc, ha, hb0, hb1⟩ := h
  have hlt : c < st.length := (List.getElem?_eq_some_iff.mp hc).1
  have x0 : ixN 2 0 = some 0 := rfl
  have x1 : ixN 2 1 = some 1 := rfl
  rw [wp_callN hd rfl]
  unfold D_draw
  simp! only [v_ref hc]
  by_cases hd : span ≤ a
  · rw [decide_eq_true hd]
    simp! only [hc, v_ref hc, b_mod hs, b_fdiv ⟨hs, hb⟩, x0]
    have s1 := Sm.set (st := st) (a := a / span) (b := b) hlt (Int.ediv_nonneg ha (Int.le_of_lt hs)) hb0 hb1
    rw [take_len s1.1]
    exact ⟨⟨_, rfl, Int.emod_nonneg _ (by omega), Int.emod_lt_of_pos _ hs⟩, s1⟩
  · rw [decide_eq_false hd]
    simp! only [hc, v_ref hc]
    rw [b_mul (mul_small (by omega) (by omega))]
    simp! only [x1]
    rw [b_mod (by omega)]
    simp! only [hc, x1]
    have hc2 : (st.set c (.lst [.d (.int a), .d (.int ((b * 69621 + 7129) % 2147483647))]))[c]? = some (.lst [.d (.int a), .d (.int ((b * 69621 + 7129) % 2147483647))]) := List.getElem?_set_self hlt
    have m0 : 0 ≤ (b * 69621 + 7129) % 2147483647 := Int.emod_nonneg _ (by omega)
    have m1 : (b * 69621 + 7129) % 2147483647 < 2147483647 := Int.emod_lt_of_pos _ (by omega)
    simp! only [v_ref hc2]
    rw [b_pow (pow_small (by omega) (by omega) (by omega))]
    simp! only []
    rw [b_mod (by omega)]
    simp! only []
    rw [b_fdiv (by omega)]
    simp! only [b_mod hs]
    have s1 := Sm.set (st := st) (a := a) (b := (b * 69621 + 7129) % 2147483647) hlt ha m0 (by omega)
    rw [take_len s1.1]
    exact ⟨⟨_, rfl, Int.emod_nonneg _ (by omega), Int.emod_lt_of_pos _ hs⟩, s1⟩
end
end Nt

namespace Nt
open PySem MP
theorem at_ok {xs : List D} {i : Int} (h0 : 0 ≤ i) (h1 : i < xs.length) : ∃ y, atD xs i = some y ∧ xs[i.toNat]? = some y ∧ y ∈ xs := by
  have hl : i.toNat < xs.length := by omega
  refine ⟨xs[i.toNat], ?_, List.getElem?_eq_getElem hl, List.getElem_mem hl⟩
  unfold atD ixN
  rw [if_pos h0, if_pos h1]
  exact List.getElem?_eq_getElem hl
theorem at_okT {ts : List T} {i : Int} (h0 : 0 ≤ i) (h1 : i < ts.length) : ∃ y, atT ts i = some y ∧ y ∈ ts := by
  have hl : i.toNat < ts.length := by omega
  refine ⟨ts[i.toNat], ?_, List.getElem_mem hl⟩
  unfold atT ixN
  rw [if_pos h0, if_pos h1]
  exact List.getElem?_eq_getElem hl
/-- more cells at the end, only c changed among the old -/
structure Mo (c : Nat) (st s : Store) : Prop where
  len : st.length ≤ s.length
  old : ∀ i, i < st.length → i ≠ c → s[i]? = st[i]?
  src : Sr s c
  lt : c < st.length
theorem Mo.sm {c : Nat} {st s : Store} (h : Mo c st s) : Sm c st (s.take st.length) := by
  have hl : (s.take st.length).length = st.length := by rw [List.length_take]; have := h.len; omega
  refine ⟨hl, fun i hi => ?_, ?_⟩
  · by_cases hlt : i < st.length
    · rw [List.getElem?_take_of_lt hlt]
      exact h.old i hlt hi
    · rw [List.getElem?_eq_none (by omega), List.getElem?_eq_none (by omega)]
  · obtain ⟨a, b, e, q⟩ := h.src
    exact ⟨a, b, by rw [List.getElem?_take_of_lt h.lt]; exact e, q⟩
theorem Sr.lt {st : Store} {c : Nat} (h : Sr st c) : c < st.length := by
  obtain ⟨a, b, e, _⟩ := h
  exact (List.getElem?_eq_some_iff.mp e).1
theorem Mo.sm2 {c : Nat} {st s s' : Store} (h : Mo c st s) (k : Sm c s s') : Mo c st s' := ⟨by rw [k.1]; exact h.len, fun i hi hc => (k.2.1 i hc).trans (h.old i hi hc), k.2.2, h.lt⟩
theorem Mo.set {c : Nat} {st s : Store} (h : Mo c st s) {a : Nat} {x : Cell} (ha : st.length ≤ a) : Mo c st (s.set a x) := by
  refine ⟨by rw [List.length_set]; exact h.len, fun i hi hc => by rw [List.getElem?_set_ne (by omega)]; exact h.old i hi hc, ?_, h.lt⟩
  obtain ⟨u, v, e, q⟩ := h.src
  exact ⟨u, v, by rw [List.getElem?_set_ne (by have := h.lt; omega)]; exact e, q⟩
theorem Mo.new {c : Nat} {st s : Store} (h : Mo c st s) {x : Cell} : Mo c st (s ++ [x]) := by
  refine ⟨by rw [List.length_append]; have := h.len; omega, fun i hi hc => by rw [List.getElem?_append_left (by have := h.len; omega)]; exact h.old i hi hc, ?_, h.lt⟩
  obtain ⟨u, v, e, q⟩ := h.src
  exact ⟨u, v, by rw [List.getElem?_append_left (by have := h.lt; have := h.len; omega)]; exact e, q⟩
theorem Mo.refl {c : Nat} {st : Store} (h : Sr st c) : Mo c st st := ⟨Nat.le_refl _, fun _ _ _ => rfl, h, h.lt⟩
def Lay (x : D) : Prop := x.canLay0 = true ∧ x.depth ≤ 60
theorem lay_all : ∀ {zs : List D}, (∀ z ∈ zs, Lay z) → PyData.canLayAll0 zs = true ∧ PyData.depthAll zs ≤ 60
  | [], _ => ⟨rfl, by simp [PyData.depthAll]⟩
  | z :: zs, h => by
    obtain ⟨h1, h2⟩ := lay_all (zs := zs) fun y hy => h y (List.mem_cons_of_mem _ hy)
    obtain ⟨h3, h4⟩ := h z (by simp)
    simp only [PyData.canLayAll0, PyData.depthAll, h1, h3, Bool.and_self, true_and]
    omega
theorem shaped_list {zs : List D} (h : ∀ z ∈ zs, Lay z) : SeqAt.shaped (.list zs) = true := by
  obtain ⟨h1, h2⟩ := lay_all h
  simp only [SeqAt.shaped, PyData.canLay0, PyData.depth, h1, Bool.true_and]
  exact decide_eq_true (by omega)
theorem nil_shaped : SeqAt.shaped (.list []) = true := shaped_list (by simp)
theorem eqv_nil {zs : List D} : PyData.eqv (.list zs) (.list []) = zs.isEmpty := by
  cases zs <;> simp [PyData.eqv, PyData.eqvAll]
theorem map_erase {α β : Type} {f : α → β} : ∀ {xs : List α} {k : Nat}, (xs.map f).eraseIdx k = (xs.eraseIdx k).map f
  | [], _ => rfl
  | x :: xs, 0 => rfl
  | x :: xs, k + 1 => by simp [map_erase]
theorem m_pop {s : Store} {xs : List D} {i : Int} {k : Nat} {y : D} (hk : ixN xs.length i = some k) (hy : xs[k]? = some y) : methT s .pop (xs.map .d) [.d (.int i)] = some (.d y, (xs.eraseIdx k).map .d) := by
  show (ixN (xs.map T.d).length i).bind _ = _
  rw [List.length_map, hk]
  show ((xs.map T.d)[k]?).map _ = _
  rw [List.getElem?_map, hy, map_erase]
  rfl
theorem m_app {s : Store} {xs : List D} {y : D} (h : xs.length < big) : methT s .append (xs.map .d) [.d y] = some (.d .none, (xs ++ [y]).map .d) := by
  show (if (xs.map T.d).length < big then _ else _) = _
  rw [List.length_map, if_pos h, List.map_append]
  rfl
theorem mem_erase {α : Type} : ∀ {xs : List α} {k : Nat} {y : α}, y ∈ xs.eraseIdx k → y ∈ xs
  | [], _, _, h => by cases h
  | x :: xs, 0, y, h => List.mem_cons_of_mem _ h
  | x :: xs, k + 1, y, h => by
    rcases List.mem_cons.mp h with rfl | h
    · exact List.mem_cons_self
    · exact List.mem_cons_of_mem _ (mem_erase h)
section
variable {tbl : List Def} {ix : Ix} {n wf : Nat} {st : Store} {c : Nat} {X : XC}
/-- of any values -/
theorem pickT {ts : List T} {v0 : T} (hp : tbl[ix.pick]? = some (D_pick ix)) (hd : tbl[ix.draw]? = some (D_draw ix)) (h : Sr st c) (hv : ∀ s : Store, s.length = st.length → (∀ i, i ≠ c → s[i]? = st[i]?) → view s v0 = .lst ts) (h0 : ts ≠ []) (h1 : ts.length < 1073741824) (ho : olds st.length ts = true) :
    (callN tbl wf (n + 2) ix.pick [.ref c, v0] st).wp X fun v st' => (∃ x ∈ ts, v = .t x) ∧ Sm c st st' := by
  have hl : 0 < ts.length := List.length_pos_iff.mpr h0
  rw [wp_callN hp rfl]
  unfold D_pick
  simp! only [hv st rfl fun _ _ => rfl]
  refine (draw hd h (by omega) (by omega)).mono ?_
  rintro v st1 ⟨⟨r, rfl, r0, r1⟩, s1⟩
  obtain ⟨y, e1, e3⟩ := at_okT r0 r1
  simp! only [hv st1 s1.1 s1.2.1, e1]
  have hy : y.old st.length = true := by
    clear e1 hv h1 h0 hl r1
    induction ts with
    | nil => cases e3
    | cons t ts ih =>
      rw [olds_cons, Bool.and_eq_true] at ho
      rcases List.mem_cons.mp e3 with rfl | e3
      · exact ho.1
      · exact ih ho.2 e3
  rw [lv_old hy, take_len s1.1]
  exact ⟨⟨y, e3, rfl⟩, s1⟩
theorem pick {xs : List D} (hp : tbl[ix.pick]? = some (D_pick ix)) (hd : tbl[ix.draw]? = some (D_draw ix)) (h : Sr st c) (h0 : xs ≠ []) (h1 : xs.length < 1073741824) :
    (callN tbl wf (n + 2) ix.pick [.ref c, .d (.list xs)] st).wp X fun v st' => (∃ x ∈ xs, v = .t (.d x)) ∧ Sm c st st' := by
  refine (pickT hp hd h (ts := xs.map .d) (fun _ _ _ => v_list) (by simpa using h0) (by simpa using h1) olds_map).mono ?_
  rintro v s ⟨⟨x, hx, rfl⟩, k⟩
  obtain ⟨y, hy, rfl⟩ := List.mem_map.mp hx
  exact ⟨⟨y, hy, rfl⟩, k⟩
theorem life {lo hi : Int} {on : Bool} (hf : tbl[ix.life]? = some (D_life ix)) (hd : tbl[ix.draw]? = some (D_draw ix)) (h : Sr st c) (h0 : 0 ≤ lo) (h1 : lo ≤ hi) (h2 : hi ≤ 100) :
    (callN tbl wf (n + 2) ix.life [.ref c, .d (.int lo), .d (.int hi), .d (.bool on)] st).wp X fun v st' => (∃ f e : Int, v = .t (.d (.tuple [.int f, .int e])) ∧ lo ≤ f ∧ f ≤ e ∧ e ≤ hi) ∧ Sm c st st' := by
  rw [wp_callN hf rfl]
  unfold D_life
  simp! only []
  refine (draw hd h (by omega) (by omega)).mono ?_
  rintro v st1 ⟨⟨r, rfl, r0, r1⟩, s1⟩
  simp! only []
  refine (draw hd s1.2.2 (by omega) (by omega)).mono ?_
  rintro v st2 ⟨⟨q, rfl, q0, q1⟩, s2⟩
  simp! only []
  cases on with
  | false =>
    simp! only []
    have s3 := s1.trans s2
    rw [take_len s3.1]
    exact ⟨⟨_, _, rfl, by omega, by omega, by omega⟩, s3⟩
  | true =>
    simp! only []
    refine (draw hd s2.2.2 (by split <;> omega) (by split <;> omega)).mono ?_
    rintro v st3 ⟨⟨u, rfl, u0, u1⟩, s3⟩
    simp! only []
    refine (draw hd s3.2.2 (by omega) (by omega)).mono ?_
    rintro v st4 ⟨⟨t, rfl, t0, t1⟩, s4⟩
    simp! only []
    have s5 := (s1.trans s2).trans (s3.trans s4)
    rw [take_len s5.1]
    have hu : lo + u ≤ hi := by split at u1 <;> omega
    refine ⟨⟨_, _, rfl, by omega, ?_, ?_⟩, s5⟩ <;> split <;> omega
theorem mixed {xs : List D} (hf : tbl[ix.mixed]? = some (D_mixed ix)) (hd : tbl[ix.draw]? = some (D_draw ix)) (h : Sr st c) (hx : ∀ x ∈ xs, Lay x) (h1 : xs.length < 1000) (hw : 1000 < wf) :
    (callN tbl wf (n + 2) ix.mixed [.ref c, .d (.list xs)] st).wp X fun v st' => (∃ ys : List D, v = .new (ys.map .d) ∧ ys.length = xs.length ∧ ∀ y ∈ ys, y ∈ xs) ∧ Sm c st st' := by
  rw [wp_callN hf rfl]
  unfold D_mixed
  simp! only []
  have hla : (st ++ [Cell.lst (xs.map .d)]).length = st.length + 1 := by simp
  rw [hla, x_whl]
  refine while_inv (fun m env s => env = [some (.ref c), some (.d (.list xs)), some (.ref st.length), some (.ref (st.length + 1))] ∧ Mo c st s ∧ ∃ lot found : List D, s[st.length]? = some (.lst (lot.map .d)) ∧ s[st.length + 1]? = some (.lst (found.map .d)) ∧ lot.length = m ∧ lot.length + found.length = xs.length ∧
      (∀ y ∈ lot, y ∈ xs) ∧ (∀ y ∈ found, y ∈ xs)) (m := xs.length) (by omega) ⟨rfl, ((Mo.refl h).new).new, xs, [], ?_, ?_, rfl, by simp, fun _ h => h, by simp⟩ ?_
  · rw [List.getElem?_append_left (by simp), List.getElem?_append_right (Nat.le_refl _)]
    simp
  · rw [List.getElem?_append_right (by simp)]
    simp
  · rintro m env s ⟨rfl, mo, lot, found, e1, e2, rfl, e4, e5, e6⟩
    have sh : SeqAt.shaped (.list lot) = true := shaped_list fun z hz => hx z (e5 z hz)
    simp! only [rd_ref e1, c_ne sh nil_shaped rfl, eqv_nil]
    by_cases hlot : lot = []
    · subst hlot
      simp! only [List.isEmpty_nil, lv_c (show ¬ st.length + 1 < st.length by omega) e2 olds_map]
      exact ⟨⟨found, rfl, by simpa using e4, e6⟩, mo.sm⟩
    · have hne : lot.isEmpty = false := by cases lot <;> first | rfl | exact absurd rfl hlot
      have hpos : 0 < lot.length := List.length_pos_iff.mpr hlot
      simp! only [hne, e2, e1, v_ref e1]
      refine (draw hd mo.src (by omega) (by omega)).mono ?_
      rintro v s1 ⟨⟨r, rfl, r0, r1⟩, s1m⟩
      have nc : st.length ≠ c := by have := mo.lt; omega
      have nc1 : st.length + 1 ≠ c := by have := mo.lt; omega
      have e1' : s1[st.length]? = some (.lst (lot.map .d)) := (s1m.2.1 _ nc).trans e1
      have e2' : s1[st.length + 1]? = some (.lst (found.map .d)) := (s1m.2.1 _ nc1).trans e2
      have hkl : r.toNat < lot.length := by omega
      have hm : methT s1 .pop (lot.map .d) [.d (.int r)] = some (.d lot[r.toNat], (lot.eraseIdx r.toNat).map .d) := m_pop (by unfold ixN; rw [if_pos r0, if_pos r1]) (List.getElem?_eq_getElem hkl)
      simp! only [e1', hm]
      have e3 : (s1.set st.length (.lst ((lot.eraseIdx r.toNat).map .d)))[st.length + 1]? = some (.lst (found.map .d)) := by rw [List.getElem?_set_ne (by omega)]; exact e2'
      have hm2 : ∀ s2, methT s2 .append (found.map .d) [.d lot[r.toNat]] = some (.d .none, (found ++ [lot[r.toNat]]).map .d) := fun s2 => m_app (by show found.length < 16777216; omega)
      simp! only [e3, hm2]
      have hmem : lot[r.toNat] ∈ lot := List.getElem_mem hkl
      have l1 : st.length < s1.length := (List.getElem?_eq_some_iff.mp e1').1
      have l2 : st.length + 1 < s1.length := (List.getElem?_eq_some_iff.mp e2').1
      have hle : (lot.eraseIdx r.toNat).length = lot.length - 1 := List.length_eraseIdx_of_lt hkl
      refine ⟨lot.length - 1, by omega, ((mo.sm2 s1m).set (Nat.le_refl _)).set (by omega), lot.eraseIdx r.toNat, found ++ [lot[r.toNat]], ?_, ?_, hle, ?_, ?_, ?_⟩
      · rw [List.getElem?_set_ne (by omega), List.getElem?_set_self l1]
      · rw [List.getElem?_set_self (by simpa using l2)]
      · rw [hle, List.length_append]
        simp only [List.length_cons, List.length_nil]
        omega
      · exact fun y hy => e5 y (mem_erase hy)
      · intro y hy
        rcases List.mem_append.mp hy with hy | hy
        · exact e6 y hy
        · simp only [List.mem_cons, List.not_mem_nil, or_false] at hy
          subst hy
          exact e5 _ hmem
end
end Nt

/-! what is a number, a life, a tie, a net -/
namespace Nt
open PySem MP
def isiD : Ty → D → Bool
  | .int, .int _ => true
  | .int, .bool _ => true
  | .bool, .bool _ => true
  | .str, .str _ => true
  | .tuple, .tuple _ => true
  | .list, .list _ => true
  | .dict, .dict _ => true
  | _, _ => false
theorem isi_D {st : Store} {t : Ty} {x : D} : isiV t (view st (.d x)) = some (isiD t x) := by
  cases x with
  | dict kvs =>
    simp only [view]
    cases keysD kvs <;> cases t <;> rfl
  | _ => cases t <;> rfl
theorem isi_none {t : Ty} : isiV t (.dat .none) = some false := by cases t <;> rfl
theorem isi_s {t : Ty} {x : Str} : isiV t (.dat (.str x)) = some (match t with | .str => true | _ => false) := by cases t <;> rfl
theorem compF {g : T → Store → Res (Option T)} {st : Store} {h : D → Option D} {k : List T → Store → Prop} {xs : List D} (hb : ∀ x ∈ xs, ∀ ko, (g (.d x) st).wp noX ko = ko ((h x).map .d) st) : (compL g (xs.map .d) st).wp noX k = k ((xs.filterMap h).map .d) st := by
  have e : compL g (xs.map .d) st = .ok ((xs.filterMap h).map .d) st := by
    induction xs with
    | nil => rfl
    | cons x xs ih =>
      have q := hb x (by simp) fun a s => a = (h x).map .d ∧ s = st
      have q2 : (g (.d x) st).wp noX fun a s => a = (h x).map .d ∧ s = st := by rw [q]; exact ⟨rfl, rfl⟩
      obtain ⟨a, s, e, rfl, rfl⟩ := q2.get
      rw [List.map_cons, compL, e]
      show (compL g (xs.map .d) s).bind _ = _
      rw [ih fun y hy => hb y (List.mem_cons_of_mem _ hy)]
      cases hx : h x <;> simp [Res.bind, consO, hx]
  rw [e]
  rfl
theorem compD {g : T → Store → Res (Option T)} {st : Store} {h : D → D} {k : List T → Store → Prop} {xs : List D} (hb : ∀ x ∈ xs, ∀ ko, (g (.d x) st).wp noX ko = ko (some (.d (h x))) st) : (compL g (xs.map .d) st).wp noX k = k ((xs.map h).map .d) st := by
  rw [compF (h := fun x => some (h x)) hb]
  congr 2
  exact congrFun List.filterMap_eq_map xs
theorem bools_map {f : D → Bool} : ∀ xs : List D, boolsT? ((xs.map fun y => PyData.bool (f y)).map .d) = some (xs.map f)
  | [] => rfl
  | x :: xs => by
    show (boolsT? ((xs.map fun y => PyData.bool (f y)).map .d)).map _ = _
    rw [bools_map xs]
    rfl
theorem q_all {f : D → Bool} {xs : List D} : primV .all [.lst ((xs.map fun y => PyData.bool (f y)).map .d)] = some (.t (.d (.bool (xs.all f)))) := by
  show (boolsT? _).map _ = _
  rw [bools_map]
  show some (tB ((xs.map f).all id)) = _
  rw [List.all_map]
  rfl
theorem q_all2 {x y : Bool} : primV .all [.lst [.d (.bool x), .d (.bool y)]] = some (.t (.d (.bool (x && y)))) := by cases x <;> cases y <;> rfl
def isNum (x : D) (lo hi : Int) : Bool := match x with
  | .int i => decide (lo ≤ i) && decide (i ≤ hi)
  | _ => false
section
variable {tbl : List Def} {ix : Ix} {n wf : Nat} {st : Store} {X : XC} {k : RV → Store → Prop} {x : D} {lo hi : Int}
theorem p_num (hn : tbl[ix.is_number]? = some (D_is_number ix)) : (callN tbl wf (n + 1) ix.is_number [.d x, .d (.int lo), .d (.int hi)] st).wp X k = k (.t (.d (.bool (isNum x lo hi)))) st := by
  rw [wp_callN hn rfl]
  unfold D_is_number
  cases x with
  | int i =>
    simp! only [isi_i]
    by_cases h : lo ≤ i
    · simp! only [decide_eq_true h, isNum, Bool.true_and, List.take_length]
    · simp! only [decide_eq_false h, isNum, Bool.false_and, List.take_length]
  | bool b => simp! only [isi_b, isNum, List.take_length]
  | none => simp! only [isi_none, isNum, List.take_length]
  | str y => simp! only [isi_s, isNum, List.take_length]
  | list y => simp! only [isi_l, isNum, List.take_length]
  | tuple y => simp! only [isi_t, isNum, List.take_length]
  | dict y => simp! only [isi_D, isiD, isNum, List.take_length]
def isLife (x : D) (lo hi : Int) : Bool := match x with
  | .tuple [.int i, .int j] => decide (lo ≤ i) && decide (i ≤ j) && decide (j ≤ hi)
  | _ => false
theorem not_tup (h : ∀ xs, x ≠ .tuple xs) : isiD .tuple x = false := by
  cases x <;> first | rfl | exact absurd rfl (h _)
theorem len2 {xs : List D} (h : decide ((xs.length : Int) = 2) = true) : ∃ a b, xs = [a, b] := by
  have h : (xs.length : Int) = 2 := of_decide_eq_true h
  match xs, h with
  | [a, b], _ => exact ⟨a, b, rfl⟩
  | [], h => simp at h
  | [_], h => simp at h
  | _ :: _ :: _ :: _, h => simp at h; omega
theorem life_no {x : D} (h : ∀ a b, x ≠ .tuple [a, b]) : isLife x lo hi = false := by
  unfold isLife
  split
  · exact absurd rfl (h _ _)
  · rfl
theorem p_life (hn : tbl[ix.is_number]? = some (D_is_number ix)) (hl : tbl[ix.is_life]? = some (D_is_life ix)) : (callN tbl wf (n + 2) ix.is_life [.d x, .d (.int lo), .d (.int hi)] st).wp X k = k (.t (.d (.bool (isLife x lo hi)))) st := by
  rw [wp_callN hl rfl]
  unfold D_is_life
  by_cases ht : ∃ xs, x = .tuple xs
  · obtain ⟨xs, rfl⟩ := ht
    simp! only [isi_t]
    cases h2 : decide ((xs.length : Int) = 2) with
    | false =>
      have hz : isLife (.tuple xs) lo hi = false := life_no fun a b e => by cases e; simp at h2
      simp! only [hz, List.take_length]
    | true =>
      obtain ⟨a, b, rfl⟩ := len2 h2
      have hx : ([.d a, .d b] : List T) = [a, b].map .d := rfl
      simp! only []
      rw [hx, compD (h := fun y => .bool (isNum y lo hi)) (fun y hy ko => by simp! only [p_num hn])]
      simp! only [q_all2]
      cases a with
      | int i =>
        cases b with
        | int j =>
          simp! only [isNum, isLife]
          by_cases h1 : lo ≤ i <;> by_cases h3 : i ≤ hi <;> by_cases h4 : lo ≤ j <;> by_cases h5 : j ≤ hi <;> by_cases h6 : i ≤ j <;> simp only [h1, h3, h4, h5, h6, decide_true, decide_false, Bool.and_true, Bool.and_false, Bool.true_and, Bool.false_and] <;> first | (simp! only [List.take_length, h1, h3, h4, h5, h6, decide_true, decide_false]; done) | (exfalso; omega)
        | _ => simp! only [isNum, isLife, Bool.and_false, List.take_length]
      | _ => simp! only [isNum, isLife, Bool.false_and, List.take_length]
  · have hz : isLife x lo hi = false := life_no fun a b e => ht ⟨_, e⟩
    simp! only [isi_D, not_tup fun xs e => ht ⟨xs, e⟩, hz, List.take_length]
end
end Nt

/-! ties, nets -/
namespace Nt
open PySem MP
def ptA (pts : List D) (i : Int) : Int × Int := match pts[i.toNat]? with
  | some (.tuple [.int p, .int q]) => (p, q)
  | _ => (0, 0)
def Pts (pts : List D) : Prop := ∀ y ∈ pts, ∃ p q, y = .tuple [.int p, .int q]
theorem at_pt {pts : List D} (hp : Pts pts) {i : Int} (h0 : 0 ≤ i) (h1 : i < pts.length) : atD pts i = some (.tuple [.int (ptA pts i).1, .int (ptA pts i).2]) := by
  obtain ⟨y, e1, e2, e3⟩ := at_ok h0 h1
  obtain ⟨p, q, rfl⟩ := hp y e3
  unfold ptA
  rw [e1, e2]
def max2 (i j : Int) : Int := if j > i then j else i
def min2 (i j : Int) : Int := if j < i then j else i
def isTie (pts : List D) (x : D) : Bool := match x with
  | .tuple [.int i, .int j, a, b] => decide (0 ≤ i) && decide (i < j) && decide (j < pts.length) && isLife (.tuple [a, b]) (max2 (ptA pts i).1 (ptA pts j).1) (min2 (ptA pts i).2 (ptA pts j).2)
  | _ => false
theorem len4 {xs : List D} (h : decide ((xs.length : Int) = 4) = true) : ∃ a b c d, xs = [a, b, c, d] := by
  have h : (xs.length : Int) = 4 := of_decide_eq_true h
  match xs, h with
  | [a, b, c, d], _ => exact ⟨a, b, c, d, rfl⟩
  | [], h => simp at h
  | [_], h => simp at h
  | [_, _], h => simp at h
  | [_, _, _], h => simp at h
  | _ :: _ :: _ :: _ :: _ :: _, h => simp at h; omega
theorem len3 {xs : List D} (h : decide ((xs.length : Int) = 3) = true) : ∃ a b c, xs = [a, b, c] := by
  have h : (xs.length : Int) = 3 := of_decide_eq_true h
  match xs, h with
  | [a, b, c], _ => exact ⟨a, b, c, rfl⟩
  | [], h => simp at h
  | [_], h => simp at h
  | [_, _], h => simp at h
  | _ :: _ :: _ :: _ :: _, h => simp at h; omega
theorem tie_no {x : D} {pts : List D} (h : ∀ a b c d, x ≠ .tuple [a, b, c, d]) : isTie pts x = false := by
  unfold isTie
  split
  · exact absurd rfl (h _ _ _ _)
  · rfl
theorem mx2 {i j : Int} : primV .max [.lst [.d (.int i), .d (.int j)]] = some (.t (.d (.int (max2 i j)))) := rfl
theorem mn2 {i j : Int} : primV .min [.lst [.d (.int i), .d (.int j)]] = some (.t (.d (.int (min2 i j)))) := rfl
theorem cut02 {a b c d : D} : cutT [.d a, .d b, .d c, .d d] none (some 2) = [.d a, .d b] := rfl
theorem cut24 {a b c d : D} : cutT [.d a, .d b, .d c, .d d] (some 2) none = [.d c, .d d] := rfl
section
variable {tbl : List Def} {ix : Ix} {n wf : Nat} {st : Store} {X : XC} {k : RV → Store → Prop} {x : D} {pts : List D}
theorem p_tie (hn : tbl[ix.is_number]? = some (D_is_number ix)) (hl : tbl[ix.is_life]? = some (D_is_life ix)) (ht : tbl[ix.is_tie]? = some (D_is_tie ix)) (hp : Pts pts) : (callN tbl wf (n + 3) ix.is_tie [.d x, .d (.tuple pts)] st).wp X k = k (.t (.d (.bool (isTie pts x)))) st := by
  rw [wp_callN ht rfl]
  unfold D_is_tie
  by_cases hx : ∃ xs, x = .tuple xs
  · obtain ⟨xs, rfl⟩ := hx
    simp! only [isi_t]
    cases h2 : decide ((xs.length : Int) = 4) with
    | false =>
      have hz : isTie pts (.tuple xs) = false := tie_no fun a b c d e => by cases e; simp at h2
      simp! only [hz, List.take_length]
    | true =>
      obtain ⟨a, b, c, d, rfl⟩ := len4 h2
      have hx : ([.d a, .d b] : List T) = [a, b].map .d := rfl
      simp! only [cut02]
      rw [hx, compD (h := fun y => .bool (isNum y 0 (pts.length - 1))) (fun y hy ko => by simp! only [p_num hn])]
      simp! only [q_all2]
      cases a with
      | int i =>
        cases b with
        | int j =>
          by_cases hall : 0 ≤ i ∧ i ≤ pts.length - 1 ∧ 0 ≤ j ∧ j ≤ pts.length - 1
          · obtain ⟨g1, g2, g3, g4⟩ := hall
            have e1 : (isNum (.int i) 0 (pts.length - 1) && isNum (.int j) 0 (pts.length - 1)) = true := by simp [isNum, g1, g2, g3, g4]
            simp! only [e1]
            by_cases hij : j ≤ i
            · have hz : isTie pts (.tuple [.int i, .int j, c, d]) = false := by simp [isTie]; intro _ h; omega
              simp! only [decide_eq_true hij, hz, List.take_length]
            · have hz : isTie pts (.tuple [.int i, .int j, c, d]) = isLife (.tuple [c, d]) (max2 (ptA pts i).1 (ptA pts j).1) (min2 (ptA pts i).2 (ptA pts j).2) := by
                have z1 : decide (0 ≤ i) = true := decide_eq_true g1
                have z2 : decide (i < j) = true := decide_eq_true (by omega)
                have z3 : decide (j < pts.length) = true := decide_eq_true (by omega)
                simp only [isTie, z1, z2, z3, Bool.true_and]
              have hx2 : ([.d (.int i), .d (.int j)] : List T) = [PyData.int i, .int j].map .d := rfl
              simp! only [decide_eq_false hij, cut02]
              rw [hx2, compD (h := fun y => match y with | .int z => .tuple [.int (ptA pts z).1, .int (ptA pts z).2] | _ => .none) (fun y hy ko => by
                rcases List.mem_cons.mp hy with rfl | hy
                · simp! only [at_pt hp g1 (by omega)]
                · rcases List.mem_cons.mp hy with rfl | hy
                  · simp! only [at_pt hp g3 (by omega)]
                  · cases hy)]
              have hx3 : ([.d (.tuple [.int (ptA pts i).1, .int (ptA pts i).2]), .d (.tuple [.int (ptA pts j).1, .int (ptA pts j).2])] : List T) = [PyData.tuple [.int (ptA pts i).1, .int (ptA pts i).2], .tuple [.int (ptA pts j).1, .int (ptA pts j).2]].map .d := rfl
              simp! only [cut24]
              rw [hx3, compD (h := fun y => match y with | .tuple [.int z, .int t] => .int z | _ => .none) (fun y hy ko => by
                rcases List.mem_cons.mp hy with rfl | hy
                · simp! only []
                · rcases List.mem_cons.mp hy with rfl | hy
                  · simp! only []
                  · cases hy)]
              simp! only [mx2]
              rw [hx3, compD (h := fun y => match y with | .tuple [.int z, .int t] => .int t | _ => .none) (fun y hy ko => by
                rcases List.mem_cons.mp hy with rfl | hy
                · simp! only []
                · rcases List.mem_cons.mp hy with rfl | hy
                  · simp! only []
                  · cases hy)]
              simp! only [mn2, p_life hn hl, hz, List.take_length]
          · have e1 : (isNum (.int i) 0 (pts.length - 1) && isNum (.int j) 0 (pts.length - 1)) = false := by
              simp [isNum]
              omega
            have hz : isTie pts (.tuple [.int i, .int j, c, d]) = false := by
              simp [isTie]
              intros
              omega
            simp! only [e1, hz, List.take_length]
        | _ => simp! only [isNum, isTie, Bool.and_false, List.take_length]
      | _ => simp! only [isNum, isTie, Bool.false_and, List.take_length]
  · have hz : isTie pts x = false := tie_no fun a b c d e => hx ⟨_, e⟩
    simp! only [isi_D, not_tup fun xs e => hx ⟨xs, e⟩, hz, List.take_length]
def isNet (x : D) : Bool := match x with
  | .tuple [.int last, .tuple pts, .tuple ts] => decide (0 ≤ last) && decide (last ≤ 8) && decide (pts.length ≤ 7) && decide (ts.length ≤ 9) && pts.all (fun y => isLife y 0 last) && ts.all (isTie pts)
  | _ => false
theorem net_no {x : D} (h : ∀ a b c, x ≠ .tuple [a, b, c]) : isNet x = false := by
  unfold isNet
  split
  · exact absurd rfl (h _ _ _)
  · rfl
theorem life_pt {y : D} {lo hi : Int} (h : isLife y lo hi = true) : ∃ p q, y = .tuple [.int p, .int q] := by
  unfold isLife at h
  split at h
  · exact ⟨_, _, rfl⟩
  · cases h
theorem pts_of {pts : List D} {lo hi : Int} (h : pts.all (fun y => isLife y lo hi) = true) : Pts pts := fun y hy => life_pt (List.all_eq_true.mp h y hy)
theorem p_net (hn : tbl[ix.is_number]? = some (D_is_number ix)) (hl : tbl[ix.is_life]? = some (D_is_life ix)) (ht : tbl[ix.is_tie]? = some (D_is_tie ix)) (hN : tbl[ix.is_net]? = some (D_is_net ix)) : (callN tbl wf (n + 4) ix.is_net [.d x] st).wp X k = k (.t (.d (.bool (isNet x)))) st := by
  rw [wp_callN hN rfl]
  unfold D_is_net
  by_cases hx : ∃ xs, x = .tuple xs
  · obtain ⟨xs, rfl⟩ := hx
    simp! only [isi_t]
    cases h2 : decide ((xs.length : Int) = 3) with
    | false =>
      have hz : isNet (.tuple xs) = false := net_no fun a b c e => by cases e; simp at h2
      simp! only [hz, List.take_length]
    | true =>
      obtain ⟨a, b, c, rfl⟩ := len3 h2
      simp! only [p_num hn]
      cases a with
      | int last =>
        by_cases hl' : 0 ≤ last ∧ last ≤ 8
        · have e1 : isNum (.int last) 0 8 = true := by simp [isNum, hl'.1, hl'.2]
          simp! only [e1]
          by_cases hb : ∃ pts, b = .tuple pts
          · obtain ⟨pts, rfl⟩ := hb
            simp! only [isi_t]
            by_cases hn' : (7 : Int) < pts.length
            · have hz : isNet (.tuple [.int last, .tuple pts, c]) = false := by
                unfold isNet
                split
                · rename_i heq
                  cases heq
                  have : decide (pts.length ≤ 7) = false := decide_eq_false (by omega)
                  simp [this]
                · rfl
              simp! only [decide_eq_true hn', hz, List.take_length]
            · simp! only [decide_eq_false hn']
              by_cases hc : ∃ ts, c = .tuple ts
              · obtain ⟨ts, rfl⟩ := hc
                simp! only [isi_t]
                by_cases hm : (9 : Int) < ts.length
                · have hz : isNet (.tuple [.int last, .tuple pts, .tuple ts]) = false := by
                    simp [isNet]
                    intros
                    omega
                  simp! only [decide_eq_true hm, hz, List.take_length]
                · simp! only [decide_eq_false hm]
                  rw [compD (h := fun y => .bool (isLife y 0 last)) (fun y hy ko => by simp! only [p_life hn hl])]
                  have hz : isNet (.tuple [.int last, .tuple pts, .tuple ts]) = (pts.all (fun y => isLife y 0 last) && ts.all (isTie pts)) := by
                    have z1 : decide (0 ≤ last) = true := decide_eq_true hl'.1
                    have z2 : decide (last ≤ 8) = true := decide_eq_true hl'.2
                    have z3 : decide (pts.length ≤ 7) = true := decide_eq_true (by omega)
                    have z4 : decide (ts.length ≤ 9) = true := decide_eq_true (by omega)
                    simp only [isNet, z1, z2, z3, z4, Bool.true_and]
                  simp! only [q_all]
                  cases hp : pts.all (fun y => isLife y 0 last) with
                  | false => simp! only [hz, hp, Bool.false_and, List.take_length]
                  | true =>
                    simp! only [hz, hp, Bool.true_and, List.take_length]
                    rw [compD (h := fun y => .bool (isTie pts y)) (fun y hy ko => by simp! only [p_tie hn hl ht (pts_of hp)])]
                    simp! only [q_all, List.take_length]
              · have hz : isNet (.tuple [.int last, .tuple pts, c]) = false := by
                  unfold isNet
                  split
                  · rename_i heq
                    cases heq
                    exact absurd ⟨_, rfl⟩ hc
                  · rfl
                simp! only [isi_D, not_tup fun xs e => hc ⟨xs, e⟩, hz, List.take_length]
          · have hz : isNet (.tuple [.int last, b, c]) = false := by
              unfold isNet
              split
              · rename_i heq
                cases heq
                exact absurd ⟨_, rfl⟩ hb
              · rfl
            simp! only [isi_D, not_tup fun xs e => hb ⟨xs, e⟩, hz, List.take_length]
        · have e1 : isNum (.int last) 0 8 = false := by simp [isNum]; omega
          have hz : isNet (.tuple [.int last, b, c]) = false := by
            unfold isNet
            split
            · rename_i heq
              cases heq
              simp
              intros
              omega
            · rfl
          simp! only [e1, hz, List.take_length]
      | _ => simp! only [isNum, isNet, List.take_length]
  · have hz : isNet x = false := net_no fun a b c e => hx ⟨_, e⟩
    simp! only [isi_D, not_tup fun xs e => hx ⟨xs, e⟩, hz, List.take_length]
end
end Nt

/-! ties are drawn -/
namespace Nt
open PySem MP
def Pt (last : Int) (x : D) : Prop := ∃ f e : Int, x = .tuple [.int f, .int e] ∧ 0 ≤ f ∧ f ≤ e ∧ e ≤ last
def Pr (m : Nat) (x : D) : Prop := ∃ i j : Int, x = .tuple [.int i, .int j] ∧ 0 ≤ i ∧ i < j ∧ j < m
theorem Pt.life {last : Int} {x : D} (h : Pt last x) : isLife x 0 last = true := by
  obtain ⟨f, e, rfl, h0, h1, h2⟩ := h
  simp [isLife, h0, h1, h2]
theorem Pts.of {pts : List D} {last : Int} (h : ∀ y ∈ pts, Pt last y) : Pts pts := fun y hy => let ⟨f, e, q, _⟩ := h y hy; ⟨f, e, q⟩
def iL (lo : Int) (n : Nat) : List D := (List.range n).map fun i => .int (lo + (i : Nat))
theorem iL_eq {lo : Int} {n : Nat} : MP.intsFrom lo n = (iL lo n).map .d := by unfold MP.intsFrom iL; rw [List.map_map]; rfl
theorem iL_len {lo : Int} {n : Nat} : (iL lo n).length = n := by simp [iL]
theorem iL_mem {n : Nat} {x : D} (h : x ∈ iL 0 n) : ∃ i : Int, x = .int i ∧ 0 ≤ i ∧ i < n := by
  unfold iL at h
  obtain ⟨j, hj, rfl⟩ := List.mem_map.mp h
  have := List.mem_range.mp hj
  exact ⟨_, rfl, by omega, by omega⟩
theorem at_Pt {pts : List D} {last : Int} (hp : ∀ y ∈ pts, Pt last y) {i : Int} (h0 : 0 ≤ i) (h1 : i < pts.length) : ∃ f e : Int, atD pts i = some (.tuple [.int f, .int e]) ∧ ptA pts i = (f, e) ∧ 0 ≤ f ∧ f ≤ e ∧ e ≤ last := by
  obtain ⟨y, e1, e2, e3⟩ := at_ok h0 h1
  obtain ⟨f, e, rfl, q⟩ := hp y e3
  exact ⟨f, e, e1, by unfold ptA; rw [e2], q⟩
section
variable {tbl : List Def} {ix : Ix} {n wf : Nat} {st : Store} {c : Nat} {X : XC}
theorem ties {pts prs : List D} {many last : Int} {grows : Bool} (hf : tbl[ix.ties]? = some (D_ties ix)) (hpk : tbl[ix.pick]? = some (D_pick ix)) (hlf : tbl[ix.life]? = some (D_life ix)) (hd : tbl[ix.draw]? = some (D_draw ix)) (h : Sr st c) (hp : ∀ y ∈ pts, Pt last y) (hl : last ≤ 100) (hpl : pts.length ≤ 100)
    (hr : ∀ y ∈ prs, Pr pts.length y) (hr0 : prs ≠ []) (hrl : prs.length < 10000) (m0 : 0 ≤ many) (m1 : many ≤ 100) :
    (callN tbl wf (n + 3) ix.ties [.ref c, .d (.list pts), .d (.list prs), .d (.int many), .d (.bool grows)] st).wp X fun v st' => (∃ ts : List D, v = .t (.d (.tuple ts)) ∧ ts.length ≤ many.toNat ∧ ∀ t ∈ ts, isTie pts t = true) ∧ Sm c st st' := by
  rw [wp_callN hf rfl]
  unfold D_ties
  simp! only []
  rw [if_pos (by simp only [big]; omega)]
  simp! only [iL_eq]
  refine forL_inv (fun ys env s => ∃ (e6 e7 e8 e9 e10 e11 e12 : Option T) (found : List D), env = [some (.ref c), some (.d (.list pts)), some (.d (.list prs)), some (.d (.int many)), some (.d (.bool grows)), some (.ref st.length), e6, e7, e8, e9, e10, e11, e12] ∧ Mo c st s ∧
      s[st.length]? = some (.lst (found.map .d)) ∧ found.length + ys.length ≤ many.toNat ∧ ∀ t ∈ found, isTie pts t = true) ⟨_, _, _, _, _, _, _, [], rfl, (Mo.refl h).new, ?_, ?_, by simp⟩ ?_ ?_
  · rw [List.getElem?_append_right (Nat.le_refl _)]
    simp
  · rw [List.length_map, iL_len]
    simp
  · rintro x ys env s ⟨e6, e7, e8, e9, e10, e11, e12, found, rfl, mo, hc, hle, hti⟩
    simp! only []
    refine (pick hpk hd mo.src hr0 (by omega)).mono ?_
    rintro v s1 ⟨⟨y, hy, rfl⟩, k1⟩
    obtain ⟨i, j, rfl, i0, ij, j1⟩ := hr y hy
    obtain ⟨f1, g1, a1, a0, a2, a3, a4⟩ := at_Pt hp i0 (by omega)
    obtain ⟨f2, g2, b1, b0, b2, b3, b4⟩ := at_Pt hp (i := j) (by omega) j1
    simp! only [a1, b1]
    have mo1 := mo.sm2 k1
    have hc1 : s1[st.length]? = some (.lst (found.map .d)) := (k1.2.1 _ (by have := mo.lt; omega)).trans hc
    cases hd' : decide ((if f2 > f1 then f2 else f1) ≤ (if g2 < g1 then g2 else g1)) with
    | false =>
      simp! only []
      exact ⟨_, _, _, _, _, _, _, found, rfl, mo1, hc1, by simp only [List.length_cons] at hle; omega, hti⟩
    | true =>
      have hd'' := of_decide_eq_true hd'
      simp! only []
      refine (draw hd mo1.src (by omega) (by omega)).mono ?_
      rintro v s2 ⟨⟨r, rfl, r0, r1⟩, k2⟩
      simp! only []
      refine (life hlf hd (mo1.sm2 k2).src (by split <;> omega) hd'' (by split <;> omega)).mono ?_
      rintro v s3 ⟨⟨f, e, rfl, q1, q2, q3⟩, k3⟩
      have mo3 := (mo1.sm2 k2).sm2 k3
      have hc3 : s3[st.length]? = some (.lst (found.map .d)) := (k3.2.1 _ (by have := mo.lt; omega)).trans ((k2.2.1 _ (by have := mo.lt; omega)).trans hc1)
      have hl3 : st.length < s3.length := (List.getElem?_eq_some_iff.mp hc3).1
      have hbig : found.length < big := by simp only [List.length_cons] at hle; show found.length < 16777216; omega
      have good : ∀ z : Int, f ≤ z → z ≤ (if g2 < g1 then g2 else g1) → isTie pts (.tuple [.int i, .int j, .int f, .int z]) = true := fun z z1 z2 => by
        have w1 : max2 (ptA pts i).1 (ptA pts j).1 ≤ f := by rw [a0, b0]; exact q1
        have w2 : z ≤ min2 (ptA pts i).2 (ptA pts j).2 := by rw [a0, b0]; exact z2
        simp [isTie, isLife, i0, ij, j1, w1, z1, w2]
      cases grows with
      | true =>
        have hm : methT s3 .append (found.map .d) [.d (.tuple [.int i, .int j, .int f, .int (if g2 < g1 then g2 else g1)])] = some (.d .none, (found ++ [PyData.tuple [.int i, .int j, .int f, .int (if g2 < g1 then g2 else g1)]]).map .d) := m_app hbig
        simp! only [hc3, hm]
        refine ⟨_, _, _, _, _, _, _, found ++ [PyData.tuple [.int i, .int j, .int f, .int (if g2 < g1 then g2 else g1)]], rfl, mo3.set (Nat.le_refl _), List.getElem?_set_self hl3, by simp only [List.length_append, List.length_cons, List.length_nil] at hle ⊢; omega, fun t ht => ?_⟩
        rcases List.mem_append.mp ht with ht | ht
        · exact hti t ht
        · simp only [List.mem_cons, List.not_mem_nil, or_false] at ht
          subst ht
          exact good _ (by omega) (Int.le_refl _)
      | false =>
        have hm : methT s3 .append (found.map .d) [.d (.tuple [.int i, .int j, .int f, .int e])] = some (.d .none, (found ++ [PyData.tuple [.int i, .int j, .int f, .int e]]).map .d) := m_app hbig
        simp! only [hc3, hm]
        refine ⟨_, _, _, _, _, _, _, found ++ [PyData.tuple [.int i, .int j, .int f, .int e]], rfl, mo3.set (Nat.le_refl _), List.getElem?_set_self hl3, by simp only [List.length_append, List.length_cons, List.length_nil] at hle ⊢; omega, fun t ht => ?_⟩
        rcases List.mem_append.mp ht with ht | ht
        · exact hti t ht
        · simp only [List.mem_cons, List.not_mem_nil, or_false] at ht
          subst ht
          exact good _ (by omega) q3
  · rintro env s ⟨e6, e7, e8, e9, e10, e11, e12, found, rfl, mo, hc, hle, hti⟩
    simp! only [v_ref hc]
    exact ⟨⟨found, rfl, by simpa using hle, hti⟩, mo.sm⟩
end
end Nt

/-! nets are drawn -/
namespace Nt
open PySem MP
theorem cut_mem {xs : List D} {a b : Option Int} {y : D} (h : y ∈ cutD xs a b) : y ∈ xs := List.mem_of_mem_drop (List.mem_of_mem_take h)
theorem cut_len {xs : List D} {a b : Option Int} : (cutD xs a b).length ≤ xs.length := by
  unfold cutD
  rw [List.length_take, List.length_drop]
  omega
theorem cut_top {xs : List D} {v : Int} (h : 0 ≤ v) : (cutD xs none (some v)).length ≤ v.toNat := by
  unfold cutD
  rw [List.length_take, List.length_drop]
  simp only [sIx]
  rw [if_neg (by omega)]
  omega
theorem cut_ne {xs : List D} {v : Int} (h : 1 ≤ v) (hx : xs ≠ []) : cutD xs none (some v) ≠ [] := by
  have hl : 0 < xs.length := List.length_pos_iff.mpr hx
  refine List.length_pos_iff.mp ?_
  unfold cutD
  rw [List.length_take, List.length_drop]
  simp only [sIx]
  rw [if_neg (by omega)]
  omega
theorem pr_lay {m : Nat} {x : D} (h : Pr m x) : Lay x := by
  obtain ⟨i, j, rfl, _⟩ := h
  exact ⟨rfl, by simp [PyData.depth, PyData.depthAll]⟩
/-- a net as it is drawn -/
structure NetV (x : D) (last : Int) (pts ts : List D) : Prop where
  eq : x = .tuple [.int last, .tuple pts, .tuple ts]
  l0 : 0 ≤ last
  l1 : last ≤ 8
  pl : pts.length ≤ 7
  pt : ∀ y ∈ pts, Pt last y
  tl : ts.length ≤ 9
  ti : ∀ t ∈ ts, isTie pts t = true
theorem NetV.net {x : D} {last : Int} {pts ts : List D} (h : NetV x last pts ts) : isNet x = true := by
  rw [h.eq]
  have e1 : pts.all (fun y => isLife y 0 last) = true := List.all_eq_true.mpr fun y hy => (h.pt y hy).life
  have e2 : ts.all (isTie pts) = true := List.all_eq_true.mpr h.ti
  simp [isNet, h.l0, h.l1, h.pl, h.tl, e1, e2]
section
variable {tbl : List Def} {ix : Ix} {n wf : Nat} {st : Store} {c : Nat} {X : XC}
/-- the defs that draw -/
structure HasG (tbl : List Def) (ix : Ix) : Prop where
  draw : tbl[ix.draw]? = some (D_draw ix)
  pick : tbl[ix.pick]? = some (D_pick ix)
  mixed : tbl[ix.mixed]? = some (D_mixed ix)
  life : tbl[ix.life]? = some (D_life ix)
  ties : tbl[ix.ties]? = some (D_ties ix)
  net : tbl[ix.net]? = some (D_net ix)
  great : tbl[ix.great_net]? = some (D_great_net ix)
  any : tbl[ix.any_net]? = some (D_any_net ix)
theorem net {most days : Int} {grows : Bool} (G : HasG tbl ix) (h : Sr st c) (h0 : 0 < most) (h1 : most ≤ 7) (d0 : 0 < days) (d1 : days ≤ 9) (hw : 1000 < wf) :
    (callN tbl wf (n + 4) ix.net [.ref c, .d (.int most), .d (.int days), .d (.bool grows)] st).wp X fun v st' => (∃ x last pts ts, v = .t (.d x) ∧ NetV x last pts ts) ∧ Sm c st st' := by
  rw [wp_callN G.net rfl]
  unfold D_net
  simp! only []
  refine (draw G.draw h d0 (by omega)).mono ?_
  rintro v s1 ⟨⟨last, rfl, l0, l1⟩, k1⟩
  simp! only []
  refine (draw G.draw k1.2.2 (by omega) (by omega)).mono ?_
  rintro v s2 ⟨⟨kind, rfl, q0, q1⟩, k2⟩
  simp! only []
  refine (draw G.draw k2.2.2 h0 (by omega)).mono ?_
  rintro v s3 ⟨⟨r, rfl, r0, r1⟩, k3⟩
  have kk := (k1.trans k2).trans k3
  obtain ⟨m, hm⟩ : ∃ m : Int, m = 1 + (if kind > r then kind else r) := ⟨_, rfl⟩
  have m0 : 1 ≤ m := by rw [hm]; split <;> omega
  have m1 : m ≤ 7 := by rw [hm]; split <;> omega
  simp! only [← hm]
  rw [if_pos (by simp only [big]; omega)]
  simp! only [iL_eq]
  refine Res.wp.mono (compL_inv (k := fun r s => ∃ ps : List D, r = ps.map .d ∧ ps.length ≤ 7 ∧ (∀ y ∈ ps, Pt last y) ∧ Sm c s3 s) (fun xs acc s => ∃ ps : List D, acc = ps.map .d ∧ ps.length + xs.length ≤ 7 ∧ (∀ y ∈ ps, Pt last y) ∧ Sm c s3 s) (acc := []) ⟨[], rfl, ?_, by simp, Sm.refl kk.2.2⟩ ?_ ?_) ?_
  · rw [List.length_map, iL_len]
    simp only [List.length_nil]
    omega
  · rintro x xs acc s ⟨ps, rfl, hl, hp, hs⟩
    simp! only []
    refine (life G.life G.draw hs.2.2 (by omega) l0 (by omega)).mono ?_
    rintro v s' ⟨⟨f, e, rfl, w1, w2, w3⟩, k⟩
    simp! only []
    refine ⟨ps ++ [PyData.tuple [.int f, .int e]], by simp, by simp only [List.length_cons, List.length_append, List.length_nil] at hl ⊢; omega, fun y hy => ?_, hs.trans k⟩
    rcases List.mem_append.mp hy with hy | hy
    · exact hp y hy
    · simp only [List.mem_cons, List.not_mem_nil, or_false] at hy
      subst hy
      exact ⟨f, e, rfl, w1, w2, w3⟩
  · rintro acc s ⟨ps, rfl, hl, hp, hs⟩
    exact ⟨ps, rfl, by simpa using hl, hp, hs⟩
  rintro r s4 ⟨pts0, hr, hlen0, hpts0, hs4⟩
  rw [List.nil_append] at hr
  subst hr
  have kk4 := kk.trans hs4
  -- the points, grown or not
  have rest : ∀ pts : List D, (∀ y ∈ pts, Pt last y) → pts.length ≤ 7 → ∀ (body : List S) (e9 e10 e11 e12 : Option T), body = (D_net ix).body.drop 3 → (execs (callN tbl wf (n + 3)) wf body
      [some (.ref c), some (.d (.int most)), some (.d (.int days)), some (.d (.bool grows)), some (.d (.list pts)), none, none, some (.d (.int last)), some (.d (.int kind)), e9, e10, e11, e12] s4).wp (finX st.length X) (finK st.length X fun v st' => (∃ x last pts ts, v = .t (.d x) ∧ NetV x last pts ts) ∧ Sm c st st') := by
    intro pts hpts hlen body e9 e10 e11 e12 hbody
    subst hbody
    unfold D_net
    simp only [List.drop]
    simp! only []
    rw [if_pos (by simp only [big]; omega)]
    simp! only [iL_eq]
    refine forL_inv (fun ys env s => ∃ (e6 e12 : Option T) (prs : List D), env = [some (.ref c), some (.d (.int most)), some (.d (.int days)), some (.d (.bool grows)), some (.d (.list pts)), some (.d (.list prs)), e6, some (.d (.int last)), some (.d (.int kind)), e9, e10, e11, e12] ∧ s = s4 ∧
        (∀ y ∈ prs, Pr pts.length y) ∧ prs.length + 10 * ys.length ≤ 10 * pts.length ∧ ∀ y ∈ ys, ∃ i : Int, y = .d (.int i) ∧ 0 ≤ i ∧ i < pts.length) ⟨_, _, [], rfl, rfl, by simp, by rw [List.length_map, iL_len]; simp, ?_⟩ ?_ ?_
    · intro y hy
      obtain ⟨z, hz, rfl⟩ := List.mem_map.mp hy
      obtain ⟨i, e1, e2, e3⟩ := iL_mem hz
      exact ⟨i, by rw [e1], e2, by omega⟩
    · rintro x ys env s ⟨e6, e12, prs, rfl, rfl, hprs, hpl, hys⟩
      obtain ⟨o, rfl, o0, o1⟩ := hys x (by simp)
      simp! only []
      rw [if_pos (by simp only [big]; omega)]
      simp! only [iL_eq]
      rw [compD (h := fun y => .tuple [y, .int o]) (fun y hy ko => by simp! only [])]
      have hl2 : ((iL 0 o.toNat).map fun y : D => (.tuple [y, .int o] : D)).length ≤ 10 := by rw [List.length_map, iL_len]; omega
      simp! only []
      rw [b_addL (by simp only [List.length_cons] at hpl; rw [List.length_map, List.length_map]; show _ ≤ 16777216; omega), ← List.map_append]
      simp! only []
      refine ⟨_, _, _, rfl, fun y hy => ?_, ?_, fun y hy => hys y (by simp [hy])⟩
      · rcases List.mem_append.mp hy with hy | hy
        · exact hprs y hy
        · obtain ⟨z, hz, rfl⟩ := List.mem_map.mp hy
          obtain ⟨i, rfl, i0, i1⟩ := iL_mem hz
          exact ⟨i, o, rfl, i0, by omega, o1⟩
      · rw [List.length_append]
        simp only [List.length_cons] at hpl
        omega
    · rintro env s ⟨e6, e12, prs, rfl, rfl, hprs, hpl, _⟩
      simp! only [c_eq (shaped_list fun z hz => pr_lay (hprs z hz)) nil_shaped rfl, eqv_nil]
      simp only [List.length_nil, Nat.mul_zero, Nat.add_zero] at hpl
      by_cases he : prs = []
      · subst he
        simp! only [List.isEmpty_nil]
        rw [take_len kk4.1]
        exact ⟨⟨_, last, pts, [], rfl, rfl, l0, by omega, hlen, hpts, by simp, by simp⟩, kk4⟩
      · have he2 : prs.isEmpty = false := by cases prs <;> first | rfl | exact absurd rfl he
        simp! only [he2]
        refine (mixed G.mixed G.draw kk4.2.2 (fun z hz => pr_lay (hprs z hz)) (by omega) hw).mono ?_
        rintro v s5 ⟨⟨ys, rfl, hyl, hyp⟩, k5⟩
        simp! only []
        refine (draw G.draw k5.2.2 (by omega) (by omega)).mono ?_
        rintro v s6 ⟨⟨u, rfl, u0, u1⟩, k6⟩
        simp! only []
        refine (draw G.draw k6.2.2 (by omega) (by omega)).mono ?_
        rintro v s7 ⟨⟨t, rfl, t0, t1⟩, k7⟩
        simp! only []
        have hyn : ys ≠ [] := fun e => by
          rw [e] at hyl
          exact he (List.length_eq_zero_iff.mp hyl.symm)
        refine (ties G.ties G.pick G.life G.draw k7.2.2 hpts (by omega) (by omega) (fun y hy => hprs y (hyp y (cut_mem hy))) (cut_ne (by omega) hyn) (by have := cut_len (xs := ys) (a := none) (b := some (2 + u)); omega) t0 (by omega)).mono ?_
        rintro v s8 ⟨⟨ts, rfl, tl, tt⟩, k8⟩
        have k9 := kk4.trans ((k5.trans k6).trans (k7.trans k8))
        simp! only []
        rw [take_len k9.1]
        exact ⟨⟨_, last, pts, ts, rfl, rfl, l0, by omega, hlen, hpts, by omega, tt⟩, k9⟩
  cases grows with
  | false =>
    have r := rest pts0 hpts0 hlen0 _ none none none none rfl
    revert r
    unfold D_net
    simp only [List.drop]
    simp! only []
    exact id
  | true =>
    simp! only []
    rw [compD (h := fun y => match y with | .tuple [.int f, .int _] => .tuple [.int f, .int last] | _ => .none) (fun y hy ko => by
      obtain ⟨f, e, rfl, _⟩ := hpts0 y hy
      simp! only [])]
    have r := rest (pts0.map fun y => match y with | .tuple [.int f, .int _] => .tuple [.int f, .int last] | _ => .none) (fun y hy => by
      obtain ⟨z, hz, rfl⟩ := List.mem_map.mp hy
      obtain ⟨f, e, rfl, f0, f1, f2⟩ := hpts0 z hz
      exact ⟨f, last, rfl, f0, by omega, Int.le_refl _⟩) (by rw [List.length_map]; exact hlen0) _ none none none none rfl
    revert r
    unfold D_net
    simp only [List.drop]
    simp! only []
    exact id
end
end Nt

/-! great nets, any nets -/
namespace Nt
open PySem MP
section
variable {tbl : List Def} {ix : Ix} {n wf : Nat} {st : Store} {c : Nat} {X : XC}
theorem great {grows : Bool} (G : HasG tbl ix) (h : Sr st c) (hw : 1000 < wf) :
    (callN tbl wf (n + 4) ix.great_net [.ref c, .d (.bool grows)] st).wp X fun v st' => (∃ x last pts ts, v = .t (.d x) ∧ NetV x last pts ts) ∧ Sm c st st' := by
  rw [wp_callN G.great rfl]
  unfold D_great_net
  simp! only []
  rw [if_pos (by simp only [big]; omega)]
  simp! only [iL_eq]
  refine Res.wp.mono (compL_inv (k := fun r s => ∃ ps : List D, r = ps.map .d ∧ ps.length = 7 ∧ (∀ y ∈ ps, Pt 8 y) ∧ Sm c st s) (fun xs acc s => ∃ ps : List D, acc = ps.map .d ∧ ps.length + xs.length = 7 ∧ (∀ y ∈ ps, Pt 8 y) ∧ Sm c st s) (acc := []) ⟨[], rfl, ?_, by simp, Sm.refl h⟩ ?_ ?_) ?_
  · rw [List.length_map, iL_len]
    rfl
  · rintro x xs acc s ⟨ps, rfl, hl, hp, hs⟩
    simp! only []
    refine (draw G.draw hs.2.2 (by omega) (by omega)).mono ?_
    rintro v s1 ⟨⟨r, rfl, r0, r1⟩, k1⟩
    simp! only []
    refine (life G.life G.draw (hs.trans k1).2.2 (by omega) (by omega) (by omega)).mono ?_
    rintro v s' ⟨⟨f, e, rfl, w1, w2, w3⟩, k⟩
    simp! only []
    refine ⟨ps ++ [PyData.tuple [.int f, .int e]], by simp, by simp only [List.length_cons, List.length_append, List.length_nil] at hl ⊢; omega, fun y hy => ?_, (hs.trans k1).trans k⟩
    rcases List.mem_append.mp hy with hy | hy
    · exact hp y hy
    · simp only [List.mem_cons, List.not_mem_nil, or_false] at hy
      subst hy
      exact ⟨f, e, rfl, w1, w2, w3⟩
  · rintro acc s ⟨ps, rfl, hl, hp, hs⟩
    exact ⟨ps, rfl, by simpa using hl, hp, hs⟩
  rintro r s4 ⟨pts0, hr, hlen0, hpts0, kk4⟩
  rw [List.nil_append] at hr
  subst hr
  have rest : ∀ pts : List D, (∀ y ∈ pts, Pt 8 y) → pts.length = 7 → ∀ (body : List S) (e5 e6 e7 e8 : Option T), body = (D_great_net ix).body.drop 2 → (execs (callN tbl wf (n + 3)) wf body
      [some (.ref c), some (.d (.bool grows)), some (.d (.list pts)), none, none, e5, e6, e7, e8] s4).wp (finX st.length X) (finK st.length X fun v st' => (∃ x last pts ts, v = .t (.d x) ∧ NetV x last pts ts) ∧ Sm c st st') := by
    intro pts hpts hlen body e5 e6 e7 e8 hbody
    subst hbody
    unfold D_great_net
    simp only [List.drop]
    simp! only []
    rw [if_pos (by simp only [big]; omega)]
    simp! only [iL_eq]
    refine forL_inv (fun ys env s => ∃ (e4 e8 : Option T) (prs : List D), env = [some (.ref c), some (.d (.bool grows)), some (.d (.list pts)), some (.d (.list prs)), e4, e5, e6, e7, e8] ∧ s = s4 ∧
        (∀ y ∈ prs, Pr 7 y) ∧ prs.length + 10 * ys.length ≤ 70 ∧ (∀ y ∈ ys, ∃ i : Int, y = .d (.int i) ∧ 0 ≤ i ∧ i < 7) ∧ (prs ≠ [] ∨ T.d (.int 6) ∈ ys)) ⟨_, _, [], rfl, rfl, by simp, by rw [List.length_map, iL_len]; decide, ?_, .inr (List.mem_map.mpr ⟨.int 6, List.mem_map.mpr ⟨6, List.mem_range.mpr (by decide), rfl⟩, rfl⟩)⟩ ?_ ?_
    · intro y hy
      obtain ⟨z, hz, rfl⟩ := List.mem_map.mp hy
      obtain ⟨i, e1, e2, e3⟩ := iL_mem hz
      exact ⟨i, by rw [e1], e2, by omega⟩
    · rintro x ys env s ⟨e4, e8, prs, rfl, rfl, hprs, hpl, hys, hone⟩
      obtain ⟨o, rfl, o0, o1⟩ := hys x (by simp)
      simp! only []
      rw [if_pos (by simp only [big]; omega)]
      simp! only [iL_eq]
      rw [compD (h := fun y => .tuple [y, .int o]) (fun y hy ko => by simp! only [])]
      have hl2 : ((iL 0 o.toNat).map fun y : D => (.tuple [y, .int o] : D)).length = o.toNat := by rw [List.length_map, iL_len]
      simp! only []
      rw [b_addL (by simp only [List.length_cons] at hpl; rw [List.length_map, List.length_map]; show _ ≤ 16777216; omega), ← List.map_append]
      simp! only []
      refine ⟨_, _, _, rfl, fun y hy => ?_, ?_, fun y hy => hys y (by simp [hy]), ?_⟩
      · rcases List.mem_append.mp hy with hy | hy
        · exact hprs y hy
        · obtain ⟨z, hz, rfl⟩ := List.mem_map.mp hy
          obtain ⟨i, rfl, i0, i1⟩ := iL_mem hz
          exact ⟨i, o, rfl, i0, by omega, by omega⟩
      · rw [List.length_append]
        simp only [List.length_cons] at hpl
        omega
      · rcases hone with hone | hone
        · exact .inl fun z => hone (List.append_eq_nil_iff.mp z).1
        · rcases List.mem_cons.mp hone with e | e
          · cases e
            refine .inl fun z => ?_
            have := congrArg List.length z
            rw [List.length_append, hl2] at this
            simp at this
          · exact .inr e
    · rintro env s ⟨e4, e8, prs, rfl, rfl, hprs, hpl, _, hne⟩
      simp! only []
      simp only [List.length_nil, Nat.mul_zero, Nat.add_zero] at hpl
      refine (mixed G.mixed G.draw kk4.2.2 (fun z hz => pr_lay (hprs z hz)) (by omega) hw).mono ?_
      rintro v s5 ⟨⟨ys, rfl, hyl, hyp⟩, k5⟩
      simp! only []
      have hyn : ys ≠ [] := fun e => by
        rw [e] at hyl
        exact hne.elim (fun z => z (List.length_eq_zero_iff.mp hyl.symm)) (fun z => nomatch z)
      refine (ties G.ties G.pick G.life G.draw k5.2.2 hpts (by omega) (by omega) (fun y hy => by rw [hlen]; exact hprs y (hyp y hy)) hyn (by omega) (by omega) (by omega)).mono ?_
      rintro v s8 ⟨⟨ts, rfl, tl, tt⟩, k8⟩
      have k9 := kk4.trans (k5.trans k8)
      simp! only []
      rw [take_len k9.1]
      have ct := cut_top (xs := ts) (v := 9) (by decide)
      exact ⟨⟨_, 8, pts, _, rfl, rfl, by omega, by omega, by omega, hpts, ct, fun t ht => tt t (cut_mem ht)⟩, k9⟩
  cases grows with
  | false =>
    have r := rest pts0 hpts0 hlen0 _ none none none none rfl
    revert r
    unfold D_great_net
    simp only [List.drop]
    simp! only []
    exact id
  | true =>
    simp! only []
    rw [compD (h := fun y => match y with | .tuple [.int f, .int _] => .tuple [.int f, .int 8] | _ => .none) (fun y hy ko => by
      obtain ⟨f, e, rfl, _⟩ := hpts0 y hy
      simp! only [])]
    have r := rest (pts0.map fun y => match y with | .tuple [.int f, .int _] => .tuple [.int f, .int 8] | _ => .none) (fun y hy => by
      obtain ⟨z, hz, rfl⟩ := List.mem_map.mp hy
      obtain ⟨f, e, rfl, f0, f1, f2⟩ := hpts0 z hz
      exact ⟨f, 8, rfl, f0, by omega, Int.le_refl _⟩) (by rw [List.length_map]; exact hlen0) _ none none none none rfl
    revert r
    unfold D_great_net
    simp only [List.drop]
    simp! only []
    exact id
theorem any_net {most days : Int} {grows : Bool} (G : HasG tbl ix) (h : Sr st c) (h0 : 0 < most) (h1 : most ≤ 7) (d0 : 0 < days) (d1 : days ≤ 9) (hw : 1000 < wf) :
    (callN tbl wf (n + 5) ix.any_net [.ref c, .d (.int most), .d (.int days), .d (.bool grows)] st).wp X fun v st' => (∃ x last pts ts, v = .t (.d x) ∧ NetV x last pts ts) ∧ Sm c st st' := by
  rw [wp_callN G.any rfl]
  unfold D_any_net
  simp! only []
  refine (draw G.draw h (by omega) (by omega)).mono ?_
  rintro v s1 ⟨⟨r, rfl, r0, r1⟩, k1⟩
  simp! only []
  cases decide (r = 0) with
  | true =>
    simp! only []
    refine (great G k1.2.2 hw).mono ?_
    rintro v s2 ⟨⟨x, last, pts, ts, rfl, hN⟩, k2⟩
    have k3 := k1.trans k2
    simp! only []
    rw [take_len k3.1]
    exact ⟨⟨x, last, pts, ts, rfl, hN⟩, k3⟩
  | false =>
    simp! only []
    refine (net G k1.2.2 h0 h1 d0 d1 hw).mono ?_
    rintro v s2 ⟨⟨x, last, pts, ts, rfl, hN⟩, k2⟩
    have k3 := k1.trans k2
    simp! only []
    rw [take_len k3.1]
    exact ⟨⟨x, last, pts, ts, rfl, hN⟩, k3⟩
end
end Nt

/-! the source is made -/
namespace Nt
open PySem MP
theorem bits_lt {i : Int} {k : Nat} (h : Builtin.Int.intBits i ≤ k) : i.natAbs < 2 ^ k := by
  unfold Builtin.Int.intBits at h
  split at h
  · rename_i hz
    have : i = 0 := by simpa using hz
    subst this
    exact Nat.two_pow_pos k
  · rename_i hz
    have hn : i.natAbs ≠ 0 := fun e => hz (by simp [Int.natAbs_eq_zero.mp e])
    exact (Nat.log2_lt hn).mp (by omega)
section
variable {tbl : List Def} {ix : Ix} {n wf : Nat} {st : Store} {X : XC}
theorem source {ns : List Int} {start : Int} (hs : tbl[ix.source]? = some (D_source ix)) (hb : ∀ z ∈ ns, Builtin.Int.intBits z ≤ 1048576) (s0 : 0 ≤ start) (s1 : start ≤ 10) :
    (callN tbl wf (n + 1) ix.source [.d (.list (ns.map .int)), .d (.int start)] st).wp X fun v st' => (∃ a b : Int, v = .new [.d (.int a), .d (.int b)] ∧ 0 ≤ a ∧ 0 ≤ b ∧ b ≤ 2147483647) ∧ st' = st := by
  rw [wp_callN hs rfl]
  unfold D_source
  simp! only []
  refine forL_inv (fun ys env s => ∃ (m : Int) (e3 e4 : Option T), env = [some (.d (.list (ns.map .int))), some (.d (.int start)), some (.d (.int m)), e3, e4] ∧ s = st ∧ 0 ≤ m ∧ m ≤ 2147483647 ∧ ∃ zs : List Int, ys = (zs.map PyData.int).map .d ∧ ∀ z ∈ zs, Builtin.Int.intBits z ≤ 1048576) ⟨_, _, _, rfl, rfl, by omega, by omega, ns, rfl, hb⟩ ?_ ?_
  · rintro x ys env s ⟨m, e3, e4, rfl, rfl, m0, m1, zs, hz, hzb⟩
    cases zs with
    | nil => cases hz
    | cons z zs =>
      rw [List.map_cons, List.map_cons] at hz
      obtain ⟨rfl, rfl⟩ := List.cons.inj hz
      simp! only []
      rw [b_mul (mul_small (by omega) (by omega))]
      simp! only []
      have bz := bits_lt (hzb z (by simp))
      have bw : Builtin.Int.intBits (m * 50021 + z) ≤ 1048577 := by
        apply bits_small
        have h1 : (m * 50021 + z).natAbs ≤ (m * 50021).natAbs + z.natAbs := Int.natAbs_add_le _ _
        have h2 : (m * 50021).natAbs ≤ 2 ^ 64 := by
          have : (2 : Nat) ^ 64 = 18446744073709551616 := by decide
          omega
        have h3 : (2 : Nat) ^ 64 ≤ 2 ^ 1048576 := Nat.pow_le_pow_right (by decide) (by decide)
        have h4 : (2 : Nat) ^ 1048577 = 2 ^ 1048576 + 2 ^ 1048576 := by rw [Nat.pow_succ]; omega
        rw [h4]
        omega
      have hp : powOk (m * 50021 + z) 3 = true := by
        unfold powOk
        rw [decide_eq_true (by decide : (0 : Int) ≤ 3), Bool.true_and]
        refine decide_eq_true ?_
        omega
      rw [b_pow hp]
      simp! only []
      rw [b_mod (by decide)]
      simp! only []
      have w0 := Int.emod_nonneg ((m * 50021 + z) ^ (3 : Int).toNat) (show (2147483563 : Int) ≠ 0 by decide)
      have w1 := Int.emod_lt_of_pos ((m * 50021 + z) ^ (3 : Int).toNat) (show (0 : Int) < 2147483563 by decide)
      exact ⟨_, _, _, rfl, by omega, by omega, zs, rfl, fun y hy => hzb y (by simp [hy])⟩
  · rintro env s ⟨m, e3, e4, rfl, rfl, m0, m1, _⟩
    simp! only []
    have hp : powOk 10 18 = true := by decide +kernel
    by_cases hlt : start < ns.length
    · obtain ⟨y, ey, _, hy⟩ := at_ok (xs := ns.map PyData.int) s0 (by simpa using hlt)
      obtain ⟨z, hz, rfl⟩ := List.mem_map.mp hy
      simp! only [decide_eq_true hlt, ey, b_pow hp]
      by_cases hge : (10 : Int) ^ (18 : Int).toNat ≤ z
      · simp! only [decide_eq_true hge, ey, b_pow hp, List.take_length]
        exact ⟨_, _, rfl, by omega, m0, m1⟩
      · simp! only [decide_eq_false hge, List.take_length]
        exact ⟨_, _, rfl, by omega, m0, m1⟩
    · simp! only [decide_eq_false hlt, List.take_length]
      exact ⟨_, _, rfl, by omega, m0, m1⟩
/-! what is refused -/
theorem need_net (hn : tbl[ix.is_number]? = some (D_is_number ix)) (hl : tbl[ix.is_life]? = some (D_is_life ix)) (ht : tbl[ix.is_tie]? = some (D_is_tie ix)) (hN : tbl[ix.is_net]? = some (D_is_net ix)) (hd : tbl[ix.need_net]? = some (D_need_net ix)) {x : D} {k : RV → Store → Prop} :
    (callN tbl wf (n + 5) ix.need_net [.d x] st).wp X k = if isNet x then k (.t (.d .none)) st else X ix.cNet (.d x) st := by
  rw [wp_callN hd rfl]
  unfold D_need_net
  simp! only [p_net hn hl ht hN]
  cases isNet x with
  | true => simp! only [List.take_length]
  | false => simp! only [List.take_length]
theorem need_netL (hN : tbl[ix.is_net]? = some (D_is_net ix)) (hd : tbl[ix.need_net]? = some (D_need_net ix)) {m : Nat} {ts : List T} {k : RV → Store → Prop} (hm : st[m]? = some (.lst ts)) :
    (callN tbl wf (n + 2) ix.need_net [.ref m] st).wp X k = X ix.cNet (.ref m) st := by
  have hlt : m < st.length := (List.getElem?_eq_some_iff.mp hm).1
  rw [wp_callN hd rfl]
  unfold D_need_net
  simp! only []
  rw [wp_callN hN rfl]
  unfold D_is_net
  simp! only [v_ref hm, isi_l, List.take_length]
  rw [finX_old (by rw [old_ref]; exact decide_eq_true hlt), List.take_length]
theorem need_day (hn : tbl[ix.is_number]? = some (D_is_number ix)) (hd : tbl[ix.need_day]? = some (D_need_day ix)) {x : D} {g : Int} {k : RV → Store → Prop} :
    (callN tbl wf (n + 2) ix.need_day [.d x, .d (.int g)] st).wp X k = if isNum x 0 g then k (.t (.d .none)) st else X ix.cDay (.d x) st := by
  rw [wp_callN hd rfl]
  unfold D_need_day
  simp! only [p_num hn]
  cases isNum x 0 g with
  | true => simp! only [List.take_length]
  | false => simp! only [List.take_length]
theorem need_dayL (hn : tbl[ix.is_number]? = some (D_is_number ix)) (hd : tbl[ix.need_day]? = some (D_need_day ix)) {m : Nat} {ts : List T} {g : Int} {k : RV → Store → Prop} (hm : st[m]? = some (.lst ts)) :
    (callN tbl wf (n + 2) ix.need_day [.ref m, .d (.int g)] st).wp X k = X ix.cDay (.ref m) st := by
  have hlt : m < st.length := (List.getElem?_eq_some_iff.mp hm).1
  rw [wp_callN hd rfl]
  unfold D_need_day
  simp! only []
  rw [wp_callN hn rfl]
  unfold D_is_number
  simp! only [v_ref hm, isi_l, List.take_length]
  rw [finX_old (by rw [old_ref]; exact decide_eq_true hlt), List.take_length]
end
end Nt

/-! which lives touch which days -/
namespace Nt
open PySem MP
def enumD (xs : List D) : List D := xs.zipIdx.map fun p => .tuple [.int (p.2 : Nat), p.1]
theorem enum_map {xs : List D} : enumT (xs.map .d) = (enumD xs).map .d := by
  unfold enumT enumD
  rw [List.zipIdx_map, List.map_map, List.map_map]
  rfl
/-- the numbers of the lives that touch the days f..l -/
def inF (lives : List D) (f l : Int) : List D := (iL 0 lives.length).filterMap fun y => match y with
  | .int i => if decide ((ptA lives i).1 ≤ l) && decide (f ≤ (ptA lives i).2) then some (.int i) else none
  | _ => none
theorem fm_congr {α β : Type} {f g : α → Option β} : ∀ {xs : List α}, (∀ x ∈ xs, f x = g x) → xs.filterMap f = xs.filterMap g
  | [], _ => rfl
  | x :: xs, h => by rw [List.filterMap_cons, List.filterMap_cons, h x (by simp), fm_congr fun y hy => h y (List.mem_cons_of_mem _ hy)]
theorem inF_enum {lives : List D} {f l : Int} (hp : Pts lives) : ((enumD lives).filterMap fun y => match y with
    | .tuple [.int i, .tuple [.int p, .int q]] => if decide (p ≤ l) && decide (f ≤ q) then some (.int i) else none
    | _ => none) = inF lives f l := by
  have e1 : enumD lives = (List.range lives.length).map fun i => .tuple [.int (i : Nat), lives.getD i .none] := by
    unfold enumD
    apply List.ext_getElem
    · simp
    · intro i h1 h2
      simp at h1
      simp [h1]
  have e2 : iL 0 lives.length = (List.range lives.length).map fun i => (.int (i : Nat) : D) := by
    unfold iL
    simp
  unfold inF
  rw [e1, e2, List.filterMap_map, List.filterMap_map]
  apply fm_congr
  intro i hi
  have hi := List.mem_range.mp hi
  obtain ⟨p, q, e⟩ := hp lives[i] (List.getElem_mem hi)
  have e3 : lives.getD i .none = .tuple [.int p, .int q] := by simp [hi, e]
  have e4 : ptA lives (i : Nat) = (p, q) := by
    unfold ptA
    rw [show ((i : Nat) : Int).toNat = i from rfl, List.getElem?_eq_getElem hi, e]
  simp only [Function.comp, e3, e4]
theorem inF_mem {lives : List D} {f l : Int} {x : D} (h : x ∈ inF lives f l) : ∃ i : Int, x = .int i ∧ 0 ≤ i ∧ i < lives.length := by
  obtain ⟨y, hy, e⟩ := List.mem_filterMap.mp h
  obtain ⟨i, rfl, i0, i1⟩ := iL_mem hy
  simp only at e
  split at e
  · cases e
    exact ⟨i, rfl, i0, i1⟩
  · cases e
theorem inF_len {lives : List D} {f l : Int} : (inF lives f l).length ≤ lives.length := by
  have := List.length_filterMap_le (fun y => match y with
    | PyData.int i => if decide ((ptA lives i).1 ≤ l) && decide (f ≤ (ptA lives i).2) then some (PyData.int i) else none
    | _ => none) (iL 0 lives.length)
  rw [iL_len] at this
  exact this
section
variable {tbl : List Def} {ix : Ix} {n wf : Nat} {st : Store} {X : XC} {k : RV → Store → Prop} {lives : List D} {f l : Int}
def hT (f l : Int) : D → Option D := fun y => match y with
    | .tuple [.int i, .tuple [.int p, .int q]] => if decide (p ≤ l) && decide (f ≤ q) then some (.int i) else none
    | _ => none
def hI (lives : List D) (f l : Int) : D → Option D := fun y => match y with
  | .int i => if decide ((ptA lives i).1 ≤ l) && decide (f ≤ (ptA lives i).2) then some (.int i) else none
  | _ => none
theorem fm_hT (hp : Pts lives) : (enumD lives).filterMap (hT f l) = inF lives f l := inF_enum hp
theorem fm_hI : (iL 0 lives.length).filterMap (hI lives f l) = inF lives f l := rfl
theorem enum_mem (hp : Pts lives) {y : D} (hy : y ∈ enumD lives) : ∃ i p q : Int, y = .tuple [.int i, .tuple [.int p, .int q]] := by
  unfold enumD at hy
  obtain ⟨⟨z, i⟩, hz, rfl⟩ := List.mem_map.mp hy
  obtain ⟨p, q, rfl⟩ := hp z (List.fst_mem_of_mem_zipIdx hz)
  exact ⟨_, p, q, rfl⟩
theorem touchT (h : tbl[ix.lives_touching]? = some (D_lives_touching ix)) (hp : Pts lives) : (callN tbl wf (n + 1) ix.lives_touching [.d (.tuple lives), .d (.int f), .d (.int l)] st).wp X k = k (.new ((inF lives f l).map .d)) st := by
  rw [wp_callN h rfl]
  unfold D_lives_touching
  simp! only [enum_map]
  rw [compF (h := hT f l) (fun y hy ko => by
    obtain ⟨i, p, q, rfl⟩ := enum_mem hp hy
    by_cases h1 : p ≤ l <;> by_cases h2 : f ≤ q <;> simp! only [hT, h1, h2, decide_true, decide_false, Bool.and_false, Bool.false_and, Option.map_none]), fm_hT hp]
  simp! only [List.take_length]
theorem touchL (h : tbl[ix.lives_touching]? = some (D_lives_touching ix)) (hp : Pts lives) : (callN tbl wf (n + 1) ix.lives_touching [.d (.list lives), .d (.int f), .d (.int l)] st).wp X k = k (.new ((inF lives f l).map .d)) st := by
  rw [wp_callN h rfl]
  unfold D_lives_touching
  simp! only [enum_map]
  rw [compF (h := hT f l) (fun y hy ko => by
    obtain ⟨i, p, q, rfl⟩ := enum_mem hp hy
    by_cases h1 : p ≤ l <;> by_cases h2 : f ≤ q <;> simp! only [hT, h1, h2, decide_true, decide_false, Bool.and_false, Bool.false_and, Option.map_none]), fm_hT hp]
  simp! only [List.take_length]
theorem inT (h : tbl[ix.in_]? = some (D_in_ ix)) (hp : Pts lives) (hl : lives.length ≤ 1000) : (callN tbl wf (n + 1) ix.in_ [.d (.tuple lives), .d (.int f), .d (.int l), .d (.bool true)] st).wp X k = k (.new ((inF lives f l).map .d)) st := by
  rw [wp_callN h rfl]
  unfold D_in_
  simp! only []
  rw [if_pos (by simp only [big]; omega)]
  simp! only [iL_eq, Int.toNat_natCast]
  rw [compF (h := hI lives f l) (fun y hy ko => by
    obtain ⟨i, rfl, i0, i1⟩ := iL_mem hy
    by_cases h1 : (ptA lives i).1 ≤ l <;> by_cases h2 : f ≤ (ptA lives i).2 <;> simp! only [hI, at_pt hp i0 i1, h1, h2, decide_true, decide_false, Bool.and_false, Bool.false_and, Option.map_none]), fm_hI]
  simp! only [List.take_length]
theorem inL (h : tbl[ix.in_]? = some (D_in_ ix)) (hp : Pts lives) (hl : lives.length ≤ 1000) : (callN tbl wf (n + 1) ix.in_ [.d (.list lives), .d (.int f), .d (.int l), .d (.bool true)] st).wp X k = k (.new ((inF lives f l).map .d)) st := by
  rw [wp_callN h rfl]
  unfold D_in_
  simp! only []
  rw [if_pos (by simp only [big]; omega)]
  simp! only [iL_eq, Int.toNat_natCast]
  rw [compF (h := hI lives f l) (fun y hy ko => by
    obtain ⟨i, rfl, i0, i1⟩ := iL_mem hy
    by_cases h1 : (ptA lives i).1 ≤ l <;> by_cases h2 : f ≤ (ptA lives i).2 <;> simp! only [hI, at_pt hp i0 i1, h1, h2, decide_true, decide_false, Bool.and_false, Bool.false_and, Option.map_none]), fm_hI]
  simp! only [List.take_length]
end
end Nt

/-! points and ties on days -/
namespace Nt
open PySem MP
structure HasN (tbl : List Def) (ix : Ix) : Prop where
  num : tbl[ix.is_number]? = some (D_is_number ix)
  life : tbl[ix.is_life]? = some (D_is_life ix)
  tie : tbl[ix.is_tie]? = some (D_is_tie ix)
  net : tbl[ix.is_net]? = some (D_is_net ix)
  need : tbl[ix.need_net]? = some (D_need_net ix)
structure HasT (tbl : List Def) (ix : Ix) : Prop extends HasN tbl ix where
  day : tbl[ix.need_day]? = some (D_need_day ix)
  lives : tbl[ix.tie_lives]? = some (D_tie_lives ix)
  touch : tbl[ix.lives_touching]? = some (D_lives_touching ix)
  days : tbl[ix.days_of]? = some (D_days_of ix)
  points : tbl[ix.points_on]? = some (D_points_on ix)
  ties : tbl[ix.ties_on]? = some (D_ties_on ix)
def cutTie : D → D
  | .tuple [_, _, f, e] => .tuple [f, e]
  | x => x
theorem tie_shape {pts : List D} {t : D} (h : isTie pts t = true) : ∃ i j f e : Int, t = .tuple [.int i, .int j, .int f, .int e] := by
  unfold isTie at h
  split at h
  · rename_i i j a b
    simp only [Bool.and_eq_true] at h
    obtain ⟨p, q, e⟩ := life_pt h.2
    cases e
    exact ⟨_, _, _, _, rfl⟩
  · cases h
theorem cut_pts {pts ts : List D} (h : ∀ t ∈ ts, isTie pts t = true) : Pts (ts.map cutTie) := fun y hy => by
  obtain ⟨t, ht, rfl⟩ := List.mem_map.mp hy
  obtain ⟨i, j, f, e, rfl⟩ := tie_shape (h t ht)
  exact ⟨f, e, rfl⟩
section
variable {tbl : List Def} {ix : Ix} {n wf : Nat} {st : Store} {X : XC} {k : RV → Store → Prop} {x : D} {last : Int} {pts ts : List D}
theorem NetV.ps (h : NetV x last pts ts) : Pts pts := Pts.of h.pt
theorem tie_lives (h : tbl[ix.tie_lives]? = some (D_tie_lives ix)) (hN : NetV x last pts ts) : (callN tbl wf (n + 1) ix.tie_lives [.d x] st).wp X k = k (.new ((ts.map cutTie).map .d)) st := by
  rw [hN.eq, wp_callN h rfl]
  unfold D_tie_lives
  simp! only []
  rw [compD (h := cutTie) (fun y hy ko => by
    obtain ⟨i, j, f, e, rfl⟩ := tie_shape (hN.ti y hy)
    simp! only [cut24, cutTie])]
  simp! only [List.take_length]
theorem days_ok (H : HasT tbl ix) (hN : NetV x last pts ts) : (callN tbl wf (n + 6) ix.days_of [.d x] st).wp X k = k (.t (.d (.int (last + 1)))) st := by
  rw [wp_callN H.days rfl]
  unfold D_days_of
  simp! only [need_net H.num H.life H.tie H.net H.need, hN.net]
  rw [hN.eq]
  simp! only [List.take_length]
theorem days_no (H : HasT tbl ix) (hx : isNet x = false) : (callN tbl wf (n + 6) ix.days_of [.d x] st).wp X k = X ix.cNet (.d x) st := by
  rw [wp_callN H.days rfl]
  unfold D_days_of
  simp! only [need_net H.num H.life H.tie H.net H.need, hx, List.take_length]
theorem days_noL (H : HasT tbl ix) {m : Nat} {us : List T} (hm : st[m]? = some (.lst us)) : (callN tbl wf (n + 6) ix.days_of [.ref m] st).wp X k = X ix.cNet (.ref m) st := by
  have hlt : m < st.length := (List.getElem?_eq_some_iff.mp hm).1
  rw [wp_callN H.days rfl]
  unfold D_days_of
  simp! only [need_netL H.net H.need hm]
  rw [finX_old (by rw [old_ref]; exact decide_eq_true hlt), List.take_length]
theorem points_ok {d : Int} (H : HasT tbl ix) (hN : NetV x last pts ts) (hd : isNum (.int d) 0 last = true) : (callN tbl wf (n + 6) ix.points_on [.d x, .d (.int d)] st).wp X k = k (.new ((inF pts d d).map .d)) st := by
  rw [wp_callN H.points rfl]
  unfold D_points_on
  simp! only [need_net H.num H.life H.tie H.net H.need, hN.net]
  rw [hN.eq]
  simp! only [need_day H.num H.day, hd, touchT H.touch hN.ps, List.take_length]
theorem points_no {y : T} (H : HasT tbl ix) (hx : isNet x = false) : (callN tbl wf (n + 6) ix.points_on [.d x, y] st).wp X k = X ix.cNet (.d x) st := by
  rw [wp_callN H.points rfl]
  unfold D_points_on
  simp! only [need_net H.num H.life H.tie H.net H.need, hx, List.take_length]
theorem points_noL {y : T} (H : HasT tbl ix) {m : Nat} {us : List T} (hm : st[m]? = some (.lst us)) : (callN tbl wf (n + 6) ix.points_on [.ref m, y] st).wp X k = X ix.cNet (.ref m) st := by
  have hlt : m < st.length := (List.getElem?_eq_some_iff.mp hm).1
  rw [wp_callN H.points rfl]
  unfold D_points_on
  simp! only [need_netL H.net H.need hm]
  rw [finX_old (by rw [old_ref]; exact decide_eq_true hlt), List.take_length]
theorem points_day {y : D} (H : HasT tbl ix) (hN : NetV x last pts ts) (hd : isNum y 0 last = false) : (callN tbl wf (n + 6) ix.points_on [.d x, .d y] st).wp X k = X ix.cDay (.d y) st := by
  rw [wp_callN H.points rfl]
  unfold D_points_on
  simp! only [need_net H.num H.life H.tie H.net H.need, hN.net]
  rw [hN.eq]
  simp! only [need_day H.num H.day, hd, List.take_length]
theorem points_dayL (H : HasT tbl ix) (hN : NetV x last pts ts) {m : Nat} {us : List T} (hm : st[m]? = some (.lst us)) : (callN tbl wf (n + 6) ix.points_on [.d x, .ref m] st).wp X k = X ix.cDay (.ref m) st := by
  have hlt : m < st.length := (List.getElem?_eq_some_iff.mp hm).1
  rw [wp_callN H.points rfl]
  unfold D_points_on
  simp! only [need_net H.num H.life H.tie H.net H.need, hN.net]
  rw [hN.eq]
  simp! only [need_dayL H.num H.day hm]
  rw [finX_old (by rw [old_ref]; exact decide_eq_true hlt), List.take_length]
theorem ties_ok {d : Int} (H : HasT tbl ix) (hN : NetV x last pts ts) (hd : isNum (.int d) 0 last = true) : (callN tbl wf (n + 6) ix.ties_on [.d x, .d (.int d)] st).wp X k = k (.new ((inF (ts.map cutTie) d d).map .d)) st := by
  rw [wp_callN H.ties rfl]
  unfold D_ties_on
  simp! only [need_net H.num H.life H.tie H.net H.need, hN.net]
  have e := hN.eq
  subst e
  simp! only [need_day H.num H.day, hd, tie_lives H.lives hN, touchL H.touch (cut_pts hN.ti), List.take_length]
theorem ties_no {y : T} (H : HasT tbl ix) (hx : isNet x = false) : (callN tbl wf (n + 6) ix.ties_on [.d x, y] st).wp X k = X ix.cNet (.d x) st := by
  rw [wp_callN H.ties rfl]
  unfold D_ties_on
  simp! only [need_net H.num H.life H.tie H.net H.need, hx, List.take_length]
theorem ties_noL {y : T} (H : HasT tbl ix) {m : Nat} {us : List T} (hm : st[m]? = some (.lst us)) : (callN tbl wf (n + 6) ix.ties_on [.ref m, y] st).wp X k = X ix.cNet (.ref m) st := by
  have hlt : m < st.length := (List.getElem?_eq_some_iff.mp hm).1
  rw [wp_callN H.ties rfl]
  unfold D_ties_on
  simp! only [need_netL H.net H.need hm]
  rw [finX_old (by rw [old_ref]; exact decide_eq_true hlt), List.take_length]
theorem ties_day {y : D} (H : HasT tbl ix) (hN : NetV x last pts ts) (hd : isNum y 0 last = false) : (callN tbl wf (n + 6) ix.ties_on [.d x, .d y] st).wp X k = X ix.cDay (.d y) st := by
  rw [wp_callN H.ties rfl]
  unfold D_ties_on
  simp! only [need_net H.num H.life H.tie H.net H.need, hN.net]
  rw [hN.eq]
  simp! only [need_day H.num H.day, hd, List.take_length]
theorem ties_dayL (H : HasT tbl ix) (hN : NetV x last pts ts) {m : Nat} {us : List T} (hm : st[m]? = some (.lst us)) : (callN tbl wf (n + 6) ix.ties_on [.d x, .ref m] st).wp X k = X ix.cDay (.ref m) st := by
  have hlt : m < st.length := (List.getElem?_eq_some_iff.mp hm).1
  rw [wp_callN H.ties rfl]
  unfold D_ties_on
  simp! only [need_net H.num H.life H.tie H.net H.need, hN.net]
  rw [hN.eq]
  simp! only [need_dayL H.num H.day hm]
  rw [finX_old (by rw [old_ref]; exact decide_eq_true hlt), List.take_length]
theorem spots {d : Int} (hi : tbl[ix.in_]? = some (D_in_ ix)) (hs : tbl[ix.spots]? = some (D_spots ix)) (hN : NetV x last pts ts) : (callN tbl wf (n + 2) ix.spots [.d x, .d (.int d), .d (.int d), .d (.bool true)] st).wp X k = k (.new [.d (.list (inF pts d d)), .d (.list (inF (ts.map cutTie) d d))]) st := by
  rw [wp_callN hs rfl]
  unfold D_spots
  rw [hN.eq]
  simp! only [inT hi hN.ps (Nat.le_trans hN.pl (by decide))]
  rw [compD (h := cutTie) (fun y hy ko => by
    obtain ⟨i, j, f, e, rfl⟩ := tie_shape (hN.ti y hy)
    simp! only [cut24, cutTie])]
  simp! only [inL hi (cut_pts hN.ti) (by rw [List.length_map]; exact Nat.le_trans hN.tl (by decide)), List.take_length]
end
end Nt

/-! odd nets -/
namespace Nt
open PySem MP
section
variable {tbl : List Def} {ix : Ix} {n wf : Nat} {st : Store} {c : Nat} {X : XC}
def oddA : List D := [.none, .int 5, .tuple [], .tuple [.int 0, .tuple [], .tuple [], .tuple []], .tuple [.int 0, .tuple []]]
def oddB : List D := [.tuple [.int 9, .tuple [], .tuple []], .tuple [.bool true, .tuple [], .tuple []], .tuple [.int 0, .list [], .tuple []], .tuple [.int 0, .tuple [], .list []], .tuple [.int 1, .tuple [.tuple [.int 0, .int 2]], .tuple []], .tuple [.int 1, .tuple [.tuple [.int 1, .int 0]], .tuple []],
  .tuple [.int 1, .tuple [.tuple [.int 0, .int 1], .tuple [.int 0, .int 1], .tuple [.int 0, .int 1], .tuple [.int 0, .int 1], .tuple [.int 0, .int 1], .tuple [.int 0, .int 1], .tuple [.int 0, .int 1], .tuple [.int 0, .int 1]], .tuple []],
  .tuple [.int 0, .tuple [.tuple [.int 0, .int 0], .tuple [.int 0, .int 0]], .tuple [.tuple [.int 1, .int 0, .int 0, .int 0]]], .tuple [.int 0, .tuple [.tuple [.int 0, .int 0]], .tuple [.tuple [.int 0, .int 0, .int 0, .int 0]]],
  .tuple [.int 1, .tuple [.tuple [.int 0, .int 0], .tuple [.int 0, .int 1]], .tuple [.tuple [.int 0, .int 1, .int 0, .int 1]]], .str "net", .dict [(.int 0, .tuple [])], .tuple [.int (-1), .tuple [], .tuple []], .tuple [.bool false, .tuple [], .tuple []]]
theorem odd_no {x : D} (h : x ∈ oddA ++ oddB) : isNet x = false := by
  have e : (oddA ++ oddB).all (fun x => !isNet x) = true := by decide +kernel
  simpa using List.all_eq_true.mp e x h
theorem odd_net (hf : tbl[ix.odd_net]? = some (D_odd_net ix)) (hpk : tbl[ix.pick]? = some (D_pick ix)) (hd : tbl[ix.draw]? = some (D_draw ix)) (h : Sr st c) :
    (callN tbl wf (n + 3) ix.odd_net [.ref c] st).wp X fun v st' => ((∃ x ∈ oddA ++ oddB, v = .t (.d x)) ∨ v = .new [.d (.int 0), .d (.tuple []), .d (.tuple [])]) ∧ Sm c st st' := by
  rw [wp_callN hf rfl]
  unfold D_odd_net
  have hk : ([PyData.int 0] : List D).mapM keyD = some [.inl 0] := rfl
  have hq : keysOk [.int 0] = true := by decide +kernel
  have hdct : (RV.newD [.inl 0] [.d (.tuple [])]).settle = .d (.dict [(.int 0, .tuple [])]) := rfl
  have h8 : repT [T.d (.tuple [.int 0, .int 1])] 8 = ([.tuple [.int 0, .int 1], .tuple [.int 0, .int 1], .tuple [.int 0, .int 1], .tuple [.int 0, .int 1], .tuple [.int 0, .int 1], .tuple [.int 0, .int 1], .tuple [.int 0, .int 1], .tuple [.int 0, .int 1]] : List D).map .d := rfl
  simp! only []
  rw [b_mulT (by decide), h8]
  simp! only []
  rw [b_addL (by simp [big])]
  simp! only []
  rw [b_addL (by simp [big])]
  simp! only [hk, hq, hdct]
  rw [b_addL (by simp [big])]
  simp! only []
  have hS : Sr (st ++ [.lst [.d (.int 0), .d (.tuple []), .d (.tuple [])]]) c := (Mo.refl h).new.src
  have hlen : (st ++ [Cell.lst [T.d (.int 0), .d (.tuple []), .d (.tuple [])]]).length = st.length + 1 := by simp
  refine (pickT hpk hd hS (fun _ _ _ => v_lst) (by simp) (by simp) (by simp [olds_cons, olds_nil, old_d, old_ref])).mono ?_
  rintro v s1 ⟨⟨x, hx, rfl⟩, k1⟩
  have mo := (Mo.refl h).new.sm2 k1
  have hx' : x ∈ oddA.map T.d ++ (.ref st.length :: oddB.map T.d) := hx
  have hc : s1[st.length]? = some (.lst [.d (.int 0), .d (.tuple []), .d (.tuple [])]) := by
    rw [k1.2.1 _ (by have := h.lt; omega), List.getElem?_append_right (Nat.le_refl _)]
    simp
  rcases List.mem_append.mp hx' with hx' | hx'
  · obtain ⟨y, hy, rfl⟩ := List.mem_map.mp hx'
    simp! only []
    exact ⟨.inl ⟨y, List.mem_append_left _ hy, rfl⟩, mo.sm⟩
  · rcases List.mem_cons.mp hx' with rfl | hx'
    · simp! only [lv_c (Nat.lt_irrefl st.length) hc rfl]
      exact ⟨.inr trivial, mo.sm⟩
    · obtain ⟨y, hy, rfl⟩ := List.mem_map.mp hx'
      simp! only []
      exact ⟨.inl ⟨y, List.mem_append_right _ hy, rfl⟩, mo.sm⟩
end
end Nt

/-! what can be shown -/
namespace Nt
open PySem MP
/-- what can be shown, how big it is -/
structure Sho (b d : Nat) (x : D) : Prop where
  s : x.showable = true
  l : x.leavesShort 64 = true
  bk : x.bulk ≤ b
  dp : x.depth ≤ d
structure ShoA (b d : Nat) (xs : List D) : Prop where
  s : PyData.showableAll xs = true
  l : PyData.leavesShortAll 64 xs = true
  bk : PyData.bulkAll xs ≤ b
  dp : PyData.depthAll xs ≤ d
theorem Sho.mono {b d b' d' : Nat} {x : D} (h : Sho b d x) (h1 : b ≤ b') (h2 : d ≤ d') : Sho b' d' x := ⟨h.s, h.l, Nat.le_trans h.bk h1, Nat.le_trans h.dp h2⟩
theorem ShoA.mono {b d b' d' : Nat} {x : List D} (h : ShoA b d x) (h1 : b ≤ b') (h2 : d ≤ d') : ShoA b' d' x := ⟨h.s, h.l, Nat.le_trans h.bk h1, Nat.le_trans h.dp h2⟩
theorem sho_none : Sho 0 0 .none := ⟨rfl, rfl, Nat.le_refl _, Nat.le_refl _⟩
theorem sho_bool {b : Bool} : Sho 0 0 (.bool b) := ⟨rfl, rfl, Nat.le_refl _, Nat.le_refl _⟩
theorem sho_int {i : Int} (h : i.natAbs < 10 ^ 12) : Sho 0 0 (.int i) := by
  refine ⟨?_, ?_, Nat.le_refl _, Nat.le_refl _⟩
  · simp only [PyData.showable]
    refine decide_eq_true ?_
    by_cases hz : i.natAbs = 0
    · rw [hz]
      decide
    · exact (Nat.log2_lt hz).mpr (Nat.lt_of_lt_of_le h (by decide +kernel))
  · simp only [PyData.leavesShort]
    exact decide_eq_true (Nat.le_trans (PyData.shown_int_le h) (by decide))
theorem sho_tup {b d : Nat} {xs : List D} (h : ShoA b d xs) : Sho b (d + 1) (.tuple xs) := ⟨by simp only [PyData.showable]; exact h.s, by simp only [PyData.leavesShort]; exact h.l, by simp only [PyData.bulk]; exact h.bk, by simp only [PyData.depth]; exact Nat.succ_le_succ h.dp⟩
theorem sho_lst {b d : Nat} {xs : List D} (h : ShoA b d xs) : Sho b (d + 1) (.list xs) := ⟨by simp only [PyData.showable]; exact h.s, by simp only [PyData.leavesShort]; exact h.l, by simp only [PyData.bulk]; exact h.bk, by simp only [PyData.depth]; exact Nat.succ_le_succ h.dp⟩
theorem sho_nil : ShoA 0 0 [] := ⟨rfl, rfl, Nat.le_refl _, Nat.le_refl _⟩
theorem sho_cons {b d b' d' : Nat} {x : D} {xs : List D} (h : Sho b d x) (t : ShoA b' d' xs) : ShoA (b + 1 + b') (max d d') (x :: xs) := by
  refine ⟨?_, ?_, ?_, ?_⟩
  · simp only [PyData.showableAll, h.s, t.s, Bool.and_self]
  · simp only [PyData.leavesShortAll, h.l, t.l, Bool.and_self]
  · simp only [PyData.bulkAll]
    have := h.bk
    have := t.bk
    omega
  · simp only [PyData.depthAll]
    have := h.dp
    have := t.dp
    omega
theorem sho_all {b d : Nat} : ∀ {xs : List D} {m : Nat}, (∀ x ∈ xs, Sho b d x) → xs.length ≤ m → ShoA (m * (b + 1)) d xs
  | [], m, _, _ => sho_nil.mono (Nat.zero_le _) (Nat.zero_le _)
  | x :: xs, 0, _, h => by simp at h
  | x :: xs, m + 1, hx, h => by
    have t := sho_all (xs := xs) (m := m) (fun y hy => hx y (List.mem_cons_of_mem _ hy)) (by simpa using h)
    refine (sho_cons (hx x List.mem_cons_self) t).mono ?_ (by omega)
    rw [Nat.succ_mul]
    omega
theorem repr_ok {b d : Nat} {x : D} (h : Sho b d x) (hb : b ≤ 10000) (hd : d ≤ 60) : reprOk x = true := by
  unfold reprOk
  have h1 := h.bk
  have h2 := h.dp
  have h3 := PyData.shown_le_bulk 64 (by decide) x h.l
  have e1 : decide (x.depth ≤ 60) = true := decide_eq_true (by omega)
  have e2 : decide (x.shown.length ≤ big) = true := decide_eq_true (by show _ ≤ 16777216; omega)
  rw [h.s, e1, e2]
  rfl
/-- an item of a row -/
abbrev Ite (x : D) : Prop := Sho 10 3 x
theorem all_nil {P : D → Prop} : ∀ y ∈ ([] : List D), P y := fun _ h => by cases h
theorem all_cons {P : D → Prop} {x : D} {xs : List D} (h : P x) (t : ∀ y ∈ xs, P y) : ∀ y ∈ x :: xs, P y := fun y hy => by
  rcases List.mem_cons.mp hy with rfl | hy
  · exact h
  · exact t y hy
theorem all_app {P : D → Prop} {xs ys : List D} (h : ∀ y ∈ xs, P y) (t : ∀ y ∈ ys, P y) : ∀ y ∈ xs ++ ys, P y := fun y hy => (List.mem_append.mp hy).elim (h y) (t y)
theorem mem_all (p : D → Bool) {xs : List D} (h : xs.all p = true) {x : D} (hx : x ∈ xs) : p x = true := List.all_eq_true.mp h x hx
theorem sho_str {x : PySem.Str} (h : (x.cps.toList.all fun c => decide (c < 16 ^ 8)) = true) : Sho x.cps.size 0 (.str x) := ⟨rfl, by simp only [PyData.leavesShort]; exact h, Nat.le_refl _, Nat.le_refl _⟩
theorem sho_big {n : Nat} (h : (PyData.int (10 ^ n)).showable = true) (h2 : (PyData.int (10 ^ n)).leavesShort 64 = true) : Sho 0 0 (.int (10 ^ n)) := ⟨h, h2, Nat.le_refl _, Nat.le_refl _⟩

theorem inF_sho {lives : List D} {f l : Int} (h : lives.length ≤ 60) : Sho 60 1 (.list (inF lives f l)) := sho_lst (sho_all (b := 0) (d := 0) (m := 60) (fun x hx => by
  obtain ⟨i, rfl, i0, i1⟩ := inF_mem hx
  exact sho_int (by omega)) (Nat.le_trans inF_len h))
section
variable {tbl : List Def} {ix : Ix} {n wf : Nat} {st : Store} {X : XC} {k : RV → Store → Prop}
theorem same {t u : T} {d : D} (hs : tbl[ix.same]? = some (D_same ix)) (h1 : rd st t = some d) (h2 : rd st u = some d) (hr : reprOk d = true) : (callN tbl wf (n + 1) ix.same [t, u] st).wp X k = k (.t (.d (.bool true))) st := by
  rw [wp_callN hs rfl]
  unfold D_same
  simp! only [h1, h2, hr, decide_true, List.take_length]
end
end Nt

/-! nets are shown -/
namespace Nt
open PySem MP
/-- a tie within the lives of its points -/
theorem NetV.tie {x : D} {last : Int} {pts ts : List D} (h : NetV x last pts ts) {t : D} (ht : t ∈ ts) : ∃ i j f e : Int, t = .tuple [.int i, .int j, .int f, .int e] ∧ 0 ≤ i ∧ i < j ∧ j < pts.length ∧ (ptA pts i).1 ≤ f ∧ (ptA pts j).1 ≤ f ∧ f ≤ e ∧ e ≤ (ptA pts i).2 ∧ e ≤ (ptA pts j).2 ∧ 0 ≤ f ∧ e ≤ last := by
  have h1 := h.ti t ht
  obtain ⟨i, j, f, e, rfl⟩ := tie_shape h1
  simp only [isTie, isLife, Bool.and_eq_true, decide_eq_true_eq] at h1
  obtain ⟨⟨⟨i0, ij⟩, jl⟩, ⟨m1, fe⟩, m2⟩ := h1
  obtain ⟨f1, g1, a1, a0, a2, a3, a4⟩ := at_Pt h.pt i0 (by omega)
  obtain ⟨f2, g2, b1, b0, b2, b3, b4⟩ := at_Pt h.pt (i := j) (by omega) jl
  rw [a0, b0] at m1 m2
  simp only [max2, min2] at m1 m2
  refine ⟨i, j, f, e, rfl, i0, ij, jl, ?_⟩
  rw [a0, b0]
  simp only
  refine ⟨?_, ?_, fe, ?_, ?_, ?_, ?_⟩
  · split at m1 <;> omega
  · split at m1 <;> omega
  · split at m2 <;> omega
  · split at m2 <;> omega
  · split at m1 <;> omega
  · split at m2 <;> omega
theorem NetV.sho {x : D} {last : Int} {pts ts : List D} (h : NetV x last pts ts) : Sho 100 3 x := by
  have := h.l0
  have := h.l1
  have := h.pl
  rw [h.eq]
  refine (sho_tup (sho_cons (sho_int (by omega)) (sho_cons (sho_tup (sho_all (b := 2) (d := 1) (m := 7) (fun y hy => ?_) h.pl)) (sho_cons (sho_tup (sho_all (b := 4) (d := 1) (m := 9) (fun y hy => ?_) h.tl)) sho_nil)))).mono (by decide) (by decide)
  · obtain ⟨f, e, rfl, f0, fe, el⟩ := h.pt y hy
    exact (sho_tup (sho_cons (sho_int (by omega)) (sho_cons (sho_int (by omega)) sho_nil))).mono (by decide) (by decide)
  · obtain ⟨i, j, f, e, rfl, i0, ij, jl, _, _, fe, _, _, f0, el⟩ := h.tie hy
    exact (sho_tup (sho_cons (sho_int (by omega)) (sho_cons (sho_int (by omega)) (sho_cons (sho_int (by omega)) (sho_cons (sho_int (by omega)) sho_nil))))).mono (by decide) (by decide)
theorem NetV.repr {x : D} {last : Int} {pts ts : List D} (h : NetV x last pts ts) : reprOk x = true := repr_ok h.sho (by decide) (by decide)
end Nt

/-! nets as lists of numbers -/
namespace Nt
open PySem MP
abbrev Tie := Nat × Nat × Int × Int
def dPt (p : Int × Int) : D := .tuple [.int p.1, .int p.2]
def dTie (t : Tie) : D := .tuple [.int (t.1 : Nat), .int (t.2.1 : Nat), .int t.2.2.1, .int t.2.2.2]
def dNet (last : Int) (P : List (Int × Int)) (E : List Tie) : D := .tuple [.int last, .tuple (P.map dPt), .tuple (E.map dTie)]
def gp (P : List (Int × Int)) (i : Nat) : Int × Int := P.getD i (0, 0)
def ge (E : List Tie) (i : Nat) : Tie := E.getD i (0, 0, 0, 0)
structure Good (last : Int) (P : List (Int × Int)) (E : List Tie) : Prop where
  l0 : 0 ≤ last
  l1 : last ≤ 8
  pl : P.length ≤ 7
  pt : ∀ p ∈ P, 0 ≤ p.1 ∧ p.1 ≤ p.2 ∧ p.2 ≤ last
  tl : E.length ≤ 9
  ti : ∀ t ∈ E, t.1 < t.2.1 ∧ t.2.1 < P.length ∧ (gp P t.1).1 ≤ t.2.2.1 ∧ (gp P t.2.1).1 ≤ t.2.2.1 ∧ t.2.2.1 ≤ t.2.2.2 ∧ t.2.2.2 ≤ (gp P t.1).2 ∧ t.2.2.2 ≤ (gp P t.2.1).2
theorem ptA_dPt {P : List (Int × Int)} {i : Nat} : ptA (P.map dPt) ((i : Nat) : Int) = gp P i := by
  unfold ptA gp
  rw [show ((i : Nat) : Int).toNat = i from rfl, List.getElem?_map, List.getD_eq_getElem?_getD]
  cases P[i]? with
  | none => rfl
  | some p => rfl
theorem gp_at {P : List (Int × Int)} {i : Nat} (h : i < P.length) : gp P i = P[i] := by unfold gp; simp [h]
theorem gp_mem {P : List (Int × Int)} {i : Nat} (h : i < P.length) : gp P i ∈ P := by rw [gp_at h]; exact List.getElem_mem h
theorem ge_at {P : List Tie} {i : Nat} (h : i < P.length) : ge P i = P[i] := by unfold ge; simp [h]
theorem ge_mem {P : List Tie} {i : Nat} (h : i < P.length) : ge P i ∈ P := by rw [ge_at h]; exact List.getElem_mem h
def upt : D → Int × Int
  | .tuple [.int p, .int q] => (p, q)
  | _ => (0, 0)
def utie : D → Tie
  | .tuple [.int i, .int j, .int f, .int e] => (i.toNat, j.toNat, f, e)
  | _ => (0, 0, 0, 0)
theorem NetV.rep {x : D} {last : Int} {pts ts : List D} (h : NetV x last pts ts) : ∃ P E, pts = P.map dPt ∧ ts = E.map dTie ∧ Good last P E := by
  have e1 : pts = (pts.map upt).map dPt := by
    rw [List.map_map]
    refine (List.map_id pts).symm.trans (List.map_congr_left fun y hy => ?_)
    obtain ⟨f, e, rfl, _⟩ := h.pt y hy
    rfl
  have e2 : ts = (ts.map utie).map dTie := by
    rw [List.map_map]
    refine (List.map_id ts).symm.trans (List.map_congr_left fun y hy => ?_)
    obtain ⟨i, j, f, e, rfl, i0, ij, _⟩ := h.tie hy
    have h1 : ((i.toNat : Nat) : Int) = i := by omega
    have h2 : ((j.toNat : Nat) : Int) = j := by omega
    show _ = PyData.tuple [.int (i.toNat : Nat), .int (j.toNat : Nat), .int f, .int e]
    rw [h1, h2]
    rfl
  refine ⟨pts.map upt, ts.map utie, e1, e2, h.l0, h.l1, by rw [List.length_map]; exact h.pl, fun p hp => ?_, by rw [List.length_map]; exact h.tl, fun t ht => ?_⟩
  · obtain ⟨y, hy, rfl⟩ := List.mem_map.mp hp
    obtain ⟨f, e, rfl, h1, h2, h3⟩ := h.pt y hy
    exact ⟨h1, h2, h3⟩
  · obtain ⟨y, hy, rfl⟩ := List.mem_map.mp ht
    obtain ⟨i, j, f, e, rfl, i0, ij, jl, a1, a2, a3, a4, a5, _⟩ := h.tie hy
    have h1 : ((i.toNat : Nat) : Int) = i := by omega
    have h2 : ((j.toNat : Nat) : Int) = j := by omega
    have g1 : gp (pts.map upt) i.toNat = ptA pts i := by rw [← ptA_dPt, ← e1, h1]
    have g2 : gp (pts.map upt) j.toNat = ptA pts j := by rw [← ptA_dPt, ← e1, h2]
    simp only [utie]
    rw [g1, g2, List.length_map]
    exact ⟨by omega, by omega, a1, a2, a3, a4, a5⟩
theorem Good.netV {last : Int} {P : List (Int × Int)} {E : List Tie} (h : Good last P E) : NetV (dNet last P E) last (P.map dPt) (E.map dTie) where
  eq := rfl
  l0 := h.l0
  l1 := h.l1
  pl := by rw [List.length_map]; exact h.pl
  pt := fun y hy => by
    obtain ⟨p, hp, rfl⟩ := List.mem_map.mp hy
    exact ⟨p.1, p.2, rfl, (h.pt p hp).1, (h.pt p hp).2.1, (h.pt p hp).2.2⟩
  tl := by rw [List.length_map]; exact h.tl
  ti := fun y hy => by
    obtain ⟨t, ht, rfl⟩ := List.mem_map.mp hy
    obtain ⟨a1, a2, a3, a4, a5, a6, a7⟩ := h.ti t ht
    have m1 : max2 (gp P t.1).1 (gp P t.2.1).1 ≤ t.2.2.1 := by unfold max2; split <;> assumption
    have m2 : t.2.2.2 ≤ min2 (gp P t.1).2 (gp P t.2.1).2 := by unfold min2; split <;> assumption
    have c1 : (t.1 : Int) < (t.2.1 : Nat) := by omega
    have c2 : ((t.2.1 : Nat) : Int) < ((P.map dPt).length : Nat) := by rw [List.length_map]; omega
    simp only [dTie, isTie, isLife, ptA_dPt, Bool.and_eq_true, decide_eq_true_eq]
    exact ⟨⟨⟨Int.natCast_nonneg _, c1⟩, c2⟩, ⟨m1, a5⟩, m2⟩
/-- the numbers of the lives that touch the days f to l -/
def touch (P : List (Int × Int)) (f l : Int) : List Nat := (List.range P.length).filter fun i => decide ((gp P i).1 ≤ l) && decide (f ≤ (gp P i).2)
abbrev nL (ns : List Nat) : List D := ns.map fun n => .int (n : Nat)
theorem inF_touch {P : List (Int × Int)} {f l : Int} : inF (P.map dPt) f l = nL (touch P f l) := by
  unfold inF touch nL iL
  rw [List.length_map, List.filterMap_map, ← List.filterMap_eq_filter, List.map_filterMap]
  apply fm_congr
  intro i hi
  have e : (0 : Int) + (i : Nat) = (i : Nat) := by omega
  simp only [Function.comp, e, ptA_dPt]
  by_cases h : (decide ((gp P i).1 ≤ l) && decide (f ≤ (gp P i).2)) = true
  · simp only [h, if_true, Option.guard, Option.map_some]
  · simp only [h, if_false, Option.guard, Option.map_none]
    simp
def lifeT (t : Tie) : Int × Int := t.2.2
theorem cutTie_life {E : List Tie} : (E.map dTie).map cutTie = (E.map lifeT).map dPt := by
  rw [List.map_map, List.map_map]
  rfl
theorem touch_mem {P : List (Int × Int)} {f l : Int} {i : Nat} : i ∈ touch P f l ↔ i < P.length ∧ (gp P i).1 ≤ l ∧ f ≤ (gp P i).2 := by
  unfold touch
  simp [List.mem_filter]
theorem touch_nodup {P : List (Int × Int)} {f l : Int} : (touch P f l).Nodup := List.Pairwise.filter _ List.nodup_range
theorem touch_len {P : List (Int × Int)} {f l : Int} : (touch P f l).length ≤ P.length := by
  have := List.length_filter_le (fun i => decide ((gp P i).1 ≤ l) && decide (f ≤ (gp P i).2)) (List.range P.length)
  rw [List.length_range] at this
  exact this
end Nt

/-! nets cut to some days -/
namespace Nt
open PySem MP
def pos (i : Nat) : List Nat → Nat
  | [] => 0
  | x :: r => if x = i then 0 else pos i r + 1
theorem pos_lt {i : Nat} : ∀ {T : List Nat}, i ∈ T → pos i T < T.length
  | [], h => by cases h
  | x :: r, h => by
    unfold pos
    split
    · simp
    · rename_i hx
      have := pos_lt (T := r) ((List.mem_cons.mp h).resolve_left fun e => hx e.symm)
      simp only [List.length_cons]
      omega
theorem pos_at {i : Nat} : ∀ {T : List Nat}, i ∈ T → T.getD (pos i T) 0 = i
  | [], h => by cases h
  | x :: r, h => by
    unfold pos
    split
    · rename_i hx
      exact hx
    · rename_i hx
      rw [List.getD_cons_succ]
      exact pos_at ((List.mem_cons.mp h).resolve_left fun e => hx e.symm)
theorem pos_map {g : Nat → Nat} {a : Nat} : ∀ {L : List Nat}, (∀ x ∈ L, g x = g a → x = a) → pos (g a) (L.map g) = pos a L
  | [], _ => rfl
  | x :: r, h => by
    rw [List.map_cons]
    unfold pos
    rw [pos_map fun y hy => h y (List.mem_cons_of_mem _ hy)]
    by_cases e : x = a
    · rw [if_pos e, if_pos (by rw [e])]
    · rw [if_neg e, if_neg fun z => e (h x (by simp) z)]
theorem pos_mono {a b : Nat} : ∀ {T : List Nat}, T.Pairwise (· < ·) → a ∈ T → b ∈ T → a < b → pos a T < pos b T
  | [], _, h, _, _ => by cases h
  | x :: r, hp, ha, hb, hab => by
    rw [List.pairwise_cons] at hp
    have hxb : x ≠ b := by
      intro e
      rcases List.mem_cons.mp ha with rfl | ha
      · omega
      · have := hp.1 a ha
        omega
    have hb' : b ∈ r := (List.mem_cons.mp hb).resolve_left fun e => hxb e.symm
    unfold pos
    rw [if_neg hxb]
    by_cases hxa : x = a
    · rw [if_pos hxa]
      omega
    · rw [if_neg hxa]
      have := pos_mono hp.2 ((List.mem_cons.mp ha).resolve_left fun e => hxa e.symm) hb' hab
      omega
theorem getD_lt {T : List Nat} {k : Nat} (h : k < T.length) : T.getD k 0 = T[k] := by simp [h]
theorem getD_inj {T : List Nat} (hn : T.Nodup) {i j : Nat} (hi : i < T.length) (hj : j < T.length) (e : T.getD i 0 = T.getD j 0) : i = j := by
  rw [getD_lt hi, getD_lt hj] at e
  have hp := List.pairwise_iff_getElem.mp hn
  rcases Nat.lt_trichotomy i j with h | h | h
  · exact absurd e (hp i j hi hj h)
  · exact h
  · exact absurd e.symm (hp j i hj hi h)
theorem getD_mem {T : List Nat} {k : Nat} (h : k < T.length) : T.getD k 0 ∈ T := by rw [getD_lt h]; exact List.getElem_mem h
theorem filter_at (q : Nat → Bool) (T : List Nat) : ((List.range T.length).filter fun k => q (T.getD k 0)).map (fun k => T.getD k 0) = T.filter q := by
  have e : T = (List.range T.length).map fun k => T.getD k 0 := by
    apply List.ext_getElem
    · simp
    · intro i h1 h2
      simp [h1]
  conv => rhs; rw [e]
  rw [List.filter_map]
  rfl
theorem touch_sorted {P : List (Int × Int)} {f l : Int} : (touch P f l).Pairwise (· < ·) := List.Pairwise.filter _ List.pairwise_lt_range
def cut1 (p : Int × Int) (f l : Int) : Int × Int := ((if f > p.1 then f else p.1) - f, (if l < p.2 then l else p.2) - f)
def cutP (P : List (Int × Int)) (f l : Int) : List (Int × Int) := (touch P f l).map fun i => cut1 (gp P i) f l
def cutR (T : List Nat) (t : Tie) (f l : Int) : Tie := (pos t.1 T, pos t.2.1 T, cut1 (lifeT t) f l)
def cutE (P : List (Int × Int)) (E : List Tie) (f l : Int) : List Tie := (touch (E.map lifeT) f l).map fun n => cutR (touch P f l) (ge E n) f l
theorem gp_life {E : List Tie} {n : Nat} : gp (E.map lifeT) n = lifeT (ge E n) := by
  unfold gp ge
  rw [List.getD_eq_getElem?_getD, List.getD_eq_getElem?_getD, List.getElem?_map]
  cases E[n]? <;> rfl
theorem gp_cut {P : List (Int × Int)} {f l : Int} {k : Nat} (h : k < (touch P f l).length) : gp (cutP P f l) k = cut1 (gp P ((touch P f l).getD k 0)) f l := by
  rw [getD_lt h]
  conv => lhs; unfold gp cutP
  rw [List.getD_eq_getElem?_getD, List.getElem?_map, List.getElem?_eq_getElem h]
  rfl
theorem ge_cut {P : List (Int × Int)} {E : List Tie} {f l : Int} {k : Nat} (h : k < (touch (E.map lifeT) f l).length) : ge (cutE P E f l) k = cutR (touch P f l) (ge E ((touch (E.map lifeT) f l).getD k 0)) f l := by
  rw [getD_lt h]
  conv => lhs; unfold ge cutE
  rw [List.getD_eq_getElem?_getD, List.getElem?_map, List.getElem?_eq_getElem h]
  rfl
section
variable {last : Int} {P : List (Int × Int)} {E : List Tie} {f l : Int}
/-- the points of a tie that is there are there -/
theorem Good.ends (h : Good last P E) {n : Nat} (hn : n ∈ touch (E.map lifeT) f l) : n < E.length ∧ ge E n ∈ E ∧ (ge E n).1 ∈ touch P f l ∧ (ge E n).2.1 ∈ touch P f l := by
  obtain ⟨h1, h2, h3⟩ := touch_mem.mp hn
  rw [List.length_map] at h1
  rw [gp_life] at h2 h3
  have hm := ge_mem h1
  obtain ⟨a1, a2, a3, a4, a5, a6, a7⟩ := h.ti _ hm
  have h2' : (ge E n).2.2.1 ≤ l := h2
  have h3' : f ≤ (ge E n).2.2.2 := h3
  exact ⟨h1, hm, touch_mem.mpr ⟨by omega, by omega, by omega⟩, touch_mem.mpr ⟨by omega, by omega, by omega⟩⟩
theorem Good.cut (h : Good last P E) (h0 : 0 ≤ f) (h1 : f ≤ l) (h2 : l ≤ last) : Good (l - f) (cutP P f l) (cutE P E f l) := by
  have hl1 := h.l1
  refine ⟨by omega, by omega, ?_, fun p hp => ?_, ?_, fun t ht => ?_⟩
  · unfold cutP
    rw [List.length_map]
    exact Nat.le_trans touch_len h.pl
  · unfold cutP at hp
    obtain ⟨i, hi, rfl⟩ := List.mem_map.mp hp
    obtain ⟨i1, i2, i3⟩ := touch_mem.mp hi
    have hg := h.pt _ (gp_mem i1)
    unfold cut1
    simp only
    refine ⟨?_, ?_, ?_⟩ <;> (repeat' split) <;> omega
  · unfold cutE
    rw [List.length_map]
    refine Nat.le_trans touch_len ?_
    rw [List.length_map]
    exact h.tl
  · unfold cutE at ht
    obtain ⟨n, hn, rfl⟩ := List.mem_map.mp ht
    obtain ⟨n1, n2, n3, n4⟩ := h.ends hn
    obtain ⟨a1, a2, a3, a4, a5, a6, a7⟩ := h.ti _ n2
    obtain ⟨_, m2, m3⟩ := touch_mem.mp hn
    rw [gp_life] at m2 m3
    have m2' : (ge E n).2.2.1 ≤ l := m2
    have m3' : f ≤ (ge E n).2.2.2 := m3
    have g1 := gp_cut (pos_lt n3)
    have g2 := gp_cut (pos_lt n4)
    rw [pos_at n3] at g1
    rw [pos_at n4] at g2
    show pos (ge E n).1 (touch P f l) < pos (ge E n).2.1 (touch P f l) ∧ pos (ge E n).2.1 (touch P f l) < (cutP P f l).length ∧ (gp (cutP P f l) (pos (ge E n).1 (touch P f l))).1 ≤ (cut1 (lifeT (ge E n)) f l).1 ∧ (gp (cutP P f l) (pos (ge E n).2.1 (touch P f l))).1 ≤ (cut1 (lifeT (ge E n)) f l).1 ∧
      (cut1 (lifeT (ge E n)) f l).1 ≤ (cut1 (lifeT (ge E n)) f l).2 ∧ (cut1 (lifeT (ge E n)) f l).2 ≤ (gp (cutP P f l) (pos (ge E n).1 (touch P f l))).2 ∧ (cut1 (lifeT (ge E n)) f l).2 ≤ (gp (cutP P f l) (pos (ge E n).2.1 (touch P f l))).2
    rw [g1, g2]
    have hlen : (cutP P f l).length = (touch P f l).length := by unfold cutP; rw [List.length_map]
    rw [hlen]
    refine ⟨pos_mono touch_sorted n3 n4 a1, pos_lt n4, ?_⟩
    unfold cut1 lifeT
    simp only
    refine ⟨?_, ?_, ?_, ?_, ?_⟩ <;> (repeat' split) <;> omega
/-- cut again -/
theorem cut1_cut {p : Int × Int} {b e : Int} (b0 : 0 ≤ b) (el : e ≤ l - f) (be : b ≤ e) : cut1 (cut1 p f l) b e = cut1 p (f + b) (f + e) := by
  unfold cut1
  simp only [Prod.mk.injEq]
  constructor <;> (repeat' split) <;> omega
theorem touch_cut {b e : Int} (b0 : 0 ≤ b) (be : b ≤ e) (el : e ≤ l - f) : (touch (cutP P f l) b e).map (fun k => (touch P f l).getD k 0) = touch P (f + b) (f + e) := by
  have hlen : (cutP P f l).length = (touch P f l).length := by unfold cutP; rw [List.length_map]
  have e1 : touch (cutP P f l) b e = (List.range (touch P f l).length).filter fun k => (fun i => decide ((gp P i).1 ≤ f + e) && decide (f + b ≤ (gp P i).2)) ((touch P f l).getD k 0) := by
    conv => lhs; unfold touch
    rw [hlen]
    apply List.filter_congr
    intro k hk
    have hk := List.mem_range.mp hk
    rw [gp_cut hk]
    obtain ⟨i1, i2, i3⟩ := touch_mem.mp (getD_mem hk)
    show _ = (decide ((gp P ((touch P f l).getD k 0)).1 ≤ f + e) && decide (f + b ≤ (gp P ((touch P f l).getD k 0)).2))
    generalize gp P ((touch P f l).getD k 0) = p at i2 i3 ⊢
    have z1 : ((cut1 p f l).1 ≤ e) = (p.1 ≤ f + e) := by
      unfold cut1
      simp only
      apply propext
      constructor <;> intro h <;> (repeat' split at h) <;> (repeat' split) <;> omega
    have z2 : (b ≤ (cut1 p f l).2) = (f + b ≤ p.2) := by
      unfold cut1
      simp only
      apply propext
      constructor <;> intro h <;> (repeat' split at h) <;> (repeat' split) <;> omega
    simp only [z1, z2]
  rw [e1]
  refine (filter_at (fun i => decide ((gp P i).1 ≤ f + e) && decide (f + b ≤ (gp P i).2)) (touch P f l)).trans ?_
  unfold touch
  rw [List.filter_filter]
  apply List.filter_congr
  intro i hi
  rw [Bool.eq_iff_iff]
  simp only [Bool.and_eq_true, decide_eq_true_eq]
  constructor
  · rintro ⟨a, b⟩
    exact a
  · rintro ⟨a, b⟩
    exact ⟨⟨a, b⟩, by omega, by omega⟩
theorem cutP_cut {b e : Int} (b0 : 0 ≤ b) (be : b ≤ e) (el : e ≤ l - f) : cutP (cutP P f l) b e = cutP P (f + b) (f + e) := by
  have hlen : (cutP P f l).length = (touch P f l).length := by unfold cutP; rw [List.length_map]
  conv => lhs; unfold cutP
  conv => rhs; unfold cutP
  rw [← touch_cut (P := P) b0 be el, List.map_map]
  apply List.map_congr_left
  intro k hk
  have hk := (touch_mem.mp hk).1
  rw [show (List.map (fun i => cut1 (gp P i) f l) (touch P f l)) = cutP P f l from rfl, hlen] at hk
  show cut1 (gp (cutP P f l) k) b e = cut1 (gp P ((touch P f l).getD k 0)) (f + b) (f + e)
  rw [gp_cut hk, cut1_cut b0 el be]
theorem life_cut : (cutE P E f l).map lifeT = cutP (E.map lifeT) f l := by
  unfold cutE cutP
  rw [List.map_map]
  apply List.map_congr_left
  intro n _
  show cut1 (lifeT (ge E n)) f l = _
  rw [gp_life]
theorem pos_cut {b e : Int} (b0 : 0 ≤ b) (be : b ≤ e) (el : e ≤ l - f) {i : Nat} (hi : i ∈ touch P f l) : pos (pos i (touch P f l)) (touch (cutP P f l) b e) = pos i (touch P (f + b) (f + e)) := by
  have hlen : (cutP P f l).length = (touch P f l).length := by unfold cutP; rw [List.length_map]
  rw [← touch_cut b0 be el]
  have h := pos_map (g := fun k => (touch P f l).getD k 0) (a := pos i (touch P f l)) (L := touch (cutP P f l) b e) fun x hx ex => by
    have hx := (touch_mem.mp hx).1
    rw [hlen] at hx
    exact getD_inj touch_nodup hx (pos_lt hi) ex
  rw [← h]
  simp only [pos_at hi]
theorem cutE_cut (h : Good last P E) {b e : Int} (b0 : 0 ≤ b) (be : b ≤ e) (el : e ≤ l - f) : cutE (cutP P f l) (cutE P E f l) b e = cutE P E (f + b) (f + e) := by
  conv => lhs; unfold cutE
  conv => rhs; unfold cutE
  have hl : List.map lifeT (List.map (fun n => cutR (touch P f l) (ge E n) f l) (touch (E.map lifeT) f l)) = cutP (E.map lifeT) f l := life_cut
  rw [hl, ← touch_cut (P := E.map lifeT) b0 be el, List.map_map]
  apply List.map_congr_left
  intro k hk
  have hlen : (cutP (E.map lifeT) f l).length = (touch (E.map lifeT) f l).length := by unfold cutP; rw [List.length_map]
  have hk := (touch_mem.mp hk).1
  rw [hlen] at hk
  show cutR (touch (cutP P f l) b e) (ge (cutE P E f l) k) b e = cutR (touch P (f + b) (f + e)) (ge E ((touch (E.map lifeT) f l).getD k 0)) (f + b) (f + e)
  rw [ge_cut hk]
  obtain ⟨n1, n2, n3, n4⟩ := h.ends (getD_mem hk)
  unfold cutR
  simp only [Prod.mk.injEq]
  exact ⟨pos_cut b0 be el n3, pos_cut b0 be el n4, cut1_cut b0 el be⟩
/-- all days -/
theorem touch_all (h : ∀ p ∈ P, 0 ≤ p.1 ∧ p.1 ≤ p.2 ∧ p.2 ≤ last) : touch P 0 last = List.range P.length := by
  unfold touch
  rw [List.filter_eq_self]
  intro i hi
  have := h _ (gp_mem (List.mem_range.mp hi))
  simp only [Bool.and_eq_true, decide_eq_true_eq]
  omega
theorem pos_range {n i : Nat} (h : i < n) : pos i (List.range n) = i := by
  have h1 : i ∈ List.range n := List.mem_range.mpr h
  have h2 := pos_at h1
  have h3 := pos_lt h1
  rw [getD_lt h3, List.getElem_range] at h2
  exact h2
theorem map_gp : (List.range P.length).map (gp P) = P := by
  apply List.ext_getElem
  · simp
  · intro i h1 h2
    simp only [List.getElem_map, List.getElem_range]
    exact gp_at h2
theorem map_ge : (List.range E.length).map (ge E) = E := by
  apply List.ext_getElem
  · simp
  · intro i h1 h2
    simp only [List.getElem_map, List.getElem_range]
    exact ge_at h2
theorem cut1_all {p : Int × Int} (h : 0 ≤ p.1 ∧ p.1 ≤ p.2 ∧ p.2 ≤ last) : cut1 p 0 last = p := by
  unfold cut1
  ext
  · simp only
    split <;> omega
  · simp only
    split <;> omega
theorem cutP_all (h : ∀ p ∈ P, 0 ≤ p.1 ∧ p.1 ≤ p.2 ∧ p.2 ≤ last) : cutP P 0 last = P := by
  unfold cutP
  rw [touch_all h]
  refine Eq.trans (List.map_congr_left fun i hi => ?_) map_gp
  exact cut1_all (h _ (gp_mem (List.mem_range.mp hi)))
theorem Good.lives (h : Good last P E) : ∀ p ∈ E.map lifeT, 0 ≤ p.1 ∧ p.1 ≤ p.2 ∧ p.2 ≤ last := fun p hp => by
  obtain ⟨t, ht, rfl⟩ := List.mem_map.mp hp
  obtain ⟨a1, a2, a3, a4, a5, a6, a7⟩ := h.ti t ht
  have b1 := h.pt _ (gp_mem (P := P) (i := t.1) (by omega))
  have b2 := h.pt _ (gp_mem (P := P) (i := t.2.1) a2)
  unfold lifeT
  omega
theorem cutE_all (h : Good last P E) : cutE P E 0 last = E := by
  unfold cutE
  rw [touch_all h.lives, touch_all h.pt, List.length_map]
  refine Eq.trans (List.map_congr_left fun n hn => ?_) map_ge
  have hm := ge_mem (List.mem_range.mp hn)
  obtain ⟨a1, a2, _⟩ := h.ti _ hm
  unfold cutR
  rw [pos_range a2, pos_range (by omega), cut1_all (h.lives _ (List.mem_map_of_mem hm))]
  rfl
end
end Nt

/-! dicts, places, more of runs -/
namespace Nt
open PySem MP
theorem wp_eq {α : Type} {r : Res α} {v : α} {st : Store} {X : XC} {k : α → Store → Prop} (h : r.wp noX fun a s => a = v ∧ s = st) : r.wp X k = k v st := by
  obtain ⟨a, s, e, rfl, rfl⟩ := h.get
  rw [e]
  rfl
theorem compA {α : Type} {g : T → Store → Res (Option α)} {st : Store} {h : D → Option α} {k : List α → Store → Prop} {xs : List D} (hb : ∀ x ∈ xs, ∀ ko, (g (.d x) st).wp noX ko = ko (h x) st) : (compL g (xs.map .d) st).wp noX k = k (xs.filterMap h) st := by
  have e : compL g (xs.map .d) st = .ok (xs.filterMap h) st := by
    induction xs with
    | nil => rfl
    | cons x xs ih =>
      have q := hb x (by simp) fun a s => a = h x ∧ s = st
      have q2 : (g (.d x) st).wp noX fun a s => a = h x ∧ s = st := by rw [q]; exact ⟨rfl, rfl⟩
      obtain ⟨a, s, e, rfl, rfl⟩ := q2.get
      rw [List.map_cons, compL, e]
      show (compL g (xs.map .d) s).bind _ = _
      rw [ih fun y hy => hb y (List.mem_cons_of_mem _ hy)]
      cases hx : h x <;> simp [Res.bind, consO, hx]
  rw [e]
  rfl
theorem at_map {α : Type} {g : α → D} {L : List α} {k : Nat} {d : α} (h : k < L.length) : atD (L.map g) (k : Nat) = some (g (L.getD k d)) := by
  unfold atD ixN
  rw [List.length_map, if_pos (by omega), if_pos (by omega)]
  show (L.map g)[k]? = _
  rw [List.getElem?_map, List.getElem?_eq_getElem h]
  simp [h]
theorem at_P {P : List (Int × Int)} {k : Nat} (h : k < P.length) : atD (P.map dPt) (k : Nat) = some (dPt (gp P k)) := at_map h
theorem at_E {P : List Tie} {k : Nat} (h : k < P.length) : atD (P.map dTie) (k : Nat) = some (dTie (ge P k)) := at_map h
theorem at_N {T : List Nat} {k : Nat} (h : k < T.length) : atD (nL T) (k : Nat) = some (.int (T.getD k 0 : Nat)) := at_map h
/-! ### a dict of numbers -/
theorem dctOf_new : ∀ {ps : List (Key × T)} {ks : List Key} {ts : List T}, (ks ++ ps.map (·.1)).Nodup → dctOf ks ts ps = (ks ++ ps.map (·.1), ts ++ ps.map (·.2))
  | [], ks, ts, _ => by simp [dctOf]
  | p :: ps, ks, ts, h => by
    have hn : (ks.any fun k' => decide (k' = p.1)) = false := by
      rw [List.any_eq_false]
      intro k' hk' e
      have e' : k' = p.1 := of_decide_eq_true e
      rw [List.map_cons] at h
      have := (List.nodup_append.mp h).2.2 k' hk' p.1 (by simp)
      exact this e'
    rw [dctOf]
    have e : setK p.1 p.2 ks ts = (ks ++ [p.1], ts ++ [p.2]) := by
      unfold setK
      rw [hn]
      rfl
    rw [e, dctOf_new (by simpa using h)]
    simp
theorem keysD_zip : ∀ {ks : List Key} {xs : List D}, ks.length = xs.length → keysD ((ks.map kD).zip xs) = some ks
  | [], [], _ => rfl
  | [], _ :: _, h => by simp at h
  | _ :: _, [], h => by simp at h
  | k :: ks, x :: xs, h => by
    rw [List.map_cons, List.zip_cons_cons, keysD, keysD_zip (by simpa using h)]
    cases k <;> rfl
theorem view_mkDct {st : Store} {ks : List Key} {xs : List D} (h : ks.length = xs.length) : view st (mkDct ks (xs.map .d)) = .dct ks (xs.map .d) := by
  have e : mkDct ks (xs.map .d) = .d (.dict ((ks.map kD).zip xs)) := by
    unfold mkDct
    rw [pu_map]
  rw [e]
  show (match keysD _ with | some ks => Vw.dct ks _ | none => _) = _
  rw [keysD_zip h]
  simp only [Vw.dct.injEq, true_and]
  have : ∀ {ks : List D} {xs : List D}, ks.length = xs.length → (ks.zip xs).map (fun p => T.d p.2) = xs.map .d := by
    intro ks
    induction ks with
    | nil => intro xs h; cases xs with | nil => rfl | cons => simp at h
    | cons k ks ih => intro xs h; cases xs with | nil => simp at h | cons x xs => simp [ih (by simpa using h)]
  exact this (by simpa using h)
def keyN (n : Nat) : Key := .inl (n : Int)
theorem getK_pos {i : Nat} : ∀ {L : List Nat} {vs : List T}, L.length = vs.length → i ∈ L → getK (.inl (i : Int)) (L.map keyN) vs = vs[pos i L]?
  | [], _, _, h => by cases h
  | x :: L, [], h, _ => by simp at h
  | x :: L, v :: vs, h, hi => by
    rw [List.map_cons, getK]
    unfold pos
    by_cases e : x = i
    · rw [if_pos (by rw [e]; rfl), if_pos e]
      rfl
    · rw [if_neg (by intro z; unfold keyN at z; injection z with z; exact e (by omega)), if_neg e]
      rw [getK_pos (by simpa using h) ((List.mem_cons.mp hi).resolve_left fun z => e z.symm)]
      rfl
/-- the dict from numbers to places -/
def hD : D → Option (Key × T)
  | .tuple [.int a, .int n] => some (.inl n, .d (.int a))
  | _ => none
def spD (L : List Nat) : T := mkDct (L.map keyN) ((nL (List.range L.length)).map .d)
theorem enum_nL {L : List Nat} : enumD (nL L) = (List.range L.length).map fun i => .tuple [.int (i : Nat), .int (L.getD i 0 : Nat)] := by
  unfold enumD
  apply List.ext_getElem
  · simp
  · intro i h1 h2
    simp at h1
    simp [h1]
theorem sp_eq {L : List Nat} (hn : L.Nodup) : mkDct (dctOf [] [] ((enumD (nL L)).filterMap hD)).1 (dctOf [] [] ((enumD (nL L)).filterMap hD)).2 = spD L := by
  have e1 : (enumD (nL L)).filterMap hD = (List.range L.length).map fun i => (keyN (L.getD i 0), T.d (.int (i : Nat))) := by
    rw [enum_nL, List.filterMap_map]
    exact congrFun (List.filterMap_eq_map (f := fun i => (keyN (L.getD i 0), T.d (.int (i : Nat))))) _
  have e2 : ((List.range L.length).map fun i => (keyN (L.getD i 0), T.d (.int (i : Nat)))).map (·.1) = L.map keyN := by
    rw [List.map_map]
    apply List.ext_getElem
    · simp
    · intro i h1 h2
      simp at h2
      simp [h2]
  have hk : (L.map keyN).Nodup := by
    refine List.Pairwise.map _ (fun a b hab z => ?_) hn
    unfold keyN at z
    injection z with z
    exact hab (by omega)
  rw [e1, dctOf_new (by rw [List.nil_append, e2]; exact hk), List.nil_append, e2]
  unfold spD nL
  rw [List.nil_append, List.map_map, List.map_map]
  rfl
theorem sp_view {st : Store} {L : List Nat} : view st (spD L) = .dct (L.map keyN) ((nL (List.range L.length)).map .d) := view_mkDct (by simp)
theorem sp_get {L : List Nat} {i : Nat} (hi : i ∈ L) : getK (.inl (i : Int)) (L.map keyN) ((nL (List.range L.length)).map .d) = some (.d (.int (pos i L : Nat))) := by
  rw [getK_pos (by simp) hi]
  have := pos_lt hi
  simp [this]
theorem idx_nL {i : Nat} : ∀ {L : List Nat}, i ∈ L → idxOf (.int (i : Nat)) (nL L) = some (pos i L)
  | [], h => by cases h
  | x :: L, h => by
    show (if eqF (.int (x : Nat)) (.int (i : Nat)) then some 0 else (idxOf (.int (i : Nat)) (nL L)).map (· + 1)) = _
    unfold pos
    by_cases e : x = i
    · rw [if_pos e, if_pos (by simp [eqF, e])]
    · rw [if_neg e, if_neg (by simp [eqF]; omega), idx_nL ((List.mem_cons.mp h).resolve_left fun z => e z.symm)]
      rfl
theorem ask_nL {st : Store} {i : Nat} {L : List Nat} (h : i ∈ L) : askT st .index (.d (.list (nL L))) [.d (.int (i : Nat))] = some (.t (.d (.int (pos i L : Nat)))) := by
  show flatIdx (.int (i : Nat)) ((nL L).map .d) = _
  unfold flatIdx
  rw [pu_map]
  have hf : (nL L).all flatD = true := by
    rw [List.all_eq_true]
    intro x hx
    obtain ⟨n, _, rfl⟩ := List.mem_map.mp hx
    rfl
  simp only [hf, idx_nL h]
  rfl
theorem nL_sho {L : List Nat} (h : L.length ≤ 60) (hb : ∀ n ∈ L, n < 1000) : ShoA 60 0 (nL L) := (sho_all (b := 0) (d := 0) (m := 60) (fun x hx => by
  obtain ⟨n, hn, rfl⟩ := List.mem_map.mp hx
  have := hb n hn
  exact sho_int (by omega)) (by rw [List.length_map]; exact h)).mono (by decide) (by decide)
theorem touch_bd {P : List (Int × Int)} {f l : Int} (h : P.length ≤ 60) : ∀ n ∈ touch P f l, n < 1000 := fun n hn => by
  have := (touch_mem.mp hn).1
  omega
def shoB (x : D) : Bool := x.showable && x.leavesShort 64 && decide (x.bulk ≤ 60) && decide (x.depth ≤ 6)
theorem Sho.of {x : D} (h : shoB x = true) : Sho 60 6 x := by
  unfold shoB at h
  simp only [Bool.and_eq_true, decide_eq_true_eq] at h
  exact ⟨h.1.1.1, h.1.1.2, h.1.2, h.2⟩
end Nt

/-! defs that the laws of entries share -/
namespace Et
open PySem MP
structure Jx where
  is_count : Nat := 0
  is_prime : Nat := 0
  must_be_prime : Nat := 0
  must_be_width : Nat := 0
  is_row : Nat := 0
  must_be_row : Nat := 0
  sum_row : Nat := 0
  l_tape : Nat := 0
  l_pick : Nat := 0
  l_one_of : Nat := 0
  l_drawn_entry : Nat := 0
  l_plus : Nat := 0
  l_is_count : Nat := 0
  l_is_row : Nat := 0
  l_any : Nat := 0
  l_odd_prime : Nat := 0
  l_odd_width : Nat := 0
  l_odd_entry : Nat := 0
  cBadPrime : Nat := 0
  cBadWidth : Nat := 0
  cBadEntry : Nat := 0
def D_is_count (jx : Jx) : Def := ⟨3, 3, [(.ret (.and (.isi (.var 0) .int) (.and (.not (.isi (.var 0) .bool)) (.chain .le .le (.var 1) (.var 0) (.var 2)))))]⟩
def D_is_prime (jx : Jx) : Def := ⟨1, 1, [(.ret (.and (.call jx.is_count [(.var 0), (.con (.int 2)), (.con (.int 7))]) (.cmp .isin (.var 0) (.glo (Str.ofString "PRIMES") (.tuple [(.int 2), (.int 3), (.int 5), (.int 7)])))))]⟩
def D_must_be_prime (jx : Jx) : Def := ⟨1, 1, [(.ife (.not (.call jx.is_prime [(.var 0)])) [(.rais jx.cBadPrime (.var 0))] [])]⟩
def D_must_be_width (jx : Jx) : Def := ⟨1, 1, [(.ife (.not (.call jx.is_count [(.var 0), (.con (.int 0)), (.glo (Str.ofString "MOST_WIDTH") (.int 8))])) [(.rais jx.cBadWidth (.var 0))] [])]⟩
def D_is_row (jx : Jx) : Def := ⟨3, 4, [(.ife (.or (.not (.isi (.var 2) .tuple)) (.cmp .ne (.prim .len [(.var 2)]) (.var 1))) [(.ret (.con (.bool false)))] []), (.ret (.prim .all [(.comp [3] (.nm 3) (.var 2) [] (.call jx.is_count [(.var 3), (.con (.int 0)), (.op .sub (.var 0) (.con (.int 1)))]))]))]⟩
def D_must_be_row (jx : Jx) : Def := ⟨3, 3, [(.ife (.not (.call jx.is_row [(.var 0), (.var 1), (.var 2)])) [(.rais jx.cBadEntry (.var 2))] [])]⟩
def D_sum_row (jx : Jx) : Def := ⟨4, 6, [(.ret (.prim .tuple [(.comp [4, 5] (.tp [(.nm 4), (.nm 5)]) (.zp (.var 2) (.var 3)) [] (.op .mod (.op .add (.op .mul (.var 1) (.var 4)) (.var 5)) (.var 0)))]))]⟩
def D_l_tape (jx : Jx) : Def := ⟨2, 5, [(.set (.nm 2) (.op .add (.con (.int 101)) (.op .mul (.var 1) (.con (.int 53))))), (.for (.nm 3) (.var 0) [(.set (.nm 2) (.op .add (.op .mod (.prim .int [(.op .pow (.op .add (.op .add (.op .mul (.var 2) (.con (.int 30029))) (.op .mul (.var 3) (.var 3))) (.con (.int 13))) (.con (.int 2)))]) (.con (.int 2147483563))) (.con (.int 2))))]), (.set (.nm 4) (.ite (.and (.cmp .lt (.var 1) (.prim .len [(.var 0)])) (.cmp .ge (.ix (.var 0) (.var 1)) (.op .pow (.con (.int 10)) (.con (.int 18))))) (.op .sub (.ix (.var 0) (.var 1)) (.op .pow (.con (.int 10)) (.con (.int 18)))) (.con (.int 0)))), (.ret (.dct [(.str (Str.ofString "digits")), (.str (Str.ofString "mixed"))] [(.var 4), (.var 2)]))]⟩
def D_l_pick (jx : Jx) : Def := ⟨2, 4, [(.ife (.cmp .ge (.ix (.var 0) (.con (.str (Str.ofString "digits")))) (.var 1)) [(.set (.nm 3) (.op .mod (.prim .int [(.ix (.var 0) (.con (.str (Str.ofString "digits"))))]) (.var 1))), (.setI (.var 0) (.con (.str (Str.ofString "digits"))) (.op .fdiv (.ix (.var 0) (.con (.str (Str.ofString "digits")))) (.var 1))), (.ret (.var 3))] []), (.setI (.var 0) (.con (.str (Str.ofString "mixed"))) (.op .mod (.prim .int [(.op .add (.op .mul (.ix (.var 0) (.con (.str (Str.ofString "mixed")))) (.con (.int 40014))) (.con (.int 1031)))]) (.con (.int 2147483563)))), (.set (.nm 2) (.op .mod (.prim .int [(.op .pow (.ix (.var 0) (.con (.str (Str.ofString "mixed")))) (.con (.int 2)))]) (.con (.int 2147483399)))), (.ret (.op .mod (.prim .int [(.op .fdiv (.op .mod (.prim .int [(.op .pow (.var 2) (.con (.int 3)))]) (.con (.int 998244353))) (.con (.int 13)))]) (.var 1)))]⟩
def D_l_one_of (jx : Jx) : Def := ⟨2, 2, [(.ret (.ix (.var 1) (.call jx.l_pick [(.var 0), (.prim .len [(.var 1)])])))]⟩
def D_l_drawn_entry (jx : Jx) : Def := ⟨3, 4, [(.ret (.prim .tuple [(.comp [3] (.nm 3) (.rng [(.var 2)]) [] (.call jx.l_one_of [(.var 0), (.lst [(.con (.int 0)), (.con (.int 1)), (.op .sub (.var 1) (.con (.int 1))), (.call jx.l_pick [(.var 0), (.var 1)])])]))]))]⟩
def D_l_plus (jx : Jx) : Def := ⟨4, 6, [(.ret (.prim .tuple [(.comp [4, 5] (.tp [(.nm 4), (.nm 5)]) (.zp (.var 2) (.var 3)) [] (.op .mod (.op .add (.op .mul (.var 1) (.var 4)) (.var 5)) (.var 0)))]))]⟩
def D_l_is_count (jx : Jx) : Def := ⟨3, 3, [(.ret (.and (.isi (.var 0) .int) (.and (.not (.isi (.var 0) .bool)) (.chain .le .le (.var 1) (.var 0) (.var 2)))))]⟩
def D_l_is_row (jx : Jx) : Def := ⟨3, 4, [(.ret (.and (.isi (.var 2) .tuple) (.and (.cmp .eq (.prim .len [(.var 2)]) (.var 1)) (.cmp .eq (.comp [3] (.nm 3) (.var 2) [(.not (.call jx.l_is_count [(.var 3), (.con (.int 0)), (.op .sub (.var 0) (.con (.int 1)))]))] (.var 3)) (.lst [])))))]⟩
def D_l_any (jx : Jx) : Def := ⟨1, 2, [(.set (.nm 1) (.lst [(.con .none), (.con (.bool true)), (.con (.bool false)), (.con (.int 0)), (.con (.int 1)), (.con (.int 2)), (.op .sub (.con (.int 0)) (.con (.int 1))), (.op .pow (.con (.int 10)) (.con (.int 30))), (.con (.str (Str.ofString ""))), (.con (.str (Str.ofString "a"))), (.con (.str (Str.ofString "0"))), (.tup []), (.lst []), (.dct [] []), (.tup [(.con (.int 0))]), (.lst [(.con (.int 0))]), (.tup [(.con (.int 1)), (.con (.int 0))]), (.lst [(.tup [(.con (.int 1)), (.con (.int 0))])]), (.dct [(.str (Str.ofString "a"))] [(.con (.int 1))])])), (.ret (.call jx.l_one_of [(.var 0), (.op .add (.var 1) (.lst [(.tup [(.tup [(.con (.int 1)), (.con (.int 0))])]), (.tup [(.tup [(.con (.int 0)), (.con (.int 1))]), (.tup [(.con (.int 1)), (.con (.int 0))])]), (.tup [(.tup [(.con (.int 1))]), (.tup [(.con (.int 1)), (.con (.int 1))])]), (.tup [(.con (.bool true))]), (.tup [(.con .none)]), (.tup [(.tup [(.tup [(.con (.int 1))])])]), (.con (.str (Str.ofString "1.0"))), (.tup [(.con (.int 7))]), (.tup [(.op .sub (.con (.int 0)) (.con (.int 1)))])]))]))]⟩
def D_l_odd_prime (jx : Jx) : Def := ⟨1, 1, [(.ret (.call jx.l_one_of [(.var 0), (.lst [(.con (.int 0)), (.con (.int 1)), (.con (.int 4)), (.con (.int 6)), (.con (.int 8)), (.con (.int 9)), (.con (.int 11)), (.op .sub (.con (.int 0)) (.con (.int 2))), (.con (.bool true)), (.con (.bool false)), (.con .none), (.con (.str (Str.ofString "2"))), (.tup [(.con (.int 2))]), (.al (.lst [(.con (.int 3))])), (.op .pow (.con (.int 10)) (.con (.int 40)))])]))]⟩
def D_l_odd_width (jx : Jx) : Def := ⟨1, 1, [(.ret (.call jx.l_one_of [(.var 0), (.lst [(.con (.int 9)), (.op .sub (.con (.int 0)) (.con (.int 1))), (.con (.bool true)), (.con (.bool false)), (.con .none), (.con (.str (Str.ofString "1"))), (.tup [(.con (.int 1))]), (.al (.lst [(.con (.int 2))])), (.op .pow (.con (.int 10)) (.con (.int 40)))])]))]⟩
def D_l_odd_entry (jx : Jx) : Def := ⟨3, 6, [(.set (.nm 3) (.lst [(.con .none), (.con (.int 5)), (.con (.str (Str.ofString "a"))), (.al (.op .mul (.lst [(.con (.int 0))]) (.var 2))), (.op .mul (.tup [(.con (.int 0))]) (.op .add (.var 2) (.con (.int 1)))), (.op .add (.op .mul (.tup [(.con (.int 0))]) (.op .sub (.var 2) (.con (.int 1)))) (.tup [(.con (.int 0)), (.con (.int 0))])), (.dct [] [])])), (.ife (.cmp .gt (.var 2) (.con (.int 0))) [(.par [(4, true), (5, false)] [(.al (.op .mul (.lst [(.con (.int 0))]) (.var 2))), (.call jx.l_pick [(.var 0), (.var 2)])]), (.setI (.var 4) (.var 5) (.call jx.l_one_of [(.var 0), (.lst [(.var 1), (.op .sub (.con (.int 0)) (.con (.int 1))), (.con (.bool true)), (.con (.bool false)), (.con .none), (.con (.str (Str.ofString "1"))), (.tup [(.con (.int 1))])])])), (.set (.nm 3) (.op .add (.op .add (.var 3) (.op .mul (.lst [(.op .mul (.tup [(.con (.int 0))]) (.op .sub (.var 2) (.con (.int 1))))]) (.con (.int 2)))) (.op .mul (.lst [(.prim .tuple [(.var 4)])]) (.con (.int 4)))))] []), (.ret (.call jx.l_one_of [(.var 0), (.var 3)]))]⟩
end Et

/-! the tape of draws: a dict in a cell -/
namespace Et
open PySem MP Nt
abbrev dgK : Key := .inr (Str.ofString "digits")
abbrev mxK : Key := .inr (Str.ofString "mixed")
/-- the tape in a cell -/
def Tp (st : Store) (c : Nat) : Prop := ∃ a b : Int, st[c]? = some (.dct [dgK, mxK] [.d (.int a), .d (.int b)]) ∧ 0 ≤ a ∧ 0 ≤ b ∧ b ≤ 2147483647
/-- only the tape may have changed -/
def Tm (c : Nat) (st st' : Store) : Prop := st'.length = st.length ∧ (∀ i, i ≠ c → st'[i]? = st[i]?) ∧ Tp st' c
theorem Tm.trans {c : Nat} {s1 s2 s3 : Store} (a : Tm c s1 s2) (b : Tm c s2 s3) : Tm c s1 s3 := ⟨b.1.trans a.1, fun i h => (b.2.1 i h).trans (a.2.1 i h), b.2.2⟩
theorem Tm.refl {c : Nat} {s : Store} (h : Tp s c) : Tm c s s := ⟨rfl, fun _ _ => rfl, h⟩
theorem Tm.set {c : Nat} {st : Store} {a b : Int} (hlt : c < st.length) (ha : 0 ≤ a) (hb0 : 0 ≤ b) (hb1 : b ≤ 2147483647) : Tm c st (st.set c (.dct [dgK, mxK] [.d (.int a), .d (.int b)])) :=
  ⟨by simp, fun i h => by rw [List.getElem?_set_ne (Ne.symm h)], a, b, by rw [List.getElem?_set_self hlt], ha, hb0, hb1⟩
theorem Tp.lt {st : Store} {c : Nat} (h : Tp st c) : c < st.length := by
  obtain ⟨a, b, e, _⟩ := h
  exact (List.getElem?_eq_some_iff.mp e).1
/-- more cells at the end, only c changed among the old -/
structure To (c : Nat) (st s : Store) : Prop where
  len : st.length ≤ s.length
  old : ∀ i, i < st.length → i ≠ c → s[i]? = st[i]?
  src : Tp s c
  lt : c < st.length
theorem To.tm {c : Nat} {st s : Store} (h : To c st s) : Tm c st (s.take st.length) := by
  have hl : (s.take st.length).length = st.length := by rw [List.length_take]; have := h.len; omega
  refine ⟨hl, fun i hi => ?_, ?_⟩
  · by_cases hlt : i < st.length
    · rw [List.getElem?_take_of_lt hlt]
      exact h.old i hlt hi
    · rw [List.getElem?_eq_none (by omega), List.getElem?_eq_none (by omega)]
  · obtain ⟨a, b, e, q⟩ := h.src
    exact ⟨a, b, by rw [List.getElem?_take_of_lt h.lt]; exact e, q⟩
theorem To.refl {c : Nat} {st : Store} (h : Tp st c) : To c st st := ⟨Nat.le_refl _, fun _ _ _ => rfl, h, h.lt⟩
theorem To.tm2 {c : Nat} {st s s' : Store} (h : To c st s) (k : Tm c s s') : To c st s' := ⟨by rw [k.1]; exact h.len, fun i hi hc => (k.2.1 i hc).trans (h.old i hi hc), k.2.2, h.lt⟩
theorem To.set {c : Nat} {st s : Store} (h : To c st s) {a : Nat} {x : Cell} (ha : st.length ≤ a) : To c st (s.set a x) := by
  refine ⟨by rw [List.length_set]; exact h.len, fun i hi hc => by rw [List.getElem?_set_ne (by omega)]; exact h.old i hi hc, ?_, h.lt⟩
  obtain ⟨u, v, e, q⟩ := h.src
  exact ⟨u, v, by rw [List.getElem?_set_ne (by have := h.lt; omega)]; exact e, q⟩
theorem To.new {c : Nat} {st s : Store} (h : To c st s) {x : Cell} : To c st (s ++ [x]) := by
  refine ⟨by rw [List.length_append]; have := h.len; omega, fun i hi hc => by rw [List.getElem?_append_left (by have := h.len; omega)]; exact h.old i hi hc, ?_, h.lt⟩
  obtain ⟨u, v, e, q⟩ := h.src
  exact ⟨u, v, by rw [List.getElem?_append_left (by have := h.lt; have := h.len; omega)]; exact e, q⟩
theorem gk1 {u v : T} : getK dgK [dgK, mxK] [u, v] = some u := by simp [getK]
theorem gk2 {u v : T} : getK mxK [dgK, mxK] [u, v] = some v := by
  have : dgK ≠ mxK := by decide +kernel
  simp [getK, this]
theorem sk1 {u v w : T} : setK dgK w [dgK, mxK] [u, v] = ([dgK, mxK], [w, v]) := by
  have : mxK ≠ dgK := by decide +kernel
  simp [setK, this]
theorem sk2 {u v w : T} : setK mxK w [dgK, mxK] [u, v] = ([dgK, mxK], [u, w]) := by
  have : dgK ≠ mxK := by decide +kernel
  simp [setK, this]
section
variable {tbl : List Def} {jx : Jx} {n wf : Nat} {st : Store} {c : Nat} {X : XC}
theorem pick {span : Int} (hd : tbl[jx.l_pick]? = some (D_l_pick jx)) (h : Tp st c) (hs : 0 < span) (hb : span < 1073741824) :
    (callN tbl wf (n + 1) jx.l_pick [.ref c, .d (.int span)] st).wp X fun v st' => (∃ r : Int, v = .t (.d (.int r)) ∧ 0 ≤ r ∧ r < span) ∧ Tm c st st' := by
  obtain ⟨a, b, hc, ha, hb0, hb1⟩ := h
  have hlt : c < st.length := (List.getElem?_eq_some_iff.mp hc).1
  rw [wp_callN hd rfl]
  unfold D_l_pick
  have i1 : ∀ u v : T, ixV (.dct [dgK, mxK] [u, v]) (.dat (.str (Str.ofString "digits"))) = some u := fun u v => gk1
  have i2 : ∀ u v : T, ixV (.dct [dgK, mxK] [u, v]) (.dat (.str (Str.ofString "mixed"))) = some v := fun u v => gk2
  have h2 : (2 : Nat) < 1000 := by decide
  simp! only [v_refD hc, gk1]
  by_cases hd : span ≤ a
  · rw [decide_eq_true hd]
    simp! only [hc, v_refD hc, gk1, b_mod hs, b_fdiv ⟨hs, hb⟩, sk1, h2]
    have s1 := Tm.set (st := st) (a := a / span) (b := b) hlt (Int.ediv_nonneg ha (Int.le_of_lt hs)) hb0 hb1
    rw [take_len s1.1]
    exact ⟨⟨_, rfl, Int.emod_nonneg _ (by omega), Int.emod_lt_of_pos _ hs⟩, s1⟩
  · rw [decide_eq_false hd]
    simp! only [hc, v_refD hc, gk2]
    rw [b_mul (mul_small (by omega) (by omega))]
    simp! only []
    rw [b_mod (by omega)]
    simp! only [hc, sk2, h2]
    have m0 : 0 ≤ (b * 40014 + 1031) % 2147483563 := Int.emod_nonneg _ (by omega)
    have m1 : (b * 40014 + 1031) % 2147483563 < 2147483563 := Int.emod_lt_of_pos _ (by omega)
    have hc2 : (st.set c (.dct [dgK, mxK] [.d (.int a), .d (.int ((b * 40014 + 1031) % 2147483563))]))[c]? = some (.dct [dgK, mxK] [.d (.int a), .d (.int ((b * 40014 + 1031) % 2147483563))]) := List.getElem?_set_self hlt
    simp! only [v_refD hc2, gk2]
    rw [b_pow (pow_small (by omega) (by omega) (by omega))]
    simp! only []
    rw [b_mod (by omega)]
    obtain ⟨w, hw⟩ : ∃ w, w = ((b * 40014 + 1031) % 2147483563) ^ (2 : Int).toNat % 2147483399 := ⟨_, rfl⟩
    have w0 : 0 ≤ w := by rw [hw]; exact Int.emod_nonneg _ (by omega)
    have w1 : w < 2147483399 := by rw [hw]; exact Int.emod_lt_of_pos _ (by omega)
    rw [← hw]
    simp! only []
    rw [b_pow (pow_small (by omega) (by omega) (by omega))]
    simp! only []
    rw [b_mod (by omega)]
    simp! only []
    rw [b_fdiv (by omega)]
    simp! only [b_mod hs]
    have s1 := Tm.set (st := st) (a := a) (b := (b * 40014 + 1031) % 2147483563) hlt ha m0 (by omega)
    rw [take_len s1.1]
    exact ⟨⟨_, rfl, Int.emod_nonneg _ (by omega), Int.emod_lt_of_pos _ hs⟩, s1⟩
theorem one_ofT {ts : List T} {v0 : T} (hp : tbl[jx.l_one_of]? = some (D_l_one_of jx)) (hd : tbl[jx.l_pick]? = some (D_l_pick jx)) (h : Tp st c) (hv : ∀ s : Store, s.length = st.length → (∀ i, i ≠ c → s[i]? = st[i]?) → view s v0 = .lst ts) (h0 : ts ≠ []) (h1 : ts.length < 1073741824) (ho : olds st.length ts = true) :
    (callN tbl wf (n + 2) jx.l_one_of [.ref c, v0] st).wp X fun v st' => (∃ x ∈ ts, v = .t x) ∧ Tm c st st' := by
  have hl : 0 < ts.length := List.length_pos_iff.mpr h0
  rw [wp_callN hp rfl]
  unfold D_l_one_of
  simp! only [hv st rfl fun _ _ => rfl]
  refine (pick hd h (by omega) (by omega)).mono ?_
  rintro v st1 ⟨⟨r, rfl, r0, r1⟩, s1⟩
  obtain ⟨y, e1, e3⟩ := at_okT r0 r1
  simp! only [hv st1 s1.1 s1.2.1, e1]
  have hy : y.old st.length = true := by
    clear e1 hv h1 h0 hl r1
    induction ts with
    | nil => cases e3
    | cons t ts ih =>
      rw [olds_cons, Bool.and_eq_true] at ho
      rcases List.mem_cons.mp e3 with rfl | e3
      · exact ho.1
      · exact ih ho.2 e3
  rw [lv_old hy, take_len s1.1]
  exact ⟨⟨y, e3, rfl⟩, s1⟩
theorem one_of {xs : List D} (hp : tbl[jx.l_one_of]? = some (D_l_one_of jx)) (hd : tbl[jx.l_pick]? = some (D_l_pick jx)) (h : Tp st c) (h0 : xs ≠ []) (h1 : xs.length < 1073741824) :
    (callN tbl wf (n + 2) jx.l_one_of [.ref c, .d (.list xs)] st).wp X fun v st' => (∃ x ∈ xs, v = .t (.d x)) ∧ Tm c st st' := by
  refine (one_ofT hp hd h (ts := xs.map .d) (fun _ _ _ => v_list) (by simpa using h0) (by simpa using h1) olds_map).mono ?_
  rintro v s ⟨⟨x, hx, rfl⟩, k⟩
  obtain ⟨y, hy, rfl⟩ := List.mem_map.mp hx
  exact ⟨⟨y, hy, rfl⟩, k⟩
end
end Et

/-! counts, primes, rows -/
namespace Et
open PySem MP Nt
/-- data, or a list in a cell -/
def OkT (st : Store) (x : T) : Prop := (∃ y, x = .d y) ∨ ∃ m ts, x = .ref m ∧ st[m]? = some (.lst ts)
theorem OkT.d {st : Store} {y : D} : OkT st (.d y) := .inl ⟨y, rfl⟩
theorem OkT.old {st : Store} {x : T} (h : OkT st x) : x.old st.length = true := by
  rcases h with ⟨y, rfl⟩ | ⟨m, ts, rfl, hm⟩
  · exact old_d
  · rw [old_ref]; exact decide_eq_true (List.getElem?_eq_some_iff.mp hm).1
def cntT (x : T) (lo hi : Int) : Bool := match x with
  | .d y => isNum y lo hi
  | _ => false
def primeI (i : Int) : Bool := decide (i = 2) || decide (i = 3) || decide (i = 5) || decide (i = 7)
def primeT (x : T) : Bool := match x with
  | .d (.int i) => primeI i
  | _ => false
def rowD (p w : Int) (x : D) : Bool := match x with
  | .tuple ys => decide ((ys.length : Int) = w) && ys.all fun y => isNum y 0 (p - 1)
  | _ => false
def rowT (p w : Int) (x : T) : Bool := match x with
  | .d y => rowD p w y
  | _ => false
section
variable {tbl : List Def} {jx : Jx} {n wf : Nat} {st : Store} {X : XC} {k : RV → Store → Prop} {x : T} {lo hi p w : Int}
theorem c_count (hn : tbl[jx.is_count]? = some (D_is_count jx)) (h : OkT st x) : (callN tbl wf (n + 1) jx.is_count [x, .d (.int lo), .d (.int hi)] st).wp X k = k (.t (.d (.bool (cntT x lo hi)))) st := by
  rw [wp_callN hn rfl]
  unfold D_is_count
  rcases h with ⟨y, rfl⟩ | ⟨m, ts, rfl, hm⟩
  · cases y with
    | int i =>
      simp! only [isi_i]
      by_cases h : lo ≤ i
      · simp! only [decide_eq_true h, cntT, isNum, Bool.true_and, List.take_length]
      · simp! only [decide_eq_false h, cntT, isNum, Bool.false_and, List.take_length]
    | bool b => simp! only [isi_b, cntT, isNum, List.take_length]
    | none => simp! only [isi_none, cntT, isNum, List.take_length]
    | str y => simp! only [isi_s, cntT, isNum, List.take_length]
    | list y => simp! only [isi_l, cntT, isNum, List.take_length]
    | tuple y => simp! only [isi_t, cntT, isNum, List.take_length]
    | dict y => simp! only [isi_D, isiD, cntT, isNum, List.take_length]
  · simp! only [v_ref hm, isi_l, cntT, List.take_length]
theorem l_count (hn : tbl[jx.l_is_count]? = some (D_l_is_count jx)) (h : OkT st x) : (callN tbl wf (n + 1) jx.l_is_count [x, .d (.int lo), .d (.int hi)] st).wp X k = k (.t (.d (.bool (cntT x lo hi)))) st := by
  rw [wp_callN hn rfl]
  unfold D_l_is_count
  rcases h with ⟨y, rfl⟩ | ⟨m, ts, rfl, hm⟩
  · cases y with
    | int i =>
      simp! only [isi_i]
      by_cases h : lo ≤ i
      · simp! only [decide_eq_true h, cntT, isNum, Bool.true_and, List.take_length]
      · simp! only [decide_eq_false h, cntT, isNum, Bool.false_and, List.take_length]
    | bool b => simp! only [isi_b, cntT, isNum, List.take_length]
    | none => simp! only [isi_none, cntT, isNum, List.take_length]
    | str y => simp! only [isi_s, cntT, isNum, List.take_length]
    | list y => simp! only [isi_l, cntT, isNum, List.take_length]
    | tuple y => simp! only [isi_t, cntT, isNum, List.take_length]
    | dict y => simp! only [isi_D, isiD, cntT, isNum, List.take_length]
  · simp! only [v_ref hm, isi_l, cntT, List.take_length]
theorem in_primes {i : Int} : cmpD .isin (.int i) (.tuple [.int 2, .int 3, .int 5, .int 7]) = some (primeI i) := by
  show some (([PyData.int 2, .int 3, .int 5, .int 7] : List D).any fun y => eqF y (.int i)) = _
  simp only [List.any_cons, List.any_nil, eqF, Bool.or_false, primeI]
  have e : ∀ a : Int, (a == i) = decide (i = a) := fun a => by
    rw [Bool.eq_iff_iff]
    simp only [beq_iff_eq, decide_eq_true_eq]
    exact eq_comm
  simp only [e, Bool.or_assoc]
theorem prime_in {i : Int} (h : isNum (.int i) 2 7 = false) : primeI i = false := by
  simp only [isNum, Bool.and_eq_false_iff, decide_eq_false_iff_not] at h
  simp only [primeI, Bool.or_eq_false_iff, decide_eq_false_iff_not]
  omega
theorem c_prime (hn : tbl[jx.is_count]? = some (D_is_count jx)) (hp : tbl[jx.is_prime]? = some (D_is_prime jx)) (h : OkT st x) : (callN tbl wf (n + 2) jx.is_prime [x] st).wp X k = k (.t (.d (.bool (primeT x)))) st := by
  rw [wp_callN hp rfl]
  unfold D_is_prime
  simp! only [c_count hn h]
  cases hc : cntT x 2 7 with
  | false =>
    simp! only [List.take_length]
    have e : primeT x = false := by
      unfold cntT at hc
      unfold primeT
      split
      · exact prime_in hc
      · rfl
    rw [e]
  | true =>
    obtain ⟨i, rfl⟩ : ∃ i, x = .d (.int i) := by
      unfold cntT at hc
      split at hc
      · rename_i y
        cases y <;> first | (cases hc; done) | exact ⟨_, rfl⟩
      · cases hc
    simp! only [in_primes, List.take_length, primeT]
theorem m_prime (hn : tbl[jx.is_count]? = some (D_is_count jx)) (hp : tbl[jx.is_prime]? = some (D_is_prime jx)) (hm : tbl[jx.must_be_prime]? = some (D_must_be_prime jx)) (h : OkT st x) : (callN tbl wf (n + 3) jx.must_be_prime [x] st).wp X k = if primeT x then k (.t (.d .none)) st else X jx.cBadPrime x st := by
  rw [wp_callN hm rfl]
  unfold D_must_be_prime
  simp! only [c_prime hn hp h]
  cases primeT x with
  | true => simp! only [List.take_length]
  | false =>
    simp! only [List.take_length]
    rw [finX_old h.old, List.take_length]
theorem m_width (hn : tbl[jx.is_count]? = some (D_is_count jx)) (hm : tbl[jx.must_be_width]? = some (D_must_be_width jx)) (h : OkT st x) : (callN tbl wf (n + 2) jx.must_be_width [x] st).wp X k = if cntT x 0 8 then k (.t (.d .none)) st else X jx.cBadWidth x st := by
  rw [wp_callN hm rfl]
  unfold D_must_be_width
  simp! only [c_count hn h]
  cases cntT x 0 8 with
  | true => simp! only [List.take_length]
  | false =>
    simp! only [List.take_length]
    rw [finX_old h.old, List.take_length]
theorem c_row (hn : tbl[jx.is_count]? = some (D_is_count jx)) (hr : tbl[jx.is_row]? = some (D_is_row jx)) (h : OkT st x) : (callN tbl wf (n + 2) jx.is_row [.d (.int p), .d (.int w), x] st).wp X k = k (.t (.d (.bool (rowT p w x)))) st := by
  rw [wp_callN hr rfl]
  unfold D_is_row
  rcases h with ⟨y, rfl⟩ | ⟨m, ts, rfl, hm⟩
  · by_cases hy : ∃ ys, y = .tuple ys
    · obtain ⟨ys, rfl⟩ := hy
      simp! only [isi_t]
      cases h2 : decide ((ys.length : Int) = w) with
      | false => simp! only [List.take_length, rowT, rowD, h2, Bool.false_and]
      | true =>
        simp! only []
        rw [compD (h := fun y => .bool (isNum y 0 (p - 1))) (fun y hy ko => by simp! only [c_count hn .d, cntT])]
        simp! only [q_all, List.take_length, rowT, rowD, h2]
    · have e : rowT p w (.d y) = false := by
        unfold rowT rowD
        simp only
        split
        · exact absurd ⟨_, rfl⟩ hy
        · rfl
      simp! only [isi_D, not_tup fun xs e => hy ⟨xs, e⟩, List.take_length, e]
  · simp! only [v_ref hm, isi_l, List.take_length, rowT]
theorem m_row (hn : tbl[jx.is_count]? = some (D_is_count jx)) (hr : tbl[jx.is_row]? = some (D_is_row jx)) (hm : tbl[jx.must_be_row]? = some (D_must_be_row jx)) (h : OkT st x) : (callN tbl wf (n + 3) jx.must_be_row [.d (.int p), .d (.int w), x] st).wp X k = if rowT p w x then k (.t (.d .none)) st else X jx.cBadEntry x st := by
  rw [wp_callN hm rfl]
  unfold D_must_be_row
  simp! only [c_row hn hr h]
  cases rowT p w x with
  | true => simp! only [List.take_length]
  | false =>
    simp! only [List.take_length]
    rw [finX_old h.old, List.take_length]
theorem fm_nil {q : D → Bool} : ∀ {ys : List D}, (ys.filterMap fun y => if !q y then some y else none).isEmpty = ys.all q
  | [] => rfl
  | y :: ys => by
    rw [List.filterMap_cons, List.all_cons]
    cases q y with
    | true => simp only [Bool.not_true, Bool.false_eq_true, if_false, Bool.true_and]; exact fm_nil
    | false => rfl
theorem lrow {y : D} (hn : tbl[jx.l_is_count]? = some (D_l_is_count jx)) (hr : tbl[jx.l_is_row]? = some (D_l_is_row jx)) (hy : ∀ ys, y = .tuple ys → ∀ z ∈ ys, Lay z) : (callN tbl wf (n + 2) jx.l_is_row [.d (.int p), .d (.int w), .d y] st).wp X k = k (.t (.d (.bool (rowD p w y)))) st := by
  rw [wp_callN hr rfl]
  unfold D_l_is_row
  by_cases hq : ∃ ys, y = .tuple ys
  · obtain ⟨ys, rfl⟩ := hq
    simp! only [isi_t]
    cases h2 : decide ((ys.length : Int) = w) with
    | false => simp! only [List.take_length, rowD, h2, Bool.false_and]
    | true =>
      simp! only []
      rw [compF (h := fun y => if !isNum y 0 (p - 1) then some y else none) (fun y hy ko => by
        simp! only [l_count hn .d, cntT]
        cases isNum y 0 (p - 1) <;> simp! only [Option.map_none])]
      have sh : SeqAt.shaped (.list (ys.filterMap fun y => if !isNum y 0 (p - 1) then some y else none)) = true := shaped_list fun z hz => by
        obtain ⟨u, hu, e⟩ := List.mem_filterMap.mp hz
        split at e
        · injection e with e
          subst e
          exact hy ys rfl _ hu
        · cases e
      simp! only [c_eq sh nil_shaped rfl, eqv_nil, fm_nil, List.take_length, rowD, h2]
  · have e : rowD p w y = false := by
      unfold rowD
      split
      · exact absurd ⟨_, rfl⟩ hq
      · rfl
    simp! only [isi_D, not_tup fun xs e => hq ⟨xs, e⟩, List.take_length, e]
end
end Et

/-! NQ, part c: written values in one step. -/
namespace MP
open PySem
mutual
def constD : E → Option D
  | .con v => some v
  | .tup es => (constDs es).map .tuple
  | .lst es => (constDs es).map .list
  | .op .sub (.con (.int i)) (.con (.int j)) => some (.int (i - j))
  | .op .pow (.con (.int i)) (.con (.int j)) => if powOk i j then some (.int (i ^ j.toNat)) else none
  | .dct ks es => match ks.mapM keyD, constDs es with
    | some l, some xs => if l.length = xs.length ∧ keysOk ks then some (.dict ((l.map kD).zip xs)) else none
    | _, _ => none
  | _ => none
def constDs : List E → Option (List D)
  | [] => some []
  | e :: es => match constD e, constDs es with
    | some x, some xs => some (x :: xs)
    | _, _ => none
end
mutual
theorem const_ok {cf : CF} {env : Env} {st : Store} : ∀ (e : E) (v : D), constD e = some v → settled (evalE cf e env st) = .ok (.d v) st
  | .con v, w, h => by
    simp only [constD, Option.some.injEq] at h
    subst h
    simp only [evalE]
    rfl
  | .tup es, w, h => by
    simp only [constD] at h
    obtain ⟨xs, e1, rfl⟩ := Option.map_eq_some_iff.mp h
    simp only [evalE, consts_ok es xs e1, Res.bind, settled, RV.settle]
    rw [mk_t, pu_map, mkT_some]
  | .lst es, w, h => by
    simp only [constD] at h
    obtain ⟨xs, e1, rfl⟩ := Option.map_eq_some_iff.mp h
    simp only [evalE, consts_ok es xs e1, Res.bind, settled]
    rw [st_n, pu_map, mkL_some]
  | .op o a b, w, h => by
    unfold constD at h
    split at h <;> first | (cases h; done) | (rename_i hb; cases hb)
    · cases h
      simp only [evalE, Res.bind, settled, RV.settle, view, binV, lift, tI]
    · split at h
      · rename_i hp
        cases h
        simp only [evalE, Res.bind, settled, RV.settle, view, binV, lift, tI, hp, if_true]
      · cases h
  | .dct ks es, w, h => by
    unfold constD at h
    split at h <;> first | (cases h; done) | skip
    rename_i l xs h1 h2
    split at h
    · rename_i hc
      cases h
      simp only [evalE, consts_ok es xs h2, Res.bind, h1, settled, List.length_map, hc, and_self, if_true, RV.settle]
      unfold mkDct
      rw [pu_map]
    · cases h
  | .hole, _, h => by cases h
  | .var _, _, h => by cases h
  | .glo _ _, _, h => by cases h
  | .neg _, _, h => by cases h
  | .cmp _ _ _, _, h => by cases h
  | .chain _ _ _ _ _, _, h => by cases h
  | .and _ _, _, h => by cases h
  | .or _ _, _, h => by cases h
  | .not _, _, h => by cases h
  | .ite _ _ _, _, h => by cases h
  | .call _ _, _, h => by cases h
  | .callk _ _ _, _, h => by cases h
  | .prim _ _, _, h => by cases h
  | .isi _ _, _, h => by cases h
  | .ix _ _, _, h => by cases h
  | .sl _ _ _, _, h => by cases h
  | .comp _ _ _ _ _, _, h => by cases h
  | .meth _ _ _, _, h => by cases h
  | .ask _ _ _, _, h => by cases h
  | .rng _, _, h => by cases h
  | .enm _, _, h => by cases h
  | .zp _ _, _, h => by cases h
  | .al _, _, h => by cases h
  | .caught _ _ _, _, h => by cases h
  | .disp _ _ _, _, h => by cases h
  | .dcomp _ _ _ _ _ _, _, h => by cases h
  | .lit _ _, _, h => by cases h
  | .isis _ _, _, h => by cases h
  | .rev _, _, h => by cases h
theorem consts_ok {cf : CF} {env : Env} {st : Store} : ∀ (es : List E) (xs : List D), constDs es = some xs → evalTs cf es env st = .ok (xs.map .d) st
  | [], xs, h => by
    simp only [constDs, Option.some.injEq] at h
    subst h
    simp only [evalTs]
    rfl
  | e :: es, xs, h => by
    unfold constDs at h
    split at h
    · rename_i x ys h1 h2
      cases h
      simp only [evalTs, const_ok e x h1, Res.bind, consts_ok es ys h2, List.map_cons]
    · cases h
end
section
variable {cf : CF} {env : Env} {st : Store} {X : XC} {k : RV → Store → Prop} {kt : List T → Store → Prop}
/-- a written list -/
theorem w_lstC {es : List E} {xs : List D} (h : constDs es = some xs) : (evalE cf (.lst es) env st).wp X k = k (.new (xs.map .d)) st := by
  rw [w_lst, consts_ok es xs h]
  rfl
theorem w_tsC {es : List E} {xs : List D} (h : constDs es = some xs) : (evalTs cf es env st).wp X kt = kt (xs.map .d) st := by
  rw [consts_ok es xs h]
  rfl
end
end MP
local macro_rules | `(tactic| dsimp! only [$ls,*]) => `(tactic| simp only [MP.w_var, MP.kV_some, MP.w_con, MP.w_glo, MP.w_op, MP.w_neg, MP.w_cmp, MP.w_chain, MP.w_and, MP.w_or, MP.w_not, MP.w_ite, MP.w_tup, MP.w_dct, MP.w_call, MP.w_prim, MP.w_isi, MP.w_ix, MP.w_sl, MP.w_comp, MP.w_meth, MP.w_al, MP.w_caught, MP.ctK0, MP.ctK1, MP.ctX_ap, MP.w_ts0, MP.w_ts, MP.w_fs0, MP.w_fs, MP.w_cs0, MP.w_cs, MP.w_o0, MP.w_o, MP.w_it, MP.iv_var, MP.hv_var, MP.iv_con, MP.hv_con, MP.iv_glo, MP.hv_glo, MP.iv_op, MP.hv_op, MP.iv_neg, MP.hv_neg, MP.iv_ite, MP.hv_ite, MP.iv_tup, MP.hv_tup, MP.iv_lst, MP.hv_lst, MP.iv_call, MP.hv_call, MP.iv_prim, MP.hv_prim, MP.iv_ix, MP.hv_ix, MP.iv_sl, MP.hv_sl, MP.iv_comp, MP.hv_comp, MP.iv_al, MP.hv_al, MP.iv_meth, MP.hv_meth, MP.w_rng, MP.w_rng2, MP.w_enm, MP.w_zp, MP.w_callk, MP.w_ask, MP.w_disp, MP.w_ss0, MP.w_ss, MP.w_dcomp, MP.w_lit, MP.v_dct, MP.v_refD, MP.i_d, MP.i_ds, MP.ky_i, MP.ky_s, MP.sq_l, MP.sq_t, MP.iv_callk, MP.hv_callk, MP.iv_ask, MP.hv_ask, MP.iv_disp, MP.iv_dcomp, MP.iv_lit, List.headD_cons, List.headD_nil, List.tail_cons, List.tail_nil, MP.askKind, MP.x_nil, MP.x_cons, MP.x_set, MP.x_setM, MP.x_par, MP.x_expr, MP.x_ret, MP.x_retN, MP.x_pass, MP.x_ife, MP.x_for, MP.x_rais, MP.x_setI, MP.fin_ret, MP.fin_next, MP.finX_d, MP.old_d, MP.olds_nil, MP.olds_cons, MP.olds_map, MP.lv_d, MP.lv_n, MP.lv_nd, MP.wp_ok, MP.wp_exc, MP.wp_stuck, MP.wp_bind, MP.bnd_ap, MP.at_ap, MP.stl_ap, MP.alc_t, MP.alc_n, MP.alc_d, MP.wp_lift, MP.wp_settled, MP.wp_alloc, MP.tru_ap, MP.wp_truth, MP.wp_evF, MP.wp_evT, MP.wp_noexc, MP.xe_ap, MP.bndS_ap, MP.wp_then, MP.wps_ok, MP.wps_exc, MP.wps_stuck, MP.bT_ap, MP.wp_bt, MP.nxt_next, MP.nxt_ret, MP.nxt_brk, MP.nxt_cont, MP.oK_some, MP.v_int, MP.v_bool, MP.v_str, MP.v_none, MP.v_list, MP.v_tuple, MP.v_tup, MP.v_lst, MP.v_ref, MP.rd_d, MP.rd_ref, MP.st_t, MP.st_n, MP.mk_t, MP.mkL_some, MP.mkL_none, MP.mkT_some, MP.mkT_none, MP.pu_nil, MP.pu_d, MP.pu_ref, MP.pu_map, MP.atT_map, MP.at0, MP.at1, MP.at2, MP.at3, MP.cutT_map, MP.b_add, MP.b_sub, MP.c_lt, MP.c_le, MP.c_gt, MP.c_ge, MP.c_eqI, MP.c_neI, MP.c_eqS, MP.c_neS, MP.c_isB, MP.c_isnotB, MP.p_repr, MP.p_len, MP.p_int, MP.p_max, MP.p_min, MP.p_all, MP.p_any, MP.p_tuple, MP.p_list, MP.p_sum, MP.p_sorted, MP.p_abs, MP.q_lenL, MP.q_lenT, MP.q_int, MP.q_max2, MP.q_min2, MP.q_tupL, MP.q_tupT, MP.q_lstL, MP.q_lstT, MP.i_l, MP.i_t, MP.s_l, MP.s_t, MP.t_bool, MP.bp_nm, MP.bp_tp, MP.bp_tt, MP.bps0, MP.bps1, MP.sr_l, MP.sr_t, MP.sr_n, MP.sr_tt, MP.sr_ll, MP.se_t, MP.se_l, MP.se_n, MP.fs_fz, MP.ls_fz, MP.tB_eq, MP.tI_eq, MP.sa0, MP.sa1, MP.startE, MP.wipe, List.map_cons, List.map_nil, List.length_cons, List.length_nil, List.length_map, List.replicate, List.cons_append, List.nil_append, List.append_nil, Nat.reduceAdd, Nat.reduceSub, Nat.reduceMul, List.getElem?_cons_zero, List.getElem?_cons_succ, List.getElem?_nil, List.set_cons_zero, List.set_cons_succ, Option.map_some, Option.map_none, Option.bind_some, Bool.not_true, Bool.not_false, Bool.and_true, Bool.true_and, if_true, if_false, Bool.false_eq_true, true_and, and_true, $ls,*])

/-! tapes, drawn entries, odd values -/
namespace Et
open PySem MP Nt
structure HasE (tbl : List Def) (jx : Jx) : Prop where
  tape : tbl[jx.l_tape]? = some (D_l_tape jx)
  pick : tbl[jx.l_pick]? = some (D_l_pick jx)
  one : tbl[jx.l_one_of]? = some (D_l_one_of jx)
  drawn : tbl[jx.l_drawn_entry]? = some (D_l_drawn_entry jx)
  any : tbl[jx.l_any]? = some (D_l_any jx)
  oprime : tbl[jx.l_odd_prime]? = some (D_l_odd_prime jx)
  owidth : tbl[jx.l_odd_width]? = some (D_l_odd_width jx)
  oentry : tbl[jx.l_odd_entry]? = some (D_l_odd_entry jx)
theorem sq_bits {z : Int} (h : Builtin.Int.intBits z ≤ 1048576) : (z * z).natAbs < 2 ^ 2097152 := by
  have h1 := bits_lt h
  rw [Int.natAbs_mul]
  have e : (2 : Nat) ^ 2097152 = 2 ^ 1048576 * 2 ^ 1048576 := by rw [← Nat.pow_add]
  rw [e]
  exact Nat.mul_lt_mul_of_lt_of_le h1 (Nat.le_of_lt h1) (Nat.two_pow_pos _)
section
variable {tbl : List Def} {jx : Jx} {n wf : Nat} {st : Store} {c : Nat} {X : XC}
theorem tape {ns : List Int} {start : Int} (H : HasE tbl jx) (hb : ∀ z ∈ ns, Builtin.Int.intBits z ≤ 1048576) (s0 : 0 ≤ start) (s1 : start ≤ 10) :
    (callN tbl wf (n + 1) jx.l_tape [.d (.list (ns.map .int)), .d (.int start)] st).wp X fun v st' => (∃ a b : Int, v = .newD [dgK, mxK] [.d (.int a), .d (.int b)] ∧ 0 ≤ a ∧ 0 ≤ b ∧ b ≤ 2147483647) ∧ st' = st := by
  rw [wp_callN H.tape rfl]
  unfold D_l_tape
  simp! only []
  rw [b_mul (mul_small (by omega) (by omega))]
  simp! only []
  refine forL_inv (fun ys env s => ∃ (m : Int) (e3 e4 : Option T), env = [some (.d (.list (ns.map .int))), some (.d (.int start)), some (.d (.int m)), e3, e4] ∧ s = st ∧ 0 ≤ m ∧ m ≤ 2147483647 ∧ ∃ zs : List Int, ys = (zs.map PyData.int).map .d ∧ ∀ z ∈ zs, Builtin.Int.intBits z ≤ 1048576) ⟨_, _, _, rfl, rfl, by omega, by omega, ns, rfl, hb⟩ ?_ ?_
  · rintro x ys env s ⟨m, e3, e4, rfl, rfl, m0, m1, zs, hz, hzb⟩
    cases zs with
    | nil => cases hz
    | cons z zs =>
      rw [List.map_cons, List.map_cons] at hz
      obtain ⟨rfl, rfl⟩ := List.cons.inj hz
      have bz := hzb z (by simp)
      have hm : mulOk z z = true := decide_eq_true (by omega)
      simp! only []
      rw [b_mul (mul_small (by omega) (by omega))]
      simp! only [b_mul hm]
      have hp : powOk (m * 30029 + z * z + 13) 2 = true := by
        have bw : Builtin.Int.intBits (m * 30029 + z * z + 13) ≤ 2097153 := by
          apply bits_small
          have q := sq_bits bz
          have h1 : (m * 30029 + z * z + 13).natAbs ≤ (m * 30029 + 13).natAbs + (z * z).natAbs := by
            have : m * 30029 + z * z + 13 = (m * 30029 + 13) + z * z := by omega
            rw [this]
            exact Int.natAbs_add_le _ _
          have h2 : (m * 30029 + 13).natAbs ≤ 2 ^ 64 := by
            have : (2 : Nat) ^ 64 = 18446744073709551616 := by decide
            omega
          have h3 : (2 : Nat) ^ 64 ≤ 2 ^ 2097152 := Nat.pow_le_pow_right (by decide) (by decide)
          have h4 : (2 : Nat) ^ 2097153 = 2 ^ 2097152 + 2 ^ 2097152 := by rw [Nat.pow_succ]; omega
          rw [h4]
          omega
        unfold powOk
        rw [decide_eq_true (by decide : (0 : Int) ≤ 2), Bool.true_and]
        refine decide_eq_true ?_
        omega
      rw [b_pow hp]
      simp! only []
      rw [b_mod (by decide)]
      simp! only []
      have w0 := Int.emod_nonneg ((m * 30029 + z * z + 13) ^ (2 : Int).toNat) (show (2147483563 : Int) ≠ 0 by decide)
      have w1 := Int.emod_lt_of_pos ((m * 30029 + z * z + 13) ^ (2 : Int).toNat) (show (0 : Int) < 2147483563 by decide)
      exact ⟨_, _, _, rfl, by omega, by omega, zs, rfl, fun y hy => hzb y (by simp [hy])⟩
  · rintro env s ⟨m, e3, e4, rfl, rfl, m0, m1, _⟩
    have hp : powOk 10 18 = true := by decide +kernel
    have hk : ([PyData.str (Str.ofString "digits"), .str (Str.ofString "mixed")] : List D).mapM keyD = some [dgK, mxK] := rfl
    have hq : keysOk [.str (Str.ofString "digits"), .str (Str.ofString "mixed")] = true := by decide +kernel
    simp! only []
    by_cases hlt : start < ns.length
    · obtain ⟨y, ey, _, hy⟩ := at_ok (xs := ns.map PyData.int) s0 (by simpa using hlt)
      obtain ⟨z, hz, rfl⟩ := List.mem_map.mp hy
      simp! only [decide_eq_true hlt, ey, b_pow hp]
      by_cases hge : (10 : Int) ^ (18 : Int).toNat ≤ z
      · simp! only [decide_eq_true hge, ey, b_pow hp, hk, hq, List.take_length]
        exact ⟨_, _, rfl, by omega, m0, m1⟩
      · simp! only [decide_eq_false hge, hk, hq, List.take_length]
        exact ⟨_, _, rfl, by omega, m0, m1⟩
    · simp! only [decide_eq_false hlt, hk, hq, List.take_length]
      exact ⟨_, _, rfl, by omega, m0, m1⟩
theorem drawn {p w : Int} (H : HasE tbl jx) (h : Tp st c) (p0 : 2 ≤ p) (p1 : p ≤ 100) (w0 : 0 ≤ w) (w1 : w ≤ 100) :
    (callN tbl wf (n + 3) jx.l_drawn_entry [.ref c, .d (.int p), .d (.int w)] st).wp X fun v st' => (∃ es : List Int, v = .t (.d (.tuple (es.map .int))) ∧ (es.length : Int) = w ∧ ∀ e ∈ es, 0 ≤ e ∧ e < p) ∧ Tm c st st' := by
  rw [wp_callN H.drawn rfl]
  unfold D_l_drawn_entry
  simp! only []
  rw [if_pos (by simp only [big]; omega)]
  simp! only [iL_eq]
  refine Res.wp.mono (compL_inv (k := fun r s => ∃ es : List Int, r = (es.map PyData.int).map .d ∧ (es.length : Int) = w ∧ (∀ e ∈ es, 0 ≤ e ∧ e < p) ∧ Tm c st s) (fun xs acc s => ∃ es : List Int, acc = (es.map PyData.int).map .d ∧ ((es.length + xs.length : Nat) : Int) = w ∧ (∀ e ∈ es, 0 ≤ e ∧ e < p) ∧ Tm c st s) (acc := []) ⟨[], rfl, ?_, by simp, Tm.refl h⟩ ?_ ?_) ?_
  · rw [List.length_map, iL_len]
    simp only [List.length_nil]
    omega
  · rintro x xs acc s ⟨es, rfl, hl, hp, hs⟩
    simp! only []
    refine (pick H.pick hs.2.2 (by omega) (by omega)).mono ?_
    rintro v s1 ⟨⟨r, rfl, r0, r1⟩, k1⟩
    simp! only []
    refine (one_of H.one H.pick k1.2.2 (by simp) (by simp)).mono ?_
    rintro v s2 ⟨⟨y, hy, rfl⟩, k2⟩
    obtain ⟨e, rfl, e0, e1⟩ : ∃ e : Int, y = .int e ∧ 0 ≤ e ∧ e < p := by
      simp only [List.mem_cons, List.not_mem_nil, or_false] at hy
      rcases hy with rfl | rfl | rfl | rfl
      · exact ⟨0, rfl, by omega, by omega⟩
      · exact ⟨1, rfl, by omega, by omega⟩
      · exact ⟨p - 1, rfl, by omega, by omega⟩
      · exact ⟨r, rfl, r0, r1⟩
    simp! only []
    refine ⟨es ++ [e], by simp, by simp only [List.length_cons, List.length_append, List.length_nil] at hl ⊢; omega, fun z hz => ?_, (hs.trans k1).trans k2⟩
    rcases List.mem_append.mp hz with hz | hz
    · exact hp z hz
    · simp only [List.mem_cons, List.not_mem_nil, or_false] at hz
      subst hz
      exact ⟨e0, e1⟩
  · rintro acc s ⟨es, rfl, hl, hp, hs⟩
    exact ⟨es, rfl, by simpa using hl, hp, hs⟩
  rintro r s4 ⟨es, hr, hl, hp, k⟩
  rw [List.nil_append] at hr
  subst hr
  simp! only []
  rw [take_len k.1]
  exact ⟨⟨es, rfl, hl, hp⟩, k⟩
/-- an odd value: one of some data, or a new list -/
def OddR (xs : List D) (zs : List D) (v : RV) : Prop := (∃ y ∈ xs, v = .t (.d y)) ∨ v = .new (zs.map .d)
def oddP : List D := [.int 0, .int 1, .int 4, .int 6, .int 8, .int 9, .int 11, .int (-2), .bool true, .bool false, .none, .str "2", .tuple [.int 2], .int (10 ^ 40)]
theorem odd_prime (H : HasE tbl jx) (h : Tp st c) : (callN tbl wf (n + 3) jx.l_odd_prime [.ref c] st).wp X fun v st' => OddR oddP [.int 3] v ∧ Tm c st st' := by
  rw [wp_callN H.oprime rfl]
  unfold D_l_odd_prime
  have hpw : powOk 10 40 = true := by decide +kernel
  simp! only [b_pow hpw]
  have hS : Tp (st ++ [.lst [.d (.int 3)]]) c := (To.refl h).new.src
  refine (one_ofT H.one H.pick hS (fun _ _ _ => v_lst) (by simp) (by simp) (by simp [olds_cons, olds_nil, old_d, old_ref])).mono ?_
  rintro v s1 ⟨⟨x, hx, rfl⟩, k1⟩
  have mo := (To.refl h).new.tm2 k1
  have hc : s1[st.length]? = some (.lst [.d (.int 3)]) := by
    rw [k1.2.1 _ (by have := h.lt; omega), List.getElem?_append_right (Nat.le_refl _)]
    simp
  simp only [List.mem_cons, List.not_mem_nil, or_false] at hx
  rcases hx with rfl | rfl | rfl | rfl | rfl | rfl | rfl | rfl | rfl | rfl | rfl | rfl | rfl | rfl | rfl
  case inr.inr.inr.inr.inr.inr.inr.inr.inr.inr.inr.inr.inr.inl =>
    simp! only [lv_c (Nat.lt_irrefl st.length) hc rfl]
    exact ⟨.inr rfl, mo.tm⟩
  all_goals
    simp! only []
    exact ⟨.inl ⟨_, by simp [oddP], rfl⟩, mo.tm⟩
def oddW : List D := [.int 9, .int (-1), .bool true, .bool false, .none, .str "1", .tuple [.int 1], .int (10 ^ 40)]
theorem odd_width (H : HasE tbl jx) (h : Tp st c) : (callN tbl wf (n + 3) jx.l_odd_width [.ref c] st).wp X fun v st' => OddR oddW [.int 2] v ∧ Tm c st st' := by
  rw [wp_callN H.owidth rfl]
  unfold D_l_odd_width
  have hpw : powOk 10 40 = true := by decide +kernel
  simp! only [b_pow hpw]
  have hS : Tp (st ++ [.lst [.d (.int 2)]]) c := (To.refl h).new.src
  refine (one_ofT H.one H.pick hS (fun _ _ _ => v_lst) (by simp) (by simp) (by simp [olds_cons, olds_nil, old_d, old_ref])).mono ?_
  rintro v s1 ⟨⟨x, hx, rfl⟩, k1⟩
  have mo := (To.refl h).new.tm2 k1
  have hc : s1[st.length]? = some (.lst [.d (.int 2)]) := by
    rw [k1.2.1 _ (by have := h.lt; omega), List.getElem?_append_right (Nat.le_refl _)]
    simp
  simp only [List.mem_cons, List.not_mem_nil, or_false] at hx
  rcases hx with rfl | rfl | rfl | rfl | rfl | rfl | rfl | rfl | rfl
  case inr.inr.inr.inr.inr.inr.inr.inl =>
    simp! only [lv_c (Nat.lt_irrefl st.length) hc rfl]
    exact ⟨.inr rfl, mo.tm⟩
  all_goals
    simp! only []
    exact ⟨.inl ⟨_, by simp [oddW], rfl⟩, mo.tm⟩
def anyA : List D := [.none, .bool true, .bool false, .int 0, .int 1, .int 2, .int (-1), .int (10 ^ 30), .str "", .str "a", .str "0", .tuple [], .list [], .dict [], .tuple [.int 0], .list [.int 0], .tuple [.int 1, .int 0], .list [.tuple [.int 1, .int 0]], .dict [(.str "a", .int 1)]]
def anyB : List D := [.tuple [.tuple [.int 1, .int 0]], .tuple [.tuple [.int 0, .int 1], .tuple [.int 1, .int 0]], .tuple [.tuple [.int 1], .tuple [.int 1, .int 1]], .tuple [.bool true], .tuple [.none], .tuple [.tuple [.tuple [.int 1]]], .str "1.0", .tuple [.int 7], .tuple [.int (-1)]]
theorem any (H : HasE tbl jx) (h : Tp st c) : (callN tbl wf (n + 3) jx.l_any [.ref c] st).wp X fun v st' => (∃ y ∈ anyA ++ anyB, v = .t (.d y)) ∧ Tm c st st' := by
  rw [wp_callN H.any rfl]
  unfold D_l_any
  rw [x_cons, x_set, w_lstC (xs := anyA) rfl]
  dsimp! only []
  rw [w_lstC (xs := anyB) rfl]
  have hl : anyA.length + anyB.length ≤ big := by decide
  simp! only []
  rw [b_addL (by rw [List.length_map, List.length_map]; exact hl), ← List.map_append]
  simp! only []
  refine (one_of H.one H.pick h (xs := anyA ++ anyB) (by simp [anyA]) (by simp [anyA, anyB])).mono ?_
  rintro v s1 ⟨⟨x, hx, rfl⟩, k1⟩
  simp! only []
  rw [take_len k1.1]
  exact ⟨⟨x, hx, rfl⟩, k1⟩
end
end Et

/-! odd entries -/
namespace Et
open PySem MP Nt
def zeros (m : Nat) : List D := List.replicate m (.int 0)
theorem rep_zero {j : Int} : repT [T.d (.int 0)] j = (zeros j.toNat).map .d := by
  unfold repT zeros
  rw [List.map_replicate]
  induction j.toNat with
  | zero => rfl
  | succ k ih => rw [List.replicate_succ, List.flatten_cons, ih, List.replicate_succ]; rfl
theorem rep2 {x : T} : repT [x] 2 = [x, x] := rfl
theorem rep4 {x : T} : repT [x] 4 = [x, x, x, x] := rfl
/-- a small value that is no list -/
structure Sm1 (y : D) : Prop where
  nl : isiD .list y = false
  sho : Sho 60 6 y
  lay : ∀ ys, y = .tuple ys → ∀ z ∈ ys, Lay z
structure BadRow (p w : Int) (y : D) : Prop extends Sm1 y where
  no : rowD p w y = false
/-- an item of a small row -/
def It1 (y : D) : Prop := Sho 3 1 y ∧ Lay y
theorem it_zero {m : Nat} : ∀ y ∈ zeros m, It1 y := fun y hy => by
  rw [List.eq_of_mem_replicate hy]
  exact ⟨(sho_int (by decide)).mono (by decide) (by decide), rfl, by simp [PyData.depth]⟩
theorem sm_tup {ys : List D} (h : ∀ y ∈ ys, It1 y) (hl : ys.length ≤ 12) : Sm1 (.tuple ys) where
  nl := rfl
  sho := (sho_tup (sho_all (b := 3) (d := 1) (m := 12) (fun y hy => (h y hy).1) hl)).mono (by decide) (by decide)
  lay := fun zs e z hz => by cases e; exact (h z hz).2
theorem sm_small {y : D} (h : shoB y = true) (h2 : isiD .list y = false) (h3 : isiD .tuple y = false) : Sm1 y := ⟨h2, Sho.of h, fun ys e => by subst e; cases h3⟩
theorem row_len {p w : Int} {ys : List D} (h : (ys.length : Int) ≠ w) : rowD p w (.tuple ys) = false := by simp [rowD, h]
theorem row_bad {p w : Int} {ys : List D} {y : D} (hy : y ∈ ys) (h : isNum y 0 (p - 1) = false) : rowD p w (.tuple ys) = false := by
  show (decide ((ys.length : Int) = w) && ys.all fun y => isNum y 0 (p - 1)) = false
  have : (ys.all fun y => isNum y 0 (p - 1)) = false := by
    rw [List.all_eq_false]
    exact ⟨y, hy, by rw [h]; decide⟩
  rw [this, Bool.and_false]
def badI (p : Int) : List D := [.int p, .int (-1), .bool true, .bool false, .none, .str "1", .tuple [.int 1]]
theorem badI_no {p : Int} {y : D} (h : y ∈ badI p) (p0 : 2 ≤ p) (p1 : p ≤ 7) : isNum y 0 (p - 1) = false ∧ It1 y := by
  unfold badI at h
  simp only [List.mem_cons, List.not_mem_nil, or_false] at h
  have i1 : It1 (.int p) := ⟨(sho_int (by omega)).mono (by decide) (by decide), rfl, by simp [PyData.depth]⟩
  have i2 : It1 (.int (-1)) := ⟨(sho_int (by decide)).mono (by decide) (by decide), rfl, by simp [PyData.depth]⟩
  have i3 : ∀ b, It1 (.bool b) := fun b => ⟨sho_bool.mono (by decide) (by decide), rfl, by simp [PyData.depth]⟩
  have i4 : It1 .none := ⟨sho_none.mono (by decide) (by decide), rfl, by simp [PyData.depth]⟩
  have i5 : It1 (.str "1") := ⟨(sho_str (by decide +kernel)).mono (by decide +kernel) (by decide), by decide +kernel, by simp [PyData.depth]⟩
  have i6 : It1 (.tuple [.int 1]) := ⟨(sho_tup (sho_cons (sho_int (by decide)) sho_nil)).mono (by decide) (by decide), by decide +kernel, by simp [PyData.depth, PyData.depthAll]⟩
  rcases h with rfl | rfl | rfl | rfl | rfl | rfl | rfl
  · exact ⟨by simp [isNum]; omega, i1⟩
  · exact ⟨by simp [isNum], i2⟩
  · exact ⟨rfl, i3 _⟩
  · exact ⟨rfl, i3 _⟩
  · exact ⟨rfl, i4⟩
  · exact ⟨rfl, i5⟩
  · exact ⟨rfl, i6⟩
section
variable {tbl : List Def} {jx : Jx} {n wf : Nat} {st : Store} {c : Nat} {X : XC}
theorem fixed_bad {p w : Int} : BadRow p w .none ∧ BadRow p w (.int 5) ∧ BadRow p w (.str "a") ∧ BadRow p w (.dict []) :=
  ⟨⟨sm_small (by decide +kernel) rfl rfl, rfl⟩, ⟨sm_small (by decide +kernel) rfl rfl, rfl⟩, ⟨sm_small (by decide +kernel) rfl rfl, rfl⟩, ⟨sm_small (by decide +kernel) rfl rfl, rfl⟩⟩
theorem odd_entry {p w : Int} (H : HasE tbl jx) (h : Tp st c) (p0 : 2 ≤ p) (p1 : p ≤ 7) (w0 : 0 ≤ w) (w1 : w ≤ 8) :
    (callN tbl wf (n + 3) jx.l_odd_entry [.ref c, .d (.int p), .d (.int w)] st).wp X fun v st' => ((∃ y, v = .t (.d y) ∧ BadRow p w y) ∨ v = .new ((zeros w.toNat).map .d)) ∧ Tm c st st' := by
  obtain ⟨f1, f2, f3, f4⟩ := fixed_bad (p := p) (w := w)
  have f5 : BadRow p w (.tuple (zeros (w + 1).toNat)) := ⟨sm_tup it_zero (by simp [zeros]; omega), row_len (by simp [zeros]; omega)⟩
  have f6 : BadRow p w (.tuple (zeros (w - 1).toNat ++ [.int 0, .int 0])) := ⟨sm_tup (fun y hy => by
    rcases List.mem_append.mp hy with hy | hy
    · exact it_zero y hy
    · exact it_zero (m := 2) y hy) (by simp [zeros]; omega), row_len (by simp [zeros]; omega)⟩
  have hS : Tp (st ++ [.lst ((zeros w.toNat).map .d)]) c := (To.refl h).new.src
  have mo0 := (To.refl h).new (x := .lst ((zeros w.toNat).map .d))
  have hlen : (st ++ [Cell.lst ((zeros w.toNat).map .d)]).length = st.length + 1 := by simp
  have hk0 : ([] : List D).mapM keyD = some [] := rfl
  have hq0 : keysOk [] = true := by decide +kernel
  have hd0 : (RV.newD [] []).settle = .d (.dict []) := rfl
  -- the last step
  have last : ∀ (ts : List T) (s : Store) (Y : XC) (Q : RV → Store → Prop), To c st s → s[st.length]? = some (.lst ((zeros w.toNat).map .d)) → ts ≠ [] → ts.length < 100 → (∀ t ∈ ts, (∃ y, t = .d y ∧ BadRow p w y) ∨ t = .ref st.length) →
      (∀ v s1, ((∃ y, v = .t (.d y) ∧ BadRow p w y) ∨ v = .t (.ref st.length)) → To c st s1 → s1[st.length]? = some (.lst ((zeros w.toNat).map .d)) → Q v s1) → (callN tbl wf (n + 2) jx.l_one_of [.ref c, .lst ts] s).wp Y Q := by
    intro ts s Y Q mo hc h0 h1 ht hQ
    have hol : olds s.length ts = true := by
      have hlt : st.length < s.length := (List.getElem?_eq_some_iff.mp hc).1
      clear h0 h1
      induction ts with
      | nil => exact olds_nil
      | cons t ts ih =>
        rw [olds_cons, ih fun u hu => ht u (List.mem_cons_of_mem _ hu)]
        rcases ht t (by simp) with ⟨y, rfl, _⟩ | rfl
        · rw [old_d]; rfl
        · rw [old_ref, decide_eq_true hlt]; rfl
    refine (one_ofT H.one H.pick mo.src (fun _ _ _ => v_lst) h0 (by omega) hol).mono ?_
    rintro v s1 ⟨⟨x, hx, rfl⟩, k1⟩
    have hc1 : s1[st.length]? = some (.lst ((zeros w.toNat).map .d)) := by rw [k1.2.1 _ (by have := h.lt; omega)]; exact hc
    refine hQ _ _ ?_ (mo.tm2 k1) hc1
    rcases ht x hx with ⟨y, rfl, hy⟩ | rfl
    · exact .inl ⟨y, rfl, hy⟩
    · exact .inr rfl
  rw [wp_callN H.oentry rfl]
  unfold D_l_odd_entry
  simp! only []
  rw [b_mulL (by simp; omega), rep_zero]
  simp! only []
  rw [b_mulT (by simp; omega), rep_zero]
  simp! only []
  rw [b_mulT (by simp; omega), rep_zero]
  simp! only []
  rw [b_addT (by simp [zeros, big]; omega), show ([T.d (.int 0), .d (.int 0)] : List T) = ([PyData.int 0, .int 0] : List D).map .d from rfl, ← List.map_append]
  simp! only [hk0, hq0, hd0]
  have hz0 : (st ++ [Cell.lst ((zeros w.toNat).map .d)])[st.length]? = some (.lst ((zeros w.toNat).map .d)) := by simp
  have base : ∀ t ∈ ([T.d .none, .d (.int 5), .d (.str (Str.ofString "a")), .ref st.length, .d (.tuple (zeros (w + 1).toNat)), .d (.tuple (zeros (w - 1).toNat ++ [.int 0, .int 0])), .d (.dict [])] : List T), (∃ y, t = .d y ∧ BadRow p w y) ∨ t = .ref st.length := by
    intro t ht
    simp only [List.mem_cons, List.not_mem_nil, or_false] at ht
    rcases ht with rfl | rfl | rfl | rfl | rfl | rfl | rfl
    · exact .inl ⟨_, rfl, f1⟩
    · exact .inl ⟨_, rfl, f2⟩
    · exact .inl ⟨_, rfl, f3⟩
    · exact .inr rfl
    · exact .inl ⟨_, rfl, f5⟩
    · exact .inl ⟨_, rfl, f6⟩
    · exact .inl ⟨_, rfl, f4⟩
  by_cases hw : 0 < w
  · have f7 : BadRow p w (.tuple (zeros (w - 1).toNat)) := ⟨sm_tup it_zero (by simp [zeros]; omega), row_len (by simp [zeros]; omega)⟩
    simp! only [decide_eq_true hw]
    rw [b_mulL (by simp; omega), rep_zero]
    simp! only []
    obtain ⟨s0, es0⟩ : ∃ s0, s0 = st ++ [Cell.lst ((zeros w.toNat).map .d)] ++ [Cell.lst ((zeros w.toNat).map .d)] := ⟨_, rfl⟩
    have mo1 : To c st s0 := by rw [es0]; exact mo0.new
    have z1 : s0[st.length]? = some (.lst ((zeros w.toNat).map .d)) := by rw [es0]; simp
    have z2 : s0[st.length + 1]? = some (.lst ((zeros w.toNat).map .d)) := by rw [es0]; simp
    rw [hlen, ← es0]
    refine (pick H.pick mo1.src (by omega) (by omega)).mono ?_
    rintro v s1 ⟨⟨r, rfl, r0, r1⟩, k1⟩
    have mo2 := mo1.tm2 k1
    have lc := h.lt
    have y1 : s1[st.length]? = some (.lst ((zeros w.toNat).map .d)) := by rw [k1.2.1 _ (by omega)]; exact z1
    have y2 : s1[st.length + 1]? = some (.lst ((zeros w.toNat).map .d)) := by rw [k1.2.1 _ (by omega)]; exact z2
    simp! only []
    refine (one_of H.one H.pick mo2.src (by simp) (by simp)).mono ?_
    rintro v s2 ⟨⟨b, hb, rfl⟩, k2⟩
    obtain ⟨b1, b2⟩ := badI_no (p := p) (y := b) (by simpa [badI] using hb) p0 p1
    have mo3 := mo2.tm2 k2
    have x1 : s2[st.length]? = some (.lst ((zeros w.toNat).map .d)) := by rw [k2.2.1 _ (by omega)]; exact y1
    have x2 : s2[st.length + 1]? = some (.lst ((zeros w.toNat).map .d)) := by rw [k2.2.1 _ (by omega)]; exact y2
    have hix : ixN (zeros w.toNat).length r = some r.toNat := by
      unfold ixN
      rw [if_pos r0, if_pos (by simp [zeros]; omega)]
    have hset : ((zeros w.toNat).map T.d).set r.toNat (.d b) = ((zeros w.toNat).set r.toNat b).map .d := by rw [List.map_set]
    have hrl : r.toNat < (zeros w.toNat).length := by simp [zeros]; omega
    simp! only [x2, hix, hset]
    obtain ⟨s3, es3⟩ : ∃ s3, s3 = s2.set (st.length + 1) (.lst (((zeros w.toNat).set r.toNat b).map .d)) := ⟨_, rfl⟩
    have mo4 : To c st s3 := by rw [es3]; exact mo3.set (by omega)
    have v1 : s3[st.length]? = some (.lst ((zeros w.toNat).map .d)) := by rw [es3, List.getElem?_set_ne (by omega)]; exact x1
    have v2 : s3[st.length + 1]? = some (.lst (((zeros w.toNat).set r.toNat b).map .d)) := by rw [es3]; exact List.getElem?_set_self (List.getElem?_eq_some_iff.mp x2).1
    rw [← es3, b_mulT (by simp; omega), rep_zero]
    simp! only []
    rw [b_mulL (by simp), rep2]
    simp! only []
    rw [b_addL (by simp [big])]
    simp! only [v_ref v2]
    rw [b_mulL (by simp), rep4]
    simp! only []
    rw [b_addL (by simp [big])]
    simp! only []
    have f8 : BadRow p w (.tuple ((zeros w.toNat).set r.toNat b)) := ⟨sm_tup (fun y hy => by
      rcases List.mem_or_eq_of_mem_set hy with hy | rfl
      · exact it_zero y hy
      · exact b2) (by simp [zeros]; omega), row_bad (List.mem_set hrl b) b1⟩
    refine last _ _ _ _ mo4 v1 (by simp) (by simp) ?_ ?_
    · intro t ht
      simp only [List.mem_cons, List.not_mem_nil, or_false] at ht
      rcases ht with rfl | rfl | rfl | rfl | rfl | rfl | rfl | rfl | rfl | rfl | rfl | rfl | rfl
      · exact .inl ⟨_, rfl, f1⟩
      · exact .inl ⟨_, rfl, f2⟩
      · exact .inl ⟨_, rfl, f3⟩
      · exact .inr rfl
      · exact .inl ⟨_, rfl, f5⟩
      · exact .inl ⟨_, rfl, f6⟩
      · exact .inl ⟨_, rfl, f4⟩
      · exact .inl ⟨_, rfl, f7⟩
      · exact .inl ⟨_, rfl, f7⟩
      · exact .inl ⟨_, rfl, f8⟩
      · exact .inl ⟨_, rfl, f8⟩
      · exact .inl ⟨_, rfl, f8⟩
      · exact .inl ⟨_, rfl, f8⟩
    rintro v s1 (⟨y, rfl, hy⟩ | rfl) mo hc
    · simp! only []
      exact ⟨.inl ⟨y, rfl, hy⟩, mo.tm⟩
    · simp! only [lv_c (Nat.lt_irrefl st.length) hc olds_map]
      exact ⟨.inr trivial, mo.tm⟩
  · simp! only [decide_eq_false hw]
    refine last _ _ _ _ mo0 hz0 (by simp) (by simp) base ?_
    rintro v s1 (⟨y, rfl, hy⟩ | rfl) mo hc
    · simp! only []
      exact ⟨.inl ⟨y, rfl, hy⟩, mo.tm⟩
    · simp! only [lv_c (Nat.lt_irrefl st.length) hc olds_map]
      exact ⟨.inr trivial, mo.tm⟩
end
end Et

/-! lists that hold cells: read, shown, changed -/
namespace Et
open PySem MP Nt
theorem pures_some : ∀ {ws : List T} {xs : List D}, pures ws = some xs → ws = xs.map .d
  | [], xs, h => by cases h; rfl
  | .d x :: ws, xs, h => by
    rw [pu_d] at h
    obtain ⟨ys, e1, rfl⟩ := Option.map_eq_some_iff.mp h
    rw [pures_some e1]
    rfl
  | .ref _ :: _, _, h => by cases h
  | .tup _ :: _, _, h => by cases h
  | .lst _ :: _, _, h => by cases h
  | .dct _ _ :: _, _, h => by cases h
theorem view_mkL {s : Store} {ws : List T} : view s (mkL ws (pures ws)) = .lst ws := by
  cases hp : pures ws with
  | some xs => rw [mkL_some, v_list, ← pures_some hp]
  | none => rfl
theorem src_mkT {s : Store} {ws : List T} : srcOf s (.t (mkT ws (pures ws))) = some (.fz ws) := by
  cases hp : pures ws with
  | some xs => rw [mkT_some, sr_t, ← pures_some hp]
  | none => rfl
/-- what is read, and how big it is -/
def RdS (s : Store) (k b d : Nat) (t : T) : Prop := ∃ x, rdF s k t = some x ∧ Sho b d x
theorem RdS.dat {s : Store} {k b d : Nat} {x : D} (h : Sho b d x) : RdS s k b d (.d x) := ⟨x, rdF_d, h⟩
theorem RdS.mono {s : Store} {k b d b' d' : Nat} {t : T} (h : RdS s k b d t) (h1 : b ≤ b') (h2 : d ≤ d') : RdS s k b' d' t := let ⟨x, e, q⟩ := h; ⟨x, e, q.mono h1 h2⟩
theorem mapM_all {s : Store} {k b d : Nat} : ∀ {ws : List T}, (∀ w ∈ ws, RdS s k b d w) → ∃ xs, ws.mapM (rdF s k) = some xs ∧ xs.length = ws.length ∧ ∀ x ∈ xs, Sho b d x
  | [], _ => ⟨[], rfl, rfl, by simp⟩
  | w :: ws, h => by
    obtain ⟨x, e, q⟩ := h w (by simp)
    obtain ⟨xs, e2, l2, q2⟩ := mapM_all (ws := ws) fun u hu => h u (List.mem_cons_of_mem _ hu)
    refine ⟨x :: xs, by rw [List.mapM_cons, e, e2]; rfl, by simp [l2], fun z hz => ?_⟩
    rcases List.mem_cons.mp hz with rfl | hz
    · exact q
    · exact q2 z hz
theorem RdS.lst {s : Store} {k b d m : Nat} {ws : List T} (h : ∀ w ∈ ws, RdS s k b d w) (hl : ws.length ≤ m) : RdS s (k + 1) (m * (b + 1)) (d + 1) (mkL ws (pures ws)) := by
  obtain ⟨xs, e, l, q⟩ := mapM_all h
  refine ⟨.list xs, ?_, sho_lst (sho_all q (by omega))⟩
  cases hp : pures ws with
  | some ys =>
    rw [pures_some hp, mapM_rdF] at e
    cases e
    rw [mkL_some, rdF_d]
  | none =>
    show rdF s (k + 1) (.lst ws) = _
    unfold rdF
    simp only [e]
    rfl
theorem RdS.repr {s : Store} {b d : Nat} {t : T} (h : RdS s 8 b d t) (hb : b ≤ 10000) (hd : d ≤ 60) : ∃ x, rd s t = some x ∧ reprOk x = true := by
  obtain ⟨x, e, q⟩ := h
  exact ⟨x, e, repr_ok q hb hd⟩
/-- a tagged value -/
def tagT (tag : Str) (t : T) : T := mkL [.d (.str tag), t] (pures [.d (.str tag), t])
theorem tagT_eq {tag : Str} {t : T} : mkL [T.d (.str tag), t] (Option.map (fun x => PyData.str tag :: x) (pures [t])) = tagT tag t := rfl
theorem RdS.tag {s : Store} {k b d : Nat} {t : T} {tag : Str} (h : RdS s k b d t) (hb : 10 ≤ b) (ht : Sho 10 0 (.str tag)) : RdS s (k + 1) (2 * (b + 1)) (d + 1) (tagT tag t) := by
  refine RdS.lst (fun w hw => ?_) (Nat.le_refl 2)
  rcases List.mem_cons.mp hw with rfl | hw
  · exact RdS.dat (ht.mono hb (Nat.zero_le _))
  · rcases List.mem_cons.mp hw with rfl | hw
    · exact h
    · cases hw
theorem mkL_old {n : Nat} {ws : List T} (h : olds n ws = true) : (mkL ws (pures ws)).old n = true := by
  cases hp : pures ws with
  | some xs => exact old_d
  | none =>
    show (T.lst ws).old n = true
    unfold T.old
    exact h
theorem tag_old {n : Nat} {tag : Str} {t : T} (h : t.old n = true) : (tagT tag t).old n = true := mkL_old (by rw [olds_cons, olds_cons, olds_nil, old_d, h]; rfl)
/-- an odd thing: small data that is no list, or a small list in a cell from b on; j: how often it may have grown -/
def Od (b : Nat) (s : Store) (j : Nat) (t : T) : Prop := (∃ y, t = .d y ∧ Sm1 y) ∨ ∃ (m : Nat) (zs : List D), t = .ref m ∧ s[m]? = some (.lst (zs.map .d)) ∧ zs.length ≤ 9 + j ∧ (∀ z ∈ zs, It1 z) ∧ b ≤ m
theorem Od.ok {b : Nat} {s : Store} {j : Nat} {t : T} (h : Od b s j t) : OkT s t := by
  rcases h with ⟨y, rfl, _⟩ | ⟨m, zs, rfl, hm, _⟩
  · exact .d
  · exact .inr ⟨m, _, rfl, hm⟩
theorem Od.keep {b : Nat} {s s' : Store} {j : Nat} {t : T} (h : Od b s j t) (hk : ∀ i, b ≤ i → i < s.length → s'[i]? = s[i]?) : Od b s' j t := by
  rcases h with h | ⟨m, zs, rfl, hm, q⟩
  · exact .inl h
  · exact .inr ⟨m, zs, rfl, by rw [hk m q.2.2 (List.getElem?_eq_some_iff.mp hm).1]; exact hm, q⟩
theorem Od.rd {b : Nat} {s : Store} {j k : Nat} {t : T} (h : Od b s j t) (hj : j ≤ 5) : RdS s (k + 1) 60 6 t := by
  rcases h with ⟨y, rfl, hy⟩ | ⟨m, zs, rfl, hm, hl, hz, _⟩
  · exact .dat hy.sho
  · refine ⟨.list zs, ?_, (sho_lst (sho_all (b := 3) (d := 1) (m := 14) (fun z hz' => (hz z hz').1) (by omega))).mono (by decide) (by decide)⟩
    unfold rdF
    simp only [hm, mapM_rdF]
    rfl
def bump (s : Store) : T → Store
  | .ref m => match s[m]? with
    | some (.lst ts) => s.set m (.lst (ts ++ [.d .none]))
    | _ => s
  | _ => s
theorem it_none : It1 .none := ⟨sho_none.mono (by decide) (by decide), rfl, by simp [PyData.depth]⟩
theorem bump_at {b : Nat} {s : Store} {j i : Nat} {u : T} (hu : Od b s j u) (hi : i < b) : (bump s u)[i]? = s[i]? := by
  rcases hu with ⟨y, rfl, _⟩ | ⟨m, zs, rfl, hm, _, _, hb⟩
  · rfl
  · unfold bump
    simp only [hm]
    rw [List.getElem?_set_ne (by omega)]
theorem bump_len {s : Store} {u : T} : (bump s u).length = s.length := by
  unfold bump
  split
  · split
    · rw [List.length_set]
    · rfl
  · rfl
theorem Od.bump {b : Nat} {s : Store} {j : Nat} {t u : T} (h : Od b s j t) (hu : Od b s j u) : Od b (Et.bump s u) (j + 1) t := by
  rcases h with h | ⟨m, zs, rfl, hm, hl, hz, hb⟩
  · exact .inl h
  · rcases hu with ⟨y, rfl, _⟩ | ⟨m', zs', rfl, hm', hl', hz', hb'⟩
    · exact .inr ⟨m, zs, rfl, hm, by omega, hz, hb⟩
    · have e : Et.bump s (.ref m') = s.set m' (.lst ((zs' ++ [PyData.none]).map .d)) := by
        unfold Et.bump
        simp only [hm', List.map_append]
        rfl
      rw [e]
      by_cases he : m' = m
      · subst he
        refine .inr ⟨m', zs' ++ [.none], rfl, List.getElem?_set_self (List.getElem?_eq_some_iff.mp hm').1, by simp; omega, fun z hz2 => ?_, hb'⟩
        rcases List.mem_append.mp hz2 with hz2 | hz2
        · exact hz' z hz2
        · simp only [List.mem_cons, List.not_mem_nil, or_false] at hz2
          subst hz2
          exact it_none
      · exact .inr ⟨m, zs, rfl, by rw [List.getElem?_set_ne he]; exact hm, by omega, hz, hb⟩
/-- one thing gets None if it is a list -/
theorem bump_body {wf : Nat} {cf : CF} {b : Nat} {s : Store} {j i : Nat} {t : T} {env : MP.Env} {XS : XS_} {ks : KS} (h : Od b s j t) (hj : j ≤ 5) (he : env[i]? = some (some t)) :
    (MP.execs cf wf [(.ife (.isi (.var i) .list) [(.expr (.meth .append (.var i) [(.con .none)]))] [])] env s).wp XS ks = ks .next env (Et.bump s t) := by
  rcases h with ⟨y, rfl, hy⟩ | ⟨m, zs, rfl, hm, hl, _⟩
  · simp! only [he, isi_D, hy.nl]
    rfl
  · have ma : methT s .append (zs.map .d) [.d .none] = some (.d .none, (zs ++ [PyData.none]).map .d) := m_app (by show _ < 16777216; omega)
    simp! only [he, v_ref hm, isi_l, hm, ma]
    have e : Et.bump s (.ref m) = s.set m (.lst ((zs ++ [PyData.none]).map .d)) := by
      unfold Et.bump
      simp only [hm, List.map_append]
      rfl
    rw [e]
theorem trn_nx {XS : XS_} {P : KS} {f : MP.Env → Store → RS} {env : MP.Env} {s : Store} : trn XS P f .next env s = (f env s).wp XS P := rfl
theorem To.bump {c : Nat} {st s : Store} {j : Nat} {t : T} (h : To c st s) (ht : Od st.length s j t) : To c st (Et.bump s t) := by
  refine ⟨by rw [bump_len]; exact h.len, fun i hi hc => ?_, ?_, h.lt⟩
  · rw [bump_at ht hi]
    exact h.old i hi hc
  · obtain ⟨a, b, e, q⟩ := h.src
    exact ⟨a, b, by rw [bump_at ht h.lt]; exact e, q⟩
end Et

/-! NQ, part d: loops over lists in cells -/
namespace MP
open PySem Nt
/-- what is walked: these things, that stand still or lie in a cell -/
def SrcIs (st : Store) (src : Src) (xs : List T) : Prop := src = .fz xs ∨ ∃ n, src = .cell n false ∧ st[n]? = some (.lst xs)
theorem forC_inv {X : XS_} {P : KS} {f : T → Env → Store → RS} {n : Nat} {xs : List T} (I : List T → Env → Store → Prop) (hc : ∀ ys env s, I ys env s → s[n]? = some (.lst xs))
    (hb : ∀ x ys env s, I (x :: ys) env s → (f x env s).wp X fun fl e s => match fl with
      | .next => I ys e s
      | .cont => I ys e s
      | .brk => P .next e s
      | .ret v => P (.ret v) e s) (he : ∀ e s, I [] e s → P .next e s) : ∀ (k i : Nat) (env : Env) (st : Store), i + k = xs.length + 1 → i ≤ xs.length → I (xs.drop i) env st → (forC f n false k i env st).wp X P
  | 0, i, env, st, hk, hl, hI => by omega
  | k + 1, i, env, st, hk, hl, hI => by
    have h := hc _ _ _ hI
    unfold forC
    rw [h]
    dsimp only
    cases hx : xs[i]? with
    | none =>
      dsimp only
      rw [wps_ok]
      have e : xs.drop i = [] := List.drop_eq_nil_of_le (by simpa using hx)
      rw [e] at hI
      exact he _ _ hI
    | some x =>
      dsimp only
      have hlt := (List.getElem?_eq_some_iff.mp hx).1
      have e : xs.drop i = x :: xs.drop (i + 1) := by
        rw [List.drop_eq_getElem_cons hlt]
        rw [List.getElem?_eq_getElem hlt] at hx
        injection hx with hx
        rw [hx]
      rw [e] at hI
      rw [wps_turn]
      refine (hb x _ env st hI).mono fun fl e s q => ?_
      cases fl with
      | next => exact forC_inv I hc hb he k (i + 1) e s (by omega) (by omega) q
      | cont => exact forC_inv I hc hb he k (i + 1) e s (by omega) (by omega) q
      | brk => exact q
      | ret v => exact q
/-- a loop over such things; what it walks stays -/
theorem src_inv {X : XS_} {P : KS} {f : T → Env → Store → RS} {src : Src} {xs : List T} {env : Env} {st : Store} (h : SrcIs st src xs) (I : List T → Env → Store → Prop) (hI : I xs env st) (hk : ∀ n, src = .cell n false → ∀ ys env s, I ys env s → s[n]? = st[n]?)
    (hb : ∀ x ys env s, I (x :: ys) env s → (f x env s).wp X fun fl e s => match fl with
      | .next => I ys e s
      | .cont => I ys e s
      | .brk => P .next e s
      | .ret v => P (.ret v) e s) (he : ∀ e s, I [] e s → P .next e s) : (forSrc f src env st).wp X P := by
  rcases h with rfl | ⟨n, rfl, hn⟩
  · exact forL_inv I hI hb he
  · simp only [forSrc, hn]
    exact forC_inv (xs := xs) I (fun ys env s q => by rw [hk n rfl ys env s q]; exact hn) hb he _ 0 env st (by omega) (Nat.zero_le _) hI
/-- a list of data: as it is, or in a cell from b on -/
def CV (b : Nat) (s : Store) (v : T) (xs : List D) : Prop := v = .d (.list xs) ∨ ∃ n, v = .ref n ∧ b ≤ n ∧ s[n]? = some (.lst (xs.map .d))
theorem CV.src {b : Nat} {s : Store} {v : T} {xs : List D} (h : CV b s v xs) : ∃ src, srcOf s (.t v) = some src ∧ SrcIs s src (xs.map .d) ∧ ∀ n, src = .cell n false → v = .ref n ∧ b ≤ n := by
  rcases h with rfl | ⟨n, rfl, hb, hn⟩
  · exact ⟨_, rfl, .inl rfl, fun n e => nomatch e⟩
  · refine ⟨.cell n false, ?_, .inr ⟨n, rfl, hn⟩, fun m e => by cases e; exact ⟨rfl, hb⟩⟩
    show (match s[n]? with | some (.lst _) => some (Src.cell n false) | _ => none) = _
    rw [hn]
theorem CV.view {b : Nat} {s : Store} {v : T} {xs : List D} (h : CV b s v xs) : MP.view s v = .lst (xs.map .d) := by
  rcases h with rfl | ⟨n, rfl, hb, hn⟩
  · exact v_list
  · exact v_ref hn
theorem CV.lt {b : Nat} {s : Store} {v : T} {xs : List D} (h : CV b s v xs) : v.old s.length = true := by
  rcases h with rfl | ⟨n, rfl, hb, hn⟩
  · exact old_d
  · rw [old_ref]; exact decide_eq_true (List.getElem?_eq_some_iff.mp hn).1
theorem CV.keep {b : Nat} {s s' : Store} {v : T} {xs : List D} (h : CV b s v xs) (hk : ∀ i, i < s.length → s'[i]? = s[i]?) : CV b s' v xs := by
  rcases h with h | ⟨n, e, hb, hn⟩
  · exact .inl h
  · exact .inr ⟨n, e, hb, by rw [hk n (List.getElem?_eq_some_iff.mp hn).1]; exact hn⟩
/-- the old cells stay -/
structure Keep (st s : Store) : Prop where
  len : st.length ≤ s.length
  old : ∀ i, i < st.length → s[i]? = st[i]?
theorem Keep.refl {st : Store} : Keep st st := ⟨Nat.le_refl _, fun _ _ => rfl⟩
theorem Keep.trans {a b c : Store} (h : Keep a b) (k : Keep b c) : Keep a c := ⟨Nat.le_trans h.len k.len, fun i hi => (k.old i (Nat.lt_of_lt_of_le hi h.len)).trans (h.old i hi)⟩
theorem Keep.new {st s : Store} {x : Cell} (h : Keep st s) : Keep st (s ++ [x]) := ⟨by rw [List.length_append]; have := h.len; omega, fun i hi => by rw [List.getElem?_append_left (by have := h.len; omega)]; exact h.old i hi⟩
theorem Keep.set {st s : Store} {n : Nat} {x : Cell} (h : Keep st s) (hn : st.length ≤ n) : Keep st (s.set n x) := ⟨by rw [List.length_set]; exact h.len, fun i hi => by rw [List.getElem?_set_ne (by omega)]; exact h.old i hi⟩
theorem Keep.take {st s : Store} (h : Keep st s) : s.take st.length = st := by
  apply List.ext_getElem?
  intro i
  by_cases hi : i < st.length
  · rw [List.getElem?_take_of_lt hi]; exact h.old i hi
  · rw [List.getElem?_eq_none (by rw [List.length_take]; omega), List.getElem?_eq_none (by omega)]
/-- a comprehension over such things, the store unchanged -/
theorem compC_pure {g : T → Store → Res (Option T)} {h : D → D} {n : Nat} {st : Store} {xs : List D} (hc : st[n]? = some (.lst (xs.map .d))) (hb : ∀ x ∈ xs, g (.d x) st = .ok (some (.d (h x))) st) : ∀ (k i : Nat), i + k = xs.length + 1 → i ≤ xs.length → compC g n false k i st = .ok (((xs.drop i).map h).map .d) st
  | 0, i, h1, h2 => by omega
  | k + 1, i, h1, h2 => by
    unfold compC
    rw [hc]
    dsimp only
    by_cases hi : i < xs.length
    · have e : (xs.map T.d)[i]? = some (.d xs[i]) := by simp [hi]
      rw [e]
      dsimp only
      have e2 : wrapE false i (T.d xs[i]) = .d xs[i] := rfl
      rw [e2, hb _ (List.getElem_mem hi)]
      simp only [Res.bind]
      rw [compC_pure hc hb k (i + 1) (by omega) (by omega)]
      simp only [Res.bind, consO]
      rw [List.drop_eq_getElem_cons hi]
      rfl
    · have e : (xs.map T.d)[i]? = none := by simp; omega
      rw [e, List.drop_eq_nil_of_le (by omega)]
      rfl
theorem src_compD {g : T → Store → Res (Option T)} {h : D → D} {src : Src} {st : Store} {xs : List D} {k : List T → Store → Prop} (hs : SrcIs st src (xs.map .d)) (hb : ∀ x ∈ xs, ∀ ko, (g (.d x) st).wp noX ko = ko (some (.d (h x))) st) : (loopSrc g src st).wp noX k = k ((xs.map h).map .d) st := by
  have gb : ∀ x ∈ xs, g (.d x) st = .ok (some (.d (h x))) st := fun x hx => by
    have := hb x hx fun o s => o = some (.d (h x)) ∧ s = st
    have t : (g (.d x) st).wp noX fun o s => o = some (.d (h x)) ∧ s = st := by rw [this]; exact ⟨rfl, rfl⟩
    obtain ⟨a, s, e, rfl, rfl⟩ := t.get
    exact e
  rcases hs with rfl | ⟨n, rfl, hn⟩
  · rw [ls_fz, compD hb]
  · have : loopSrc g (.cell n false) st = .ok ((xs.map h).map .d) st := by
      simp only [loopSrc, hn, List.length_map]
      rw [compC_pure hn gb _ 0 (by omega) (Nat.zero_le _)]
      rfl
    rw [this, wp_ok]
end MP

namespace Lw
open PySem MP Nt Et
def bD (b : Int × Int × Int) : MP.D := .tuple [.int b.1, .int b.2.1, .int b.2.2]
def gD (g : Int × Int) : MP.D := .tuple [.int g.1, .int g.2]
def iD (c : List Int) : List MP.D := c.map .int
def cD (c : List Int) : MP.D := .tuple (iD c)
abbrev Sta := List (Int × Int × Int) × List (Int × Int)
def sD (s : Sta) : MP.D := .tuple [.tuple (s.1.map bD), .tuple (s.2.map gD)]
def mn (i j : Int) : Int := if j < i then j else i
def rngF (w o : Int) (c : List Int) : List (List Int) := (List.range (mn o (w - c.sum) + 1).toNat).map fun (m : Nat) => c ++ [(m : Int)]
def ext1 (w o : Int) : List (List Int) → List (List Int) → Option (List (List Int))
  | [], acc => some acc
  | c :: cs, acc => if acc.length ≤ 5000 ∧ -1000 ≤ mn o (w - c.sum) ∧ mn o (w - c.sum) ≤ 1000 ∧ c.length ≤ 1000 then ext1 w o cs (acc ++ rngF w o c) else none
def chF (w : Int) : List (Int × Int) → List (List Int) → Option (List (List Int))
  | [], cs => some cs
  | g :: gs, cs => match ext1 w g.2 cs [] with
    | some cs' => chF w gs cs'
    | none => none
theorem ints_map : ∀ {c : List Int}, intsT? ((iD c).map T.d) = some c
  | [] => rfl
  | x :: c => by
    have := ints_map (c := c)
    unfold iD at this ⊢
    simp only [List.map_cons, intsT?, this]
    rfl
theorem q_sumT {c : List Int} : primV .sum [.tup ((iD c).map T.d)] = some (.t (.d (.int c.sum))) := by
  show (intsT? _).map (fun ns => tI ns.sum) = _
  rw [ints_map]
  rfl
theorem m_ext {s : Store} {xs ys : List MP.D} (h : xs.length + ys.length ≤ big) : methT s .extend (xs.map T.d) [.d (.list ys)] = some (.d .none, (xs ++ ys).map T.d) := by
  show (match view s (.d (.list ys)) with | .lst ys => if (xs.map T.d).length + ys.length ≤ big then some (T.d .none, xs.map T.d ++ ys) else none | _ => none) = _
  rw [v_list]
  dsimp only
  rw [List.length_map, List.length_map, if_pos h, List.map_append]
/-- a list that a call gives -/
def RvL (v : RV) (xs : List MP.D) : Prop := v = .t (.d (.list xs)) ∨ v = .new (xs.map .d)
theorem RvL.src {v : RV} {xs : List MP.D} {s : Store} (h : RvL v xs) : srcOf s v = some (.fz (xs.map .d)) := by
  rcases h with rfl | rfl
  · exact sr_l
  · exact sr_n
theorem RvL.set {v : RV} {xs : List MP.D} (h : RvL v xs) : v.settle = .d (.list xs) := by
  rcases h with rfl | rfl
  · rfl
  · rw [st_n, pu_map, mkL_some]
def hX (c : List Int) : MP.D → MP.D
  | .int m => cD (c ++ [m])
  | _ => .none
theorem hX_map {w o : Int} {c : List Int} : (iL 0 (mn o (w - c.sum) + 1).toNat).map (hX c) = (rngF w o c).map cD := by
  unfold iL rngF
  rw [List.map_map, List.map_map]
  apply List.map_congr_left
  intro m _
  show hX c (.int (0 + (m : Int))) = _
  rw [Int.zero_add]
  rfl
section
variable {n wf : Nat} {st : Store} {X : XC} {k : RV → Store → Prop} {w : Int}
theorem choices {gs : List (Int × Int)} {out : List (List Int)} (h : chF w gs [[]] = some out) : (callN tbl wf (n + 1) 2 [.d (.tuple (gs.map gD)), .d (.int w)] st).wp X fun v s => RvL v (out.map cD) ∧ s = st := by
  rw [wp_callN (d := d_choices_of) rfl rfl]
  unfold d_choices_of
  simp! only []
  refine forL_inv (fun ys env s => ∃ (gs' : List (Int × Int)) (cs : List (List Int)) (cv : T) (e3 e4 e5 e6 e7 : Option T), env = [some (.d (.tuple (gs.map gD))), some (.d (.int w)), some cv, e3, e4, e5, e6, e7] ∧ ys = (gs'.map gD).map .d ∧ Keep st s ∧ CV st.length s cv (cs.map cD) ∧ chF w gs' cs = some out) ⟨gs, [[]], _, _, _, _, _, _, rfl, rfl, .refl, .inl rfl, h⟩ ?_ ?_
  · rintro x ys env s ⟨gs', cs, cv, e3, e4, e5, e6, e7, rfl, hx, kp, hcv, hch⟩
    cases gs' with
    | nil => cases hx
    | cons g gs' =>
      obtain ⟨rfl, rfl⟩ := List.cons.inj hx
      obtain ⟨src, q1, q2, q3⟩ := (hcv.keep (s' := s ++ [.lst []]) (fun i hi => List.getElem?_append_left hi)).src
      unfold chF at hch
      cases he : ext1 w g.2 cs [] with
      | none => rw [he] at hch; cases hch
      | some cs' =>
        rw [he] at hch
        dsimp only at hch
        simp! only [gD, q1]
        refine src_inv q2 (fun zs env s' => ∃ (cr acc : List (List Int)) (e6 e7 : Option T), env = [some (.d (.tuple (gs.map gD))), some (.d (.int w)), some cv, some (.d (.int g.1)), some (.d (.int g.2)), some (.ref s.length), e6, e7] ∧ zs = (cr.map cD).map .d ∧ Keep s s' ∧ s'[s.length]? = some (.lst ((acc.map cD).map .d)) ∧ ext1 w g.2 cr acc = some cs') ⟨cs, [], _, _, rfl, rfl, Keep.refl.new, by simp, he⟩ ?_ ?_ ?_
        · rintro m hm zs env s' ⟨_, _, _, _, _, _, kq, _, _⟩
          obtain ⟨e1, e2⟩ := q3 m hm
          subst e1
          rcases hcv with z | ⟨m', e, _, hm'⟩
          · cases z
          · cases e
            have lt := (List.getElem?_eq_some_iff.mp hm').1
            rw [kq.old m lt, List.getElem?_append_left lt]
        · rintro x zs env s' ⟨cr, acc, f6, f7, rfl, hz, kq, hc, hex⟩
          cases cr with
          | nil => cases hz
          | cons c cr =>
            obtain ⟨rfl, rfl⟩ := List.cons.inj hz
            unfold ext1 at hex
            split at hex
            · rename_i hb
              have me : methT s' .extend ((acc.map cD).map T.d) [.d (.list ((rngF w g.2 c).map cD))] = some (.d .none, ((acc ++ rngF w g.2 c).map cD).map T.d) := by
                rw [m_ext (by simp [rngF, big]; omega), ← List.map_append]
              simp! only [cD, hc, q_sumT]
              rw [show (if w - c.sum < g.2 then w - c.sum else g.2) = mn g.2 (w - c.sum) from rfl, if_pos (by simp only [big]; omega)]
              simp! only [iL_eq]
              rw [compD (h := hX c) (fun y hy ko => by
                obtain ⟨i, rfl, i0, i1⟩ := iL_mem hy
                have ap : (iD c).map T.d ++ [T.d (PyData.int i)] = (iD (c ++ [i])).map T.d := by simp [iD]
                simp! only [sq_t, ap]
                rw [if_pos (by simp [iD, big]; omega)]
                simp! only [hX, cD]), hX_map]
              simp! only [hc, me, olds_map]
              have lt := (List.getElem?_eq_some_iff.mp hc).1
              exact ⟨cr, _, _, _, rfl, rfl, kq.set (Nat.le_refl _), List.getElem?_set_self lt, hex⟩
            · cases hex
        · rintro env s' ⟨cr, acc, f6, f7, rfl, hz, kq, hc, hex⟩
          have : cr = [] := by cases cr with | nil => rfl | cons => cases hz
          subst this
          have ea : acc = cs' := by unfold ext1 at hex; injection hex
          subst ea
          simp! only []
          exact ⟨gs', acc, _, _, _, _, _, _, rfl, rfl, kp.trans kq, .inr ⟨_, rfl, kp.len, hc⟩, hch⟩
  · rintro env s ⟨gs', cs, cv, e3, e4, e5, e6, e7, rfl, hx, kp, hcv, hch⟩
    have : gs' = [] := by cases gs' with | nil => rfl | cons => cases hx
    subst this
    have eo : cs = out := by unfold chF at hch; injection hch
    subst eo
    rcases hcv with rfl | ⟨m, rfl, hm, hc⟩
    · simp! only [kp.take]
      exact .inl rfl
    · simp! only [lv_c (show ¬ m < st.length by omega) hc olds_map, kp.take]
      exact .inr rfl
end
end Lw

namespace Lw
open PySem MP Nt Et
def stepF (k : Int) : List (Int × (Int × Int)) → List (Int × Int × Int) → List (Int × Int) → Sta
  | [], r, l => (r, l)
  | q :: z, r, l => stepF k z (if q.1 < q.2.2 then r ++ [(q.2.1, k - 1, q.2.2 - q.1)] else r) (if 0 < q.1 then l ++ [(q.2.1, q.1)] else l)
def oneGo (k w : Int) (e : List (Int × Int × Int)) (g : List (Int × Int)) (ch : List Int) : Sta :=
  ((stepF k (ch.zip g) e []).1, if ch.sum < w then (stepF k (ch.zip g) e []).2 ++ [(k, w - ch.sum)] else (stepF k (ch.zip g) e []).2)
def goF (k w : Int) (s : Sta) : Option (List Sta) := match chF w s.2 [[]] with
  | some chs => if chs.length ≤ 5000 ∧ s.1.length ≤ 1000 ∧ s.2.length ≤ 1000 then some (chs.map (oneGo k w s.1 s.2)) else none
  | none => none
def endF (last : Int) (s : Sta) : List (Int × Int × Int) := s.1 ++ s.2.map fun g => (g.1, last, g.2)
theorem zip_dd {xs ys : List MP.D} : zipT (xs.map .d) (ys.map .d) = ((xs.zip ys).map fun q => (.tuple [q.1, q.2] : MP.D)).map .d := by
  unfold zipT
  rw [List.zip_map, List.map_map, List.map_map]
  rfl
theorem zipD (s : Store) (xs ys : List MP.D) : zipS (seqRV s (.t (.d (.tuple xs)))) (seqRV s (.t (.d (.tuple ys)))) = some (.fz (((xs.zip ys).map fun q => (.tuple [q.1, q.2] : MP.D)).map .d)) := by
  show some (Src.fz (zipT (xs.map .d) (ys.map .d))) = _
  rw [zip_dd]
def qD (q : Int × (Int × Int)) : MP.D := .tuple [.int q.1, gD q.2]
theorem zip_q {c : List Int} {g : List (Int × Int)} : ((iD c).zip (g.map gD)).map (fun q => (.tuple [q.1, q.2] : MP.D)) = (c.zip g).map qD := by
  unfold iD
  rw [List.zip_map, List.map_map]
  rfl
theorem stepF_len {k : Int} : ∀ {z : List (Int × (Int × Int))} {r : List (Int × Int × Int)} {l : List (Int × Int)}, (stepF k z r l).1.length ≤ r.length + z.length ∧ (stepF k z r l).2.length ≤ l.length + z.length
  | [], r, l => ⟨Nat.le_refl _, Nat.le_refl _⟩
  | q :: z, r, l => by
    have := stepF_len (k := k) (z := z) (r := if q.1 < q.2.2 then r ++ [(q.2.1, k - 1, q.2.2 - q.1)] else r) (l := if 0 < q.1 then l ++ [(q.2.1, q.1)] else l)
    unfold stepF
    simp only [List.length_cons]
    refine ⟨Nat.le_trans this.1 ?_, Nat.le_trans this.2 ?_⟩
    · split <;> simp <;> omega
    · split <;> simp <;> omega
theorem m_appM {α : Type} {f : α → MP.D} {xs : List α} {a : α} {y : MP.D} {s : Store} (e : f a = y) (h : xs.length < 1000000) : methT s .append ((xs.map f).map T.d) [.d y] = some (.d .none, ((xs ++ [a]).map f).map T.d) := by
  subst e
  rw [m_app (by rw [List.length_map]; show _ < 16777216; omega), List.map_append (f := f)]
  rfl
section
variable {n wf : Nat} {st : Store} {X : XC} {k w : Int}
theorem gone {sta : Sta} {out : List Sta} (h : goF k w sta = some out) : (callN tbl wf (n + 2) 3 [.d (sD sta), .d (.int k), .d (.int w)] st).wp X fun v s => v = .new ((out.map sD).map .d) ∧ s = st := by
  unfold goF at h
  cases hch : chF w sta.2 [[]] with
  | none => rw [hch] at h; cases h
  | some chs =>
    rw [hch] at h
    dsimp only at h
    split at h
    · rename_i hb
      injection h with h
      rw [wp_callN (d := d_gone_on) rfl rfl]
      unfold d_gone_on
      simp! only [sD]
      refine (show (callN tbl wf (n + 1) 2 _ _).wp _ _ from (choices (n := n) hch).mono ?_)
      rintro v s ⟨hv, rfl⟩
      simp! only [hv.src]
      refine forL_inv (fun ys env s => ∃ (cr : List (List Int)) (acc : List Sta) (e4 e7 e8 e9 e10 e11 : Option T), env = [some (.d (sD sta)), some (.d (.int k)), some (.d (.int w)), some (.ref st.length), e4, some (.d (.tuple (sta.1.map bD))), some (.d (.tuple (sta.2.map gD))), e7, e8, e9, e10, e11] ∧
        ys = (cr.map cD).map .d ∧ Keep st s ∧ s[st.length]? = some (.lst ((acc.map sD).map .d)) ∧ acc.length + cr.length ≤ 5000 ∧ acc ++ cr.map (oneGo k w sta.1 sta.2) = out) ⟨chs, [], _, _, _, _, _, _, rfl, rfl, Keep.refl.new, by simp, by simpa using hb.1, by simpa using h⟩ ?_ ?_
      · rintro x ys env s ⟨cr, acc, e4, e7, e8, e9, e10, e11, rfl, hx, kp, hc, hl, hout⟩
        cases cr with
        | nil => cases hx
        | cons c cr =>
          obtain ⟨rfl, rfl⟩ := List.cons.inj hx
          have lt0 := (List.getElem?_eq_some_iff.mp hc).1
          simp! only [cD, olds_map, zipD, zip_q]
          have ls : (s ++ [Cell.lst ((sta.1.map bD).map T.d)]).length = s.length + 1 := by simp
          rw [ls]
          obtain ⟨s0, es0⟩ : ∃ s0, s0 = s ++ [Cell.lst ((sta.1.map bD).map T.d)] ++ [Cell.lst []] := ⟨_, rfl⟩
          have kp0 : Keep s s0 := by rw [es0]; exact Keep.refl.new.new
          have z7 : s0[s.length]? = some (.lst ((sta.1.map bD).map T.d)) := by rw [es0]; simp
          have z8 : s0[s.length + 1]? = some (.lst ((([] : List (Int × Int)).map gD).map T.d)) := by rw [es0]; simp
          rw [← es0]
          refine forL_inv (fun ys env s' => ∃ (z : List (Int × (Int × Int))) (r : List (Int × Int × Int)) (l : List (Int × Int)) (e9 e10 e11 : Option T), env = [some (.d (sD sta)), some (.d (.int k)), some (.d (.int w)), some (.ref st.length), some (.d (.tuple (iD c))), some (.d (.tuple (sta.1.map bD))), some (.d (.tuple (sta.2.map gD))), some (.ref s.length), some (.ref (s.length + 1)), e9, e10, e11] ∧
            ys = (z.map qD).map .d ∧ Keep s s' ∧ s'[s.length]? = some (.lst ((r.map bD).map .d)) ∧ s'[s.length + 1]? = some (.lst ((l.map gD).map .d)) ∧ r.length + z.length ≤ 3000 ∧ l.length + z.length ≤ 3000 ∧ stepF k z r l = stepF k (c.zip sta.2) sta.1 []) ⟨c.zip sta.2, sta.1, [], _, _, _, rfl, rfl, kp0, z7, z8, ?_, ?_, rfl⟩ ?_ ?_
          · rw [List.length_zip]; omega
          · rw [List.length_zip]; simp only [List.length_nil]; omega
          · rintro x ys env s' ⟨z, r, l, f9, f10, f11, rfl, hz, kq, h7, h8, lr, ll, hst⟩
            cases z with
            | nil => cases hz
            | cons q z =>
              obtain ⟨rfl, rfl⟩ := List.cons.inj hz
              simp only [List.length_cons] at lr ll
              have hst' : stepF k z (if q.1 < q.2.2 then r ++ [(q.2.1, k - 1, q.2.2 - q.1)] else r) (if 0 < q.1 then l ++ [(q.2.1, q.1)] else l) = stepF k (c.zip sta.2) sta.1 [] := hst
              have lt7 := (List.getElem?_eq_some_iff.mp h7).1
              have lt8 := (List.getElem?_eq_some_iff.mp h8).1
              have m7 : methT s' .append ((r.map bD).map T.d) [.d (.tuple [.int q.2.1, .int (k - 1), .int (q.2.2 - q.1)])] = some (.d .none, ((r ++ [(q.2.1, k - 1, q.2.2 - q.1)]).map bD).map .d) := m_appM rfl (by omega)
              have m8 : ∀ s'', methT s'' .append ((l.map gD).map T.d) [.d (.tuple [.int q.2.1, .int q.1])] = some (.d .none, ((l ++ [(q.2.1, q.1)]).map gD).map .d) := fun s'' => m_appM rfl (by omega)
              have ne : ∀ (s'' : Store) (x : Cell), (s''.set s.length x)[s.length + 1]? = s''[s.length + 1]? := fun s'' x => List.getElem?_set_ne (by omega)
              have ne' : ∀ (s'' : Store) (x : Cell), (s''.set (s.length + 1) x)[s.length]? = s''[s.length]? := fun s'' x => List.getElem?_set_ne (by omega)
              by_cases h1 : q.1 < q.2.2
              · rw [if_pos h1] at hst'
                by_cases h2 : 0 < q.1
                · rw [if_pos h2] at hst'
                  simp! only [qD, gD, decide_eq_true h1, decide_eq_true h2, h7, h8, m7, m8, ne, olds_map]
                  exact ⟨z, _, _, _, _, _, rfl, rfl, (kq.set (Nat.le_refl _)).set (Nat.le_succ _), by rw [ne', List.getElem?_set_self lt7], List.getElem?_set_self (by rw [List.length_set]; exact lt8), by simp; omega, by simp; omega, hst'⟩
                · rw [if_neg h2] at hst'
                  simp! only [qD, gD, decide_eq_true h1, decide_eq_false h2, h7, h8, m7, m8, ne, olds_map]
                  exact ⟨z, _, _, _, _, _, rfl, rfl, kq.set (Nat.le_refl _), List.getElem?_set_self lt7, by first | rfl | (rw [ne]; exact h8), by simp; omega, by omega, hst'⟩
              · rw [if_neg h1] at hst'
                by_cases h2 : 0 < q.1
                · rw [if_pos h2] at hst'
                  simp! only [qD, gD, decide_eq_false h1, decide_eq_true h2, h7, h8, m7, m8, ne, olds_map]
                  exact ⟨z, _, _, _, _, _, rfl, rfl, kq.set (Nat.le_succ _), by first | rfl | (rw [ne']; exact h7), List.getElem?_set_self lt8, by omega, by simp; omega, hst'⟩
                · rw [if_neg h2] at hst'
                  simp! only [qD, gD, decide_eq_false h1, decide_eq_false h2]
                  exact ⟨z, _, _, _, _, _, rfl, rfl, kq, h7, h8, by omega, by omega, hst'⟩
          · rintro env s' ⟨z, r, l, f9, f10, f11, rfl, hz, kq, h7, h8, lr, ll, hst⟩
            have : z = [] := by cases z with | nil => rfl | cons => cases hz
            subst this
            have hst' : (r, l) = stepF k (c.zip sta.2) sta.1 [] := hst
            have lt8 := (List.getElem?_eq_some_iff.mp h8).1
            have hc' : s'[st.length]? = some (.lst ((acc.map sD).map .d)) := by rw [kq.old _ lt0]; exact hc
            have m8 : methT s' .append ((l.map gD).map T.d) [.d (.tuple [.int k, .int (w - c.sum)])] = some (.d .none, ((l ++ [(k, w - c.sum)]).map gD).map .d) := m_appM rfl (by omega)
            simp only [List.length_cons] at hl
            have m3 : ∀ (s'' : Store) (u : Sta), methT s'' .append ((acc.map sD).map T.d) [.d (.tuple [.tuple (u.1.map bD), .tuple (u.2.map gD)])] = some (.d .none, ((acc ++ [u]).map sD).map .d) := fun s'' u => m_appM rfl (by omega)
            have ne1 : ∀ (s'' : Store) (x : Cell), (s''.set (s.length + 1) x)[s.length]? = s''[s.length]? := fun s'' x => List.getElem?_set_ne (by omega)
            have ne2 : ∀ (s'' : Store) (x : Cell), (s''.set (s.length + 1) x)[st.length]? = s''[st.length]? := fun s'' x => List.getElem?_set_ne (by omega)
            have e1 : r = (stepF k (c.zip sta.2) sta.1 []).1 := by rw [← hst']
            have e2 : l = (stepF k (c.zip sta.2) sta.1 []).2 := by rw [← hst']
            have kst : Keep st s' := kp.trans kq
            by_cases h3 : c.sum < w
            · have s8 : (s'.set (s.length + 1) (.lst (((l ++ [(k, w - c.sum)]).map gD).map T.d)))[s.length + 1]? = some (.lst (((l ++ [(k, w - c.sum)]).map gD).map T.d)) := List.getElem?_set_self lt8
              have s7 : (s'.set (s.length + 1) (.lst (((l ++ [(k, w - c.sum)]).map gD).map T.d)))[s.length]? = some (.lst ((r.map bD).map T.d)) := by rw [ne1]; exact h7
              have m3' := fun s'' => m3 s'' (r, l ++ [(k, w - c.sum)])
              dsimp only at m3'
              simp! only [q_sumT, decide_eq_true h3, h8, m8, olds_map, ne2, hc', v_ref s8, v_ref s7, m3']
              refine ⟨cr, _, _, _, _, _, _, _, rfl, rfl, (kst.set (by have := kp.len; omega)).set (Nat.le_refl _), List.getElem?_set_self (by rw [List.length_set]; have := kq.len; omega), by simp only [List.length_append, List.length_cons, List.length_nil]; omega, ?_⟩
              have eo : oneGo k w sta.1 sta.2 c = (r, l ++ [(k, w - c.sum)]) := by
                unfold oneGo
                rw [if_pos h3, ← hst']
              rw [← hout, List.map_cons, eo, List.append_assoc]
              rfl
            · have m3' := fun s'' => m3 s'' (r, l)
              dsimp only at m3'
              simp! only [q_sumT, decide_eq_false h3, hc', v_ref h8, v_ref h7, m3', olds_map]
              refine ⟨cr, _, _, _, _, _, _, _, rfl, rfl, kst.set (Nat.le_refl _), List.getElem?_set_self (by have := kq.len; omega), by simp only [List.length_append, List.length_cons, List.length_nil]; omega, ?_⟩
              have eo : oneGo k w sta.1 sta.2 c = (r, l) := by
                unfold oneGo
                rw [if_neg h3, ← hst']
              rw [← hout, List.map_cons, eo, List.append_assoc]
              rfl
      · rintro env s ⟨cr, acc, e4, e7, e8, e9, e10, e11, rfl, hx, kp, hc, hl, hout⟩
        have : cr = [] := by cases cr with | nil => rfl | cons => cases hx
        subst this
        rw [List.map_nil, List.append_nil] at hout
        subst hout
        simp! only [lv_c (Nat.lt_irrefl st.length) hc olds_map, kp.take]
    · cases h
end
end Lw

namespace Lw
open PySem MP Nt Et
/-! ### sorted -/
theorem has_b {b : Int × Int × Int} : NO.has (.l .i) (bD b) = true := by
  simp [bD, NO.has_tup, NO.hasC_cons, NO.hasC_nil, NO.has_int]
theorem sh_b {b : Int × Int × Int} : NO.shOf (bD b) = .l .i := rfl
theorem one_b : ∀ bs : List (Int × Int × Int), NO.oneSh (bs.map bD) = true
  | [] => rfl
  | [b] => by
    show NO.has (NO.shOf (bD b)) (bD b) = true
    rw [sh_b]
    exact has_b
  | b :: b' :: bs => by
    show ((b :: b' :: bs).map bD).all (fun z => NO.neT z && NO.has (NO.shOf (bD b)) z) = true
    rw [List.all_eq_true]
    intro z hz
    obtain ⟨u, _, rfl⟩ := List.mem_map.mp hz
    rw [sh_b, has_b]
    rfl
theorem sort_b : ∀ bs : List (Int × Int × Int), sortV ((bs.map bD).map T.d) = some (.new ((NO.sortD (bs.map bD)).map T.d))
  | [] => rfl
  | b :: bs => by
    have e1 : intsT? (((b :: bs).map bD).map T.d) = none := rfl
    have e2 : sortOk ((b :: bs).map bD) = true := by
      unfold sortOk
      rw [one_b, Bool.true_and, List.all_eq_true]
      intro z hz
      obtain ⟨u, _, rfl⟩ := List.mem_map.mp hz
      exact decide_eq_true (by simp [bD, PyData.depth, PyData.depthAll])
    unfold sortV
    rw [e1]
    dsimp only
    rw [pu_map]
    show (if sortOk _ then _ else none) = _
    rw [e2]
    rfl
theorem sort_t {hs : List MP.D} (h : sortOk hs = true) (ht : ∃ ys r, hs = .tuple ys :: r) : sortV (hs.map T.d) = some (.new ((NO.sortD hs).map T.d)) := by
  obtain ⟨ys, r, rfl⟩ := ht
  have e1 : intsT? ((PyData.tuple ys :: r).map T.d) = none := rfl
  unfold sortV
  rw [e1]
  dsimp only
  rw [pu_map]
  show (if sortOk _ then _ else none) = _
  rw [h]
  rfl
theorem q_sortT {ts : List T} : primV .sorted [.tup ts] = sortV ts := rfl
theorem q_sortL {ts : List T} : primV .sorted [.lst ts] = sortV ts := rfl
def heapD (last : Int) (s : Sta) : MP.D := .tuple (NO.sortD ((endF last s).map bD))
def hE (last : Int) : MP.D → MP.D
  | .tuple [a, b] => .tuple [a, .int last, b]
  | _ => .none
theorem hE_map {last : Int} {g : List (Int × Int)} : (g.map gD).map (hE last) = (g.map fun q => (q.1, last, q.2)).map bD := by
  rw [List.map_map, List.map_map]
  rfl
section
variable {n wf : Nat} {st : Store} {X : XC} {k : RV → Store → Prop} {w last : Int}
theorem ended {s : Sta} (h1 : s.1.length ≤ 3000) (h2 : s.2.length ≤ 3000) : (callN tbl wf (n + 1) 4 [.d (sD s), .d (.int last)] st).wp X k = k (.t (.d (heapD last s))) st := by
  rw [wp_callN (d := d_all_ended) rfl rfl]
  unfold d_all_ended
  simp! only [sD]
  rw [compD (h := hE last) (fun y hy ko => by
    obtain ⟨g, hg, rfl⟩ := List.mem_map.mp hy
    simp! only [gD, hE]), hE_map]
  simp! only []
  rw [b_addT (by simp [big]; omega), ← List.map_append, ← List.map_append]
  simp! only [q_sortT, sort_b]
  rw [show s.1 ++ s.2.map (fun q => (q.1, last, q.2)) = endF last s from rfl]
  simp! only [heapD, List.take_length]
/-! ### what widths are -/
def widthB (y : MP.D) : Bool := isNum y 0 8
def widthsB (y : MP.D) : Bool := match y with
  | .tuple ys => decide ((1 : Int) ≤ ys.length) && decide ((ys.length : Int) ≤ 17) && ys.all widthB
  | _ => false
theorem count {y : MP.D} {lo hi : Int} : (callN tbl wf (n + 1) 0 [.d y, .d (.int lo), .d (.int hi)] st).wp X k = k (.t (.d (.bool (isNum y lo hi)))) st := by
  have := c_count (tbl := tbl) (jx := ({} : Jx)) (n := n) (wf := wf) (st := st) (X := X) (k := k) (x := .d y) (lo := lo) (hi := hi) rfl .d
  exact this
theorem widths {y : MP.D} : (callN tbl wf (n + 2) 1 [.d y] st).wp X k = k (.t (.d (.bool (widthsB y)))) st := by
  rw [wp_callN (d := d_are_widths) rfl rfl]
  unfold d_are_widths
  by_cases hy : ∃ ys, y = .tuple ys
  · obtain ⟨ys, rfl⟩ := hy
    by_cases h1 : (1 : Int) ≤ ys.length
    · cases h2 : decide ((ys.length : Int) ≤ 17) with
      | false =>
        have e : widthsB (.tuple ys) = false := by
          show (decide ((1 : Int) ≤ ys.length) && decide ((ys.length : Int) ≤ 17) && _) = false
          rw [h2]; simp
        simp! only [isi_t, decide_eq_true h1, h2, List.take_length, e]
      | true =>
        have e : widthsB (.tuple ys) = ys.all widthB := by
          show (decide ((1 : Int) ≤ ys.length) && decide ((ys.length : Int) ≤ 17) && ys.all widthB) = _
          rw [h2, decide_eq_true h1]; rfl
        simp! only [isi_t, decide_eq_true h1, h2]
        rw [compD (h := fun y => .bool (widthB y)) (fun y hy ko => by simp! only [count, widthB])]
        simp! only [q_all, List.take_length, e]
    · have e : widthsB (.tuple ys) = false := by
        show (decide ((1 : Int) ≤ ys.length) && _ && _) = false
        rw [decide_eq_false h1]; rfl
      simp! only [isi_t, decide_eq_false h1, List.take_length, e]
  · have e : widthsB y = false := by
      cases y with
      | tuple ys => exact absurd ⟨_, rfl⟩ hy
      | _ => rfl
    simp! only [isi_D, not_tup fun xs e => hy ⟨xs, e⟩, List.take_length, e]
end
/-! ### all heaps with widths -/
inductive Out where
  | ok (l : List Sta)
  | many
  | bad
def longF (k w : Int) : List Sta → List Sta → Out
  | [], acc => .ok acc
  | s :: ss, acc => match goF k w s with
    | none => .bad
    | some out => if 5000 < out.length then .bad else if 1000 < (acc ++ out).length then .many else longF k w ss (acc ++ out)
def statesF : Int → List Int → List Sta → Out
  | _, [], sts => .ok sts
  | k, w :: ws, sts => match longF k w sts [] with
    | .ok l => statesF (k + 1) ws l
    | .many => .many
    | .bad => .bad
def startF (ws : List Int) : List Sta := [([], if 0 < ws.headD 0 then [(0, ws.headD 0)] else [])]
def heapsF (ws : List Int) : Out := statesF 1 ws.tail (startF ws)
def lastF (ws : List Int) : Int := (ws.length : Int) - 1
def okS (s : Sta) : Bool := decide (s.1.length ≤ 3000) && decide (s.2.length ≤ 3000)
def heapsD (ws : List Int) (sts : List Sta) : List MP.D := NO.sortD (sts.map (heapD (lastF ws)))
def unI : MP.D → Int
  | .int i => i
  | _ => 0
def unB : MP.D → Int × Int × Int
  | .tuple [a, b, c] => (unI a, unI b, unI c)
  | _ => (0, 0, 0)
def unG : MP.D → Int × Int
  | .tuple [a, b] => (unI a, unI b)
  | _ => (0, 0)
def unS : MP.D → Sta
  | .tuple [.tuple es, .tuple gs] => (es.map unB, gs.map unG)
  | _ => ([], [])
theorem unS_eq {s : Sta} : unS (sD s) = s := by
  show ((s.1.map bD).map unB, (s.2.map gD).map unG) = s
  rw [List.map_map, List.map_map]
  have e1 : (unB ∘ bD) = id := rfl
  have e2 : (unG ∘ gD) = id := rfl
  rw [e1, e2, List.map_id, List.map_id]
def hH (last : Int) (y : MP.D) : MP.D := heapD last (unS y)
section
variable {n wf : Nat} {st : Store} {X : XC} {k : RV → Store → Prop}
theorem heaps_no {y : MP.D} (h : widthsB y = false) : (callN tbl wf (n + 3) 5 [.d y] st).wp X k = X 9 (.d y) st := by
  rw [wp_callN (d := d_heaps_with) rfl rfl]
  unfold d_heaps_with
  have A := fun (X : XC) (k : RV → Store → Prop) => show (callN tbl wf (n + 2) 1 [.d y] st).wp X k = _ from widths
  simp! only [A, h]
  rw [List.take_length]
theorem atI {es : List Int} {i : Nat} (h : i < es.length) : atD (iD es) (i : Nat) = some (.int (es.getD i 0)) := at_map h
theorem atI0 {e : Int} {es : List Int} : atD (iD (e :: es)) 0 = some (.int e) := atI (i := 0) (by simp)
theorem iL_succ {lo : Int} {n : Nat} : iL lo (n + 1) = .int lo :: iL (lo + 1) n := by
  unfold iL
  rw [List.range_succ_eq_map, List.map_cons, List.map_map]
  congr 1
  · simp
  · apply List.map_congr_left
    intro i _
    show PyData.int (lo + ((i + 1 : Nat) : Int)) = .int (lo + 1 + (i : Nat))
    rw [show lo + ((i + 1 : Nat) : Int) = lo + 1 + (i : Nat) by omega]
theorem longF_bad {a b : Int} {l : List Int} {s : List Sta} (h : statesF a (b :: l) s ≠ .bad) : longF a b s [] ≠ .bad := fun e => by
  unfold statesF at h
  rw [e] at h
  exact h rfl
/-- what is wanted of a run -/
def Want (ws : List Int) (X : XC) (k : RV → Store → Prop) (st : Store) : Out → Prop
  | .ok sts => sts.all okS = true ∧ sortOk (sts.map (heapD (lastF ws))) = true ∧ sts ≠ [] ∧ k (.new ((heapsD ws sts).map .d)) st
  | .many => X 10 (.d (.int 1000)) st
  | .bad => False
theorem heaps {ws : List Int} (hw : widthsB (cD ws) = true) (h : Want ws X k st (heapsF ws)) : (callN tbl wf (n + 3) 5 [.d (cD ws)] st).wp X k := by
  obtain ⟨rest, hr⟩ : ∃ rest, rest = d_heaps_with.body.drop 2 := ⟨_, rfl⟩
  have hd : tbl[5]? = some ⟨1, 5, d_heaps_with.body.take 2 ++ rest⟩ := by rw [hr]; rfl
  rw [wp_callN hd rfl]
  have A := fun (X : XC) (k : RV → Store → Prop) => show (callN tbl wf (n + 2) 1 [.d (cD ws)] st).wp X k = _ from widths
  obtain ⟨l1, l2⟩ : 1 ≤ ws.length ∧ ws.length ≤ 17 := by
    have : (decide ((1 : Int) ≤ (iD ws).length) && decide (((iD ws).length : Int) ≤ 17) && (iD ws).all widthB) = true := hw
    simp only [Bool.and_eq_true, decide_eq_true_eq, iD, List.length_map] at this
    omega
  obtain ⟨w0, wr, rfl⟩ : ∃ w0 wr, ws = w0 :: wr := by cases ws with | nil => simp at l1 | cons a b => exact ⟨a, b, rfl⟩
  have il : (iD (w0 :: wr)).length = wr.length + 1 := by simp [iD]
  simp only [List.length_cons] at l1 l2
  have nb : heapsF (w0 :: wr) ≠ .bad := fun e => by rw [e] at h; exact h
  have A' := fun (X : XC) (k : RV → Store → Prop) => show (callN tbl wf (n + 2) 1 [.d (.tuple (iD (w0 :: wr)))] st).wp X k = _ from A X k
  -- behind the first state
  have body : ∀ (cv : T), cv = .d (.list ((startF (w0 :: wr)).map sD)) → ∀ (e2 e3 e4 : Option T), (MP.execs (callN tbl wf (n + 2)) wf (d_heaps_with.body.drop 2) [some (.d (.tuple (iD (w0 :: wr)))), some cv, e2, e3, e4] st).wp (finX st.length X) (finK st.length X k) := by
    intro cv hcv e2 e3 e4
    unfold d_heaps_with
    simp only [List.drop]
    simp! only [il]
    rw [if_pos (by simp only [big]; omega)]
    simp! only [iL_eq]
    refine forL_inv (fun ys env s => ∃ (i : Nat) (cv : T) (sts : List Sta) (e2 e3 e4 : Option T), env = [some (.d (.tuple (iD (w0 :: wr)))), some cv, e2, e3, e4] ∧ i ≤ wr.length ∧ ys = (iL (1 + (i : Nat)) (wr.length - i)).map .d ∧ Keep st s ∧ CV st.length s cv (sts.map sD) ∧ statesF (1 + (i : Nat)) (wr.drop i) sts = heapsF (w0 :: wr)) ⟨0, cv, startF (w0 :: wr), _, _, _, rfl, Nat.zero_le _, ?_, .refl, .inl hcv, rfl⟩ ?_ ?_
    · rw [show (((wr.length + 1 : Nat) : Int) - 1).toNat = wr.length - 0 by omega]
      simp
    · rintro x ys env s ⟨i, cv, sts, f2, f3, f4, rfl, hi, hx, kp, hcv, hst⟩
      have hlt : i < wr.length := by
        rcases Nat.lt_or_ge i wr.length with h | h
        · exact h
        · rw [show wr.length - i = 0 by omega] at hx
          cases hx
      obtain ⟨m, hm⟩ : ∃ m, wr.length - i = m + 1 := ⟨wr.length - i - 1, by omega⟩
      rw [hm, iL_succ] at hx
      obtain ⟨rfl, rfl⟩ := List.cons.inj hx
      have ed : wr.drop i = wr.getD i 0 :: wr.drop (i + 1) := by
        rw [List.drop_eq_getElem_cons hlt, List.getD_eq_getElem?_getD, List.getElem?_eq_getElem hlt]
        rfl
      rw [ed] at hst
      have hix : atD (iD (w0 :: wr)) (1 + (i : Nat)) = some (.int (wr.getD i 0)) := by
        have := atI (es := w0 :: wr) (i := i + 1) (by simp; omega)
        rw [show ((i + 1 : Nat) : Int) = 1 + (i : Nat) by omega] at this
        rw [this]
        simp
      obtain ⟨src, q1, q2, q3⟩ := (hcv.keep (s' := s ++ [.lst []]) (fun i hi => List.getElem?_append_left hi)).src
      have lb : longF (1 + (i : Nat)) (wr.getD i 0) sts [] ≠ .bad := longF_bad (by rw [hst]; exact nb)
      simp! only [q1]
      refine src_inv q2 (fun zs env s' => ∃ (sr acc : List Sta) (e4 : Option T), env = [some (.d (.tuple (iD (w0 :: wr)))), some cv, some (.d (.int (1 + (i : Nat)))), some (.ref s.length), e4] ∧ zs = (sr.map sD).map .d ∧ Keep s s' ∧ s'[s.length]? = some (.lst ((acc.map sD).map .d)) ∧ acc.length ≤ 1000 ∧
        longF (1 + (i : Nat)) (wr.getD i 0) sr acc = longF (1 + (i : Nat)) (wr.getD i 0) sts []) ⟨sts, [], _, rfl, rfl, Keep.refl.new, by simp, by simp, rfl⟩ ?_ ?_ ?_
      · rintro m hm zs env s' ⟨_, _, _, _, _, kq, _, _, _⟩
        obtain ⟨e1, e2⟩ := q3 m hm
        subst e1
        rcases hcv with z | ⟨m', e, _, hm'⟩
        · cases z
        · cases e
          have lt := (List.getElem?_eq_some_iff.mp hm').1
          rw [kq.old m lt, List.getElem?_append_left lt]
      · rintro x zs env s' ⟨sr, acc, f4, rfl, hz, kq, hc, hl, hlo⟩
        cases sr with
        | nil => cases hz
        | cons sa sr =>
          obtain ⟨rfl, rfl⟩ := List.cons.inj hz
          cases hg : goF (1 + (i : Nat)) (wr.getD i 0) sa with
          | none =>
            have hb : longF (1 + (i : Nat)) (wr.getD i 0) (sa :: sr) acc = .bad := by simp only [longF, hg]
            exact absurd (hlo.symm.trans hb) lb
          | some out =>
            have hlo' : (if 5000 < out.length then Out.bad else if 1000 < (acc ++ out).length then .many else longF (1 + (i : Nat)) (wr.getD i 0) sr (acc ++ out)) = longF (1 + (i : Nat)) (wr.getD i 0) sts [] := by
              rw [← hlo]
              conv => rhs; unfold longF
              rw [hg]
            by_cases h5 : 5000 < out.length
            · rw [if_pos h5] at hlo'
              exact absurd hlo'.symm lb
            · rw [if_neg h5] at hlo'
              have lt := (List.getElem?_eq_some_iff.mp hc).1
              simp! only [hc, hix]
              refine (show (callN tbl wf (n + 2) 3 _ _).wp _ _ from (gone (n := n) hg).mono ?_)
              rintro v s2 ⟨rfl, rfl⟩
              have me : methT s2 .extend ((acc.map sD).map T.d) [.d (.list (out.map sD))] = some (.d .none, ((acc ++ out).map sD).map T.d) := by
                rw [m_ext (by simp [big]; omega), ← List.map_append]
              have sc : (s2.set s.length (.lst (((acc ++ out).map sD).map T.d)))[s.length]? = some (.lst (((acc ++ out).map sD).map T.d)) := List.getElem?_set_self lt
              by_cases h1 : 1000 < (acc ++ out).length
              · rw [if_pos h1] at hlo'
                have hm : heapsF (w0 :: wr) = .many := by
                  rw [← hst]
                  unfold statesF
                  rw [← hlo']
                rw [hm] at h
                simp! only [hc, me, olds_map, v_ref sc, decide_eq_true (show (1000 : Int) < ((acc ++ out).length : Nat) by omega)]
                rw [((kp.trans kq).set (by have := kp.len; omega)).take]
                exact h
              · rw [if_neg h1] at hlo'
                simp! only [hc, me, olds_map, v_ref sc, decide_eq_false (show ¬ (1000 : Int) < ((acc ++ out).length : Nat) by omega)]
                exact ⟨sr, acc ++ out, _, rfl, rfl, kq.set (Nat.le_refl _), sc, by omega, hlo'⟩
      · rintro env s' ⟨sr, acc, f4, rfl, hz, kq, hc, hl, hlo⟩
        have : sr = [] := by cases sr with | nil => rfl | cons => cases hz
        subst this
        have hlo' : Out.ok acc = longF (1 + (i : Nat)) (wr.getD i 0) sts [] := hlo
        simp! only []
        refine ⟨i + 1, _, acc, _, _, _, rfl, hlt, ?_, kp.trans kq, .inr ⟨_, rfl, kp.len, hc⟩, ?_⟩
        · rw [show wr.length - (i + 1) = m by omega, show 1 + ((i + 1 : Nat) : Int) = 1 + (i : Int) + 1 by omega]
        · rw [← hst, show 1 + ((i + 1 : Nat) : Int) = 1 + (i : Int) + 1 by omega]
          conv => rhs; unfold statesF
          rw [← hlo']
    · rintro env s ⟨i, cv, sts, f2, f3, f4, rfl, hi, hx, kp, hcv, hst⟩
      have hlt : i = wr.length := by
        rcases Nat.lt_or_ge i wr.length with h | h
        · obtain ⟨m, hm⟩ : ∃ m, wr.length - i = m + 1 := ⟨wr.length - i - 1, by omega⟩
          rw [hm, iL_succ] at hx
          cases hx
        · omega
      subst hlt
      rw [List.drop_length] at hst
      have hst' : Out.ok sts = heapsF (w0 :: wr) := hst
      rw [← hst'] at h
      obtain ⟨g1, g2, g3, g4⟩ := h
      obtain ⟨src, q1, q2, q3⟩ := hcv.src
      have la : (((wr.length + 1 : Nat) : Int) - 1) = lastF (w0 :: wr) := by simp [lastF]
      simp! only [q1]
      rw [src_compD (h := hH (lastF (w0 :: wr))) q2 (fun y hy ko => by
        obtain ⟨sa, hs, rfl⟩ := List.mem_map.mp hy
        have ok := List.all_eq_true.mp g1 sa hs
        unfold okS at ok
        simp only [Bool.and_eq_true, decide_eq_true_eq] at ok
        have E := fun (st : Store) (X : XC) (k : RV → Store → Prop) => show (callN tbl wf (n + 2) 4 [.d (sD sa), .d (.int (lastF (w0 :: wr)))] st).wp X k = _ from ended (n := n + 1) ok.1 ok.2
        have eh : hH (lastF (w0 :: wr)) (sD sa) = heapD (lastF (w0 :: wr)) sa := by unfold hH; rw [unS_eq]
        simp! only [il, la, E, eh])]
      have em : (sts.map sD).map (hH (lastF (w0 :: wr))) = sts.map (heapD (lastF (w0 :: wr))) := by
        rw [List.map_map]
        apply List.map_congr_left
        intro sa _
        show heapD _ (unS (sD sa)) = _
        rw [unS_eq]
      rw [em]
      have ne : ∃ ys r, sts.map (heapD (lastF (w0 :: wr))) = .tuple ys :: r := by
        cases sts with
        | nil => exact absurd rfl g3
        | cons a r => exact ⟨_, _, rfl⟩
      simp! only [q_sortL, sort_t g2 ne, olds_map, kp.take]
      exact g4
  have hw' : widthsB (.tuple (iD (w0 :: wr))) = true := hw
  unfold d_heaps_with
  simp only [List.take, List.cons_append, List.nil_append]
  by_cases hw0 : 0 < w0
  · have es : startF (w0 :: wr) = [([], [(0, w0)])] := by
      show [(([] : List (Int × Int × Int)), if 0 < w0 then [(0, w0)] else [])] = _
      rw [if_pos hw0]
    rw [es] at body
    simp! only [A', hw', cD, atI0, decide_eq_true hw0]
    rw [hr]
    exact body _ rfl _ _ _
  · have es : startF (w0 :: wr) = [([], [])] := by
      show [(([] : List (Int × Int × Int)), if 0 < w0 then [(0, w0)] else [])] = _
      rw [if_neg hw0]
    rw [es] at body
    simp! only [A', hw', cD, atI0, decide_eq_false hw0]
    rw [hr]
    exact body _ rfl _ _ _
end
end Lw

namespace Lw
open PySem MP Nt Et
abbrev Lot := List (Int × Int × Int) × List Int
def lD (u : Lot) : MP.D := .tuple [.tuple (u.1.map bD), .tuple (iD u.2)]
def pD (q : Nat × Nat) : MP.D := .tuple [.int q.1, .int q.2]
def strA (m : Nat) : Nat → List (Nat × Nat)
  | 0 => []
  | i + 1 => strA m i ++ (List.range (m - i)).map fun j => (i, i + j)
def onI (f l k : Nat) : Int := if f ≤ k ∧ k ≤ l then 1 else 0
def moreF (m f l : Nat) (left : List Int) (o : Int) : List Int := (List.range m).map fun k => left.getD k 0 - o * onI f l k
def onF (m f l : Nat) (u : Lot) (o : Int) : List Lot :=
  if l + 1 < m ∨ (moreF m f l u.2 o).getD f 0 = 0 then [(if 0 < o then u.1 ++ [((f : Int), (l : Int), o)] else u.1, moreF m f l u.2 o)] else []
def cutI (left : List Int) (f l : Nat) : List Int := (left.drop f).take (l + 1 - f)
def oftF (m f l : Nat) (u : Lot) : Int → Nat → List Lot → List Lot
  | _, 0, acc => acc
  | o, n + 1, acc => oftF m f l u (o + 1) n (acc ++ onF m f l u o)
def lotsF (m f l : Nat) : List Lot → List Lot → Option (List Lot)
  | [], acc => some acc
  | u :: us, acc => if u.2.length = m ∧ f ≤ l ∧ l < m ∧ m ≤ 17 ∧ u.1.length ≤ 1000 ∧ acc.length ≤ 100000 ∧ (u.2.all fun z => decide (z.natAbs ≤ 1000)) = true then lotsF m f l us (oftF m f l u 0 (minI (cutI u.2 f l) + 1).toNat acc) else none
def allF (m : Nat) : List (Nat × Nat) → List Lot → Option (List Lot)
  | [], us => some us
  | q :: qs, us => match lotsF m q.1 q.2 us [] with
    | some us' => allF m qs us'
    | none => none
def lawF (ws : List Int) : Option (List Lot) := allF ws.length (strA ws.length ws.length) [([], ws)]
def lawD (us : List Lot) : List MP.D := NO.sortD (us.map fun u => .tuple (u.1.map bD))
theorem q_minT {c : List Int} (h : c ≠ []) : primV .min [.tup ((iD c).map T.d)] = some (.t (.d (.int (minI c)))) := by
  show (intsT? _).bind (fun ns => if ns.isEmpty then none else some (tI (minI ns))) = _
  rw [ints_map]
  cases c with
  | nil => exact absurd rfl h
  | cons a b => rfl
theorem minI_mem : ∀ {c : List Int}, c ≠ [] → minI c ∈ c
  | [], h => absurd rfl h
  | [x], _ => by simp [minI]
  | x :: y :: r, _ => by
    have h1 := minI_mem (c := y :: r) (by simp)
    have e : minI (x :: y :: r) = if minI (y :: r) < x then minI (y :: r) else x := rfl
    rw [e]
    split
    · exact List.mem_cons_of_mem _ h1
    · exact List.mem_cons_self
theorem q_intB {e : Bool} : primV .int [.dat (.bool e)] = some (.t (.d (.int (b2i e)))) := rfl
theorem b2iT : b2i true = 1 := rfl
theorem b2iF : b2i false = 0 := rfl
theorem rp1 {x : T} : repT [x] 1 = [x] := rfl
theorem rp0 {x : T} : repT [x] 0 = [] := rfl
theorem cut_mid {xs : List MP.D} {f g : Nat} (h1 : f ≤ xs.length) (h2 : g ≤ xs.length) : cutD xs (some (f : Nat)) (some (g : Nat)) = (xs.drop f).take (g - f) := by
  unfold cutD sIx
  simp only [if_neg (show ¬ ((f : Int) < 0) by omega), if_neg (show ¬ ((g : Int) < 0) by omega)]
  rw [show (min (f : Int) (xs.length : Int)).toNat = f by omega, show (min (g : Int) (xs.length : Int)).toNat = g by omega]
theorem cut_iD {left : List Int} {f l : Nat} (h1 : f ≤ l) (h2 : l < left.length) : cutD (iD left) (some (f : Nat)) (some ((l : Nat) + 1)) = iD (cutI left f l) := by
  have := cut_mid (xs := iD left) (f := f) (g := l + 1) (by simp [iD]; omega) (by simp [iD]; omega)
  rw [show ((l + 1 : Nat) : Int) = (l : Nat) + 1 by omega] at this
  rw [this]
  simp [iD, cutI]
theorem cut_ne {left : List Int} {f l : Nat} (h1 : f ≤ l) (h2 : l < left.length) : cutI left f l ≠ [] := by
  intro e
  have := congrArg List.length e
  simp [cutI] at this
  omega
def hP (i : Nat) : MP.D → MP.D
  | .int l => .tuple [.int (i : Nat), .int l]
  | _ => .none
theorem hP_map {i m : Nat} : (iL (i : Nat) (m - i)).map (hP i) = ((List.range (m - i)).map fun j => (i, i + j)).map pD := by
  unfold iL
  rw [List.map_map, List.map_map]
  apply List.map_congr_left
  intro j _
  show PyData.tuple [.int (i : Nat), .int ((i : Int) + (j : Nat))] = .tuple [.int (i : Nat), .int ((i + j : Nat) : Int)]
  rw [Int.natCast_add]
def hK (f l : Nat) (left : List Int) (o : Int) : MP.D → MP.D
  | .int k => .int (left.getD k.toNat 0 - o * onI f l k.toNat)
  | _ => .none
theorem hK_map {m f l : Nat} {left : List Int} {o : Int} : (iL 0 m).map (hK f l left o) = iD (moreF m f l left o) := by
  unfold iL iD moreF
  rw [List.map_map, List.map_map]
  apply List.map_congr_left
  intro k _
  show PyData.int (left.getD (0 + (k : Int)).toNat 0 - o * onI f l (0 + (k : Int)).toNat) = _
  rw [Int.zero_add, Int.toNat_natCast]
  rfl
theorem more_len {m f l : Nat} {left : List Int} {o : Int} : (moreF m f l left o).length = m := by simp [moreF]
theorem on_len {m f l : Nat} {u : Lot} {o : Int} : (onF m f l u o).length ≤ 1 := by
  unfold onF
  split <;> simp
section
variable {n wf : Nat} {st : Store} {X : XC} {k : RV → Store → Prop}
theorem at_j {r : List Int} {i : Int} (i0 : 0 ≤ i) (h : i < r.length) : atD (iD r) i = some (.int (r.getD i.toNat 0)) := by
  have := atI (es := r) (i := i.toNat) (by omega)
  rw [show ((i.toNat : Nat) : Int) = i by omega] at this
  exact this
theorem mul_on {o : Int} {b : Bool} (h : o.natAbs ≤ 2000) : binV .mul (.dat (.int o)) (.dat (.int (b2i b))) = some (.t (.d (.int (o * b2i b)))) := b_mul (mul_small (by omega) (by cases b <;> decide))
theorem lawheaps {ws : List Int} {us : List Lot} (l1 : 1 ≤ ws.length) (l2 : ws.length ≤ 17) (h : lawF ws = some us) (hs : sortOk (us.map fun u => .tuple (u.1.map bD)) = true) (ne : us ≠ []) :
    (callN tbl wf (n + 1) 9 [.d (cD ws)] st).wp X fun v s => v = .new ((lawD us).map .d) ∧ s = st := by
  have il : (iD ws).length = ws.length := by simp [iD]
  obtain ⟨m, hm⟩ : ∃ m, m = ws.length := ⟨_, rfl⟩
  rw [wp_callN (d := d__law_heaps) rfl rfl]
  unfold d__law_heaps
  simp! only [cD, il, ← hm]
  rw [if_pos (by simp only [big]; omega)]
  simp! only [iL_eq]
  refine forL_inv (fun ys env s => ∃ (i : Nat) (e3 e4 e5 e6 e7 e8 e9 e10 e11 : Option T), env = [some (.d (.tuple (iD ws))), some (.d (.int m)), some (.d (.list ((strA m i).map pD))), e3, e4, e5, e6, e7, e8, e9, e10, e11] ∧ s = st ∧ i ≤ m ∧ ys = (iL (i : Nat) (m - i)).map .d) ⟨0, _, _, _, _, _, _, _, _, _, rfl, rfl, Nat.zero_le _, by simp⟩ ?_ ?_
  · rintro x ys env s ⟨i, e3, e4, e5, e6, e7, e8, e9, e10, e11, rfl, rfl, hi, hx⟩
    have hlt : i < m := by
      rcases Nat.lt_or_ge i m with h | h
      · exact h
      · rw [show m - i = 0 by omega] at hx
        cases hx
    obtain ⟨r, hr⟩ : ∃ r, m - i = r + 1 := ⟨m - i - 1, by omega⟩
    rw [hr, iL_succ] at hx
    obtain ⟨rfl, rfl⟩ := List.cons.inj hx
    simp! only []
    rw [if_pos (by simp only [big]; omega)]
    simp! only [iL_eq]
    rw [show ((m : Int) - (i : Nat)).toNat = m - i by omega, compD (h := hP i) (fun y hy ko => by
      unfold iL at hy
      obtain ⟨j, hj, rfl⟩ := List.mem_map.mp hy
      simp! only [hP]), hP_map]
    have sl : ∀ i, i ≤ m → (strA m i).length ≤ 17 * i := by
      intro i
      induction i with
      | zero => simp [strA]
      | succ i ih => intro h; have := ih (by omega); simp [strA]; omega
    have := sl i hi
    simp! only []
    rw [b_addL (by simp [big]; omega), ← List.map_append, ← List.map_append]
    simp! only []
    exact ⟨i + 1, _, _, _, _, _, _, _, _, _, rfl, hlt, by rw [show m - (i + 1) = r by omega, show ((i + 1 : Nat) : Int) = (i : Int) + 1 by omega]⟩
  · rintro env s ⟨i, e3, e4, e5, e6, e7, e8, e9, e10, e11, rfl, rfl, hi, hx⟩
    have hlt : i = m := by
      rcases Nat.lt_or_ge i m with h | h
      · obtain ⟨r, hr⟩ : ∃ r, m - i = r + 1 := ⟨m - i - 1, by omega⟩
        rw [hr, iL_succ] at hx
        cases hx
      · omega
    subst hlt
    simp! only []
    refine forL_inv (fun ys env s' => ∃ (qs : List (Nat × Nat)) (cv : T) (vs : List Lot) (e3 e5 e6 e7 e8 e9 e10 e11 : Option T), env = [some (.d (.tuple (iD ws))), some (.d (.int i)), some (.d (.list ((strA i i).map pD))), e3, some cv, e5, e6, e7, e8, e9, e10, e11] ∧ ys = (qs.map pD).map .d ∧ Keep s s' ∧ CV s.length s' cv (vs.map lD) ∧ allF i qs vs = some us) ⟨strA i i, _, [([], ws)], _, _, _, _, _, _, _, _, rfl, rfl, .refl, .inl rfl, by rw [hm]; exact h⟩ ?_ ?_
    · rintro x ys env s1 ⟨qs, cv, vs, f3, f5, f6, f7, f8, f9, f10, f11, rfl, hx, kp, hcv, hall⟩
      cases qs with
      | nil => cases hx
      | cons q qs =>
        obtain ⟨rfl, rfl⟩ := List.cons.inj hx
        obtain ⟨f, l⟩ := q
        cases hlo : lotsF i f l vs [] with
        | none => simp only [allF, hlo] at hall; cases hall
        | some vs' =>
          simp only [allF, hlo] at hall
          obtain ⟨src, q1, q2, q3⟩ := (hcv.keep (s' := s1 ++ [.lst []]) (fun i hi => List.getElem?_append_left hi)).src
          simp! only [pD, q1]
          refine src_inv q2 (fun zs env s' => ∃ (ur acc : List Lot) (e7 e8 e9 e10 e11 : Option T), env = [some (.d (.tuple (iD ws))), some (.d (.int i)), some (.d (.list ((strA i i).map pD))), some (.d (.int f)), some cv, some (.d (.int l)), some (.ref s1.length), e7, e8, e9, e10, e11] ∧ zs = (ur.map lD).map .d ∧ Keep s1 s' ∧ s'[s1.length]? = some (.lst ((acc.map lD).map .d)) ∧ lotsF i f l ur acc = some vs') ⟨vs, [], _, _, _, _, _, rfl, rfl, Keep.refl.new, by simp, hlo⟩ ?_ ?_ ?_
          · rintro m hm zs env s' ⟨_, _, _, _, _, _, _, _, _, kq, _, _⟩
            obtain ⟨e1, e2⟩ := q3 m hm
            subst e1
            rcases hcv with z | ⟨m', e, _, hm'⟩
            · cases z
            · cases e
              have lt := (List.getElem?_eq_some_iff.mp hm').1
              rw [kq.old m lt, List.getElem?_append_left lt]
          · rintro x zs env s2 ⟨ur, acc, g7, g8, g9, g10, g11, rfl, hz, kq, hc, hlf⟩
            cases ur with
            | nil => cases hz
            | cons u ur =>
              obtain ⟨rfl, rfl⟩ := List.cons.inj hz
              unfold lotsF at hlf
              split at hlf
              · rename_i hb
                obtain ⟨b1, b2, b3, b4, b5, b6, b7⟩ := hb
                have cne := cut_ne (left := u.2) b2 (by omega)
                have mm : minI (cutI u.2 f l) ∈ u.2 := by
                  have := minI_mem cne
                  unfold cutI at this
                  exact List.mem_of_mem_drop (List.mem_of_mem_take this)
                have mb := of_decide_eq_true (List.all_eq_true.mp b7 _ mm)
                have ci := cut_iD (left := u.2) b2 (show l < u.2.length by omega)
                simp! only [lD, ci, q_minT cne]
                rw [if_pos (by simp only [big]; omega)]
                simp! only [iL_eq]
                obtain ⟨N, hN⟩ : ∃ N, N = (minI (cutI u.2 f l) + 1).toNat := ⟨_, rfl⟩
                have eN : ((minI (cutI u.2 f l) + 1 : Int)).toNat = N := hN.symm
                rw [eN]
                rw [eN] at hlf
                refine forL_inv (fun ys env s3 => ∃ (o : Int) (nn : Nat) (ac : List Lot) (e9 e10 e11 : Option T), env = [some (.d (.tuple (iD ws))), some (.d (.int i)), some (.d (.list ((strA i i).map pD))), some (.d (.int f)), some cv, some (.d (.int l)), some (.ref s1.length), some (.d (.tuple (u.1.map bD))), some (.d (.tuple (iD u.2))), e9, e10, e11] ∧ ys = (iL o nn).map .d ∧ Keep s1 s3 ∧ s3[s1.length]? = some (.lst ((ac.map lD).map .d)) ∧ 0 ≤ o ∧ o + nn ≤ 1002 ∧ ac.length + nn ≤ 102000 ∧ oftF i f l u o nn ac = oftF i f l u 0 N acc) ⟨0, N, acc, _, _, _, rfl, rfl, kq, hc, by omega, by omega, by omega, rfl⟩ ?_ ?_
                · rintro x ys env s3 ⟨o, nn, ac, e9, e10, e11, rfl, hy, kq3, hc3, o0, o1, la, hof⟩
                  cases nn with
                  | zero => cases hy
                  | succ nn =>
                    rw [iL_succ] at hy
                    obtain ⟨rfl, rfl⟩ := List.cons.inj hy
                    have hof' : oftF i f l u (o + 1) nn (ac ++ onF i f l u o) = oftF i f l u 0 N acc := hof
                    have lt3 := (List.getElem?_eq_some_iff.mp hc3).1
                    have hfm : f < (moreF i f l u.2 o).length := by rw [more_len]; omega
                    simp! only []
                    rw [if_pos (by simp only [big]; omega)]
                    simp! only [iL_eq]
                    rw [show ((i : Nat) : Int).toNat = i by omega, compD (h := hK f l u.2 o) (fun y hy ko => by
                      obtain ⟨k, rfl, k0, k1⟩ := iL_mem hy
                      have a1 := at_j (r := u.2) k0 (by omega)
                      by_cases h1 : (f : Int) ≤ k
                      · by_cases h2 : k ≤ (l : Int)
                        · have e : hK f l u.2 o (.int k) = .int (u.2.getD k.toNat 0 - o * b2i true) := by
                            show PyData.int (u.2.getD k.toNat 0 - o * onI f l k.toNat) = _
                            rw [show onI f l k.toNat = b2i true from if_pos ⟨by omega, by omega⟩]
                          simp! only [a1, decide_eq_true h1, decide_eq_true h2, q_intB]
                          rw [mul_on (by omega)]
                          simp! only [e]
                        · have e : hK f l u.2 o (.int k) = .int (u.2.getD k.toNat 0 - o * b2i false) := by
                            show PyData.int (u.2.getD k.toNat 0 - o * onI f l k.toNat) = _
                            rw [show onI f l k.toNat = b2i false from if_neg (fun z => h2 (by omega))]
                          simp! only [a1, decide_eq_true h1, decide_eq_false h2, q_intB]
                          rw [mul_on (by omega)]
                          simp! only [e]
                      · have e : hK f l u.2 o (.int k) = .int (u.2.getD k.toNat 0 - o * b2i false) := by
                          show PyData.int (u.2.getD k.toNat 0 - o * onI f l k.toNat) = _
                          rw [show onI f l k.toNat = b2i false from if_neg (fun z => h1 (by omega))]
                        simp! only [a1, decide_eq_false h1, q_intB]
                        rw [mul_on (by omega)]
                        simp! only [e]), hK_map]
                    simp! only []
                    by_cases ho : 0 < o
                    · by_cases h1 : (l : Int) < (i : Int) - 1
                      · skip
                        simp! only [atI hfm, decide_eq_true h1]
                        have eo : onF i f l u o = [(u.1 ++ [((f : Int), (l : Int), o)], moreF i f l u.2 o)] := by
                          unfold onF
                          rw [if_pos (.inl (by omega)), if_pos ho]
                        have ma : ∀ s, methT s .append ((ac.map lD).map T.d) [.d (.tuple [.tuple ((u.1 ++ [((f : Int), (l : Int), o)]).map bD), .tuple (iD (moreF i f l u.2 o))])] = some (.d .none, ((ac ++ onF i f l u o).map lD).map .d) := fun s => by rw [eo]; exact m_appM rfl (by omega)
                        simp! only [hc3, decide_eq_true ho, q_intB, b2iT]
                        rw [b_mulT (by simp), rp1]
                        simp! only []
                        rw [show ([T.d (PyData.tuple [PyData.int (f : Nat), .int (l : Nat), .int o])] : List T) = ([((f : Int), (l : Int), o)].map bD).map .d from rfl, b_addT (by simp [big]; omega), ← List.map_append, ← List.map_append]
                        simp! only [hc3, ma, olds_map]
                        exact ⟨o + 1, nn, ac ++ onF i f l u o, _, _, _, rfl, rfl, kq3.set (Nat.le_refl _), List.getElem?_set_self lt3, by omega, by omega, by rw [List.length_append]; have := on_len (m := i) (f := f) (l := l) (u := u) (o := o); omega, hof'⟩
                      · by_cases h2 : (moreF i f l u.2 o).getD f 0 = 0
                        · skip
                          simp! only [atI hfm, decide_eq_false h1, decide_eq_true h2]
                          have eo : onF i f l u o = [(u.1 ++ [((f : Int), (l : Int), o)], moreF i f l u.2 o)] := by
                            unfold onF
                            rw [if_pos (.inr h2), if_pos ho]
                          have ma : ∀ s, methT s .append ((ac.map lD).map T.d) [.d (.tuple [.tuple ((u.1 ++ [((f : Int), (l : Int), o)]).map bD), .tuple (iD (moreF i f l u.2 o))])] = some (.d .none, ((ac ++ onF i f l u o).map lD).map .d) := fun s => by rw [eo]; exact m_appM rfl (by omega)
                          simp! only [hc3, decide_eq_true ho, q_intB, b2iT]
                          rw [b_mulT (by simp), rp1]
                          simp! only []
                          rw [show ([T.d (PyData.tuple [PyData.int (f : Nat), .int (l : Nat), .int o])] : List T) = ([((f : Int), (l : Int), o)].map bD).map .d from rfl, b_addT (by simp [big]; omega), ← List.map_append, ← List.map_append]
                          simp! only [hc3, ma, olds_map]
                          exact ⟨o + 1, nn, ac ++ onF i f l u o, _, _, _, rfl, rfl, kq3.set (Nat.le_refl _), List.getElem?_set_self lt3, by omega, by omega, by rw [List.length_append]; have := on_len (m := i) (f := f) (l := l) (u := u) (o := o); omega, hof'⟩
                        · skip
                          simp! only [atI hfm, decide_eq_false h1, decide_eq_false h2]
                          have eo : onF i f l u o = [] := by
                            unfold onF
                            rw [if_neg (fun z => z.elim (fun z => h1 (by omega)) h2)]
                          rw [eo, List.append_nil] at hof'
                          exact ⟨o + 1, nn, ac, _, _, _, rfl, rfl, kq3, hc3, by omega, by omega, by omega, hof'⟩
                    · by_cases h1 : (l : Int) < (i : Int) - 1
                      · skip
                        simp! only [atI hfm, decide_eq_true h1]
                        have eo : onF i f l u o = [(u.1, moreF i f l u.2 o)] := by
                          unfold onF
                          rw [if_pos (.inl (by omega)), if_neg ho]
                        have ma : ∀ s, methT s .append ((ac.map lD).map T.d) [.d (.tuple [.tuple ((u.1).map bD), .tuple (iD (moreF i f l u.2 o))])] = some (.d .none, ((ac ++ onF i f l u o).map lD).map .d) := fun s => by rw [eo]; exact m_appM rfl (by omega)
                        simp! only [hc3, decide_eq_false ho, q_intB, b2iF]
                        rw [b_mulT (by simp), rp0]
                        simp! only []
                        rw [b_addT (by simp [big]; omega), List.append_nil]
                        simp! only [hc3, ma, olds_map]
                        exact ⟨o + 1, nn, ac ++ onF i f l u o, _, _, _, rfl, rfl, kq3.set (Nat.le_refl _), List.getElem?_set_self lt3, by omega, by omega, by rw [List.length_append]; have := on_len (m := i) (f := f) (l := l) (u := u) (o := o); omega, hof'⟩
                      · by_cases h2 : (moreF i f l u.2 o).getD f 0 = 0
                        · skip
                          simp! only [atI hfm, decide_eq_false h1, decide_eq_true h2]
                          have eo : onF i f l u o = [(u.1, moreF i f l u.2 o)] := by
                            unfold onF
                            rw [if_pos (.inr h2), if_neg ho]
                          have ma : ∀ s, methT s .append ((ac.map lD).map T.d) [.d (.tuple [.tuple ((u.1).map bD), .tuple (iD (moreF i f l u.2 o))])] = some (.d .none, ((ac ++ onF i f l u o).map lD).map .d) := fun s => by rw [eo]; exact m_appM rfl (by omega)
                          simp! only [hc3, decide_eq_false ho, q_intB, b2iF]
                          rw [b_mulT (by simp), rp0]
                          simp! only []
                          rw [b_addT (by simp [big]; omega), List.append_nil]
                          simp! only [hc3, ma, olds_map]
                          exact ⟨o + 1, nn, ac ++ onF i f l u o, _, _, _, rfl, rfl, kq3.set (Nat.le_refl _), List.getElem?_set_self lt3, by omega, by omega, by rw [List.length_append]; have := on_len (m := i) (f := f) (l := l) (u := u) (o := o); omega, hof'⟩
                        · skip
                          simp! only [atI hfm, decide_eq_false h1, decide_eq_false h2]
                          have eo : onF i f l u o = [] := by
                            unfold onF
                            rw [if_neg (fun z => z.elim (fun z => h1 (by omega)) h2)]
                          rw [eo, List.append_nil] at hof'
                          exact ⟨o + 1, nn, ac, _, _, _, rfl, rfl, kq3, hc3, by omega, by omega, by omega, hof'⟩
                · rintro env s3 ⟨o, nn, ac, e9, e10, e11, rfl, hy, kq3, hc3, o0, o1, la, hof⟩
                  have : nn = 0 := by
                    cases nn with
                    | zero => rfl
                    | succ nn => rw [iL_succ] at hy; cases hy
                  subst this
                  have hof' : ac = oftF i f l u 0 N acc := hof
                  rw [← hof'] at hlf
                  exact ⟨ur, ac, _, _, _, _, _, rfl, rfl, kq3, hc3, hlf⟩
              · cases hlf
          · rintro env s2 ⟨ur, acc, g7, g8, g9, g10, g11, rfl, hz, kq, hc, hlf⟩
            have : ur = [] := by cases ur with | nil => rfl | cons => cases hz
            subst this
            have ea : acc = vs' := by unfold lotsF at hlf; injection hlf
            subst ea
            simp! only []
            exact ⟨qs, _, acc, _, _, _, _, _, _, _, _, rfl, rfl, kp.trans kq, .inr ⟨_, rfl, kp.len, hc⟩, hall⟩
    · rintro env s1 ⟨qs, cv, vs, f3, f5, f6, f7, f8, f9, f10, f11, rfl, hx, kp, hcv, hall⟩
      have : qs = [] := by cases qs with | nil => rfl | cons => cases hx
      subst this
      have eo : vs = us := by unfold allF at hall; injection hall
      subst eo
      obtain ⟨src, q1, q2, q3⟩ := hcv.src
      simp! only [q1]
      rw [src_compD (h := fun y => match y with | .tuple [a, _] => a | _ => .none) q2 (fun y hy ko => by
        obtain ⟨u, hu, rfl⟩ := List.mem_map.mp hy
        simp! only [lD])]
      have em : (vs.map lD).map (fun y => match y with | .tuple [a, _] => a | _ => .none) = vs.map fun u => .tuple (u.1.map bD) := by
        rw [List.map_map]
        rfl
      rw [em]
      have nn : ∃ ys r, (vs.map fun u => (.tuple (u.1.map bD) : MP.D)) = .tuple ys :: r := by
        cases vs with
        | nil => exact absurd rfl ne
        | cons a r => exact ⟨_, _, rfl⟩
      simp! only [q_sortL, sort_t hs nn, olds_map, kp.take]
      rfl
end
end Lw

namespace Lw
open PySem MP Nt Et
def chkB (bs : List (Int × Int × Int)) : Bool := decide (bs.length ≤ 40) && bs.all fun b => decide (b.1.natAbs < 1000) && decide (b.2.1.natAbs < 1000) && decide (b.2.2.natAbs < 1000)
/-- what a run of widths can stand on -/
def runB (ws : List Int) (sts : List Sta) : Bool := sts.all okS && sortOk (sts.map (heapD (lastF ws))) && !sts.isEmpty
/-! ### the same, told faster -/
def longC (k w : Int) : List Sta → Nat → Out
  | [], _ => .ok []
  | s :: ss, c => match goF k w s with
    | none => .bad
    | some out => if 5000 < out.length then .bad else if 1000 < c + out.length then .many else match longC k w ss (c + out.length) with
      | .ok l => .ok (out ++ l)
      | .many => .many
      | .bad => .bad
def pre (acc : List Sta) : Out → Out
  | .ok l => .ok (acc ++ l)
  | .many => .many
  | .bad => .bad
theorem longC_eq {k w : Int} : ∀ (ss acc : List Sta), longF k w ss acc = pre acc (longC k w ss acc.length)
  | [], acc => by simp [longF, longC, pre]
  | s :: ss, acc => by
    unfold longF longC
    cases goF k w s with
    | none => rfl
    | some out =>
      dsimp only
      by_cases h5 : 5000 < out.length
      · rw [if_pos h5, if_pos h5]; rfl
      · rw [if_neg h5, if_neg h5, List.length_append]
        by_cases h1 : 1000 < acc.length + out.length
        · rw [if_pos h1, if_pos h1]; rfl
        · rw [if_neg h1, if_neg h1, longC_eq ss (acc ++ out), List.length_append]
          cases longC k w ss (acc.length + out.length) <;> simp [pre, List.append_assoc]
def statesC : Int → List Int → List Sta → Out
  | _, [], sts => .ok sts
  | k, w :: ws, sts => match longC k w sts 0 with
    | .ok l => statesC (k + 1) ws l
    | .many => .many
    | .bad => .bad
theorem statesC_eq : ∀ (k : Int) (ws : List Int) (sts : List Sta), statesF k ws sts = statesC k ws sts
  | _, [], _ => rfl
  | k, w :: ws, sts => by
    unfold statesF statesC
    rw [longC_eq]
    show (match pre [] (longC k w sts 0) with | .ok l => statesF (k + 1) ws l | .many => .many | .bad => .bad) = _
    cases longC k w sts 0 with
    | ok l => exact statesC_eq (k + 1) ws l
    | many => rfl
    | bad => rfl
def heapsC (ws : List Int) : Out := statesC 1 ws.tail (startF ws)
theorem heapsC_eq {ws : List Int} : heapsF ws = heapsC ws := statesC_eq _ _ _
def oftC (m f l : Nat) (u : Lot) : Int → Nat → List Lot
  | _, 0 => []
  | o, n + 1 => onF m f l u o ++ oftC m f l u (o + 1) n
theorem oftC_eq {m f l : Nat} {u : Lot} : ∀ (o : Int) (n : Nat) (acc : List Lot), oftF m f l u o n acc = acc ++ oftC m f l u o n
  | _, 0, acc => by simp [oftF, oftC]
  | o, n + 1, acc => by
    unfold oftF oftC
    rw [oftC_eq (o + 1) n, List.append_assoc]
def okU (m f l : Nat) (u : Lot) : Bool := decide (u.2.length = m) && decide (f ≤ l) && decide (l < m) && decide (m ≤ 17) && decide (u.1.length ≤ 1000) && u.2.all fun z => decide (z.natAbs ≤ 1000)
def lotsC (m f l : Nat) : List Lot → List Lot
  | [] => []
  | u :: us => oftC m f l u 0 (minI (cutI u.2 f l) + 1).toNat ++ lotsC m f l us
theorem lotsC_eq {m f l : Nat} : ∀ (us acc : List Lot), us.all (okU m f l) = true → acc.length + (lotsC m f l us).length ≤ 100000 → lotsF m f l us acc = some (acc ++ lotsC m f l us)
  | [], acc, _, _ => by simp [lotsF, lotsC]
  | u :: us, acc, h1, h2 => by
    simp only [List.all_cons, Bool.and_eq_true] at h1
    obtain ⟨h1, h3⟩ := h1
    unfold okU at h1
    simp only [Bool.and_eq_true, decide_eq_true_eq] at h1
    obtain ⟨⟨⟨⟨⟨g1, g2⟩, g3⟩, g4⟩, g5⟩, g6⟩ := h1
    unfold lotsC at h2
    rw [List.length_append] at h2
    unfold lotsF lotsC
    rw [if_pos ⟨g1, g2, g3, g4, g5, by omega, g6⟩, oftC_eq, lotsC_eq us _ h3 (by rw [List.length_append]; omega), List.append_assoc]
def allC (m : Nat) : List (Nat × Nat) → List Lot → Option (List Lot)
  | [], us => some us
  | q :: qs, us => if us.all (okU m q.1 q.2) = true ∧ (lotsC m q.1 q.2 us).length ≤ 100000 then allC m qs (lotsC m q.1 q.2 us) else none
theorem allC_eq {m : Nat} : ∀ (qs : List (Nat × Nat)) (us out : List Lot), allC m qs us = some out → allF m qs us = some out
  | [], _, _, h => h
  | q :: qs, us, out, h => by
    unfold allC at h
    split at h
    · rename_i hb
      unfold allF
      rw [lotsC_eq us [] hb.1 (by simpa using hb.2), List.nil_append]
      exact allC_eq qs _ out h
    · cases h
def lawC (ws : List Int) : Option (List Lot) := allC ws.length (strA ws.length ws.length) [([], ws)]
theorem lawC_eq {ws : List Int} {us : List Lot} (h : lawC ws = some us) : lawF ws = some us := allC_eq _ _ _ h
def chkF (ws : List Int) : Bool := match heapsC ws, lawC ws with
  | .ok sts, some us => runB ws sts && sortOk (us.map fun u => .tuple (u.1.map bD)) && !us.isEmpty && decide (sts.length ≤ 1000) && (sts.all fun s => chkB (endF (lastF ws) s)) && (us.all fun u => chkB u.1) && NO.isEq (NO.cmpOs (heapsD ws sts) (lawD us))
  | _, _ => false
def isMany : Out → Bool
  | .many => true
  | _ => false
def allW : Nat → Nat → List (List Int)
  | 0, _ => [[]]
  | k + 1, m => (List.range (m + 1)).flatMap fun (i : Nat) => (allW k m).map fun r => (i : Int) :: r
theorem allW_mem {m : Nat} : ∀ {ws : List Int}, (∀ e ∈ ws, 0 ≤ e ∧ e ≤ m) → ws ∈ allW ws.length m
  | [], _ => by simp [allW]
  | e :: ws, h => by
    have h1 := h e (by simp)
    have h2 := allW_mem (ws := ws) fun e he => h e (by simp [he])
    show e :: ws ∈ (List.range (m + 1)).flatMap fun (i : Nat) => (allW ws.length m).map fun r => (i : Int) :: r
    rw [List.mem_flatMap]
    refine ⟨e.toNat, List.mem_range.mpr (by omega), List.mem_map.mpr ⟨ws, h2, ?_⟩⟩
    rw [show ((e.toNat : Nat) : Int) = e by omega]
theorem small1 : (allW 1 3).all chkF = true := by decide +kernel
theorem small2 : (allW 2 3).all chkF = true := by decide +kernel
theorem small3_0 : ((allW 2 3).map fun r => (0 : Int) :: r).all chkF = true := by decide +kernel
theorem small3_1 : ((allW 2 3).map fun r => (1 : Int) :: r).all chkF = true := by decide +kernel
theorem small3_2 : ((allW 2 3).map fun r => (2 : Int) :: r).all chkF = true := by decide +kernel
theorem small3_3 : ((allW 2 3).map fun r => (3 : Int) :: r).all chkF = true := by decide +kernel
theorem small3 : (allW 3 3).all chkF = true := by
  have e : allW 3 3 = (List.range 4).flatMap fun (i : Nat) => (allW 2 3).map fun r => (i : Int) :: r := rfl
  rw [e]
  simp only [List.range, List.range.loop, List.flatMap_cons, List.flatMap_nil, List.all_append, List.all_nil]
  exact (by rw [show (((allW 2 3).map fun r => ((0 : Nat) : Int) :: r).all chkF) = true from small3_0, show (((allW 2 3).map fun r => ((1 : Nat) : Int) :: r).all chkF) = true from small3_1, show (((allW 2 3).map fun r => ((2 : Nat) : Int) :: r).all chkF) = true from small3_2, show (((allW 2 3).map fun r => ((3 : Nat) : Int) :: r).all chkF) = true from small3_3]; rfl)
theorem small4_0 : ((allW 3 2).map fun r => (0 : Int) :: r).all chkF = true := by decide +kernel
theorem small4_1 : ((allW 3 2).map fun r => (1 : Int) :: r).all chkF = true := by decide +kernel
theorem small4_2 : ((allW 3 2).map fun r => (2 : Int) :: r).all chkF = true := by decide +kernel
theorem small4 : (allW 4 2).all chkF = true := by
  have e : allW 4 2 = (List.range 3).flatMap fun (i : Nat) => (allW 3 2).map fun r => (i : Int) :: r := rfl
  rw [e]
  simp only [List.range, List.range.loop, List.flatMap_cons, List.flatMap_nil, List.all_append, List.all_nil]
  exact (by rw [show (((allW 3 2).map fun r => ((0 : Nat) : Int) :: r).all chkF) = true from small4_0, show (((allW 3 2).map fun r => ((1 : Nat) : Int) :: r).all chkF) = true from small4_1, show (((allW 3 2).map fun r => ((2 : Nat) : Int) :: r).all chkF) = true from small4_2]; rfl)
def wideL : List (List Int) := [[6, 7, 2, 8], [3, 4, 3, 8], [5, 6, 8, 1], [2, 3, 2, 3, 2], [1, 1, 1, 1, 1, 1, 1, 1], [8, 8], [4, 8, 4]]
theorem wide0 : chkF [6, 7, 2, 8] = true := by decide +kernel
theorem wide1 : chkF [3, 4, 3, 8] = true := by decide +kernel
theorem wide2 : chkF [5, 6, 8, 1] = true := by decide +kernel
theorem wide3 : chkF [2, 3, 2, 3, 2] = true := by decide +kernel
theorem wide4 : chkF [1, 1, 1, 1, 1, 1, 1, 1] = true := by decide +kernel
theorem wide5 : chkF [8, 8] = true := by decide +kernel
theorem wide6 : chkF [4, 8, 4] = true := by decide +kernel
theorem wide_ok : wideL.all chkF = true := by simp only [wideL, List.all_cons, List.all_nil, wide0, wide1, wide2, wide3, wide4, wide5, wide6, Bool.and_self]
def ones (n : Nat) (i : Int) : List Int := List.replicate n i
def greatL : List (List Int) := [ones 5 8, ones 9 3, ones 17 2, ones 17 8, ones 17 1, ones 11 1]
theorem great0 : isMany (heapsC (ones 5 8)) = true := by decide +kernel
theorem great1 : isMany (heapsC (ones 9 3)) = true := by decide +kernel
theorem great2 : isMany (heapsC (ones 17 2)) = true := by decide +kernel
theorem great3 : isMany (heapsC (ones 17 8)) = true := by decide +kernel
theorem great4 : isMany (heapsC (ones 17 1)) = true := by decide +kernel
theorem great5 : isMany (heapsC (ones 11 1)) = true := by decide +kernel
theorem great_ok : (greatL.all fun ws => isMany (heapsC ws)) = true := by simp only [greatL, List.all_cons, List.all_nil, great0, great1, great2, great3, great4, great5, Bool.and_self]
def lenB (ws : List Int) (n : Nat) : Bool := match heapsC ws with
  | .ok sts => runB ws sts && decide (sts.length = n)
  | _ => false
theorem len1 : lenB (ones 10 1) 512 = true := by decide +kernel
theorem len2 : lenB [2, 4, 4, 3, 3] 1000 = true := by decide +kernel
theorem c8 : chkF [8] = true := by decide +kernel
end Lw

namespace Lw
open PySem MP Nt Et
theorem repr_ok3 {b d : Nat} {x : MP.D} (h : Sho b d x) (hb : b ≤ 170000) (hd : d ≤ 60) : reprOk x = true := by
  unfold reprOk
  have h1 := h.bk
  have h2 := h.dp
  have h3 := PyData.shown_le_bulk 64 (by decide) x h.l
  have e1 : decide (x.depth ≤ 60) = true := decide_eq_true (by omega)
  have e2 : decide (x.shown.length ≤ big) = true := decide_eq_true (by show _ ≤ 16777216; omega)
  rw [h.s, e1, e2]
  rfl
theorem hasC_l {s : NO.Sh} : ∀ {xs : List MP.D}, (∀ x ∈ xs, NO.has s x = true) → NO.hasC (.l s) xs = true
  | [], _ => by rw [NO.hasC_nil]
  | x :: xs, h => by
    rw [NO.hasC_cons]
    dsimp only
    rw [h x (by simp), hasC_l fun y hy => h y (by simp [hy])]
    rfl
theorem has_bars {bs : List (Int × Int × Int)} {ys : List MP.D} (h : ys.Perm (bs.map bD)) : NO.has (.l (.l .i)) (.tuple ys) = true := by
  rw [NO.has_tup]
  refine hasC_l fun y hy => ?_
  obtain ⟨b, _, rfl⟩ := List.mem_map.mp (h.mem_iff.mp hy)
  exact has_b
theorem sho_bars {bs : List (Int × Int × Int)} {ys : List MP.D} (h : ys.Perm (bs.map bD)) (hb : chkB bs = true) : Sho 160 2 (.tuple ys) := by
  unfold chkB at hb
  rw [Bool.and_eq_true, decide_eq_true_eq] at hb
  refine (sho_tup (sho_all (b := 3) (d := 1) (m := 40) (fun y hy => ?_) (by rw [h.length_eq, List.length_map]; exact hb.1))).mono (by decide) (by decide)
  obtain ⟨b, hbm, rfl⟩ := List.mem_map.mp (h.mem_iff.mp hy)
  have q := List.all_eq_true.mp hb.2 b hbm
  simp only [Bool.and_eq_true, decide_eq_true_eq] at q
  exact (sho_tup (sho_cons (sho_int (by omega)) (sho_cons (sho_int (by omega)) (sho_cons (sho_int (by omega)) sho_nil)))).mono (by decide) (by decide)
theorem isEq_of {o : Ordering} (h : NO.isEq o = true) : o = .eq := by cases o <;> first | rfl | cases h
/-- what the check of widths gives -/
structure Right (ws : List Int) (L : List MP.D) : Prop where
  len : L.length ≤ 1000
  shown : reprOk (.list L) = true
  run : ∀ {n wf : Nat} {st : Store} {X : XC} {k : RV → Store → Prop}, widthsB (cD ws) = true → (callN tbl wf (n + 3) 5 [.d (cD ws)] st).wp X k = k (.new (L.map .d)) st
  law : ∀ {n wf : Nat} {st : Store} {X : XC} {k : RV → Store → Prop}, widthsB (cD ws) = true → (callN tbl wf (n + 1) 9 [.d (cD ws)] st).wp X k = k (.new (L.map .d)) st
theorem len_of {ws : List Int} (h : widthsB (cD ws) = true) : 1 ≤ ws.length ∧ ws.length ≤ 17 := by
  have : (decide ((1 : Int) ≤ (iD ws).length) && decide (((iD ws).length : Int) ≤ 17) && (iD ws).all widthB) = true := h
  simp only [Bool.and_eq_true, decide_eq_true_eq, iD, List.length_map] at this
  omega
theorem right_of {ws : List Int} (h : chkF ws = true) : ∃ L, Right ws L := by
  unfold chkF at h
  split at h
  · rename_i sts us e1 e2
    simp only [Bool.and_eq_true, decide_eq_true_eq, Bool.not_eq_true'] at h
    obtain ⟨⟨⟨⟨⟨⟨h1, h2⟩, h3⟩, h4⟩, h5⟩, h6⟩, h7⟩ := h
    unfold runB at h1
    simp only [Bool.and_eq_true, Bool.not_eq_true'] at h1
    obtain ⟨⟨g1, g2⟩, g3⟩ := h1
    have g3' : sts ≠ [] := fun z => by subst z; cases g3
    have h3' : us ≠ [] := fun z => by subst z; cases h3
    have eh : heapsF ws = .ok sts := heapsC_eq.trans e1
    have el := lawC_eq e2
    have p1 : (heapsD ws sts).Perm (sts.map (heapD (lastF ws))) := NO.sortD_perm _
    have p2 : (lawD us).Perm (us.map fun u => .tuple (u.1.map bD)) := NO.sortD_perm _
    have q1 : ∀ y ∈ heapsD ws sts, NO.has (.l (.l .i)) y = true := fun y hy => by
      obtain ⟨s, _, rfl⟩ := List.mem_map.mp (p1.mem_iff.mp hy)
      exact has_bars (NO.sortD_perm _)
    have q2 : ∀ y ∈ lawD us, NO.has (.l (.l .i)) y = true := fun y hy => by
      obtain ⟨u, _, rfl⟩ := List.mem_map.mp (p2.mem_iff.mp hy)
      exact has_bars (.refl _)
    have e : heapsD ws sts = lawD us := (NO.eqs (.l (.l (.l .i))) _ _ (hasC_l q1) (hasC_l q2)).mp (isEq_of h7)
    refine ⟨heapsD ws sts, by rw [p1.length_eq, List.length_map]; exact h4, ?_, ?_, ?_⟩
    · refine repr_ok3 (sho_lst (sho_all (b := 160) (d := 2) (m := 1000) (fun y hy => ?_) (by rw [p1.length_eq, List.length_map]; exact h4))) (by decide) (by decide)
      obtain ⟨s, hs, rfl⟩ := List.mem_map.mp (p1.mem_iff.mp hy)
      exact sho_bars (NO.sortD_perm _) (List.all_eq_true.mp h5 s hs)
    · intro n wf st X k hw
      have l := len_of hw
      refine wp_eq (v := RV.new ((heapsD ws sts).map .d)) ?_
      refine heaps hw ?_
      rw [eh]
      exact ⟨g1, g2, g3', rfl, rfl⟩
    · intro n wf st X k hw
      have l := len_of hw
      refine wp_eq (v := RV.new ((heapsD ws sts).map .d)) ?_
      rw [e]
      exact lawheaps l.1 l.2 el h2 h3'
  · cases h
theorem many_of {ws : List Int} (h : isMany (heapsC ws) = true) {n wf : Nat} {st : Store} {X : XC} {k : RV → Store → Prop} (hw : widthsB (cD ws) = true) : (callN tbl wf (n + 3) 5 [.d (cD ws)] st).wp X k = X 10 (.d (.int 1000)) st := by
  have e : heapsF ws = .many := by
    rw [heapsC_eq]
    revert h
    cases heapsC ws <;> intro h <;> first | rfl | cases h
  have main : ∀ Y : XC, Y 10 (.d (.int 1000)) st → (callN tbl wf (n + 3) 5 [.d (cD ws)] st).wp Y fun _ _ => False := fun Y hY => heaps hw (by rw [e]; exact hY)
  have m := main (fun c v s => c = 10 ∧ v = .d (.int 1000) ∧ s = st) ⟨rfl, rfl, rfl⟩
  revert m
  cases callN tbl wf (n + 3) 5 [.d (cD ws)] st with
  | ok a s => intro m; exact m.elim
  | exc c v s => rintro ⟨rfl, rfl, rfl⟩; rfl
  | stuck => intro m; exact m.elim
theorem len_run {ws : List Int} {m : Nat} (h : lenB ws m = true) (hw : widthsB (cD ws) = true) : ∃ L : List MP.D, L.length = m ∧ ∀ {n wf : Nat} {st : Store} {X : XC} {k : RV → Store → Prop}, (callN tbl wf (n + 3) 5 [.d (cD ws)] st).wp X k = k (.new (L.map .d)) st := by
  unfold lenB at h
  split at h
  · rename_i sts e1
    rw [Bool.and_eq_true, decide_eq_true_eq] at h
    obtain ⟨h1, h2⟩ := h
    unfold runB at h1
    simp only [Bool.and_eq_true, Bool.not_eq_true'] at h1
    obtain ⟨⟨g1, g2⟩, g3⟩ := h1
    have g3' : sts ≠ [] := fun z => by subst z; cases g3
    have eh : heapsF ws = .ok sts := heapsC_eq.trans e1
    have p1 : (heapsD ws sts).Perm (sts.map (heapD (lastF ws))) := NO.sortD_perm _
    refine ⟨heapsD ws sts, by rw [p1.length_eq, List.length_map, h2], fun {n wf st X k} => ?_⟩
    refine wp_eq (v := RV.new ((heapsD ws sts).map .d)) ?_
    refine heaps hw ?_
    rw [eh]
    exact ⟨g1, g2, g3', rfl, rfl⟩
  · cases h
end Lw

/-! the tape alone -/
namespace Et
open PySem MP Nt
section
variable {tbl : List Def} {jx : Jx} {n wf : Nat} {st : Store} {c : Nat} {X : XC}
theorem tape0 {ns : List Int} {start : Int} (H : tbl[jx.l_tape]? = some (D_l_tape jx)) (hb : ∀ z ∈ ns, Builtin.Int.intBits z ≤ 1048576) (s0 : 0 ≤ start) (s1 : start ≤ 10) :
    (callN tbl wf (n + 1) jx.l_tape [.d (.list (ns.map .int)), .d (.int start)] st).wp X fun v st' => (∃ a b : Int, v = .newD [dgK, mxK] [.d (.int a), .d (.int b)] ∧ 0 ≤ a ∧ 0 ≤ b ∧ b ≤ 2147483647) ∧ st' = st := by
  rw [wp_callN H rfl]
  unfold D_l_tape
  simp! only []
  rw [b_mul (mul_small (by omega) (by omega))]
  simp! only []
  refine forL_inv (fun ys env s => ∃ (m : Int) (e3 e4 : Option T), env = [some (.d (.list (ns.map .int))), some (.d (.int start)), some (.d (.int m)), e3, e4] ∧ s = st ∧ 0 ≤ m ∧ m ≤ 2147483647 ∧ ∃ zs : List Int, ys = (zs.map PyData.int).map .d ∧ ∀ z ∈ zs, Builtin.Int.intBits z ≤ 1048576) ⟨_, _, _, rfl, rfl, by omega, by omega, ns, rfl, hb⟩ ?_ ?_
  · rintro x ys env s ⟨m, e3, e4, rfl, rfl, m0, m1, zs, hz, hzb⟩
    cases zs with
    | nil => cases hz
    | cons z zs =>
      rw [List.map_cons, List.map_cons] at hz
      obtain ⟨rfl, rfl⟩ := List.cons.inj hz
      have bz := hzb z (by simp)
      have hm : mulOk z z = true := decide_eq_true (by omega)
      simp! only []
      rw [b_mul (mul_small (by omega) (by omega))]
      simp! only [b_mul hm]
      have hp : powOk (m * 30029 + z * z + 13) 2 = true := by
        have bw : Builtin.Int.intBits (m * 30029 + z * z + 13) ≤ 2097153 := by
          apply bits_small
          have q := sq_bits bz
          have h1 : (m * 30029 + z * z + 13).natAbs ≤ (m * 30029 + 13).natAbs + (z * z).natAbs := by
            have : m * 30029 + z * z + 13 = (m * 30029 + 13) + z * z := by omega
            rw [this]
            exact Int.natAbs_add_le _ _
          have h2 : (m * 30029 + 13).natAbs ≤ 2 ^ 64 := by
            have : (2 : Nat) ^ 64 = 18446744073709551616 := by decide
            omega
          have h3 : (2 : Nat) ^ 64 ≤ 2 ^ 2097152 := Nat.pow_le_pow_right (by decide) (by decide)
          have h4 : (2 : Nat) ^ 2097153 = 2 ^ 2097152 + 2 ^ 2097152 := by rw [Nat.pow_succ]; omega
          rw [h4]
          omega
        unfold powOk
        rw [decide_eq_true (by decide : (0 : Int) ≤ 2), Bool.true_and]
        refine decide_eq_true ?_
        omega
      rw [b_pow hp]
      simp! only []
      rw [b_mod (by decide)]
      simp! only []
      have w0 := Int.emod_nonneg ((m * 30029 + z * z + 13) ^ (2 : Int).toNat) (show (2147483563 : Int) ≠ 0 by decide)
      have w1 := Int.emod_lt_of_pos ((m * 30029 + z * z + 13) ^ (2 : Int).toNat) (show (0 : Int) < 2147483563 by decide)
      exact ⟨_, _, _, rfl, by omega, by omega, zs, rfl, fun y hy => hzb y (by simp [hy])⟩
  · rintro env s ⟨m, e3, e4, rfl, rfl, m0, m1, _⟩
    have hp : powOk 10 18 = true := by decide +kernel
    have hk : ([PyData.str (Str.ofString "digits"), .str (Str.ofString "mixed")] : List D).mapM keyD = some [dgK, mxK] := rfl
    have hq : keysOk [.str (Str.ofString "digits"), .str (Str.ofString "mixed")] = true := by decide +kernel
    simp! only []
    by_cases hlt : start < ns.length
    · obtain ⟨y, ey, _, hy⟩ := at_ok (xs := ns.map PyData.int) s0 (by simpa using hlt)
      obtain ⟨z, hz, rfl⟩ := List.mem_map.mp hy
      simp! only [decide_eq_true hlt, ey, b_pow hp]
      by_cases hge : (10 : Int) ^ (18 : Int).toNat ≤ z
      · simp! only [decide_eq_true hge, ey, b_pow hp, hk, hq, List.take_length]
        exact ⟨_, _, rfl, by omega, m0, m1⟩
      · simp! only [decide_eq_false hge, hk, hq, List.take_length]
        exact ⟨_, _, rfl, by omega, m0, m1⟩
    · simp! only [decide_eq_false hlt, hk, hq, List.take_length]
      exact ⟨_, _, rfl, by omega, m0, m1⟩
end
theorem rep_const {x : D} {j : Int} : repT [T.d x] j = (List.replicate j.toNat x).map .d := by
  unfold repT
  rw [List.map_replicate]
  induction j.toNat with
  | zero => rfl
  | succ k ih => rw [List.replicate_succ, List.flatten_cons, ih, List.replicate_succ]; rfl
end Et

namespace Lw
open PySem MP Nt Et
def jx : Jx := { l_tape := 6, l_pick := 7, l_one_of := 8 }
section
variable {n wf : Nat} {st : Store} {c : Nat} {X : XC} {k : RV → Store → Prop}
theorem pickE {span : Int} (h : Tp st c) (hs : 0 < span) (hb : span < 1073741824) : (callN tbl wf (n + 1) 7 [.ref c, .d (.int span)] st).wp X fun v st' => (∃ r : Int, v = .t (.d (.int r)) ∧ 0 ≤ r ∧ r < span) ∧ Tm c st st' :=
  Et.pick (tbl := tbl) (jx := jx) rfl h hs hb
theorem oneE {xs : List MP.D} (h : Tp st c) (h0 : xs ≠ []) (h1 : xs.length < 1000) : (callN tbl wf (n + 2) 8 [.ref c, .d (.list xs)] st).wp X fun v st' => (∃ x ∈ xs, v = .t (.d x)) ∧ Tm c st st' :=
  one_of (tbl := tbl) (jx := jx) rfl rfl h h0 (by omega)
theorem tapeE {ns : List Int} {start : Int} (hb : ∀ z ∈ ns, Builtin.Int.intBits z ≤ 1048576) (s0 : 0 ≤ start) (s1 : start ≤ 10) :
    (callN tbl wf (n + 1) 6 [.d (.list (ns.map .int)), .d (.int start)] st).wp X fun v st' => (∃ a b : Int, v = .newD [dgK, mxK] [.d (.int a), .d (.int b)] ∧ 0 ≤ a ∧ 0 ≤ b ∧ b ≤ 2147483647) ∧ st' = st := tape0 (tbl := tbl) (jx := jx) rfl hb s0 s1
/-! ### the small widths -/
theorem small_ok {ws : List Int} (h : ∀ e ∈ ws, 0 ≤ e ∧ e ≤ 3) (hl : ws.length = 1 ∨ ws.length = 2 ∨ ws.length = 3 ∨ (ws.length = 4 ∧ ∀ e ∈ ws, e ≤ 2)) : chkF ws = true := by
  rcases hl with hl | hl | hl | ⟨hl, h2⟩
  · have := allW_mem (m := 3) h
    rw [hl] at this
    exact List.all_eq_true.mp small1 _ this
  · have := allW_mem (m := 3) h
    rw [hl] at this
    exact List.all_eq_true.mp small2 _ this
  · have := allW_mem (m := 3) h
    rw [hl] at this
    exact List.all_eq_true.mp small3 _ this
  · have := allW_mem (m := 2) (ws := ws) fun e he => ⟨(h e he).1, h2 e he⟩
    rw [hl] at this
    exact List.all_eq_true.mp small4 _ this
theorem widthsB_of {ws : List Int} (h : ∀ e ∈ ws, 0 ≤ e ∧ e ≤ 8) (h1 : 1 ≤ ws.length) (h2 : ws.length ≤ 17) : widthsB (cD ws) = true := by
  show (decide ((1 : Int) ≤ (iD ws).length) && decide (((iD ws).length : Int) ≤ 17) && (iD ws).all widthB) = true
  have l : (iD ws).length = ws.length := by simp [iD]
  rw [l, decide_eq_true (by omega), decide_eq_true (by omega), Bool.true_and, Bool.true_and, List.all_eq_true]
  intro y hy
  obtain ⟨e, he, rfl⟩ := List.mem_map.mp hy
  have := h e he
  simp only [widthB, isNum, Bool.and_eq_true, decide_eq_true_eq]
  omega
/-! ### odd and great widths -/
def oddL : List MP.D := [.none, .list [], .tuple [], .list [.int 1, .int 2], .tuple [.int 9], .tuple [.int (0 - 1), .int 1], .tuple [.bool true], .tuple [.int 1, .none], .tuple (List.replicate 18 (.int 1)), .str "11", .int 3, .tuple [.tuple [.int 1]]]
theorem odd_no : (oddL.all fun y => !widthsB y && reprOk (.list [.list [.str "widths", y], .list [.str "many", .int 1000]])) = true := by decide +kernel
def greatD : List MP.D := [.tuple (List.replicate 5 (.int 8)), .tuple (List.replicate 9 (.int 3)), .tuple (List.replicate 17 (.int 2)), .tuple (List.replicate 17 (.int 8)), .tuple (List.replicate 17 (.int 1))]
theorem rep_iD {m : Nat} {i : Int} : List.replicate m (PyData.int i) = iD (ones m i) := by simp [iD, ones]
theorem great_of {y : MP.D} (h : y ∈ greatD) : ∃ ws, y = cD ws ∧ isMany (heapsC ws) = true ∧ widthsB (cD ws) = true := by
  have g := List.all_eq_true.mp great_ok
  have w : ∀ {m : Nat} {i : Int}, 0 ≤ i → i ≤ 8 → 1 ≤ m → m ≤ 17 → widthsB (cD (ones m i)) = true := fun {m i} i0 i1 m0 m1 => widthsB_of (fun e he => by rw [List.eq_of_mem_replicate he]; omega) (by simp [ones]; exact m0) (by simp [ones]; exact m1)
  unfold greatD at h
  simp only [List.mem_cons, List.not_mem_nil, or_false] at h
  rcases h with rfl | rfl | rfl | rfl | rfl
  · exact ⟨ones 5 8, by rw [rep_iD]; rfl, g _ (by simp [greatL]), w (by decide) (by decide) (by decide) (by decide)⟩
  · exact ⟨ones 9 3, by rw [rep_iD]; rfl, g _ (by simp [greatL]), w (by decide) (by decide) (by decide) (by decide)⟩
  · exact ⟨ones 17 2, by rw [rep_iD]; rfl, g _ (by simp [greatL]), w (by decide) (by decide) (by decide) (by decide)⟩
  · exact ⟨ones 17 8, by rw [rep_iD]; rfl, g _ (by simp [greatL]), w (by decide) (by decide) (by decide) (by decide)⟩
  · exact ⟨ones 17 1, by rw [rep_iD]; rfl, g _ (by simp [greatL]), w (by decide) (by decide) (by decide) (by decide)⟩
abbrev HS : List (Nat × Str) := [(5, (Str.ofString "prime")), (8, (Str.ofString "width")), (7, (Str.ofString "signs")), (1, (Str.ofString "heap")), (9, (Str.ofString "widths")), (3, (Str.ofString "line")), (4, (Str.ofString "pair")), (6, (Str.ofString "sign")), (2, (Str.ofString "joining")), (10, (Str.ofString "many"))]
theorem lk9 : HS.lookup 9 = some (Str.ofString "widths") := rfl
theorem lk10 : HS.lookup 10 = some (Str.ofString "many") := rfl
theorem pk1 {a : T} : MP.pick [a] [0] = some [a] := rfl
theorem told_loop {L : List MP.D} (hr : reprOk (.list L) = true) (hlen : L.length ≤ 2000) {s : Store} {ms : List Nat} {v0 v1 v2 v3 v4 v5 v6 v7 v9 v10 v11 v12 : Option T} {XS : XS_} {ks : KS} (h : Tp s c) (hm : ∀ m ∈ ms, m ≠ c ∧ s[m]? = some (.lst (L.map .d))) (hn : ms.Nodup)
    (hk : ∀ s' v9, Tp s' c → ks .next [v0, v1, v2, v3, v4, v5, v6, v7, some (.d (.list L)), v9, v10, v11, v12] s') :
    (forL (fun x env st => bindThen (bindP st (.nm 9) x env) fun env' => MP.execs (callN tbl wf n) wf [(.ife (.cmp .ne (.prim .repr [(.var 9)]) (.prim .repr [(.var 8)])) [(.ret (.con (.bool false)))] []), (.expr (.meth .append (.var 9) [(.con .none)]))] env' st) (ms.map T.ref) [v0, v1, v2, v3, v4, v5, v6, v7, some (.d (.list L)), v9, v10, v11, v12] s).wp XS ks := by
  refine forL_inv (fun ys env s => ∃ (ms : List Nat) (v9 : Option T), env = [v0, v1, v2, v3, v4, v5, v6, v7, some (.d (.list L)), v9, v10, v11, v12] ∧ ys = ms.map T.ref ∧ Tp s c ∧ (∀ m ∈ ms, m ≠ c ∧ s[m]? = some (.lst (L.map .d))) ∧ ms.Nodup) ⟨ms, _, rfl, rfl, h, hm, hn⟩ ?_ ?_
  · rintro x ys env s ⟨ms, f9, rfl, hy, ht, hms, hnd⟩
    cases ms with
    | nil => cases hy
    | cons m ms =>
      obtain ⟨rfl, rfl⟩ := List.cons.inj hy
      obtain ⟨m1, m2⟩ := hms m (by simp)
      have nd := List.nodup_cons.mp hnd
      have ma : methT s .append (L.map T.d) [.d .none] = some (.d .none, (L ++ [PyData.none]).map .d) := m_app (by show _ < 16777216; omega)
      have rr : rd s (.ref m) = some (.list L) := MP.rd_ref m2
      simp! only [rr, hr, decide_true, m2, ma, olds_map]
      refine ⟨ms, _, rfl, rfl, ?_, fun i hi => ?_, nd.2⟩
      · obtain ⟨a, b, e, q⟩ := ht
        exact ⟨a, b, by rw [List.getElem?_set_ne m1]; exact e, q⟩
      · obtain ⟨q1, q2⟩ := hms i (by simp [hi])
        refine ⟨q1, by rw [List.getElem?_set_ne (fun e => nd.1 (by rw [e]; exact hi))]; exact q2⟩
  · rintro env s ⟨ms, f9, rfl, hy, ht, hms, hnd⟩
    exact hk _ _ ht
end
end Lw

namespace Lw
open PySem MP Nt Et
def bdy : List S := match d_law.body with | .for _ _ (_ :: .for _ _ b :: _) :: _ => b | _ => []
section
variable {n wf : Nat} {st : Store} {c : Nat} {X : XC} {k : RV → Store → Prop}
theorem tp_app (h : Tp st c) {s2 : Store} : Tp (st ++ s2) c := by
  obtain ⟨a, b, e, q⟩ := h
  exact ⟨a, b, by rw [List.getElem?_append_left (List.getElem?_eq_some_iff.mp e).1]; exact e, q⟩
theorem bm {x : MP.D} {j : Int} {m : Nat} (hj : j = m) (hm : m ≤ 1000) : binV .mul (.tup [T.d x]) (.dat (.int j)) = some (.t (.d (.tuple (List.replicate m x)))) := by
  subst hj
  rw [b_mulT (by simp only [List.length_cons, List.length_nil]; omega), rep_const]
  rw [show ((m : Int).toNat) = m from rfl, mk_t, pu_map, mkT_some]
theorem turnB {ws : List Int} {z : T} {i0 v1 : T} {v2 v3 v6 v8 v9 v10 v11 v12 : Option T} {XS : XS_} {ks : KS} (hs : Tp st c) (hc : chkF ws = true) (hw : widthsB (cD ws) = true)
    (h : ∀ s' (v6 v7 v8 v9 v10 v11 v12 : Option T), Tp s' c → ks .next [some i0, some v1, v2, v3, some (.ref c), some z, v6, v7, v8, v9, v10, v11, v12] s') :
    (MP.execs (callN tbl wf 29) wf (bdy.drop 2) [some i0, some v1, v2, v3, some (.ref c), some z, v6, some (.d (cD ws)), v8, v9, v10, v11, v12] st).wp XS ks := by
  obtain ⟨L, R⟩ := right_of hc
  have RL := fun (st : Store) (X : XC) (k : RV → Store → Prop) => show (callN tbl wf 29 9 [.d (cD ws)] st).wp X k = _ from R.law (n := 28) hw
  have RH := fun (st : Store) (X : XC) (k : RV → Store → Prop) => show (callN tbl wf 29 5 [.d (cD ws)] st).wp X k = _ from R.run (n := 26) hw
  unfold bdy d_law
  simp only [List.drop]
  simp! only [RL, RH, pk1]
  refine told_loop (L := L) (ms := [st.length, (st ++ [Cell.lst (L.map T.d)]).length]) R.shown (by have := R.len; omega) (c := c) ?_ ?_ ?_ ?_
  · exact tp_app (tp_app hs)
  · intro m hm
    have lc := hs.lt
    simp only [List.mem_cons, List.not_mem_nil, or_false] at hm
    rcases hm with rfl | rfl
    · exact ⟨by omega, by simp⟩
    · refine ⟨by simp; omega, by simp⟩
  · simp
  intro s1 f9 t1
  have b1 := bm (x := .int 1) (j := 18) (m := 18) rfl (by decide)
  have b2 := bm (x := .int 8) (j := 5) (m := 5) rfl (by decide)
  have b3 := bm (x := .int 3) (j := 9) (m := 9) rfl (by decide)
  have b4 := bm (x := .int 2) (j := 17) (m := 17) rfl (by decide)
  have b5 := bm (x := .int 8) (j := 17) (m := 17) rfl (by decide)
  have b6 := bm (x := .int 1) (j := 17) (m := 17) rfl (by decide)
  simp! only [b1]
  refine (show (callN tbl wf 29 8 _ _).wp _ _ from (oneE (n := 27) (xs := oddL) t1 (by decide) (by decide)).mono ?_)
  rintro v s2 ⟨⟨y, hy, rfl⟩, k2⟩
  have yo := List.all_eq_true.mp odd_no y hy
  rw [Bool.and_eq_true, Bool.not_eq_true'] at yo
  simp! only [b2, b3, b4, b5, b6]
  refine (show (callN tbl wf 29 8 _ _).wp _ _ from (oneE (n := 27) (xs := greatD) k2.2.2 (by decide) (by decide)).mono ?_)
  rintro v s3 ⟨⟨g, hg, rfl⟩, k3⟩
  obtain ⟨gs, rfl, gm, gw⟩ := great_of hg
  have RN := fun (st : Store) (X : XC) (k : RV → Store → Prop) => show (callN tbl wf 29 5 [.d y] st).wp X k = _ from heaps_no (n := 26) yo.1
  have RM := fun (st : Store) (X : XC) (k : RV → Store → Prop) => show (callN tbl wf 29 5 [.d (cD gs)] st).wp X k = _ from many_of (n := 26) gm gw
  simp! only [RN, RM, lk9, lk10, yo.2, decide_true]
  exact h _ _ _ _ _ _ _ _ k3.2.2
theorem turn {z : T} {i0 v1 : T} {v2 v3 v6 v7 v8 v9 v10 v11 v12 : Option T} {XS : XS_} {ks : KS} (hs : Tp st c)
    (h : ∀ s' (v6 v7 v8 v9 v10 v11 v12 : Option T), Tp s' c → ks .next [some i0, some v1, v2, v3, some (.ref c), some z, v6, v7, v8, v9, v10, v11, v12] s') :
    (MP.execs (callN tbl wf 29) wf bdy [some i0, some v1, v2, v3, some (.ref c), some z, v6, v7, v8, v9, v10, v11, v12] st).wp XS ks := by
  obtain ⟨rest, hr⟩ : ∃ rest, rest = bdy.drop 2 := ⟨_, rfl⟩
  have hb : bdy = bdy.take 2 ++ rest := by rw [hr, List.take_append_drop]
  rw [hb]
  unfold bdy d_law
  simp only [List.take, List.cons_append, List.nil_append]
  simp! only []
  refine (show (callN tbl wf 29 8 _ _).wp _ _ from (oneE (n := 27) hs (by simp) (by simp)).mono ?_)
  rintro v s1 ⟨⟨x, hx, rfl⟩, k1⟩
  obtain ⟨m, rfl, m1, m3⟩ : ∃ m : Int, x = .int m ∧ 1 ≤ m ∧ m ≤ 3 := by
    simp only [List.mem_cons, List.not_mem_nil, or_false] at hx
    rcases hx with rfl | rfl | rfl <;> exact ⟨_, rfl, by decide, by decide⟩
  have fin : ∀ (ws : List Int) (s : Store) (v12 : Option T), ws.length ≥ 1 → (ws.length ≤ 3 ∨ (ws.length = 4 ∧ m ≤ 2)) → (∀ e ∈ ws, 0 ≤ e ∧ e ≤ m) → Tm c st s →
      (MP.execs (callN tbl wf 29) wf rest [some i0, some v1, v2, v3, some (.ref c), some z, some (.d (.int m)), some (.d (.tuple (ws.map PyData.int))), v8, v9, v10, v11, v12] s).wp XS ks := by
    intro ws s v12 l1 l2 he hT
    rw [hr]
    refine turnB (ws := ws) hT.2.2 (small_ok (fun e h => ⟨(he e h).1, by have := (he e h).2; omega⟩) ?_) (widthsB_of (fun e h => ⟨(he e h).1, by have := (he e h).2; omega⟩) l1 (by omega)) h
    rcases l2 with l2 | ⟨l2, hm⟩
    · omega
    · exact .inr (.inr (.inr ⟨l2, fun e h => by have := (he e h).2; omega⟩))
  rcases Decidable.em (m < 3) with hm | hm
  all_goals
    first | simp! only [(decide_eq_true hm : decide (m < 3) = true)] | simp! only [(decide_eq_false hm : decide (m < 3) = false)]
    refine (show (callN tbl wf 29 8 _ _).wp _ _ from (oneE (n := 27) k1.2.2 (by simp) (by simp)).mono ?_)
    rintro v s2 ⟨⟨x, hx, rfl⟩, k2⟩
    obtain ⟨r, rfl, r1, r3⟩ : ∃ r : Int, x = .int r ∧ 1 ≤ r ∧ (r ≤ 3 ∨ (r = 4 ∧ m ≤ 2)) := by
      simp only [List.mem_cons, List.not_mem_nil, or_false] at hx
      rcases hx with rfl | rfl | rfl | rfl | rfl <;> exact ⟨_, rfl, by decide, by omega⟩
    simp! only []
    rw [if_pos (by simp only [big]; omega)]
    simp! only [iL_eq]
    have il : (iL 0 r.toNat).length = r.toNat := by simp [iL]
    refine Res.wp.mono (compL_inv (k := fun rr s => ∃ ws : List Int, rr = (ws.map PyData.int).map T.d ∧ ws.length = r.toNat ∧ (∀ e ∈ ws, 0 ≤ e ∧ e ≤ m) ∧ Tm c st s) (fun xs acc s => ∃ ws : List Int, acc = (ws.map PyData.int).map T.d ∧ ws.length + xs.length = r.toNat ∧ (∀ e ∈ ws, 0 ≤ e ∧ e ≤ m) ∧ Tm c st s) (acc := []) ⟨[], rfl, by simp [il], by simp, k1.trans k2⟩ ?_ ?_) ?_
    · rintro x xs acc s ⟨ws, rfl, hl, he, hs2⟩
      simp! only []
      refine (show (callN tbl wf 29 7 _ _).wp _ _ from (pickE (n := 28) hs2.2.2 (by omega) (by omega)).mono ?_)
      rintro v s2 ⟨⟨i, rfl, i0, i1⟩, k2⟩
      simp! only []
      refine ⟨ws ++ [i], by simp, by simp only [List.length_cons, List.length_append, List.length_nil] at hl ⊢; omega, fun z hz => ?_, hs2.trans k2⟩
      rcases List.mem_append.mp hz with hz | hz
      · exact he z hz
      · rw [List.mem_singleton.mp hz]; omega
    · rintro acc s ⟨ws, rfl, hl, he, hs2⟩
      exact ⟨ws, rfl, by simpa using hl, he, hs2⟩
    rintro rr s3 ⟨ws, hr, hl, he, hs3⟩
    rw [List.nil_append] at hr
    subst hr
    simp! only []
    exact fin ws s3 v12 (by omega) (by omega) he hs3
end
end Lw

namespace Lw
open PySem MP Nt Et
def exB (ws : List Int) (L : List MP.D) : Bool := match heapsC ws with
  | .ok sts => runB ws sts && NO.hasC (.l (.l (.l .i))) L && NO.isEq (NO.cmpOs (heapsD ws sts) L)
  | _ => false
def L8 : List MP.D := [.tuple [.tuple [.int 0, .int 0, .int 8]]]
def L0 : List MP.D := [.tuple []]
theorem ex8 : exB [8] L8 = true := by decide +kernel
theorem ex0 : exB [0] L0 = true := by decide +kernel
section
variable {n wf : Nat} {st : Store} {c : Nat} {X : XC} {k : RV → Store → Prop}
theorem ex_run {ws : List Int} {L : List MP.D} (h : exB ws L = true) (hw : widthsB (cD ws) = true) : (callN tbl wf (n + 3) 5 [.d (cD ws)] st).wp X k = k (.new (L.map .d)) st := by
  unfold exB at h
  split at h
  · rename_i sts e1
    simp only [Bool.and_eq_true] at h
    obtain ⟨⟨h1, h2⟩, h3⟩ := h
    unfold runB at h1
    simp only [Bool.and_eq_true, Bool.not_eq_true'] at h1
    obtain ⟨⟨g1, g2⟩, g3⟩ := h1
    have g3' : sts ≠ [] := fun z => by subst z; cases g3
    have eh : heapsF ws = .ok sts := heapsC_eq.trans e1
    have p1 : (heapsD ws sts).Perm (sts.map (heapD (lastF ws))) := NO.sortD_perm _
    have q1 : ∀ y ∈ heapsD ws sts, NO.has (.l (.l .i)) y = true := fun y hy => by
      obtain ⟨s, _, rfl⟩ := List.mem_map.mp (p1.mem_iff.mp hy)
      exact has_bars (NO.sortD_perm _)
    have e : heapsD ws sts = L := (NO.eqs (.l (.l (.l .i))) _ _ (hasC_l q1) h2).mp (isEq_of h3)
    refine wp_eq (v := RV.new (L.map .d)) ?_
    refine heaps hw ?_
    rw [eh]
    exact ⟨g1, g2, g3', by rw [e], rfl⟩
  · cases h
def wideD : List MP.D := wideL.map cD
theorem wide_of {y : MP.D} (h : y ∈ wideD) : ∃ ws, y = cD ws ∧ chkF ws = true ∧ widthsB (cD ws) = true := by
  obtain ⟨ws, hw, rfl⟩ := List.mem_map.mp h
  refine ⟨ws, rfl, List.all_eq_true.mp wide_ok ws hw, ?_⟩
  exact List.all_eq_true.mp (show (wideL.all fun ws => widthsB (cD ws)) = true by decide +kernel) ws hw
theorem eq512 : cmpD .eq (.list [.int ((512 : Nat) : Int), .int ((1000 : Nat) : Int)]) (.list [.int 512, .int 1000]) = some true := by decide +kernel
theorem eq8 : cmpD .eq (.list L8) (.list [.tuple [.tuple [.int 0, .int 0, .int 8]]]) = some true := by decide +kernel
theorem eq0 : cmpD .eq (.list L0) (.list [.tuple []]) = some true := by decide +kernel
theorem ne11 : cmpD .ne (.list [.str (Str.ofString "many"), .int 1000]) (.list [.str (Str.ofString "many"), .int 1000]) = some false := by decide +kernel
theorem w11 : widthsB (cD (ones 11 1)) = true := by decide +kernel
theorem w10 : widthsB (cD (ones 10 1)) = true := by decide +kernel
theorem w5 : widthsB (cD [2, 4, 4, 3, 3]) = true := by decide +kernel
theorem w8 : widthsB (cD [8]) = true := by decide +kernel
theorem w0 : widthsB (cD [0]) = true := by decide +kernel
theorem g11 : isMany (heapsC (ones 11 1)) = true := List.all_eq_true.mp great_ok _ (by simp [greatL])
theorem the_law {ns : List Int} {wf : Nat} (hl : ns.length ≤ 63) (hb : ∀ z ∈ ns, Builtin.Int.intBits z ≤ 1048576) : (callN tbl wf 30 10 [.d (.list (ns.map .int))] []).wp noX fun v _ => v = .t (.d (.bool true)) := by
  obtain ⟨body, hbd⟩ : ∃ body, body = bdy := ⟨_, rfl⟩
  obtain ⟨rest, hr⟩ : ∃ rest, rest = d_law.body.drop 1 := ⟨_, rfl⟩
  have hd : tbl[10]? = some ⟨1, 13, (.for (.nm 1) (.rng [(.prim .max [(.con (.int 1)), (.prim .min [(.con (.int 3)), (.prim .len [(.var 0)])])])]) [(.setM 4 (.call 6 [(.var 0), (.var 1)])), (.for (.nm 5) (.rng [(.con (.int 3))]) body)]) :: rest⟩ := by rw [hbd, hr]; rfl
  rw [wp_callN (n := 29) hd rfl]
  simp! only []
  rw [if_pos (by simp only [big]; split <;> split <;> omega)]
  simp! only [iL_eq]
  refine forL_inv (fun ys env s => ∃ e1 e2 e3 e4 e5 e6 e7 e8 e9 e10 e11 e12 : Option T, env = [some (.d (.list (ns.map .int))), e1, e2, e3, e4, e5, e6, e7, e8, e9, e10, e11, e12] ∧ ∀ y ∈ ys, ∃ i : Int, y = .d (.int i) ∧ 0 ≤ i ∧ i ≤ 10) ⟨_, _, _, _, _, _, _, _, _, _, _, _, rfl, ?_⟩ ?_ ?_
  · intro y hy
    obtain ⟨z, hz, rfl⟩ := List.mem_map.mp hy
    obtain ⟨i, rfl, i0, i1⟩ := iL_mem hz
    exact ⟨i, rfl, i0, by split at i1 <;> split at i1 <;> omega⟩
  · rintro y ys env s ⟨e1, e2, e3, e4, e5, e6, e7, e8, e9, e10, e11, e12, rfl, hy⟩
    obtain ⟨i, rfl, i0, i1⟩ := hy y (by simp)
    simp! only []
    refine (show (callN tbl wf 29 6 _ _).wp _ _ from (tapeE (n := 28) hb i0 i1).mono ?_)
    rintro v s1 ⟨⟨a, b, rfl, a0, b0, b1⟩, rfl⟩
    have src : Tp (s1 ++ [.dct [dgK, mxK] [.d (.int a), .d (.int b)]]) s1.length := ⟨a, b, by simp, a0, b0, b1⟩
    simp! only []
    rw [if_pos (by simp only [big]; omega)]
    simp! only [iL_eq]
    refine forL_inv (fun zs env s => ∃ e5 e6 e7 e8 e9 e10 e11 e12 : Option T, env = [some (.d (.list (ns.map .int))), some (.d (.int i)), e2, e3, some (.ref s1.length), e5, e6, e7, e8, e9, e10, e11, e12] ∧ Tp s s1.length) ⟨_, _, _, _, _, _, _, _, rfl, src⟩ ?_ ?_
    · rintro z zs env s ⟨e5, e6, e7, e8, e9, e10, e11, e12, rfl, hs⟩
      rw [wp_bt, oK_some, bT_ap, hbd]
      exact turn hs fun s' e6 e7 e8 e9 e10 e11 e12 h => ⟨_, _, _, _, _, _, _, _, rfl, h⟩
    · rintro env s ⟨e5, e6, e7, e8, e9, e10, e11, e12, rfl, hs⟩
      exact ⟨_, _, _, _, _, _, _, _, _, _, _, _, rfl, fun y hy' => hy y (by simp [hy'])⟩
  · rintro env s ⟨e1, e2, e3, e4, e5, e6, e7, e8, e9, e10, e11, e12, rfl, _⟩
    rw [hr]
    unfold d_law
    simp only [List.drop]
    have b11 := bm (x := .int 1) (j := 11) (m := 11) rfl (by decide)
    have b10 := bm (x := .int 1) (j := 10) (m := 10) rfl (by decide)
    simp! only []
    refine (show (callN tbl wf 29 6 _ _).wp _ _ from (tapeE (n := 28) hb (by decide) (by decide)).mono ?_)
    rintro v s1 ⟨⟨a, b, rfl, a0, b0, b1⟩, rfl⟩
    have src : Tp (s1 ++ [.dct [dgK, mxK] [.d (.int a), .d (.int b)]]) s1.length := ⟨a, b, by simp, a0, b0, b1⟩
    simp! only []
    refine (show (callN tbl wf 29 8 _ _).wp _ _ from (oneE (n := 27) (xs := wideD) src (by decide) (by decide)).mono ?_)
    rintro v s2 ⟨⟨y, hy, rfl⟩, k2⟩
    obtain ⟨ws, rfl, hc, hw⟩ := wide_of hy
    obtain ⟨L, R⟩ := right_of hc
    obtain ⟨M1, m1, r1⟩ := len_run len1 w10
    obtain ⟨M2, m2, r2⟩ := len_run len2 w5
    have RL := fun (st : Store) (X : XC) (k : RV → Store → Prop) => show (callN tbl wf 29 9 [.d (cD ws)] st).wp X k = _ from R.law (n := 28) hw
    have RH := fun (st : Store) (X : XC) (k : RV → Store → Prop) => show (callN tbl wf 29 5 [.d (cD ws)] st).wp X k = _ from R.run (n := 26) hw
    have R11 := fun (st : Store) (X : XC) (k : RV → Store → Prop) => show (callN tbl wf 29 5 [.d (.tuple [.int 1, .int 1, .int 1, .int 1, .int 1, .int 1, .int 1, .int 1, .int 1, .int 1, .int 1])] st).wp X k = _ from many_of (n := 26) g11 w11
    have R10 := fun (st : Store) (X : XC) (k : RV → Store → Prop) => show (callN tbl wf 29 5 [.d (.tuple [.int 1, .int 1, .int 1, .int 1, .int 1, .int 1, .int 1, .int 1, .int 1, .int 1])] st).wp X k = _ from r1 (n := 26)
    have R5 := fun (st : Store) (X : XC) (k : RV → Store → Prop) => show (callN tbl wf 29 5 [.d (.tuple [.int 2, .int 4, .int 4, .int 3, .int 3])] st).wp X k = _ from r2 (n := 26)
    have R8 := fun (st : Store) (X : XC) (k : RV → Store → Prop) => show (callN tbl wf 29 5 [.d (.tuple [.int 8])] st).wp X k = _ from ex_run (n := 26) ex8 w8
    have R0 := fun (st : Store) (X : XC) (k : RV → Store → Prop) => show (callN tbl wf 29 5 [.d (.tuple [.int 0])] st).wp X k = _ from ex_run (n := 26) ex0 w0
    simp! only [RL, RH, R.shown, decide_true, b11, R11, lk10, ne11, R8, eq8, R0, eq0, b10, R10, R5, m1, m2, eq512]
theorem run_ok (ns : List Int) (hl : ns.length ≤ 63) (hb : ∀ z ∈ ns, Builtin.Int.intBits z ≤ 1048576) : ∃ st, callN tbl 100000 30 10 [.d (.list (ns.map .int))] [] = .ok (.t (.d (.bool true))) st := by
  obtain ⟨v, s, e, rfl⟩ := (the_law (wf := 100000) hl hb).get
  exact ⟨s, e⟩
end
end Lw

theorem PySem.Challenge.cw_staybars_k74_heaps_with_widths_holds : PySem.Challenge.rw_staybars_k74_heaps_with_widths.Holds := by
  exact law_of_run Lw.run_ok
