import PyProof.Rows.All
import Wide.All
import OpenK.AllK
import Wide.FinOn
import KE.SortData
import KE.GoesMore
import HandS.ForMost
import HandS.Slots
import HandS.SlotsOwn
import HandS.Walk
import KE.KDictKeyed
import HandS.DictComp
import HandS.TupAny
import HandS.TupSets
import HandS.SortOrd
import HandS.Strs
import KE.SortKeyHeap
import KE.KLam
import PyProof.TupleOfSeq
import HandS.Lambda
import HandS.SortKw
import HandS.Iter
import HandS.Words
import HandS.ForExc
import HandS.IsInst
import HandS.Defaults
import HandS.Zip
import HandS.Conv
import HandS.Deep
import HandS.EndTab
import KE.KNestM
import PySem.Challenge.RW_seerings_k58_whole_orders_of_filed_cards
set_option Elab.async false
set_option linter.all false
set_option maxRecDepth 100000
/-! The plain law: orders, looks, what fits; no program in sight. -/
namespace Sr
open PySem

abbrev Ord := List Int
def cutO (o : Ord) (p : Nat) : Ord := o.take p ++ o.drop (p + 1)
def putO (o : Ord) (p g : Nat) : Ord := ((cutO o p).take g ++ (o.drop p).take 1) ++ (cutO o p).drop g
def addK (ks : List Ord) (k : Ord) : List Ord := if k ∈ ks then ks else ks ++ [k]
def addAll (ks l : List Ord) : List Ord := l.foldl addK ks
def movesAt (o : Ord) (p : Nat) : List Ord := (List.range o.length).map (putO o p)
def addAt (o : Ord) (ks : List Ord) (p : Nat) : List Ord := addAll ks (movesAt o p)
def addMoves (ks : List Ord) (o : Ord) : List Ord := (List.range o.length).foldl (addAt o) ks
def behind (os : List Ord) : List Ord := os.foldl addMoves (addAll [] os)
def turnsO (os : List Ord) : Nat → List Ord
  | 0 => os
  | n + 1 => behind (turnsO os n)
def idO (n : Nat) : Ord := (List.range n).map fun (i : Nat) => (i : Int)
def allO (n m : Nat) : List Ord := turnsO [idO n] m

/-! ### members, no order twice -/
theorem mem_addK {ks : List Ord} {k x : Ord} : x ∈ addK ks k ↔ x ∈ ks ∨ x = k := by
  unfold addK
  split
  · rename_i h
    constructor
    · exact .inl
    · rintro (h1 | rfl)
      · exact h1
      · exact h
  · simp
theorem mem_addAll {x : Ord} : ∀ {l ks : List Ord}, x ∈ addAll ks l ↔ x ∈ ks ∨ x ∈ l
  | [], ks => by simp [addAll]
  | k :: l, ks => by
    have ih := mem_addAll (x := x) (l := l) (ks := addK ks k)
    show x ∈ addAll (addK ks k) l ↔ _
    rw [ih, mem_addK, List.mem_cons, or_assoc]
theorem nd_addK {ks : List Ord} {k : Ord} (h : ks.Nodup) : (addK ks k).Nodup := by
  unfold addK
  split
  · exact h
  · rename_i hn
    refine List.nodup_append.mpr ⟨h, (List.pairwise_singleton _ _), fun a ha b hb e => ?_⟩
    rw [List.mem_singleton.mp hb] at e
    exact hn (e ▸ ha)
theorem nd_addAll : ∀ {l ks : List Ord}, ks.Nodup → (addAll ks l).Nodup
  | [], _, h => h
  | _ :: l, _, h => nd_addAll (l := l) (nd_addK h)
theorem len_addK (ks : List Ord) (k : Ord) : (addK ks k).length ≤ ks.length + 1 := by
  unfold addK
  split
  · exact Nat.le_succ _
  · simp
theorem len_addAll : ∀ (l ks : List Ord), (addAll ks l).length ≤ ks.length + l.length
  | [], ks => Nat.le_refl _
  | k :: l, ks => by
    have h1 := len_addAll l (addK ks k)
    have h2 := len_addK ks k
    show (addAll (addK ks k) l).length ≤ _
    rw [List.length_cons]
    omega
theorem fold_at (o : Ord) : ∀ (l : List Nat) (ks : List Ord), ks.Nodup → (l.foldl (addAt o) ks).Nodup ∧ (∀ x, x ∈ l.foldl (addAt o) ks ↔ x ∈ ks ∨ ∃ p ∈ l, x ∈ movesAt o p) ∧ (l.foldl (addAt o) ks).length ≤ ks.length + l.length * o.length
  | [], ks, h => ⟨h, fun x => by simp, by simp⟩
  | p :: l, ks, h => by
    obtain ⟨h1, h2, h3⟩ := fold_at o l (addAt o ks p) (nd_addAll h)
    refine ⟨h1, fun x => ?_, ?_⟩
    · show x ∈ l.foldl (addAt o) (addAt o ks p) ↔ _
      rw [h2]
      unfold addAt
      rw [mem_addAll]
      constructor
      · rintro ((a | a) | ⟨q, hq, a⟩)
        · exact .inl a
        · exact .inr ⟨p, List.mem_cons_self, a⟩
        · exact .inr ⟨q, List.mem_cons_of_mem _ hq, a⟩
      · rintro (a | ⟨q, hq, a⟩)
        · exact .inl (.inl a)
        · rcases List.mem_cons.mp hq with rfl | hq
          · exact .inl (.inr a)
          · exact .inr ⟨q, hq, a⟩
    · show (l.foldl (addAt o) (addAt o ks p)).length ≤ _
      have h4 := len_addAll (movesAt o p) ks
      have h5 : (movesAt o p).length = o.length := by simp [movesAt]
      have h6 : (addAt o ks p).length ≤ ks.length + o.length := by
        unfold addAt
        omega
      rw [List.length_cons, Nat.add_mul, Nat.one_mul]
      omega
theorem moves_all (ks : List Ord) (o : Ord) (h : ks.Nodup) : (addMoves ks o).Nodup ∧ (∀ x, x ∈ addMoves ks o ↔ x ∈ ks ∨ ∃ p, p < o.length ∧ x ∈ movesAt o p) ∧ (addMoves ks o).length ≤ ks.length + o.length * o.length := by
  obtain ⟨h1, h2, h3⟩ := fold_at o (List.range o.length) ks h
  refine ⟨h1, fun x => ?_, ?_⟩
  · show x ∈ (List.range o.length).foldl (addAt o) ks ↔ _
    rw [h2]
    simp only [List.mem_range]
  · rw [List.length_range] at h3
    exact h3
theorem fold_moves : ∀ (l : List Ord) (ks : List Ord), ks.Nodup → (l.foldl addMoves ks).Nodup ∧ (∀ x, x ∈ l.foldl addMoves ks ↔ x ∈ ks ∨ ∃ o ∈ l, ∃ p, p < o.length ∧ x ∈ movesAt o p) ∧
    ∀ n, (∀ o ∈ l, o.length ≤ n) → (l.foldl addMoves ks).length ≤ ks.length + l.length * (n * n)
  | [], ks, h => ⟨h, fun x => by simp, fun n _ => by simp⟩
  | o :: l, ks, h => by
    obtain ⟨a1, a2, a3⟩ := moves_all ks o h
    obtain ⟨h1, h2, h3⟩ := fold_moves l (addMoves ks o) a1
    refine ⟨h1, fun x => ?_, fun n hn => ?_⟩
    · show x ∈ l.foldl addMoves (addMoves ks o) ↔ _
      rw [h2, a2]
      constructor
      · rintro ((a | a) | ⟨q, hq, a⟩)
        · exact .inl a
        · exact .inr ⟨o, List.mem_cons_self, a⟩
        · exact .inr ⟨q, List.mem_cons_of_mem _ hq, a⟩
      · rintro (a | ⟨q, hq, a⟩)
        · exact .inl (.inl a)
        · rcases List.mem_cons.mp hq with rfl | hq
          · exact .inl (.inr a)
          · exact .inr ⟨q, hq, a⟩
    · have h4 := h3 n fun q hq => hn q (List.mem_cons_of_mem _ hq)
      have h5 := hn o List.mem_cons_self
      have h6 : o.length * o.length ≤ n * n := Nat.mul_le_mul h5 h5
      show (l.foldl addMoves (addMoves ks o)).length ≤ _
      rw [List.length_cons, Nat.add_mul, Nat.one_mul]
      omega
theorem behind_nd (os : List Ord) : (behind os).Nodup := (fold_moves os _ (nd_addAll List.nodup_nil)).1
theorem mem_behind {os : List Ord} {x : Ord} : x ∈ behind os ↔ x ∈ os ∨ ∃ o ∈ os, ∃ p, p < o.length ∧ x ∈ movesAt o p := by
  unfold behind
  rw [(fold_moves os _ (nd_addAll List.nodup_nil)).2.1, mem_addAll]
  simp
theorem len_behind {os : List Ord} {n : Nat} (h : ∀ o ∈ os, o.length ≤ n) : (behind os).length ≤ os.length + os.length * (n * n) := by
  have h1 := (fold_moves os _ (nd_addAll (l := os) List.nodup_nil)).2.2 n h
  have h2 := len_addAll os []
  rw [List.length_nil] at h2
  unfold behind
  omega

/-! ### an order of n cards -/
structure Good (n : Nat) (o : Ord) : Prop where
  len : o.length = n
  ge : ∀ k ∈ o, 0 ≤ k ∧ k < n
theorem cutO_len {o : Ord} {p : Nat} (h : p < o.length) : (cutO o p).length + 1 = o.length := by
  unfold cutO
  rw [List.length_append, List.length_take, List.length_drop]
  omega
theorem mem_cutO {o : Ord} {p : Nat} {k : Int} (h : k ∈ cutO o p) : k ∈ o := by
  rcases List.mem_append.mp h with h | h
  · exact List.mem_of_mem_take h
  · exact List.mem_of_mem_drop h
theorem putO_good {n : Nat} {o : Ord} {p g : Nat} (h : Good n o) (hp : p < o.length) (hg : g < o.length) : Good n (putO o p g) := by
  have hc := cutO_len hp
  refine ⟨?_, fun k hk => ?_⟩
  · unfold putO
    rw [List.length_append, List.length_append, List.length_take, List.length_take, List.length_drop, List.length_drop]
    have := h.len
    omega
  · refine h.ge k ?_
    unfold putO at hk
    rcases List.mem_append.mp hk with hk | hk
    · rcases List.mem_append.mp hk with hk | hk
      · exact mem_cutO (List.mem_of_mem_take hk)
      · exact List.mem_of_mem_drop (List.mem_of_mem_take hk)
    · exact mem_cutO (List.mem_of_mem_drop hk)
theorem movesAt_good {n : Nat} {o x : Ord} {p : Nat} (h : Good n o) (hp : p < o.length) (hx : x ∈ movesAt o p) : Good n x := by
  obtain ⟨g, hg, rfl⟩ := List.mem_map.mp hx
  exact putO_good h hp (List.mem_range.mp hg)
theorem idO_len (n : Nat) : (idO n).length = n := by simp [idO]
theorem idO_good (n : Nat) : Good n (idO n) := by
  refine ⟨idO_len n, fun k hk => ?_⟩
  obtain ⟨i, hi, rfl⟩ := List.mem_map.mp hk
  have := List.mem_range.mp hi
  omega
theorem behind_good {n : Nat} {os : List Ord} (h : ∀ o ∈ os, Good n o) : ∀ o ∈ behind os, Good n o := fun x hx => by
  rcases mem_behind.mp hx with hx | ⟨o, ho, p, hp, hx⟩
  · exact h x hx
  · exact movesAt_good (h o ho) hp hx
theorem allO_good (n : Nat) : ∀ m, ∀ o ∈ allO n m, Good n o
  | 0 => fun o ho => by
    have e : o = idO n := List.mem_singleton.mp ho
    rw [e]
    exact idO_good n
  | m + 1 => behind_good (allO_good n m)
theorem allO_nd (n : Nat) : ∀ m, (allO n m).Nodup
  | 0 => (List.pairwise_singleton _ _)
  | m + 1 => behind_nd _
theorem allO_mono (n m : Nat) : ∀ o ∈ allO n m, o ∈ allO n (m + 1) := fun o ho => mem_behind.mpr (.inl ho)
theorem allO_id (n : Nat) : ∀ m, idO n ∈ allO n m
  | 0 => List.mem_singleton.mpr rfl
  | m + 1 => allO_mono n m _ (allO_id n m)
theorem allO_1 {n : Nat} (h : n ≤ 6) : (allO n 1).length = 1 + (n - 1) * (n - 1) := by
  have key : ∀ n, n < 7 → (allO n 1).length = 1 + (n - 1) * (n - 1) := by decide +kernel
  exact key n (by omega)
theorem allO_few {n m : Nat} (h : n ≤ 6) (hm : m ≤ 2) : (allO n m).length ≤ 1000 := by
  have h0 : (allO n 0).length = 1 := rfl
  have h1 := allO_1 h
  have h2 : (n - 1) * (n - 1) ≤ 5 * 5 := Nat.mul_le_mul (by omega) (by omega)
  have h3 : (allO n 2).length ≤ (allO n 1).length + (allO n 1).length * (6 * 6) := len_behind fun o ho => by
    rw [(allO_good n 1 o ho).len]
    exact h
  rcases (by omega : m = 0 ∨ m = 1 ∨ m = 2) with rfl | rfl | rfl <;> omega

/-! ### looks -/
def strLt (a b : Str) : Bool := decide (a.cps.toList < b.cps.toList)
/-- from the first card on -/
def oneLook (leaf : Bool) : List Str → Str → Nat
  | [], _ => 0
  | h :: r, x => if h = x then 1 else if leaf = true ∧ strLt x h = true then 1 else 1 + oneLook leaf r x
/-- by halves, from place a to place b -/
def halfLook (hs : List Str) (x : Str) : Nat → Int → Int → Nat
  | 0, _, _ => 0
  | f + 1, a, b => if a ≤ b then
      (if hs.getD ((a + b) / 2).toNat Str.empty = x then 1 else if strLt x (hs.getD ((a + b) / 2).toNat Str.empty) = true then 1 + halfLook hs x f a ((a + b) / 2 - 1) else 1 + halfLook hs x f ((a + b) / 2 + 1) b)
    else 0
def looksOf (rule : Str) (hs : List Str) (x : Str) : Nat :=
  if rule = "half" then halfLook hs x hs.length 0 ((hs.length : Int) - 1) else oneLook (decide (rule = "leaf")) hs x
theorem halfLook_le (hs : List Str) (x : Str) : ∀ (f : Nat) (a b : Int), halfLook hs x f a b ≤ f
  | 0, _, _ => Nat.le_refl _
  | f + 1, a, b => by
    have h1 := halfLook_le hs x f a ((a + b) / 2 - 1)
    have h2 := halfLook_le hs x f ((a + b) / 2 + 1) b
    unfold halfLook
    split
    · split
      · omega
      · split <;> omega
    · omega
theorem oneLook_le (leaf : Bool) (x : Str) : ∀ hs : List Str, oneLook leaf hs x ≤ hs.length
  | [] => Nat.le_refl _
  | h :: r => by
    have := oneLook_le leaf x r
    unfold oneLook
    rw [List.length_cons]
    split
    · omega
    · split <;> omega
theorem looksOf_le (rule : Str) (hs : List Str) (x : Str) : looksOf rule hs x ≤ hs.length := by
  unfold looksOf
  split
  · exact halfLook_le ..
  · exact oneLook_le ..

/-! ### what fits -/
def arr (hs : List Str) (o : Ord) : List Str := o.map fun k => hs.getD k.toNat Str.empty
def fit (rule : Str) (hs : List Str) (tally : List (Str × Int)) (o : Ord) : Bool := tally.all fun t => decide ((looksOf rule (arr hs o) t.1 : Int) = t.2)
def leO (a b : Ord) : Bool := decide (a ≤ b)
def sortO (os : List Ord) : List Ord := os.mergeSort leO
def poss (rule : Str) (hs : List Str) (tally : List (Str × Int)) (m : Nat) : List Ord := sortO ((allO hs.length m).filter (fit rule hs tally))
def told (n : Nat) (os : List Ord) : List Int := (idO n).filter fun k => os.all fun o => decide (o.getD k.toNat 0 ≠ k)

theorem leO_tr : ∀ a b c : Ord, leO a b = true → leO b c = true → leO a c = true := fun a b c h1 h2 =>
  decide_eq_true (List.le_trans (of_decide_eq_true h1) (of_decide_eq_true h2))
theorem leO_tot : ∀ a b : Ord, (leO a b || leO b a) = true := fun a b => by
  rcases List.le_total a b with h | h
  · simp [leO, h]
  · simp [leO, h]
theorem leO_anti {a b : Ord} (h1 : leO a b = true) (h2 : leO b a = true) : a = b := List.le_antisymm (of_decide_eq_true h1) (of_decide_eq_true h2)
theorem sortO_perm (os : List Ord) : (sortO os).Perm os := List.mergeSort_perm _ _
theorem sortO_sorted (os : List Ord) : (sortO os).Pairwise fun a b => leO a b = true := List.pairwise_mergeSort leO_tr leO_tot os
theorem sorted_eq : ∀ {l m : List Ord}, l.Perm m → l.Pairwise (fun a b => leO a b = true) → m.Pairwise (fun a b => leO a b = true) → l = m := fun {l m} p h1 h2 =>
  p.eq_of_pairwise (fun a b _ _ x y => leO_anti x y) h1 h2
theorem sortO_of {l m : List Ord} (p : l.Perm m) (h : m.Pairwise fun a b => leO a b = true) : sortO l = m := sorted_eq ((sortO_perm l).trans p) (sortO_sorted l) h
theorem mem_sortO {os : List Ord} {x : Ord} : x ∈ sortO os ↔ x ∈ os := (sortO_perm os).mem_iff
theorem mem_poss {rule : Str} {hs : List Str} {tally : List (Str × Int)} {m : Nat} {x : Ord} : x ∈ poss rule hs tally m ↔ x ∈ allO hs.length m ∧ fit rule hs tally x = true := by
  unfold poss
  rw [mem_sortO, List.mem_filter]
theorem poss_nd (rule : Str) (hs : List Str) (tally : List (Str × Int)) (m : Nat) : (poss rule hs tally m).Nodup := (sortO_perm _).nodup_iff.mpr (List.Nodup.sublist List.filter_sublist (allO_nd _ _))
theorem poss_good {rule : Str} {hs : List Str} {tally : List (Str × Int)} {m : Nat} : ∀ o ∈ poss rule hs tally m, Good hs.length o := fun o ho => allO_good _ _ o (mem_poss.mp ho).1
theorem poss_few {rule : Str} {hs : List Str} {tally : List (Str × Int)} {m : Nat} (h : hs.length ≤ 6) (hm : m ≤ 2) : (poss rule hs tally m).length ≤ 1000 := by
  unfold poss
  rw [(sortO_perm _).length_eq]
  exact Nat.le_trans (List.length_filter_le _ _) (allO_few h hm)
theorem poss_mono {rule : Str} {hs : List Str} {tally : List (Str × Int)} {m : Nat} : ∀ o ∈ poss rule hs tally m, o ∈ poss rule hs tally (m + 1) := fun o ho =>
  mem_poss.mpr ⟨allO_mono _ _ _ (mem_poss.mp ho).1, (mem_poss.mp ho).2⟩
theorem fit_less {rule : Str} {hs : List Str} {tally : List (Str × Int)} {o : Ord} (h : fit rule hs tally o = true) : fit rule hs tally.dropLast o = true :=
  List.all_eq_true.mpr fun t ht => List.all_eq_true.mp h t (List.dropLast_subset _ ht)
theorem poss_less {rule : Str} {hs : List Str} {tally : List (Str × Int)} {m : Nat} : ∀ o ∈ poss rule hs tally m, o ∈ poss rule hs tally.dropLast m := fun o ho =>
  mem_poss.mpr ⟨(mem_poss.mp ho).1, fit_less (mem_poss.mp ho).2⟩
/-- sorted(set(orders)) is orders -/
theorem poss_again {rule : Str} {hs : List Str} {tally : List (Str × Int)} {m : Nat} {l : List Ord} (p : l.Perm (poss rule hs tally m)) : sortO l = poss rule hs tally m := sortO_of p (sortO_sorted _)
theorem poss_own {rule : Str} {hs : List Str} {tally : List (Str × Int)} {m : Nat} : idO hs.length ∈ poss rule hs tally m ↔ fit rule hs tally (idO hs.length) = true := by
  rw [mem_poss]
  exact ⟨fun h => h.2, fun h => ⟨allO_id _ _, h⟩⟩
theorem fit_nil (rule : Str) (hs : List Str) (o : Ord) : fit rule hs [] o = true := rfl
theorem poss_nil (rule : Str) (hs : List Str) (m : Nat) : poss rule hs [] m = sortO (allO hs.length m) := by
  unfold poss
  rw [List.filter_eq_self.mpr fun o _ => fit_nil rule hs o]
theorem poss_nil0 (rule : Str) (hs : List Str) : poss rule hs [] 0 = [idO hs.length] := by
  rw [poss_nil]
  exact sortO_of (List.Perm.refl _) (List.pairwise_singleton _ _)
theorem poss_nil1 (rule : Str) (hs : List Str) (h : hs.length ≤ 6) : (poss rule hs [] 1).length = 1 + (hs.length - 1) * (hs.length - 1) := by
  rw [poss_nil, (sortO_perm _).length_eq]
  exact allO_1 h
/-- with no move no card is misplaced -/
theorem told_0 {rule : Str} {hs : List Str} {tally : List (Str × Int)} (h : poss rule hs tally 0 ≠ []) : told hs.length (poss rule hs tally 0) = [] := by
  obtain ⟨o, ho⟩ := List.exists_mem_of_ne_nil _ h
  have e : o = idO hs.length := List.mem_singleton.mp (mem_poss.mp ho).1
  subst e
  unfold told
  rw [List.filter_eq_nil_iff]
  intro k hk hall
  obtain ⟨i, hi, rfl⟩ := List.mem_map.mp hk
  have hi' := List.mem_range.mp hi
  have q := of_decide_eq_true (List.all_eq_true.mp hall _ ho)
  refine q ?_
  have e1 : ((i : Int)).toNat = i := Int.toNat_natCast i
  rw [e1]
  simp [idO, List.getD, hi']
theorem told_out {n : Nat} {os : List Ord} {o : Ord} (ho : o ∈ os) : (told n os).filter (fun k => decide (o.getD k.toNat 0 = k)) = [] := by
  rw [List.filter_eq_nil_iff]
  intro k hk q
  have h1 := (List.mem_filter.mp hk).2
  exact of_decide_eq_true (List.all_eq_true.mp h1 o ho) (of_decide_eq_true q)
theorem told_in {n : Nat} {os : List Ord} {k : Int} (h : k ∈ told n os) : 0 ≤ k ∧ k < n := (idO_good n).ge k (List.mem_filter.mp h).1

/-! ### filing -/
def leH (a b : Nat × Str) : Bool := decide (a.2.cps.toList ≤ b.2.cps.toList)
def fileC (cs : List (Nat × Str)) : List (Nat × Str) := cs.mergeSort leH
theorem leH_tr : ∀ a b c : Nat × Str, leH a b = true → leH b c = true → leH a c = true := fun a b c h1 h2 =>
  decide_eq_true (List.le_trans (of_decide_eq_true h1) (of_decide_eq_true h2))
theorem leH_tot : ∀ a b : Nat × Str, (leH a b || leH b a) = true := fun a b => by
  rcases List.le_total a.2.cps.toList b.2.cps.toList with h | h
  · simp [leH, h]
  · simp [leH, h]
theorem fileC_perm (cs : List (Nat × Str)) : (fileC cs).Perm cs := List.mergeSort_perm _ _
theorem fileC_len (cs : List (Nat × Str)) : (fileC cs).length = cs.length := (fileC_perm cs).length_eq
theorem fileC_again (cs : List (Nat × Str)) : fileC (fileC cs) = fileC cs := List.mergeSort_of_pairwise (List.pairwise_mergeSort leH_tr leH_tot cs)
end Sr
set_option Elab.async false
set_option linter.all false
set_option maxRecDepth 100000
set_option maxHeartbeats 4000000
/-! len(o), o[k] of a slotted instance; enumerate of a tuple. -/
namespace SrR
open PySem PySem.Spec PyProof.Rows L2 SlX
section
variable {X : Cx} {CX : CXT} {n : Nat} {C g : Addr} {sp : Sp} {E : XK}
/-- len(o), o of the class at C whose __len__ stands at g -/
def rLenSl (C : Addr) (sp : Sp) (E : XK) : List V → Hp → VK → Prop := fun xs H Q => ∃ a dx vs, xs = [V.ref a] ∧ Slt H a C dx vs ∧ sp [.ref a] H (fun z H' => ∃ i : Int, z = .int i ∧ 0 ≤ i ∧ i < 2 ^ 63 ∧ Q z H') E
theorem call_lenSl (hs : PySem.W.findIn X.K (.ref C) "__len__" = some (some (.ref g))) (hf : PySem.W.isFn X.K (.ref g) = true) (F : FnR X.prog X.w X.K X.mg X.base CX n g sp) (hr : Room (n + 1) X.A) (hx : Passes CX X E) : CallR X (.builtin "len") (rLenSl C sp E) := by
  intro pins s σ H xs us Q I r h
  obtain ⟨a, dx, vs, rfl, hsl, q⟩ := h
  obtain ⟨u, rfl, ru⟩ := Vals.one r
  cases (show u = Value.ref a from ru)
  obtain ⟨sl, od, _, J, _⟩ := slt_inst I hsl
  obtain ⟨m, hF⟩ := I.fr
  refine PySem.W.len_K hF I.ok.mod.kin J hs hf (wpAny_mono (wpAny_call (run_at (us := [.ref a]) (ws := [.ref a]) F hr.in1 I.env0.in1 hx I (.cons rfl .nil) q)) (fun v s' z => ?_) fun _ _ x => x)
  obtain ⟨z', H', I', rz, i, ei, h0, h1, qz⟩ := z
  subst ei
  obtain ⟨t, e⟩ := (show ∃ t, v = Value.int i t from rz)
  subst e
  exact ⟨⟨h0, h1⟩, ⟨.int i, H', I'.tok _, ⟨_, rfl⟩, qz⟩⟩
/-- o[k], o of the class at C whose __getitem__ stands at g -/
def rIxSl (C : Addr) (sp : Sp) (E : XK) : R2 := fun x y H Q => ∃ a dx vs, x = .ref a ∧ Slt H a C dx vs ∧ sp [x, y] H Q E
theorem pe_ixSl {a b : Expr} {ta tb : TE} {pos : Pos} (hs : PySem.W.findIn X.K (.ref C) "__getitem__" = some (some (.ref g))) (hn : PySem.W.fnIn X.K g = true) (hf : PySem.W.isFn X.K (.ref g) = true) (F : FnR X.prog X.w X.K X.mg X.base CX n g sp) (hr : Room (n + 1) X.A) (hx : Passes CX X E)
    (ha : PE X a ta) (hb : PE X b tb) (hsl : ∀ o i, subscripted b true o i = runValue (.builtin "lifetime.subscript" ⟨[o, i], []⟩)) : PE X (.Subscript a b pos) (tOp (rIxSl C sp E) ta tb) := by
  refine ⟨fun pins s σ H Q I h => ?_⟩
  refine Subscript_ (binT ha hb I h fun v u s2 x y H2 I2 rx ry q => ?_)
  obtain ⟨p, dx, vs, rfl, hp, q⟩ := q
  cases (show v = Value.ref p from rx)
  obtain ⟨sl, od, _, J, _⟩ := slt_inst I2 hp
  obtain ⟨m, hF⟩ := I2.fr
  exact PySem.W.sub_K hF I2.ok.mod.kin J hs hn hf (wpAny_call (run_at (us := [.ref p, u]) (ws := [.ref p, y]) F hr.in1 I2.env0.in1 hx I2 (.cons rfl (.cons ry .nil)) q)) (hsl _ _)
end

/-! ### enumerate(tuple) -/
theorem meets_enum_tup (l : Addr) (items : Array Value) (n : Nat) (dct : Option Addr) (sl : Array (Option Value)) :
    Meets (Builtin.«enumerate.__new__» ⟨[.type "enumerate", .ref l], []⟩) (fun _ R s => s.heap.get? l = some { cls := .type "tuple", dict := dct, data := .seq items n, slots := sl } ∧
      R (.ok (.ret (.ref (s.heap.objs.size + 1))))
        { s with heap := (s.heap.push { cls := .type "tuple_iterator", data := .fields #[.ref l, .int 0 0] }).push { cls := .type "enumerate", data := .fields #[.none, .bool false, .ref s.heap.objs.size, rawInt 0, .none, .none] } }) :=
  .of_wp fun prog w A R s h => by
    obtain ⟨hp, g, d, tk, os⟩ := s
    obtain ⟨hl, h⟩ := h
    have hsub := sub_enumerate
    have hT : Heap.IsTuple (Shared.heap ⟨hp, g, d, tk, os⟩) l items := ⟨_, hl, rfl, n, rfl⟩
    have hz : (hp.push { cls := .type "tuple_iterator", data := .fields #[.ref l, .int 0 0] }).objs.size = hp.objs.size + 1 := Heap.size_push ..
    wp_walk using AutoSeq1.wpAny_loadPart' hl
    refine wpAny_stack_any fun st => wpAny_pure ?_
    split
    · rename_i c _ _ _ _ _
      cases (c == Value.type "enumerate")
      · wp_walk using AutoSeq1.wpAny_loadPart' hl, wpAny_pyIter_tuple hT
        rw [hz]
        exact ⟨_, rfl, h⟩
      · wp_walk using AutoSeq1.wpAny_loadPart' hl, wpAny_pyIter_tuple hT
        rw [hz]
        exact ⟨_, rfl, h⟩
    · wp_walk using AutoSeq1.wpAny_loadPart' hl, wpAny_pyIter_tuple hT
      rw [hz]
      exact ⟨_, rfl, h⟩
theorem call_enum_tup {prog : Program} {w : World} {A : Around} {E : Value → Shared → Prop} {s : Shared} {l : Addr} {items : Array Value} {Q : Value → Shared → Prop} (hL : s.heap.IsTuple l items)
    (h : ∀ h', IsEnum h' (s.heap.objs.size + 1) s.heap.objs.size 0 .none → h'.IsTupleIter s.heap.objs.size l 0 → (∀ b o, s.heap.get? b = some o → h'.get? b = some o) → Q (.ref (s.heap.objs.size + 1)) { s with heap := h' }) :
    wpAny (model prog w) A (call (.type "enumerate") [.ref l]) Q E s := by
  obtain ⟨⟨c, dct, dt, sl⟩, hl, hc, n, hd⟩ := hL
  replace hc : c = .type "tuple" := hc
  replace hd : dt = .seq items n := hd
  subst hc hd
  refine callType_new F.called_enumerate (by decide) (F.typeCall_enumerate_1 _) (F.newCall_enumerate_1 _) (fun obj => F.args_object_init_2 obj _) F.entry_enumerate_new (meets_enum_tup l items n dct sl) ⟨hl, ?_⟩
  have he : IsEnum ((s.heap.push { cls := .type "tuple_iterator", data := .fields #[.ref l, .int 0 0] }).push { cls := .type "enumerate", data := .fields #[.none, .bool false, .ref s.heap.objs.size, rawInt 0, .none, .none] }) (s.heap.objs.size + 1) s.heap.objs.size 0 .none := by
    have q := Heap.get?_push_size (s.heap.push { cls := .type "tuple_iterator", data := .fields #[.ref l, .int 0 0] }) (o := { cls := .type "enumerate", data := .fields #[.none, .bool false, .ref s.heap.objs.size, rawInt 0, .none, .none] }) rfl
    rw [Heap.size_push] at q
    exact q
  exact ⟨⟨_, he, rfl⟩, h _ he ⟨_, Heap.get?_push_of_some _ (Heap.get?_push_size _ rfl), rfl, rfl⟩ fun b o x => Heap.get?_push_of_some _ (Heap.get?_push_of_some _ x)⟩
/-- the tuple at a, each item in a new pair -/
def Iet (K : PySem.W.Frag) (a : Addr) : It :=
  ⟨fun i H => ∃ (xs : List V) (x : V), SqT K H a xs ∧ xs[i]? = some x, fun i H v H' => ∃ T x, v = .ref T ∧ H T = none ∧ H' = upd H T (.tup [.int (i : Nat), x]) ∧ ∀ xs, SqT K H a xs → xs[i]? = some x,
   fun i H => ∃ xs : List V, SqT K H a xs ∧ xs.length ≤ i⟩
theorem turn_enumT {P : Program} {w : World} {K : PySem.W.Frag} {elts : List Expr} {kk : Nat} {tpos : Pos} (a e it : Addr) :
    Turn P w K (.Tuple elts kk tpos) (Iet K a) [e, it] e (fun i h => (∃ old, IsEnum h e it ((i : Nat) : Int) old) ∧ h.IsTupleIter it a i ∧ e ≠ it) where
  mem := List.mem_cons_self
  obj := fun i h st b hb => by
    obtain ⟨⟨old, he⟩, ⟨o, ho, hc, hd⟩, _⟩ := st
    rcases List.mem_cons.mp hb with z | z
    · rw [z]
      exact ⟨_, he, fun v q => nomatch q⟩
    · rw [List.mem_singleton.mp z]
      refine ⟨o, ho, fun v q => ?_⟩
      rw [hd] at q
      cases q
  keep := fun i h h' st k => by
    obtain ⟨⟨old, he⟩, hi, hne⟩ := st
    exact ⟨⟨old, k e List.mem_cons_self _ he⟩, hi.at fun o q => k it (List.mem_cons_of_mem _ List.mem_cons_self) o q, hne⟩
  item := by
    intro X hP hw hK hc i pins s σ H E I hf st hg
    subst hP hw hK
    obtain ⟨⟨old, he⟩, hit, hne⟩ := st
    obtain ⟨xs, x, hq, hx⟩ := hg
    obtain ⟨its, rv, p, hz⟩ := I.tuple hq
    have p' : s.heap.IsTuple a its.toArray := p
    obtain ⟨u, hu, ru⟩ := rv.get hx
    have hel : e < s.heap.objs.size := Heap.lt_size he
    have hil : it < s.heap.objs.size := by
      obtain ⟨_, q, _⟩ := hit
      exact Heap.lt_size q
    have hai : a ≠ it := by
      rintro rfl
      obtain ⟨o1, q1, c1, _⟩ := p'
      obtain ⟨o2, q2, c2, _⟩ := hit
      rw [q1] at q2
      cases q2
      rw [c1] at c2
      exact absurd (Value.type.inj c2) (by decide)
    have hae : a ≠ e := by
      rintro rfl
      obtain ⟨o1, q1, c1, _⟩ := p'
      have q2 : s.heap.get? a = some _ := he
      rw [q1] at q2
      cases q2
      exact absurd (Value.type.inj c1) (by decide)
    have hlt : i < its.toArray.size := by
      have := (List.getElem?_eq_some_iff.mp hu).1
      simpa using this
    refine wpAny_pyNext_enum_itemD (Draws.tuple (show X.A.in1.handled = none from I.ok.hd hc) it a hai its.toArray) he ⟨hit, p'⟩ hlt hne (fun z => ?_) fun x' h' tk hx' ho st' hT hsz hk => ?_
    · rcases List.mem_cons.mp z with z | z
      · exact hne z
      · exact hae (List.mem_singleton.mp z).symm
    · have ex : x' = u := by
        have q : its[i]? = some x' := by simpa using hx'
        rw [hu] at q
        exact (Option.some.inj q).symm
      subst ex
      refine ⟨_, rfl, wpAny_letOwnedTupleGo_enum (s := { s with heap := h', toks := tk + 1 }) ho fun h'' he' sb => ?_⟩
      have hT2 : h''.get? s.heap.objs.size = some { cls := .type "tuple", data := .seq #[.int i tk, x'] } := (sb.2 _ (Nat.ne_of_gt hel)).trans hT
      have new : ObjOk X.prog X.w (upd H s.heap.objs.size (.tup [.int (i : Nat), x])) h'' s.heap.objs.size (.tup [.int (i : Nat), x]) :=
        ⟨by show 2 ≤ sizeLine; decide, [.int i tk, x'], .cons ⟨_, rfl⟩ (.cons ru .nil), ⟨_, hT2, rfl, _, rfl⟩⟩
      have I1 : Inv X pins σ (upd H s.heap.objs.size (.tup [.int (i : Nat), x])) { s with heap := h'', toks := tk + 1 } := by
        refine I.turnedNew (t' := tk + 1) (ch := [e, it]) (fun b ob hb q => ?_) hf (Nat.le_refl _) new
        have b1 : b ≠ e := fun z => hb (by rw [z]; exact List.mem_cons_self)
        have b2 : b ≠ it := fun z => hb (by rw [z]; exact List.mem_cons_of_mem _ List.mem_cons_self)
        exact (sb.2 b b1).trans (hk b ob b1 b2 q)
      refine ⟨.ref s.heap.objs.size, _, I1, rfl, ⟨_, x, rfl, I.hok.fresh (Nat.le_refl _), rfl, fun ys hy => by rw [I.tuple_inj hy hq]; exact hx⟩, ⟨⟨x', ?_⟩, st'.1.at fun o q => (sb.2 it (Ne.symm hne)).trans q, hne⟩, fun b hb => ?_⟩
      · have e1 : ((i + 1 : Nat) : Int) = (i : Int) + 1 := by omega
        rw [e1]
        exact he'
      · have hb' : b < s.heap.objs.size := by
          rcases List.mem_cons.mp hb with z | z
          · rw [z]
            exact hel
          · rw [List.mem_singleton.mp z]
            exact hil
        rw [upd_ne (Nat.ne_of_lt hb')]
        exact (hf b hb).1
  done := by
    intro X hP hw hK hc i pins s σ H E I hf st hg
    subst hP hw hK
    obtain ⟨⟨old, he⟩, hit, hne⟩ := st
    obtain ⟨xs, hq, hx⟩ := hg
    obtain ⟨its, rv, p, hz⟩ := I.tuple hq
    have p' : s.heap.IsTuple a its.toArray := p
    obtain ⟨f0, f1, f2, f3, f4, f5⟩ := hf it (List.mem_cons_of_mem _ List.mem_cons_self)
    have hl := rv.length
    unfold pyNext
    refine wpAny_bind (wpAny_attempt (wpAny_callSpecial?_slot (name := Str.ofString "__next__") (show s.TypeIs (.ref e) "enumerate" from ⟨_, he, rfl⟩) F.slot_enumerate_next
      (wpAny_call_entry F.slot_enumerate_next ⟨_, he, rfl⟩ F.entry_enumerate_next ?_ (F.args_enumerate_next_1 _))))
    show wpAny _ _ (field (.ref e) 2 >>= _) _ _ _
    refine wpAny_bind (wpAny_field he rfl (x := .ref it) rfl ?_)
    refine wpAny_bind (wpAny_nextOf_tuple_end (I.ok.hd hc) hit p' (by simp; omega) fun h' x eb hx' => ?_)
    obtain ⟨o, ho, hc⟩ := hx'
    refine wpAny_bind (wpAny_isInstance (T := "StopIteration") (b := true) ⟨o, ho, hc⟩ isSubtype_stop ?_)
    exact wpAny_pure ⟨rfl, I.turned (t' := s.toks) (fun b o hb q => eb b o hb q) f0 f1 f3 f4 f5⟩
  self := fun A i s Q E st h => let ⟨⟨_, he⟩, _⟩ := st; wpAny_pyIter_enum he h
def iEnumT (K : PySem.W.Frag) (ta : TA) : TI := fun σ H R => ta σ H fun vs H1 => ∃ a xs, vs = [.ref a] ∧ SqT K H1 a xs ∧ R (Iet K a) H1
theorem pi_enumT {X : Cx} {e : Expr} {ta : TA} {p pos tpos : Pos} {elts : List Expr} {kk : Nat} (hg : Gl X "enumerate") (hm : X.mg "enumerate" = none) (ha : PA X [e] ta) (hs : starEach [e] X.env = [(false, eval e X.env)] := by rfl) :
    PI X (.Tuple elts kk tpos) (.Call (.Name "enumerate" p) [e] [] pos) (iEnumT X.K ta) := by
  refine ⟨fun pins s σ H R I h => ?_⟩
  refine Call_ (ld_blt I hg hm boot_enumerate (PyProof.Rows.callWith_type1 (thn (ha.run pos pins s σ H _ I h) fun us s1 ⟨vs, H1, I1, r1, q1⟩ => ?_) hs rfl))
  obtain ⟨a, xs, ex, hq, q⟩ := q1
  subst ex
  obtain ⟨u, rfl, ru⟩ := Vals.one r1
  cases (show u = Value.ref a from ru)
  obtain ⟨its, rv, p', hz⟩ := I1.tuple hq
  refine call_enum_tup (show s1.heap.IsTuple a its.toArray from p') fun h' he hit hk => wpAny_pyIter_enum he ?_
  refine ⟨s1.heap.objs.size + 1, [s1.heap.objs.size + 1, s1.heap.objs.size], _, _, H1, rfl, I1.kept (t' := s1.toks) hk, turn_enumT a (s1.heap.objs.size + 1) s1.heap.objs.size, ⟨⟨.none, he⟩, hit, Nat.succ_ne_self _⟩, fun b hb => ?_, q⟩
  have hle : s1.heap.objs.size ≤ b := by
    rcases List.mem_cons.mp hb with z | z
    · rw [z]
      exact Nat.le_succ _
    · rw [List.mem_singleton.mp z]
      exact Nat.le_refl _
  exact I1.fpOk hle (I1.hok.fresh hle)
theorem walk_enumT {K : PySem.W.Frag} {a : Addr} {xs : List V} : Walk (Iet K a) xs.length (fun H => SqT K H a xs) (YPair (fun i => some (.int (i : Nat))) (fun i => xs[i]?)) := by
  refine ⟨fun i H hi hG => ?_, fun H hG => ?_, fun i H x H' hi hG y => ?_⟩
  · exact ⟨xs, xs[i], hG, List.getElem?_eq_getElem hi⟩
  · exact ⟨xs, hG, Nat.le_refl _⟩
  · obtain ⟨T, x0, rfl, nT, rfl, f⟩ := y
    exact ⟨T, _, x0, rfl, nT, rfl, rfl, f xs hG⟩
end SrR
set_option Elab.async false
set_option linter.all false
set_option maxRecDepth 100000
set_option maxHeartbeats 4000000
/-! dicts with tuple keys: a comprehension, update by a list of pairs; tuples glued and cut. -/
namespace SrR
open PySem PySem.Spec PyProof.Rows L2

/-! ### tuples glued and cut, the answer by its content -/
section
variable {X : Cx}
def rCatS : R2 := fun x y H Q => ∃ a b xs ys, x = .ref a ∧ y = .ref b ∧ H a = some (.tup xs) ∧ H b = some (.tup ys) ∧ xs.length + ys.length ≤ sizeLine ∧ ∀ p H', Same H H' → H' p = some (.tup (xs ++ ys)) → Q (.ref p) H'
theorem same_new {H : Hp} {p : Addr} {o : HO} (h : H p = none) : Same H (upd H p o) := fun b u e => by
  rw [upd_ne (ne_of_none e h)]
  exact e
theorem op_catS : OpR X (binaryOp .Add) rCatS := by
  intro pins s σ H x y v u Q I rx ry h
  obtain ⟨a, b, xs, ys, rfl, rfl, ha, hb, hz, q⟩ := h
  refine op_catA pins s σ H _ _ v u Q I rx ry ⟨a, b, xs, ys, rfl, rfl, .of ha, .of hb, hz, fun e => ?_, fun _ e => ?_, fun _ _ p hp => ?_⟩
  · refine q b H (Same.refl H) ?_
    rw [e]
    exact hb
  · refine q a H (Same.refl H) ?_
    rw [e, List.append_nil]
    exact ha
  · exact q p _ (same_new hp) upd_same
def rSlS : V → Option Int → Option Int → Hp → VK → Prop := fun x lo hi H Q => ∃ a xs, x = .ref a ∧ H a = some (.tup xs) ∧ ∀ p H', Same H H' → H' p = some (.tup (cutV xs lo hi)) → Q (.ref p) H'
theorem cut_whole {xs : List V} {lo hi : Option Int} (h : HT.sIx xs.length 0 lo = 0 ∧ HT.sIx xs.length xs.length hi = xs.length) : cutV xs lo hi = xs := by
  unfold cutV
  rw [h.1, h.2]
  simp
theorem sl_tupS : SlR X rSlS := by
  intro pins s σ H x v vl vu lo hi sl Q I rx hs pl pu h
  obtain ⟨a, xs, rfl, hx, q⟩ := h
  refine sl_tupA pins s σ H _ v vl vu lo hi sl Q I rx hs pl pu ⟨a, xs, rfl, .of hx, fun hw => ?_, fun _ p hp => ?_⟩
  · refine q a H (Same.refl H) ?_
    rw [cut_whole hw]
    exact hx
  · exact q p _ (same_new hp) upd_same
/-- .. of any tuple that is to be read -/
def rSlQ (K : PySem.W.Frag) : V → Option Int → Option Int → Hp → VK → Prop := fun x lo hi H Q => ∃ a xs, x = .ref a ∧ SqT K H a xs ∧ ∀ p H', Same H H' → SqT K H' p (cutV xs lo hi) → Q (.ref p) H'
theorem sl_tupQ : SlR X (rSlQ X.K) := by
  intro pins s σ H x v vl vu lo hi sl Q I rx hs pl pu h
  obtain ⟨a, xs, rfl, hx, q⟩ := h
  refine sl_tupA pins s σ H _ v vl vu lo hi sl Q I rx hs pl pu ⟨a, xs, rfl, hx, fun hw => ?_, fun _ p hp => ?_⟩
  · refine q a H (Same.refl H) ?_
    rw [cut_whole hw]
    exact hx
  · exact q p _ (same_new hp) (.of upd_same)
theorem cut_to (xs : List V) (n : Nat) : cutV xs none (some (n : Int)) = xs.take n := by
  unfold cutV
  rw [HT.sIx_none, HT.sIx_nat]
  rw [List.drop_zero, Nat.sub_zero]
  by_cases h : n ≤ xs.length
  · rw [Nat.min_eq_left h]
  · rw [Nat.min_eq_right (by omega), List.take_length, List.take_of_length_le (by omega)]
theorem cut_from (xs : List V) (n : Nat) : cutV xs (some (n : Int)) none = xs.drop n := by
  unfold cutV
  rw [HT.sIx_none, HT.sIx_nat]
  by_cases h : n ≤ xs.length
  · rw [Nat.min_eq_left h, List.take_of_length_le (by rw [List.length_drop]; omega)]
  · rw [Nat.min_eq_right (by omega), Nat.sub_self, List.take_zero, List.drop_of_length_le (by omega)]
theorem cut_one (xs : List V) (n : Nat) : cutV xs (some (n : Int)) (some ((n : Int) + 1)) = (xs.drop n).take 1 := by
  have e : ((n : Int) + 1) = ((n + 1 : Nat) : Int) := by omega
  unfold cutV
  rw [e, HT.sIx_nat, HT.sIx_nat]
  by_cases h : n + 1 ≤ xs.length
  · rw [Nat.min_eq_left h, Nat.min_eq_left (by omega), show n + 1 - n = 1 by omega]
  · rw [Nat.min_eq_right (by omega)]
    by_cases h2 : n ≤ xs.length
    · rw [Nat.min_eq_left h2, List.drop_of_length_le (show xs.length ≤ n by omega)]
      simp
    · rw [Nat.min_eq_right (by omega), List.drop_of_length_le (show xs.length ≤ n by omega)]
      simp
theorem cut_last (xs : List V) : cutV xs none (some (-1)) = xs.dropLast := by
  unfold cutV
  have e : HT.sIx xs.length xs.length (some (-1)) = xs.length - 1 := by
    have h1 := HT.clip_eq (-1) xs.length xs.length
    rw [if_pos (by decide)] at h1
    omega
  rw [e, HT.sIx_none, List.drop_zero, Nat.sub_zero, List.dropLast_eq_take]
end

/-! ### d.update(xs), xs a list of pairs whose keys are tuples -/
/-- a pair: its own place, its key's, the key, the value -/
abbrev PrT := Addr × Addr × List Key × V
def putAll (kvs : List (List Key × V)) (qs : List PrT) : List (List Key × V) := qs.foldl (fun m q => putK m q.2.2.1 q.2.2.2) kvs
theorem putAll_len : ∀ (qs : List PrT) (kvs : List (List Key × V)), (putAll kvs qs).length ≤ kvs.length + qs.length
  | [], _ => Nat.le_refl _
  | q :: qs, kvs => by
    have h1 := putAll_len qs (putK kvs q.2.2.1 q.2.2.2)
    have h2 := length_putK kvs q.2.2.1 q.2.2.2
    show (putAll (putK kvs q.2.2.1 q.2.2.2) qs).length ≤ _
    rw [List.length_cons]
    omega
def PrAt (H : Hp) (q : PrT) : Prop := H q.1 = some (.tup [.ref q.2.1, q.2.2.2]) ∧ H q.2.1 = some (.tup (q.2.2.1.map kV))
def rUpdT (K : PySem.W.Frag) : V → List V → Hp → VK → Prop := fun x xs H Q => ∃ (d l : Addr) (kvs : List (List Key × V)) (qs : List PrT), x = .ref d ∧ xs = [.ref l] ∧ H d = some (.dT kvs) ∧ SqL K H l (qs.map fun q => V.ref q.1) ∧ (∀ q ∈ qs, PrAt H q) ∧
  kvs.length + qs.length ≤ sizeLine ∧ Q .non (upd H d (.dT (putAll kvs qs)))
section
variable {X : Cx} {pins : List (Addr × Obj)} {σ : L2.St} {H : Hp} {s : Shared}
/-- the pairs as they lie in the heap -/
theorem pairs_raw (I : Inv X pins σ H s) : ∀ qs : List PrT, (∀ q ∈ qs, PrAt H q) → ∃ us : List Value, Paired (fun (q : PrT) (u : Value) => RelV q.2.2.2 u ∧ s.heap.IsTuple q.1 #[.ref q.2.1, u]) qs us
  | [], _ => ⟨[], .nil⟩
  | q :: qs, h => by
    obtain ⟨us, r⟩ := pairs_raw I qs fun p hp => h p (List.mem_cons_of_mem _ hp)
    obtain ⟨h1, _⟩ := h q List.mem_cons_self
    obtain ⟨its, rv, p, _⟩ := I.tuple (SqT.of h1)
    obtain ⟨u1, u2, rfl, r1, r2⟩ := Vals.two rv
    cases (show u1 = Value.ref q.2.1 from r1)
    exact ⟨u2 :: us, .cons ⟨r2, p⟩ r⟩
theorem refs_raw : ∀ {qs : List PrT} {us : List Value}, Vals (qs.map fun q => V.ref q.1) us → us = qs.map fun q => Value.ref q.1
  | [], _, .nil => rfl
  | q :: qs, _, .cons r t => by
    cases r
    rw [refs_raw t]
    rfl
/-- what the library stores, beside putAll -/
theorem kt_all {H : Hp} : ∀ {qs : List PrT} {us : List Value} {kvs : List (List Key × V)} {xs : List (List Key × Addr × Value)}, (∀ q ∈ qs, PrAt H q) → Paired (fun (q : PrT) (u : Value) => RelV q.2.2.2 u) qs us → KT H kvs xs →
    KT H (putAll kvs qs) (storedAllH xs ((qs.zip us).map fun z => (z.1.2.2.1, z.1.2.1, z.2)))
  | [], _, kvs, xs, _, .nil, r => r
  | q :: qs, u :: us, kvs, xs, h, .cons a t, r => by
    have h1 := h q List.mem_cons_self
    exact kt_all (qs := qs) (us := us) (fun p hp => h p (List.mem_cons_of_mem _ hp)) t (r.put q.2.2.1 h1.2 a)
theorem mt_updT (hu : X.A.units + 1 < cLine) (hc : X.calm = true) : MtR X "dict.update" (rUpdT X.K) := by
  intro pins s σ H x xs v vs Q I rx rs h
  obtain ⟨d, l, kvs, qs, rfl, rfl, hd, hl, hq, hz, q⟩ := h
  cases (show v = Value.ref d from rx)
  obtain ⟨u, rfl, ru⟩ := Vals.one rs
  cases (show u = Value.ref l from ru)
  obtain ⟨z0, hsm, ws, rel, dd⟩ := dt_of I.hok hd
  obtain ⟨us, hus⟩ := pairs_raw I qs hq
  have hlen : qs.length = us.length := hus.length
  obtain ⟨its, rv, pl, _⟩ := I.list hl
  have ei := refs_raw rv
  subst ei
  generalize hps : (qs.zip us).map (fun z => (Value.ref z.1.2.1, z.2)) = ps
  have hpl : ps.length = qs.length := by
    rw [← hps, List.length_map, List.length_zip]
    omega
  have hat : ∀ j (q0 : PrT), qs[j]? = some q0 → ∃ u0, us[j]? = some u0 ∧ RelV q0.2.2.2 u0 ∧ s.heap.IsTuple q0.1 #[.ref q0.2.1, u0] := fun j q0 hj => by
    obtain ⟨u0, e, r⟩ := paired_get hus hj
    exact ⟨u0, e, r⟩
  have hz2 : ∀ j k u0, ps[j]? = some (k, u0) → ∃ q0 : PrT, qs[j]? = some q0 ∧ us[j]? = some u0 ∧ k = Value.ref q0.2.1 ∧ s.heap.IsTuple q0.1 #[.ref q0.2.1, u0] := fun j k u0 hj => by
    rw [← hps, List.getElem?_map] at hj
    cases e : (qs.zip us)[j]? with
    | none =>
      rw [e] at hj
      cases hj
    | some z =>
      rw [e] at hj
      cases hj
      obtain ⟨e1, e2⟩ := List.getElem?_zip_eq_some.mp e
      obtain ⟨u1, f1, _, f2⟩ := hat j z.1 e1
      rw [e2] at f1
      cases f1
      exact ⟨z.1, e1, e2, rfl, f2⟩
  have items : PairItems s.heap (qs.map fun q => Value.ref q.1).toArray (fun j => (qs.getD j (0, 0, [], .non)).1) ps := by
    refine ⟨by simp [hpl], fun j k u0 hj => ?_⟩
    obtain ⟨q0, e1, e2, rfl, e3⟩ := hz2 j k u0 hj
    have e4 : qs.getD j (0, 0, [], .non) = q0 := by simp [List.getD, e1]
    refine ⟨?_, .inl ?_⟩
    · rw [List.getElem?_toArray, List.getElem?_map, e1]
      show some (Value.ref q0.1) = some (Value.ref (qs.getD j (0, 0, [], .non)).1)
      rw [e4]
    · show s.heap.IsTuple (qs.getD j (0, 0, [], .non)).1 _
      rw [e4]
      exact e3
  generalize hxs : (qs.zip us).map (fun z => (z.1.2.2.1, z.1.2.1, z.2)) = ys
  have have3 : PairsHaveH (tupleKind (mixKind X.prog X.w)) ps.length (PairRel ps) ys := by
    refine ⟨by rw [← hps, ← hxs]; simp, fun j k u0 hj => ?_⟩
    obtain ⟨q0, e1, e2, rfl, _⟩ := hz2 j k u0 hj
    refine ⟨q0.2.2.1, q0.2.1, ?_, rfl⟩
    have e : (qs.zip us)[j]? = some (q0, u0) := List.getElem?_zip_eq_some.mpr ⟨e1, e2⟩
    rw [← hxs, List.getElem?_map, e]
    rfl
  have his : ∀ y ∈ ws ++ ys, (tupleKind (mixKind X.prog X.w)).is s.heap y.1 y.2.1 := fun y hy => by
    rcases List.mem_append.mp hy with hy | hy
    · obtain ⟨_, _, _, _, _, _, _, k, _⟩ := dd
      exact k y hy
    · rw [← hxs] at hy
      obtain ⟨z, hz, rfl⟩ := List.mem_map.mp hy
      exact key_of I.hok (hq z.1 (List.of_mem_zip hz).1).2
  have hdD : ∃ o es ep, s.heap.get? d = some o ∧ o.data = .dict es ep := by
    obtain ⟨o, es, ep, e, _, e2, _⟩ := dd
    exact ⟨o, es, ep, e, e2⟩
  have hdf : d ∉ l :: (List.range ps.length).map fun j => (qs.getD j (0, 0, [], .non)).1 := fun hm => by
    obtain ⟨o, es, ep, e, e2⟩ := hdD
    rcases List.mem_cons.mp hm with z | z
    · obtain ⟨o', n, e', _, _, e2'⟩ := pl
      rw [← z, e] at e'
      cases e'
      rw [e2] at e2'
      cases e2'
    · obtain ⟨j, hj, ej⟩ := List.mem_map.mp z
      have hj2 : j < qs.length := by
        rw [← hpl]
        exact List.mem_range.mp hj
      have e4 : qs.getD j (0, 0, [], .non) = qs[j] := by simp [List.getD, hj2]
      have h1 := (hq qs[j] (List.getElem_mem hj2)).1
      change (qs.getD j (0, 0, [], .non)).1 = d at ej
      rw [e4] at ej
      rw [ej, hd] at h1
      cases h1
  have zk : ∀ q0 : PrT, q0 ∈ qs → True := fun _ _ => trivial
  refine call_update_pairsH (knd := tupleKind (mixKind X.prog X.w)) (acc := ws) (ps := ys) (PairArg.list l (qs.map fun q => Value.ref q.1).toArray (fun j => (qs.getD j (0, 0, [], .non)).1) ps) (I.ok.hd hc) (tupleKind_room_in1 hu) ⟨let ⟨o, n, e, h⟩ := pl; ⟨o, n, e, h⟩, items⟩ hdf have3
    (fun h' hk y hy => tupleKind_stays.but hdD h' hk _ _ (his y hy)) dd (by rw [← Paired.length rel, hpl]; exact hz) fun h' tk hd' hk => ?_
  obtain ⟨o, es, ep, e, h2, h3, h4, _, h5⟩ := hd'
  have relV : Paired (fun (q : PrT) (u : Value) => RelV q.2.2.2 u) qs us := Paired.mapP hus fun _ _ z => z.1
  have hkt := kt_all hq relV rel
  rw [hxs] at hkt
  refine ⟨.non, upd H d (.dT (putAll kvs qs)), I.write (x := d) (e := d) (t' := tk) (by rw [hd]; exact True.intro) (.inl rfl) (fun b u hb hu' => hk b u hb (fun z => nomatch z) hu') ⟨o, e⟩ ?_, rfl, q⟩
  refine ⟨Nat.le_trans (putAll_len _ _) hz, hsm, _, hkt.keeps fun b zs eb => ?_, o, es, ep, e, h2, h3, h4, h5⟩
  rw [upd_ne (ne_of eb hd (fun z => nomatch z))]
  exact eb
end

/-! ### {k: v for target in iter}, the keys tuples -/
theorem d_setT {X : Cx} {pins : List (Addr × Obj)} {σ : L2.St} {H : Hp} {s : Shared} {E : Value → Shared → Prop} {D b : Addr} {kvs : List (List Key × V)} {k : List Key} {v : V} {r : Value} {Q : Unit → Shared → Prop} (hu : X.A.units < cLine) (I : Inv X pins σ H s) (hD : H D = some (.dT kvs)) (hz : kvs.length < sizeLine)
    (hb : H b = some (.tup (k.map kV))) (rv : RelV v r) (h : ∀ s', Inv X pins σ (upd H D (.dT (putK kvs k v))) s' → Q () s') : wpAny (model X.prog X.w) X.A (dictSet D (.ref b) r) Q E s := by
  obtain ⟨z, hd, xs, rel, dd⟩ := dt_of I.hok hD
  refine wpAny_dictSet_heap (hsz := by rw [← Paired.length rel]; exact z) (show (tupleKind (mixKind X.prog X.w)).room X.A from hu) (key_of I.hok hb) dd fun h' dd' hs => h _ ?_
  obtain ⟨q, es, ep, hq, h2, h3, h4, _, h5⟩ := dd'
  have hl : (putK kvs k v).length ≤ sizeLine := by
    have := length_putK kvs k v
    omega
  refine d_write I (by rw [hD]; exact True.intro) hs ⟨q, hq⟩ ⟨hl, hd, _, (rel.put k hb rv).keeps fun c ys ec => ?_, q, es, ep, hq, h2, h3, h4, h5⟩
  rw [upd_ne (ne_of ec hD (fun z => nomatch z))]
  exact ec
section
variable {X : Cx}
/-- one turn's end and the whole, as tDc, but the keys are tuples that stand in the heap -/
def tDcT (wi : TI) (g : TG) (tk tv : TE) (vs : List Nat) : TE := fun σ H Q => wi σ H fun J H1 => ∀ D, H1 D = none → ∃ W : Nat → Nat → Hp → Prop, (∃ m, W 0 m (upd H1 D (.dT []))) ∧
  ∀ i m H, W i m H → (J.stop i H ∧ Q (.ref D) H) ∨ (J.go i H ∧ ∃ N : Hp → Prop, (∀ H', N H' → ∃ m', m' < m ∧ W (i + 1) m' H') ∧ ∀ x H', J.yld i H x H' → g x (wipe σ vs) H' fun σ2 H2 => wipe σ2 vs = wipe σ vs ∧
    tk σ2 H2 fun y H4 => tv σ2 H4 fun z H5 => ∃ b kvs k, y = .ref b ∧ H5 b = some (.tup (k.map kV)) ∧ H5 D = some (.dT kvs) ∧ kvs.length < sizeLine ∧ N (upd H5 D (.dT (putK kvs k z))))
theorem dcT_core {pins : List (Addr × Obj)} {s : Shared} {σ : L2.St} {H : Hp} {Q : VK} {kx vx tg iter : Expr} {scope : Scope} {own : List (Str × Nat)} {pos pos' : Pos} {wi : TI} {g : TG} {tk tv : TE} {use : Option (Value → Sem Unit)} {Qf : Value → Shared → Prop}
    (hu : X.A.units < cLine) (hc : X.calm = true) (hN : X.N.Nodup) (I : Inv X pins σ H s) (hi : PI X tg iter wi) (ok : BlkOk X.N X.env.scope scope own)
    (hg : ∀ (s : Shared) (H : Hp) (C : Addr) (cl : List (Str × Addr)) (fp : List Addr), PG (X.blk s H scope (compEnvC scope cl C X.env) fp) tg g)
    (hk : ∀ (s : Shared) (H : Hp) (C : Addr) (cl : List (Str × Addr)) (fp : List Addr), PE (X.blk s H scope (compEnvC scope cl C X.env) fp) kx tk)
    (he : ∀ (s : Shared) (H : Hp) (C : Addr) (cl : List (Str × Addr)) (fp : List Addr), PE (X.blk s H scope (compEnvC scope cl C X.env) fp) vx tv) (hs : ∀ x, foldedSetIterable iter X.env x = pure x)
    (h : tDcT wi g tk tv (own.map (·.2)) σ H Q)
    (hRR : ∀ D C s' m H', Inv X pins σ H' s' → Q (.ref D) H' → s'.heap.Ns C m → FpOk X pins H' C → compPost (model X.prog X.w) X.A X.xe use Qf (.ref D) C (.ok .next) s') :
    wpAny (model X.prog X.w) X.A (comprehension (.DictComp kx vx [⟨tg, iter, [], 0⟩] scope pos) scope X.env pos' newDict false (eval iter X.env) use) Qf X.xe s := by
  have free_ok : ∀ y ∈ scope.names, y.2 = .free → ∃ c, X.env.cells.lookup y.1 = some c := fun y hy e => (ok.free y hy e).elim (fun z => I.ok.has _ (.inl z)) fun z => I.ok.has _ (.inr z)
  refine wpAny_comprehension_free (use := use) rfl hs (closure_ok free_ok) ok.kind (fun y hy e => by rw [ok.uniq y hy, e]) (thn (hi.run pins s σ H _ I h) fun xv s1 hx => thn hx fun itv s2 h2 => ?_)
  obtain ⟨it, fp, tn, J, H2, rfl, I2, T, st2, f2, q⟩ := h2
  refine wpAny_newObj_type (newEnv_comp ?_)
  -- the new dict
  have nD : H2 s2.heap.objs.size = none := I2.hok.fresh (Nat.le_refl _)
  obtain ⟨W, ⟨m0, w0⟩, turn⟩ := q s2.heap.objs.size nD
  have keep1 : ∀ b o, s2.heap.get? b = some o → (s2.heap.push { cls := .type "dict", data := .dict #[] }).get? b = some o := fun b o e => Heap.get?_push_of_some _ e
  have I3 : Inv X pins σ (upd H2 s2.heap.objs.size (.dT [])) { s2 with heap := s2.heap.push { cls := .type "dict", data := .dict #[] } } := I2.laid (t' := s2.toks) keep1 (Nat.le_refl _) (dt_empty s2.heap I2.big)
  have low : ∀ b ∈ fp, b < s2.heap.objs.size := fun b hb => let ⟨o, e, _⟩ := T.obj _ _ st2 b hb; Heap.lt_size e
  have f3 : ∀ b ∈ fp, FpOk X pins (upd H2 s2.heap.objs.size (.dT [])) b ∧ b < ({ s2 with heap := s2.heap.push { cls := .type "dict", data := .dict #[] } } : Shared).heap.objs.size := fun b hb => by
    have l := low b hb
    refine ⟨⟨(upd_ne (Nat.ne_of_lt l)).trans (f2 b hb).1, (f2 b hb).2⟩, ?_⟩
    show b < (s2.heap.push _).objs.size
    rw [Heap.size_push]
    exact Nat.lt_succ_of_lt l
  generalize hs3 : ({ s2 with heap := s2.heap.push { cls := .type "dict", data := .dict #[] } } : Shared) = s3 at I3 f3
  have h3 : s3.heap = s2.heap.push { cls := .type "dict", data := .dict #[] } := by rw [← hs3]
  have e3 : s3 = { s2 with heap := s3.heap } := by rw [← hs3]
  have st3 : tn 0 s3.heap := T.keep _ _ _ st2 fun b _ o e => by
    rw [h3]
    exact keep1 b o e
  have I4 := block_start I3 ok hN f3
  have pg := hg s3 (upd H2 s2.heap.objs.size (.dT [])) s3.heap.objs.size (cellsFrom (s3.heap.objs.size + 1) scope.names (cloFrom X.env.cells scope.names [])) fp
  have pk := hk s3 (upd H2 s2.heap.objs.size (.dT [])) s3.heap.objs.size (cellsFrom (s3.heap.objs.size + 1) scope.names (cloFrom X.env.cells scope.names [])) fp
  have pv := he s3 (upd H2 s2.heap.objs.size (.dT [])) s3.heap.objs.size (cellsFrom (s3.heap.objs.size + 1) scope.names (cloFrom X.env.cells scope.names [])) fp
  have off : ∀ b ∈ fp, (upd H2 s2.heap.objs.size (.dT [])) b = none := fun b hb => (f3 b hb).1.1
  show codeAny _ _ (.compStart _ 0 (.ref it) (.ref s2.heap.objs.size) (compEnvC scope (cellsFrom (s3.heap.objs.size + 1) scope.names (cloFrom X.env.cells scope.names [])) s3.heap.objs.size X.env))
    (compPost _ _ _ _ _ (.ref s2.heap.objs.size) s3.heap.objs.size) { s3 with heap := pushCells (s3.heap.push { cls := .type "dict", data := .dict #[] }) scope.names }
  generalize hce : compEnvC scope (cellsFrom (s3.heap.objs.size + 1) scope.names (cloFrom X.env.cells scope.names [])) s3.heap.objs.size X.env = ce at I4 pg pk pv ⊢
  have cL : ce.locals = s3.heap.objs.size := by
    subst hce
    rfl
  generalize hdd : s2.heap.objs.size = D at nD turn w0 ⊢
  rw [hdd] at I3 I4 pg pk pv off f3
  generalize upd H2 D (.dT []) = H3 at I3 I4 pg pk pv w0 off f3
  generalize hs4 : ({ s3 with heap := pushCells (s3.heap.push { cls := .type "dict", data := .dict #[] }) scope.names } : Shared) = s4 at I4
  have st4 : tn 0 s4.heap := T.keep _ _ _ st3 fun b _ o e => by
    rw [← hs4]
    exact pushCells_keeps _ _ _ _ (Heap.get?_push_of_some _ e)
  let Y := X.blk s3 H3 scope ce fp
  have here : ∀ {σ' : L2.St} {H' : Hp} {s' : Shared}, Inv Y [] σ' H' s' → (∀ b ∈ fp, H' b = none) → ∀ b ∈ fp, FpOk Y [] H' b := fun {σ' H' s'} J' hn b hb => by
    have ex := J'.ok.exf b hb
    exact ⟨hn b hb, ex.1, J'.ok.exfs b hb, .inl hb, fun x c e => ex.2 x c e, fun p hp => absurd (show p ∈ ([] : List (Addr × Obj)) ++ [] from hp) (by simp)⟩
  have loop : codeAny (model X.prog X.w) X.A (.compLoop (.DictComp kx vx [⟨tg, iter, [], 0⟩] scope pos) 0 (.ref it) (.ref D) ce) (compPost (model X.prog X.w) X.A X.xe use Qf (.ref D) s3.heap.objs.size) s4 := by
    refine compLoop_anyD (fun m s' => ∃ i H', Inv Y [] (wipe σ (own.map (·.2))) H' s' ∧ tn i s'.heap ∧ (∀ b ∈ fp, H' b = none) ∧ W i m H') (fun m s5 hm => ?_) m0 ⟨0, H3, I4, st4, off, w0⟩
    obtain ⟨i, H5, I5, st5, n5, w5⟩ := hm
    rcases turn i m H5 w5 with ⟨stop, qq⟩ | ⟨go, N, hNx, step⟩
    · refine thnF (T.done Y rfl rfl rfl hc i [] s5 _ H5 (fun _ _ => False) I5 (here I5 n5) st5 stop) fun r s6 h6 => ?_
      obtain ⟨rfl, I6⟩ := h6
      have I7 : Inv X pins σ H5 s6 := I3.call' (ch := fp) I6.os I6.base I6.hok I6.bare fun b hb => by
        obtain ⟨⟨_, a2, a3, a4, a5, a6⟩, _⟩ := f3 b hb
        exact ⟨a4, a2, a5, a6⟩
      have nC : H5 s3.heap.objs.size = none := cL ▸ I6.free
      obtain ⟨k, hn, _⟩ := I6.loc
      have hk : s6.heap.Ns ce.locals k := hn
      rw [cL] at hk
      exact hRR D s3.heap.objs.size s6 k H5 I7 qq hk (I3.fpOk (Nat.le_refl _) nC)
    · refine thnF (T.item Y rfl rfl rfl hc i [] s5 _ H5 (fun _ _ => False) I5 (here I5 n5) st5 go) fun r s6 h6 => ?_
      obtain ⟨u, rfl, h6⟩ := h6
      refine thnF h6 fun _ s7 h7 => ?_
      obtain ⟨x, H7, I7, r7, y7, st7, n7⟩ := h7
      refine thnF (pg.run _ s7 _ H7 x u _ (I7.pinned (here I7 n7) (T.obj _ _ st7)) r7 (step x H7 y7)) fun _ s8 h8 => ?_
      obtain ⟨σ8, H8, I8, hw8, q8⟩ := h8
      refine (wpAny_pure ?_ : wpAny _ _ (pure true) _ _ _)
      show wpAny _ _ _ _ _ _
      refine thnF (pk.run _ s8 σ8 H8 _ I8 q8) fun z s10 h10 => ?_
      obtain ⟨yk, H10, I10, r10, q10⟩ := h10
      refine thnF (pv.run _ s10 σ8 H10 _ I10 q10) fun z2 s11 h11 => ?_
      obtain ⟨yv, H11, I11, r11, b, kvs, k, rfl, hb11, hD11, hz11, nx⟩ := h11
      cases (show z = Value.ref b from r10)
      refine d_setT (X := Y) hu I11 hD11 hz11 hb11 r11 fun s12 I12 => ?_
      obtain ⟨m', hm, w'⟩ := hNx _ nx
      have pin' : ∀ c ∈ fp, ∀ o, s7.heap.get? c = some o → s12.heap.get? c = some o ∧ upd H11 D (.dT (putK kvs k yv)) c = none := fun c hc o e => by
        have z := I12.pin (c, o) (List.mem_append_right _ (List.mem_append_right _ (mem_pinsAt hc e)))
        exact ⟨z.1, z.2.1⟩
      have hl : (wipe σ (own.map (·.2))).length = σ8.length := by rw [← hw8, wipe_length]
      refine ⟨m', hm, i + 1, _, (I12.unpinned (pins := [])).weak hl (fun j v e => ?_), T.keep _ _ _ st7 fun c hc o e => (pin' c hc o e).1, fun c hc => ?_, w'⟩
      · rw [← hw8] at e
        exact (wipe_some e).1
      · obtain ⟨o, e, _⟩ := T.obj _ _ st7 c hc
        exact (pin' c hc o e).2
  subst hs4
  exact codeAny_compStart_dict loop (T.self X.A 0 _ _ _ st4 loop)
theorem pe_dcT {kx vx tg iter : Expr} {scope : Scope} {own : List (Str × Nat)} {pos : Pos} {wi : TI} {g : TG} {tk tv : TE} (hu : X.A.units < cLine) (hc : X.calm = true) (hN : X.N.Nodup) (hi : PI X tg iter wi) (ok : BlkOk X.N X.env.scope scope own)
    (hg : ∀ (s : Shared) (H : Hp) (C : Addr) (cl : List (Str × Addr)) (fp : List Addr), PG (X.blk s H scope (compEnvC scope cl C X.env) fp) tg g)
    (hk : ∀ (s : Shared) (H : Hp) (C : Addr) (cl : List (Str × Addr)) (fp : List Addr), PE (X.blk s H scope (compEnvC scope cl C X.env) fp) kx tk)
    (he : ∀ (s : Shared) (H : Hp) (C : Addr) (cl : List (Str × Addr)) (fp : List Addr), PE (X.blk s H scope (compEnvC scope cl C X.env) fp) vx tv) (hs : ∀ x, foldedSetIterable iter X.env x = pure x := by intro _; rfl) :
    PE X (.DictComp kx vx [⟨tg, iter, [], 0⟩] scope pos) (tDcT wi g tk tv (own.map (·.2))) := by
  refine ⟨fun pins s σ H Q I h => ?_⟩
  rw [arm_eval_DictComp]
  refine dcT_core hu hc hN I hi ok hg hk he hs h fun D C s' m H' J q hn f => ⟨m, hn, fun h'' sb => ?_⟩
  obtain ⟨f0, f1, f2, f3, f4, f5⟩ := f
  exact ⟨.ref D, H', J.turned (t' := s'.toks) (fun b o hb e => (sb.2 b hb).trans e) f0 f1 f3 f4 f5, rfl, q⟩
/-- y = {k: v for ..} -/
theorem ps_setDcT {i : Nat} {y : Str} {py : Pos} {kx vx tg iter : Expr} {scope : Scope} {own : List (Str × Nat)} {pos spos : Pos} {wi : TI} {g : TG} {tk tv : TE} (hu : X.A.units < cLine) (hc : X.calm = true) (hN : X.N.Nodup) (hy : X.N[i]? = some y) (hyl : X.env.scope.names.lookup y = some .local)
    (hsw : swapsWith (.DictComp kx vx [⟨tg, iter, [], 0⟩] scope pos) (some (.Name y py)) spos.line X.env = pure true) (hi : PI X tg iter wi) (ok : BlkOk X.N X.env.scope scope own)
    (hg : ∀ (s : Shared) (H : Hp) (C : Addr) (cl : List (Str × Addr)) (fp : List Addr), PG (X.blk s H scope (compEnvC scope cl C X.env) fp) tg g)
    (hk : ∀ (s : Shared) (H : Hp) (C : Addr) (cl : List (Str × Addr)) (fp : List Addr), PE (X.blk s H scope (compEnvC scope cl C X.env) fp) kx tk)
    (he : ∀ (s : Shared) (H : Hp) (C : Addr) (cl : List (Str × Addr)) (fp : List Addr), PE (X.blk s H scope (compEnvC scope cl C X.env) fp) vx tv) (hs : ∀ x, foldedSetIterable iter X.env x = pure x := by intro _; rfl) :
    PS X (.Assign [.Name y py] (.DictComp kx vx [⟨tg, iter, [], 0⟩] scope pos) spos) (tAsg (tDcT wi g tk tv (own.map (·.2))) (gName i)) := by
  refine ⟨fun pins s σ H D I h => ?_⟩
  rw [exec_Assign_Name_used _ _ _ _ hsw]
  refine wpAny_bind (wpAny_standAt (wpAny_bind ?_))
  show wpAny _ X.A (do let _ ← comprehension (.DictComp kx vx [⟨tg, iter, [], 0⟩] scope pos) scope X.env (firstIterPos [⟨tg, iter, [], 0⟩] pos) newDict false (eval iter X.env) (some (assign (.Name y py) X.env))) _ _ s
  have h2 : tDcT wi g tk tv (own.map (·.2)) σ H (fun x H1 => gName i x σ H1 D.nx) := h
  refine wpAny_bind (thn (dcT_core (Qf := fun _ s' => SP X pins D .next s') hu hc hN I hi ok hg hk he hs h2 fun L C s' m H' J q hn f => ?_) fun _ s' hq => wpAny_pure (wpAny_pure hq))
  show wpAny _ _ (assign (.Name y py) X.env (.ref L)) _ _ _
  refine wpAny_assign_Name (store_ok2 (v := V.ref L) J hN hy (.inl hyl) rfl (fun s2 J2 hx => ?_) (.inr hyl))
  obtain ⟨a, sb, ha⟩ := hx
  obtain ⟨f0, f1, f2, f3, f4, f5⟩ := f
  have ne : C ≠ a := by
    rcases ha with z | z
    · exact z ▸ f1
    · exact fun e => f4 y a z e.symm
  exact ⟨m, hn.sameBut sb ne, fun h3 sb3 => ⟨_, H', J2.turned (t' := s2.toks) (fun b o hb e => (sb3.2 b hb).trans e) f0 f1 f3 f4 f5, q⟩⟩
theorem sw_dict {kx vx : Expr} {gs : List Comprehension} {scope : Scope} {pos py : Pos} {y : Str} {l : Nat} {env : Env} (hk : env.scope.kind = .function) (hy : env.scope.names.lookup y = some .local) (hl : (py.line == pos.line) = true)
    (ha : (scope.names.any fun (n, k) => n == y && (k == .local || k == .cell)) = false) : swapsWith (.DictComp kx vx gs scope pos) (some (.Name y py)) l env = pure true := by
  have ky : env.kindOf y = some .local := hy
  have hb : env.blockKind = .function := by
    unfold Env.blockKind
    rw [hk]
    rfl
  unfold swapsWith
  simp only [hb, ky, ha, Expr.pos, hl]
  rfl
end
end SrR
set_option Elab.async false
set_option linter.all false
set_option maxRecDepth 100000
set_option maxHeartbeats 4000000
/-! set(list of distinct int tuples) up to 1228: the table. -/
namespace SrR
open PySem PySem.Spec PyProof.Rows L2

/-! ### the round x -> 5 x + 1 meets all below 2 ^ k -/
def fives : Nat → Nat
  | 0 => 0
  | n + 1 => fives n * 5 + 1
theorem fives_add (a : Nat) : ∀ b, fives (a + b) = fives b + 5 ^ b * fives a
  | 0 => by simp [fives]
  | b + 1 => by
    show fives (a + b) * 5 + 1 = fives b * 5 + 1 + 5 ^ (b + 1) * fives a
    rw [fives_add a b, Nat.pow_succ]
    grind
theorem five_odd (n : Nat) : 5 ^ n % 4 = 1 := by
  induction n with
  | zero => rfl
  | succ n ih => rw [Nat.pow_succ, Nat.mul_mod, ih]
/-- at 2 ^ k stands an odd number of 2 ^ k -/
theorem fives_two : ∀ k, ∃ c, fives (2 ^ k) = (2 * c + 1) * 2 ^ k
  | 0 => ⟨0, rfl⟩
  | k + 1 => by
    obtain ⟨c, e⟩ := fives_two k
    obtain ⟨d, hd⟩ : ∃ d, 5 ^ 2 ^ k = 4 * d + 1 := ⟨5 ^ 2 ^ k / 4, by have := five_odd (2 ^ k); omega⟩
    refine ⟨2 * c * d + c + d, ?_⟩
    rw [Nat.pow_succ, Nat.mul_two, fives_add, hd, e]
    grind
theorem mod_half {r M j : Nat} (hr : r < 2 * M) (hj : j < 2 * M) (h : r % M = j % M) (ne : r ≠ j) : (r + M) % (2 * M) = j := by
  rcases Nat.lt_or_ge r M with a | a <;> rcases Nat.lt_or_ge j M with b | b
  · rw [Nat.mod_eq_of_lt a, Nat.mod_eq_of_lt b] at h
    exact absurd h ne
  · rw [Nat.mod_eq_of_lt a, Nat.mod_eq_sub_mod b, Nat.mod_eq_of_lt (by omega)] at h
    rw [Nat.mod_eq_of_lt (by omega)]
    omega
  · rw [Nat.mod_eq_of_lt b, Nat.mod_eq_sub_mod a, Nat.mod_eq_of_lt (by omega)] at h
    rw [Nat.mod_eq_sub_mod (by omega), Nat.mod_eq_of_lt (by omega)]
    omega
  · rw [Nat.mod_eq_sub_mod a, Nat.mod_eq_of_lt (by omega), Nat.mod_eq_sub_mod b, Nat.mod_eq_of_lt (by omega)] at h
    omega
theorem fives_all : ∀ k j, j < 2 ^ k → ∃ b, b < 2 ^ k ∧ fives b % 2 ^ k = j
  | 0, j, h => ⟨0, Nat.one_pos, by
    show 0 % 2 ^ 0 = j
    have : j < 1 := h
    simp
    omega⟩
  | k + 1, j, h => by
    have hM : 0 < 2 ^ k := Nat.pow_pos (by decide)
    obtain ⟨b, hb, e⟩ := fives_all k (j % 2 ^ k) (Nat.mod_lt _ hM)
    have e2 : 2 ^ (k + 1) = 2 * 2 ^ k := by rw [Nat.pow_succ, Nat.mul_comm]
    by_cases c : fives b % 2 ^ (k + 1) = j
    · exact ⟨b, by omega, c⟩
    · refine ⟨2 ^ k + b, by omega, ?_⟩
      obtain ⟨d, hd⟩ := fives_two k
      obtain ⟨g, hg⟩ : ∃ g, 5 ^ b = 2 * g + 1 := ⟨5 ^ b / 2, by have := five_odd b; omega⟩
      rw [fives_add, hd, hg, e2]
      rw [e2] at h c
      generalize 2 ^ k = M at *
      have e3 : fives b + (2 * g + 1) * ((2 * d + 1) * M) = fives b + M + (2 * M) * (2 * g * d + g + d) := by grind
      rw [e3, Nat.add_mul_mod_self_left, Nat.add_mod, Nat.mod_eq_of_lt (a := M) (by omega)]
      refine mod_half (Nat.mod_lt _ (by omega)) h ?_ c
      rw [Nat.mod_mul_left_mod, e]
theorem lcg_five {m k : Nat} (hm : m + 1 = 2 ^ k) : ∀ n, lcgN m n = fives n % (m + 1)
  | 0 => by simp [lcgN, fives]
  | n + 1 => by
    show (lcgN m n * 5 + 1) % (m + 1) = (fives n * 5 + 1) % (m + 1)
    rw [lcg_five hm n, Nat.add_mod, Nat.mod_mul_mod, ← Nat.add_mod]
/-- the masks that come -/
def MaskB (m : Nat) : Prop := m = 7 ∨ m = 31 ∨ m = 127 ∨ m = 511 ∨ m = 2047
theorem MaskB.two {m : Nat} (h : MaskB m) : ∃ k, m + 1 = 2 ^ k := by
  rcases h with e | e | e | e | e
  · exact ⟨3, by rw [e]⟩
  · exact ⟨5, by rw [e]⟩
  · exact ⟨7, by rw [e]⟩
  · exact ⟨9, by rw [e]⟩
  · exact ⟨11, by rw [e]⟩
theorem MaskB.odd {m : Nat} (h : MaskB m) : m % 2 = 1 := by
  rcases h with e | e | e | e | e <;> rw [e]
theorem MaskB.le {m : Nat} (h : MaskB m) : m ≤ 2047 := by
  rcases h with e | e | e | e | e <;> omega
theorem lcg_meets {m : Nat} (hm : MaskB m) {i j : Nat} (hi : i ≤ m) (hj : j ≤ m) : ∃ n, n ≤ m ∧ lcgI m i n = j := by
  obtain ⟨k, hk⟩ := hm.two
  obtain ⟨a, ha, ea⟩ := fives_all k i (by omega)
  obtain ⟨b, hb, eb⟩ := fives_all k j (by omega)
  rw [← hk, ← lcg_five hk] at ea eb
  have up : ∀ n, lcgN m (m + 1 + n) = lcgN m n := fun n => by
    obtain ⟨d, hd⟩ := fives_two k
    rw [lcg_five hk, lcg_five hk, fives_add, hk, hd, ← Nat.mul_assoc, Nat.add_mul_mod_self_right]
  rw [← ea]
  by_cases c : a ≤ b
  · exact ⟨b - a, by omega, by rw [lcgN_add, show a + (b - a) = b by omega, eb]⟩
  · exact ⟨m + 1 + b - a, by omega, by rw [lcgN_add, show a + (m + 1 + b - a) = m + 1 + b by omega, up, eb]⟩
theorem runs_meet {m : Nat} (hm : MaskB m) (h : Int) {j : Nat} (hj : j ≤ m) : ∃ n, n ≤ m + 12 ∧ runI m (SetTable.bits h) n = j := by
  obtain ⟨n, hn, e⟩ := lcg_meets hm (runI_le m (SetTable.bits h) 12) hj
  refine ⟨12 + n, by omega, ?_⟩
  rw [runI_tail (bits_lt h), e]
theorem way_in (m : Nat) (h : Int) (k : Nat) : way m h k ≤ m := by
  have hi : SetTable.bits h % (m + 1) ≤ m := Nat.le_of_lt_succ (Nat.mod_lt _ (Nat.succ_pos _))
  have q := nth_in (m := m) k (runAt m (SetTable.bits h % (m + 1)) (SetTable.bits h)) (by
    have r := runEnd_bd hi
    show SetTable.bits h % (m + 1) + (SetTable.runEnd m (SetTable.bits h % (m + 1)) - SetTable.bits h % (m + 1)) ≤ m
    omega)
  show (nth m _ k).j ≤ m
  omega

/-! ### the table: what stands where, no more -/
structure TabB (t : SetTable) (n : Nat) : Prop where
  ris : Ris t.place.toList
  dm : t.dummies = #[]
  sz : t.place.size = n
  mok : MaskB t.mask
theorem TabB.first {t : SetTable} {n : Nat} (T : TabB t n) (hl : n ≤ t.mask) (h : Int) : ∃ K, K < 10 * SetTable.turns t.mask ∧ way t.mask h K ∉ t.place.toList ∧ ∀ k, k < K → way t.mask h k ∈ t.place.toList := by
  obtain ⟨j, hj, hn⟩ := st_missing t.place.toList (t.mask + 1) (by
    rw [Array.length_toList, T.sz]
    omega)
  obtain ⟨a, ha, ea⟩ := runs_meet T.mok h (Nat.le_of_lt_succ hj)
  obtain ⟨k, hk, ek⟩ := run_nth t.mask (SetTable.bits h) a
  have ew : way t.mask h k = j := by
    show (nth _ _ k).j = j
    rw [ek]
    exact ea
  obtain ⟨K, h1, h2, h3⟩ := st_least (p := fun k => way t.mask h k ∉ t.place.toList) k (ew ▸ hn)
  refine ⟨K, ?_, h2, fun c hc => Classical.byContradiction fun z => h3 c hc z⟩
  unfold SetTable.turns
  omega
theorem TabB.put {t : SetTable} {n j : Nat} (T : TabB t n) (hj : j ∉ t.place.toList) : (t.put j).2 = SetTable.below t.place j ∧ SetTable.below t.place j ≤ n ∧ TabB (t.put j).1 (n + 1) ∧ (t.put j).1.mask = t.mask ∧ (t.put j).1.led = t.led ∧ (t.put j).1.plain = t.plain ∧ (t.put j).1.fill = n + 1 := by
  obtain ⟨c1, _, _⟩ := below_cut T.ris j
  have hpl : SetTable.below t.place j ≤ t.place.toList.length := by
    rw [Array.length_toList]
    exact c1
  have hs : (t.put j).1.place.size = n + 1 := by
    rw [← Array.length_toList, put_place, len_ins _ hpl, Array.length_toList, T.sz]
  refine ⟨rfl, T.sz ▸ c1, ⟨ris_insert T.ris fun e => hj (List.mem_of_getElem? (by rw [Array.getElem?_toList]; exact e)), put_dm T.dm j, hs, T.mok⟩, rfl, rfl, rfl, ?_⟩
  show (t.put j).1.place.size + (t.put j).1.dummies.size = n + 1
  rw [hs, put_dm T.dm j] <;> rfl

/-! ### laid anew -/
structure LayB (m n : Nat) (owner : Array (Option Nat)) : Prop where
  sz : owner.size = m + 1
  all : ∀ k, k < n → ∃ j, j ≤ m ∧ oAt owner j = some k
  few : ∃ ps : List Nat, ps.length = n ∧ ∀ j, j ≤ m → oAt owner j ≠ none → j ∈ ps
theorem LayB.start (m : Nat) : LayB m 0 (Array.replicate (m + 1) none) :=
  ⟨by simp, fun _ h => absurd h (Nat.not_lt_zero _), [], rfl, fun _ hj e => absurd (oAt_init hj) e⟩
theorem LayB.more {m n : Nat} {owner : Array (Option Nat)} (hm : MaskB m) (W : LayB m n owner) (hl : n ≤ m) (h : Int) :
    ∃ j, SetTable.layClean.free m owner (SetTable.turns m) (SetTable.bits h % (m + 1)) (SetTable.bits h) = some j ∧ LayB m (n + 1) (owner.setIfInBounds j (some n)) := by
  obtain ⟨ps, hps, hin⟩ := W.few
  obtain ⟨j0, h0, hn0⟩ := st_missing ps (m + 1) (by omega)
  have free0 : oAt owner j0 = none := Classical.byContradiction fun z => hn0 (hin j0 (Nat.le_of_lt_succ h0) z)
  obtain ⟨a, ha, ea⟩ := runs_meet hm h (Nat.le_of_lt_succ h0)
  have ew : way m h (off m (SetTable.bits h % (m + 1)) (SetTable.bits h) a) = j0 := by
    show (nth m _ _).j = j0
    rw [nth_off, itL_run]
    exact ea
  obtain ⟨K, k1, k2, k3⟩ := st_least (p := fun k => oAt owner (way m h k) = none) _ (ew ▸ free0)
  have found := free_spec m owner (SetTable.turns m) a (SetTable.bits h % (m + 1)) (SetTable.bits h) K (by unfold SetTable.turns; omega) k1
    (fun k hk => by
      cases z : oAt owner (way m h k) with
      | none => exact absurd z (k3 k hk)
      | some _ => rfl)
    (by
      show (oAt owner (way m h K)).isNone = true
      rw [k2] <;> rfl)
  refine ⟨way m h K, found, ?_⟩
  have hin2 : way m h K < owner.size := W.sz ▸ Nat.lt_succ_of_le (way_in m h K)
  have here := oAt_set_self (some n) hin2
  refine ⟨by rw [Array.size_setIfInBounds, W.sz], fun k hk => ?_, way m h K :: ps, by rw [List.length_cons, hps], fun j hj e => ?_⟩
  · rcases Nat.lt_or_ge k n with c | c
    · obtain ⟨j, hj, e⟩ := W.all k c
      exact ⟨j, hj, (oAt_set_ne _ fun z => by
        rw [z, k2] at e
        cases e).trans e⟩
    · exact ⟨way m h K, way_in m h K, by rw [here, show k = n by omega]⟩
  · by_cases c : j = way m h K
    · exact c ▸ List.mem_cons_self
    · rw [oAt_set_ne _ c] at e
      exact List.mem_cons_of_mem _ (hin j hj e)
theorem lay_fold {m : Nat} (hm : MaskB m) : ∀ (l : List Int) (n : Nat) (owner : Array (Option Nat)), LayB m n owner → n + l.length ≤ m → ∃ o2, l.foldl (stepF m) (some (owner, n)) = some (o2, n + l.length) ∧ LayB m (n + l.length) o2
  | [], n, owner, W, _ => ⟨owner, rfl, W⟩
  | h :: l, n, owner, W, hl => by
    rw [List.length_cons] at hl
    obtain ⟨j, e, W2⟩ := W.more hm (by omega) h
    obtain ⟨o2, e2, W3⟩ := lay_fold hm l (n + 1) _ W2 (by omega)
    have ez : n + 1 + l.length = n + (h :: l).length := by
      rw [List.length_cons]
      omega
    rw [ez] at e2 W3
    exact ⟨o2, by rw [List.foldl_cons, stepF_some e, e2], W3⟩
theorem relaid_b (t : SetTable) {hs : Array Int} {wanted M : Nat} (hw : SetTable.sizeAbove wanted - 1 = M) (hM : MaskB M) (hn : hs.size ≤ M) :
    ∃ t' order, t.relaid hs wanted = some (t', order) ∧ order.toList.Perm (List.range hs.size) ∧ TabB t' hs.size ∧ t'.mask = M ∧ t'.led = t.led ∧ t'.plain = t.plain := by
  obtain ⟨owner, e, W⟩ := lay_fold hM hs.toList 0 _ (LayB.start M) (by rw [Array.length_toList]; omega)
  rw [Array.length_toList, Nat.zero_add] at e W
  have hr : t.relaid hs wanted = some (tabOf t M owner, ((liveOf M owner).map (·.2)).toArray) := by
    rw [relaid_eq, hw, layClean_eq, e] <;> rfl
  have ris := ris_live (fun j => owner.getD j none) (List.range (M + 1)) (by
    unfold Ris
    first | exact List.pairwise_lt_range | exact List.pairwise_lt_range _)
  have r1 : Ris ((liveOf M owner).map (·.1)) := ris.1
  have one : ((liveOf M owner).map (·.1)).Nodup := List.Pairwise.imp (fun h => Nat.ne_of_lt h) r1
  have len : (liveOf M owner).length = hs.size := by
    obtain ⟨ps, p1, p2⟩ := W.few
    have up := nat_nodup_len _ ps one fun x hx => by
      obtain ⟨⟨y, k⟩, hq, rfl⟩ := List.mem_map.mp hx
      have q := (mem_live W.sz).1 hq
      exact p2 y q.1 (by rw [q.2]; exact fun z => nomatch z)
    have dn := nat_nodup_len (List.range hs.size) ((liveOf M owner).map (·.2)) List.nodup_range fun k hk => by
      obtain ⟨j, a, b⟩ := W.all k (List.mem_range.mp hk)
      exact List.mem_map.mpr ⟨(j, k), (mem_live W.sz).2 ⟨a, b⟩, rfl⟩
    rw [List.length_map] at up dn
    rw [List.length_range] at dn
    omega
  refine ⟨_, _, hr, perm_range hs.size _ (by simp [len]) fun k hk => ?_, ⟨r1, rfl, ?_, hM⟩, rfl, rfl, rfl⟩
  · obtain ⟨j, a, b⟩ := W.all k hk
    exact List.mem_map.mpr ⟨(j, k), (mem_live W.sz).2 ⟨a, b⟩, rfl⟩
  · show ((liveOf M owner).map (·.1)).toArray.size = hs.size
    rw [List.size_toArray, List.length_map, len]
end SrR
set_option Elab.async false
set_option linter.all false
set_option maxRecDepth 100000
set_option maxHeartbeats 4000000
/-! set(list of distinct int tuples) up to 1228: search, adding, the call, sorted of it. -/
namespace SrR
open PySem PySem.Spec PyProof.Rows L2
section
variable {P : Program} {w : World} {A : Around} {E : Value → Shared → Prop} {s : Shared}
structure SetB (P : Program) (w : World) (h : Heap) (a : Addr) (L : List (Addr × List Int)) (es : Array (Int × Value)) (ep : Nat) (t : SetTable) : Prop where
  ob : ∃ o, h.get? a = some o ∧ o.ExactSet ∧ o.data = .set es ep t
  rows : es.toList = rowsOf P w L
  tab : TabB t L.length
  nd : (L.map (·.2)).Nodup
  tup : ∀ p ∈ L, IsT P w h p.2 p.1
  plain : t.plain = true
  led : w.params.followText "set-order" = true ∨ t.led = true
  room : L.length * 5 < t.mask * 3
  few : L.length ≤ 1228
variable {a : Addr} {L : List (Addr × List Int)} {es : Array (Int × Value)} {ep : Nat} {t : SetTable}
theorem rows_size {L : List (Addr × List Int)} {es : Array (Int × Value)} (h : es.toList = rowsOf P w L) : es.size = L.length := by
  have q := congrArg List.length h
  rwa [Array.length_toList, show (rowsOf P w L).length = L.length from List.length_map _] at q
theorem fits_b {t : SetTable} {n : Nat} (T : TabB t n) (hl : n ≤ t.mask) {k : Nat} (e : k = n) : t.fits k = true := by
  have h1 := T.sz
  unfold SetTable.fits SetTable.fill
  rw [T.dm, Bool.and_eq_true, beq_iff_eq, decide_eq_true_eq]
  show t.place.size = k ∧ t.place.size + 0 ≤ t.mask
  omega
theorem SetB.fits (R : SetB P w s.heap a L es ep t) : t.fits es.size = true := fits_b R.tab (by have := R.room; omega) (rows_size R.rows)
theorem SetB.at_ (R : SetB P w s.heap a L es ep t) {i : Nat} {p : Addr × List Int} (h : L[i]? = some p) : es[i]? = some (thash P w p.2, Value.ref p.1) := by
  rw [← Array.getElem?_toList, R.rows]
  unfold rowsOf
  rw [List.getElem?_map, h] <;> rfl
theorem SetB.stays (R : SetB P w s.heap a L es ep t) : ¬ t.gaveWay = true := by
  unfold SetTable.gaveWay
  rw [R.tab.mok.odd]
  decide
theorem nth_plain (m : Nat) : ∀ (n : Nat) (p : SetTable.Probe), p.dummy = none → (nth m p n).dummy = none
  | 0, _, h => h
  | n + 1, p, h => nth_plain m n (adv m p) (by
    unfold adv
    split <;> exact h)
/-- the way's k-th state -/
abbrev wayP (m : Nat) (h : Int) (k : Nat) : SetTable.Probe := nth m (runAt m (SetTable.bits h % (m + 1)) (SetTable.bits h)) k
theorem way_on (m : Nat) (h : Int) (c q : Nat) : nth m (wayP m h c) q = wayP m h (c + q) := (nth_add m c _ q).symm
/-- the search for a tuple that isn't there, from the c-th state of the way on -/
theorem seek (R : SetB P w s.heap a L es ep t) {x : Addr} {k : List Int} (hx : IsT P w s.heap k x) (hu : A.units < cLine) (hn : k ∉ L.map (·.2)) {K : Nat} (hKf : K < 10 * SetTable.turns t.mask)
    (hK : way t.mask (thash P w k) K ∉ t.place.toList) (hKb : ∀ c, c < K → way t.mask (thash P w k) c ∈ t.place.toList) {Q : SetFound → Shared → Prop} (hQ : Q (.free (way t.mask (thash P w k) K) false) s) :
    ∀ (f c : Nat) (stand : Option SetTable.Probe), stand.getD (t.probeStart (thash P w k)) = wayP t.mask (thash P w k) c → c ≤ K → K - c < f → wpAny (model P w) A (setSearchFrom a (.ref x) (thash P w k) true f stand) Q E s
  | 0, _, _, _, _, hf => absurd hf (Nat.not_lt_zero _)
  | f + 1, c, stand, hst, hc, hf => by
    obtain ⟨o, ho, hex, hd⟩ := R.ob
    rw [setSearchFrom_succ]
    refine wpAny_bind (wpAny_setState_of ho hd R.fits ?_)
    dsimp only
    refine wp_if_neg R.stays ?_
    try refine wpAny_bind (wpAny_pure ?_)
    have spec := go_spec t R.tab.ris R.tab.dm (fun i => (es[i]?.map (·.1)).getD 0) (thash P w k) (10 * SetTable.turns t.mask) (K - c) (wayP t.mask (thash P w k) c) (nth_plain _ _ _ rfl) (by omega)
      (fun q hq => by
        rw [way_on]
        exact hKb (c + q) (by omega))
      (by
        rw [way_on, show c + (K - c) = K by omega]
        exact hK)
    rcases spec with ⟨q, i, hq, hi, hh, hno, hpr⟩ | ⟨hno, hpr⟩
    · rw [way_on] at hi hpr
      rw [way_on] at hpr
      have hpr2 : t.probe (fun i => (es[i]?.map (·.1)).getD 0) (thash P w k) (stand.getD (t.probeStart (thash P w k))) = some (.candidate (way t.mask (thash P w k) (c + q)) i (wayP t.mask (thash P w k) (c + (q + 1)))) := by
        rw [hst]
        exact hpr
      rw [hpr2]
      dsimp only
      have hil : i < L.length := by
        have h1 := (List.getElem?_eq_some_iff.mp hi).1
        rw [Array.length_toList, R.tab.sz] at h1
        exact h1
      have hp : L[i]? = some L[i] := List.getElem?_eq_getElem hil
      generalize L[i] = p at hp
      have hm : p ∈ L := List.mem_of_getElem? hp
      have hne : ¬ p.2 = k := fun e => hn (List.mem_map.mpr ⟨p, hm, e⟩)
      have next : wpAny (model P w) A (searchRest a (.ref x) (thash P w k) true f es t (way t.mask (thash P w k) (c + q)) i (wayP t.mask (thash P w k) (c + (q + 1)))) Q E s := by
        unfold searchRest
        rw [R.at_ hp]
        dsimp only
        refine wpAny_bind (wpAny_holding (wpAny_eqBool_tuple hu (R.tup p hm) hx ?_))
        refine wpAny_bind (wpAny_setState_of ho hd R.fits ?_)
        dsimp only
        refine wp_if_neg (by simp [hne]) ?_
        try refine wpAny_bind (wpAny_pure ?_)
        rw [sameMem]
        dsimp only
        simp only [if_true, slot_live R.tab.ris hi, R.at_ hp]
        refine wpAny_bind (wpAny_isSame_ref_self (wpAny_bind (wpAny_pure ?_)))
        simp only [if_true]
        refine wp_if_neg (by simp [hne]) ?_
        exact seek R hx hu hn hKf hK hKb hQ f (c + (q + 1)) _ rfl (by omega) (by omega)
      by_cases hl : t.led = true
      · refine wp_if_neg (by simp [hl]) ?_
        try refine wpAny_bind (wpAny_pure ?_)
        exact next
      · refine wp_if_pos (by simp [hl]) ?_
        refine wpAny_bind (seen_tup hx (fun y hy => ?_) ?_)
        · obtain ⟨e, he, rfl⟩ := List.mem_map.mp hy
          have h1 : e ∈ es ∧ e.1 = thash P w k := by simpa using he
          have h2 : e ∈ es.toList := by simpa using h1.1
          rw [R.rows] at h2
          obtain ⟨z, hz, rfl⟩ := List.mem_map.mp h2
          exact ⟨z.2, z.1, rfl, R.tup z hz⟩
        · refine wp_if_neg (by decide) ?_
          try refine wpAny_bind (wpAny_pure ?_)
          exact next
    · rw [way_on, show c + (K - c) = K by omega] at hpr
      have hpr2 : t.probe (fun i => (es[i]?.map (·.1)).getD 0) (thash P w k) (stand.getD (t.probeStart (thash P w k))) = some (.empty (way t.mask (thash P w k) K) none) := by
        rw [hst]
        exact hpr
      rw [hpr2]
      exact wpAny_pure hQ
theorem seek_at (R : SetB P w s.heap a L es ep t) {x : Addr} {k : List Int} (hx : IsT P w s.heap k x) (hu : A.units < cLine) (hn : k ∉ L.map (·.2)) {Q : SetFound → Shared → Prop}
    (hQ : ∀ j, j ∉ t.place.toList → Q (.free j false) s) : wpAny (model P w) A (setSearch a (.ref x) (thash P w k) true) Q E s := by
  have hroom := R.room
  obtain ⟨K, hKf, hK, hKb⟩ := R.tab.first (by omega) (thash P w k)
  have few := R.tab.mok.le
  unfold setSearch
  refine seek R hx hu hn hKf hK hKb (hQ _ hK) 100000 0 none rfl (Nat.zero_le _) ?_
  unfold SetTable.turns at hKf
  omega

theorem grow_5 : SetTable.sizeAbove (SetTable.grown 5) = 32 := by decide +kernel
theorem grow_19 : SetTable.sizeAbove (SetTable.grown 19) = 128 := by decide +kernel
theorem grow_77 : SetTable.sizeAbove (SetTable.grown 77) = 512 := by decide +kernel
theorem grow_307 : SetTable.sizeAbove (SetTable.grown 307) = 2048 := by decide +kernel
/-- the table grows -/
theorem relay_b {o : Obj} (ho : s.heap.get? a = some o) (hex : o.ExactSet) (hd : o.data = .set es ep t) (hrows : es.toList = rowsOf P w L) (T : TabB t L.length) (hfl : L.length ≤ t.mask)
    (nd : (L.map (·.2)).Nodup) (tup : ∀ p ∈ L, IsT P w s.heap p.2 p.1) (pl : t.plain = true) (ld : w.params.followText "set-order" = true ∨ t.led = true) (few : L.length ≤ 1228) {wanted M : Nat}
    (hw : SetTable.sizeAbove wanted = M + 1) (hM : MaskB M) (hn : L.length * 5 < M * 3) {Q : Unit → Shared → Prop}
    (hQ : ∀ h' L' es' ep' t', Heap.SameBut a s.heap h' → SetB P w h' a L' es' ep' t' → L'.Perm L → Q () { s with heap := h' }) : wpAny (model P w) A (setRelay a wanted) Q E s := by
  have hsl := rows_size hrows
  have hM2 := hM.le
  have hfits := fits_b T hfl hsl
  obtain ⟨t', order, e, hp, T2, em, el, epl⟩ := relaid_b t (hs := es.map (·.1)) (wanted := wanted) (M := M) (by omega) hM (by
    rw [Array.size_map, hsl]
    omega)
  rw [Array.size_map, hsl] at hp T2
  obtain ⟨L2, r1, r2, _⟩ := order_rows L es order hrows hp
  have hs2 : (order.filterMap (es[·]?)).size = es.size := by rw [rows_size r1, r2.length_eq, hsl]
  rw [setRelay_eq]
  refine wpAny_bind (wpAny_setState_of ho hd hfits ?_)
  dsimp only
  refine wp_if_neg (by rw [sizeLine_eq]; omega) ?_
  try refine wpAny_bind (wpAny_pure ?_)
  rw [e]
  dsimp only
  refine wpAny_bind ?_
  refine wp_if_neg (by rw [hs2]; simp) ?_
  try refine wpAny_bind (wpAny_pure ?_)
  refine wpAny_pure ?_
  dsimp only
  refine wpAny_storeSet_of ho hd ?_ (by rw [hs2, hsl, sizeLine_eq]; omega)
  have sb : Heap.SameBut a s.heap (s.heap.update a (Obj.putSet (order.filterMap (es[·]?)) t')) := Heap.SameBut.update ..
  refine hQ _ L2 (order.filterMap (es[·]?)) (ep + 1) t' sb ⟨⟨_, store_at ho hd, ⟨hex.1, hex.2.1, hex.2.2⟩, rfl⟩, r1, r2.length_eq ▸ T2, (r2.map (·.2)).nodup_iff.mpr nd,
    fun p hpm => isT_same (tup p (r2.mem_iff.mp hpm)) ho hd sb, epl ▸ pl, el ▸ ld, ?_, r2.length_eq ▸ few⟩ r2
  rw [r2.length_eq, em]
  exact hn
/-- a new tuple is added -/
theorem add_b (R : SetB P w s.heap a L es ep t) {x : Addr} {k : List Int} (hx : IsT P w s.heap k x) (hu : A.units < cLine) (hn : k ∉ L.map (·.2)) (hfew : L.length + 1 ≤ 1228) {Q : Bool → Shared → Prop}
    (hQ : ∀ h' L' es' ep' t', Heap.SameBut a s.heap h' → SetB P w h' a L' es' ep' t' → L'.Perm ((x, k) :: L) → Q true { s with heap := h' }) : wpAny (model P w) A (setAddHashed a (.ref x) (thash P w k)) Q E s := by
  obtain ⟨o, ho, hex, hd⟩ := R.ob
  have hsl := rows_size R.rows
  have hroom := R.room
  unfold setAddHashed
  refine wpAny_holding ?_
  rw [show (100000 : Nat) = 99999 + 1 from rfl, setAddHashedIn_succ]
  refine wpAny_bind (wpAny_setState_of ho hd R.fits ?_)
  dsimp only
  refine wp_if_neg (by simp [byScan, Value.scannable]) ?_
  try refine wpAny_bind (wpAny_pure ?_)
  refine wpAny_bind (seek_at R hx hu hn fun j hj => ?_)
  dsimp only
  refine wpAny_bind (wpAny_setState_of ho hd R.fits ?_)
  dsimp only
  obtain ⟨q1, q2, q3, q4, q5, q6, q7⟩ := R.tab.put hj
  have hp1 : (t.put j).1.plain = true := q6 ▸ R.plain
  generalize t.put j = pt at q1 q3 q4 q5 q6 q7 hp1 ⊢
  obtain ⟨t1, p⟩ := pt
  dsimp only at q1 q3 q4 q5 q6 q7 hp1 ⊢
  subst q1
  first
    | (refine wpAny_bind ?_; refine wp_if_pos hp1 ?_; refine hashBy_tup hx ?_)
    | refine wp_if_pos hp1 (wpAny_bind (hashBy_tup hx ?_))
  simp only [if_true]
  generalize SetTable.below t.place j = p at q2 ⊢
  have hin : (SetTable.insertAt es p (thash P w k, Value.ref x)).toList = rowsOf P w (L.take p ++ (x, k) :: L.drop p) := by rw [SetTable.toList_insertAt, rows_put, R.rows]
  have pm := put_perm L p (x, k)
  have hlen : (L.take p ++ (x, k) :: L.drop p).length = L.length + 1 := pm.length_eq
  have nd1 : ((L.take p ++ (x, k) :: L.drop p).map (·.2)).Nodup := (pm.map (·.2)).nodup_iff.mpr (List.nodup_cons.mpr ⟨hn, R.nd⟩)
  have hes := rows_size hin
  rw [hlen] at hes
  generalize SetTable.insertAt es p (thash P w k, Value.ref x) = es1 at hin hes ⊢
  generalize L.take p ++ (x, k) :: L.drop p = L1 at pm hlen nd1 hin
  rw [← hlen] at q3
  refine wpAny_bind (wpAny_storeSet_of ho hd ?_ (by rw [hes, sizeLine_eq]; omega))
  have sb : Heap.SameBut a s.heap (s.heap.update a (Obj.putSet es1 t1)) := Heap.SameBut.update ..
  have ho1 := store_at (es' := es1) (t' := t1) ho hd
  generalize s.heap.update a (Obj.putSet es1 t1) = h1 at sb ho1 ⊢
  have tup1 : ∀ p ∈ L1, IsT P w h1 p.2 p.1 := fun p hp => by
    rcases List.mem_cons.mp (pm.mem_iff.mp hp) with e | hp
    · exact e ▸ isT_same hx ho hd sb
    · exact isT_same (R.tup p hp) ho hd sb
  have ld1 : w.params.followText "set-order" = true ∨ t1.led = true := q5 ▸ R.led
  by_cases hf : t1.tooFull = true
  · first
      | (refine wpAny_bind ?_; refine wp_if_pos (by simp [hf]) ?_)
      | (refine wp_if_pos (by simp [hf]) ?_; refine wpAny_bind ?_)
    have hfull : (L.length + 1) * 5 ≥ t.mask * 3 := by
      have h := hf
      unfold SetTable.tooFull at h
      rw [decide_eq_true_eq, q7, q4] at h
      exact h
    rw [hsl]
    have go : ∀ M, SetTable.sizeAbove (SetTable.grown (L.length + 1)) = M + 1 → MaskB M → (L.length + 1) * 5 < M * 3 →
        wpAny (model P w) A (setRelay a (SetTable.grown (L.length + 1))) (fun _ s' => wpAny (model P w) A (pure true) Q E s') E { s with heap := h1 } := fun M g1 g2 g3 => by
      refine relay_b (s := { s with heap := h1 }) ho1 ⟨hex.1, hex.2.1, hex.2.2⟩ rfl hin q3 (by rw [q4, hlen]; omega) nd1 tup1 hp1 ld1 (by omega) g1 g2 (by omega) fun h2 L2 es2 ep2 t2 sb2 R2 pm2 => ?_
      exact wpAny_pure (hQ h2 L2 es2 ep2 t2 (sb.trans sb2) R2 (pm2.trans pm))
    have size : ∀ n, L.length = n → L.length + 1 = n + 1 := fun n h => by omega
    rcases R.tab.mok with e | e | e | e | e <;> rw [e] at hfull hroom
    · have z : L.length + 1 = 5 := by omega
      exact go 31 (by rw [z, grow_5]) (.inr (.inl rfl)) (by omega)
    · have z : L.length + 1 = 19 := by omega
      exact go 127 (by rw [z, grow_19]) (.inr (.inr (.inl rfl))) (by omega)
    · have z : L.length + 1 = 77 := by omega
      exact go 511 (by rw [z, grow_77]) (.inr (.inr (.inr (.inl rfl)))) (by omega)
    · have z : L.length + 1 = 307 := by omega
      exact go 2047 (by rw [z, grow_307]) (.inr (.inr (.inr (.inr rfl)))) (by omega)
    · omega
  · first
      | refine wp_if_neg (by simp [hf]) ?_
      | (refine wpAny_bind ?_; refine wp_if_neg (by simp [hf]) ?_; refine wpAny_pure ?_)
    refine wpAny_pure (hQ h1 L1 es1 (ep + 1) t1 sb ⟨⟨_, ho1, ⟨hex.1, hex.2.1, hex.2.2⟩, rfl⟩, hin, q3, nd1, tup1, hp1, ld1, ?_, by omega⟩ pm)
    have h := hf
    unfold SetTable.tooFull at h
    rw [decide_eq_true_eq, q7] at h
    omega
theorem SetB.keep {h h' : Heap} (R : SetB P w h a L es ep t) (ha : ∀ o, h.get? a = some o → h'.get? a = some o) (ht : ∀ p ∈ L, IsT P w h' p.2 p.1) : SetB P w h' a L es ep t := by
  obtain ⟨o, ho, r⟩ := R.ob
  exact ⟨⟨o, ha o ho, r⟩, R.rows, R.tab, R.nd, ht, R.plain, R.led, R.room, R.few⟩
theorem setB_new {h : Heap} {a : Addr} (ho : h.get? a = some { cls := .type "set", dict := none, data := .set #[] 0 (.fresh 0 0 (!w.params.followText "set-order")) }) : SetB P w h a [] #[] 0 (.fresh 0 0 (!w.params.followText "set-order")) := by
  refine ⟨⟨_, ho, ⟨rfl, rfl, rfl⟩, rfl⟩, rfl, ⟨List.Pairwise.nil, rfl, rfl, .inl rfl⟩, List.nodup_nil, (fun p hp => nomatch hp), rfl, ?_, show 0 * 5 < 7 * 3 by decide, Nat.zero_le _⟩
  show _ ∨ (!w.params.followText "set-order") = true
  cases w.params.followText "set-order"
  · exact .inr rfl
  · exact .inl rfl
end
end SrR
set_option Elab.async false
set_option linter.all false
set_option maxRecDepth 100000
set_option maxHeartbeats 4000000
/-! set(x): the call's shell, the loops over a list of int tuples and over a tuple of texts. -/
namespace SrR
open PySem PySem.Spec PyProof.Rows L2
section
variable {P : Program} {w : World} {A : Around} {E : Value → Shared → Prop} {s : Shared}
abbrev newSet (w : World) : Obj := { cls := .type "set", dict := none, data := .set #[] 0 (.fresh 0 0 (!w.params.followText "set-order")) }
/-- set(x), once its __init__ is told -/
theorem set_shell {x : Addr} {Z : Heap → Nat → Prop} {Q : Value → Shared → Prop}
    (hin : wpAny (model P w) A.in1.in1 (Builtin.«set.__init__» ⟨[.ref s.heap.objs.size, .ref x], []⟩) (fun r s₂ => r = .done (.ret .none) ∧ ∃ h' tk, s₂ = { s with heap := h', toks := tk } ∧ Z h' tk) E { s with heap := s.heap.push (newSet w) })
    (h : ∀ h' tk, Z h' tk → Q (.ref s.heap.objs.size) { s with heap := h', toks := tk }) : wpAny (model P w) A (call (.type "set") [.ref x]) Q E s := by
  obtain ⟨c, tl, hmro⟩ := F.called_set.mro
  have hmade := F.called_set.made
  have hsub := F.called_set.sub
  refine wpAny_call (codeAny_of_tree ?_)
  show wpAny _ _ (callAny (.type "set") _) _ _ _
  refine wpAny_pure ⟨Code.quiet_builtin _ (by decide +kernel), codeAny_builtin F.entry_type_call ?_⟩
  rw [Around.under_plain (weight_type_call_type "set" [.ref x] []) rfl]
  have h1 := F.called_set.notType
  have h2 := F.called_set.canCreate
  have hct := F.typeCall_set_1 (.ref x)
  repeat (any_goals (first | assumption | wp_step))
  refine codeAny_mono (code_set_led1 (.ref x) (E := E) (Q₁ := fun obj s₁ => obj = .ref s.heap.objs.size ∧ s₁ = { s with heap := s.heap.push (newSet w) }) ⟨rfl, rfl⟩) fun r s₁ hr => ?_
  cases r with
  | error e => exact hr
  | ok fl =>
    cases fl with
    | ret obj =>
      obtain ⟨rfl, rfl⟩ := hr
      have hT : Shared.TypeIs { s with heap := s.heap.push (newSet w) } (.ref s.heap.objs.size) "set" := ⟨_, Heap.get?_push_size _ rfl, rfl⟩
      have hli := F.called_set.init.lookup
      have hbi := F.called_set.init.bind (.ref s.heap.objs.size)
      repeat (any_goals (first | assumption | wp_step))
      refine codeAny_mono (codeAny_call_builtin (R := wants (fun r s₂ => r = .none ∧ ∃ h' tk, s₂ = { s with heap := h', toks := tk } ∧ Z h' tk) E) F.called_set.init.plain F.entry_set_init (check_set_init_1 hT ?_)) fun r₂ s₂ hr₂ => ?_
      · refine wpAny_mono hin (fun r s2 hq => ?_) fun _ _ e => e
        obtain ⟨rfl, q⟩ := hq
        exact ⟨rfl, q⟩
      · cases r₂ with
        | error e => exact hr₂
        | ok fl₂ =>
          cases fl₂ with
          | ret r =>
            obtain ⟨rfl, h', tk, rfl, z⟩ := hr₂
            repeat (any_goals (first | assumption | wp_step))
            exact h _ _ z
          | _ => exact hr₂.elim
    | _ => exact hr.elim
/-- the loop of set(x), its state told by Good -/
theorem set_loop {I : Addr} {fp wr : List Addr} {G : Array GenState → Array GenState → Prop} {n : Nat} {Pv : Nat → Value → Prop} {St : Nat → Shared → Prop} {R : Result → Shared → Prop} (W : WalksS P w A.in1 I fp wr G n Pv St) (S : Addr) (hSf : S ∉ fp)
    (Good : Nat → Heap → Prop) (keepG : ∀ i h h', Good i h → (∀ b o, b ∉ wr → h.get? b = some o → h'.get? b = some o) → Good i h')
    (step : ∀ i v (s' : Shared), i < n → Pv i v → Good i s'.heap → ∀ (Q : Bool → Shared → Prop) (E : Value → Shared → Prop), (∀ b h' tk, s'.toks ≤ tk → Heap.SameBut S s'.heap h' → Good (i + 1) h' → Q b { s' with heap := h', toks := tk }) → wpAny (model P w) A.in1 (setAdd S v) Q E s') :
    ∀ (k i : Nat) (s : Shared), n - i = k → i ≤ n → St i s → Good i s.heap → (∀ s', Moved (S :: wr) G s s' → Good n s'.heap → R (.ok (.ret .none)) s') → codeAny (model P w) A (.builtin "set.update.loop" ⟨[.ref S, .ref I], []⟩) R s := by
  have up : ∀ b ∈ wr, b ∈ S :: wr := fun b hb => List.mem_cons_of_mem _ hb
  intro k
  induction k with
  | zero =>
    intro i s hk hi hst g hR
    obtain rfl : i = n := by omega
    refine codeAny_builtin F.entry_set_update_loop ?_
    rw [Around.under_plainId F.plain_set_update_loop _]
    show wpAny _ A.in1 (pyNext (.ref I) >>= _) _ _ s
    refine wpAny_bind (W.done s _ _ hst fun s' hm => ?_)
    show wpAny _ A.in1 (ret Value.none) _ _ s'
    exact wpAny_pure (hR s' (hm.mono up) (keepG _ _ _ g fun b o hb e => hm.heap b o hb e))
  | succ k ih =>
    intro i s hk hi hst g hR
    have lt : i < n := by omega
    refine codeAny_builtin F.entry_set_update_loop ?_
    rw [Around.under_plainId F.plain_set_update_loop _]
    show wpAny _ A.in1 (pyNext (.ref I) >>= _) _ _ s
    refine wpAny_bind (W.item i s _ _ lt hst fun v s' hP hst' hm => ?_)
    show wpAny _ A.in1 (holding [v] (setAdd S v) >>= _) _ _ s'
    refine wpAny_bind (wpAny_holding (step i v s' lt hP (keepG _ _ _ g fun b o hb e => hm.heap b o hb e) _ _ fun b h' tk htk sb g2 => ?_))
    refine wpAny_pure ⟨plainId_quiet F.plain_set_update_loop _, ih (i + 1) _ (by omega) lt (W.frame _ s' _ _ hst' htk fun b hb o e => ?_) g2 fun s'' hm2 g3 => ?_⟩
    · exact (sb.2 b fun z => hSf (z ▸ hb)).trans e
    · exact hR s'' (Moved.trans W.gtrans ((hm.mono up).then_heap htk fun b o hb e => (sb.2 b fun z => hb (z ▸ List.mem_cons_self)).trans e) hm2) g3

/-- set(x), x a list or a tuple -/
theorem set_items {l : Addr} {items : Array Value} {Q : Value → Shared → Prop} (hh : A.handled = none) (hl : s.heap.IsList l items ∨ s.heap.IsTuple l items) (Good : Nat → Heap → Prop)
    (g0 : ∀ h, h.get? s.heap.objs.size = some (newSet w) → (∀ b o, s.heap.get? b = some o → h.get? b = some o) → Good 0 h)
    (keepG : ∀ i h h', Good i h → (∀ b o, b ≠ s.heap.objs.size + 1 → h.get? b = some o → h'.get? b = some o) → Good i h')
    (step : ∀ i v (s' : Shared), items[i]? = some v → Good i s'.heap → ∀ (Q : Bool → Shared → Prop) (E : Value → Shared → Prop), (∀ b h' tk, s'.toks ≤ tk → Heap.SameBut s.heap.objs.size s'.heap h' → Good (i + 1) h' → Q b { s' with heap := h', toks := tk }) → wpAny (model P w) A.in1.in1.in1 (setAdd s.heap.objs.size v) Q E s')
    (h : ∀ h' tk, (∀ b o, s.heap.get? b = some o → h'.get? b = some o) → Good items.size h' → Q (.ref s.heap.objs.size) { s with heap := h', toks := tk }) : wpAny (model P w) A (call (.type "set") [.ref l]) Q E s := by
  have hh3 : A.in1.in1.in1.handled = none := by simp [hh]
  have z1 : (s.heap.push (newSet w)).objs.size = s.heap.objs.size + 1 := Heap.size_push ..
  have hS : (s.heap.push (newSet w)).get? s.heap.objs.size = some (newSet w) := Heap.get?_push_size _ rfl
  refine set_shell (Z := fun h' _ => (∀ b o, s.heap.get? b = some o → h'.get? b = some o) ∧ Good items.size h') ?_ fun h' tk z => h h' tk z.1 z.2
  have start : ∀ ob : Obj, Good 0 ((s.heap.push (newSet w)).push ob) := fun ob => g0 _ (Heap.get?_push_of_some _ hS) fun b o e => Heap.get?_push_of_some _ (Heap.get?_push_of_some _ e)
  have fin : ∀ (G : Array GenState → Array GenState → Prop) (ob : Obj) (s' : Shared), (∀ g g', G g g' → g' = g) → Moved (s.heap.objs.size :: [(s.heap.push (newSet w)).objs.size]) G { s with heap := (s.heap.push (newSet w)).push ob } s' → Good items.size s'.heap →
      ∃ h' tk, s' = { s with heap := h', toks := tk } ∧ (∀ b o, s.heap.get? b = some o → h'.get? b = some o) ∧ Good items.size h' := fun G ob s' hG hm g => by
    obtain ⟨h', g2, d', tk', os'⟩ := s'
    obtain rfl : g2 = s.gens := hG _ _ hm.gens
    obtain rfl : d' = s.drawn := hm.drawn
    obtain rfl : os' = s.os := hm.os
    refine ⟨h', tk', rfl, fun b o e => ?_, g⟩
    have hlt := Heap.lt_size e
    refine hm.heap b o (fun hb => ?_) (Heap.get?_push_of_some _ (Heap.get?_push_of_some _ e))
    rw [z1] at hb
    rcases List.mem_cons.mp hb with z | z
    · exact absurd z (Nat.ne_of_lt hlt)
    · exact absurd (List.mem_singleton.mp z) (Nat.ne_of_lt (Nat.lt_succ_of_lt hlt))
  rcases hl with hl | hl
  · obtain ⟨⟨ocls, odict, odata, oslots⟩, hol, hcl, nl, hdl⟩ := hl
    simp only at hcl hdl
    subst hcl
    subst hdl
    have hlS := Heap.lt_size hol
    have hol' : (s.heap.push (newSet w)).get? l = some { cls := .type "list", dict := odict, data := .seq items nl, slots := oslots } := Heap.get?_push_of_some _ hol
    have hsls := F.sub_list_set
    have hslf := F.sub_list_frozenset
    have hne : (Value.type "list" == Value.type "dict") = false := by decide
    have hl1 : (s.heap.push (newSet w)).IsList l items := ⟨_, hol', rfl, nl, rfl⟩
    have hneI : l ≠ (s.heap.push (newSet w)).objs.size := by
      rw [z1]
      exact Nat.ne_of_lt (Nat.lt_succ_of_lt hlS)
    unfold Builtin.«set.__init__» noKeywords Builtin.Frozenset.updateFrom
    generalize hPI : pyIter = PI
    wp_walk
    subst hPI
    refine wpAny_pyIter_list hl1 (wpAny_bind (wpAny_runValue ?_))
    refine set_loop ((Walks.list hh3 _ l hneI items).toS) s.heap.objs.size (by
      rw [z1]
      simp only [List.mem_cons, List.not_mem_nil, or_false, not_or]
      exact ⟨Nat.ne_of_lt (Nat.lt_succ_self _), Nat.ne_of_gt hlS⟩) Good (fun i h h' g k => keepG i h h' g fun b o hb => k b o (by
        rw [z1]
        exact fun z => hb (List.mem_singleton.mp z))) (fun i v s' _ hv g Q E hQ => step i v s' hv g Q E hQ) (items.size - 0) 0 _ rfl (Nat.zero_le _) ⟨⟨_, Heap.get?_push_size _ rfl, rfl, rfl⟩, (hl1.push _)⟩ (start _) fun s' hm g => ?_
    obtain ⟨h', tk, rfl, q⟩ := fin _ _ s' (fun _ _ e => e) hm g
    show wpAny _ _ _ _ _ _
    refine wpAny_pure ?_
    show wpAny _ _ (ret Value.none) _ _ _
    exact wpAny_pure ⟨rfl, h', tk, rfl, q⟩
  · obtain ⟨⟨ocls, odict, odata, oslots⟩, hol, hcl, nl, hdl⟩ := hl
    simp only at hcl hdl
    subst hcl
    subst hdl
    have hlS := Heap.lt_size hol
    have hol' : (s.heap.push (newSet w)).get? l = some { cls := .type "tuple", dict := odict, data := .seq items nl, slots := oslots } := Heap.get?_push_of_some _ hol
    have hsls := F.sub_tuple_set
    have hslf := F.sub_tuple_frozenset
    have hne : (Value.type "tuple" == Value.type "dict") = false := by decide
    have hl1 : (s.heap.push (newSet w)).IsTuple l items := ⟨_, hol', rfl, nl, rfl⟩
    have hneI : l ≠ (s.heap.push (newSet w)).objs.size := by
      rw [z1]
      exact Nat.ne_of_lt (Nat.lt_succ_of_lt hlS)
    unfold Builtin.«set.__init__» noKeywords Builtin.Frozenset.updateFrom
    generalize hPI : pyIter = PI
    wp_walk
    subst hPI
    refine wpAny_pyIter_tuple hl1 (wpAny_bind (wpAny_runValue ?_))
    refine set_loop ((Walks.tuple hh3 _ l hneI items).toS) s.heap.objs.size (by
      rw [z1]
      simp only [List.mem_cons, List.not_mem_nil, or_false, not_or]
      exact ⟨Nat.ne_of_lt (Nat.lt_succ_self _), Nat.ne_of_gt hlS⟩) Good (fun i h h' g k => keepG i h h' g fun b o hb => k b o (by
        rw [z1]
        exact fun z => hb (List.mem_singleton.mp z))) (fun i v s' _ hv g Q E hQ => step i v s' hv g Q E hQ) (items.size - 0) 0 _ rfl (Nat.zero_le _) ⟨⟨_, Heap.get?_push_size _ rfl, rfl, rfl⟩, (hl1.push _)⟩ (start _) fun s' hm g => ?_
    obtain ⟨h', tk, rfl, q⟩ := fin _ _ s' (fun _ _ e => e) hm g
    show wpAny _ _ _ _ _ _
    refine wpAny_pure ?_
    show wpAny _ _ (ret Value.none) _ _ _
    exact wpAny_pure ⟨rfl, h', tk, rfl, q⟩
end
end SrR
set_option Elab.async false
set_option linter.all false
set_option maxRecDepth 100000
set_option maxHeartbeats 4000000
/-! sorted(orders), set(orders), sorted(set(orders)), len(set(texts)). -/
namespace SrR
open PySem PySem.Spec PyProof.Rows L2
open PySem.W (alike alikeAll dataLt dataLt_tuple EachIs)

/-! ### list.sort of int tuples -/
abbrev OrdR := Addr × List Int
def encO (p : OrdR) : PyData := .tuple (p.2.map .int)
theorem alike_nums : ∀ xs ys : List Int, alikeAll (xs.map .int) (ys.map .int) = true
  | [], _ => by simp [alikeAll]
  | _ :: _, [] => by simp [alikeAll]
  | x :: xs, y :: ys => by
    show alikeAll (PyData.int x :: xs.map .int) (PyData.int y :: ys.map .int) = true
    rw [alikeAll, alike_nums xs ys]
    simp [alike]
theorem encO_le : PySem.W.dataLe false encO = fun p q => Sr.leO p.2 q.2 := by
  funext p q
  show (!dataLt (.tuple (q.2.map .int)) (.tuple (p.2.map .int))) = decide (p.2 ≤ q.2)
  rw [dataLt_tuple]
  show (!PySem.W.rowLt (q.2.map .int) (p.2.map .int)) = _
  rw [PySem.W.dataLt_ints]
  by_cases h : q.2 < p.2
  · have h' : ¬ p.2 ≤ q.2 := fun r => List.not_lt.mpr r h
    simp [h, h']
  · have h' : p.2 ≤ q.2 := List.not_lt.mp h
    simp [h, h']
theorem depth_nums : ∀ xs : List Int, PyData.depthAll (xs.map .int) = 0
  | [] => by simp [PyData.depthAll]
  | x :: xs => by
    show PyData.depthAll (PyData.int x :: xs.map .int) = 0
    rw [PyData.depthAll, depth_nums xs]
    simp [PyData.depth]
theorem encO_depth (p : OrdR) : (encO p).depth = 1 := by
  unfold encO
  rw [PyData.depth, depth_nums]
theorem reads_nums {P : Program} {w : World} {h : Heap} : ∀ {k : List Int} {vs : List Value}, ItemsAre (intKind P w) k vs → ∃ as, ReadsAll h vs (k.map .int) as
  | _, _, .nil => ⟨[], .nil⟩
  | _, _, .cons h1 t => by
    obtain ⟨as, r⟩ := reads_nums t
    obtain ⟨tk, rfl⟩ := Value.isInt_shape h1
    exact ⟨_, .cons (.int _ tk) r⟩
theorem reads_ord {P : Program} {w : World} {h : Heap} {p : OrdR} (x : IsT P w h p.2 p.1) : ∃ as, Reads h (.ref p.1) (encO p) as := by
  obtain ⟨o, items, n, ho, hc, hd, hi⟩ := x
  obtain ⟨as, r⟩ := reads_nums (h := h) hi
  exact ⟨as, .tuple ho hc hd r⟩
theorem each_refs {β : Type} (f : β → Addr) : ∀ L : List β, EachIs (fun v p => v = Value.ref (f p)) (L.map fun p => Value.ref (f p)) L
  | [] => .nil
  | _ :: L => .cons rfl (each_refs f L)
theorem each_back {β : Type} {f : β → Addr} : ∀ {vs : List Value} {L : List β}, EachIs (fun v p => v = Value.ref (f p)) vs L → vs = L.map fun p => Value.ref (f p)
  | _, _, .nil => rfl
  | _, _, .cons e t => by rw [e, each_back t] <;> rfl
theorem each_all {α β : Type} {R S : α → β → Prop} : ∀ {vs : List α} {L : List β}, EachIs R vs L → (∀ p ∈ L, ∀ v, R v p → S v p) → EachIs S vs L
  | _, _, .nil, _ => .nil
  | _, _, .cons e t, h => .cons (h _ List.mem_cons_self _ e) (each_all t fun p hp => h p (List.mem_cons_of_mem _ hp))
section
variable {P : Program} {w : World} {A : Around} {E : Value → Shared → Prop} {s : Shared}
/-- list.sort of a list of int tuples, at the builtin's own body -/
theorem sort_raw {a : Addr} {L : List OrdR} {n : Nat} {R : PySem.Fin → Shared → Prop} (ho : s.heap.get? a = some (seqObj "list" (L.map fun p => Value.ref p.1).toArray n)) (hr : ∀ p ∈ L, IsT P w s.heap p.2 p.1) (hne : L.length ≤ 1 ∨ ∀ p ∈ L, p.2 ≠ [])
    (hL : L.length ≤ sizeLine) (hu : A.units + 1 < cLine) (h : ∀ L' : List OrdR, L'.Perm L → L'.map (·.2) = Sr.sortO (L.map (·.2)) → R (.done (.ret .none)) { s with heap := sortedHeap s.heap a (L.map fun p => Value.ref p.1) (L'.map fun p => Value.ref p.1).toArray }) :
    wpAny (model P w) A (Builtin.«list.sort» ⟨[.ref a], []⟩) R E s := by
  rcases hne with h1 | hne
  · refine SrtO.list_sort_ord (ltv := fun _ _ => false) ⟨(fun _ _ h => nomatch h), fun _ _ _ _ _ => rfl⟩ ho (by rw [List.length_map]; exact hL) (fun h2 => absurd h2 (by rw [List.length_map]; omega)) fun out _ st => ?_
    have e : out = L.map fun p => Value.ref p.1 := by
      have pm := st.perm
      match L, h1 with
      | [], _ => exact List.perm_nil.mp pm
      | [p], _ => exact List.perm_singleton.mp pm
    rw [e]
    refine h L (List.Perm.refl _) ?_
    match L, h1 with
    | [], _ => exact (Sr.sortO_of (List.Perm.refl _) List.Pairwise.nil).symm
    | [p], _ => exact (Sr.sortO_of (List.Perm.refl _) (List.pairwise_singleton _ _)).symm
  · have keep : ∀ p ∈ L, IsT P w (PySem.W.sortingHeap s.heap a (L.map fun p => Value.ref p.1)) p.2 p.1 := fun p hp => by
      obtain ⟨o, items, m, e, hc, hd, hi⟩ := hr p hp
      refine ⟨o, items, m, PySem.W.sortingHeap_old (fun z => ?_) e, hc, hd, hi⟩
      rw [z, ho] at e
      cases e
      exact absurd (show Value.type "list" = Value.type "tuple" from hc) (by decide)
    have al : PySem.W.AllAlike (L.map encO) := PySem.W.AllAlike.of fun b b' => by
      show alike (.tuple _) (.tuple _) = true
      rw [alike]
      exact alike_nums _ _
    have so : PySem.W.Sortable (L.map encO) := .inl fun d hd => by
      obtain ⟨p, hp, rfl⟩ := List.mem_map.mp hd
      cases e : p.2 with
      | nil => exact absurd e (hne p hp)
      | cons x r => exact ⟨.int x, r.map .int, by unfold encO; rw [e] <;> rfl⟩
    have each : EachIs (fun v p => ∃ as, Reads (PySem.W.sortingHeap s.heap a (L.map fun p => Value.ref p.1)) v (encO p) as) (L.map fun p => Value.ref p.1) L :=
      each_all (each_refs (·.1) L) fun p hp v e => e ▸ reads_ord (keep p hp)
    refine PySem.W.list_sort_vals ho (PySem.W.SortsAt.data (s := { s with heap := PySem.W.sortingHeap s.heap a (L.map fun p => Value.ref p.1) }) (PySem.W.each_map (R := fun v d => ∃ as, Reads (PySem.W.sortingHeap s.heap a (L.map fun p => Value.ref p.1)) v d as) encO each) al so (PySem.W.bound_map fun b _ => by
      rw [encO_depth]
      exact hu)) (by rw [List.length_map]; exact hL) ?_
    have srt := each_back (PySem.W.sortVals_data (R := fun v p => v = Value.ref p.1) false (each_refs (·.1) L) each al)
    rw [srt]
    refine h _ (List.mergeSort_perm _ _) ?_
    rw [encO_le]
    exact List.map_mergeSort fun _ _ _ _ => rfl
end

/-! ### at the walk's level -/
def OrdAt (K : PySem.W.Frag) (H : Hp) (p : OrdR) : Prop := SqT K H p.1 (p.2.map V.int)
abbrev refO (L : List OrdR) : List V := L.map fun p => V.ref p.1
section
variable {X : Cx}
theorem vals_refs {L : List OrdR} {us : List Value} (r : Vals (refO L) us) : us = L.map fun p => Value.ref p.1 := refs_of_vals r
/-- sorted(orders) -/
def rSortO (K : PySem.W.Frag) : List V → Hp → VK → Prop := fun vs H Q => ∃ (l : Addr) (L : List OrdR), vs = [.ref l] ∧ SqL K H l (refO L) ∧ (∀ p ∈ L, OrdAt K H p) ∧ (L.length ≤ 1 ∨ ∀ p ∈ L, p.2 ≠ []) ∧
  ∀ D L', L'.Perm L → L'.map (·.2) = Sr.sortO (L.map (·.2)) → H D = none → Q (.ref D) (upd H D (.lst (refO L')))
theorem cr_sortO (hu : X.A.units + 64 < cLine) : CallR X (.builtin "sorted") (rSortO X.K) := by
  intro pins s σ H vs us Q I r h
  obtain ⟨l, L, rfl, hl, hL, hne, q⟩ := h
  rw [Vals.ref1 r]
  obtain ⟨its, rv, pl, hz⟩ := I.list hl
  obtain rfl := vals_refs rv
  have hz2 : L.length ≤ sizeLine := by simpa using hz
  refine PySem.W.sorted_of_sort pl.isList (by rw [List.length_map]; exact hz2) (args_sorted1 _) (fun _ => args_list_sort _) fun E' => ?_
  refine sort_raw (s := { s with heap := PySem.W.copyHeap s.heap (L.map fun p => Value.ref p.1) }) (PySem.W.copyHeap_at _ _) (fun p hp => isT_keep (I.isT (hL p hp)) fun _ _ => PySem.W.copyHeap_old) hne hz2 (by
    show X.A.in1.in1.units + 1 < cLine
    have : X.A.in1.in1.units = X.A.units + 2 := rfl
    omega) fun L' pm e => ⟨rfl, ?_⟩
  obtain ⟨ep, he⟩ := sortedAll_at s.heap (L.map fun p => Value.ref p.1) (L'.map fun p => Value.ref p.1).toArray
  refine ⟨.ref (s.heap.objs.size + 1), upd H (s.heap.objs.size + 1) (.lst (refO L')), I.laid (t' := s.toks) (fun _ _ => sortedAll_old) (Nat.le_succ _) ⟨?_, _, ep, vals_of_refs L', he⟩, rfl, q _ L' pm e (I.hok.fresh (Nat.le_succ _))⟩
  rw [List.length_map, pm.length_eq]
  exact hz2

/-- the set at a, without the tuples themselves -/
def SetBO (P : Program) (w : World) (a : Addr) (L : List OrdR) : HO := .ext fun h => ∃ (es : Array (Int × Value)) (ep : Nat) (t : SetTable), (∃ o, h.get? a = some o ∧ o.ExactSet ∧ o.data = .set es ep t) ∧ es.toList = rowsOf P w L ∧ TabB t L.length ∧ (L.map (·.2)).Nodup ∧ t.plain = true ∧
  (w.params.followText "set-order" = true ∨ t.led = true) ∧ L.length * 5 < t.mask * 3 ∧ L.length ≤ 1228
theorem setBO_new {P : Program} {w : World} {H : Hp} {h : Heap} {a : Addr} {L : List OrdR} {es : Array (Int × Value)} {ep : Nat} {t : SetTable} (R : SetB P w h a L es ep t) : ObjOk P w H h a (SetBO P w a L) := by
  have h0 := R.ob
  refine ⟨⟨es, ep, t, R.ob, R.rows, R.tab, R.nd, R.plain, R.led, R.room, R.few⟩, ⟨h0.choose, h0.choose_spec.1⟩, fun h1 h2 p k => ?_⟩
  obtain ⟨es', ep', t', ⟨o', ho', r'⟩, q'⟩ := p
  exact ⟨es', ep', t', ⟨o', k o' ho', r'⟩, q'⟩
def rSetO (K : PySem.W.Frag) (P : Program) (w : World) : List V → Hp → VK → Prop := fun xs H Q => ∃ (l : Addr) (L : List OrdR), xs = [.ref l] ∧ SqL K H l (refO L) ∧ (∀ p ∈ L, OrdAt K H p) ∧ (L.map (·.2)).Nodup ∧ L.length ≤ 1228 ∧
  ∀ a L', L'.Perm L → H a = none → Q (.ref a) (upd H a (SetBO P w a L'))
theorem cr_setO (hc : X.calm = true) (hu : X.A.units + 64 < cLine) : CallR X (.type "set") (rSetO X.K X.prog X.w) := by
  intro pins s σ H xs us Q I r h
  obtain ⟨l, L, rfl, hl, hL, nd, few, q⟩ := h
  rw [Vals.ref1 r]
  obtain ⟨its, rv, pl, hz⟩ := I.list hl
  obtain rfl := vals_refs rv
  have hsz : (L.map fun p => Value.ref p.1).toArray.size = L.length := by simp
  refine set_items (P := X.prog) (w := X.w) (I.ok.hd hc) (.inl pl.isList) (fun i h => (∀ b o, s.heap.get? b = some o → h.get? b = some o) ∧ ∃ L1 es ep t, L1.Perm (L.take i) ∧ SetB X.prog X.w h s.heap.objs.size L1 es ep t) (fun h e k => ?_) (fun i h h' g k => ?_) (fun i v s' hv g Q E hQ => ?_) fun h' tk k g => ?_
  · exact ⟨k, [], #[], 0, _, List.Perm.refl _, setB_new e⟩
  · obtain ⟨k0, L1, es, ep, t, pm, R⟩ := g
    have k1 : ∀ b o, s.heap.get? b = some o → h'.get? b = some o := fun b o e => k b o (Nat.ne_of_lt (Nat.lt_succ_of_lt (Heap.lt_size e))) (k0 b o e)
    exact ⟨k1, L1, es, ep, t, pm, R.keep (fun o e => k _ o (Nat.ne_of_lt (Nat.lt_succ_self _)) e) fun p hp => isT_keep (I.isT (hL p (List.mem_of_mem_take (pm.mem_iff.mp hp)))) k1⟩
  · obtain ⟨k0, L1, es, ep, t, pm, R⟩ := g
    have hv2 : (L.map fun p => Value.ref p.1)[i]? = some v := by simpa using hv
    rw [List.getElem?_map] at hv2
    obtain ⟨p, hp, rfl⟩ := Option.map_eq_some_iff.mp hv2
    have hi : i < L.length := (List.getElem?_eq_some_iff.mp hp).1
    have nin : p.2 ∉ L1.map (·.2) := fun hm => by
      have hm2 := (pm.map (·.2)).mem_iff.mp hm
      rw [List.map_take] at hm2
      obtain ⟨j, hj, e⟩ := List.getElem_of_mem hm2
      have hj2 : j < i := by
        rw [List.length_take] at hj
        omega
      rw [List.getElem_take] at e
      have e2 : (L.map (·.2))[i]'(by simpa using hi) = p.2 := by
        rw [List.getElem_map]
        have : L[i] = p := by
          rw [List.getElem?_eq_getElem hi] at hp
          exact Option.some.inj hp
        rw [this]
      exact (List.pairwise_iff_getElem.mp nd j i (by
        rw [List.length_map]
        omega) (by simpa using hi) hj2) (e.trans e2.symm)
    have hx : IsT X.prog X.w s'.heap p.2 p.1 := isT_keep (I.isT (hL p (List.mem_of_getElem? hp))) k0
    have hu3 : X.A.in1.in1.in1.units < cLine := by
      have : X.A.in1.in1.in1.units = X.A.units + 3 := rfl
      omega
    unfold setAdd
    refine wpAny_holding ?_
    refine wpAny_bind (wpAny_pyHash_tuple hu3 hx ?_)
    refine add_b (s := { s' with toks := s'.toks + (p.2.length + 1) }) R hx hu3 nin (by
      rw [pm.length_eq, List.length_take]
      omega) fun h2 L2 es2 ep2 t2 sb R2 pm2 => ?_
    refine hQ true h2 _ (Nat.le_add_right _ _) sb ⟨fun b o e => (sb.2 b fun z => ?_).trans (k0 b o e), L2, es2, ep2, t2, ?_, R2⟩
    · exact Nat.lt_irrefl _ (z ▸ Heap.lt_size e)
    · rw [take_next hp]
      exact pm2.trans ((pm.cons p).trans (List.perm_append_singleton p _).symm)
  · obtain ⟨_, L1, es, ep, t, pm, R⟩ := g
    rw [hsz, List.take_length] at pm
    exact ⟨.ref s.heap.objs.size, upd H s.heap.objs.size (SetBO X.prog X.w s.heap.objs.size L1), I.laid (t' := tk) k (Nat.le_refl _) (setBO_new R), rfl, q _ L1 pm (I.hok.fresh (Nat.le_refl _))⟩
theorem perm_back {β : Type} {f : β → Value} {vs ws : List Value} (p : vs.Perm ws) : ∀ L : List β, ws = L.map f → ∃ L1 : List β, vs = L1.map f ∧ L1.Perm L := by
  induction p with
  | nil =>
    intro L e
    cases L with
    | nil => exact ⟨[], rfl, .refl _⟩
    | cons _ _ => cases e
  | cons x p ih =>
    intro L e
    cases L with
    | nil => cases e
    | cons y L =>
      rw [List.map_cons] at e
      injection e with e1 e2
      obtain ⟨L1, e3, p3⟩ := ih L e2
      exact ⟨y :: L1, by rw [List.map_cons, e1, e3], p3.cons y⟩
  | swap x y l =>
    intro L e
    match L, e with
    | y2 :: x2 :: L, e =>
      rw [List.map_cons, List.map_cons] at e
      injection e with e1 e2
      injection e2 with e2 e3
      exact ⟨x2 :: y2 :: L, by rw [List.map_cons, List.map_cons, e1, e2, e3], .swap _ _ _⟩
  | trans _ _ ih1 ih2 =>
    intro L e
    obtain ⟨L1, e1, p1⟩ := ih2 L e
    obtain ⟨L2, e2, p2⟩ := ih1 L1 e1
    exact ⟨L2, e2, p2.trans p1⟩
/-- sorted(set(orders)) -/
def rSortSet (K : PySem.W.Frag) (P : Program) (w : World) : List V → Hp → VK → Prop := fun vs H Q => ∃ (a : Addr) (L : List OrdR), vs = [.ref a] ∧ H a = some (SetBO P w a L) ∧ (∀ p ∈ L, OrdAt K H p) ∧ (L.length ≤ 1 ∨ ∀ p ∈ L, p.2 ≠ []) ∧
  ∀ D L', L'.Perm L → L'.map (·.2) = Sr.sortO (L.map (·.2)) → H D = none → Q (.ref D) (upd H D (.lst (refO L')))
theorem cr_sortSet (hc : X.calm = true) (hu : X.A.units + 64 < cLine) : CallR X (.builtin "sorted") (rSortSet X.K X.prog X.w) := by
  intro pins s σ H vs us Q I r h
  obtain ⟨a, L, rfl, ha, hL, hne, q⟩ := h
  rw [Vals.ref1 r]
  obtain ⟨es, ep, t, ⟨o, ho, hex, hd⟩, rows, tab, nd, _, led, room, few⟩ := (I.hok a _ ha).1
  refine Calls.call_function_entry kind_sorted plain_sorted entry_sorted (args_sorted1 _) ?_
  unfold Builtin.«sorted»
  refine wpAny_bind (m := checkCount "sorted" 1 1 _) (wpAny_pure ?_)
  have hsz := rows_size rows
  refine wpAny_bind (collect_set (A := X.A.in1) (I.ok.hd hc) ⟨o, ho, hex.1, hd⟩ (fits_b tab (by omega) hsz) (by unfold scanBound; omega) tab.ris led fun s1 vs k1 hz g1 o1 pm => ?_)
  have hes : es.toList.map (·.2) = L.map fun q => Value.ref q.1 := by
    rw [rows]
    unfold rowsOf
    rw [List.map_map] <;> rfl
  rw [hes] at pm
  obtain ⟨L1, e1, p1⟩ := perm_back (f := fun q : OrdR => Value.ref q.1) pm L rfl
  subst e1
  have few1 : L1.length ≤ 1228 := p1.length_eq ▸ few
  refine wpAny_bind (wpAny_newList ?_ (by rw [List.length_map, sizeLine_eq]; omega))
  have hoL : (s1.heap.push (seqObj "list" (L1.map fun q => Value.ref q.1).toArray 0)).get? s1.heap.objs.size = some (seqObj "list" (L1.map fun q => Value.ref q.1).toArray 0) := Heap.get?_push_size _ rfl
  refine wpAny_bind (wpAny_holding (wpAny_call_entry slot_list_sort ⟨_, hoL, rfl⟩ entry_list_sort (sort_raw (s := { s1 with heap := s1.heap.push (seqObj "list" (L1.map fun q => Value.ref q.1).toArray 0) }) hoL (fun p hp => isT_keep (I.isT (hL p (p1.mem_iff.mp hp))) fun b u e => Heap.get?_push_of_some _ (k1 b u e))
    (hne.imp (fun z => p1.length_eq ▸ z) fun z p hp => z p (p1.mem_iff.mp hp)) (by rw [sizeLine_eq]; omega) (by
      have : X.A.in1.in1.units = X.A.units + 2 := rfl
      omega) fun L' pm' e => ⟨_, rfl, ?_⟩) (args_list_sort _)))
  obtain ⟨c, hc'⟩ := sortedHeap_at (vs := L1.map fun q => Value.ref q.1) (out := (L'.map fun q => Value.ref q.1).toArray) hoL
  refine wpAny_pure ⟨_, rfl, ?_⟩
  have kp : ∀ b u, s.heap.get? b = some u → (sortedHeap (s1.heap.push (seqObj "list" (L1.map fun q => Value.ref q.1).toArray 0)) s1.heap.objs.size (L1.map fun q => Value.ref q.1) (L'.map fun q => Value.ref q.1).toArray).get? b = some u := fun b u e => by
    have q1 := k1 b u e
    have lt := Heap.lt_size q1
    rw [sortedHeap_old (Nat.ne_of_lt lt) (by rw [size_push']; exact Nat.lt_succ_of_lt lt)]
    exact Heap.get?_push_of_some _ q1
  have hn : H s1.heap.objs.size = none := I.hok.fresh hz
  have hlen : (refO L').length ≤ sizeLine := by
    rw [List.length_map, pm'.length_eq, sizeLine_eq]
    omega
  have J : Inv X pins σ (upd H s1.heap.objs.size (.lst (refO L'))) { s with heap := sortedHeap (s1.heap.push (seqObj "list" (L1.map fun q => Value.ref q.1).toArray 0)) s1.heap.objs.size (L1.map fun q => Value.ref q.1) (L'.map fun q => Value.ref q.1).toArray, gens := s1.gens, drawn := s1.drawn, toks := s1.toks } :=
    I.call (ch := []) (Un.laid kp hz hn) (I.hok.laid kp hz ⟨hlen, _, c, vals_of_refs L', hc'⟩) (by rw [g1]; exact I.bare) fun _ z => nomatch z
  have e2 : ({ s1 with heap := sortedHeap (s1.heap.push (seqObj "list" (L1.map fun q => Value.ref q.1).toArray 0)) s1.heap.objs.size (L1.map fun q => Value.ref q.1) (L'.map fun q => Value.ref q.1).toArray } : Shared) = { s with heap := sortedHeap (s1.heap.push (seqObj "list" (L1.map fun q => Value.ref q.1).toArray 0)) s1.heap.objs.size (L1.map fun q => Value.ref q.1) (L'.map fun q => Value.ref q.1).toArray, gens := s1.gens, drawn := s1.drawn, toks := s1.toks } := by
    cases s1
    cases s
    cases o1
    rfl
  rw [e2]
  refine ⟨.ref s1.heap.objs.size, _, J, rfl, q _ L' (pm'.trans p1) ?_ hn⟩
  rw [e]
  exact Sr.sortO_of ((p1.map (·.2)).trans (Sr.sortO_perm _).symm) (Sr.sortO_sorted _)
end

/-! ### len(set(texts)), no text twice -/
section
variable {X : Cx}
def tLenSetS (K : PySem.W.Frag) (ta : TE) : TE := fun σ H Q => ta σ H fun x H1 => ∃ (l : Addr) (xs : List Str), x = .ref l ∧ (SqL K H1 l (xs.map V.str) ∨ SqT K H1 l (xs.map V.str)) ∧ xs.length ≤ 4000 ∧ xs.Nodup ∧ Q (.int xs.length) H1
theorem pe_lenSetS {a : Expr} {ta : TE} {p p2 q pos : Pos} (hc : X.calm = true) (hg : Gl X "len") (hm : X.mg "len" = none) (hg2 : Gl X "set") (hm2 : X.mg "set" = none) (ha : PE X a ta)
    (na : starEach [a] X.env = (false, eval a X.env) :: starEach [] X.env := by rfl) : PE X (.Call (.Name "len" p) [.Call (.Name "set" p2) [a] [] q] [] pos) (tLenSetS X.K ta) := by
  refine ⟨fun pins s σ H Q I h => ?_⟩
  refine Call_ (ld_blt I hg hm PySem.boot_len ?_)
  refine PyProof.Rows.callWith_builtin1 (PyProof.Rows.args_cons ?_ rfl) rfl rfl
  refine Call_ (ld_blt I hg2 hm2 PyProof.Rows.boot_set ?_)
  refine PyProof.Rows.callWith_type1 (PyProof.Rows.args_cons (thn (ha.run pins s σ H _ I h) fun v s1 ⟨x, H1, I1, r1, q1⟩ => PyProof.Rows.args_nil ?_) na) na rfl
  obtain ⟨l, xs, rfl, hq, few, nd, q1⟩ := q1
  cases r1
  have got : ∃ its : List Value, Vals (xs.map V.str) its ∧ (s1.heap.IsList l its.toArray ∨ s1.heap.IsTuple l its.toArray) := by
    rcases hq with hq | hq
    · obtain ⟨its, rv, pl, _⟩ := I1.list hq
      exact ⟨its, rv, .inl pl.isList⟩
    · obtain ⟨its, rv, pl, _⟩ := I1.tuple hq
      exact ⟨its, rv, .inr pl⟩
  obtain ⟨its, rv, pl⟩ := got
  have hlen : its.length = xs.length := by rw [← rv.length, List.length_map]
  have hsz : its.toArray.size = xs.length := by rw [List.size_toArray, hlen]
  refine set_items (I1.ok.hd hc) pl (fun i h => (∀ b o, s1.heap.get? b = some o → h.get? b = some o) ∧ h.SetOf (PySem.strKind X.prog X.w) s1.heap.objs.size (fun k' => decide (k' ∈ xs.take i)) (min i xs.length)) (fun h e k => ?_) (fun i h h' g k => ?_) (fun i v s' hv g Q E hQ => ?_) fun h' tk k g => ?_
  · refine ⟨k, ?_⟩
    exact PyProof.Rows.SetOf_congr ((PyProof.Rows.setObjOf_fresh (knd := PySem.strKind X.prog X.w) _).setOf e (by unfold scanBound; omega)) (fun _ => by simp) (by simp)
  · obtain ⟨k0, o, es, ep, tb, ho, r⟩ := g
    exact ⟨fun b o e => k b o (Nat.ne_of_lt (Nat.lt_succ_of_lt (Heap.lt_size e))) (k0 b o e), o, es, ep, tb, k _ _ (Nat.ne_of_lt (Nat.lt_succ_self _)) ho, r⟩
  · obtain ⟨k0, S⟩ := g
    have hv2 : its[i]? = some v := by simpa using hv
    have hi : i < xs.length := by
      rw [← hlen]
      exact (List.getElem?_eq_some_iff.mp hv2).1
    obtain ⟨t, rfl⟩ := SS.strs_at (strsAre_of rv) i v hv2
    have ex : xs.getD i Str.empty = xs[i] := by simp [List.getD, hi]
    rw [ex]
    have nin : (decide (xs[i] ∈ xs.take i)) = false := decide_eq_false fun hm => by
      obtain ⟨j, hj, e⟩ := List.getElem_of_mem hm
      rw [List.length_take] at hj
      rw [List.getElem_take] at e
      exact (List.pairwise_iff_getElem.mp nd j i (by omega) hi (by omega)) e
    have key := strKind_is (prog := X.prog) (w := X.w) xs[i] t
    unfold setAdd
    refine wpAny_holding ?_
    refine wpAny_bind ((PySem.strKind X.prog X.w).pyHash (k := xs[i]) (strKind_is _ _ _ _) ?_)
    refine wpAny_setAddHashed_of (knd := PySem.strKind X.prog X.w) (s := { s' with toks := s'.toks + 1 }) (strKind_is _ _ _ _) rfl S (by unfold scanBound; omega) fun h2 sb S2 => ?_
    refine hQ _ h2 _ (Nat.le_succ _) sb ⟨fun b o e => (sb.2 b fun z => ?_).trans (k0 b o e), PyProof.Rows.SetOf_congr S2 (fun k' => ?_) ?_⟩
    · exact Nat.lt_irrefl _ (z ▸ Heap.lt_size e)
    · have et : xs.take (i + 1) = xs.take i ++ [xs[i]] := by
        rw [List.take_succ, List.getElem?_eq_getElem hi]
        rfl
      simp only [et, List.mem_append, List.mem_singleton, Bool.decide_or]
    · rw [nin]
      simp only [Bool.false_eq_true, if_false]
      omega
  · refine PyProof.Rows.args_nil ?_
    obtain ⟨_, o, es, ep, t, ho, hex, hd, _, _, _, hf, hn⟩ := g
    rw [hsz, Nat.min_self] at hn
    have I2 : Inv X pins σ H1 { s1 with heap := h', toks := tk } := I1.kept k
    exact call_len_set ho hex hd hf (by rw [hn] <;> omega) ⟨.int xs.length, H1, I2.tok _, ⟨_, by rw [hn]⟩, q1⟩
end
end SrR
set_option Elab.async false
set_option linter.all false
set_option maxRecDepth 100000
set_option maxHeartbeats 4000000
/-! sorted(xs, key=lambda c: ..), the keys texts. -/
namespace SrR
open PySem PySem.Spec PyProof.Rows L2 LamX
open PySem.W (EachIs KeepsBut)

/-! ### a lambda of one parameter, called -/
section
theorem call_lam1 {P : Program} {w : World} {K : PySem.W.Frag} {mg : Str → Option Value} {base : Heap} {A : Around} {outer : List Env} {s : Shared} {H : Hp} {k : Nat} {N : List Str} {qual a : Str} {params : Arguments} {body : Expr} {scope : Scope} {pm ctv : Value} {f c' : Addr} {t : TE} {v : V} {u : Value} {Q : VK}
    (hr : Room (k + 1) A) (e0 : Env0 P w K mg base A outer s H) (hf : s.heap.get? f = some (PySem.W.kla_obj "<lambda>" qual params body scope [] pm c' ctv)) (hco : H c' = some (CodeO c' qual)) (S : FnScope N [a] scope)
    (hb : bindArgs (PySem.W.kla_fn "<lambda>" qual params body scope [] pm (.ref c') ctv) ⟨[u], []⟩ = pure [(a, u)]) (r : RelV v u)
    (hbody : Room k (A.deeper (envOfC qual scope s.heap.objs.size f (.ref c'))) → PE (cxOf C8.CX0 P w K mg base N qual scope f (.ref c') A outer s H C8.E0) body t) (h : t (L2.start N [v]) H Q) :
    codeAny (model P w) A (.call (.ref f) ⟨[u], []⟩) (CR C8.CX0 outer P w H s Q C8.E0) s := by
  have lim : s.heap.NoLimit := e0.mod.nolimit.keeps fun b o e => (e0.bs b o e).1
  obtain ⟨⟨oc, vs, tq, hoc, hdc, hvc⟩, _, _⟩ := e0.hok c' _ hco
  refine PySem.W.kla_callFunE hr.depth hf rfl S.co S.gen rfl ⟨c', oc, vs, tq, rfl, hoc, hdc, hvc⟩ ?_
  rw [hb]
  refine wpAny_pure (wpAny_newFunctionEnv_cells S.kind (fun y hy => ?_) fun env he s1 x => ?_)
  · rcases S.par y.1 (by rw [List.mem_singleton.mp hy]; exact List.mem_cons_self) with q | q
    · exact .inl q
    · exact .inr ⟨q, PySem.W.cellsFrom_some _ _ _ (.inl q)⟩
  subst he
  refine ⟨lim.keeps x.toInCall.keep, ?_⟩
  have I : Inv (cxOf C8.CX0 P w K mg base N qual scope f (.ref c') A outer s H C8.E0) [] (L2.start N [v]) H s1 := inv_start (ps := [a]) (us := [u]) S hr.hd e0 rfl (.cons r .nil) x
  refine PySem.W.kla_codeExpr (wpAny_mono ((hbody (hr.deeper _)).run [] _ _ H Q I h) (fun z s' hq => ?_) fun e s' hq => hq)
  obtain ⟨w', H', J', rv, q⟩ := hq
  exact ⟨w', H', J'.os, J'.bare, J'.base, J'.hok, rv, q⟩
end

/-! ### the sort itself -/
abbrev KeyR := Addr × Str
abbrev refK (ps : List KeyR) : List V := ps.map fun p => V.ref p.1
def leK (p q : KeyR) : Bool := decide (p.2.cps.toList ≤ q.2.cps.toList)
theorem refs_k : ∀ {ps : List KeyR} {us : List Value}, Vals (refK ps) us → us = ps.map fun p => Value.ref p.1
  | [], _, .nil => rfl
  | p :: ps, _, .cons r t => by
    cases r
    rw [refs_k t] <;> rfl
theorem k_refs : ∀ ps : List KeyR, Vals (refK ps) (ps.map fun p => Value.ref p.1)
  | [] => .nil
  | p :: ps => .cons rfl (k_refs ps)
theorem each_ref : ∀ ps : List KeyR, EachIs (fun v (p : KeyR) => v = Value.ref p.1) (ps.map fun p => Value.ref p.1) ps
  | [] => .nil
  | _ :: ps => .cons rfl (each_ref ps)
theorem each_ref_back : ∀ {ps : List KeyR} {vs : List Value}, EachIs (fun v (p : KeyR) => v = Value.ref p.1) vs ps → vs = ps.map fun p => Value.ref p.1
  | _, _, .nil => rfl
  | _, _, .cons e t => by rw [e, each_ref_back t] <;> rfl
section
variable {X : Cx} {pins : List (Addr × Obj)} {σ : L2.St} {H : Hp} {s : Shared}
theorem FpOk.of {H' : Hp} {b : Addr} (f : FpOk X pins H b) (h : H' b = none) : FpOk X pins H' b := ⟨h, f.2⟩
/-- two records of ours have turned, one of them is now a list of the walk's -/
theorem inv_sorted {t' : Nat} {D kS : Addr} {h' : Heap} {xs : List V} {out : List Value} {c : Nat} (I : Inv X pins σ H s) (hD : FpOk X pins H D) (hS : FpOk X pins H kS) (k : ∀ b o, b ≠ D → b ≠ kS → s.heap.get? b = some o → h'.get? b = some o)
    (at_ : h'.get? D = some (seqObj "list" out.toArray c)) (hv : Vals xs out) (hz : xs.length ≤ sizeLine) : Inv X pins σ (upd H D (.lst xs)) { s with heap := h', toks := t' } := by
  have nD : ∀ b u, H b = some u → b ≠ D := fun b u e z => by
    rw [z, hD.1] at e
    cases e
  have nS : ∀ b u, H b = some u → b ≠ kS := fun b u e z => by
    rw [z, hS.1] at e
    cases e
  have out' : ∀ {b : Addr}, b ∉ [D, kS] → b ≠ D ∧ b ≠ kS := fun {b} hb => ⟨fun z => hb (by simp [z]), fun z => hb (by simp [z])⟩
  have same : ∀ b u, H b = some u → upd H D (.lst xs) b = some u := fun b u e => by
    rw [upd_ne (nD b u e)]
    exact e
  refine I.step (g' := s.gens) (d' := s.drawn) (ch := [D, kS]) (fun b hb => ?_) (fun b o _ _ hc e _ => k b o (out' hc).1 (out' hc).2 e) (fun b o _ _ hc e _ => ⟨o.slots, k b o (out' hc).1 (out' hc).2 e⟩)
    (fun b o hc e n => by rw [upd_ne (out' hc).1]; exact n) (fun b o hc e => ⟨o, k b o (out' hc).1 (out' hc).2 e⟩) (fun b xs e => same b _ e) (fun b o u e => same b _ e) (fun b ps e => ⟨#[], by rw [same b _ e]; simp⟩) (fun m hm => ?_) (fun b u e => ?_) I.bare
  · rcases List.mem_cons.mp hb with rfl | hb
    · exact ⟨hD.2.2.2.1, hD.2.1, hD.2.2.2.2.1, hD.2.2.2.2.2⟩
    · obtain rfl := List.mem_singleton.mp hb
      exact ⟨hS.2.2.2.1, hS.2.1, hS.2.2.2.2.1, hS.2.2.2.2.2⟩
  · obtain ⟨o, es, ep, ho, r⟩ := hm
    exact ⟨o, es, ep, k _ o (Ne.symm hD.2.1) (Ne.symm hS.2.1) ho, r⟩
  · by_cases hb : b = D
    · subst hb
      rw [upd_same] at e
      cases e
      exact ⟨hz, out, c, hv, at_⟩
    · rw [upd_ne hb] at e
      refine (I.hok b u e).stay (fun c v hc q => ?_) (fun c q => same c _ q) fun c xs q => same c _ q
      rcases hc with z | z
      · rw [z] at q ⊢
        exact k b v (nD b u e) (nS b u e) q
      · exact k c v (nD c _ z) (nS c _ z) q
/-- a call of the key: what it asks and leaves -/
def KeyCall (X : Cx) (A : Around) (σ : L2.St) (f : Addr) (fo : Obj) (H : Hp) (p : KeyR) : Prop :=
  ∀ (pins' : List (Addr × Obj)) (s1 : Shared) (H1 : Hp), (f, fo) ∈ pins' → Inv X pins' σ H1 s1 → Same H H1 → wpAny (model X.prog X.w) A (call (.ref f) [.ref p.1]) (fun u s2 => (∃ t, u = .str p.2 t) ∧ ∃ H2, Inv X pins' σ H2 s2 ∧ Same H1 H2) (fun _ _ => False) s1
theorem key_sort {D f : Addr} {fo : Obj} {n : Nat} {ps : List KeyR} {A : Around} {R : PySem.Fin → Shared → Prop} {E : Value → Shared → Prop} (I : Inv X pins σ H s) (hpf : (f, fo) ∈ pins) (hD : FpOk X pins H D) (ho : s.heap.get? D = some (seqObj "list" (ps.map fun p => Value.ref p.1).toArray n))
    (hz : ps.length ≤ sizeLine) (hu : A.units < cLine) (turn : ∀ p ∈ ps, KeyCall X A σ f fo H p)
    (h : ∀ s' H1, Same H H1 → Inv X pins σ (upd H1 D (.lst (refK (ps.mergeSort leK)))) s' → H1 D = none → R (.done (.ret .none)) s') : wpAny (model X.prog X.w) A (ksk_tree D (.ref f) false) R E s := by
  have ltD := Heap.lt_size ho
  obtain ⟨e1, ho1⟩ : ∃ e1, (s.heap.update D (Obj.mapSeq fun _ => (#[] : Array Value))).get? D = some (seqObj "list" #[] e1) := ⟨_, get?_update_seq ho fun _ => #[]⟩
  unfold ksk_tree
  refine wpAny_bind (listItems_at ho rfl ?_)
  refine wpAny_bind (listUpdate_at ho rfl ?_ (by rw [List.size_toArray, List.length_map]; exact hz) (Nat.zero_le _))
  refine wpAny_bind (seqEpoch_at ho1 rfl ?_)
  refine wpAny_bind (wpAny_newTuple ?_ (by show (ps.map fun p => Value.ref p.1).length ≤ _; rw [List.length_map]; exact hz))
  refine wpAny_bind (wpAny_newList ?_ (Nat.zero_le _))
  refine wpAny_holding ?_
  -- the heap while the keys are asked for
  have I1 : Inv X pins σ H { s with heap := s.heap.update D (Obj.mapSeq fun _ => (#[] : Array Value)), toks := s.toks } := I.turned (fun b o hb e => (Heap.get?_update_ne _ _ _ _ hb).trans e) hD.1 hD.2.1 hD.2.2.2.1 hD.2.2.2.2.1 hD.2.2.2.2.2
  generalize s.heap.update D (Obj.mapSeq fun _ => (#[] : Array Value)) = g1 at ho1 I1 ⊢
  have I2 : Inv X pins σ H { s with heap := g1.push (seqObj "tuple" (ps.map fun p => Value.ref p.1).toArray 0), toks := s.toks } := I1.kept fun b o e => Heap.get?_push_of_some _ e
  have ho2 : (g1.push (seqObj "tuple" (ps.map fun p => Value.ref p.1).toArray 0)).get? D = some (seqObj "list" #[] e1) := Heap.get?_push_of_some _ ho1
  show wpAny _ _ (ksk_rest D (.ref f) false (ps.map fun p => Value.ref p.1).toArray e1 (.ref (g1.push (seqObj "tuple" (ps.map fun p => Value.ref p.1).toArray 0)).objs.size)) _ _ { s with heap := (g1.push (seqObj "tuple" (ps.map fun p => Value.ref p.1).toArray 0)).push (seqObj "list" #[] 0) }
  generalize g1.push (seqObj "tuple" (ps.map fun p => Value.ref p.1).toArray 0) = g2 at ho2 I2 ⊢
  have hS : FpOk X pins H g2.objs.size := I2.fpOk (Nat.le_refl _) (I2.hok.fresh (Nat.le_refl _))
  have I3 : Inv X pins σ H { s with heap := g2.push (seqObj "list" #[] 0), toks := s.toks } := I2.kept fun b o e => Heap.get?_push_of_some _ e
  have neS : g2.objs.size ≠ D := Nat.ne_of_gt (Heap.lt_size ho2)
  have ho3 : (g2.push (seqObj "list" #[] 0)).get? D = some (seqObj "list" #[] e1) := Heap.get?_push_of_some _ ho2
  have hS3 : (g2.push (seqObj "list" #[] 0)).get? g2.objs.size = some (seqObj "list" #[] 0) := Heap.get?_push_size _ rfl
  generalize g2.push (seqObj "list" #[] 0) = g3 at ho3 hS3 I3 ⊢
  generalize g2.objs.size = kS at hS neS hS3 ⊢
  unfold ksk_rest
  refine wpAny_bind (wpAny_rule ?_)
  first
    | rw [List.forIn_toArray]
    | (rw [← Array.forIn_toList]; simp only [List.toList_toArray])
  refine wpAny_bind (ksk_fold (fun i s' => ∃ H1 kA e, Inv X pins σ H1 s' ∧ Same H H1 ∧ H1 D = none ∧ H1 kS = none ∧ s'.heap.get? kS = some (seqObj "list" kA e) ∧ s'.heap.get? D = some (seqObj "list" #[] e1) ∧ EachIs (fun v (p : KeyR) => ∃ t, v = Value.str p.2 t) kA.toList (ps.take i)) _ 0 _
    ⟨H, #[], 0, I3, Same.refl H, hD.1, hS.1, hS3, ho3, by rw [List.take_zero]; exact .nil⟩ ?step ?done)
  case step =>
    rintro j x s' hx ⟨H1, kA, e, J, sm, nD, nS, aS, aD, each⟩
    simp only [Nat.zero_add] at each ⊢
    rw [List.getElem?_map] at hx
    obtain ⟨p, hp, rfl⟩ := Option.map_eq_some_iff.mp hx
    have hj : j < ps.length := (List.getElem?_eq_some_iff.mp hp).1
    have kz : kA.size ≤ sizeLine := by
      have q := each.length
      rw [Array.length_toList, List.length_take] at q
      omega
    have fpk : ∀ b ∈ [D, kS], FpOk X pins H1 b := fun b hb => by
      rcases List.mem_cons.mp hb with rfl | hb
      · exact ⟨nD, hD.2⟩
      · rw [List.mem_singleton.mp hb]
        exact ⟨nS, hS.2⟩
    have obs : ∀ b ∈ [D, kS], ∃ o, s'.heap.get? b = some o ∧ ∀ v, o.data ≠ .cell v := fun b hb => by
      rcases List.mem_cons.mp hb with rfl | hb
      · exact ⟨_, aD, fun v z => nomatch z⟩
      · rw [List.mem_singleton.mp hb]
        exact ⟨_, aS, fun v z => nomatch z⟩
    have J1 := J.pinned fpk obs
    refine wpAny_bind (wpAny_attempt (wpAny_mono (turn p (List.mem_of_getElem? hp) _ s' H1 (List.mem_append_left _ hpf) J1 sm) (fun u s2 hu2 => ?_) fun _ _ z => z.elim))
    obtain ⟨⟨t, rfl⟩, H2, J2, sm2⟩ := hu2
    try dsimp only
    have keptD := J2.pin (D, _) (List.mem_append_right _ (List.mem_append_right _ (mem_pinsAt (List.mem_cons_self) aD)))
    have keptS := J2.pin (kS, _) (List.mem_append_right _ (List.mem_append_right _ (mem_pinsAt (List.mem_cons_of_mem _ (List.mem_singleton.mpr rfl)) aS)))
    have J3 : Inv X pins σ H2 s2 := J2.unpinned
    obtain ⟨c2, hc2⟩ : ∃ c2, (s2.heap.update kS (Obj.mapSeq (·.push (Value.str p.2 t)))).get? kS = some (seqObj "list" (kA.push (Value.str p.2 t)) c2) := ⟨_, get?_update_seq keptS.1 (·.push (Value.str p.2 t))⟩
    have sb := Heap.SameBut.update s2.heap kS (Obj.mapSeq (·.push (Value.str p.2 t)))
    refine wpAny_bind (listUpdate_at keptS.1 rfl ?_ kz (by rw [Array.size_push]; exact Nat.succ_le_succ kz))
    refine wpAny_pure ⟨rfl, H2, _, c2, J3.turned (t' := s2.toks) (fun b o hb e => (sb.2 b hb).trans e) keptS.2.1 hS.2.1 hS.2.2.2.1 hS.2.2.2.2.1 hS.2.2.2.2.2, sm.trans sm2, keptD.2.1, keptS.2.1, hc2, (sb.2 D (Ne.symm neS)).trans keptD.1, ?_⟩
    rw [show (kA.push (Value.str p.2 t)).toList = kA.toList ++ [Value.str p.2 t] by simp, show ps.take (j + 1) = ps.take j ++ [p] by rw [List.take_add_one, hp]; simp]
    exact PySem.W.each_snoc (R := fun v (p : KeyR) => ∃ t, v = Value.str p.2 t) ⟨t, rfl⟩ each
  case done =>
    rintro s' ⟨H1, kA, e, J, sm, nD, nS, aS, aD, each⟩
    rw [List.take_of_length_le (by rw [List.length_map]; omega)] at each
    have hsz : kA.size = (ps.map fun p => Value.ref p.1).length := by
      have q := each.length
      rw [Array.length_toList] at q
      rw [List.length_map]
      exact q
    try dsimp only
    refine wpAny_bind (listItems_at aS rfl ?_)
    have rd : EachIs (fun v (p : KeyR) => ∃ as, Reads s'.heap v (.str p.2) as) kA.toList ps := each.mono fun v p ⟨t, e⟩ => ⟨[], e ▸ .str _ _⟩
    have al : PySem.W.AllAlike (ps.map fun p => PyData.str p.2) := PySem.W.AllAlike.of fun _ _ => by simp [PySem.W.alike]
    have so : PySem.W.Sortable (ps.map fun p => PyData.str p.2) := PySem.W.Sortable.others fun _ => ⟨fun z => (nomatch z), fun _ z => (nomatch z)⟩
    have rd2 := PySem.W.each_map (R := fun v d => ∃ as, Reads s'.heap v d as) (fun p : KeyR => PyData.str p.2) rd
    refine PySem.W.keyH_end (κ := PySem.W.dataKind s'.heap (ps.map fun p => PyData.str p.2)) (h₁ := PySem.W.hideAll s'.heap [kS]) (fun b o _ e => PySem.W.of_hideAll _ e) (PySem.W.hideAll_none _ (List.mem_singleton.mpr rfl)) aS aD neS
      (PySem.W.SortsAt.data rd2 al so fun d hd => ?_) hsz (by rw [List.length_map]; exact hz) fun h' tk c kp at_ => ?_
    · obtain ⟨p, _, rfl⟩ := List.mem_map.mp hd
      show A.units + 0 < cLine
      exact hu
    · have out := each_ref_back (PySem.W.keyedOut_each (rev := false) (R := fun v (p : KeyR) => v = Value.ref p.1) (fun p : KeyR => PyData.str p.2) ⟨s'.heap, kA.toList, al, rfl, rd2⟩ (each_ref ps))
      rw [PySem.W.dataLe_str] at out
      rw [out] at at_
      refine h _ H1 sm (inv_sorted (t' := tk) J ⟨nD, hD.2⟩ ⟨nS, hS.2⟩ (fun b o h1 h2 e => kp b o h1 (PySem.W.hideAll_get _ e fun z => h2 (List.mem_singleton.mp z))) at_ (k_refs _) ?_) nD
      show (refK _).length ≤ sizeLine
      rw [List.length_map, List.length_mergeSort]
      exact hz
theorem sqL_ext {K : PySem.W.Frag} {H H' : Hp} {a : Addr} {xs : List V} (e : ExtN H H') (h : SqL K H a xs) : SqL K H' a xs := by
  rcases h with (h | ⟨o, h⟩) | h
  · exact .inl (.inl (e _ _ h fun _ z => nomatch z))
  · exact .inl (.inr ⟨o, e _ _ h fun _ z => nomatch z⟩)
  · exact .inr h
theorem sqT_ext {K : PySem.W.Frag} {H H' : Hp} {a : Addr} {xs : List V} (e : ExtN H H') (h : SqT K H a xs) : SqT K H' a xs := by
  rcases h with (h | ⟨o, h⟩) | h
  · exact .inl (.inl (e _ _ h fun _ z => nomatch z))
  · exact .inl (.inr ⟨o, e _ _ h fun _ z => nomatch z⟩)
  · exact .inr h
/-- sorted(a, key=lambda c: ..): Hd says what the key of an item is -/
def tKeySort (K : PySem.W.Frag) (T : List (Addr × Str)) (Hd : Hp → KeyR → Prop) (ta : TE) : TE := fun σ H Q => ta σ H fun x H1 => ∃ (l : Addr) (ps : List KeyR), x = .ref l ∧ (SqL K H1 l (refK ps) ∨ SqT K H1 l (refK ps)) ∧ (∀ p ∈ ps, Hd H1 p) ∧ Tabs T H1 ∧
  ∀ H2 D, ExtN H1 H2 → Tabs T H2 → H2 D = none → Q (.ref D) (upd H2 D (.lst (refK (ps.mergeSort leK))))
def keyPost (K : PySem.W.Frag) (T : List (Addr × Str)) (Hd : Hp → KeyR → Prop) (Q : VK) : List V → Hp → Prop
  | [x], H1 => ∃ (l : Addr) (ps : List KeyR), x = .ref l ∧ (SqL K H1 l (refK ps) ∨ SqT K H1 l (refK ps)) ∧ (∀ p ∈ ps, Hd H1 p) ∧ Tabs T H1 ∧ ∀ H2 D, ExtN H1 H2 → Tabs T H2 → H2 D = none → Q (.ref D) (upd H2 D (.lst (refK (ps.mergeSort leK))))
  | _, _ => False
theorem pe_keySort {T : List (Addr × Str)} {Hd : Hp → KeyR → Prop} {ta : TE} {a : Expr} {c P : Addr} {k : Nat} {N : List Str} {x : Str} {params : Arguments} {body : Expr} {scope : Scope} {p lpos kpos pos : Pos}
    (hg : Gl X "sorted") (hm : X.mg "sorted" = none) (ha : PE X a ta) (TB : LamX.TabB X.base X.mg c P) (hcode : X.env.code = .ref c) (hmT : (P, X.env.qual ++ "<lambda>") ∈ T) (hu : ∀ p ∈ T, p.1 = P → p.2 = X.env.qual ++ "<lambda>") (hr : Room (k + 3) X.A)
    (hst : frs X.stack = X.env.locals :: X.fs) (S : FnScope N [x] scope) (h0 : ∀ v : V, (L2.start N [v])[0]? = some (some v)) (hHd : ∀ H H' p, ExtN H H' → Hd H p → Hd H' p)
    (hb : ∀ (q : Str) (pm cv ctv u : Value), bindArgs (PySem.W.kla_fn "<lambda>" q params body scope [] pm cv ctv) ⟨[u], []⟩ = pure [(x, u)])
    (hbody : ∀ (A : Around) (s : Shared) (H : Hp) (f c' : Addr), Room k (A.deeper (envOfC (X.env.qual ++ "<lambda>") scope s.heap.objs.size f (.ref c'))) →
      PE (cxOf C8.CX0 X.prog X.w X.K X.mg X.base N (X.env.qual ++ "<lambda>") scope f (.ref c') A X.stack s H C8.E0) body (fun σ H Q => ∃ p, σ[0]? = some (some (V.ref p.1)) ∧ Hd H p ∧ ∀ H', Same H H' → Q (.str p.2) H'))
    (na : starEach [a] X.env = (false, eval a X.env) :: starEach [] X.env := by rfl) (hdef : defaultsOf params X.env = ([], []) := by rfl) (hclo : cloFrom X.env.cells scope.names [] = [] := by rfl) :
    PE X (.Call (.Name "sorted" p) [a] [⟨some "key", .Lambda params body scope lpos, kpos⟩] pos) (tKeySort X.K T Hd ta) := by
  refine ⟨fun pins s σ H Q I h => ?_⟩
  refine wpAny_Call_Name_kw (ld_blt I hg hm PyProof.Rows.boot_sorted ?_)
  refine PyProof.Rows.callWith_kw (thn ((pa_cons ha pa_nil na).run pos pins s σ H (keyPost X.K T Hd Q) I h) fun us s1 h1 => ?_) (by rw [na]; rfl) (by rw [na]; rfl) rfl rfl
  obtain ⟨vs, H1, I1, r1, h1⟩ := h1
  match vs, h1 with
  | [], h1 => exact h1.elim
  | _ :: _ :: _, h1 => exact h1.elim
  | [v], h1 =>
  obtain ⟨l, ps, rfl, hl, hp, hT, q⟩ := h1
  obtain ⟨u, rfl, ru⟩ := Vals.one r1
  cases (show u = Value.ref l from ru)
  show wpAny _ _ (evalAll [(do let v ← eval (.Lambda params body scope lpos) X.env; standAt pos; pure v)]) _ _ s1
  have hfree : ∀ y ∈ scope.names, y.2 = .free → ∃ c, X.env.cells.lookup y.1 = some c := fun y hy e => absurd e (S.nofree y hy)
  refine wpAny_evalAll_cons (wpAny_bind (lam_make2 I1 TB hcode hmT hu hT hdef hfree fun f c' pm ctv H2 s2 I2 eN T2 hf hfn hfr hco => wpAny_bind (wpAny_standAt (wpAny_pure (wpAny_evalAll_nil ?_)))))
  rw [hclo] at hf
  show wpAny _ _ (call (.builtin "sorted") [.ref l] [(Str.ofString "key", .ref f)]) _ _ s2
  -- the items
  have items : ∃ its o n T, Vals (refK ps) its ∧ s2.heap.get? l = some o ∧ (T = "list" ∨ T = "tuple") ∧ o.cls = .type T ∧ o.data = .seq its.toArray n ∧ ps.length ≤ sizeLine := by
    rcases hl with hl | hl
    · obtain ⟨its, rv, ⟨o, n, e, c1, _, d⟩, hz⟩ := I2.list (sqL_ext eN hl)
      exact ⟨its, o, n, "list", rv, e, .inl rfl, c1, d, by rw [← List.length_map (f := fun p : KeyR => V.ref p.1)]; exact hz⟩
    · obtain ⟨its, rv, ⟨o, e, c1, n, d⟩, hz⟩ := I2.tuple (sqT_ext eN hl)
      exact ⟨its, o, n, "tuple", rv, e, .inr rfl, c1, d, by rw [← List.length_map (f := fun p : KeyR => V.ref p.1)]; exact hz⟩
  obtain ⟨its, o, n, Ty, rv, ho, hTy, hc, hd, hz⟩ := items
  obtain rfl := refs_k rv
  have hzl : (ps.map fun p => Value.ref p.1).length ≤ sizeLine := by
    rw [List.length_map]
    exact hz
  -- the lambda stays while keys are asked for
  have neL : f ≠ X.env.locals := fun z => by
    obtain ⟨m, ⟨o, es, ep, e, d, _⟩, _⟩ := I2.loc
    rw [z, e] at hf
    cases hf
    cases d
  have noF : f ∉ X.fs := fun z => hfr (by
    rw [hst]
    exact List.mem_cons_of_mem _ z)
  have I2p : Inv X (pins ++ [(f, PySem.W.kla_obj "<lambda>" (X.env.qual ++ "<lambda>") params body scope [] pm c' ctv)]) σ H2 s2 := I2.pins_of fun p hp => by
    rcases List.mem_append.mp hp with hp | hp
    · exact I2.pin p (List.mem_append_right _ hp)
    · rw [List.mem_singleton.mp hp]
      exact ⟨hf, hfn, neL, noF, fun v z => nomatch z⟩
  refine PyProof.Rows.call_function_entry_kw kind_sorted plain_sorted entry_sorted (ksk_s1 _ _) ?_
  unfold Builtin.«sorted»
  refine wpAny_bind (m := checkCount "sorted" 1 1 _) (wpAny_pure ?_)
  refine wpAny_bind (wpAny_collect_seq l hTy ho hc hd (fun h3 k3 => ?_) (by rw [List.size_toArray]; exact hzl))
  have I3 : Inv X (pins ++ [(f, PySem.W.kla_obj "<lambda>" (X.env.qual ++ "<lambda>") params body scope [] pm c' ctv)]) σ H2 { s2 with heap := h3, toks := s2.toks } := I2p.kept k3
  have el : (ps.map fun p => Value.ref p.1).toArray.toList = ps.map fun p => Value.ref p.1 := by simp
  rw [el]
  refine wpAny_bind (wpAny_newList ?_ hzl)
  have hDk := I3.fpOk (H' := H2) (Nat.le_refl _) (I3.hok.fresh (Nat.le_refl _))
  have I4 : Inv X (pins ++ [(f, PySem.W.kla_obj "<lambda>" (X.env.qual ++ "<lambda>") params body scope [] pm c' ctv)]) σ H2 { s2 with heap := h3.push (seqObj "list" (ps.map fun p => Value.ref p.1).toArray 0), toks := s2.toks } := I3.kept fun b o e => Heap.get?_push_of_some _ e
  have hoD : (h3.push (seqObj "list" (ps.map fun p => Value.ref p.1).toArray 0)).get? h3.objs.size = some (seqObj "list" (ps.map fun p => Value.ref p.1).toArray 0) := Heap.get?_push_size _ rfl
  refine wpAny_bind (wpAny_holding (PyProof.Rows.wpAny_call_entry_kw slot_list_sort ⟨_, hoD, rfl⟩ entry_list_sort ?_ (ksk_l1 _ _)))
  rw [ksk_t1]
  have hr2 : Room (k + 1) X.A.in1.in1 := hr.in1.in1
  refine key_sort (fo := PySem.W.kla_obj "<lambda>" (X.env.qual ++ "<lambda>") params body scope [] pm c' ctv) I4 (List.mem_append_right _ (List.mem_singleton.mpr rfl)) hDk hoD hz hr2.units0 (fun p hpm pins' s5 H5 hin J sm => ?_) fun s5 H5 sm J nD => ⟨.none, rfl, ?_⟩
  · have e0 : Env0 X.prog X.w X.K X.mg X.base X.A.in1.in1 X.stack s5 H5 := { J.env0 with frames := I.ok.frames }
    have rc := call_lam1 (k := k) (v := .ref p.1) (u := .ref p.1) (Q := fun v H6 => v = .str p.2 ∧ Same H5 H6) hr2 e0 (J.pin _ (List.mem_append_right _ hin)).1 (sm _ _ hco) S (hb _ _ _ _ _) rfl (hbody _ _ _ _ _) ⟨p, h0 _, hHd _ _ _ (ExtN.of sm) (hHd _ _ _ eN (hp p hpm)), fun H6 sm6 => ⟨rfl, sm6⟩⟩
    refine wpAny_call (codeAny_mono rc fun r s6 hq => ?_)
    cases r with
    | error e => exact (show False from hq).elim
    | ok fl =>
      cases fl with
      | ret u =>
        obtain ⟨v, H6, J6, rv6, rfl, sm6⟩ := J.after hq
        exact ⟨rv6, H6, J6, sm6⟩
      | next => exact False.elim hq
      | brk => exact False.elim hq
      | cont => exact False.elim hq
  · refine wpAny_pure ⟨_, rfl, .ref h3.objs.size, _, J.unpinned, rfl, q _ _ (eN.trans (ExtN.of sm)) (T2.ext sm) nD⟩
end
end SrR
set_option Elab.async false
set_option linter.all false
set_option maxRecDepth 100000
set_option maxHeartbeats 4000000
/-! The text of the program as the proof names it. -/
namespace SrT
open PySem PySem.Spec PyProof.Rows L2

def topS (i : Nat) : Stmt := PySem.Challenge.pw_seerings_k58_whole_orders_of_filed_cards.main.body.getD i (.Pass ⟨0, 0, 0, 0⟩)
def inC (c : Stmt) (i : Nat) : Stmt := match c with
  | .ClassDef (body := b) .. => b.getD i (.Pass ⟨0, 0, 0, 0⟩)
  | _ => .Pass ⟨0, 0, 0, 0⟩
abbrev sNum : Stmt := topS 17
abbrev sWord : Stmt := topS 18
abbrev sChkH : Stmt := topS 19
abbrev sChkN : Stmt := topS 20
abbrev sBooks : Stmt := topS 21
abbrev sOthers : Stmt := topS 22
abbrev sCInit : Stmt := inC (topS 23) 1
abbrev sCHead : Stmt := inC (topS 23) 2
abbrev sDInit : Stmt := inC (topS 26) 1
abbrev sDCards : Stmt := inC (topS 26) 2
abbrev sDLen : Stmt := inC (topS 26) 4
abbrev sDChk : Stmt := inC (topS 26) 5
abbrev sDGet : Stmt := inC (topS 26) 6
abbrev sFiled : Stmt := topS 27
abbrev sRule : Stmt := topS 33
abbrev sHalves : Stmt := topS 34
abbrev sOneBy : Stmt := topS 35
abbrev sLooked : Stmt := topS 36
abbrev sLook : Stmt := topS 37
abbrev sChkA : Stmt := topS 40
abbrev sBehind : Stmt := topS 41
abbrev sFits : Stmt := topS 42
abbrev sAllO : Stmt := topS 43
abbrev sPoss : Stmt := topS 44
abbrev sMis : Stmt := topS 45
abbrev sTaken : Stmt := topS 47
abbrev sLCard : Stmt := topS 48
abbrev sLDraw : Stmt := topS 49
abbrev sLRule : Stmt := topS 50
abbrev sLMis : Stmt := topS 51
abbrev sLFit : Stmt := topS 52
abbrev sLaw : Stmt := topS 53

/-! ### a def, and what callers use of it -/
structure DefT (K : PySem.W.Frag) (mg : Str → Option Value) (x : Str) (st : Stmt) (ps : List Str) (f : Addr) : Prop where
  ex : ∃ fd, Fun K x x st f fd ∧ Binds K fd ps []
  g : mg x = some (.ref f)
structure Cal (P : Program) (w : World) (K : PySem.W.Frag) (mg : Str → Option Value) (base : Heap) (CX : CXT) (k : Nat) (x : Str) (f : Addr) (ps : List Str) (sp : Sp) : Prop where
  ex : ∃ fd, FnOk P w K mg base CX k f fd ps sp ∧ Binds K fd ps []
  g : mg x = some (.ref f)
  kp : PySem.W.keepIn K (.ref f) = true
section
variable {P : Program} {w : World} {K : PySem.W.Frag} {mg : Str → Option Value} {base : Heap} {x : Str} {st : Stmt} {N ps : List Str} {f : Addr} {k : Nat} {sp : Sp}
theorem DefT.cal (D : DefT K mg x st ps f) (S : FnScope N ps (defScope st)) (len : ∀ vs H Q E, sp vs H Q E → vs.length = ps.length)
    (hbody : ∀ (cdv : Value) (A : Around) (outer : List Env) (s : Shared) (H : Hp) (vs : List V) (Q : VK) (E : XK), Room k (A.deeper (envOfC x (defScope st) s.heap.objs.size f cdv)) → sp vs H Q E →
      ∃ t, PSs (cxOf CX0 P w K mg base N x (defScope st) f cdv A outer s H E).nox (defBody st) t ∧ t { nx := fun _ H' => Q .non H', rt := Q } (start N vs) H) : Cal P w K mg base CX0 (k + 1) x f ps sp := by
  obtain ⟨fd, F, b⟩ := D.ex
  exact ⟨⟨fd, F.ok S len hbody, b⟩, D.g, F.kp⟩
end
section
variable {X : Cx} {k : Nat} {x : Str} {f : Addr} {ps : List Str} {sp : Sp} {p pos : Pos} {e : Expr} {es : List Expr} {t : TA} {E : XK}
/-- x(e, ..) -/
theorem pe_cl (C : Cal X.prog X.w X.K X.mg X.base CX0 k x f ps sp) (hr : Room k X.A) (ha : PA X (e :: es) t) (hg : Gl X x := by rfl) (hdb : (x == ("__debug__" : Str)) = false := by decide)
    (he : starEach (e :: es) X.env = (false, eval e X.env) :: starEach es X.env := by rfl) (hpl : (backTo pos (starEach es X.env)).any (·.1) = false := by rfl) : PE X (.Call (.Name x p) (e :: es) [] pos) (tCall sp [] E0 t) := by
  obtain ⟨fd, F, b⟩ := C.ex
  exact pe_call F hr hg C.g C.kp b .nil pass0 ha hdb he hpl
end

/-! ### built-in names and constants -/
structure Bl (mg : Str → Option Value) : Prop where
  isi : mg "isinstance" = none
  int : mg "int" = none
  bool : mg "bool" = none
  str : mg "str" = none
  len : mg "len" = none
  all : mg "all" = none
  set : mg "set" = none
  zip : mg "zip" = none
  tuple : mg "tuple" = none
  sorted : mg "sorted" = none
  range : mg "range" = none
  enum : mg "enumerate" = none
  list : mg "list" = none
  max : mg "max" = none
abbrev abc : Str := "abcdefghijklmnopqrstuvwxyz"
structure Co (K : PySem.W.Frag) (mg : Str → Option Value) (R : Addr) : Prop where
  letters : ∃ t, mg "LETTERS" = some (.str abc t)
  maxL : ∃ t, mg "MAX_LETTERS" = some (.int 8 t)
  maxBs : ∃ t, mg "MAX_BOOKS" = some (.int 6 t)
  maxB : ∃ t, mg "MAX_BOOK" = some (.int 999 t)
  maxA : ∃ t, mg "MAX_ALSO" = some (.int 4 t)
  maxC : ∃ t, mg "MAX_CARDS" = some (.int 16 t)
  maxM : ∃ t, mg "MAX_MOVES" = some (.int 2 t)
  half : ∃ t, mg "HALF" = some (.str "half" t)
  leaf : ∃ t, mg "LEAF" = some (.str "leaf" t)
  rules : mg "RULES" = some (.ref R)
  rulesT : ∀ H : Hp, SqT K H R [.str "all", .str "half", .str "leaf"]
theorem pe_co {X : Cx} {x : Str} {v : V} {u : Tok → Value} {pos : Pos} (hm : ∃ t, X.mg x = some (u t)) (r : ∀ t, RelV v (u t)) (hg : Gl X x := by rfl) (hd : (x == ("__debug__" : Str)) = false := by decide) : PE X (.Name x pos) (tC v) := by
  obtain ⟨t, h⟩ := hm
  exact pe_glob hg h (r t) hd
end SrT
set_option Elab.async false
set_option linter.all false
set_option maxRecDepth 100000
set_option maxHeartbeats 4000000
set_option pp.maxSteps 2000
/-! is_number, is_word, check_heading, check_number, are_books, are_others. -/
namespace SrT
open PySem PySem.Spec PyProof.Rows L2 SrR
open RZ (ItzT pi_zipA)

/-! ### what a comprehension has made so far -/
def Acc (H1 : Hp) (D : Addr) (acc : List V) (H : Hp) : Prop := H1 D = none ∧ Same H1 H ∧ H D = some (.lst acc)
theorem Acc.start {H1 : Hp} {D : Addr} (h : H1 D = none) : Acc H1 D [] (upd H1 D (.lst [])) := ⟨h, same_new h, upd_same⟩
theorem same_upd2 {H1 H : Hp} {D : Addr} {o : HO} (h : H1 D = none) (s : Same H1 H) : Same H1 (upd H D o) := fun b u e => by
  rw [upd_ne (ne_of_none e h)]
  exact s b u e
theorem Acc.push {H1 H H4 : Hp} {D : Addr} {acc : List V} {y : V} (a : Acc H1 D acc H) (s : Same H H4) (hl : acc.length < sizeLine) : ∃ acc', H4 D = some (.lst acc') ∧ acc'.length < sizeLine ∧ Acc H1 D (acc ++ [y]) (upd H4 D (.lst (acc' ++ [y]))) :=
  ⟨acc, s _ _ a.2.2, hl, a.1, same_upd2 a.1 (a.2.1.trans s), upd_same⟩
/-- .. and the next invariant, told otherwise -/
theorem Acc.push' {H1 H H4 : Hp} {D : Addr} {acc acc2 : List V} {y : V} (a : Acc H1 D acc H) (s : Same H H4) (hl : acc.length < sizeLine) (e : acc2 = acc ++ [y]) : ∃ acc', H4 D = some (.lst acc') ∧ acc'.length < sizeLine ∧ Acc H1 D acc2 (upd H4 D (.lst (acc' ++ [y]))) := e ▸ a.push s hl
theorem Acc.pushV {H1 H H4 : Hp} {D : Addr} {acc acc2 : List V} {y v : V} (a : Acc H1 D acc H) (s : Same H H4) (hl : acc.length < sizeLine) (hy : y = v) (e : acc2 = acc ++ [v]) : ∃ acc', H4 D = some (.lst acc') ∧ acc'.length < sizeLine ∧ Acc H1 D acc2 (upd H4 D (.lst (acc' ++ [y]))) := by
  subst hy
  exact a.push' s hl e
theorem bl_yes {p : Prop} [Decidable p] (h : p) : V.bl (decide p) = .bl true := by rw [decide_eq_true h]
theorem bl_no {p : Prop} [Decidable p] (h : ¬ p) : V.bl (decide p) = .bl false := by rw [decide_eq_false h]
theorem bl_not {p : Prop} [Decidable p] (h : ¬ p) : V.bl (!decide p) = .bl true := by rw [decide_eq_false h] <;> rfl
theorem bl_nay {p : Prop} [Decidable p] (h : p) : V.bl (!decide p) = .bl false := by rw [decide_eq_true h] <;> rfl
theorem Acc.seq {H1 H : Hp} {D : Addr} {acc : List V} {K : PySem.W.Frag} (a : Acc H1 D acc H) : SqL K H D acc := .inl (.inl a.2.2)
theorem q_yes {Q : VK} {H : Hp} {p : Prop} [Decidable p] (h : p) (q : Q (.bl true) H) : Q (.bl (decide p)) H := by
  rw [decide_eq_true h]
  exact q
theorem q_no {Q : VK} {H : Hp} {p : Prop} [Decidable p] (h : ¬ p) (q : Q (.bl false) H) : Q (.bl (decide p)) H := by
  rw [decide_eq_false h]
  exact q
theorem ite_yes {c : Bool} {A B : Prop} (hc : c = true) (h : A) : if c = true then A else B := by
  rw [hc]
  exact iteT h
theorem ite_no {c : Bool} {A B : Prop} (hc : c = false) (h : B) : if c = true then A else B := by
  rw [hc]
  exact iteF h
theorem small_line {n : Nat} (h : n ≤ 4000000) : n < sizeLine := Nat.lt_of_le_of_lt h (by rw [sizeLine_eq]; decide)
theorem sameT {K : PySem.W.Frag} {H H' : Hp} {a : Addr} {xs : List V} (e : Same H H') (h : SqT K H a xs) : SqT K H' a xs := by
  rcases h with (h | ⟨o, h⟩) | h
  · exact .inl (.inl (e _ _ h))
  · exact .inl (.inr ⟨o, e _ _ h⟩)
  · exact .inr h

/-! ### words -/
abbrev words6 : List Str := ["ant", "bee", "cat", "dog", "elk", "fox"]
def Wd (z : Str) : Prop := z ∈ words6
theorem Wd.size {z : Str} (h : Wd z) : z.length = 3 := by
  have key : ∀ z ∈ words6, z.length = 3 := by decide +kernel
  exact key z h
theorem Wd.ne {z : Str} (h : Wd z) : z ≠ "" := fun e => by
  have := h.size
  rw [e] at this
  exact absurd this (by decide +kernel)
theorem Wd.abc {z : Str} (h : Wd z) {c : Nat} (hc : c ∈ z.cps.toList) : c ∈ abc.cps.toList := by
  have key : ∀ z ∈ words6, ∀ c ∈ z.cps.toList, c ∈ SrT.abc.cps.toList := by decide +kernel
  exact key z h c hc
section
variable {P : Program} {w : World} {K : PySem.W.Frag} {mg : Str → Option Value} {base : Heap} {R : Addr}
theorem scNum : FnScope ["value", "smallest", "largest"] ["value", "smallest", "largest"] (defScope sNum) := ⟨rfl, rfl, rfl, by decide +kernel, rfl, by decide +kernel, by decide +kernel⟩
def spNum : Sp := fun vs H Q _ => ∃ v lo hi : Int, vs = [.int v, .int lo, .int hi] ∧ lo ≤ v ∧ v ≤ hi ∧ Q (.bl true) H
theorem ok_num {f : Addr} (D : DefT K mg "is_number" sNum ["value", "smallest", "largest"] f) (B : Bl mg) : Cal P w K mg base CX0 1 "is_number" f ["value", "smallest", "largest"] spNum := by
  refine D.cal scNum (fun vs H Q E h => ?_) (fun cdv A outer s H vs Q E hr h => ?_)
  · obtain ⟨v, lo, hi, rfl, _⟩ := h
    rfl
  · obtain ⟨v, lo, hi, rfl, h1, h2, q⟩ := h
    refine ⟨_, pss_one (ps_ret (pe_and (pe_callB call_isi rfl B.isi boot_isinstance (pa_cons (pv 0) (pa_cons (pe_bltn (u := .type "int") (v := .ty "int") rfl B.int (by decide +kernel) rfl) pa_nil)))
      (pe_and (pe_not (pe_callB call_isi rfl B.isi boot_isinstance (pa_cons (pv 0) (pa_cons (pe_bltn (u := .type "bool") (v := .ty "bool") rfl B.bool (by decide +kernel) rfl) pa_nil))))
        (pe_one (pe_chain op_le op_le (pv 1) (pv 0) (pv 2)))))), ?_⟩
    refine ⟨_, rfl, _, _, _, _, true, rfl, .ty _, .base (.int _), kit_ty (by decide +kernel), true, rfl, ?_⟩
    refine ⟨_, rfl, _, _, _, _, false, rfl, .ty _, .base (.int _), kit_ty (by decide +kernel), false, rfl, ?_⟩
    refine ⟨true, rfl, _, rfl, _, rfl, lo, v, rfl, rfl, _, rfl, ?_⟩
    rw [if_pos (decide_eq_true h1)]
    exact ⟨_, rfl, v, hi, rfl, rfl, q_yes h2 q⟩

theorem scWord : FnScope ["value", "letter"] ["value"] (defScope sWord) := ⟨rfl, rfl, rfl, by decide +kernel, rfl, by decide +kernel, by decide +kernel⟩
def spWord : Sp := fun vs H Q _ => ∃ z : Str, vs = [.str z] ∧ (Wd z ∨ z = "") ∧ ∀ H', Same H H' → Q (.bl (decide (z ≠ ""))) H'
theorem ok_word {f : Addr} (D : DefT K mg "is_word" sWord ["value"] f) (B : Bl mg) (C : Co K mg R) : Cal P w K mg base CX0 1 "is_word" f ["value"] spWord := by
  refine D.cal scWord (fun vs H Q E h => ?_) (fun cdv A outer s H vs Q E hr h => ?_)
  · obtain ⟨z, rfl, _⟩ := h
    rfl
  · obtain ⟨z, rfl, hz, q⟩ := h
    refine ⟨_, pss_cons (ps_if (PW.pt (pw_or (pt_not (pt_val (pe_callB call_isi rfl B.isi boot_isinstance (pa_cons (pv 0) (pa_cons (pe_bltn (u := .type "str") (v := .ty "str") rfl B.str (by decide +kernel) rfl) pa_nil)))))
        (pw_or1 (pt_not (pt_chain op_le op_le pe_int (pe_callB call_len_str rfl B.len boot_len (pa_cons (pv 0) pa_nil)) (pe_co (v := .int 8) C.maxL fun _ => ⟨_, rfl⟩)))))) (pss_one (ps_ret pe_bl)) pss_nil)
      (pss_one (ps_ret (pe_callB (cr_all rfl) rfl B.all PyProof.Rows.boot_all (pa_cons (pe_lc (own := [("letter", 1)]) (g := gName 1) (tt := tYes) rfl scWord.nd (pi_str (pv 0)) (blkOk_by (N := ["value", "letter"]) (sc := defScope sWord) (by decide +kernel))
        (fun _ _ _ _ _ => pg_name (i := 1) scWord.nd rfl (Or.inl rfl)) (fun _ _ _ _ _ => pts_nil) (fun _ _ _ _ _ => pe_cmpR op_in_sign (pv 1) (pe_co (v := .str abc) C.letters fun _ => ⟨_, rfl⟩) (by rfl))) pa_nil)))), ?_⟩
    refine ⟨_, rfl, _, _, _, _, true, rfl, .ty _, .base (.str _), kit_ty (by decide +kernel), true, rfl, ?_⟩
    refine iteF ?_
    rcases hz with hz | rfl
    · have hl := hz.size
      refine ⟨_, rfl, z, rfl, ?_, 1, _, rfl, rfl, _, rfl, ?_⟩
      · rw [hl]
        exact Nat.le_of_lt (small_line (by decide))
      · rw [hl, if_pos (by decide)]
        refine ⟨_, 8, rfl, rfl, _, rfl, iteF ?_⟩
        refine ⟨_, rfl, z, rfl, fun D0 hD => lc_it walk_str (fun i H' => Acc H D0 (List.replicate i (.bl true)) H') (Acc.start hD) (fun _ _ _ _ => trivial) (fun i x H1 H2 hi a y => ?_) fun H' a => ?_⟩
        · obtain ⟨rfl, c, hc, rfl⟩ := y
          refine ⟨rfl, _, rfl, c, abc, rfl, rfl, ?_⟩
          rw [decide_eq_true (hz.abc (by rw [← Array.getElem?_toList] at hc; exact List.mem_of_getElem? hc))]
          have h3 : z.cps.size = 3 := hl
          exact a.push' (Same.refl _) (small_line (by rw [List.length_replicate]; omega)) (List.replicate_succ' ..)
        · have e : (List.replicate z.cps.size (V.bl true)) = (List.replicate z.cps.size true).map V.bl := by rw [List.map_replicate]
          refine ⟨D0, List.replicate z.cps.size true, rfl, e ▸ a.seq, ?_⟩
          have q' := q H' a.2.1
          rw [decide_eq_true hz.ne] at q'
          have e2 : (List.replicate z.cps.size true).all id = true := by simp
          rw [e2]
          exact q'
    · refine ⟨_, rfl, "", rfl, ?_, 1, _, rfl, rfl, _, rfl, ?_⟩
      · exact Nat.zero_le _
      · rw [if_neg (by decide +kernel)]
        refine ⟨_, rfl, iteT ?_⟩
        exact q H (Same.refl H)

theorem scChkH : FnScope ["value"] ["value"] (defScope sChkH) := ⟨rfl, rfl, rfl, by decide +kernel, rfl, by decide +kernel, by decide +kernel⟩
def spChkH : Sp := fun vs H Q _ => ∃ z : Str, vs = [.str z] ∧ Wd z ∧ ∀ H', Same H H' → Q .non H'
theorem ok_chkH {f fW : Addr} (D : DefT K mg "check_heading" sChkH ["value"] f) (W : Cal P w K mg base CX0 1 "is_word" fW ["value"] spWord) : Cal P w K mg base CX0 2 "check_heading" f ["value"] spChkH := by
  refine D.cal scChkH (fun vs H Q E h => ?_) (fun cdv A outer s H vs Q E hr h => ?_)
  · obtain ⟨z, rfl, _⟩ := h
    rfl
  · obtain ⟨z, rfl, hz, q⟩ := h
    refine ⟨_, pss_one (ps_if (pt_not (pt_val (pe_cl W hr (pa_cons (pv 0) pa_nil)))) (pss_one ps_never) pss_nil), ?_⟩
    refine ⟨_, rfl, z, rfl, .inl hz, fun H' sm => ⟨true, ?_, iteF ?_⟩⟩
    · rw [decide_eq_true hz.ne]
    · exact q H' sm
theorem scChkN : FnScope ["value", "smallest", "largest"] ["value", "smallest", "largest"] (defScope sChkN) := ⟨rfl, rfl, rfl, by decide +kernel, rfl, by decide +kernel, by decide +kernel⟩
def spChkN : Sp := fun vs H Q _ => ∃ v lo hi : Int, vs = [.int v, .int lo, .int hi] ∧ lo ≤ v ∧ v ≤ hi ∧ Q .non H
theorem ok_chkN {f fN : Addr} (D : DefT K mg "check_number" sChkN ["value", "smallest", "largest"] f) (N : Cal P w K mg base CX0 1 "is_number" fN ["value", "smallest", "largest"] spNum) : Cal P w K mg base CX0 2 "check_number" f ["value", "smallest", "largest"] spChkN := by
  refine D.cal scChkN (fun vs H Q E h => ?_) (fun cdv A outer s H vs Q E hr h => ?_)
  · obtain ⟨v, lo, hi, rfl, _⟩ := h
    rfl
  · obtain ⟨v, lo, hi, rfl, h1, h2, q⟩ := h
    refine ⟨_, pss_one (ps_if (pt_not (pt_val (pe_cl N hr (pa_cons (pv 0) (pa_cons (pv 1) (pa_cons (pv 2) pa_nil)))))) (pss_one ps_never) pss_nil), ?_⟩
    exact ⟨_, rfl, _, rfl, _, rfl, v, lo, hi, rfl, h1, h2, true, rfl, iteF q⟩

/-! ### books, others -/
theorem all_true (n : Nat) : (List.replicate n true).all id = true := by simp
theorem acc_bls {H1 H : Hp} {D : Addr} {n : Nat} {K : PySem.W.Frag} (a : Acc H1 D (List.replicate n (.bl true)) H) : SqL K H D ((List.replicate n true).map V.bl) := by
  rw [List.map_replicate]
  exact a.seq
theorem walk_zipT {K : PySem.W.Frag} {a b : Addr} {xs ys : List V} {n : Nat} (hn : n = min xs.length ys.length) : Walk (ItzT K a b) n (fun H => SqT K H a xs ∧ SqT K H b ys) (YPair (fun i => xs[i]?) (fun i => ys[i]?)) := by
  subst hn
  refine ⟨fun i _ hi q => ?_, fun _ q => ⟨xs, ys, q.1, q.2, by omega⟩, fun i H v H' _ q y => ?_⟩
  · have h1 : i < xs.length := by omega
    have h2 : i < ys.length := by omega
    exact ⟨xs, ys, xs[i], ys[i], q.1, q.2, by simp [h1], by simp [h2]⟩
  · obtain ⟨T, x, z, h1, h2, h3, h4, h5⟩ := y
    exact ⟨T, x, z, h1, h2, h3, h4 xs q.1, h5 ys q.2⟩
theorem scBooks : FnScope ["row", "book", "one", "other"] ["row"] (defScope sBooks) := ⟨rfl, rfl, rfl, by decide +kernel, rfl, by decide +kernel, by decide +kernel⟩
def spBooks (K : PySem.W.Frag) : Sp := fun vs H Q _ => ∃ (t : Addr) (bs : List Int), vs = [.ref t] ∧ SqT K H t (bs.map V.int) ∧ bs.length ≤ 4 ∧ (∀ b ∈ bs, 1 ≤ b ∧ b ≤ 999) ∧ bs.Pairwise (· < ·) ∧ ∀ H', Same H H' → Q (.bl true) H'
theorem ok_books {f fN : Addr} (D : DefT K mg "are_books" sBooks ["row"] f) (B : Bl mg) (C : Co K mg R) (N : Cal P w K mg base CX0 1 "is_number" fN ["value", "smallest", "largest"] spNum) : Cal P w K mg base CX0 2 "are_books" f ["row"] (spBooks K) := by
  refine D.cal scBooks (fun vs H Q E h => ?_) (fun cdv A outer s H vs Q E hr h => ?_)
  · obtain ⟨t, bs, rfl, _⟩ := h
    rfl
  · obtain ⟨t, bs, rfl, hS, hl, hb, hp, q⟩ := h
    refine ⟨_, pss_cons (ps_if (PW.pt (pw_or (pt_cmpR op_gt (pe_callB call_len_seq rfl B.len boot_len (pa_cons (pv 0) pa_nil)) (pe_co (v := .int 6) C.maxBs fun _ => ⟨_, rfl⟩) (nomark _))
        (pw_or1 (pt_not (pt_val (pe_callB (cr_all rfl) rfl B.all PyProof.Rows.boot_all (pa_cons (pe_lc (own := [("book", 1)]) (g := gName 1) (tt := tYes) rfl scBooks.nd (pi_tup (pv 0)) (blkOk_by (N := ["row", "book", "one", "other"]) (sc := defScope sBooks) (by decide +kernel))
          (fun _ _ _ _ _ => pg_name (i := 1) scBooks.nd rfl (Or.inl rfl)) (fun _ _ _ _ _ => pts_nil) (fun _ _ _ _ _ => pe_cl N hr (pa_cons (pv 1) (pa_cons pe_int (pa_cons (pe_co (v := .int 999) C.maxB fun _ => ⟨_, rfl⟩) pa_nil))))) pa_nil)))))))
        (pss_one (ps_ret pe_bl)) pss_nil)
      (pss_one (ps_ret (pe_callB (cr_all rfl) rfl B.all PyProof.Rows.boot_all (pa_cons (pe_lc (own := [("one", 2), ("other", 3)]) (g := L2.gTup K 2 (gCons (gName 2) (gCons (gName 3) gNil))) (tt := tYes) rfl scBooks.nd (pi_zipA rfl B.zip (pa_cons (pv 0) (pa_cons (pe_slice sl_tupQ (pv 0) (po_some pe_int) po_none) pa_nil)))
          (blkOk_by (N := ["row", "book", "one", "other"]) (sc := defScope sBooks) (by decide +kernel))
          (fun _ _ _ _ _ => pg_tup rfl (pgs_cons (pg_name (i := 2) scBooks.nd rfl (Or.inl rfl)) (pgs_cons (pg_name (i := 3) scBooks.nd rfl (Or.inl rfl)) pgs_nil))) (fun _ _ _ _ _ => pts_nil) (fun _ _ _ _ _ => pe_cmpR op_lt (pv 2) (pv 3) (nomark _))) pa_nil)))), ?_⟩
    have hlen : (bs.map V.int).length = bs.length := List.length_map _
    refine ⟨.ref t, rfl, t, _, rfl, .inr hS, _, _, rfl, rfl, _, rfl, ite2 (fun z => absurd (of_decide_eq_true z) (by rw [hlen]; omega)) fun _ => ?_⟩
    refine ⟨.ref t, rfl, t, rfl, ⟨_, hS⟩, fun D1 hD1 => lc_it walk_tup (fun i H' => Acc H D1 (List.replicate i (.bl true)) H') (Acc.start hD1) (fun i H' _ a => sameT a.2.1 hS) (fun i x H1 H2 hi a y => ?_) fun H' a => ?_⟩
    · obtain ⟨rfl, hx⟩ := y
      rw [List.getElem?_map] at hx
      obtain ⟨b, hb1, rfl⟩ := Option.map_eq_some_iff.mp hx
      have hb2 := hb b (List.mem_of_getElem? hb1)
      exact ⟨rfl, _, rfl, b, 1, 999, rfl, hb2.1, hb2.2, a.push' (Same.refl _) (small_line (by rw [List.length_replicate]; omega)) (List.replicate_succ' ..)⟩
    · refine ⟨D1, _, rfl, acc_bls a, _, rfl, ?_⟩
      rw [all_true]
      refine iteF ?_
      have sm1 := a.2.1
      refine ⟨.ref t, rfl, .ref t, rfl, 1, rfl, t, _, rfl, sameT sm1 hS, fun p H2 sm2 hp2 => ?_⟩
      have hcV : cutV (bs.map V.int) (some 1) none = (bs.drop 1).map V.int := by
        rw [List.map_drop]
        exact cut_from _ 1
      rw [hcV] at hp2
      have sm := sm1.trans sm2
      refine ⟨t, p, bs.map V.int, (bs.drop 1).map V.int, rfl, .inr ⟨sameT sm hS, hp2, fun D2 hD2 => lc_it (walk_zipT rfl) (fun i H' => Acc H2 D2 (List.replicate i (.bl true)) H') (Acc.start hD2) (fun i H' _ a => ⟨sameT (sm.trans a.2.1) hS, sameT a.2.1 (hp2)⟩) (fun i x H3 H4 hi a y => ?_) fun H3 a => ?_⟩⟩
      · obtain ⟨T, x1, x2, rfl, nT, rfl, f1, f2⟩ := y
        have s4 := same_new (o := .tup [x1, x2]) nT
        replace f1 : (bs.map V.int)[i]? = some x1 := f1
        replace f2 : ((bs.drop 1).map V.int)[i]? = some x2 := f2
        rw [List.getElem?_map] at f1 f2
        obtain ⟨b1, g1, rfl⟩ := Option.map_eq_some_iff.mp f1
        obtain ⟨b2, g2, rfl⟩ := Option.map_eq_some_iff.mp f2
        rw [List.getElem?_drop] at g2
        obtain ⟨l1, e1⟩ := List.getElem?_eq_some_iff.mp g1
        obtain ⟨l2, e2⟩ := List.getElem?_eq_some_iff.mp g2
        have lt : b1 < b2 := by
          rw [← e1, ← e2]
          exact List.pairwise_iff_getElem.mp hp i (1 + i) l1 l2 (by omega)
        refine ⟨T, _, rfl, SqT.of upd_same, rfl, _, _, rfl, _, _, rfl, rfl, rfl, _, rfl, _, rfl, b1, b2, rfl, rfl, a.pushV s4 (small_line (by rw [List.length_replicate]; omega)) (bl_yes lt) (List.replicate_succ' ..)⟩
      · refine ⟨D2, _, rfl, acc_bls a, ?_⟩
        rw [all_true]
        exact q _ (sm.trans a.2.1)
theorem scOthers : FnScope ["heading", "row", "other"] ["heading", "row"] (defScope sOthers) := ⟨rfl, rfl, rfl, by decide +kernel, rfl, by decide +kernel, by decide +kernel⟩
def spOthers (K : PySem.W.Frag) : Sp := fun vs H Q _ => ∃ (h : Str) (t : Addr) (os : List Str), vs = [.str h, .ref t] ∧ SqT K H t (os.map V.str) ∧ os.length ≤ 4 ∧ os.Nodup ∧ (∀ o ∈ os, Wd o ∧ o ≠ h) ∧ ∀ H', Same H H' → Q (.bl true) H'
theorem ok_others {f fW : Addr} (D : DefT K mg "are_others" sOthers ["heading", "row"] f) (B : Bl mg) (C : Co K mg R) (W : Cal P w K mg base CX0 1 "is_word" fW ["value"] spWord) : Cal P w K mg base CX0 2 "are_others" f ["heading", "row"] (spOthers K) := by
  refine D.cal scOthers (fun vs H Q E h => ?_) (fun cdv A outer s H vs Q E hr h => ?_)
  · obtain ⟨z, t, os, rfl, _⟩ := h
    rfl
  · obtain ⟨z, t, os, rfl, hS, hl, nd, ho, q⟩ := h
    refine ⟨_, pss_cons (ps_if (PW.pt (pw_or (pt_cmpR op_gt (pe_callB call_len_seq rfl B.len boot_len (pa_cons (pv 1) pa_nil)) (pe_co (v := .int 4) C.maxA fun _ => ⟨_, rfl⟩) (nomark _))
        (pw_or1 (pt_cmpR op_lt (pe_lenSetS rfl rfl B.len rfl B.set (pv 1)) (pe_callB call_len_seq rfl B.len boot_len (pa_cons (pv 1) pa_nil)) (nomark _)))))
        (pss_one (ps_ret pe_bl)) pss_nil)
      (pss_one (ps_ret (pe_callB (cr_all rfl) rfl B.all PyProof.Rows.boot_all (pa_cons (pe_lc (own := [("other", 2)]) (g := gName 2) (tt := tYes) rfl scOthers.nd (pi_tup (pv 1)) (blkOk_by (N := ["heading", "row", "other"]) (sc := defScope sOthers) (by decide +kernel))
        (fun _ _ _ _ _ => pg_name (i := 2) scOthers.nd rfl (Or.inl rfl)) (fun _ _ _ _ _ => pts_nil) (fun _ _ _ _ _ => pe_and (pe_cl W hr (pa_cons (pv 2) pa_nil)) (pe_one (pe_cmpR op_ne (pv 2) (pv 0) (nomark _))))) pa_nil)))), ?_⟩
    have hlen : (os.map V.str).length = os.length := List.length_map _
    refine ⟨.ref t, rfl, t, _, rfl, .inr hS, _, _, rfl, rfl, _, rfl, ite2 (fun z => absurd (of_decide_eq_true z) (by rw [hlen]; omega)) fun _ => ?_⟩
    refine ⟨.ref t, rfl, t, os, rfl, .inr hS, by omega, nd, .ref t, rfl, t, _, rfl, .inr hS, _, _, rfl, rfl, _, rfl, ite2 (fun z => absurd (of_decide_eq_true z) (by rw [hlen]; omega)) fun _ => ?_⟩
    refine ⟨.ref t, rfl, t, rfl, ⟨_, hS⟩, fun D1 hD1 => lc_it walk_tup (fun i H' => Acc H D1 (List.replicate i (.bl true)) H') (Acc.start hD1) (fun i H' _ a => sameT a.2.1 hS) (fun i x H1 H2 hi a y => ?_) fun H' a => ?_⟩
    · obtain ⟨rfl, hx⟩ := y
      rw [List.getElem?_map] at hx
      obtain ⟨b, hb1, rfl⟩ := Option.map_eq_some_iff.mp hx
      obtain ⟨hb2, hb3⟩ := ho b (List.mem_of_getElem? hb1)
      exact ⟨rfl, _, rfl, b, rfl, .inl hb2, fun H3 sm => ⟨true, bl_yes hb2.ne, _, rfl, _, rfl, rfl, a.pushV sm (small_line (by rw [List.length_replicate]; omega)) (bl_not fun e => hb3 (V.str.inj e)) (List.replicate_succ' ..)⟩⟩
    · refine ⟨D1, _, rfl, acc_bls a, ?_⟩
      rw [all_true]
      exact q _ a.2.1
end
end SrT
set_option Elab.async false
set_option linter.all false
set_option maxRecDepth 100000
set_option maxHeartbeats 4000000
set_option pp.maxSteps 2000
/-! Card and Drawer: made, read. -/
namespace SrT
open PySem PySem.Spec PyProof.Rows L2 SrR SlX

/-! ### data compared -/
theorem dpInts {K : PySem.W.Frag} {H : Hp} : ∀ bs : List Int, DpAll K H (bs.map V.int) (bs.map .int)
  | [] => .nil
  | b :: bs => .cons (.int b) (dpInts bs)
theorem dpStrs {K : PySem.W.Frag} {H : Hp} : ∀ bs : List Str, DpAll K H (bs.map V.str) (bs.map .str)
  | [] => .nil
  | b :: bs => .cons (.str b) (dpStrs bs)
theorem lay_ints : ∀ bs : List Int, PyData.canLayAll0 (bs.map .int) = true
  | [] => rfl
  | b :: bs => by
    show PyData.canLayAll0 (PyData.int b :: bs.map .int) = true
    rw [PyData.canLayAll0, lay_ints bs]
    simp [PyData.canLay0]
theorem lay_strs : ∀ bs : List Str, (∀ b ∈ bs, PyData.strOk b = true) → PyData.canLayAll0 (bs.map .str) = true
  | [], _ => rfl
  | b :: bs, h => by
    show PyData.canLayAll0 (PyData.str b :: bs.map .str) = true
    rw [PyData.canLayAll0, lay_strs bs fun c hc => h c (List.mem_cons_of_mem _ hc)]
    simp [PyData.canLay0, h b List.mem_cons_self]
theorem depth_strs : ∀ xs : List Str, PyData.depthAll (xs.map .str) = 0
  | [] => by simp [PyData.depthAll]
  | x :: xs => by
    show PyData.depthAll (PyData.str x :: xs.map .str) = 0
    rw [PyData.depthAll, depth_strs xs]
    simp [PyData.depth]
theorem shp_ints (bs : List Int) : SeqAt.shaped (.tuple (bs.map .int)) = true := by
  unfold SeqAt.shaped
  rw [PyData.depth, depth_nums, PyData.canLay0, lay_ints]
  rfl
theorem shp_strs (bs : List Str) (h : ∀ b ∈ bs, PyData.strOk b = true) : SeqAt.shaped (.tuple (bs.map .str)) = true := by
  unfold SeqAt.shaped
  rw [PyData.depth, depth_strs, PyData.canLay0, lay_strs bs h]
  rfl
theorem eqv_nil_ints (bs : List Int) : PyData.eqv (.tuple (bs.map .int)) (.tuple []) = decide (bs = []) := by
  cases bs <;> simp [PyData.eqv, PyData.eqvAll]
theorem eqv_nil_strs (bs : List Str) : PyData.eqv (.tuple (bs.map .str)) (.tuple []) = decide (bs = []) := by
  cases bs <;> simp [PyData.eqv, PyData.eqvAll]

/-! ### the classes as they stand -/
structure CardT (K : PySem.W.Frag) (mg : Str → Option Value) (C fI pF pH gH T0 : Addr) : Prop where
  g : mg "Card" = some (.ref C)
  sc : SCls K C
  mkr : Mk K C fI
  s1 : Slot1 K C "facts" pF 0
  hAt : PySem.W.findIn K (.ref C) "heading" = some (some (.ref pH))
  hGet : PySem.W.specialIn K (.ref pH) "__get__" = some (some (.builtin "property.__get__"))
  hTk : PySem.W.takesIn K (.ref pH) = some true
  hRc : ∃ rest, PySem.W.recIn K pH "property" = some (.ref gH :: rest)
  hF : ∃ fd, Fun K "heading" "Card.heading" sCHead gH fd
  iF : ∃ (Ta : Addr) (fd : FuncData), FunD K "__init__" "Card.__init__" (defArgs sCInit) (defBody sCInit) (defScope sCInit) [.ref Ta, .str "", .ref T0] [] fI fd
  t0 : ∀ H : Hp, SqT K H T0 []
structure DrawT (K : PySem.W.Frag) (mg : Str → Option Value) (C fI pR pC gC gL gG gK : Addr) : Prop where
  g : mg "Drawer" = some (.ref C)
  sc : SCls K C
  mkr : Mk K C fI
  s1 : Slot1 K C "row" pR 0
  cAt : PySem.W.findIn K (.ref C) "cards" = some (some (.ref pC))
  cGet : PySem.W.specialIn K (.ref pC) "__get__" = some (some (.builtin "property.__get__"))
  cTk : PySem.W.takesIn K (.ref pC) = some true
  cRc : ∃ rest, PySem.W.recIn K pC "property" = some (.ref gC :: rest)
  cF : ∃ fd, Fun K "cards" "Drawer.cards" sDCards gC fd
  iF : ∃ fd, Fun K "__init__" "Drawer.__init__" sDInit fI fd
  lF : ∃ fd, Fun K "__len__" "Drawer.__len__" sDLen gL fd
  lS : PySem.W.findIn K (.ref C) "__len__" = some (some (.ref gL))
  lI : PySem.W.isFn K (.ref gL) = true
  gF : ∃ fd, Fun K "__getitem__" "Drawer.__getitem__" sDGet gG fd
  gS : PySem.W.findIn K (.ref C) "__getitem__" = some (some (.ref gG))
  gN : PySem.W.fnIn K gG = true
  gI : PySem.W.isFn K (.ref gG) = true
  kF : ∃ fd, Fun K "check_place" "Drawer.check_place" sDChk gK fd
  kM : Meth K C "check_place" gK
/-- a card at p with the heading h -/
def CardAt (C : Addr) (H : Hp) (p : KeyR) : Prop := ∃ dx t v2 v3 v4, Slt H p.1 C dx [some (.ref t)] ∧ H t = some (.tup [.str p.2, v2, v3, v4])
/-- a drawer at d with the cards ps -/
def DrawAt (K : PySem.W.Frag) (CC CD : Addr) (H : Hp) (d : Addr) (ps : List KeyR) : Prop := (∃ dx t, Slt H d CD dx [some (.ref t)] ∧ SqT K H t (refK ps)) ∧ ∀ p ∈ ps, CardAt CC H p
/-- what stays: all but the tables of code objects -/
theorem slt_ext {H H' : Hp} {a C dx : Addr} {vs : List (Option V)} (e : LamX.ExtN H H') (h : Slt H a C dx vs) : Slt H' a C dx vs := by
  rcases h with ⟨h, e2⟩ | ⟨h1, h2⟩
  · exact .inl ⟨e _ _ h (fun _ z => nomatch z), e2⟩
  · refine .inr ⟨e _ _ h1 (fun _ z => ?_), e _ _ h2 (fun _ z => nomatch z)⟩
    unfold SlO at z
    cases z
theorem CardAt.ext {C : Addr} {H H' : Hp} {p : KeyR} (e : LamX.ExtN H H') (h : CardAt C H p) : CardAt C H' p := by
  obtain ⟨dx, t, v2, v3, v4, h1, h2⟩ := h
  exact ⟨dx, t, v2, v3, v4, slt_ext e h1, e _ _ h2 (fun _ z => nomatch z)⟩
theorem DrawAt.ext {K : PySem.W.Frag} {CC CD : Addr} {H H' : Hp} {d : Addr} {ps : List KeyR} (e : LamX.ExtN H H') (h : DrawAt K CC CD H d ps) : DrawAt K CC CD H' d ps := by
  obtain ⟨⟨dx, t, h1, h2⟩, h3⟩ := h
  exact ⟨⟨dx, t, slt_ext e h1, sqT_ext e h2⟩, fun p hp => (h3 p hp).ext e⟩
theorem DrawAt.same {K : PySem.W.Frag} {CC CD : Addr} {H H' : Hp} {d : Addr} {ps : List KeyR} (e : Same H H') (h : DrawAt K CC CD H d ps) : DrawAt K CC CD H' d ps := h.ext (LamX.ExtN.of e)
theorem CardAt.same {C : Addr} {H H' : Hp} {p : KeyR} (e : Same H H') (h : CardAt C H p) : CardAt C H' p := h.ext (LamX.ExtN.of e)
section
variable {P : Program} {w : World} {K : PySem.W.Frag} {mg : Str → Option Value} {base : Heap} {R : Addr} {CC fI pF pH gH T0 CD dI pR pC gC gL gG gK : Addr}
/-- any def of the text by its body -/
theorem fun_ok {x qual : Str} {st : Stmt} {f : Addr} {N ps : List Str} {k : Nat} {sp : Sp} (F : ∃ fd, Fun K x qual st f fd) (S : FnScope N ps (defScope st)) (len : ∀ vs H Q E, sp vs H Q E → vs.length = ps.length)
    (bind : ∀ (kV doc pm : Value) (an : Option Addr) (cdv ct : Value) (us : List Value), us.length = ps.length → bindArgs (PySem.W.fnOf x qual (defArgs st) (defBody st) (defScope st) .none kV doc pm an cdv ct) ⟨us, []⟩ = pure (ps.zip us))
    (hbody : ∀ (cdv : Value) (A : Around) (outer : List Env) (s : Shared) (H : Hp) (vs : List V) (Q : VK) (E : XK), Room k (A.deeper (envOfC qual (defScope st) s.heap.objs.size f cdv)) → sp vs H Q E →
      ∃ t, PSs (cxOf CX0 P w K mg base N qual (defScope st) f cdv A outer s H E).nox (defBody st) t ∧ t { nx := fun _ H' => Q .non H', rt := Q } (start N vs) H) : ∃ fd, FnOk P w K mg base CX0 (k + 1) f fd ps sp ∧ Binds K fd ps [] := by
  obtain ⟨fd, F⟩ := F
  exact ⟨fd, F.ok S len hbody, F.binds bind⟩
theorem fnR_of {f : Addr} {ps : List Str} {k : Nat} {sp : Sp} (h : ∃ fd, FnOk P w K mg base CX0 k f fd ps sp ∧ Binds K fd ps []) : FnR P w K mg base CX0 k f sp := by
  obtain ⟨fd, F, b⟩ := h
  have h := F.raw b .nil
  simpa only [List.append_nil] using h
theorem no0 : ∀ (H : Hp) (s : Shared) (e : Value) (s' : Shared), CX0 ([] : List Env) H s E0 e s' → False := fun _ _ _ _ z => z

/-! ### Card.heading -/
theorem scCHead : FnScope ["self"] ["self"] (defScope sCHead) := ⟨rfl, rfl, rfl, by decide +kernel, rfl, by decide +kernel, by decide +kernel⟩
def spCHead (C : Addr) : Sp := fun vs H Q _ => ∃ p : KeyR, vs = [.ref p.1] ∧ CardAt C H p ∧ Q (.str p.2) H
theorem ok_cHead (T : CardT K mg CC fI pF pH gH T0) : FnR P w K mg base CX0 1 gH (spCHead CC) := by
  refine fnR_of (ps := ["self"]) (fun_ok T.hF scCHead (fun vs H Q E h => ?_) (fun _ _ _ _ _ _ us hl => match us, hl with | [_], _ => rfl) (fun cdv A outer s H vs Q E hr h => ?_))
  · obtain ⟨p, rfl, _⟩ := h
    rfl
  · obtain ⟨p, rfl, hp, q⟩ := h
    obtain ⟨dx, t, v2, v3, v4, h1, h2⟩ := hp
    refine ⟨_, pss_one (ps_ret (pe_ix ix_tup (pe_sl (pv 0)) pe_int (fun _ _ => rfl))), ?_⟩
    exact ⟨_, rfl, p.1, CC, dx, pF, _, 0, .ref t, rfl, h1, T.sc, T.s1, rfl, t, _, 0, _, rfl, rfl, SqT.of h2, atI_nat (j := 0) rfl, q⟩

/-! ### Drawer's methods -/
theorem scDCards : FnScope ["self"] ["self"] (defScope sDCards) := ⟨rfl, rfl, rfl, by decide +kernel, rfl, by decide +kernel, by decide +kernel⟩
def spDCards (C : Addr) : Sp := fun vs H Q _ => ∃ d dx t, vs = [.ref d] ∧ Slt H d C dx [some (.ref t)] ∧ Q (.ref t) H
theorem ok_dCards (T : DrawT K mg CD dI pR pC gC gL gG gK) : FnR P w K mg base CX0 1 gC (spDCards CD) := by
  refine fnR_of (ps := ["self"]) (fun_ok T.cF scDCards (fun vs H Q E h => ?_) (fun _ _ _ _ _ _ us hl => match us, hl with | [_], _ => rfl) (fun cdv A outer s H vs Q E hr h => ?_))
  · obtain ⟨d, dx, t, rfl, _⟩ := h
    rfl
  · obtain ⟨d, dx, t, rfl, h1, q⟩ := h
    exact ⟨_, pss_one (ps_ret (pe_sl (pv 0))), _, rfl, d, CD, dx, pR, _, 0, .ref t, rfl, h1, T.sc, T.s1, rfl, q⟩
theorem scDLen : FnScope ["self"] ["self"] (defScope sDLen) := ⟨rfl, rfl, rfl, by decide +kernel, rfl, by decide +kernel, by decide +kernel⟩
def spDLen (K : PySem.W.Frag) (C : Addr) : Sp := fun vs H Q _ => ∃ d dx t xs, vs = [.ref d] ∧ Slt H d C dx [some (.ref t)] ∧ SqT K H t xs ∧ Q (.int xs.length) H
theorem ok_dLen (T : DrawT K mg CD dI pR pC gC gL gG gK) (B : Bl mg) : FnR P w K mg base CX0 1 gL (spDLen K CD) := by
  refine fnR_of (ps := ["self"]) (fun_ok T.lF scDLen (fun vs H Q E h => ?_) (fun _ _ _ _ _ _ us hl => match us, hl with | [_], _ => rfl) (fun cdv A outer s H vs Q E hr h => ?_))
  · obtain ⟨d, dx, t, xs, rfl, _⟩ := h
    rfl
  · obtain ⟨d, dx, t, xs, rfl, h1, h2, q⟩ := h
    exact ⟨_, pss_one (ps_ret (pe_callB call_len_seq rfl B.len boot_len (pa_cons (pe_sl (pv 0)) pa_nil))), _, rfl, d, CD, dx, pR, _, 0, .ref t, rfl, h1, T.sc, T.s1, rfl, t, xs, rfl, .inr h2, q⟩
theorem scDChk : FnScope ["self", "place"] ["self", "place"] (defScope sDChk) := ⟨rfl, rfl, rfl, by decide +kernel, rfl, by decide +kernel, by decide +kernel⟩
def spDChk (K : PySem.W.Frag) (C : Addr) : Sp := fun vs H Q _ => ∃ d dx t xs, ∃ i : Nat, vs = [.ref d, .int i] ∧ Slt H d C dx [some (.ref t)] ∧ SqT K H t xs ∧ i < xs.length ∧ Q .non H
theorem ok_dChk {fN : Addr} (T : DrawT K mg CD dI pR pC gC gL gG gK) (B : Bl mg) (N : Cal P w K mg base CX0 1 "is_number" fN ["value", "smallest", "largest"] spNum) : FnR P w K mg base CX0 2 gK (spDChk K CD) := by
  refine fnR_of (ps := ["self", "place"]) (fun_ok T.kF scDChk (fun vs H Q E h => ?_) (fun _ _ _ _ _ _ us hl => match us, hl with | [_, _], _ => rfl) (fun cdv A outer s H vs Q E hr h => ?_))
  · obtain ⟨d, dx, t, xs, i, rfl, _⟩ := h
    rfl
  · obtain ⟨d, dx, t, xs, i, rfl, h1, h2, hi, q⟩ := h
    refine ⟨_, pss_one (ps_if (pt_not (pt_val (pe_cl N hr (pa_cons (pv 1) (pa_cons pe_int (pa_cons (pe_op op_sub (pe_callB call_len_seq rfl B.len boot_len (pa_cons (pe_sl (pv 0)) pa_nil)) pe_int) pa_nil)))))) (pss_one ps_never) pss_nil), ?_⟩
    refine ⟨_, rfl, _, rfl, d, CD, dx, pR, _, 0, .ref t, rfl, h1, T.sc, T.s1, rfl, t, xs, rfl, .inr h2, _, _, rfl, rfl, i, 0, _, rfl, by omega, by omega, true, rfl, iteF q⟩
theorem scDGet : FnScope ["self", "place"] ["self", "place"] (defScope sDGet) := ⟨rfl, rfl, rfl, by decide +kernel, rfl, by decide +kernel, by decide +kernel⟩
def spDGet (K : PySem.W.Frag) (C : Addr) : Sp := fun vs H Q _ => ∃ d dx t xs v, ∃ i : Nat, vs = [.ref d, .int i] ∧ Slt H d C dx [some (.ref t)] ∧ SqT K H t xs ∧ xs[i]? = some v ∧ Q v H
theorem ok_dGet {fN : Addr} (T : DrawT K mg CD dI pR pC gC gL gG gK) (B : Bl mg) (N : Cal P w K mg base CX0 1 "is_number" fN ["value", "smallest", "largest"] spNum) : FnR P w K mg base CX0 3 gG (spDGet K CD) := by
  refine fnR_of (ps := ["self", "place"]) (fun_ok T.gF scDGet (fun vs H Q E h => ?_) (fun _ _ _ _ _ _ us hl => match us, hl with | [_, _], _ => rfl) (fun cdv A outer s H vs Q E hr h => ?_))
  · obtain ⟨d, dx, t, xs, v, i, rfl, _⟩ := h
    rfl
  · obtain ⟨d, dx, t, xs, v, i, rfl, h1, h2, hi, q⟩ := h
    refine ⟨_, pss_cons (ps_expr (pe_methSl (pv 0) T.sc T.kM (ok_dChk T B N) hr pass0 (pa_cons (pv 1) pa_nil))) (pss_one (ps_ret (pe_ix ix_tup (pe_sl (pv 0)) (pv 1) (fun _ _ => rfl)))), ?_⟩
    exact ⟨_, rfl, d, dx, _, rfl, h1, _, rfl, d, dx, t, xs, i, rfl, h1, h2, (List.getElem?_eq_some_iff.mp hi).1, _, rfl, d, CD, dx, pR, _, 0, .ref t, rfl, h1, T.sc, T.s1, rfl, _, rfl, t, xs, i, v, rfl, rfl, h2, atI_nat hi, q⟩

/-! ### the makings -/
theorem made_same {H1 H' : Hp} {x dx C : Addr} (hx : H1 x = none) (hd : H1 dx = none) (k : ∀ b o, b ≠ x → b ≠ dx → (upd (upd H1 dx (.own x)) x (.ins C dx [])) b = some o → H' b = some o) : Same H1 H' := fun b o e => by
  have h1 := ne_of_none e hx
  have h2 := ne_of_none e hd
  refine k b o h1 h2 ?_
  rw [upd_ne h1, upd_ne h2]
  exact e
theorem scDInit : FnScope ["self", "cards"] ["self", "cards"] (defScope sDInit) := ⟨rfl, rfl, rfl, by decide +kernel, rfl, by decide +kernel, by decide +kernel⟩
def spDInit (K : PySem.W.Frag) (C : Addr) : Sp := fun vs H Q _ => ∃ x dx t xs, vs = [.ref x, .ref t] ∧ Slt H x C dx [] ∧ dx ≠ x ∧ SqT K H t xs ∧ xs.length ≤ 16 ∧ ∀ H', (∀ b o, b ≠ x → b ≠ dx → H b = some o → H' b = some o) → Slt H' x C dx [some (.ref t)] → Q .non H'
theorem ok_dInit (T : DrawT K mg CD dI pR pC gC gL gG gK) (B : Bl mg) (C : Co K mg R) : ∃ fd, FnOk P w K mg base CX0 1 dI fd ["self", "cards"] (spDInit K CD) ∧ Binds K fd ["self", "cards"] [] := by
  refine fun_ok T.iF scDInit (fun vs H Q E h => ?_) (fun _ _ _ _ _ _ us hl => match us, hl with | [_, _], _ => rfl) (fun cdv A outer s H vs Q E hr h => ?_)
  · obtain ⟨x, dx, t, xs, rfl, _⟩ := h
    rfl
  · obtain ⟨x, dx, t, xs, rfl, h1, ne, h2, hl, q⟩ := h
    refine ⟨_, pss_cons (ps_if (pt_cmpR op_gt (pe_callB call_len_seq rfl B.len boot_len (pa_cons (pv 1) pa_nil)) (pe_co (v := .int 16) C.maxC fun _ => ⟨_, rfl⟩) (nomark _)) (pss_one ps_never) pss_nil)
      (pss_one (ps_sl (pv 0) (pv 1))), ?_⟩
    refine ⟨_, rfl, t, xs, rfl, .inr h2, _, _, rfl, rfl, _, rfl, ite2 (fun z => absurd (of_decide_eq_true z) (by omega)) fun _ => ?_⟩
    refine ⟨_, rfl, _, rfl, x, CD, dx, pR, [], 0, rfl, h1, T.sc, T.s1, q _ (fun b o b1 b2 e => ?_) (slH_slt ne)⟩
    rw [slH_ne b1 b2]
    exact e
theorem scCInit : FnScope ["self", "heading", "books", "see", "also", "is_free"] ["self", "heading", "books", "see", "also"] (defScope sCInit) := ⟨rfl, rfl, rfl, by decide +kernel, rfl, by decide +kernel, by decide +kernel⟩
def spCInit (K : PySem.W.Frag) (C : Addr) : Sp := fun vs H Q _ => ∃ x dx tb ta h see, ∃ (bs : List Int) (os : List Str), vs = [.ref x, .str h, .ref tb, .str see, .ref ta] ∧ Slt H x C dx [] ∧ dx ≠ x ∧ H x ≠ none ∧ H dx ≠ none ∧ SqT K H tb (bs.map V.int) ∧ SqT K H ta (os.map V.str) ∧ Wd h ∧
  bs.length ≤ 4 ∧ (∀ b ∈ bs, 1 ≤ b ∧ b ≤ 999) ∧ bs.Pairwise (· < ·) ∧ os.length ≤ 4 ∧ os.Nodup ∧ (∀ o ∈ os, Wd o ∧ o ≠ h) ∧ (see = "" ∨ (Wd see ∧ see ≠ h ∧ bs = [] ∧ os = [])) ∧
  ∀ H', (∀ b o, b ≠ x → b ≠ dx → H b = some o → H' b = some o) → CardAt C H' (x, h) → Q .non H'
theorem strOkW {z : Str} (h : Wd z) : PyData.strOk z = true := by
  have key : ∀ z ∈ words6, PyData.strOk z = true := by decide +kernel
  exact key z h
theorem ok_cInit {fW fB fO : Addr} (T : CardT K mg CC fI pF pH gH T0) (W : Cal P w K mg base CX0 1 "is_word" fW ["value"] spWord) (BK : Cal P w K mg base CX0 2 "are_books" fB ["row"] (spBooks K)) (OT : Cal P w K mg base CX0 2 "are_others" fO ["heading", "row"] (spOthers K)) :
    ∃ (Ta : Addr) (fd : FuncData), FnOk P w K mg base CX0 3 fI fd ["self", "heading", "books", "see", "also"] (spCInit K CC) ∧ FunD K "__init__" "Card.__init__" (defArgs sCInit) (defBody sCInit) (defScope sCInit) [.ref Ta, .str "", .ref T0] [] fI fd := by
  obtain ⟨Ta, fd, F⟩ := T.iF
  refine ⟨Ta, fd, F.ok scCInit (fun vs H Q E h => ?_) (fun cdv A outer s H vs Q E hr h => ?_), F⟩
  · obtain ⟨x, dx, tb, ta, h, see, bs, os, rfl, _⟩ := h
    rfl
  · obtain ⟨x, dx, tb, ta, h, see, bs, os, rfl, h1, ne, nx, nd, hb, ha, wh, b1, b2, b3, o1, o2, o3, hs, q⟩ := h
    have hr1 : Room 1 _ := hr.mono (by decide)
    refine ⟨_, PSs.nox (pss_cons (ps_if (pt_not (pt_val (pe_cl W hr1 (pa_cons (pv 1) pa_nil)))) (pss_one ps_never) pss_nil)
      (pss_cons (ps_if (pt_not (pt_val (pe_cl BK hr (pa_cons (pv 2) pa_nil)))) (pss_one ps_never) pss_nil)
      (pss_cons (ps_set (i := 5) scCInit.nd rfl (.inl rfl) (pe_and (pe_cmpR (op_eqD hr.units) (pv 2) (pe_tup pa_nil) (nomark _)) (pe_and (pe_cmpR (op_eqD hr.units) (pv 4) (pe_tup pa_nil) (nomark _)) (pe_and (pe_cl W hr1 (pa_cons (pv 3) pa_nil)) (pe_one (pe_cmpR op_ne (pv 3) (pv 1) (nomark _)))))))
      (pss_cons (ps_if (PW.pt (pw_and (pt_cmpR op_ne (pv 3) pe_str (nomark _)) (pw_and1 (pt_not (pt_val (pv 5)))))) (pss_one ps_never) pss_nil)
      (pss_cons (ps_if (pt_not (pt_val (pe_cl OT hr (pa_cons (pv 1) (pa_cons (pv 4) pa_nil))))) (pss_one ps_never) pss_nil)
      (pss_one (ps_sl (pv 0) (pe_tup (pa_cons (pv 1) (pa_cons (pv 2) (pa_cons (pv 3) (pa_cons (pv 4) pa_nil)))))))))))), ?_⟩
    have rest : ∀ (b : Bool) (H3 : Hp), Same H H3 → (see = "" ∨ b = true) →
        (tSeq (tIfS (tAnd (tTest (tOp rNe (tVar 3) (tC (V.str "")))) (tNot (tB (tVar 5)))) tNever tNext) (tSeq (tIfS (tNot (tB (tCall (spOthers K) [] E0 (tCons (tVar 1) (tCons (tVar 4) tNil))))) tNever tNext)
          (sSl K (tVar 0) (tTup (tCons (tVar 1) (tCons (tVar 2) (tCons (tVar 3) (tCons (tVar 4) tNil))))) "facts"))) { nx := fun _ H' => Q .non H', rt := Q } [some (.ref x), some (.str h), some (.ref tb), some (.str see), some (.ref ta), some (.bl b)] H3 := fun b H3 s3 hb3 => by
      have fin : (tSeq (tIfS (tNot (tB (tCall (spOthers K) [] E0 (tCons (tVar 1) (tCons (tVar 4) tNil))))) tNever tNext)
          (sSl K (tVar 0) (tTup (tCons (tVar 1) (tCons (tVar 2) (tCons (tVar 3) (tCons (tVar 4) tNil))))) "facts")) { nx := fun _ H' => Q .non H', rt := Q } [some (.ref x), some (.str h), some (.ref tb), some (.str see), some (.ref ta), some (.bl b)] H3 := by
        refine ⟨_, rfl, _, rfl, h, ta, os, rfl, sameT s3 ha, o1, o2, o3, fun H4 s4 => ⟨true, rfl, iteF ?_⟩⟩
        refine ⟨_, rfl, _, rfl, _, rfl, _, rfl, by show 4 ≤ sizeLine; exact Nat.le_of_lt (small_line (by decide)), fun p np => ?_⟩
        have s5 := (s3.trans s4).trans (same_new (o := .tup [.str h, .ref tb, .str see, .ref ta]) np)
        refine ⟨_, rfl, x, CC, dx, pF, [], 0, rfl, slt_ext (LamX.ExtN.of s5) h1, T.sc, T.s1, q _ (fun b o c1 c2 e => ?_) ⟨dx, p, .ref tb, .str see, .ref ta, slH_slt ne, ?_⟩⟩
        · rw [slH_ne c1 c2]
          exact s5 _ _ e
        · have np0 := (s3.trans s4).free np
          have px : p ≠ x := fun z => nx (z ▸ np0)
          have pd : p ≠ dx := fun z => nd (z ▸ np0)
          rw [slH_ne px pd, upd_same]
      refine ⟨_, rfl, rfl, _, rfl, ?_⟩
      by_cases e : see = ""
      · exact ite_no (by rw [e, decide_eq_true rfl] <;> rfl) (iteF fin)
      · have hbt : b = true := hb3.resolve_left e
        subst hbt
        exact ite_yes (by rw [decide_eq_false fun z => e (V.str.inj z)] <;> rfl) ⟨_, rfl, true, rfl, iteF fin⟩
    refine ⟨_, rfl, h, rfl, .inl wh, fun H1 s1 => ⟨true, bl_yes wh.ne, iteF ?_⟩⟩
    refine ⟨_, rfl, tb, bs, rfl, sameT s1 hb, b1, b2, b3, fun H2 s2 => ⟨true, rfl, iteF ?_⟩⟩
    have s12 := s1.trans s2
    refine ⟨_, rfl, Nat.zero_le _, fun p3 n3 => ?_⟩
    have s3 := s12.trans (same_new (o := .tup []) n3)
    refine ⟨_, _, .tup (sameT s3 hb) (dpInts bs), .tup (SqT.of upd_same) .nil, shp_ints bs, rfl, ?_⟩
    rw [eqv_nil_ints]
    refine ⟨_, rfl, ?_⟩
    by_cases eb : bs = []
    · refine ite_yes (decide_eq_true eb) ?_
      refine ⟨_, rfl, Nat.zero_le _, fun p4 n4 => ?_⟩
      have s4 := s3.trans (same_new (o := .tup []) n4)
      refine ⟨_, _, .tup (sameT s4 ha) (dpStrs os), .tup (SqT.of upd_same) .nil, shp_strs os (fun b hb => strOkW (o3 b hb).1), rfl, ?_⟩
      rw [eqv_nil_strs]
      refine ⟨_, rfl, ?_⟩
      by_cases eo : os = []
      · refine ite_yes (decide_eq_true eo) ?_
        rcases hs with e | ⟨ws, wn, _, _⟩
        · refine ⟨_, rfl, see, rfl, .inr e, fun H5 s5 => ⟨_, rfl, ?_⟩⟩
          exact ite_no (by rw [e]; decide +kernel) (rest false H5 (s4.trans s5) (.inl e))
        · refine ⟨_, rfl, see, rfl, .inl ws, fun H5 s5 => ⟨_, rfl, ?_⟩⟩
          refine ite_yes (decide_eq_true ws.ne) ⟨_, rfl, _, rfl, rfl, ?_⟩
          rw [bl_not fun z => wn (V.str.inj z)]
          exact rest true H5 (s4.trans s5) (.inr rfl)
      · exact ite_no (decide_eq_false eo) (rest false _ s4 (.inl (hs.resolve_right fun z => eo z.2.2.2)))
    · exact ite_no (decide_eq_false eb) (rest false _ s3 (.inl (hs.resolve_right fun z => eb z.2.2.1)))
end
end SrT
set_option Elab.async false
set_option linter.all false
set_option maxRecDepth 100000
set_option maxHeartbeats 4000000
set_option pp.maxSteps 600
/-! filed; the rules and looks. -/
namespace SrT
open PySem PySem.Spec PyProof.Rows L2 SrR SlX
/-- a def of the text whose code object stands at c -/
structure FunL (K : PySem.W.Frag) (x qual : Str) (st : Stmt) (f c : Addr) : Prop where
  ex : ∃ (oc : Value) (od : Option Addr) (kV doc pm : Value) (an : Option Addr) (ct : Value) (osl : Array (Option Value)),
    K.lookup f = some ⟨oc, od, .func (PySem.W.fnOf x qual (defArgs st) (defBody st) (defScope st) .none kV doc pm an (.ref c) ct), osl⟩ ∧ PySem.W.codeIn K (.ref c) qual = true
  kp : PySem.W.keepIn K (.ref f) = true
section
variable {P : Program} {w : World} {K : PySem.W.Frag} {mg : Str → Option Value} {base : Heap} {R : Addr} {CC fI pF pH gH T0 CD dI pR pC gC gL gG gK : Addr}
theorem FunL.cal {x : Str} {st : Stmt} {f c : Addr} {N ps : List Str} {k : Nat} {sp : Sp} (F : FunL K x x st f c) (g : mg x = some (.ref f)) (S : FnScope N ps (defScope st)) (len : ∀ vs H Q E, sp vs H Q E → vs.length = ps.length)
    (bind : ∀ (kV doc pm : Value) (an : Option Addr) (cdv ct : Value) (us : List Value), us.length = ps.length → bindArgs (PySem.W.fnOf x x (defArgs st) (defBody st) (defScope st) .none kV doc pm an cdv ct) ⟨us, []⟩ = pure (ps.zip us))
    (hbody : ∀ (A : Around) (outer : List Env) (s : Shared) (H : Hp) (vs : List V) (Q : VK) (E : XK), Room k (A.deeper (envOfC x (defScope st) s.heap.objs.size f (.ref c))) → sp vs H Q E →
      ∃ t, PSs (cxOf CX0 P w K mg base N x (defScope st) f (.ref c) A outer s H E).nox (defBody st) t ∧ t { nx := fun _ H' => Q .non H', rt := Q } (start N vs) H) : Cal P w K mg base CX0 (k + 1) x f ps sp := by
  obtain ⟨oc, od, kV, doc, pm, an, ct, osl, lk, hcd⟩ := F.ex
  refine ⟨⟨_, fn_of lk hcd S len fun A outer s H vs Q E hr hsp => ?_, .all (bind kV doc pm an (.ref c) ct)⟩, g, F.kp⟩
  obtain ⟨t, h, q⟩ := hbody A outer s H vs Q E hr hsp
  exact ⟨t, h.nox, q⟩
theorem scFiled : FnScope ["drawer"] ["drawer"] (defScope sFiled) := ⟨rfl, rfl, rfl, by decide +kernel, rfl, by decide +kernel, by decide +kernel⟩
/-- the two tables of code objects -/
abbrev tabs (P1 P2 : Addr) : List (Addr × Str) := [(P1, ("filed" : Str) ++ ".<locals>." ++ "<lambda>"), (P2, ("_law_drawer" : Str) ++ ".<locals>." ++ "<lambda>")]
def spFiled (K : PySem.W.Frag) (CC CD : Addr) (T : List (Addr × Str)) : Sp := fun vs H Q _ => ∃ d ps, vs = [.ref d] ∧ DrawAt K CC CD H d ps ∧ ps.length ≤ 16 ∧ LamX.Tabs T H ∧ ∀ H' d', LamX.ExtN H H' → LamX.Tabs T H' → DrawAt K CC CD H' d' (ps.mergeSort leK) → Q (.ref d') H'
theorem pe_conv {X : Cx} {e : Expr} {t t' : TE} (h : PE X e t) (c : ∀ σ H Q, t' σ H Q → t σ H Q) : PE X e t' := ⟨fun pins s σ H Q I q => h.run pins s σ H Q I (c σ H Q q)⟩
def lamP : Stmt → Option (Arguments × Expr × Scope × Pos)
  | .FunctionDef (body := [.Return (some (.Call _ [.Call _ [.Call _ _ [⟨_, .Lambda p b s q, _⟩] _] _ _] _ _)) _]) .. => some (p, b, s, q)
  | _ => none
theorem ok_filed {f c P1 P2 : Addr} (F : FunL K "filed" "filed" sFiled f c) (g : mg "filed" = some (.ref f)) (TB : LamX.TabB base mg c P1) (hne : P1 ≠ P2) (TC : CardT K mg CC fI pF pH gH T0) (TD : DrawT K mg CD dI pR pC gC gL gG gK) (B : Bl mg) (C : Co K mg R) :
    Cal P w K mg base CX0 6 "filed" f ["drawer"] (spFiled K CC CD (tabs P1 P2)) := by
  obtain ⟨fdI, FI, bI⟩ := ok_dInit (P := P) (w := w) (base := base) TD B C
  refine F.cal g scFiled (fun vs H Q E h => ?_) (fun _ _ _ _ _ _ us hl => match us, hl with | [_], _ => rfl) (fun A outer s H vs Q E hr h => ?_)
  · obtain ⟨d, ps, rfl, _⟩ := h
    rfl
  · obtain ⟨d, ps, rfl, hd, hl, hT, q⟩ := h
    refine ⟨_, pss_one (ps_ret (pe_make TD.mkr FI (hr.mono (by decide)) rfl TD.g bI .nil pass0 (pa_cons (pe_callTy call_tuple_of rfl B.tuple PyProof.Rows.boot_tuple (pa_cons
      (pe_keySort (T := tabs P1 P2) (Hd := CardAt CC) (k := 2) (N := ["card"]) (x := "card") rfl B.sorted (pe_propSl (E := E0) (pv 0) TD.sc TD.cAt TD.cGet TD.cTk TD.cRc (ok_dCards TD) (hr.mono (by decide)) (fun _ _ _ _ z => z)) TB rfl List.mem_cons_self (fun p hp e => ?_) hr rfl
        ⟨rfl, rfl, rfl, by decide +kernel, rfl, by decide +kernel, by decide +kernel⟩ (fun _ => rfl) (fun H H' p e h => h.ext e) (fun _ _ _ _ _ => rfl)
        (fun A s H f c' hr2 => pe_conv (pe_propSl (E := E0) (pv 0) TC.sc TC.hAt TC.hGet TC.hTk TC.hRc (ok_cHead TC) (hr2.mono (by decide)) (fun _ _ _ _ z => z)) fun σ H Q hh => ?_)) pa_nil)) pa_nil))), ?_⟩
    · rcases List.mem_cons.mp hp with rfl | hp
      · rfl
      · rw [List.mem_singleton.mp hp] at e
        exact absurd e.symm hne
    · obtain ⟨p, h1, h2, q2⟩ := hh
      obtain ⟨dx, t, v2, v3, v4, h3, h4⟩ := id h2
      exact ⟨_, h1, p.1, dx, _, rfl, h3, p, rfl, h2, q2 H (Same.refl H)⟩
    · obtain ⟨⟨dx, t, h1, h2⟩, h3⟩ := id hd
      refine ⟨_, rfl, d, dx, _, rfl, h1, d, dx, t, rfl, h1, t, ps, rfl, .inr h2, h3, hT, fun H2 D eN T2 nD => ?_⟩
      refine ⟨D, _, rfl, .inl ⟨.inl (.inl upd_same), fun p np => ?_⟩⟩
      intro x dx2 nx nd ne
      have s1 : Same H2 (upd H2 D (.lst (refK (ps.mergeSort leK)))) := same_new nD
      have s2 := s1.trans (same_new (o := .tup (refK (ps.mergeSort leK))) np)
      have hlen : (refK (ps.mergeSort leK)).length ≤ 16 := by
        rw [List.length_map, List.length_mergeSort]
        exact hl
      have px : p ≠ x := fun z => by
        rw [z, upd_same] at nx
        cases nx
      have pd : p ≠ dx2 := fun z => by
        rw [z, upd_same] at nd
        cases nd
      have k0 : Same (upd (upd H2 D (.lst (refK (ps.mergeSort leK)))) p (.tup (refK (ps.mergeSort leK)))) (upd (upd (upd (upd H2 D (.lst (refK (ps.mergeSort leK)))) p (.tup (refK (ps.mergeSort leK)))) dx2 (.own x)) x (.ins CD dx2 [])) :=
        (same_new nd).trans (same_new (by rw [upd_ne ne.symm]; exact nx))
      refine ⟨x, dx2, p, _, rfl, .inl ⟨upd_same, rfl⟩, ne, sameT k0 (.of upd_same), hlen, fun H' kp sl => ⟨rfl, ?_⟩⟩
      have s3 := s2.trans (made_same nx nd kp)
      refine q H' x (eN.trans (LamX.ExtN.of s3)) (T2.ext s3) ⟨⟨dx2, p, sl, .of (kp _ _ px pd ?_)⟩, fun c hc => ?_⟩
      · rw [upd_ne px, upd_ne pd, upd_same]
      · exact ((h3 c ((List.mergeSort_perm _ _).mem_iff.mp hc)).ext eN).same s3
end
end SrT
set_option Elab.async false
set_option linter.all false
set_option maxRecDepth 100000
set_option maxHeartbeats 4000000
set_option pp.maxSteps 1500
/-! check_rule; by_halves, one_by_one, looked_up, look_up. -/
namespace SrT
open PySem PySem.Spec PyProof.Rows L2 SrR SlX
def RuleOk (r : Str) : Prop := r = "all" ∨ r = "half" ∨ r = "leaf"
section
variable {P : Program} {w : World} {K : PySem.W.Frag} {mg : Str → Option Value} {base : Heap} {R : Addr} {CC fI pF pH gH T0 CD dI pR pC gC gL gG gK : Addr}
theorem scRule : FnScope ["rule"] ["rule"] (defScope sRule) := ⟨rfl, rfl, rfl, by decide +kernel, rfl, by decide +kernel, by decide +kernel⟩
def spRule : Sp := fun vs H Q _ => ∃ r : Str, vs = [.str r] ∧ RuleOk r ∧ Q .non H
theorem ok_rule {f : Addr} (D : DefT K mg "check_rule" sRule ["rule"] f) (C : Co K mg R) : Cal P w K mg base CX0 1 "check_rule" f ["rule"] spRule := by
  refine D.cal scRule (fun vs H Q E h => ?_) (fun cdv A outer s H vs Q E hr h => ?_)
  · obtain ⟨r, rfl, _⟩ := h
    rfl
  · obtain ⟨r, rfl, hr2, q⟩ := h
    refine ⟨_, pss_one (ps_if (pt_cmpR op_notIn_seq (pv 0) (pe_glob (v := .ref R) rfl C.rules rfl) (by rfl)) (pss_one ps_never) pss_nil), ?_⟩
    refine ⟨_, rfl, R, _, rfl, .inr (C.rulesT H), rfl, rfl, _, rfl, ite_no ?_ q⟩
    rcases hr2 with rfl | rfl | rfl <;> decide +kernel

/-- what a look gives: n places looked at -/
def LookRes (K : PySem.W.Frag) (H H' : Hp) (r : Addr) (n : Nat) : Prop := Same H H' ∧ ∃ v t L, H' r = some (.tup [v, .ref t]) ∧ SqT K H' t L ∧ L.length = n
/-- a tuple of something and a list's tuple is made -/
theorem look_end {H H1 : Hp} {o : Addr} {v : V} {L : List V} (s1 : Same H H1) (ho : H1 o = some (.lst L)) {l r : Addr} (nl : H1 l = none) (nr : (upd H1 l (.tup L)) r = none) : LookRes K H (upd (upd H1 l (.tup L)) r (.tup [v, .ref l])) r L.length := by
  refine ⟨(s1.trans (same_new nl)).trans (same_new nr), v, l, L, upd_same, .of ?_, rfl⟩
  have ne : l ≠ r := fun z => by
    rw [← z, upd_same] at nr
    cases nr
  rw [upd_ne ne, upd_same]
theorem scHalves : FnScope ["drawer", "heading", "looks", "first", "last", "middle", "here"] ["drawer", "heading"] (defScope sHalves) := ⟨rfl, rfl, rfl, by decide +kernel, rfl, by decide +kernel, by decide +kernel⟩
abbrev hsOf (ps : List KeyR) : List Str := ps.map (·.2)
def spHalves (K : PySem.W.Frag) (CC CD : Addr) : Sp := fun vs H Q _ => ∃ d ps h, vs = [.ref d, .str h] ∧ DrawAt K CC CD H d ps ∧ ps.length ≤ 16 ∧ ∀ H' r, LookRes K H H' r (Sr.halfLook (hsOf ps) h ps.length 0 ((ps.length : Int) - 1)) → Q (.ref r) H'
theorem half_no {hs : List Str} {x : Str} {f : Nat} {a b : Int} (h : ¬ a ≤ b) : Sr.halfLook hs x f a b = 0 := by
  cases f with
  | zero => rfl
  | succ f => unfold Sr.halfLook; rw [if_neg h]
def muH : L2.St → Hp → Nat := fun σ _ => match σ with
  | [_, _, _, some (.int a), some (.int b), _, _] => (b + 1 - a).toNat
  | _ => 0
theorem ok_halves {f : Addr} (D : DefT K mg "by_halves" sHalves ["drawer", "heading"] f) (TC : CardT K mg CC fI pF pH gH T0) (TD : DrawT K mg CD dI pR pC gC gL gG gK) (B : Bl mg) : Cal P w K mg base CX0 3 "by_halves" f ["drawer", "heading"] (spHalves K CC CD) := by
  refine D.cal scHalves (fun vs H Q E h => ?_) (fun cdv A outer s H vs Q E hr h => ?_)
  · obtain ⟨d, ps, h, rfl, _⟩ := h
    rfl
  · obtain ⟨d, ps, h, rfl, hd, hl, q⟩ := h
    refine ⟨_, pss_cons (ps_set (i := 2) scHalves.nd rfl (.inl rfl) (pe_lst pa_nil))
      (pss_cons (ps_par (i := 3) (j := 4) rfl scHalves.nd rfl rfl (by decide) rfl rfl (pa_cons pe_int (pa_cons (pe_op op_sub (pe_callB call_len_seq rfl B.len boot_len (pa_cons (pe_propSl (E := E0) (pv 0) TD.sc TD.cAt TD.cGet TD.cTk TD.cRc (ok_dCards TD) hr (fun _ _ _ _ z => z)) pa_nil)) pe_int) pa_nil)) (by rfl))
      (pss_cons (ps_while PassesOwn.never (pt_cmpR op_le (pv 3) (pv 4) (nomark _))
        (pss_cons (ps_set (i := 5) scHalves.nd rfl (.inl rfl) (pe_op op_fdiv (pe_op op_add (pv 3) (pv 4)) pe_int))
        (pss_cons (ps_expr (pe_bm PySem.F.plainAttrs_list PySem.F.slot_list_append PySem.F.type_list_append mt_append (pv 2) (pa_cons (pv 5) pa_nil)))
        (pss_cons (ps_set (i := 6) scHalves.nd rfl (.inl rfl) (pe_propSl (E := E0) (pe_ix ix_tup (pe_propSl (E := E0) (pv 0) TD.sc TD.cAt TD.cGet TD.cTk TD.cRc (ok_dCards TD) hr (fun _ _ _ _ z => z)) (pv 5) (fun _ _ => rfl)) TC.sc TC.hAt TC.hGet TC.hTk TC.hRc (ok_cHead TC) hr (fun _ _ _ _ z => z)))
        (pss_cons (ps_if (pt_cmpR op_eq (pv 6) (pv 1) (nomark _)) (pss_one (ps_ret (pe_tup (pa_cons (pv 5) (pa_cons (pe_callTy call_tuple_of rfl B.tuple PyProof.Rows.boot_tuple (pa_cons (pv 2) pa_nil)) pa_nil))))) pss_nil)
        (pss_one (ps_if (pt_cmpR op_gt_str (pv 6) (pv 1) (nomark _)) (pss_one (ps_set (i := 4) scHalves.nd rfl (.inl rfl) (pe_op op_sub (pv 5) pe_int))) (pss_one (ps_set (i := 3) scHalves.nd rfl (.inl rfl) (pe_op op_add (pv 5) pe_int))))))))))
      (pss_one (ps_ret (pe_tup (pa_cons pe_non (pa_cons (pe_callTy call_tuple_of rfl B.tuple PyProof.Rows.boot_tuple (pa_cons (pv 2) pa_nil)) pa_nil))))))), ?_⟩
    obtain ⟨⟨dx, t, h1, h2⟩, h3⟩ := id hd
    refine ⟨Nat.zero_le _, fun o no => ?_⟩
    have s0 : Same H (upd H o (.lst [])) := same_new no
    refine ⟨_, rfl, d, dx, _, rfl, slt_ext (LamX.ExtN.of s0) h1, d, dx, t, rfl, slt_ext (LamX.ExtN.of s0) h1, t, _, rfl, .inr (sameT s0 h2), _, _, rfl, rfl, _, _, rfl, ?_⟩
    have tot := Sr.halfLook_le (hsOf ps) h ps.length 0 ((ps.length : Int) - 1)
    generalize hT : Sr.halfLook (hsOf ps) h ps.length 0 ((ps.length : Int) - 1) = T at q tot
    have lenK : (refK ps).length = ps.length := List.length_map _
    refine while_by (fun σ H1 => ∃ (a b : Int) (y5 y6 : Option V) (L : List V) (fu : Nat), σ = [some (.ref d), some (.str h), some (.ref o), some (.int a), some (.int b), y5, y6] ∧ Same H H1 ∧ H1 o = some (.lst L) ∧ 0 ≤ a ∧ b < ps.length ∧ (b + 1 - a).toNat ≤ fu ∧ L.length + Sr.halfLook (hsOf ps) h fu a b = T) muH
      ⟨0, (ps.length : Int) - 1, none, none, [], ps.length, by rw [lenK] <;> rfl, s0, upd_same, by omega, by omega, by omega, by rw [hT]; simp⟩ (fun σ H1 hW => ?_) (fun σ H Q Q' m hc => ?_)
    · obtain ⟨a, b, y5, y6, L, fu, rfl, s1, ho, a0, bn, hf, hL⟩ := hW
      refine ⟨_, rfl, _, rfl, _, _, rfl, rfl, _, rfl, ite2 (fun e => ?_) (fun e => ?_)⟩
      · have hab : a ≤ b := of_decide_eq_true e
        cases fu with
        | zero => omega
        | succ fu =>
        unfold Sr.halfLook at hL
        rw [if_pos hab] at hL
        obtain ⟨m, hm⟩ : ∃ m : Nat, (a + b) / 2 = m := ⟨((a + b) / 2).toNat, by omega⟩
        have hmn : m < ps.length := by omega
        have hmn2 : (hsOf ps).getD m Str.empty = (ps[m]).2 := by simp [List.getD, hmn]
        rw [hm] at hL
        rw [show ((m : Int)).toNat = m from Int.toNat_natCast m, hmn2] at hL
        -- middle, looks.append(middle)
        refine ⟨_, rfl, _, rfl, _, _, rfl, rfl, _, _, rfl, rfl, ⟨by decide, by decide⟩, ?_⟩
        have hLl : L.length < sizeLine := small_line (by omega)
        refine ⟨_, rfl, .inl ⟨rfl, _, .inl (.inl ho)⟩, _, rfl, o, L, _, rfl, rfl, ho, hLl, ?_⟩
        have s2 : Same H (upd H1 o (.lst (L ++ [.int ((a + b) / 2)]))) := same_upd2 no s1
        -- here
        have g : (refK ps)[m]? = some (.ref (ps[m]).1) := by
          rw [List.getElem?_map, List.getElem?_eq_getElem hmn]
          rfl
        have hc := (h3 ps[m] (List.getElem_mem hmn)).same s2
        obtain ⟨dx2, t2, v2, v3, v4, c1, c2⟩ := id hc
        refine ⟨_, rfl, d, dx, _, rfl, slt_ext (LamX.ExtN.of s2) h1, d, dx, t, rfl, slt_ext (LamX.ExtN.of s2) h1, _, rfl, t, _, _, .ref (ps[m]).1, rfl, rfl, sameT s2 h2, by rw [hm]; exact atI_nat g, (ps[m]).1, dx2, _, rfl, c1, ps[m], rfl, hc, ?_⟩
        -- here == heading
        refine ⟨_, rfl, _, rfl, rfl, _, rfl, ite2 (fun e => ?_) (fun e => ?_)⟩
        · have e2 : (ps[m]).2 = h := V.str.inj (of_decide_eq_true e)
          rw [if_pos e2] at hL
          refine ⟨_, rfl, _, rfl, o, _, rfl, .inl ⟨.inl (.inl upd_same), fun l nl => ⟨by show 2 ≤ sizeLine; exact Nat.le_of_lt (small_line (by decide)), fun r nr => ?_⟩⟩⟩
          exact q _ r (by
            have z := look_end (K := K) (v := .int ((a + b) / 2)) s2 upd_same nl nr
            rw [List.length_append, List.length_singleton, hL] at z
            exact z)
        · have e2 : ¬ (ps[m]).2 = h := fun z => e (decide_eq_true (by rw [z]))
          rw [if_neg e2] at hL
          refine ⟨_, rfl, _, rfl, _, _, rfl, rfl, _, rfl, ite2 (fun e => ?_) (fun e => ?_)⟩
          · rw [if_pos (show Sr.strLt h (ps[m]).2 = true from e)] at hL
            refine ⟨_, rfl, _, _, rfl, rfl, ⟨a, (a + b) / 2 - 1, _, _, _, fu, rfl, s2, upd_same, a0, by omega, by omega, ?_⟩, ?_⟩
            · rw [List.length_append, List.length_singleton, hm]
              omega
            · show ((a + b) / 2 - 1 + 1 - a).toNat < (b + 1 - a).toNat
              omega
          · rw [if_neg (show ¬ Sr.strLt h (ps[m]).2 = true from e)] at hL
            refine ⟨_, rfl, _, _, rfl, rfl, ⟨(a + b) / 2 + 1, b, _, _, _, fu, rfl, s2, upd_same, by omega, bn, by omega, ?_⟩, ?_⟩
            · rw [List.length_append, List.length_singleton, hm]
              omega
            · show (b + 1 - ((a + b) / 2 + 1)).toNat < (b + 1 - a).toNat
              omega
      · rw [half_no (fun z => e (decide_eq_true z)), Nat.add_zero] at hL
        refine ⟨_, rfl, o, _, rfl, .inl ⟨.inl (.inl ho), fun l nl => ⟨by show 2 ≤ sizeLine; exact Nat.le_of_lt (small_line (by decide)), fun r nr => ?_⟩⟩⟩
        refine q _ r ?_
        have z := look_end (K := K) (v := .non) s1 ho nl nr
        rw [hL] at z
        exact z
    · obtain ⟨x, hx, y, hy, i, j, e1, e2, k, e3, z⟩ := hc
      exact ⟨x, hx, y, hy, i, j, e1, e2, k, e3, m _ _ z⟩

/-! ### from the first card on -/
theorem scOneBy : FnScope ["drawer", "heading", "is_leafing", "place", "card"] ["drawer", "heading", "is_leafing"] (defScope sOneBy) := ⟨rfl, rfl, rfl, by decide +kernel, rfl, by decide +kernel, by decide +kernel⟩
def spOneBy (K : PySem.W.Frag) (CC CD : Addr) : Sp := fun vs H Q _ => ∃ d ps h b, vs = [.ref d, .str h, .bl b] ∧ DrawAt K CC CD H d ps ∧ ps.length ≤ 16 ∧ ∀ H' r, LookRes K H H' r (Sr.oneLook b (hsOf ps) h) → Q (.ref r) H'
/-- no card of the first i ends the search -/
def Goes (b : Bool) (h : Str) (k : Str) : Prop := k ≠ h ∧ ¬ (b = true ∧ Sr.strLt h k = true)
theorem oneLook_goes {b : Bool} {h : Str} : ∀ {ks : List Str} {i : Nat}, i ≤ ks.length → (∀ k ∈ ks.take i, Goes b h k) → Sr.oneLook b ks h = i + Sr.oneLook b (ks.drop i) h
  | ks, 0, _, _ => by rw [List.drop_zero, Nat.zero_add]
  | [], i + 1, hi, _ => absurd hi (by simp)
  | k :: ks, i + 1, hi, hg => by
    have g0 := hg k (by simp)
    have ih := oneLook_goes (b := b) (h := h) (ks := ks) (i := i) (by simpa using hi) fun k' hk => hg k' (by simp [hk])
    rw [List.drop_succ_cons]
    show (if k = h then 1 else if b = true ∧ Sr.strLt h k = true then 1 else 1 + Sr.oneLook b ks h) = _
    rw [if_neg g0.1, if_neg g0.2, ih]
    omega
theorem ok_oneBy {f : Addr} (D : DefT K mg "one_by_one" sOneBy ["drawer", "heading", "is_leafing"] f) (TC : CardT K mg CC fI pF pH gH T0) (TD : DrawT K mg CD dI pR pC gC gL gG gK) (B : Bl mg) : Cal P w K mg base CX0 3 "one_by_one" f ["drawer", "heading", "is_leafing"] (spOneBy K CC CD) := by
  refine D.cal scOneBy (fun vs H Q E h => ?_) (fun cdv A outer s H vs Q E hr h => ?_)
  · obtain ⟨d, ps, h, b, rfl, _⟩ := h
    rfl
  · obtain ⟨d, ps, h, b, rfl, hd, hl, q⟩ := h
    refine ⟨_, pss_cons (ps_for PassesOwn.never rfl (pi_enumT (by rfl) B.enum (pa_cons (pe_propSl (E := E0) (pv 0) TD.sc TD.cAt TD.cGet TD.cTk TD.cRc (ok_dCards TD) hr (fun _ _ _ _ z => z)) pa_nil)) (pg_tup rfl (pgs_cons (pg_name (i := 3) scOneBy.nd rfl (.inl rfl)) (pgs_cons (pg_name (i := 4) scOneBy.nd rfl (.inl rfl)) pgs_nil)))
        (pss_cons (ps_if (pt_cmpR op_eq (pe_propSl (E := E0) (pv 4) TC.sc TC.hAt TC.hGet TC.hTk TC.hRc (ok_cHead TC) hr (fun _ _ _ _ z => z)) (pv 1) (nomark _))
            (pss_one (ps_ret (pe_tup (pa_cons (pv 3) (pa_cons (pe_tupRg rfl rfl B.tuple (prg_1 rfl B.range (pe_op op_add (pv 3) pe_int))) pa_nil))))) pss_nil)
          (pss_one (ps_if (PW.pt (pw_and (pt_val (pv 2)) (pw_and1 (pt_cmpR op_gt_str (pe_propSl (E := E0) (pv 4) TC.sc TC.hAt TC.hGet TC.hTk TC.hRc (ok_cHead TC) hr (fun _ _ _ _ z => z)) (pv 1) (nomark _)))))
            (pss_one (ps_ret (pe_tup (pa_cons pe_non (pa_cons (pe_tupRg rfl rfl B.tuple (prg_1 rfl B.range (pe_op op_add (pv 3) pe_int))) pa_nil))))) pss_nil))))
      (pss_one (ps_ret (pe_tup (pa_cons pe_non (pa_cons (pe_tupRg rfl rfl B.tuple (prg_1 rfl B.range (pe_callB call_len_seq rfl B.len boot_len (pa_cons (pe_propSl (E := E0) (pv 0) TD.sc TD.cAt TD.cGet TD.cTk TD.cRc (ok_dCards TD) hr (fun _ _ _ _ z => z)) pa_nil)))) pa_nil))))), ?_⟩
    obtain ⟨⟨dx, t, h1, h2⟩, h3⟩ := id hd
    have lenK : (refK ps).length = ps.length := List.length_map _
    have done : ∀ (H1 : Hp) (v : V) (n : Nat) (l r : Addr), Same H H1 → H1 l = none → (upd H1 l (.tup (rgV 0 n))) r = none → LookRes K H (upd (upd H1 l (.tup (rgV 0 n))) r (.tup [v, .ref l])) r n := fun H1 v n l r s1 nl nr => by
      refine ⟨(s1.trans (same_new nl)).trans (same_new nr), v, l, rgV 0 n, upd_same, .of ?_, by rw [rgV_length]; omega⟩
      have ne : l ≠ r := fun z => by
        rw [← z, upd_same] at nr
        cases nr
      rw [upd_ne ne, upd_same]
    have two : (2 : Nat) ≤ sizeLine := Nat.le_of_lt (small_line (by decide))
    refine ⟨_, rfl, d, dx, _, rfl, h1, d, dx, t, rfl, h1, t, refK ps, rfl, h2, ?_⟩
    refine for_it (walk_enumT (xs := refK ps)) (fun i σ H1 => ∃ y3 y4, σ = [some (.ref d), some (.str h), some (.bl b), y3, y4] ∧ Same H H1 ∧ ∀ k ∈ (hsOf ps).take i, Goes b h k) ⟨none, none, rfl, Same.refl H, fun k hk => by simp at hk⟩ (fun i σ H1 _ hW => ?_) (fun i x σ H1 H2 hi hW y => ?_) (fun σ H1 hW => ?_)
    · obtain ⟨_, _, _, s1, _⟩ := hW
      exact sameT s1 h2
    · obtain ⟨y3, y4, rfl, s1, hg⟩ := hW
      obtain ⟨T, x1, x2, rfl, nT, rfl, f1, f2⟩ := y
      obtain rfl : V.int (i : Nat) = x1 := Option.some.inj f1
      replace f2 : (refK ps)[i]? = some x2 := f2
      have hi2 : i < ps.length := by
        rw [← lenK]
        exact hi
      rw [List.getElem?_map, List.getElem?_eq_getElem hi2] at f2
      obtain rfl : V.ref (ps[i]).1 = x2 := Option.some.inj f2
      have s2 := s1.trans (same_new (o := .tup [.int (i : Nat), .ref (ps[i]).1]) nT)
      have hc := (h3 ps[i] (List.getElem_mem hi2)).same s2
      obtain ⟨dx2, t2, v2, v3, v4, c1, c2⟩ := id hc
      have hks : (hsOf ps).drop i = (ps[i]).2 :: (hsOf ps).drop (i + 1) := by
        rw [List.drop_eq_getElem_cons (by rw [List.length_map]; exact hi2), List.getElem_map]
      have lk := oneLook_goes (b := b) (h := h) (ks := hsOf ps) (i := i) (by rw [List.length_map]; omega) hg
      rw [hks] at lk
      refine ⟨T, _, rfl, .of upd_same, rfl, _, _, rfl, _, _, rfl, rfl, ?_⟩
      refine ⟨_, rfl, (ps[i]).1, dx2, _, rfl, c1, ps[i], rfl, hc, _, rfl, rfl, _, rfl, ite2 (fun e => ?_) (fun e => ?_)⟩
      · have e2 : (ps[i]).2 = h := V.str.inj (of_decide_eq_true e)
        rw [show Sr.oneLook b ((ps[i]).2 :: (hsOf ps).drop (i + 1)) h = 1 from if_pos e2] at lk
        rw [lk] at q
        refine ⟨_, rfl, _, rfl, _, _, rfl, rfl, _, rfl, RgOk.of_le (by omega) (by omega) (by omega) (by omega), fun l nl => ⟨two, fun r nr => ?_⟩⟩
        exact q _ r (done _ _ (i + 1) l r s2 nl nr)
      · have e2 : ¬ (ps[i]).2 = h := fun z => e (decide_eq_true (by rw [z]))
        have next : (∀ k ∈ (hsOf ps).take (i + 1), Goes b h k) ↔ Goes b h (ps[i]).2 := by
          constructor
          · intro z
            refine z _ ?_
            rw [List.take_succ, List.getElem?_map, List.getElem?_eq_getElem hi2]
            simp
          · intro z k hk
            rw [List.take_succ, List.getElem?_map, List.getElem?_eq_getElem hi2] at hk
            rcases List.mem_append.mp hk with hk | hk
            · exact hg k hk
            · rw [show k = (ps[i]).2 by simpa using hk]
              exact z
        refine ⟨_, rfl, b, rfl, ?_⟩
        cases b with
        | false => exact iteF (iteF ⟨_, _, rfl, s2, next.mpr ⟨e2, fun z => nomatch z.1⟩⟩)
        | true =>
          refine iteT ⟨_, rfl, (ps[i]).1, dx2, _, rfl, c1, ps[i], rfl, hc, _, rfl, _, _, rfl, rfl, _, rfl, ite2 (fun e => ?_) (fun e => ?_)⟩
          · rw [show Sr.oneLook true ((ps[i]).2 :: (hsOf ps).drop (i + 1)) h = 1 from (if_neg e2).trans (if_pos ⟨rfl, e⟩)] at lk
            rw [lk] at q
            refine ⟨_, rfl, _, _, rfl, rfl, _, rfl, RgOk.of_le (by omega) (by omega) (by omega) (by omega), fun l nl => ⟨two, fun r nr => ?_⟩⟩
            exact q _ r (done _ _ (i + 1) l r s2 nl nr)
          · exact ⟨_, _, rfl, s2, next.mpr ⟨e2, fun z => e z.2⟩⟩
    · obtain ⟨y3, y4, rfl, s1, hg⟩ := hW
      have lk := oneLook_goes (b := b) (h := h) (ks := hsOf ps) (i := ps.length) (by rw [List.length_map]; omega) (by rw [← lenK]; exact hg)
      rw [List.drop_of_length_le (by rw [List.length_map]; omega)] at lk
      rw [show Sr.oneLook b [] h = 0 from rfl, Nat.add_zero] at lk
      rw [lk] at q
      refine ⟨_, rfl, d, dx, _, rfl, slt_ext (LamX.ExtN.of s1) h1, d, dx, t, rfl, slt_ext (LamX.ExtN.of s1) h1, t, _, rfl, .inr (sameT s1 h2), _, rfl, ?_⟩
      rw [lenK]
      refine ⟨RgOk.of_le (by omega) (by omega) (by omega) (by omega), fun l nl => ⟨two, fun r nr => ?_⟩⟩
      exact q _ r (done _ _ ps.length l r s1 nl nr)
end
end SrT
set_option Elab.async false
set_option linter.all false
set_option maxRecDepth 100000
set_option maxHeartbeats 4000000
set_option pp.maxSteps 1500
/-! looked_up, look_up; check_all; orders_behind; fits. -/
namespace SrT
open PySem PySem.Spec PyProof.Rows L2 SrR SlX
section
variable {P : Program} {w : World} {K : PySem.W.Frag} {mg : Str → Option Value} {base : Heap} {R : Addr} {CC fI pF pH gH T0 CD dI pR pC gC gL gG gK : Addr}
theorem scLooked : FnScope ["drawer", "rule", "heading"] ["drawer", "rule", "heading"] (defScope sLooked) := ⟨rfl, rfl, rfl, by decide +kernel, rfl, by decide +kernel, by decide +kernel⟩
def spLooked (K : PySem.W.Frag) (CC CD : Addr) : Sp := fun vs H Q _ => ∃ d ps r h, vs = [.ref d, .str r, .str h] ∧ DrawAt K CC CD H d ps ∧ ps.length ≤ 16 ∧ RuleOk r ∧ ∀ H' a, LookRes K H H' a (Sr.looksOf r (hsOf ps) h) → Q (.ref a) H'
theorem ok_looked {f fH fO : Addr} (D : DefT K mg "looked_up" sLooked ["drawer", "rule", "heading"] f) (C : Co K mg R) (HV : Cal P w K mg base CX0 3 "by_halves" fH ["drawer", "heading"] (spHalves K CC CD)) (OB : Cal P w K mg base CX0 3 "one_by_one" fO ["drawer", "heading", "is_leafing"] (spOneBy K CC CD)) :
    Cal P w K mg base CX0 4 "looked_up" f ["drawer", "rule", "heading"] (spLooked K CC CD) := by
  refine D.cal scLooked (fun vs H Q E h => ?_) (fun cdv A outer s H vs Q E hr h => ?_)
  · obtain ⟨d, ps, r, h, rfl, _⟩ := h
    rfl
  · obtain ⟨d, ps, r, h, rfl, hd, hl, ro, q⟩ := h
    refine ⟨_, pss_cons (ps_if (pt_cmpR op_eq (pv 1) (pe_co (v := .str "half") C.half fun _ => ⟨_, rfl⟩) (nomark _)) (pss_one (ps_ret (pe_cl HV hr (pa_cons (pv 0) (pa_cons (pv 2) pa_nil))))) pss_nil)
      (pss_one (ps_ret (pe_cl OB hr (pa_cons (pv 0) (pa_cons (pv 2) (pa_cons (pe_cmpR op_eq (pv 1) (pe_co (v := .str "leaf") C.leaf fun _ => ⟨_, rfl⟩) (nomark _)) pa_nil)))))), ?_⟩
    have lenK : (hsOf ps).length = ps.length := List.length_map _
    unfold Sr.looksOf at q
    rw [lenK] at q
    refine ⟨_, rfl, rfl, _, rfl, ite2 (fun e => ?_) (fun e => ?_)⟩
    · have e2 : r = "half" := V.str.inj (of_decide_eq_true e)
      rw [if_pos e2] at q
      exact ⟨_, rfl, _, rfl, d, ps, h, rfl, hd, hl, q⟩
    · have e2 : ¬ r = "half" := fun z => e (decide_eq_true (by rw [z]))
      rw [if_neg e2] at q
      refine ⟨_, rfl, _, rfl, _, rfl, rfl, d, ps, h, _, rfl, hd, hl, ?_⟩
      have e3 : decide (V.str r = V.str "leaf") = decide (r = "leaf") := decide_eq_decide.mpr ⟨V.str.inj, fun z => by rw [z]⟩
      rw [e3]
      exact q
theorem scLook : FnScope ["drawer", "rule", "heading"] ["drawer", "rule", "heading"] (defScope sLook) := ⟨rfl, rfl, rfl, by decide +kernel, rfl, by decide +kernel, by decide +kernel⟩
def spLook (K : PySem.W.Frag) (CC CD : Addr) : Sp := fun vs H Q _ => ∃ d ps r h, vs = [.ref d, .str r, .str h] ∧ DrawAt K CC CD H d ps ∧ ps.length ≤ 16 ∧ RuleOk r ∧ Wd h ∧ ∀ H' a, LookRes K H H' a (Sr.looksOf r (hsOf ps) h) → Q (.ref a) H'
theorem LookRes.after {H H1 H2 : Hp} {a : Addr} {n : Nat} (s : Same H H1) (l : LookRes K H1 H2 a n) : LookRes K H H2 a n := ⟨s.trans l.1, l.2⟩
theorem ok_look {f fR fC fL : Addr} (D : DefT K mg "look_up" sLook ["drawer", "rule", "heading"] f) (RL : Cal P w K mg base CX0 1 "check_rule" fR ["rule"] spRule) (CH : Cal P w K mg base CX0 2 "check_heading" fC ["value"] spChkH)
    (LK : Cal P w K mg base CX0 4 "looked_up" fL ["drawer", "rule", "heading"] (spLooked K CC CD)) : Cal P w K mg base CX0 5 "look_up" f ["drawer", "rule", "heading"] (spLook K CC CD) := by
  refine D.cal scLook (fun vs H Q E h => ?_) (fun cdv A outer s H vs Q E hr h => ?_)
  · obtain ⟨d, ps, r, h, rfl, _⟩ := h
    rfl
  · obtain ⟨d, ps, r, h, rfl, hd, hl, ro, wh, q⟩ := h
    refine ⟨_, pss_cons (ps_expr (pe_cl RL (hr.mono (by decide)) (pa_cons (pv 1) pa_nil))) (pss_cons (ps_expr (pe_cl CH (hr.mono (by decide)) (pa_cons (pv 2) pa_nil))) (pss_one (ps_ret (pe_cl LK hr (pa_cons (pv 0) (pa_cons (pv 1) (pa_cons (pv 2) pa_nil))))))), ?_⟩
    exact ⟨_, rfl, r, rfl, ro, _, rfl, h, rfl, wh, fun H1 s1 => ⟨_, rfl, _, rfl, _, rfl, d, ps, r, h, rfl, hd.same s1, hl, ro, fun H2 a l => q H2 a (l.after s1)⟩⟩

/-! ### tallies -/
abbrev TlyR := Addr × Str × Int
def TlyAt (H : Hp) (q : TlyR) : Prop := H q.1 = some (.tup [.str q.2.1, .int q.2.2])
/-- the tally at a: a list of pairs -/
def Tally (K : PySem.W.Frag) (H : Hp) (a : Addr) (ts : List TlyR) : Prop := SqL K H a (ts.map fun q => V.ref q.1) ∧ (∀ q ∈ ts, TlyAt H q ∧ Wd q.2.1) ∧ ts.length ≤ 16
abbrev tlyOf (ts : List TlyR) : List (Str × Int) := ts.map (·.2)
theorem Tally.same {H H' : Hp} {a : Addr} {ts : List TlyR} (e : Same H H') (h : Tally K H a ts) : Tally K H' a ts := ⟨e.seq h.1, fun q hq => ⟨e _ _ (h.2.1 q hq).1, (h.2.1 q hq).2⟩, h.2.2⟩
theorem Tally.ext {H H' : Hp} {a : Addr} {ts : List TlyR} (e : LamX.ExtN H H') (h : Tally K H a ts) : Tally K H' a ts := ⟨sqL_ext e h.1, fun q hq => ⟨e _ _ (h.2.1 q hq).1 (fun _ z => nomatch z), (h.2.1 q hq).2⟩, h.2.2⟩
theorem scChkA : FnScope ["rule", "tally", "most", "index", "heading", "count"] ["rule", "tally", "most"] (defScope sChkA) := ⟨rfl, rfl, rfl, by decide +kernel, rfl, by decide +kernel, by decide +kernel⟩
def spChkA (K : PySem.W.Frag) : Sp := fun vs H Q _ => ∃ r a ts, ∃ m : Int, vs = [.str r, .ref a, .int m] ∧ RuleOk r ∧ Tally K H a ts ∧ 0 ≤ m ∧ m ≤ 2 ∧ ∀ H', Same H H' → Q .non H'
theorem ok_chkA {f fR fW fN : Addr} (D : DefT K mg "check_all" sChkA ["rule", "tally", "most"] f) (B : Bl mg) (C : Co K mg R) (RL : Cal P w K mg base CX0 1 "check_rule" fR ["rule"] spRule) (W : Cal P w K mg base CX0 1 "is_word" fW ["value"] spWord)
    (CN : Cal P w K mg base CX0 2 "check_number" fN ["value", "smallest", "largest"] spChkN) : Cal P w K mg base CX0 3 "check_all" f ["rule", "tally", "most"] (spChkA K) := by
  refine D.cal scChkA (fun vs H Q E h => ?_) (fun cdv A outer s H vs Q E hr h => ?_)
  · obtain ⟨r, a, ts, m, rfl, _⟩ := h
    rfl
  · obtain ⟨r, a, ts, m, rfl, ro, ht, m0, m2, q⟩ := h
    refine ⟨_, pss_cons (ps_expr (pe_cl RL (hr.mono (by decide)) (pa_cons (pv 0) pa_nil)))
      (pss_cons (ps_for PassesOwn.never rfl (pi_enum (by rfl) B.enum (pa_cons (pv 1) pa_nil)) (pg_tup rfl (pgs_cons (pg_name (i := 3) scChkA.nd rfl (.inl rfl)) (pgs_cons (pg_tup rfl (pgs_cons (pg_name (i := 4) scChkA.nd rfl (.inl rfl)) (pgs_cons (pg_name (i := 5) scChkA.nd rfl (.inl rfl)) pgs_nil))) pgs_nil)))
        (pss_one (ps_if (pt_not (pt_val (pe_cl W (hr.mono (by decide)) (pa_cons (pv 4) pa_nil)))) (pss_one ps_never) pss_nil)))
      (pss_one (ps_expr (pe_cl CN hr (pa_cons (pv 2) (pa_cons pe_int (pa_cons (pe_co (v := .int 2) C.maxM fun _ => ⟨_, rfl⟩) pa_nil))))))), ?_⟩
    obtain ⟨hs, he, hl⟩ := id ht
    refine ⟨_, rfl, r, rfl, ro, _, rfl, a, _, rfl, hs, ?_⟩
    refine for_it (walk_enum (xs := ts.map fun q => V.ref q.1)) (fun i σ H1 => ∃ y3 y4 y5, σ = [some (.str r), some (.ref a), some (.int m), y3, y4, y5] ∧ Same H H1) ⟨none, none, none, rfl, Same.refl H⟩ (fun i σ H1 _ hW => ?_) (fun i x σ H1 H2 hi hW y => ?_) (fun σ H1 hW => ?_)
    · obtain ⟨_, _, _, _, s1⟩ := hW
      exact s1.seq hs
    · obtain ⟨y3, y4, y5, rfl, s1⟩ := hW
      obtain ⟨T, x1, x2, rfl, nT, rfl, f1, f2⟩ := y
      obtain rfl : V.int (i : Nat) = x1 := Option.some.inj f1
      replace f2 : (ts.map fun q => V.ref q.1)[i]? = some x2 := f2
      rw [List.getElem?_map] at f2
      obtain ⟨z, hz, rfl⟩ := Option.map_eq_some_iff.mp f2
      have s2 := s1.trans (same_new (o := .tup [.int (i : Nat), .ref z.1]) nT)
      obtain ⟨e1, e2⟩ := he z (List.mem_of_getElem? hz)
      refine ⟨T, _, rfl, .of upd_same, rfl, _, _, rfl, _, _, rfl, ⟨z.1, _, rfl, .of (s2 _ _ e1), rfl, _, _, rfl, _, _, rfl, rfl, rfl, _, rfl, z.2.1, rfl, .inl e2, fun H3 s3 => ⟨true, bl_yes e2.ne, iteF ⟨_, _, _, rfl, s2.trans s3⟩⟩⟩⟩
    · obtain ⟨y3, y4, y5, rfl, s1⟩ := hW
      exact ⟨_, rfl, m, 0, 2, rfl, m0, m2, q _ s1⟩
end
end SrT
set_option Elab.async false
set_option linter.all false
set_option maxRecDepth 100000
set_option maxHeartbeats 4000000
set_option pp.maxSteps 1500
/-! orders_behind. -/
namespace SrT
open PySem PySem.Spec PyProof.Rows L2 SrR SlX
/-- the reading of a dict comprehension over a walk -/
theorem dcT_it {J : It} {n : Nat} {G : Hp → Prop} {Y : Nat → Hp → V → Hp → Prop} (w : Walk J n G Y) {g : TG} {tk tv : TE} {vs : List Nat} {σ : L2.St} {H1 : Hp} {D : Addr} {Qd : Hp → Prop} (Pv : Nat → Hp → Prop) (h0 : Pv 0 (upd H1 D (.dT []))) (hG : ∀ i H, i ≤ n → Pv i H → G H)
    (hs : ∀ i x H H', i < n → Pv i H → Y i H x H' → g x (wipe σ vs) H' fun σ2 H2 => wipe σ2 vs = wipe σ vs ∧ tk σ2 H2 fun y H4 => tv σ2 H4 fun z H5 => ∃ b kvs k, y = .ref b ∧ H5 b = some (.tup (k.map kV)) ∧ H5 D = some (.dT kvs) ∧ kvs.length < sizeLine ∧ Pv (i + 1) (upd H5 D (.dT (putK kvs k z)))) (hd : ∀ H, Pv n H → Qd H) :
    ∃ W : Nat → Nat → Hp → Prop, (∃ m, W 0 m (upd H1 D (.dT []))) ∧ ∀ i m H, W i m H → (J.stop i H ∧ Qd H) ∨ (J.go i H ∧ ∃ N : Hp → Prop, (∀ H', N H' → ∃ m', m' < m ∧ W (i + 1) m' H') ∧ ∀ x H', J.yld i H x H' → g x (wipe σ vs) H' fun σ2 H2 => wipe σ2 vs = wipe σ vs ∧
      tk σ2 H2 fun y H4 => tv σ2 H4 fun z H5 => ∃ b kvs k, y = .ref b ∧ H5 b = some (.tup (k.map kV)) ∧ H5 D = some (.dT kvs) ∧ kvs.length < sizeLine ∧ N (upd H5 D (.dT (putK kvs k z)))) := by
  refine ⟨fun i m H => i + m = n ∧ Pv i H, ⟨n, Nat.zero_add n, h0⟩, fun i m H hW => ?_⟩
  obtain ⟨e, p⟩ := hW
  have gh := hG i H (by omega) p
  by_cases hi : i < n
  · exact .inr ⟨w.goes i H hi gh, Pv (i + 1), fun H' p' => ⟨m - 1, by omega, by omega, p'⟩, fun x H' y => hs i x H H' hi p (w.yields i H x H' hi gh y)⟩
  · obtain rfl : i = n := by omega
    exact .inl ⟨w.stops H gh, hd H p⟩

/-! ### orders as they lie in the heap -/
def OrdIn (H : Hp) (p : OrdR) : Prop := H p.1 = some (.tup (p.2.map V.int))
theorem OrdIn.at {K : PySem.W.Frag} {H : Hp} {p : OrdR} (h : OrdIn H p) : OrdAt K H p := .of h
/-- the dict's pairs for the orders ks -/
def DK (ks : List Sr.Ord) : List (List Key × V) := ks.map fun o => (o.map Sum.inl, V.bl true)
theorem DK_len (ks : List Sr.Ord) : (DK ks).length = ks.length := List.length_map _
theorem inl_inj {a b : Sr.Ord} (h : (a.map Sum.inl : List Key) = b.map Sum.inl) : a = b := List.map_inj_right (fun x y e => Sum.inl.inj e) |>.mp h
theorem put_DK (ks : List Sr.Ord) (o : Sr.Ord) : putK (DK ks) (o.map Sum.inl) (.bl true) = DK (Sr.addK ks o) := by
  unfold putK Sr.addK
  by_cases h : o ∈ ks
  · rw [if_pos h, if_pos]
    · unfold DK
      rw [List.map_map]
      refine List.map_congr_left fun a _ => ?_
      show (if a.map Sum.inl = o.map Sum.inl then ((a.map Sum.inl : List Key), V.bl true) else (a.map Sum.inl, V.bl true)) = (a.map Sum.inl, V.bl true)
      split <;> rfl
    · exact List.any_eq_true.mpr ⟨_, List.mem_map.mpr ⟨o, h, rfl⟩, decide_eq_true rfl⟩
  · rw [if_neg h, if_neg]
    · unfold DK
      rw [List.map_append]
      rfl
    · intro z
      obtain ⟨x, hx, e⟩ := List.any_eq_true.mp z
      obtain ⟨a, ha, rfl⟩ := List.mem_map.mp hx
      exact h (inl_inj (of_decide_eq_true e) ▸ ha)
theorem putAll_DK : ∀ (qs : List PrT) (ks l : List Sr.Ord), qs.map (fun q => q.2.2.1) = l.map (fun o => o.map Sum.inl) → (∀ q ∈ qs, q.2.2.2 = V.bl true) → putAll (DK ks) qs = DK (Sr.addAll ks l)
  | [], ks, l, e, _ => by
    cases l with
    | nil => rfl
    | cons _ _ => cases e
  | q :: qs, ks, l, e, h => by
    cases l with
    | nil => cases e
    | cons o l =>
      rw [List.map_cons, List.map_cons] at e
      injection e with e1 e2
      show putAll (putK (DK ks) q.2.2.1 q.2.2.2) qs = DK (Sr.addAll (Sr.addK ks o) l)
      rw [e1, h q List.mem_cons_self, put_DK]
      exact putAll_DK qs _ l e2 fun p hp => h p (List.mem_cons_of_mem _ hp)
theorem kv_map (o : Sr.Ord) : (o.map Sum.inl : List Key).map kV = o.map V.int := by
  rw [List.map_map]
  rfl
theorem PrAt.updL {H : Hp} {q : PrT} {D : Addr} {xs ys : List V} (h : PrAt H q) (hD : H D = some (.lst xs)) : PrAt (upd H D (.lst ys)) q := by
  have n1 : q.1 ≠ D := fun z => by
    have e := h.1
    rw [z, hD] at e
    cases e
  have n2 : q.2.1 ≠ D := fun z => by
    have e := h.2
    rw [z, hD] at e
    cases e
  exact ⟨by rw [upd_ne n1]; exact h.1, by rw [upd_ne n2]; exact h.2⟩
theorem PrAt.same {H H' : Hp} {q : PrT} (s : Same H H') (h : PrAt H q) : PrAt H' q := ⟨s _ _ h.1, s _ _ h.2⟩
theorem ords_of {H : Hp} : ∀ {ks : List Sr.Ord} {bs : List Addr}, IsKeys H (DK ks) bs → ∃ ps : List OrdR, ps.map (·.1) = bs ∧ ps.map (·.2) = ks ∧ ∀ p ∈ ps, OrdIn H p
  | [], _, .nil => ⟨[], rfl, rfl, fun _ h => nomatch h⟩
  | k :: ks, b :: bs, .cons e t => by
    obtain ⟨ps, e1, e2, e3⟩ := ords_of t
    refine ⟨(b, k) :: ps, by rw [List.map_cons, e1], by rw [List.map_cons, e2], fun p hp => ?_⟩
    rcases List.mem_cons.mp hp with rfl | hp
    · have e' : H b = some (.tup ((k.map Sum.inl : List Key).map kV)) := e
      rw [kv_map] at e'
      exact e'
    · exact e3 p hp
theorem range_fold {α : Type} (f : α → Nat → α) (a : α) (j : Nat) : (List.range (j + 1)).foldl f a = f ((List.range j).foldl f a) j := by
  rw [List.range_succ, List.foldl_append]
  rfl
theorem take_fold {α β : Type} (f : α → β → α) (a : α) {l : List β} {i : Nat} {x : β} (h : l[i]? = some x) : (l.take (i + 1)).foldl f a = f ((l.take i).foldl f a) x := by
  rw [List.take_add_one, h, List.foldl_append]
  rfl
section
variable {P : Program} {w : World} {K : PySem.W.Frag} {mg : Str → Option Value} {base : Heap}
theorem scBehind : FnScope ["orders", "order", "found", "place", "left", "goal"] ["orders"] (defScope sBehind) := ⟨rfl, rfl, rfl, by decide +kernel, rfl, by decide +kernel, by decide +kernel⟩
def spBehind (K : PySem.W.Frag) : Sp := fun vs H Q _ => ∃ l ps, vs = [.ref l] ∧ SqL K H l (refO ps) ∧ (∀ p ∈ ps, OrdIn H p ∧ p.2.length ≤ 6) ∧ ps.length ≤ 1000 ∧
  ∀ H' l' ps', Same H H' → SqL K H' l' (refO ps') → (∀ p ∈ ps', OrdIn H' p) → ps'.map (·.2) = Sr.behind (ps.map (·.2)) → Q (.ref l') H'
theorem ok_behind {f : Addr} (D : DefT K mg "orders_behind" sBehind ["orders"] f) (B : Bl mg) : Cal P w K mg base CX0 1 "orders_behind" f ["orders"] (spBehind K) := by
  refine D.cal scBehind (fun vs H Q E h => ?_) (fun cdv A outer s H vs Q E hr h => ?_)
  · obtain ⟨l, ps, rfl, _⟩ := h
    rfl
  · obtain ⟨l, ps, rfl, hl, hp, few, q⟩ := h
    refine ⟨_, pss_cons (ps_setDcT (i := 2) (own := [("order", 1)]) (g := gName 1) hr.units0 rfl scBehind.nd rfl rfl (sw_dict rfl rfl rfl (by decide +kernel)) (pi_list (pv 0)) (blkOk_by (N := ["orders", "order", "found", "place", "left", "goal"]) (sc := defScope sBehind) (by decide +kernel))
        (fun _ _ _ _ _ => pg_name (i := 1) scBehind.nd rfl (Or.inl rfl)) (fun _ _ _ _ _ => pv 1) (fun _ _ _ _ _ => pe_bl))
      (pss_cons (ps_for PassesOwn.never rfl (pi_list (pv 0)) (pg_name (i := 1) scBehind.nd rfl (Or.inr rfl))
        (pss_one (ps_for PassesOwn.never rfl (pi_range1 rfl B.range (pa_cons (pe_callB call_len_seq rfl B.len boot_len (pa_cons (pv 1) pa_nil)) pa_nil)) (pg_name (i := 3) scBehind.nd rfl (Or.inr rfl))
          (pss_cons (ps_set (i := 4) scBehind.nd rfl (.inr rfl) (pe_op op_catS (pe_slice sl_tupS (pv 1) po_none (po_some (pv 3))) (pe_slice sl_tupS (pv 1) (po_some (pe_op op_add (pv 3) pe_int)) po_none)))
          (pss_one (ps_expr (pe_bm PySem.F.plainAttrs_dict PySem.F.slot_dict_update PySem.F.type_dict_update (mt_updT (hu_of hr) rfl) (pv 2) (pa_cons
            (pe_lc (own := [("goal", 5)]) (g := gName 5) (tt := tYes) rfl scBehind.nd (pi_range1 rfl B.range (pa_cons (pe_callB call_len_seq rfl B.len boot_len (pa_cons (pv 1) pa_nil)) pa_nil)) (blkOk_by (N := ["orders", "order", "found", "place", "left", "goal"]) (sc := defScope sBehind) (by decide +kernel))
              (fun _ _ _ _ _ => pg_name (i := 5) scBehind.nd rfl (Or.inl rfl)) (fun _ _ _ _ _ => pts_nil)
              (fun _ _ _ _ _ => pe_tup (pa_cons (pe_op op_catS (pe_op op_catS (pe_slice sl_tupS (pv 4) po_none (po_some (pv 5))) (pe_slice sl_tupS (pv 1) (po_some (pv 3)) (po_some (pe_op op_add (pv 3) pe_int)))) (pe_slice sl_tupS (pv 4) (po_some (pv 5)) po_none)) (pa_cons pe_bl pa_nil)))) pa_nil))))))))
      (pss_one (ps_ret (pe_callTy (call_list_dT rfl) rfl B.list PyProof.Rows.boot_list (pa_cons (pv 2) pa_nil))))), ?_⟩
    have two : (2 : Nat) ≤ sizeLine := Nat.le_of_lt (small_line (by decide))
    have os6 : ∀ o ∈ ps.map (·.2), o.length ≤ 6 := fun o ho => by
      obtain ⟨p, hp1, rfl⟩ := List.mem_map.mp ho
      exact (hp p hp1).2
    have lenO : (ps.map (·.2)).length = ps.length := List.length_map _
    refine ⟨_, rfl, l, rfl, ⟨_, hl⟩, fun fd nfd => dcT_it (walk_list (xs := refO ps)) (fun i H1 => Same H H1 ∧ H1 fd = some (.dT (DK (((ps.map (·.2)).take i).foldl Sr.addK [])))) ⟨same_new nfd, upd_same⟩ (fun i H1 _ a => a.1.seq hl) (fun i x H1 H2 hi a y => ?_) fun H1 a => ?_⟩
    · obtain ⟨rfl, hx⟩ := y
      obtain ⟨s1, hf⟩ := a
      rw [List.getElem?_map] at hx
      obtain ⟨p, hp1, rfl⟩ := Option.map_eq_some_iff.mp hx
      have ho : H2 p.1 = some (.tup (p.2.map V.int)) := s1 _ _ (hp p (List.mem_of_getElem? hp1)).1
      have hpo : (ps.map (·.2))[i]? = some p.2 := by
        rw [List.getElem?_map, hp1]
        rfl
      refine ⟨rfl, _, rfl, p.1, _, p.2.map Sum.inl, rfl, by rw [kv_map]; exact ho, hf, ?_, same_upd2 nfd s1, ?_⟩
      · rw [DK_len]
        have h1 := Sr.len_addAll ((ps.map (·.2)).take i) []
        have h2 : ((ps.map (·.2)).take i).length ≤ ps.length := by
          rw [List.length_take, lenO]
          exact Nat.min_le_right _ _
        rw [List.length_nil] at h1
        exact small_line (by
          show (Sr.addAll [] _).length ≤ _
          omega)
      · rw [put_DK, take_fold Sr.addK [] hpo]
        exact upd_same
    · obtain ⟨s1, hf⟩ := a
      have eT : (ps.map (·.2)).take (refO ps).length = ps.map (·.2) := List.take_of_length_le (by rw [lenO, List.length_map]; omega)
      rw [eT] at hf
      replace hf : H1 fd = some (.dT (DK (Sr.addAll [] (ps.map (·.2))))) := hf
      have nd0 : (Sr.addAll [] (ps.map (·.2))).Nodup := Sr.nd_addAll List.nodup_nil
      have l0 := Sr.len_addAll (ps.map (·.2)) []
      rw [List.length_nil, lenO] at l0
      refine ⟨_, rfl, l, rfl, ⟨_, s1.seq hl⟩, for_it (walk_list (xs := refO ps)) (fun i σ H1 => ∃ y1 y3 y4 y5, σ = [some (.ref l), y1, some (.ref fd), y3, y4, y5] ∧ Same H H1 ∧ H1 fd = some (.dT (DK (((ps.map (·.2)).take i).foldl Sr.addMoves (Sr.addAll [] (ps.map (·.2)))))))
        ⟨_, _, _, _, rfl, s1, hf⟩ (fun i σ H1 _ hW => ?_) (fun i x σ H1 H2 hi hW y => ?_) (fun σ H1 hW => ?_)⟩
      · obtain ⟨_, _, _, _, _, s2, _⟩ := hW
        exact s2.seq hl
      · obtain ⟨y1, y3, y4, y5, rfl, s2, hf2⟩ := hW
        obtain ⟨rfl, hx⟩ := y
        rw [List.getElem?_map] at hx
        obtain ⟨p, hp1, rfl⟩ := Option.map_eq_some_iff.mp hx
        have hpo : (ps.map (·.2))[i]? = some p.2 := by
          rw [List.getElem?_map, hp1]
          rfl
        obtain ⟨ho, hl6⟩ := hp p (List.mem_of_getElem? hp1)
        obtain ⟨nd1, _, l1⟩ := Sr.fold_moves ((ps.map (·.2)).take i) _ nd0
        have l1 := l1 6 fun o ho => os6 o (List.mem_of_mem_take ho)
        have lt : ((ps.map (·.2)).take i).length ≤ ps.length := by
          rw [List.length_take, lenO]
          exact Nat.min_le_right _ _
        have nxt := take_fold Sr.addMoves (Sr.addAll [] (ps.map (·.2))) hpo
        generalize ((ps.map (·.2)).take i).foldl Sr.addMoves (Sr.addAll [] (ps.map (·.2))) = ks at hf2 nd1 l1 nxt
        have lks : ks.length ≤ 40000 := by
          have : ((ps.map (·.2)).take i).length * (6 * 6) ≤ ps.length * 36 := Nat.mul_le_mul_right _ lt
          omega
        have lenP : (p.2.map V.int).length = p.2.length := List.length_map _
        refine ⟨_, rfl, p.1, _, rfl, .inr (.of (s2 _ _ ho)), _, rfl, by omega, by omega, ?_⟩
        have eN : (((p.2.map V.int).length : Nat) : Int).toNat = p.2.length := by omega
        rw [eN]
        refine for_it (walk_range (lo := 0) (n := p.2.length)) (fun j σ H1 => ∃ y3 y4 y5, σ = [some (.ref l), some (.ref p.1), some (.ref fd), y3, y4, y5] ∧ Same H H1 ∧ H1 fd = some (.dT (DK ((List.range j).foldl (Sr.addAt p.2) ks))))
          ⟨_, _, _, rfl, s2, hf2⟩ (fun _ _ _ _ _ => trivial) (fun j x σ H3 H4 hj hW y => ?_) (fun σ H3 hW => ?_)
        · obtain ⟨y3, y4, y5, rfl, s3, hf3⟩ := hW
          obtain ⟨rfl, hx⟩ := y
          obtain rfl : x = V.int (j : Nat) := hx.trans (congrArg V.int (Int.zero_add _))
          obtain ⟨nd2, _, l2⟩ := Sr.fold_at p.2 (List.range j) ks nd1
          have nxt2 := range_fold (Sr.addAt p.2) ks j
          rw [List.length_range] at l2
          generalize (List.range j).foldl (Sr.addAt p.2) ks = kj at hf3 nd2 l2 nxt2
          have lkj : kj.length ≤ 50000 := by
            have : j * p.2.length ≤ 6 * 6 := Nat.mul_le_mul (by omega) hl6
            omega
          -- left
          refine ⟨_, rfl, _, rfl, (j : Int), rfl, p.1, _, rfl, s3 _ _ ho, fun a1 G1 t1 k1 => ?_⟩
          have s4 := s3.trans t1
          refine ⟨_, rfl, _, rfl, _, _, rfl, rfl, (j : Int) + 1, rfl, p.1, _, rfl, s4 _ _ ho, fun a2 G2 t2 k2 => ?_⟩
          have s5 := s4.trans t2
          have c1 : cutV (p.2.map V.int) none (some (j : Int)) = (p.2.take j).map V.int := by rw [cut_to, List.map_take]
          have c2 : cutV (p.2.map V.int) (some ((j : Int) + 1)) none = (p.2.drop (j + 1)).map V.int := by rw [List.map_drop]; exact cut_from _ (j + 1)
          rw [c1] at k1
          rw [c2] at k2
          refine ⟨a1, a2, _, _, rfl, rfl, t2 _ _ k1, k2, Nat.le_of_lt (small_line (by rw [List.length_map, List.length_map, List.length_take, List.length_drop]; omega)), fun a3 G3 t3 k3 => ?_⟩
          have s6 := s5.trans t3
          rw [← List.map_append] at k3
          replace k3 : G3 a3 = some (.tup ((Sr.cutO p.2 j).map V.int)) := k3
          have hf6 : G3 fd = some (.dT (DK kj)) := t3 _ _ (t2 _ _ (t1 _ _ hf3))
          have lenC := Sr.cutO_len hj
          -- found.update([..])
          refine ⟨_, rfl, .inr (.inr (.inl ⟨rfl, .inr ⟨_, hf6⟩⟩)), ?_⟩
          refine ⟨_, rfl, p.1, _, rfl, .inr (.of (s6 _ _ ho)), _, rfl, by omega, by omega, fun D0 nD0 => ?_⟩
          rw [eN]
          refine lc_it (walk_range (lo := 0) (n := p.2.length)) (fun g H' => ∃ qs : List PrT, Acc G3 D0 (qs.map fun q => V.ref q.1) H' ∧ (∀ q ∈ qs, PrAt H' q ∧ q.2.2.2 = .bl true) ∧ qs.map (fun q => q.2.2.1) = ((List.range g).map (Sr.putO p.2 j)).map fun o => o.map Sum.inl)
            ⟨[], Acc.start nD0, (fun _ h => nomatch h), rfl⟩ (fun _ _ _ _ => trivial) (fun g x H5 H6 hg hW y => ?_) (fun H5 hW => ?_)
          · obtain ⟨qs, a, hq, eq⟩ := hW
            obtain ⟨rfl, hx⟩ := y
            obtain rfl : x = V.int (g : Nat) := hx.trans (congrArg V.int (Int.zero_add _))
            have s7 := s6.trans a.2.1
            have k7 := a.2.1 _ _ k3
            have lq : qs.length = g := by
              have z := congrArg List.length eq
              simpa using z
            refine ⟨rfl, ?_⟩
            refine ⟨_, rfl, _, rfl, (g : Int), rfl, a3, _, rfl, k7, fun b1 G4 t4 m1 => ?_⟩
            refine ⟨_, rfl, _, rfl, (j : Int), rfl, _, rfl, _, _, rfl, rfl, (j : Int) + 1, rfl, p.1, _, rfl, t4 _ _ (s7 _ _ ho), fun b2 G5 t5 m2 => ?_⟩
            have d1 : cutV ((Sr.cutO p.2 j).map V.int) none (some (g : Int)) = ((Sr.cutO p.2 j).take g).map V.int := by rw [cut_to, List.map_take]
            have d2 : cutV (p.2.map V.int) (some (j : Int)) (some ((j : Int) + 1)) = ((p.2.drop j).take 1).map V.int := by rw [cut_one, List.map_take, List.map_drop]
            rw [d1] at m1
            rw [d2] at m2
            refine ⟨b1, b2, _, _, rfl, rfl, t5 _ _ m1, m2, Nat.le_of_lt (small_line (by simp only [List.length_map, List.length_take, List.length_drop]; omega)), fun b3 G6 t6 m3 => ?_⟩
            have u6 := (t4.trans t5).trans t6
            refine ⟨_, rfl, _, rfl, (g : Int), rfl, a3, _, rfl, u6 _ _ k7, fun b4 G7 t7 m4 => ?_⟩
            have d4 : cutV ((Sr.cutO p.2 j).map V.int) (some (g : Int)) none = ((Sr.cutO p.2 j).drop g).map V.int := by rw [cut_from, List.map_drop]
            rw [d4] at m4
            refine ⟨b3, b4, _, _, rfl, rfl, t7 _ _ m3, m4, Nat.le_of_lt (small_line (by simp only [List.length_append, List.length_map, List.length_take, List.length_drop]; omega)), fun b5 G8 t8 m5 => ?_⟩
            rw [← List.map_append, ← List.map_append] at m5
            replace m5 : G8 b5 = some (.tup ((Sr.putO p.2 j g).map V.int)) := m5
            refine ⟨two, fun T nT => ?_⟩
            have u8 := (u6.trans t7).trans t8
            have u9 := u8.trans (same_new (o := .tup [.ref b5, .bl true]) nT)
            have hb5 : (upd G8 T (.tup [.ref b5, .bl true])) b5 = some (.tup ((Sr.putO p.2 j g).map V.int)) := by
              rw [upd_ne (ne_of_none m5 nT)]
              exact m5
            have hD9 := u9 _ _ a.2.2
            refine ⟨_, hD9, small_line (by rw [List.length_map]; omega), qs ++ [(T, b5, (Sr.putO p.2 j g).map Sum.inl, .bl true)], ⟨a.1, same_upd2 a.1 (a.2.1.trans u9), ?_⟩, fun q hq2 => ?_, ?_⟩
            · rw [upd_same, List.map_append]
              rfl
            · rcases List.mem_append.mp hq2 with hq2 | hq2
              · exact ⟨PrAt.updL (PrAt.same u9 (hq q hq2).1) hD9, (hq q hq2).2⟩
              · rw [List.mem_singleton.mp hq2]
                exact ⟨PrAt.updL ⟨upd_same, by
                  show _ = some (HO.tup (((Sr.putO p.2 j g).map Sum.inl : List Key).map kV))
                  rw [kv_map]
                  exact hb5⟩ hD9, rfl⟩
            · rw [List.map_append, eq, List.range_succ, List.map_append, List.map_append]
              rfl
          · obtain ⟨qs, a, hq, eq⟩ := hW
            have s7 := s6.trans a.2.1
            have lq : qs.length = p.2.length := by
              have z := congrArg List.length eq
              simpa using z
            refine ⟨fd, D0, DK kj, qs, rfl, rfl, a.2.1 _ _ hf6, a.seq, fun q hq2 => (hq q hq2).1, Nat.le_of_lt (small_line (by rw [DK_len]; omega)), ?_⟩
            refine ⟨_, _, _, rfl, same_upd2 nfd s7, ?_⟩
            rw [nxt2, putAll_DK qs kj _ eq fun q hq2 => (hq q hq2).2]
            exact upd_same
        · obtain ⟨y3, y4, y5, rfl, s3, hf3⟩ := hW
          refine ⟨_, _, _, _, rfl, s3, ?_⟩
          rw [nxt]
          exact hf3
      · obtain ⟨y1, y3, y4, y5, rfl, s2, hf2⟩ := hW
        have eT : (ps.map (·.2)).take (refO ps).length = ps.map (·.2) := List.take_of_length_le (by rw [lenO, List.length_map]; omega)
        rw [eT] at hf2
        refine ⟨_, rfl, fd, _, rfl, .inl hf2, fun l' bs nl hk => ?_⟩
        obtain ⟨ps', e1, e2, e3⟩ := ords_of hk
        have s3 := same_new (o := .lst (bs.map V.ref)) nl
        refine q _ l' ps' (s2.trans s3) (.inl (.inl ?_)) (fun p hp => s3 _ _ (e3 p hp)) e2
        rw [upd_same, ← e1, List.map_map]
        rfl
end
end SrT
set_option Elab.async false
set_option linter.all false
set_option maxRecDepth 100000
set_option maxHeartbeats 4000000
set_option pp.maxSteps 1500
/-! fits; all_orders; possible_orders. -/
namespace SrT
open PySem PySem.Spec PyProof.Rows L2 SrR SlX
/-! the same rules, the written part told by its name (within a comprehension) -/
def rLenQ (K : PySem.W.Frag) : List V → Hp → VK → Prop := fun xs H Q => ∃ p ys, xs = [.ref p] ∧ (SqL K H p ys ∨ SqT K H p ys) ∧ Q (.int ys.length) H
theorem call_lenQ {X : Cx} (K : PySem.W.Frag) (h : X.K = K := by rfl) : CallR X (.builtin "len") (rLenQ K) := by
  subst h
  exact call_len_seq
theorem ix_tupQ {X : Cx} (K : PySem.W.Frag) (h : X.K = K := by rfl) : IxR X (rIxT K) := by
  subst h
  exact ix_tup
theorem cr_allQ {X : Cx} (K : PySem.W.Frag) (hc : X.calm = true) (h : X.K = K := by rfl) : CallR X (.builtin "all") (rAll K) := by
  subst h
  exact cr_all hc
section
variable {P : Program} {w : World} {K : PySem.W.Frag} {mg : Str → Option Value} {base : Heap} {R : Addr} {CC fI pF pH gH T0 CD dI pR pC gC gL gG gK : Addr}
/-- Drawer(tuple(list of cards)): what the list's place asks -/
theorem draw_read {H1 : Hp} {D : Addr} {ps : List KeyR} {Q : Addr → Hp → Prop} (hl : SqL K H1 D (refK ps)) (few : ps.length ≤ 16) (hc : ∀ p ∈ ps, CardAt CC H1 p) (q : ∀ H' d', Same H1 H' → DrawAt K CC CD H' d' ps → Q d' H') :
    ∃ p ys, [V.ref D] = [V.ref p] ∧ ((SqL K H1 p ys ∧ ∀ l, H1 l = none → ∀ x dx, (upd H1 l (.tup ys)) x = none → (upd H1 l (.tup ys)) dx = none → dx ≠ x →
      spDInit K CD (.ref x :: ([.ref l] ++ [])) (upd (upd (upd H1 l (.tup ys)) dx (.own x)) x (.ins CD dx [])) (fun v H2 => v = .non ∧ Q x H2) E0) ∨
      (SqT K H1 p ys ∧ ∀ x dx, H1 x = none → H1 dx = none → dx ≠ x → spDInit K CD (.ref x :: ([.ref p] ++ [])) (upd (upd H1 dx (.own x)) x (.ins CD dx [])) (fun v H2 => v = .non ∧ Q x H2) E0)) := by
  refine ⟨D, refK ps, rfl, .inl ⟨hl, fun p np x dx nx nd ne => ?_⟩⟩
  have s1 : Same H1 (upd H1 p (.tup (refK ps))) := same_new np
  have px : p ≠ x := fun z => by
    rw [z, upd_same] at nx
    cases nx
  have pd : p ≠ dx := fun z => by
    rw [z, upd_same] at nd
    cases nd
  have k0 : Same (upd H1 p (.tup (refK ps))) (upd (upd (upd H1 p (.tup (refK ps))) dx (.own x)) x (.ins CD dx [])) := (same_new nd).trans (same_new (by rw [upd_ne ne.symm]; exact nx))
  refine ⟨x, dx, p, _, rfl, .inl ⟨upd_same, rfl⟩, ne, sameT k0 (.of upd_same), by rw [List.length_map]; exact few, fun H' kp sl => ⟨rfl, ?_⟩⟩
  have s3 := s1.trans (made_same nx nd kp)
  refine q H' x s3 ⟨⟨dx, p, sl, .of (kp _ _ px pd ?_)⟩, fun c hm => (hc c hm).same s3⟩
  rw [upd_ne px, upd_ne pd, upd_same]
theorem scFits : FnScope ["base", "order", "rule", "tally", "drawer", "place", "heading", "count"] ["base", "order", "rule", "tally"] (defScope sFits) := ⟨rfl, rfl, rfl, by decide +kernel, rfl, by decide +kernel, by decide +kernel⟩
def spFits (K : PySem.W.Frag) (CC CD : Addr) : Sp := fun vs H Q _ => ∃ d ps, ∃ (o : OrdR) (r : Str) (ta : Addr) (ts : List TlyR), vs = [.ref d, .ref o.1, .str r, .ref ta] ∧ DrawAt K CC CD H d ps ∧ ps.length ≤ 6 ∧ OrdIn H o ∧ Sr.Good ps.length o.2 ∧ RuleOk r ∧ Tally K H ta ts ∧
  ∀ H', Same H H' → Q (.bl (Sr.fit r (hsOf ps) (tlyOf ts) o.2)) H'
abbrev arrK (ps : List KeyR) (o : Sr.Ord) : List KeyR := o.map fun k => ps.getD k.toNat (0, Str.empty)
theorem hs_arr (ps : List KeyR) (o : Sr.Ord) : hsOf (arrK ps o) = Sr.arr (hsOf ps) o := by
  unfold Sr.arr hsOf arrK
  rw [List.map_map]
  refine List.map_congr_left fun k _ => ?_
  show (ps.getD k.toNat (0, Str.empty)).2 = (ps.map (·.2)).getD k.toNat Str.empty
  simp only [List.getD_eq_getElem?_getD, List.getElem?_map]
  cases ps[k.toNat]? <;> rfl
theorem ok_fits {f fN fL : Addr} (D : DefT K mg "fits" sFits ["base", "order", "rule", "tally"] f) (TC : CardT K mg CC fI pF pH gH T0) (TD : DrawT K mg CD dI pR pC gC gL gG gK) (B : Bl mg) (C : Co K mg R) (N : Cal P w K mg base CX0 1 "is_number" fN ["value", "smallest", "largest"] spNum)
    (LK : Cal P w K mg base CX0 4 "looked_up" fL ["drawer", "rule", "heading"] (spLooked K CC CD)) : Cal P w K mg base CX0 5 "fits" f ["base", "order", "rule", "tally"] (spFits K CC CD) := by
  obtain ⟨fdI, FI, bI⟩ := ok_dInit (P := P) (w := w) (base := base) TD B C
  refine D.cal scFits (fun vs H Q E h => ?_) (fun cdv A outer s H vs Q E hr h => ?_)
  · obtain ⟨d, ps, o, r, ta, ts, rfl, _⟩ := h
    rfl
  · obtain ⟨d, ps, o, r, ta, ts, rfl, hd, hl, ho, good, ro, ht, q⟩ := h
    refine ⟨_, pss_cons (ps_set (i := 4) scFits.nd rfl (.inr rfl) (pe_make TD.mkr FI (hr.mono (by decide)) rfl TD.g bI .nil pass0 (pa_cons (pe_callTy call_tuple_of rfl B.tuple PyProof.Rows.boot_tuple (pa_cons
        (pe_lc (own := [("place", 5)]) (g := gName 5) (tt := tYes) rfl scFits.nd (pi_tup (pv 1)) (blkOk_by (N := ["base", "order", "rule", "tally", "drawer", "place", "heading", "count"]) (sc := defScope sFits) (by decide +kernel))
          (fun _ _ _ _ _ => pg_name (i := 5) scFits.nd rfl (Or.inl rfl)) (fun _ _ _ _ _ => pts_nil) (fun _ _ _ _ _ => pe_ixSl (E := E0) TD.gS TD.gN TD.gI (ok_dGet TD B N) hr pass0 (pv 0) (pv 5) (fun _ _ => rfl))) pa_nil)) pa_nil)))
      (pss_one (ps_ret (pe_callB (cr_all rfl) rfl B.all PyProof.Rows.boot_all (pa_cons
        (pe_lc (own := [("heading", 6), ("count", 7)]) (g := L2.gTup K 2 (gCons (gName 6) (gCons (gName 7) gNil))) (tt := tYes) rfl scFits.nd (pi_list (pv 3)) (blkOk_by (N := ["base", "order", "rule", "tally", "drawer", "place", "heading", "count"]) (sc := defScope sFits) (by decide +kernel))
          (fun _ _ _ _ _ => pg_tup rfl (pgs_cons (pg_name (i := 6) scFits.nd rfl (Or.inl rfl)) (pgs_cons (pg_name (i := 7) scFits.nd rfl (Or.inl rfl)) pgs_nil))) (fun _ _ _ _ _ => pts_nil)
          (fun _ _ _ _ _ => pe_cmpR op_eq (pe_callB (call_lenQ K) rfl B.len boot_len (pa_cons (pe_ix (ix_tupQ K) (pe_cl LK hr (pa_cons (pv 4) (pa_cons (pv 2) (pa_cons (pv 6) pa_nil)))) pe_int (fun _ _ => rfl)) pa_nil)) (pv 7) (nomark _))) pa_nil)))), ?_⟩
    obtain ⟨⟨dx, t, h1, h2⟩, h3⟩ := id hd
    have inPs : ∀ k ∈ o.2, ∃ m : Nat, k = m ∧ ∃ hm : m < ps.length, ps.getD k.toNat (0, Str.empty) = ps[m] := fun k hk => by
      obtain ⟨k0, k1⟩ := good.ge k hk
      refine ⟨k.toNat, by omega, by omega, ?_⟩
      simp [List.getD_eq_getElem?_getD, show k.toNat < ps.length by omega]
    have lenA : (refK (arrK ps o.2)).length = o.2.length := by rw [List.length_map, List.length_map]
    have lenI : (o.2.map V.int).length = o.2.length := List.length_map _
    refine ⟨_, rfl, o.1, rfl, ⟨_, .of ho⟩, fun D0 nD0 => lc_it (walk_tup (xs := o.2.map V.int)) (fun i H1 => Acc H D0 ((refK (arrK ps o.2)).take i) H1) (Acc.start nD0) (fun i H1 _ a => sameT a.2.1 (.of ho)) (fun i x H1 H2 hi a y => ?_) fun H1 a => ?_⟩
    · obtain ⟨rfl, hx⟩ := y
      rw [List.getElem?_map] at hx
      obtain ⟨k, hk, rfl⟩ := Option.map_eq_some_iff.mp hx
      obtain ⟨m, rfl, hm, em⟩ := inPs k (List.mem_of_getElem? hk)
      have s1 := a.2.1
      have g : (refK ps)[m]? = some (.ref (ps[m]).1) := by
        rw [List.getElem?_map, List.getElem?_eq_getElem hm]
        rfl
      have g2 : (refK (arrK ps o.2))[i]? = some (.ref (ps[m]).1) := by
        rw [List.getElem?_map, List.getElem?_map, hk]
        show some (V.ref (ps.getD ((m : Int)).toNat (0, Str.empty)).1) = _
        rw [em]
      refine ⟨rfl, _, rfl, _, rfl, d, dx, _, rfl, slt_ext (LamX.ExtN.of s1) h1, d, dx, t, _, _, m, rfl, slt_ext (LamX.ExtN.of s1) h1, sameT s1 h2, g, a.pushV (Same.refl _) (small_line ?_) rfl (take_next g2)⟩
      rw [List.length_take, lenA]
      have := good.len
      omega
    · rw [lenI, ← lenA, List.take_length] at a
      have hc : ∀ p ∈ arrK ps o.2, CardAt CC H1 p := fun p hp => by
        obtain ⟨k, hk, rfl⟩ := List.mem_map.mp hp
        obtain ⟨m, rfl, hm, em⟩ := inPs k hk
        rw [em]
        exact (h3 _ (List.getElem_mem hm)).same a.2.1
      have few : (arrK ps o.2).length ≤ 16 := by
        rw [List.length_map, good.len]
        omega
      refine draw_read a.seq few hc fun H2 d2 s2 hd2 => ?_
      have s12 := a.2.1.trans s2
      have ht2 := ht.same s12
      have lenT : (ts.map fun q => V.ref q.1).length = ts.length := List.length_map _
      refine ⟨_, rfl, ta, rfl, ⟨_, ht2.1⟩, fun D1 nD1 => ?_⟩
      refine lc_it (walk_list (xs := ts.map fun q : TlyR => V.ref q.1)) (fun i H3 => Acc H2 D1 (((tlyOf ts).map fun t => V.bl (decide ((Sr.looksOf r (Sr.arr (hsOf ps) o.2) t.1 : Int) = t.2))).take i) H3) (Acc.start nD1) (fun i H3 _ a => (a.2.1.seq ht2.1)) (fun i x H3 H4 hi b y => ?_) fun H3 b => ?_
      · obtain ⟨rfl, hx⟩ := y
        rw [List.getElem?_map] at hx
        obtain ⟨z, hz, rfl⟩ := Option.map_eq_some_iff.mp hx
        obtain ⟨e1, e2⟩ := ht2.2.1 z (List.mem_of_getElem? hz)
        refine ⟨z.1, _, rfl, .of (b.2.1 _ _ e1), rfl, _, _, rfl, _, _, rfl, rfl, rfl, ?_⟩
        refine ⟨_, rfl, _, rfl, _, rfl, d2, _, r, z.2.1, rfl, hd2.same b.2.1, few, ro, fun H5 l lk => ?_⟩
        obtain ⟨s5, v, t5, L, k1, k2, k3⟩ := lk
        refine ⟨l, _, 1, _, rfl, rfl, .of k1, atI_nat (j := 1) rfl, t5, L, rfl, .inr k2, _, rfl, rfl, ?_⟩
        have g2 : ((tlyOf ts).map fun t => V.bl (decide ((Sr.looksOf r (Sr.arr (hsOf ps) o.2) t.1 : Int) = t.2)))[i]? = some (.bl (decide ((Sr.looksOf r (Sr.arr (hsOf ps) o.2) z.2.1 : Int) = z.2.2))) := by
          rw [List.getElem?_map, List.getElem?_map, hz]
          rfl
        refine b.pushV s5 (small_line ?_) ?_ (take_next g2)
        · rw [List.length_take]
          have := ht.2.2
          have : ((tlyOf ts).map fun t => V.bl (decide ((Sr.looksOf r (Sr.arr (hsOf ps) o.2) t.1 : Int) = t.2))).length = ts.length := by rw [List.length_map, List.length_map]
          omega
        · rw [← hs_arr, k3]
          exact congrArg V.bl (decide_eq_decide.mpr ⟨fun e => V.int.inj e, fun e => congrArg V.int e⟩)
      · have full : ((tlyOf ts).map fun t => V.bl (decide ((Sr.looksOf r (Sr.arr (hsOf ps) o.2) t.1 : Int) = t.2))).take (ts.map fun q => V.ref q.1).length = ((tlyOf ts).map fun t => decide ((Sr.looksOf r (Sr.arr (hsOf ps) o.2) t.1 : Int) = t.2)).map V.bl := by
          rw [List.take_of_length_le (by rw [List.length_map, List.length_map, lenT]; omega)]
          simp only [List.map_map]
          rfl
        rw [full] at b
        refine ⟨D1, _, rfl, b.seq, ?_⟩
        have e : ((tlyOf ts).map fun t => decide ((Sr.looksOf r (Sr.arr (hsOf ps) o.2) t.1 : Int) = t.2)).all id = Sr.fit r (hsOf ps) (tlyOf ts) o.2 := by
          rw [List.all_map]
          rfl
        rw [e]
        exact q _ (s12.trans b.2.1)
end
end SrT
set_option Elab.async false
set_option linter.all false
set_option maxRecDepth 100000
set_option maxHeartbeats 4000000
set_option pp.maxSteps 1500
/-! all_orders; possible_orders. -/
namespace SrT
open PySem PySem.Spec PyProof.Rows L2 SrR SlX
theorem rg_id (n : Nat) : rgV 0 (n : Int) = (Sr.idO n).map V.int := by
  unfold rgV Sr.idO
  rw [List.map_map, show ((n : Int) - 0).toNat = n by omega]
  refine List.map_congr_left fun i _ => ?_
  show V.int (0 + (i : Nat)) = V.int (i : Nat)
  rw [Int.zero_add]
theorem few_or {n : Nat} {os : List Sr.Ord} (h : ∀ o ∈ os, Sr.Good n o) (nd : os.Nodup) : os.length ≤ 1 ∨ ∀ o ∈ os, o ≠ [] := by
  cases n with
  | zero =>
    refine .inl ?_
    match os, h, nd with
    | [], _, _ => exact Nat.zero_le _
    | [_], _, _ => exact Nat.le_refl _
    | a :: b :: r, h, nd =>
      have ha := List.eq_nil_of_length_eq_zero (h a (by simp)).len
      have hb := List.eq_nil_of_length_eq_zero (h b (by simp)).len
      have := (List.nodup_cons.mp nd).1
      exact absurd (by rw [ha, hb]; simp) this
  | succ n =>
    refine .inr fun o ho e => ?_
    have := (h o ho).len
    rw [e] at this
    cases this
theorem OrdIn.ext {H H' : Hp} {p : OrdR} (e : LamX.ExtN H H') (h : OrdIn H p) : OrdIn H' p := e _ _ h fun _ z => nomatch z
theorem OrdIn.same {H H' : Hp} {p : OrdR} (e : Same H H') (h : OrdIn H p) : OrdIn H' p := e _ _ h
section
variable {P : Program} {w : World} {K : PySem.W.Frag} {mg : Str → Option Value} {base : Heap} {R : Addr} {CC fI pF pH gH T0 CD dI pR pC gC gL gG gK : Addr}
theorem scAllO : FnScope ["drawer", "rule", "tally", "most", "base", "orders", "turn", "order"] ["drawer", "rule", "tally", "most"] (defScope sAllO) := ⟨rfl, rfl, rfl, by decide +kernel, rfl, by decide +kernel, by decide +kernel⟩
def spAllO (K : PySem.W.Frag) (CC CD : Addr) (T : List (Addr × Str)) : Sp := fun vs H Q _ => ∃ d ps, ∃ (r : Str) (ta : Addr) (ts : List TlyR) (m : Nat), vs = [.ref d, .str r, .ref ta, .int m] ∧ DrawAt K CC CD H d ps ∧ ps.length ≤ 6 ∧ RuleOk r ∧ Tally K H ta ts ∧ m ≤ 2 ∧ LamX.Tabs T H ∧
  ∀ H' l os, LamX.ExtN H H' → LamX.Tabs T H' → H' l = some (.lst (refO os)) → (∀ p ∈ os, OrdIn H' p) → os.map (·.2) = Sr.poss r (hsOf (ps.mergeSort leK)) (tlyOf ts) m → Q (.ref l) H'
theorem ok_allO {f fF fB fT : Addr} {T : List (Addr × Str)} (D : DefT K mg "all_orders" sAllO ["drawer", "rule", "tally", "most"] f) (TD : DrawT K mg CD dI pR pC gC gL gG gK) (B : Bl mg)
    (FD : Cal P w K mg base CX0 6 "filed" fF ["drawer"] (spFiled K CC CD T)) (OB : Cal P w K mg base CX0 1 "orders_behind" fB ["orders"] (spBehind K)) (FT : Cal P w K mg base CX0 5 "fits" fT ["base", "order", "rule", "tally"] (spFits K CC CD)) :
    Cal P w K mg base CX0 7 "all_orders" f ["drawer", "rule", "tally", "most"] (spAllO K CC CD T) := by
  refine D.cal scAllO (fun vs H Q E h => ?_) (fun cdv A outer s H vs Q E hr h => ?_)
  · obtain ⟨d, ps, r, ta, ts, m, rfl, _⟩ := h
    rfl
  · obtain ⟨d, ps, r, ta, ts, m, rfl, hd, hl, ro, ht, m2, hT, q⟩ := h
    refine ⟨_, pss_cons (ps_set (i := 4) scAllO.nd rfl (.inr rfl) (pe_cl FD hr (pa_cons (pv 0) pa_nil)))
      (pss_cons (ps_set (i := 5) scAllO.nd rfl (.inl rfl) (pe_lst (pa_cons (pe_tupRg rfl rfl B.tuple (prg_1 rfl B.range (pe_callB (call_lenSl (E := E0) TD.lS TD.lI (ok_dLen TD B) (hr.mono (by decide)) pass0) rfl B.len boot_len (pa_cons (pv 4) pa_nil)))) pa_nil)))
      (pss_cons (ps_for PassesOwn.never rfl (pi_range1 rfl B.range (pa_cons (pv 3) pa_nil)) (pg_name (i := 6) scAllO.nd rfl (Or.inl rfl)) (pss_one (ps_set (i := 5) scAllO.nd rfl (.inl rfl) (pe_cl OB (hr.mono (by decide)) (pa_cons (pv 5) pa_nil)))))
      (pss_one (ps_ret (pe_callB (cr_sortO hr.units) rfl B.sorted PyProof.Rows.boot_sorted (pa_cons
        (pe_lc (own := [("order", 7)]) (g := gName 7) rfl scAllO.nd (pi_list (pv 5)) (blkOk_by (N := ["drawer", "rule", "tally", "most", "base", "orders", "turn", "order"]) (sc := defScope sAllO) (by decide +kernel))
          (fun _ _ _ _ _ => pg_name (i := 7) scAllO.nd rfl (Or.inl rfl)) (fun _ _ _ _ _ => pts_one (pt_val (pe_cl FT (hr.mono (by decide)) (pa_cons (pv 4) (pa_cons (pv 7) (pa_cons (pv 1) (pa_cons (pv 2) pa_nil))))))) (fun _ _ _ _ _ => pv 7)) pa_nil)))))), ?_⟩
    generalize hpf : ps.mergeSort leK = pf at q
    have lpf : pf.length = ps.length := by rw [← hpf, List.length_mergeSort]
    have lhs : (hsOf pf).length = ps.length := by rw [List.length_map, lpf]
    -- base, orders
    refine ⟨_, rfl, d, ps, rfl, hd, by omega, hT, fun H1 b1 e1 T1 hb1 => ?_⟩
    rw [hpf] at hb1
    obtain ⟨⟨dx, t, h1, h2⟩, h3⟩ := id hb1
    have lK : (refK pf).length = ps.length := by rw [List.length_map, lpf]
    refine ⟨_, rfl, b1, dx, _, rfl, h1, b1, dx, t, _, rfl, h1, h2, _, rfl, by omega, by omega, _, rfl, ?_⟩
    rw [lK]
    refine ⟨RgOk.of_le (by omega) (by omega) (by omega) (by omega), fun z nz => ⟨Nat.le_of_lt (small_line (by show 1 ≤ _; decide)), fun l nl => ?_⟩⟩
    rw [rg_id] at *
    have s1 : Same H1 (upd H1 z (.tup ((Sr.idO ps.length).map V.int))) := same_new nz
    have s2 := s1.trans (same_new (o := .lst [.ref z]) nl)
    have hz : OrdIn (upd (upd H1 z (.tup ((Sr.idO ps.length).map V.int))) l (.lst [.ref z])) (z, Sr.idO ps.length) := by
      have e : (upd H1 z (.tup ((Sr.idO ps.length).map V.int))) z = some (.tup ((Sr.idO ps.length).map V.int)) := upd_same
      show upd _ l _ z = _
      rw [upd_ne (ne_of_none e nl), upd_same]
    -- the turns
    refine ⟨_, rfl, m, rfl, by omega, by omega, ?_⟩
    rw [show ((m : Nat) : Int).toNat = m from Int.toNat_natCast m]
    refine for_it (walk_range (lo := 0) (n := m)) (fun i σ H2 => ∃ y6 l2 os, σ = [some (.ref d), some (.str r), some (.ref ta), some (.int m), some (.ref b1), some (.ref l2), y6, none] ∧ Same H1 H2 ∧ SqL K H2 l2 (refO os) ∧ (∀ p ∈ os, OrdIn H2 p) ∧ os.map (·.2) = Sr.allO ps.length i)
      ⟨none, l, [(z, Sr.idO ps.length)], rfl, s2, .inl (.inl upd_same), fun p hp => by rw [List.mem_singleton.mp hp]; exact hz, rfl⟩ (fun _ _ _ _ _ => trivial) (fun i x σ H2 H3 hi hW y => ?_) (fun σ H2 hW => ?_)
    · obtain ⟨y6, l2, os, rfl, s3, k1, k2, k3⟩ := hW
      obtain ⟨rfl, hx⟩ := y
      have inA : ∀ p ∈ os, Sr.Good ps.length p.2 := fun p hp => Sr.allO_good ps.length i p.2 (k3 ▸ List.mem_map.mpr ⟨p, hp, rfl⟩)
      have few := Sr.allO_few (n := ps.length) (m := i) hl (by omega)
      rw [← k3, List.length_map] at few
      refine ⟨_, rfl, l2, os, rfl, k1, fun p hp => ⟨k2 p hp, ?_⟩, few, fun H4 l3 os3 s4 j1 j2 j3 => ⟨_, l3, os3, rfl, s3.trans s4, j1, j2, ?_⟩⟩
      · rw [(inA p hp).len]
        exact hl
      · rw [j3, k3]
        rfl
    · obtain ⟨y6, l2, os, rfl, s3, k1, k2, k3⟩ := hW
      have s4 := s3
      have hb2 := hb1.same s4
      have t2 : Tally K H2 ta ts := ht.ext (e1.trans (LamX.ExtN.of s4))
      have inA : ∀ p ∈ os, Sr.Good ps.length p.2 := fun p hp => Sr.allO_good ps.length m p.2 (k3 ▸ List.mem_map.mpr ⟨p, hp, rfl⟩)
      have few := Sr.allO_few (n := ps.length) (m := m) hl m2
      rw [← k3, List.length_map] at few
      generalize hF : (os.filter fun p => Sr.fit r (hsOf pf) (tlyOf ts) p.2) = F
      have sub : ∀ p ∈ F, p ∈ os := fun p hp => (List.mem_filter.mp (hF ▸ hp)).1
      have fF : F.length ≤ 1000 := Nat.le_trans (hF ▸ List.length_filter_le _ _) few
      refine ⟨_, rfl, l2, rfl, ⟨_, k1⟩, fun D0 nD0 => lc_it (walk_list (xs := refO os)) (fun i H3 => Acc H2 D0 (refO ((os.take i).filter fun p => Sr.fit r (hsOf pf) (tlyOf ts) p.2)) H3) (Acc.start nD0) (fun i H3 _ a => a.2.1.seq k1) (fun i x H3 H4 hi a y => ?_) fun H3 a => ?_⟩
      · obtain ⟨rfl, hx⟩ := y
        rw [List.getElem?_map] at hx
        obtain ⟨o, ho, rfl⟩ := Option.map_eq_some_iff.mp hx
        have om := List.mem_of_getElem? ho
        refine ⟨rfl, _, rfl, _, rfl, _, rfl, _, rfl, b1, pf, o, r, ta, ts, rfl, hb2.same a.2.1, by omega, (k2 o om).same a.2.1, ?_, ro, t2.ext (LamX.ExtN.of a.2.1), fun H5 s5 => ?_⟩
        · rw [lpf]
          exact inA o om
        · have e : (os.take (i + 1)).filter (fun p => Sr.fit r (hsOf pf) (tlyOf ts) p.2) = ((os.take i).filter fun p => Sr.fit r (hsOf pf) (tlyOf ts) p.2) ++ (if Sr.fit r (hsOf pf) (tlyOf ts) o.2 then [o] else []) := by
            rw [List.take_add_one, ho, List.filter_append]
            cases hv : Sr.fit r (hsOf pf) (tlyOf ts) o.2 <;> simp [hv]
          refine ⟨_, rfl, ?_⟩
          cases hv : Sr.fit r (hsOf pf) (tlyOf ts) o.2
          · rw [hv, if_neg (by decide), List.append_nil] at e
            refine iteF ?_
            rw [e]
            exact ⟨a.1, a.2.1.trans s5, s5 _ _ a.2.2⟩
          · rw [hv, if_pos rfl] at e
            refine iteT ⟨_, rfl, a.pushV s5 (small_line ?_) rfl ?_⟩
            · have h1 := List.length_filter_le (fun p : OrdR => Sr.fit r (hsOf pf) (tlyOf ts) p.2) (os.take i)
              have h2 : (os.take i).length ≤ os.length := List.length_take_le' i os
              have h0 : (refO ((os.take i).filter fun p => Sr.fit r (hsOf pf) (tlyOf ts) p.2)).length = ((os.take i).filter fun p => Sr.fit r (hsOf pf) (tlyOf ts) p.2).length := List.length_map _
              rw [h0]
              exact Nat.le_trans h1 (Nat.le_trans h2 (Nat.le_trans few (by decide)))
            · rw [e]
              exact List.map_append
      · rw [List.length_map, List.take_length, hF] at a
        have mF : F.map (·.2) = (Sr.allO ps.length m).filter (Sr.fit r (hsOf pf) (tlyOf ts)) := by
          rw [← hF, ← k3, List.filter_map]
          rfl
        refine ⟨D0, F, rfl, a.seq, fun p hp => ((k2 p (sub p hp)).same a.2.1).at, ?_, fun D1 L' pm e nD1 => ?_⟩
        · have z := few_or (n := ps.length) (os := F.map (·.2)) (fun o ho => ?_) ?_
          · rcases z with z | z
            · exact .inl (by rw [List.length_map] at z; exact z)
            · exact .inr fun p hp => z p.2 (List.mem_map.mpr ⟨p, hp, rfl⟩)
          · obtain ⟨p, hp, rfl⟩ := List.mem_map.mp ho
            exact inA p (sub p hp)
          · rw [mF]
            exact (Sr.allO_nd _ _).sublist List.filter_sublist
        · have s6 : Same H1 (upd H3 D1 (.lst (refO L'))) := (s4.trans a.2.1).trans (same_new nD1)
          refine q _ D1 L' (e1.trans (LamX.ExtN.of s6)) (T1.ext s6) upd_same (fun p hp => ?_) ?_
          · exact (((k2 p (sub p (pm.mem_iff.mp hp))).same a.2.1)).same (same_new nD1)
          · rw [e, mF]
            unfold Sr.poss
            rw [lhs]
theorem scPoss : FnScope ["drawer", "rule", "tally", "most"] ["drawer", "rule", "tally", "most"] (defScope sPoss) := ⟨rfl, rfl, rfl, by decide +kernel, rfl, by decide +kernel, by decide +kernel⟩
theorem ok_poss {f fA fC : Addr} {T : List (Addr × Str)} (D : DefT K mg "possible_orders" sPoss ["drawer", "rule", "tally", "most"] f)
    (CA : Cal P w K mg base CX0 3 "check_all" fC ["rule", "tally", "most"] (spChkA K)) (AO : Cal P w K mg base CX0 7 "all_orders" fA ["drawer", "rule", "tally", "most"] (spAllO K CC CD T)) :
    Cal P w K mg base CX0 8 "possible_orders" f ["drawer", "rule", "tally", "most"] (spAllO K CC CD T) := by
  refine D.cal scPoss (fun vs H Q E h => ?_) (fun cdv A outer s H vs Q E hr h => ?_)
  · obtain ⟨d, ps, r, ta, ts, m, rfl, _⟩ := h
    rfl
  · obtain ⟨d, ps, r, ta, ts, m, rfl, hd, hl, ro, ht, m2, hT, q⟩ := h
    refine ⟨_, pss_cons (ps_expr (pe_cl CA (hr.mono (by decide)) (pa_cons (pv 1) (pa_cons (pv 2) (pa_cons (pv 3) pa_nil)))))
      (pss_one (ps_ret (pe_cl AO hr (pa_cons (pv 0) (pa_cons (pv 1) (pa_cons (pv 2) (pa_cons (pv 3) pa_nil))))))), ?_⟩
    refine ⟨_, rfl, _, rfl, _, rfl, r, ta, ts, m, rfl, ro, ht, by omega, by omega, fun H1 s1 => ?_⟩
    have e1 := LamX.ExtN.of s1
    exact ⟨_, rfl, _, rfl, _, rfl, _, rfl, d, ps, r, ta, ts, m, rfl, hd.same s1, hl, ro, ht.same s1, m2, hT.ext s1, fun H2 l os e2 T2 h2 h3 h4 => q _ l os (e1.trans e2) T2 h2 h3 h4⟩
end
end SrT
set_option Elab.async false
set_option linter.all false
set_option maxRecDepth 100000
set_option maxHeartbeats 4000000
set_option pp.maxSteps 1500
/-! misplaced; _law_misplaced. -/
namespace SrT
open PySem PySem.Spec PyProof.Rows L2 SrR SlX
/-- NoOrder, as the written part has it -/
structure ErrT (K : PySem.W.Frag) (mg : Str → Option Value) (x : Str) (C : Addr) : Prop where
  g : mg x = some (.ref C)
  ex : PySem.W.excIn K C [.type "ValueError", .type "Exception", .type "BaseException", .type "object"] "ValueError.__new__" = true
  kp : PySem.W.keepIn K (.ref C) = true
  b : PySem.W.subIn K (.ref C) (.type "BaseException") = some true
  t : PySem.W.typeIn K (.ref C) = some (.type "type")
  i : PySem.W.isClsIn K C = true
  s : PySem.W.subIn K (.ref C) (.ref C) = some true
theorem ErrT.em {K : PySem.W.Frag} {mg : Str → Option Value} {x : Str} {C : Addr} (T : ErrT K mg x C) : PySem.W.exmOne K (.ref C) (.ref C) = some true := by
  have e1 : (PySem.W.subIn K (.ref C) (.type "BaseException") == some true) = true := by rw [T.b] <;> rfl
  have e2 : ((PySem.W.clsIn K C).isSome && PySem.W.typeIn K (.ref C) == some (.type "type")) = true := by
    rw [show (PySem.W.clsIn K C).isSome = true from T.i, T.t] <;> rfl
  show (if (PySem.W.subIn K (.ref C) (.type "BaseException") == some true) = true then (if ((PySem.W.clsIn K C).isSome && PySem.W.typeIn K (.ref C) == some (.type "type")) = true then PySem.W.subIn K (.ref C) (.ref C) else none) else none) = some true
  rw [if_pos e1, if_pos e2]
  exact T.s
theorem pi_listQ {X : Cx} (K : PySem.W.Frag) {tg : Expr} {l : Expr} {tl : TE} (hl : PE X l tl) (h : X.K = K := by rfl) : PI X tg l (iList K tl) := by
  subst h
  exact pi_list hl
/-! ### orders as data -/
def dO (o : Sr.Ord) : PyData := .tuple (o.map .int)
def dOs (os : List Sr.Ord) : PyData := .list (os.map dO)
theorem all_dpO (K : PySem.W.Frag) (H : Hp) : ∀ os : List OrdR, (∀ p ∈ os, OrdIn H p) → DpAll K H (refO os) ((os.map (·.2)).map dO)
  | [], _ => .nil
  | p :: r, h => .cons (.tup (.of (h p List.mem_cons_self)) (dpInts _)) (all_dpO K H r fun q hq => h q (List.mem_cons_of_mem _ hq))
theorem dp_O {K : PySem.W.Frag} {H : Hp} {p : OrdR} (h : OrdIn H p) : Dp K H (.ref p.1) (dO p.2) := .tup (.of h) (dpInts _)
theorem dp_Os {K : PySem.W.Frag} {H : Hp} {l : Addr} {os : List OrdR} (hl : SqL K H l (refO os)) (h : ∀ p ∈ os, OrdIn H p) : Dp K H (.ref l) (dOs (os.map (·.2))) := .lst hl (all_dpO K H os h)
theorem shp_list {ds : List PyData} {n : Nat} (hn : n < 64) (hd : ∀ d ∈ ds, d.canLay0 = true ∧ d.depth ≤ n) : SeqAt.shaped (.list ds) = true := by
  have h1 : PyData.canLayAll0 ds = true := by
    induction ds with
    | nil => rfl
    | cons d r ih =>
      rw [PyData.canLayAll0, (hd d List.mem_cons_self).1, ih fun e he => hd e (List.mem_cons_of_mem _ he)]
      rfl
  have h2 : PyData.depthAll ds ≤ n := by
    clear h1
    induction ds with
    | nil => simp [PyData.depthAll]
    | cons d r ih =>
      rw [PyData.depthAll]
      exact Nat.max_le.mpr ⟨(hd d List.mem_cons_self).2, ih fun e he => hd e (List.mem_cons_of_mem _ he)⟩
  unfold SeqAt.shaped
  rw [PyData.depth, PyData.canLay0, h1]
  exact decide_eq_true (by omega)
theorem dO_lay (o : Sr.Ord) : (dO o).canLay0 = true ∧ (dO o).depth ≤ 1 := by
  unfold dO
  rw [PyData.depth, depth_nums, PyData.canLay0, lay_ints]
  exact ⟨rfl, Nat.le_refl _⟩
theorem shp_O (o : Sr.Ord) : SeqAt.shaped (dO o) = true := shp_ints o
theorem shp_Os (os : List Sr.Ord) : SeqAt.shaped (dOs os) = true := shp_list (n := 1) (by decide) fun d hd => by
  obtain ⟨o, _, rfl⟩ := List.mem_map.mp hd
  exact dO_lay o
theorem eqv_ints : ∀ a b : List Int, PyData.eqvAll (a.map .int) (b.map .int) = decide (a = b)
  | [], [] => by simp [PyData.eqvAll]
  | [], _ :: _ => by simp [PyData.eqvAll]
  | _ :: _, [] => by simp [PyData.eqvAll]
  | x :: a, y :: b => by
    show PyData.eqvAll (PyData.int x :: a.map .int) (PyData.int y :: b.map .int) = _
    rw [PyData.eqvAll, eqv_ints a b]
    by_cases h : x = y <;> by_cases h2 : a = b <;> simp [PyData.eqv, h, h2]
theorem eqv_dO (a b : Sr.Ord) : PyData.eqv (dO a) (dO b) = decide (a = b) := by
  unfold dO
  rw [PyData.eqv, eqv_ints]
theorem eqv_all : ∀ a b : List Sr.Ord, PyData.eqvAll (a.map dO) (b.map dO) = decide (a = b)
  | [], [] => by simp [PyData.eqvAll]
  | [], _ :: _ => by simp [PyData.eqvAll]
  | _ :: _, [] => by simp [PyData.eqvAll]
  | x :: a, y :: b => by
    show PyData.eqvAll (dO x :: a.map dO) (dO y :: b.map dO) = _
    rw [PyData.eqvAll, eqv_all a b, eqv_dO]
    by_cases h : x = y <;> by_cases h2 : a = b <;> simp [h, h2]
theorem eqv_dOs (a b : List Sr.Ord) : PyData.eqv (dOs a) (dOs b) = decide (a = b) := by
  unfold dOs
  rw [PyData.eqv, eqv_all]
theorem any_dO (o : Sr.Ord) (os : List Sr.Ord) : ((os.map dO).any fun z => PyData.eqv z (dO o)) = decide (o ∈ os) := by
  rw [Bool.eq_iff_iff, List.any_eq_true, decide_eq_true_iff]
  constructor
  · rintro ⟨z, hz, e⟩
    obtain ⟨x, hx, rfl⟩ := List.mem_map.mp hz
    rw [eqv_dO] at e
    exact of_decide_eq_true e ▸ hx
  · exact fun h => ⟨dO o, List.mem_map.mpr ⟨o, h, rfl⟩, by rw [eqv_dO]; exact decide_eq_true rfl⟩
/-- a list compared with [] -/
theorem eqv_nil (ds : List PyData) : PyData.eqv (.list ds) (.list []) = decide (ds = []) := by
  cases ds <;> simp [PyData.eqv, PyData.eqvAll]
theorem filter_next {α : Type} (f : α → Bool) {l : List α} {i : Nat} {x : α} (h : l[i]? = some x) : (l.take (i + 1)).filter f = (l.take i).filter f ++ (if f x = true then [x] else []) := by
  rw [List.take_add_one, h, List.filter_append]
  cases hv : f x <;> simp [hv]
theorem acc_pick {α : Type} (f : α → Bool) (g : α → V) {H1 H H5 : Hp} {D : Addr} {l : List α} {i : Nat} {x : α} (a : Acc H1 D (((l.take i).filter f).map g) H) (s : Same H H5) (h : l[i]? = some x) (few : l.length ≤ 4000000) :
    (f x = true → ∃ acc', H5 D = some (.lst acc') ∧ acc'.length < sizeLine ∧ Acc H1 D (((l.take (i + 1)).filter f).map g) (upd H5 D (.lst (acc' ++ [g x])))) ∧ (f x = false → Acc H1 D (((l.take (i + 1)).filter f).map g) H5) := by
  have e := filter_next f h
  refine ⟨fun hv => ?_, fun hv => ?_⟩
  · rw [if_pos hv] at e
    refine a.push' s (small_line ?_) ?_
    · rw [List.length_map]
      have h1 := List.length_filter_le f (l.take i)
      have h2 : (l.take i).length ≤ l.length := List.length_take_le' i l
      omega
    · rw [e]
      exact List.map_append
  · rw [hv, if_neg (by decide), List.append_nil] at e
    rw [e]
    exact ⟨a.1, a.2.1.trans s, s _ _ a.2.2⟩
theorem idO_get {n i : Nat} (h : i < n) : (Sr.idO n)[i]? = some (i : Int) := by
  unfold Sr.idO
  rw [List.getElem?_map, List.getElem?_range h]
  rfl
section
variable {P : Program} {w : World} {K : PySem.W.Frag} {mg : Str → Option Value} {base : Heap} {R : Addr} {CC fI pF pH gH T0 CD dI pR pC gC gL gG gK : Addr}
/-- the scope of the outer comprehension -/
abbrev scoMis : Scope := { kind := .function, names := [(".0", .local), ("place", .cell), ("all", .globalImplicit), ("orders", .cell)], isGenerator := false, isCoroutine := false, more := [] }
theorem scMis : FnScope ["drawer", "rule", "tally", "most", "orders", "place", "order"] ["drawer", "rule", "tally", "most"] (defScope sMis) := ⟨rfl, rfl, rfl, by decide +kernel, rfl, by decide +kernel, by decide +kernel⟩
def spMis (K : PySem.W.Frag) (CC CD CN : Addr) (T : List (Addr × Str)) : Sp := fun vs H Q E => ∃ d ps, ∃ (r : Str) (ta : Addr) (ts : List TlyR) (m : Nat), vs = [.ref d, .str r, .ref ta, .int m] ∧ DrawAt K CC CD H d ps ∧ ps.length ≤ 6 ∧ RuleOk r ∧ Tally K H ta ts ∧ m ≤ 2 ∧ LamX.Tabs T H ∧
  ∀ H', LamX.ExtN H H' → LamX.Tabs T H' → (Sr.poss r (hsOf (ps.mergeSort leK)) (tlyOf ts) m = [] → E (.ref CN) none H') ∧
    ∀ l, Sr.poss r (hsOf (ps.mergeSort leK)) (tlyOf ts) m ≠ [] → H' l = some (.lst ((Sr.told ps.length (Sr.poss r (hsOf (ps.mergeSort leK)) (tlyOf ts) m)).map V.int)) → Q (.ref l) H'
theorem ok_mis {f fA fC CN : Addr} {fd : FuncData} {T : List (Addr × Str)} (F : Fun K "misplaced" "misplaced" sMis f fd) (TD : DrawT K mg CD dI pR pC gC gL gG gK) (TN : ErrT K mg "NoOrder" CN) (B : Bl mg)
    (CA : Cal P w K mg base CX0 3 "check_all" fC ["rule", "tally", "most"] (spChkA K)) (AO : Cal P w K mg base CX0 7 "all_orders" fA ["drawer", "rule", "tally", "most"] (spAllO K CC CD T)) :
    FnOk P w K mg base (L2.CX P w) 8 f fd ["drawer", "rule", "tally", "most"] (spMis K CC CD CN T) := by
  refine F.okX scMis (fun vs H Q E h => ?_) (fun cdv A outer s H vs Q E hr h => ?_)
  · obtain ⟨d, ps, r, ta, ts, m, rfl, _⟩ := h
    rfl
  · obtain ⟨d, ps, r, ta, ts, m, rfl, hd, hl, ro, ht, m2, hT, q⟩ := h
    refine ⟨_, pss_cons (ps_expr (pe_cl CA (hr.mono (by decide)) (pa_cons (pv 1) (pa_cons (pv 2) (pa_cons (pv 3) pa_nil)))))
      (pss_cons (ps_set (i := 4) scMis.nd rfl (.inr rfl) (pe_cl AO hr (pa_cons (pv 0) (pa_cons (pv 1) (pa_cons (pv 2) (pa_cons (pv 3) pa_nil))))))
      (pss_cons (ps_if (pt_cmpR (op_eqD hr.units) (pv 4) (pe_lst pa_nil) (nomark _)) (pss_one (ps_raise rfl (takes_of rfl rfl rfl rfl) (pmk_own PySem.F.excBase_ValueError TN.ex TN.g TN.kp (raises_own TN.b TN.t) rfl))) pss_nil)
      (PSs.nox (pss_one (ps_ret (pe_lc (own := [("place", 5)]) (g := gName 5) rfl scMis.nd (pi_range1 rfl B.range (pa_cons (pe_callB (call_lenSl (E := E0) TD.lS TD.lI (ok_dLen TD B) (hr.mono (by decide)) pass0) rfl B.len boot_len (pa_cons (pv 0) pa_nil)) pa_nil)) (blkOk_by (N := ["drawer", "rule", "tally", "most", "orders", "place", "order"]) (sc := defScope sMis) (by decide +kernel))
        (fun _ _ _ _ _ => pg_name (i := 5) scMis.nd rfl (Or.inr rfl)) (fun _ _ _ _ _ => pts_one (pt_val (pe_callB (cr_allQ K rfl) rfl B.all PyProof.Rows.boot_all (pa_cons
          (by exact pe_lc (own := [("order", 6)]) (g := gName 6) (tt := tYes) rfl scMis.nd (pi_listQ K (pv 4)) (blkOk_by (N := ["drawer", "rule", "tally", "most", "orders", "place", "order"]) (sc := scoMis) (by decide +kernel)) (fun _ _ _ _ _ => pg_name (i := 6) scMis.nd rfl (Or.inl rfl)) (fun _ _ _ _ _ => pts_nil) (fun _ _ _ _ _ => pe_cmpR op_ne (pe_ix (ix_tupQ K) (pv 6) (pv 5) (fun _ _ => rfl)) (pv 5) (nomark _))) pa_nil)))) (fun _ _ _ _ _ => pv 5))))))), ?_⟩
    refine ⟨_, rfl, _, rfl, _, rfl, r, ta, ts, m, rfl, ro, ht, by omega, by omega, fun H1 s1 => ?_⟩
    have e1 := LamX.ExtN.of s1
    refine ⟨_, rfl, _, rfl, _, rfl, _, rfl, d, ps, r, ta, ts, m, rfl, hd.same s1, hl, ro, ht.same s1, m2, hT.ext s1, fun H2 l os e2 T2 h2 h3 h4 => ?_⟩
    have sl2 : SqL K H2 l (refO os) := .inl (.inl h2)
    refine ⟨_, rfl, by show 0 ≤ _; exact Nat.zero_le _, fun z nz => ?_⟩
    have s3 : Same H2 (upd H2 z (.lst [])) := same_new nz
    have a3 := (dp_Os (K := K) sl2 h3)
    refine ⟨_, _, dp_Os (s3.seq sl2) (fun p hp => (h3 p hp).same s3), .lst (.inl (.inl upd_same)) .nil, shp_Os _, rfl, ?_⟩
    rw [show PyData.list [] = dOs [] from rfl, eqv_dOs, h4]
    obtain ⟨q1, q2⟩ := q _ ((e1.trans e2).trans (LamX.ExtN.of s3)) (T2.ext s3)
    refine ⟨_, rfl, ?_⟩
    by_cases hn : Sr.poss r (hsOf (ps.mergeSort leK)) (tlyOf ts) m = []
    · exact ite_yes (decide_eq_true hn) (q1 hn)
    · refine ite_no (decide_eq_false hn) ?_
      generalize hP : Sr.poss r (hsOf (ps.mergeSort leK)) (tlyOf ts) m = po at hn q q1 q2 h4
      have e03 := (e1.trans e2).trans (LamX.ExtN.of s3)
      have hd3 := hd.ext e03
      have sl3 := s3.seq sl2
      have o3 : ∀ p ∈ os, OrdIn (upd H2 z (.lst [])) p := fun p hp => (h3 p hp).same s3
      obtain ⟨⟨dx, t, hx1, hx2⟩, hx3⟩ := id hd3
      refine ⟨_, rfl, d, dx, _, rfl, hx1, d, dx, t, _, rfl, hx1, hx2, _, rfl, ?_⟩
      have lK : (refK ps).length = ps.length := List.length_map _
      rw [lK]
      refine ⟨by omega, by omega, _, rfl, by omega, by omega, ?_⟩
      have tn : ((ps.length : Nat) : Int).toNat = ps.length := Int.toNat_natCast _
      rw [tn]
      have lo : os.length ≤ 1000 := by
        have := Sr.poss_few (rule := r) (hs := hsOf (ps.mergeSort leK)) (tally := tlyOf ts) (m := m) (by rw [List.length_map, List.length_mergeSort]; exact hl) m2
        rw [hP, ← h4, List.length_map] at this
        exact this
      have gO : ∀ p ∈ os, Sr.Good ps.length p.2 := fun p hp => by
        have := Sr.poss_good (rule := r) (hs := hsOf (ps.mergeSort leK)) (tally := tlyOf ts) (m := m) p.2 (by rw [hP, ← h4]; exact List.mem_map.mpr ⟨p, hp, rfl⟩)
        rw [List.length_map, List.length_mergeSort] at this
        exact this
      refine fun D0 nD0 => lc_it (walk_range (lo := 0) (n := ps.length)) (fun i H3 => Acc (upd H2 z (.lst [])) D0 ((((Sr.idO ps.length).take i).filter fun k => po.all fun o => decide (o.getD k.toNat 0 ≠ k)).map V.int) H3) (Acc.start nD0) (fun _ _ _ _ => trivial) (fun i x H3 H4 hi a y => ?_) fun H3 a => ?_
      · obtain ⟨rfl, hx⟩ := y
        obtain rfl : x = V.int (i : Nat) := hx.trans (congrArg V.int (Int.zero_add _))
        refine ⟨rfl, _, rfl, l, rfl, ⟨_, a.2.1.seq sl3⟩, fun D1 nD1 => lc_it (walk_list (xs := refO os)) (fun j H5 => Acc H4 D1 (((po.map fun o => V.bl (decide (o.getD i 0 ≠ (i : Int))))).take j) H5) (Acc.start nD1) (fun i H3 _ b => b.2.1.seq (a.2.1.seq sl3)) (fun j x H5 H6 hj b y => ?_) fun H5 b => ?_⟩
        · obtain ⟨rfl, hx⟩ := y
          rw [List.getElem?_map] at hx
          obtain ⟨o, ho, rfl⟩ := Option.map_eq_some_iff.mp hx
          have om := List.mem_of_getElem? ho
          have oi := ((o3 o om).same a.2.1).same b.2.1
          have gd := gO o om
          have li : i < o.2.length := by rw [gd.len]; exact hi
          have g1 : (o.2.map V.int)[i]? = some (V.int o.2[i]) := by
            rw [List.getElem?_map, List.getElem?_eq_getElem li]
            rfl
          have g2 : (po.map fun o => V.bl (decide (o.getD i 0 ≠ (i : Int))))[j]? = some (V.bl (!decide (V.int o.2[i] = V.int (i : Nat)))) := by
            rw [List.getElem?_map, ← h4, List.getElem?_map, ho]
            show some (V.bl (decide (o.2.getD i 0 ≠ (i : Int)))) = _
            rw [List.getD_eq_getElem?_getD, List.getElem?_eq_getElem li]
            simp
          refine ⟨rfl, _, rfl, _, rfl, o.1, _, _, _, rfl, rfl, .of oi, atI_nat g1, _, rfl, ?_⟩
          refine ⟨rfl, b.pushV (Same.refl _) (small_line ?_) rfl (take_next g2)⟩
          rw [List.length_take, List.length_map, ← h4, List.length_map]
          omega
        · have full : (po.map fun o => V.bl (decide (o.getD i 0 ≠ (i : Int)))).take (refO os).length = (po.map fun o => decide (o.getD i 0 ≠ (i : Int))).map V.bl := by
            rw [List.take_of_length_le (by rw [List.length_map, List.length_map, ← h4, List.length_map]; omega), List.map_map]
            rfl
          rw [full] at b
          refine ⟨D1, _, rfl, b.seq, ?_⟩
          have e : (po.map fun o => decide (o.getD i 0 ≠ (i : Int))).all id = po.all fun o => decide (o.getD ((i : Int)).toNat 0 ≠ (i : Int)) := by
            rw [List.all_map]
            rfl
          rw [e]
          obtain ⟨p1, p2⟩ := acc_pick (fun k : Int => po.all fun o => decide (o.getD k.toNat 0 ≠ k)) V.int a b.2.1 (idO_get hi) (by rw [Sr.idO_len]; omega)
          refine ⟨_, rfl, ?_⟩
          cases hv : (po.all fun o => decide (o.getD ((i : Int)).toNat 0 ≠ (i : Int)))
          · exact iteF (p2 hv)
          · exact iteT ⟨_, rfl, p1 hv⟩
      · rw [List.take_of_length_le (by rw [Sr.idO_len]; exact Nat.le_refl _)] at a
        exact (q _ (e03.trans (LamX.ExtN.of a.2.1)) ((T2.ext s3).ext a.2.1)).2 D0 hn a.2.2
theorem scLMis : FnScope ["_law_drawer_here", "_law_rule_here", "_law_tally", "_law_most"] ["_law_drawer_here", "_law_rule_here", "_law_tally", "_law_most"] (defScope sLMis) := ⟨rfl, rfl, rfl, by decide +kernel, rfl, by decide +kernel, by decide +kernel⟩
def spLMis (K : PySem.W.Frag) (CC CD : Addr) (T : List (Addr × Str)) : Sp := fun vs H Q _ => ∃ d ps, ∃ (r : Str) (ta : Addr) (ts : List TlyR) (m : Nat), vs = [.ref d, .str r, .ref ta, .int m] ∧ DrawAt K CC CD H d ps ∧ ps.length ≤ 6 ∧ RuleOk r ∧ Tally K H ta ts ∧ m ≤ 2 ∧ LamX.Tabs T H ∧
  ∀ H', LamX.ExtN H H' → LamX.Tabs T H' → (Sr.poss r (hsOf (ps.mergeSort leK)) (tlyOf ts) m = [] → Q .non H') ∧
    ∀ l, Sr.poss r (hsOf (ps.mergeSort leK)) (tlyOf ts) m ≠ [] → H' l = some (.lst ((Sr.told ps.length (Sr.poss r (hsOf (ps.mergeSort leK)) (tlyOf ts) m)).map V.int)) → Q (.ref l) H'
theorem ok_lmis {f fM CN : Addr} {fdM : FuncData} {T : List (Addr × Str)} (D : DefT K mg "_law_misplaced" sLMis ["_law_drawer_here", "_law_rule_here", "_law_tally", "_law_most"] f) (TN : ErrT K mg "NoOrder" CN)
    (M : FnOk P w K mg base (L2.CX P w) 8 fM fdM ["drawer", "rule", "tally", "most"] (spMis K CC CD CN T)) (gM : mg "misplaced" = some (.ref fM)) (kM : PySem.W.keepIn K (.ref fM) = true) (bM : Binds K fdM ["drawer", "rule", "tally", "most"] []) :
    Cal P w K mg base CX0 9 "_law_misplaced" f ["_law_drawer_here", "_law_rule_here", "_law_tally", "_law_most"] (spLMis K CC CD T) := by
  refine D.cal scLMis (fun vs H Q E h => ?_) (fun cdv A outer s H vs Q E hr h => ?_)
  · obtain ⟨d, ps, r, ta, ts, m, rfl, _⟩ := h
    rfl
  · obtain ⟨d, ps, r, ta, ts, m, rfl, hd, hl, ro, ht, m2, hT, q⟩ := h
    refine ⟨_, pss_one (ps_try_only (tb := fun W => tRet (tCallS (spMis K CC CD CN T) (WE W) (tCons (tVar 0) (tCons (tVar 1) (tCons (tVar 2) (tCons (tVar 3) tNil)))))) (ts := fun _ _ _ => tRet (tC .non)) (Wout := fun _ _ _ _ => False) rfl rfl ⟨rfl, by decide, .inl TN.g⟩ takes0
      (fun W pn xe tk _ => pss_one (ps_ret (by exact (pe_callS M hr rfl gM kM bM (fun σ => passAt tk σ) (by exact (pa_cons (pv 0) (pa_cons (pv 1) (pa_cons (pv 2) (pa_cons (pv 3) pa_nil)))))))))
      (fun a oe cls d pn _ _ => pss_one (ps_ret pe_non))), ?_⟩
    refine ⟨_, rfl, _, rfl, _, rfl, _, rfl, d, ps, r, ta, ts, m, rfl, hd, hl, ro, ht, m2, hT, fun H' e T' => ?_⟩
    obtain ⟨q1, q2⟩ := q H' e T'
    refine ⟨fun z => ⟨true, TN.em, fun _ a _ => q1 z, fun q => Bool.noConfusion q⟩, fun l z h => q2 l z h⟩
end
end SrT
set_option Elab.async false
set_option linter.all false
set_option maxRecDepth 100000
set_option maxHeartbeats 4000000
set_option pp.maxSteps 1500
/-! the law's drawing of numbers: _law_taken, _law_rule. -/
namespace SrT
open PySem PySem.Spec PyProof.Rows L2 SrR SlX
/-! ### all but the row (and the tables) stays -/
def But (r : Addr) (H H' : Hp) : Prop := ∀ b o, b ≠ r → H b = some o → H' b = some o
def ButN (r : Addr) (H H' : Hp) : Prop := ∀ b o, b ≠ r → H b = some o → (∀ ps, o ≠ .tbl ps) → H' b = some o
def Ls (r : Addr) (H : Hp) : Prop := ∃ xs, H r = some (.lst xs)
theorem But.n {r : Addr} {H H' : Hp} (h : But r H H') : ButN r H H' := fun b o n e _ => h b o n e
theorem But.of {r : Addr} {H H' : Hp} (h : Same H H') : But r H H' := fun b o _ e => h b o e
theorem ButN.of {r : Addr} {H H' : Hp} (h : LamX.ExtN H H') : ButN r H H' := fun b o _ e n => h b o e n
theorem But.trans {r : Addr} {H H1 H2 : Hp} (a : But r H H1) (b : But r H1 H2) : But r H H2 := fun c o n e => b c o n (a c o n e)
theorem ButN.trans {r : Addr} {H H1 H2 : Hp} (a : ButN r H H1) (b : ButN r H1 H2) : ButN r H H2 := fun c o n e z => b c o n (a c o n e z) z
theorem But.refl {r : Addr} {H : Hp} : But r H H := fun _ _ _ e => e
theorem But.upd {r : Addr} {H : Hp} {o : HO} : But r H (upd H r o) := fun b u n e => by rw [upd_ne n]; exact e
theorem Ls.ne {r b : Addr} {H : Hp} {o : HO} (l : Ls r H) (h : H b = some o) (n : ∀ xs, o ≠ .lst xs) : b ≠ r := fun z => by
  obtain ⟨xs, e⟩ := l
  rw [z, e] at h
  exact n xs (Option.some.inj h).symm
theorem sqL_but {K : PySem.W.Frag} {r a : Addr} {H H' : Hp} {xs : List V} (e : ButN r H H') (n : a ≠ r) (h : SqL K H a xs) : SqL K H' a xs := by
  rcases h with (h | ⟨o, h⟩) | h
  · exact .inl (.inl (e _ _ n h fun _ z => nomatch z))
  · exact .inl (.inr ⟨o, e _ _ n h fun _ z => nomatch z⟩)
  · exact .inr h
theorem sqT_but {K : PySem.W.Frag} {r a : Addr} {H H' : Hp} {xs : List V} (e : ButN r H H') (l : Ls r H) (h : SqT K H a xs) : SqT K H' a xs := by
  rcases h with (h | ⟨o, h⟩) | h
  · exact .inl (.inl (e _ _ (l.ne h fun _ z => nomatch z) h fun _ z => nomatch z))
  · exact .inl (.inr ⟨o, e _ _ (l.ne h fun _ z => nomatch z) h fun _ z => nomatch z⟩)
  · exact .inr h
theorem slt_but {r : Addr} {H H' : Hp} {a C dx : Addr} {vs : List (Option V)} (e : ButN r H H') (l : Ls r H) (h : Slt H a C dx vs) : Slt H' a C dx vs := by
  rcases h with ⟨h, e2⟩ | ⟨h1, h2⟩
  · exact .inl ⟨e _ _ (l.ne h fun _ z => nomatch z) h (fun _ z => nomatch z), e2⟩
  · refine .inr ⟨e _ _ (l.ne h1 fun _ z => ?_) h1 (fun _ z => ?_), e _ _ (l.ne h2 fun _ z => nomatch z) h2 (fun _ z => nomatch z)⟩ <;>
    · unfold SlO at z
      cases z
theorem CardAt.but {C r : Addr} {H H' : Hp} {p : KeyR} (e : ButN r H H') (l : Ls r H) (h : CardAt C H p) : CardAt C H' p := by
  obtain ⟨dx, t, v2, v3, v4, h1, h2⟩ := h
  exact ⟨dx, t, v2, v3, v4, slt_but e l h1, e _ _ (l.ne h2 fun _ z => nomatch z) h2 (fun _ z => nomatch z)⟩
theorem Tabs.but {T : List (Addr × Str)} {r : Addr} {H H' : Hp} (e : But r H H') (l : Ls r H) (h : LamX.Tabs T H) : LamX.Tabs T H' := fun p hp => by
  obtain ⟨ps, h1, h2, h3⟩ := h p hp
  refine ⟨ps, e _ _ (l.ne h1 fun _ z => nomatch z) h1, h2, fun pos cv hc => ?_⟩
  obtain ⟨c, e1, e2⟩ := h3 pos cv hc
  exact ⟨c, e1, e _ _ (l.ne e2 fun _ z => by unfold LamX.CodeO at z; cases z) e2⟩
theorem small_le {n : Nat} (h : n ≤ 4000000) : n ≤ sizeLine := Nat.le_of_lt (small_line h)
/-- the row of the law: the script, how many were drawn, the number, what is left of a great one -/
def RowAt (K : PySem.W.Frag) (sc : Addr) (H : Hp) (r : Addr) : Prop := ∃ (ns : List Int) (c : Nat) (g e : Int), H r = some (.lst [.ref sc, .int c, .int g, .int e]) ∧ (∀ H', ButN r H H' → SqL K H' sc (ns.map V.int)) ∧ ns.length ≤ 63
theorem RowAt.ls {K : PySem.W.Frag} {sc : Addr} {H : Hp} {r : Addr} (h : RowAt K sc H r) : Ls r H := by
  obtain ⟨ns, c, g, e, h, _⟩ := h
  exact ⟨_, h⟩
theorem RowAt.ext {K : PySem.W.Frag} {sc : Addr} {H H' : Hp} {r : Addr} (e : LamX.ExtN H H') (h : RowAt K sc H r) : RowAt K sc H' r := by
  obtain ⟨ns, c, g, u, h1, h2, h4⟩ := h
  exact ⟨ns, c, g, u, e _ _ h1 (fun _ z => nomatch z), fun H2 b => h2 H2 ((ButN.of e).trans b), h4⟩
/-- the row where the script stands as it stood -/
theorem RowAt.over {K : PySem.W.Frag} {sc : Addr} {H H' : Hp} {r : Addr} (h : RowAt K sc H r) (e : ButN r H H') (n : ∃ (c : Nat) (g u : Int), H' r = some (.lst [.ref sc, .int c, .int g, .int u])) : RowAt K sc H' r := by
  obtain ⟨ns, c, g, u, h1, h2, h4⟩ := h
  obtain ⟨c, g, u, k⟩ := n
  exact ⟨ns, c, g, u, k, fun H2 b => h2 H2 (e.trans b), h4⟩
theorem RowAt.at {K : PySem.W.Frag} {sc : Addr} {H : Hp} {r : Addr} (h : RowAt K sc H r) : ∃ (c : Nat) (g u : Int), H r = some (.lst [.ref sc, .int c, .int g, .int u]) := by
  obtain ⟨ns, c, g, u, h1, _⟩ := h
  exact ⟨c, g, u, h1⟩
/-- .. behind a store at a new place D -/
theorem RowAt.upd {K : PySem.W.Frag} {sc : Addr} {H H1 H4 : Hp} {r D : Addr} {o : HO} (h : RowAt K sc H r) (n : D ≠ r) (b : ButN r H (upd H4 D o)) (k : RowAt K sc H4 r) : RowAt K sc (upd H4 D o) r := by
  obtain ⟨c, g, u, e⟩ := k.at
  exact h.over b ⟨c, g, u, by rw [upd_ne n.symm]; exact e⟩
section
variable {P : Program} {w : World} {K : PySem.W.Frag} {mg : Str → Option Value} {base : Heap} {R : Addr} {CC fI pF pH gH T0 CD dI pR pC gC gL gG gK : Addr}
theorem scTaken : FnScope ["_law_row", "_law_many", "_law_found", "_law_cell"] ["_law_row", "_law_many"] (defScope sTaken) := ⟨rfl, rfl, rfl, by decide +kernel, rfl, by decide +kernel, by decide +kernel⟩
def spTaken (K : PySem.W.Frag) : Sp := fun vs H Q _ => ∃ (r sc : Addr) (n : Nat), vs = [.ref r, .int n] ∧ 0 < n ∧ n ≤ 100 ∧ RowAt K sc H r ∧ ∀ H' (v : Nat), But r H H' → RowAt K sc H' r → v < n → Q (.int v) H'
theorem ok_taken {f : Addr} (D : DefT K mg "_law_taken" sTaken ["_law_row", "_law_many"] f) (B : Bl mg) : Cal P w K mg base CX0 1 "_law_taken" f ["_law_row", "_law_many"] (spTaken K) := by
  refine D.cal scTaken (fun vs H Q E h => ?_) (fun cdv A outer s H vs Q E hr h => ?_)
  · obtain ⟨r, sc, n, rfl, _⟩ := h
    rfl
  · obtain ⟨r, sc, n, rfl, n0, n9, hr, q⟩ := h
    refine ⟨_, pss_cons (ps_if (pt_cmpR op_gt (pe_ix ix_list (pv 0) pe_int (fun _ _ => rfl)) pe_int (nomark _))
        (pss_cons (ps_set (i := 2) scTaken.nd rfl (.inl rfl) (pe_op op_mod (pe_callTy call_int1 rfl B.int PyProof.Rows.boot_int (pa_cons (pe_ix ix_list (pv 0) pe_int (fun _ _ => rfl)) pa_nil)) (pv 1)))
        (pss_cons (ps_asg (pe_op op_fdiv (pe_ix ix_list (pv 0) pe_int (fun _ _ => rfl)) (pv 1)) (pg_sub (pv 0) pe_int set_list)) (pss_one (ps_ret (pv 2))))) pss_nil)
      (pss_cons (ps_asg (pe_op op_add (pe_ix ix_list (pv 0) pe_int (fun _ _ => rfl)) pe_int) (pg_sub (pv 0) pe_int set_list))
      (pss_cons (ps_if (pt_cmpR op_gt (pe_ix ix_list (pv 0) pe_int (fun _ _ => rfl)) (pe_callB call_len_seq rfl B.len boot_len (pa_cons (pe_ix ix_list (pv 0) pe_int (fun _ _ => rfl)) pa_nil)) (nomark _))
        (pss_cons (ps_asg (pe_op op_mod (pe_callTy call_int1 rfl B.int PyProof.Rows.boot_int (pa_cons (pe_op op_add (pe_op op_mul (pe_ix ix_list (pv 0) pe_int (fun _ _ => rfl)) pe_int) pe_int) pa_nil)) pe_int) (pg_sub (pv 0) pe_int set_list))
        (pss_one (ps_ret (pe_op op_mod (pe_callTy call_int1 rfl B.int PyProof.Rows.boot_int (pa_cons (pe_op op_fdiv (pe_ix ix_list (pv 0) pe_int (fun _ _ => rfl)) pe_int) pa_nil)) (pv 1))))) pss_nil)
      (pss_cons (ps_set (i := 3) scTaken.nd rfl (.inl rfl) (pe_ix ix_list (pe_ix ix_list (pv 0) pe_int (fun _ _ => rfl)) (pe_op op_sub (pe_ix ix_list (pv 0) pe_int (fun _ _ => rfl)) pe_int) (fun _ _ => rfl)))
      (pss_cons (ps_asg (pe_op op_mod (pe_callTy call_int1 rfl B.int PyProof.Rows.boot_int (pa_cons (pe_op op_add (pe_op op_add (pe_op op_mul (pe_ix ix_list (pv 0) pe_int (fun _ _ => rfl)) pe_int) (pv 3)) pe_int) pa_nil)) pe_int) (pg_sub (pv 0) pe_int set_list))
      (pss_cons (ps_if (pt_cmpR op_ge (pv 3) (pe_op op_pow pe_int pe_int) (nomark _)) (pss_one (ps_asg (pe_op op_fdiv (pv 3) (pv 1)) (pg_sub (pv 0) pe_int set_list))) pss_nil)
      (pss_one (ps_ret (pe_op op_mod (pe_callTy call_int1 rfl B.int PyProof.Rows.boot_int (pa_cons (pv 3) pa_nil)) (pv 1))))))))), ?_⟩
    obtain ⟨ns, c, g, e, hR, hs0, hl⟩ := hr
    have hs := hs0 H But.refl.n
    have RL : SqL K H r [.ref sc, .int c, .int g, .int e] := .inl (.inl hR)
    have fin : ∀ (x : Int) (H' : Hp), But r H H' → RowAt K sc H' r → Q (.int (x % (n : Int))) H' := fun x H' b ra => by
      have h1 := Int.emod_nonneg x (b := (n : Int)) (by omega)
      have h2 := Int.emod_lt_of_pos x (b := (n : Int)) (by omega)
      have z := q H' (x % (n : Int)).toNat b ra (by omega)
      rw [Int.toNat_of_nonneg h1] at z
      exact z
    have row : ∀ (H' : Hp) (c : Nat) (g e : Int), But r H H' → H' r = some (.lst [.ref sc, .int c, .int g, .int e]) → RowAt K sc H' r := fun H' c g e b h => ⟨ns, c, g, e, h, fun H2 b2 => hs0 H2 (b.n.trans b2), hl⟩
    have lns : (ns.map V.int).length = ns.length := List.length_map _
    refine ⟨_, rfl, r, _, 3, _, rfl, rfl, RL, atI_nat (j := 3) rfl, _, _, rfl, rfl, _, rfl, ?_⟩
    by_cases he : 0 < e
    · refine ite_yes (decide_eq_true he) ?_
      refine ⟨_, rfl, r, _, 3, _, rfl, rfl, RL, atI_nat (j := 3) rfl, .inl ⟨_, rfl, _, rfl, _, _, rfl, rfl, by omega, ?_⟩⟩
      refine ⟨_, rfl, r, _, 3, _, rfl, rfl, RL, atI_nat (j := 3) rfl, _, rfl, _, _, rfl, rfl, ⟨by omega, by omega⟩, _, rfl, r, _, 3, 3, rfl, rfl, hR, rfl, ?_⟩
      exact ⟨_, rfl, fin e _ But.upd (row _ c g (e / n) But.upd upd_same)⟩
    · refine ite_no (decide_eq_false he) ?_
      refine ⟨_, rfl, r, _, 1, _, rfl, rfl, RL, atI_nat (j := 1) rfl, _, _, rfl, rfl, _, rfl, r, _, 1, 1, rfl, rfl, hR, rfl, ?_⟩
      generalize hH1 : upd H r (.lst ([V.ref sc, .int c, .int g, .int e].set 1 (.int ((c : Int) + 1)))) = H1
      have b1 : But r H H1 := hH1 ▸ But.upd
      have hR1 : H1 r = some (.lst [.ref sc, .int ((c + 1 : Nat) : Int), .int g, .int e]) := by
        rw [← hH1, upd_same]
        rfl
      have RL1 : SqL K H1 r [.ref sc, .int ((c + 1 : Nat) : Int), .int g, .int e] := .inl (.inl hR1)
      have hs1 := hs0 _ b1.n
      refine ⟨_, rfl, r, _, 1, _, rfl, rfl, RL1, atI_nat (j := 1) rfl, _, rfl, r, _, 0, _, rfl, rfl, RL1, atI_nat (j := 0) rfl, sc, _, rfl, .inl hs1, _, _, rfl, rfl, _, rfl, ?_⟩
      rw [lns]
      by_cases hc : (ns.length : Int) < ((c + 1 : Nat) : Int)
      · refine ite_yes (decide_eq_true hc) ?_
        refine ⟨_, rfl, r, _, 2, _, rfl, rfl, RL1, atI_nat (j := 2) rfl, _, _, rfl, rfl, .inr ⟨by decide, by decide⟩, _, _, rfl, rfl, .inl ⟨_, rfl, _, _, rfl, rfl, (by show (0 : Int) < 2147483647; decide), _, rfl, r, _, 2, 2, rfl, rfl, hR1, rfl, ?_⟩⟩
        have b2 : ∀ u, But r H (upd H1 r u) := fun u => b1.trans But.upd
        refine ⟨_, rfl, r, _, 2, _, rfl, rfl, .inl (.inl upd_same), atI_nat (j := 2) rfl, _, _, rfl, rfl, ⟨by decide, by decide⟩, .inl ⟨_, rfl, _, rfl, _, _, rfl, rfl, by omega, ?_⟩⟩
        exact fin _ _ (b2 _) (row _ (c + 1) _ e (b2 _) upd_same)
      · refine ite_no (decide_eq_false hc) ?_
        have hcl : c < ns.length := by omega
        have at0 : atI (ns.map V.int) (((c + 1 : Nat) : Int) - 1) = some (.int ns[c]) := by
          rw [show ((c + 1 : Nat) : Int) - 1 = ((c : Nat) : Int) by omega]
          refine atI_nat ?_
          rw [List.getElem?_map, List.getElem?_eq_getElem hcl]
          rfl
        generalize ns[c] = z at at0
        refine ⟨_, rfl, r, _, 0, _, rfl, rfl, RL1, atI_nat (j := 0) rfl, _, rfl, r, _, 1, _, rfl, rfl, RL1, atI_nat (j := 1) rfl, _, _, rfl, rfl, sc, _, _, _, rfl, rfl, hs1, at0, ?_⟩
        refine ⟨_, rfl, r, _, 2, _, rfl, rfl, RL1, atI_nat (j := 2) rfl, _, _, rfl, rfl, .inr ⟨by decide, by decide⟩, _, rfl, _, _, rfl, rfl, _, _, rfl, rfl, .inl ⟨_, rfl, _, _, rfl, rfl, (by show (0 : Int) < 2147483647; decide), _, rfl, r, _, 2, 2, rfl, rfl, hR1, rfl, ?_⟩⟩
        have b2 : ∀ u, But r H (upd H1 r u) := fun u => b1.trans But.upd
        refine ⟨_, rfl, _, _, rfl, rfl, ⟨by decide, by decide, by decide⟩, _, _, rfl, rfl, _, rfl, ?_⟩
        by_cases hg : (10 : Int) ^ (18 : Int).toNat ≤ z
        · refine ite_yes (decide_eq_true hg) ?_
          refine ⟨_, rfl, _, rfl, _, _, rfl, rfl, ⟨by omega, by omega⟩, _, rfl, r, _, 3, 3, rfl, rfl, upd_same, rfl, ?_⟩
          exact ⟨_, rfl, .inl ⟨_, rfl, _, rfl, _, _, rfl, rfl, by omega, fin _ _ ((b2 _).trans But.upd) (row _ (c + 1) _ _ ((b2 _).trans But.upd) upd_same)⟩⟩
        · refine ite_no (decide_eq_false hg) ?_
          exact ⟨_, rfl, .inl ⟨_, rfl, _, rfl, _, _, rfl, rfl, by omega, fin _ _ (b2 _) (row _ (c + 1) _ _ (b2 _) upd_same)⟩⟩
theorem scLRule : FnScope ["_law_row"] ["_law_row"] (defScope sLRule) := ⟨rfl, rfl, rfl, by decide +kernel, rfl, by decide +kernel, by decide +kernel⟩
def spLRule (K : PySem.W.Frag) : Sp := fun vs H Q _ => ∃ r sc : Addr, vs = [.ref r] ∧ RowAt K sc H r ∧ ∀ H' (x : Str), But r H H' → RowAt K sc H' r → RuleOk x → Q (.str x) H'
theorem ok_lrule {f fT : Addr} (D : DefT K mg "_law_rule" sLRule ["_law_row"] f) (TK : Cal P w K mg base CX0 1 "_law_taken" fT ["_law_row", "_law_many"] (spTaken K)) : Cal P w K mg base CX0 2 "_law_rule" f ["_law_row"] (spLRule K) := by
  refine D.cal scLRule (fun vs H Q E h => ?_) (fun cdv A outer s H vs Q E hr h => ?_)
  · obtain ⟨r, sc, rfl, _⟩ := h
    rfl
  · obtain ⟨r, sc, rfl, hR, q⟩ := h
    refine ⟨_, pss_one (ps_ret (pe_ix ix_list (pe_lst (pa_cons pe_str (pa_cons pe_str (pa_cons pe_str pa_nil)))) (pe_cl TK hr (pa_cons (pv 0) (pa_cons pe_int pa_nil))) (fun _ _ => rfl))), ?_⟩
    refine ⟨small_le (by decide), fun z nz => ?_⟩
    have s1 : Same H (upd H z (.lst [.str "all", .str "half", .str "leaf"])) := same_new nz
    have zr : z ≠ r := fun e => by
      obtain ⟨xs, hx⟩ := hR.ls
      rw [e, hx] at nz
      cases nz
    refine ⟨_, rfl, r, sc, 3, rfl, by decide, by decide, hR.ext (LamX.ExtN.of s1), fun H' v b ra hv => ?_⟩
    have hz : SqL K H' z [.str "all", .str "half", .str "leaf"] := .inl (.inl (b _ _ zr upd_same))
    have go : ∀ x : Str, [V.str "all", .str "half", .str "leaf"][v]? = some (.str x) → RuleOk x → ∃ p xs i w, V.ref z = .ref p ∧ V.int (v : Int) = .int i ∧ SqL K H' p xs ∧ atI xs i = some w ∧ Q w H' := fun x e ro =>
      ⟨z, _, _, _, rfl, rfl, hz, atI_nat e, q _ x ((But.of s1).trans b) ra ro⟩
    match v, hv with
    | 0, _ => exact go "all" rfl (.inl rfl)
    | 1, _ => exact go "half" rfl (.inr (.inl rfl))
    | 2, _ => exact go "leaf" rfl (.inr (.inr rfl))
end
end SrT
set_option Elab.async false
set_option linter.all false
set_option maxRecDepth 100000
set_option maxHeartbeats 4000000
set_option pp.maxSteps 1500
/-! _law_card. -/
namespace SrT
open PySem PySem.Spec PyProof.Rows L2 SrR SlX
/-- what a comprehension has made so far, the row aside -/
def AccB (r : Addr) (H1 : Hp) (D : Addr) (acc : List V) (H : Hp) : Prop := H1 D = none ∧ But r H1 H ∧ H D = some (.lst acc) ∧ D ≠ r
theorem AccB.start {r : Addr} {H1 : Hp} {D : Addr} (l : Ls r H1) (h : H1 D = none) : AccB r H1 D [] (upd H1 D (.lst [])) := ⟨h, .of (same_new h), upd_same, fun z => by
  obtain ⟨xs, e⟩ := l
  rw [z, e] at h
  cases h⟩
theorem but_upd2 {r : Addr} {H1 H : Hp} {D : Addr} {o : HO} (h : H1 D = none) (s : But r H1 H) : But r H1 (upd H D o) := fun b u n e => by
  rw [upd_ne (ne_of_none e h)]
  exact s b u n e
theorem AccB.push {r : Addr} {H1 H H4 : Hp} {D : Addr} {acc acc2 : List V} {y : V} (a : AccB r H1 D acc H) (s : But r H H4) (hl : acc.length < sizeLine) (e : acc2 = acc ++ [y]) : ∃ acc', H4 D = some (.lst acc') ∧ acc'.length < sizeLine ∧ AccB r H1 D acc2 (upd H4 D (.lst (acc' ++ [y]))) :=
  ⟨acc, s _ _ a.2.2.2 a.2.2.1, hl, a.1, but_upd2 a.1 (a.2.1.trans s), e ▸ upd_same, a.2.2.2⟩
theorem AccB.keep {r : Addr} {H1 H H4 : Hp} {D : Addr} {acc : List V} (a : AccB r H1 D acc H) (s : But r H H4) : AccB r H1 D acc H4 := ⟨a.1, a.2.1.trans s, s _ _ a.2.2.2 a.2.2.1, a.2.2.2⟩
theorem AccB.seq {r : Addr} {K : PySem.W.Frag} {H1 H : Hp} {D : Addr} {acc : List V} (a : AccB r H1 D acc H) : SqL K H D acc := .inl (.inl a.2.2.1)
section
variable {P : Program} {w : World} {K : PySem.W.Frag} {mg : Str → Option Value} {base : Heap} {R : Addr} {CC fI pF pH gH T0 CD dI pR pC gC gL gG gK : Addr}
theorem card_binds3 {Ta : Addr} {fd : FuncData} {f : Addr} (F : FunD K "__init__" "Card.__init__" (defArgs sCInit) (defBody sCInit) (defScope sCInit) [.ref Ta, .str "", .ref T0] [] f fd) : ∃ ds, Vals [V.ref T0] ds ∧ Binds K fd ["self", "heading", "books", "see", "also"] ds :=
  F.binds1 (ps := ["self", "heading", "books", "see", "also"]) 4 2 (by simp) rfl (fun T kV doc pm an cdv ct us its hu hi => match us, its, hu, hi with | [_, _, _, _], [_, _, _], _, _ => ⟨_, rfl, rfl⟩)
theorem card_binds4 {Ta : Addr} {fd : FuncData} {f : Addr} (F : FunD K "__init__" "Card.__init__" (defArgs sCInit) (defBody sCInit) (defScope sCInit) [.ref Ta, .str "", .ref T0] [] f fd) : ∃ ds, Vals [] ds ∧ Binds K fd ["self", "heading", "books", "see", "also"] ds :=
  F.binds1 (ps := ["self", "heading", "books", "see", "also"]) 5 3 (by simp) rfl (fun T kV doc pm an cdv ct us its hu hi => match us, its, hu, hi with | [_, _, _, _, _], [_, _, _], _, _ => ⟨_, rfl, rfl⟩)
/-- Card(h, books, see, also): what it asks -/
theorem card_read {H1 : Hp} {tb ta : Addr} {h see : Str} {bs : List Int} {os : List Str} {Q : Addr → Hp → Prop} (hb : SqT K H1 tb (bs.map V.int)) (ha : SqT K H1 ta (os.map V.str)) (wh : Wd h) (b1 : bs.length ≤ 4) (b2 : ∀ b ∈ bs, 1 ≤ b ∧ b ≤ 999) (b3 : bs.Pairwise (· < ·))
    (o1 : os.length ≤ 4) (o2 : os.Nodup) (o3 : ∀ o ∈ os, Wd o ∧ o ≠ h) (hs : see = "" ∨ (Wd see ∧ see ≠ h ∧ bs = [] ∧ os = [])) (q : ∀ H' x, Same H1 H' → CardAt CC H' (x, h) → Q x H') :
    ∀ x dx, H1 x = none → H1 dx = none → dx ≠ x → spCInit K CC [.ref x, .str h, .ref tb, .str see, .ref ta] (upd (upd H1 dx (.own x)) x (.ins CC dx [])) (fun v H2 => v = .non ∧ Q x H2) E0 := fun x dx nx nd ne => by
  have k0 : Same H1 (upd (upd H1 dx (.own x)) x (.ins CC dx [])) := (same_new nd).trans (same_new (by rw [upd_ne ne.symm]; exact nx))
  refine ⟨x, dx, tb, ta, h, see, bs, os, rfl, .inl ⟨upd_same, rfl⟩, ne, ?_, ?_, sameT k0 hb, sameT k0 ha, wh, b1, b2, b3, o1, o2, o3, hs, fun H' kp c => ⟨rfl, q H' x (made_same nx nd kp) c⟩⟩
  · rw [upd_same]
    exact fun z => nomatch z
  · rw [upd_ne ne, upd_same]
    exact fun z => nomatch z
theorem scLCard : FnScope ["_law_row", "_law_names", "_law_name", "_law_pick", "_law_others", "_law_more", "_law_other", "_law_one"] ["_law_row"] (defScope sLCard) := ⟨rfl, rfl, rfl, by decide +kernel, rfl, by decide +kernel, by decide +kernel⟩
def spLCard (K : PySem.W.Frag) (CC : Addr) : Sp := fun vs H Q _ => ∃ r sc : Addr, vs = [.ref r] ∧ RowAt K sc H r ∧ ∀ H' x (h : Str), But r H H' → RowAt K sc H' r → CardAt CC H' (x, h) → Q (.ref x) H'
theorem ok_lcard {f fT fW fB fO : Addr} (D : DefT K mg "_law_card" sLCard ["_law_row"] f) (T : CardT K mg CC fI pF pH gH T0) (B : Bl mg) (W : Cal P w K mg base CX0 1 "is_word" fW ["value"] spWord) (BK : Cal P w K mg base CX0 2 "are_books" fB ["row"] (spBooks K)) (OT : Cal P w K mg base CX0 2 "are_others" fO ["heading", "row"] (spOthers K))
    (TK : Cal P w K mg base CX0 1 "_law_taken" fT ["_law_row", "_law_many"] (spTaken K)) : Cal P w K mg base CX0 5 "_law_card" f ["_law_row"] (spLCard K CC) := by
  obtain ⟨Ta, fdI, FI, FD⟩ := ok_cInit (P := P) (w := w) (base := base) T W BK OT
  obtain ⟨d3, v3, b3⟩ := card_binds3 FD
  obtain ⟨d4, v4, b4⟩ := card_binds4 FD
  refine D.cal scLCard (fun vs H Q E h => ?_) (fun cdv A outer s H vs Q E hr h => ?_)
  · obtain ⟨r, sc, rfl, _⟩ := h
    rfl
  · obtain ⟨r, sc, rfl, hR, q⟩ := h
    have hr1 : Room 1 _ := hr.mono (by decide)
    refine ⟨_, pss_cons (ps_set (i := 1) scLCard.nd rfl (.inl rfl) (pe_lst (pa_cons pe_str (pa_cons pe_str (pa_cons pe_str (pa_cons pe_str (pa_cons pe_str pa_nil)))))))
      (pss_cons (ps_asg (pe_tup (pa_cons (pe_ix ix_list (pv 1) (pe_cl TK hr1 (pa_cons (pv 0) (pa_cons pe_int pa_nil))) (fun _ _ => rfl)) (pa_cons (pe_cl TK hr1 (pa_cons (pv 0) (pa_cons pe_int pa_nil))) pa_nil)))
        (pg_tup rfl (pgs_cons (pg_name (i := 2) scLCard.nd rfl (Or.inr rfl)) (pgs_cons (pg_name (i := 3) scLCard.nd rfl (Or.inl rfl)) pgs_nil))))
      (pss_cons (ps_setLc (i := 4) (own := [("_law_other", 6)]) (g := gName 6) rfl scLCard.nd rfl rfl rfl (pi_list (pe_op op_cat (pv 1) (pe_lst (pa_cons pe_str pa_nil)))) (blkOk_by (N := ["_law_row", "_law_names", "_law_name", "_law_pick", "_law_others", "_law_more", "_law_other", "_law_one"]) (sc := defScope sLCard) (by decide +kernel))
        (fun _ _ _ _ _ => pg_name (i := 6) scLCard.nd rfl (Or.inl rfl)) (fun _ _ _ _ _ => pts_one (pt_cmpR op_ne (pv 6) (pv 2) (nomark _))) (fun _ _ _ _ _ => pv 6))
      (pss_cons (ps_if (pt_cmpR op_eq (pv 3) pe_int (nomark _)) (pss_one (ps_ret (pe_make T.mkr FI hr rfl T.g b3 v3 pass0 (pa_cons (pv 2) (pa_cons (pe_tup pa_nil) (pa_cons (pe_ix ix_list (pv 4) (pe_cl TK hr1 (pa_cons (pv 0) (pa_cons pe_int pa_nil))) (fun _ _ => rfl)) pa_nil)))))) pss_nil)
      (pss_cons (ps_set (i := 5) scLCard.nd rfl (.inl rfl) (pe_callTy call_tuple_of rfl B.tuple PyProof.Rows.boot_tuple (pa_cons (pe_slice sl_list
        (pe_lc (own := [("_law_other", 6)]) (g := gName 6) rfl scLCard.nd (pi_list (pv 4)) (blkOk_by (N := ["_law_row", "_law_names", "_law_name", "_law_pick", "_law_others", "_law_more", "_law_other", "_law_one"]) (sc := defScope sLCard) (by decide +kernel))
          (fun _ _ _ _ _ => pg_name (i := 6) scLCard.nd rfl (Or.inl rfl)) (fun _ _ _ _ _ => pts_one (pt_cmpR op_eq (pe_cl TK hr1 (pa_cons (pv 0) (pa_cons pe_int pa_nil))) pe_int (nomark _))) (fun _ _ _ _ _ => pv 6)) po_none (po_some pe_int)) pa_nil)))
      (pss_one (ps_ret (pe_make T.mkr FI hr rfl T.g b4 v4 pass0 (pa_cons (pv 2) (pa_cons (pe_callTy call_tuple_of rfl B.tuple PyProof.Rows.boot_tuple (pa_cons
        (pe_lc (own := [("_law_one", 7)]) (g := gName 7) rfl scLCard.nd (pi_tup (pe_tup (pa_cons pe_int (pa_cons pe_int (pa_cons pe_int (pa_cons pe_int pa_nil)))))) (blkOk_by (N := ["_law_row", "_law_names", "_law_name", "_law_pick", "_law_others", "_law_more", "_law_other", "_law_one"]) (sc := defScope sLCard) (by decide +kernel))
          (fun _ _ _ _ _ => pg_name (i := 7) scLCard.nd rfl (Or.inl rfl)) (fun _ _ _ _ _ => pts_one (pt_cmpR op_eq (pe_cl TK hr1 (pa_cons (pv 0) (pa_cons pe_int pa_nil))) pe_int (nomark _))) (fun _ _ _ _ _ => pv 7)) pa_nil)) (pa_cons pe_str (pa_cons (pv 5) pa_nil))))))))))), ?_⟩
    have fr : ∀ {H2 : Hp} {z : Addr}, RowAt K sc H2 r → H2 z = none → z ≠ r := fun k n e => by
      obtain ⟨xs, hx⟩ := k.ls
      rw [e, hx] at n
      cases n
    refine ⟨small_le (by decide), fun l nl => ?_⟩
    have lr := fr hR nl
    have c1 : But r H (upd H l (.lst [.str "ant", .str "bee", .str "cat", .str "dog", .str "elk"])) := .of (same_new nl)
    have R1 := hR.ext (LamX.ExtN.of (same_new (o := .lst [.str "ant", .str "bee", .str "cat", .str "dog", .str "elk"]) nl))
    refine ⟨_, rfl, _, rfl, r, sc, 5, rfl, by decide, by decide, R1, fun H2 v c2 R2 hv => ?_⟩
    have hl2 : H2 l = some (.lst [.str "ant", .str "bee", .str "cat", .str "dog", .str "elk"]) := c2 _ _ lr upd_same
    obtain ⟨nm, nm1, nm2, nm3⟩ : ∃ nm : Str, [V.str "ant", .str "bee", .str "cat", .str "dog", .str "elk"][v]? = some (.str nm) ∧ Wd nm ∧ (words6.filter fun o => decide (o ≠ nm)).length = 5 := by
      match v, hv with
      | 0, _ => exact ⟨"ant", rfl, by unfold Wd; decide +kernel, by decide +kernel⟩
      | 1, _ => exact ⟨"bee", rfl, by unfold Wd; decide +kernel, by decide +kernel⟩
      | 2, _ => exact ⟨"cat", rfl, by unfold Wd; decide +kernel, by decide +kernel⟩
      | 3, _ => exact ⟨"dog", rfl, by unfold Wd; decide +kernel, by decide +kernel⟩
      | 4, _ => exact ⟨"elk", rfl, by unfold Wd; decide +kernel, by decide +kernel⟩
    refine ⟨l, _, v, _, rfl, rfl, .inl (.inl hl2), atI_nat nm1, _, rfl, r, sc, 3, rfl, by decide, by decide, R2, fun H3 pk c3 R3 hpk => ⟨small_le (by show 2 ≤ _; decide), fun p np => ?_⟩⟩
    refine ⟨p, _, rfl, .of upd_same, rfl, _, _, rfl, _, _, rfl, rfl, ?_⟩
    have c04 : But r H (upd H3 p (.tup [.str nm, .int (pk : Int)])) := ((c1.trans c2).trans c3).trans (.of (same_new np))
    have R4 := R3.ext (LamX.ExtN.of (same_new (o := .tup [.str nm, .int (pk : Int)]) np))
    have hl4 : (upd H3 p (.tup [.str nm, .int (pk : Int)])) l = some (.lst [.str "ant", .str "bee", .str "cat", .str "dog", .str "elk"]) := same_new np _ _ (c3 _ _ lr hl2)
    generalize upd H3 p (.tup [.str nm, .int (pk : Int)]) = H4 at c04 R4 hl4
    -- the others
    refine ⟨_, rfl, small_le (by decide), fun z nz => ?_⟩
    have s5 : Same H4 (upd H4 z (.lst [.str "fox"])) := same_new nz
    refine ⟨l, z, _, _, rfl, rfl, s5 _ _ hl4, upd_same, small_le (by decide), fun l6 nl6 => ?_⟩
    have s6 := s5.trans (same_new (o := .lst ([.str "ant", .str "bee", .str "cat", .str "dog", .str "elk"] ++ [V.str "fox"])) nl6)
    have hl6 : (upd (upd H4 z (.lst [.str "fox"])) l6 (.lst ([.str "ant", .str "bee", .str "cat", .str "dog", .str "elk"] ++ [V.str "fox"]))) l6 = some (.lst (words6.map V.str)) := upd_same
    generalize upd (upd H4 z (.lst [.str "fox"])) l6 (.lst ([.str "ant", .str "bee", .str "cat", .str "dog", .str "elk"] ++ [V.str "fox"])) = H6 at s6 hl6
    generalize hO : (words6.filter fun o => decide (o ≠ nm)) = os at nm3
    refine ⟨l6, rfl, ⟨_, .inl (.inl hl6)⟩, fun D0 nD0 => lc_it (walk_list (xs := words6.map V.str)) (fun i H7 => Acc H6 D0 (((words6.take i).filter fun o => decide (o ≠ nm)).map V.str) H7) (Acc.start nD0) (fun i H7 _ a => .inl (.inl (a.2.1 _ _ hl6))) (fun i x H7 H8 hi a y => ?_) fun H7 a => ?_⟩
    · obtain ⟨rfl, hx⟩ := y
      rw [List.getElem?_map] at hx
      obtain ⟨o, ho, rfl⟩ := Option.map_eq_some_iff.mp hx
      obtain ⟨p1, p2⟩ := acc_pick (fun o => decide (o ≠ nm)) V.str a (Same.refl _) ho (by decide)
      refine ⟨rfl, _, rfl, _, rfl, rfl, _, rfl, ?_⟩
      by_cases e : o = nm
      · subst e
        exact ite_no (by rw [decide_eq_true rfl]; rfl) (p2 (by simp))
      · exact ite_yes (by rw [decide_eq_false fun z => e (V.str.inj z)]; rfl) ⟨_, rfl, p1 (decide_eq_true e)⟩
    · rw [show (words6.map V.str).length = 6 from rfl, show words6.take 6 = words6 from rfl, hO] at a
      have s7 := s6.trans a.2.1
      have R7 := R4.ext (LamX.ExtN.of s7)
      have c07 := c04.trans (.of s7)
      have dr : D0 ≠ r := fr (R4.ext (LamX.ExtN.of s6)) a.1
      have oW : ∀ o ∈ os, Wd o ∧ o ≠ nm := fun o ho => by
        rw [← hO] at ho
        have := List.mem_filter.mp ho
        exact ⟨this.1, of_decide_eq_true this.2⟩
      have oN : os.Nodup := hO ▸ List.Nodup.sublist List.filter_sublist (by decide +kernel)
      have hs7 : SqL K H7 D0 (os.map V.str) := a.seq
      have hD7 := a.2.2
      clear a hl6 s6 s5 nz nl6
      refine ⟨_, rfl, rfl, _, rfl, ?_⟩
      by_cases epk : V.int (pk : Int) = .int 0
      · refine ite_yes (decide_eq_true epk) ?_
        refine ⟨_, rfl, small_le (by show 0 ≤ _; decide), fun t nt => ?_⟩
        have s8 : Same H7 (upd H7 t (.tup [])) := same_new nt
        refine ⟨_, rfl, _, rfl, r, sc, 5, rfl, by decide, by decide, R7.ext (LamX.ExtN.of s8), fun H9 v c9 R9 hv => ?_⟩
        have hv5 : v < os.length := by omega
        have tr : t ≠ r := fr R7 nt
        refine ⟨D0, _, v, .str os[v], rfl, rfl, .inl (.inl (c9 _ _ dr (s8 _ _ hD7))), atI_nat (by rw [List.getElem?_map, List.getElem?_eq_getElem hv5]; rfl), ?_⟩
        have wo := oW os[v] (List.getElem_mem hv5)
        refine card_read (K := K) (bs := []) (os := []) (.of (c9 _ _ tr upd_same)) (T.t0 _) nm2 (by decide) (fun _ h => (List.not_mem_nil h).elim) .nil (by decide) .nil (fun _ h => (List.not_mem_nil h).elim) (.inr ⟨wo.1, wo.2, rfl, rfl⟩) fun H' x s10 hx => ?_
        exact q H' x nm ((((c07.trans (.of s8)).trans c9).trans (.of s10))) (R9.ext (LamX.ExtN.of s10)) hx
      · refine ite_no (decide_eq_false epk) ?_
        refine ⟨_, rfl, D0, rfl, ⟨_, hs7⟩, fun D1 nD1 => lc_it (walk_list (xs := os.map V.str)) (fun i H8 => ∃ L : List Str, L.Sublist (os.take i) ∧ AccB r H7 D1 (L.map V.str) H8 ∧ RowAt K sc H8 r) ⟨[], List.nil_sublist _, AccB.start R7.ls nD1, R7.ext (LamX.ExtN.of (same_new nD1))⟩ (fun i H8 _ a => ?_) (fun i x H8 H9 hi a y => ?_) fun H8 a => ?_⟩
        · obtain ⟨L, _, a, _⟩ := a
          exact sqL_but a.2.1.n dr hs7
        · obtain ⟨L, sL, a, R8⟩ := a
          obtain ⟨rfl, hx⟩ := y
          rw [List.getElem?_map] at hx
          obtain ⟨o, ho, rfl⟩ := Option.map_eq_some_iff.mp hx
          have io : i < os.length := (List.getElem?_eq_some_iff.mp ho).1
          have eo : os.take (i + 1) = os.take i ++ [o] := by
            rw [List.take_add_one, ho]
            rfl
          have lL := sL.length_le
          rw [List.length_take] at lL
          refine ⟨rfl, _, rfl, r, sc, 4, rfl, by decide, by decide, R8, fun H10 v c10 R10 hv => ⟨rfl, _, rfl, ?_⟩⟩
          by_cases ev : V.int (v : Int) = .int 0
          · refine ite_yes (decide_eq_true ev) ⟨_, rfl, ?_⟩
            obtain ⟨acc', k1, k2, k3⟩ := a.push (y := .str o) c10 (small_line (by rw [List.length_map]; omega)) rfl
            refine ⟨acc', k1, k2, L ++ [o], ?_, ?_, R7.over k3.2.1.n ?_⟩
            · rw [eo]
              exact List.Sublist.append sL (List.Sublist.refl _)
            · rw [List.map_append]
              exact k3
            · obtain ⟨c, g, u, e⟩ := R10.at
              exact ⟨c, g, u, by rw [upd_ne a.2.2.2.symm]; exact e⟩
          · refine ite_no (decide_eq_false ev) ⟨L, ?_, a.keep c10, R10⟩
            rw [eo]
            exact List.Sublist.trans sL (List.sublist_append_left _ _)
        · obtain ⟨L, sL, a, R8⟩ := a
          have sL : L.Sublist os := by rw [List.length_map, List.take_length] at sL; exact sL
          refine ⟨_, rfl, D1, _, rfl, a.seq, fun p np => ?_⟩
          rw [show cutV (L.map V.str) none (some 4) = (L.map V.str).take 4 from cut_to _ 4, ← List.map_take]
          have sM : (L.take 4).Sublist os := (List.take_sublist 4 L).trans sL
          have lM : (L.take 4).length ≤ 4 := by rw [List.length_take]; omega
          generalize L.take 4 = M at sM lM
          refine ⟨p, _, rfl, .inl ⟨.inl (.inl upd_same), fun m nm' => ?_⟩⟩
          have s9 : Same H8 (upd (upd H8 p (.lst (M.map V.str))) m (.tup (M.map V.str))) := (same_new np).trans (same_new nm')
          have hm : (upd (upd H8 p (.lst (M.map V.str))) m (.tup (M.map V.str))) m = some (.tup (M.map V.str)) := upd_same
          generalize upd (upd H8 p (.lst (M.map V.str))) m (.tup (M.map V.str)) = H9 at s9 hm
          have R9 := R8.ext (LamX.ExtN.of s9)
          have c09 := (c07.trans a.2.1).trans (.of s9)
          refine ⟨_, rfl, small_le (by show 4 ≤ _; decide), fun t nt => ⟨t, rfl, ⟨_, .of upd_same⟩, fun D2 nD2 => ?_⟩⟩
          have s10 : Same H9 (upd H9 t (.tup [V.int 1, .int 2, .int 3, .int 300])) := same_new nt
          have ht : (upd H9 t (.tup [V.int 1, .int 2, .int 3, .int 300])) t = some (.tup (([1, 2, 3, 300] : List Int).map V.int)) := upd_same
          generalize upd H9 t (.tup [V.int 1, .int 2, .int 3, .int 300]) = H10 at s10 ht nD2
          have R10 := R9.ext (LamX.ExtN.of s10)
          refine lc_it (walk_tup (xs := ([1, 2, 3, 300] : List Int).map V.int)) (fun i H11 => ∃ L : List Int, L.Sublist (([1, 2, 3, 300] : List Int).take i) ∧ AccB r H10 D2 (L.map V.int) H11 ∧ RowAt K sc H11 r) ⟨[], List.nil_sublist _, AccB.start R10.ls nD2, R10.ext (LamX.ExtN.of (same_new nD2))⟩ (fun i H8 _ a => ?_) (fun i x H11 H12 hi a y => ?_) fun H11 a => ?_
          · obtain ⟨L, _, a, _⟩ := a
            exact sqT_but a.2.1.n R10.ls (.of ht)
          · obtain ⟨L, sL, a, R11⟩ := a
            obtain ⟨rfl, hx⟩ := y
            rw [List.getElem?_map] at hx
            obtain ⟨o, ho, rfl⟩ := Option.map_eq_some_iff.mp hx
            have eo : ([1, 2, 3, 300] : List Int).take (i + 1) = ([1, 2, 3, 300] : List Int).take i ++ [o] := by
              rw [List.take_add_one, ho]
              rfl
            have lL := sL.length_le
            rw [List.length_take] at lL
            refine ⟨rfl, _, rfl, r, sc, 3, rfl, by decide, by decide, R11, fun H13 v c13 R13 hv => ⟨rfl, _, rfl, ?_⟩⟩
            by_cases ev : V.int (v : Int) = .int 0
            · refine ite_yes (decide_eq_true ev) ⟨_, rfl, ?_⟩
              obtain ⟨acc', k1, k2, k3⟩ := a.push (y := .int o) c13 (small_line (by rw [List.length_map]; simp at lL; omega)) rfl
              refine ⟨acc', k1, k2, L ++ [o], ?_, ?_, R10.over k3.2.1.n ?_⟩
              · rw [eo]
                exact List.Sublist.append sL (List.Sublist.refl _)
              · rw [List.map_append]
                exact k3
              · obtain ⟨c, g, u, e⟩ := R13.at
                exact ⟨c, g, u, by rw [upd_ne a.2.2.2.symm]; exact e⟩
            · refine ite_no (decide_eq_false ev) ⟨L, ?_, a.keep c13, R13⟩
              rw [eo]
              exact List.Sublist.trans sL (List.sublist_append_left _ _)
          · obtain ⟨L, sB, b, R11⟩ := a
            have sB : L.Sublist ([1, 2, 3, 300] : List Int) := sB
            refine ⟨D2, _, rfl, .inl ⟨b.seq, fun u nu => ?_⟩⟩
            have s12 : Same H11 (upd H11 u (.tup (L.map V.int))) := same_new nu
            have mr : m ≠ r := fun e => by
              obtain ⟨xs, hx⟩ := R9.ls
              rw [e, hx] at hm
              cases hm
            refine ⟨_, rfl, card_read (K := K) (bs := L) (os := M) (.of upd_same) (.of (s12 _ _ (b.2.1 _ _ mr (s10 _ _ hm)))) nm2 sB.length_le (fun x hx => ?_) (List.Pairwise.sublist sB (by decide)) lM (oN.sublist sM) (fun o ho => oW o (sM.subset ho)) (.inl rfl) fun H' x s13 hx => ?_⟩
            · have := sB.subset hx
              have key : ∀ x ∈ ([1, 2, 3, 300] : List Int), 1 ≤ x ∧ x ≤ 999 := by decide
              exact key x this
            · exact q H' x nm ((((c09.trans (.of s10)).trans b.2.1).trans (.of s12)).trans (.of s13)) ((R11.ext (LamX.ExtN.of s12)).ext (LamX.ExtN.of s13)) hx
end
end SrT
set_option Elab.async false
set_option linter.all false
set_option maxRecDepth 100000
set_option maxHeartbeats 4000000
set_option pp.maxSteps 1500
/-! _law_drawer. -/
namespace SrT
open PySem PySem.Spec PyProof.Rows L2 SrR SlX
theorem RowAt.exn {K : PySem.W.Frag} {sc : Addr} {H H' : Hp} {r : Addr} (e : LamX.ExtN H H') (h : RowAt K sc H r) : RowAt K sc H' r := h.ext e
theorem ButN.ext {r : Addr} {H H1 H2 : Hp} (a : ButN r H H1) (b : LamX.ExtN H1 H2) : ButN r H H2 := a.trans (.of b)
section
variable {P : Program} {w : World} {K : PySem.W.Frag} {mg : Str → Option Value} {base : Heap} {R : Addr} {CC fI pF pH gH T0 CD dI pR pC gC gL gG gK : Addr}
theorem scLDraw : FnScope ["_law_row", "_law_most", "_law_found", "_law_k"] ["_law_row", "_law_most"] (defScope sLDraw) := ⟨rfl, rfl, rfl, by decide +kernel, rfl, by decide +kernel, by decide +kernel⟩
def spLDraw (K : PySem.W.Frag) (CC CD : Addr) (T : List (Addr × Str)) : Sp := fun vs H Q _ => ∃ (r sc : Addr) (m : Nat), vs = [.ref r, .int m] ∧ m ≤ 15 ∧ RowAt K sc H r ∧ LamX.Tabs T H ∧
  ∀ H' d ps, ButN r H H' → RowAt K sc H' r → LamX.Tabs T H' → DrawAt K CC CD H' d ps → ps.length ≤ m → Q (.ref d) H'
theorem ok_ldraw {f c P1 P2 fT fC : Addr} (F : FunL K "_law_drawer" "_law_drawer" sLDraw f c) (g : mg "_law_drawer" = some (.ref f)) (TB : LamX.TabB base mg c P2) (hne : P1 ≠ P2) (TC : CardT K mg CC fI pF pH gH T0) (TD : DrawT K mg CD dI pR pC gC gL gG gK) (B : Bl mg) (C : Co K mg R)
    (TK : Cal P w K mg base CX0 1 "_law_taken" fT ["_law_row", "_law_many"] (spTaken K)) (LC : Cal P w K mg base CX0 5 "_law_card" fC ["_law_row"] (spLCard K CC)) :
    Cal P w K mg base CX0 6 "_law_drawer" f ["_law_row", "_law_most"] (spLDraw K CC CD (tabs P1 P2)) := by
  obtain ⟨fdI, FI, bI⟩ := ok_dInit (P := P) (w := w) (base := base) TD B C
  refine F.cal g scLDraw (fun vs H Q E h => ?_) (fun _ _ _ _ _ _ us hl => match us, hl with | [_, _], _ => rfl) (fun A outer s H vs Q E hr h => ?_)
  · obtain ⟨r, sc, m, rfl, _⟩ := h
    rfl
  · obtain ⟨r, sc, m, rfl, m15, hR, hT, q⟩ := h
    refine ⟨_, pss_cons (ps_setLc (i := 2) (own := [("_law_k", 3)]) (g := gName 3) (tt := tYes) rfl scLDraw.nd rfl rfl rfl (pi_range1 rfl B.range (pa_cons (pe_cl TK (hr.mono (by decide)) (pa_cons (pv 0) (pa_cons (pe_op op_add (pv 1) pe_int) pa_nil))) pa_nil)) (blkOk_by (N := ["_law_row", "_law_most", "_law_found", "_law_k"]) (sc := defScope sLDraw) (by decide +kernel))
        (fun _ _ _ _ _ => pg_name (i := 3) scLDraw.nd rfl (Or.inl rfl)) (fun _ _ _ _ _ => pts_nil) (fun _ _ _ _ _ => pe_cl LC hr (pa_cons (pv 0) pa_nil)))
      (pss_cons (ps_if (pt_cmpR op_eq (pe_cl TK (hr.mono (by decide)) (pa_cons (pv 0) (pa_cons pe_int pa_nil))) pe_int (nomark _)) (pss_one (ps_set (i := 2) scLDraw.nd rfl (.inl rfl)
        (pe_keySort (T := tabs P1 P2) (Hd := CardAt CC) (k := 2) (N := ["_law_one"]) (x := "_law_one") rfl B.sorted (pv 2) TB rfl (List.mem_cons_of_mem _ List.mem_cons_self) (fun p hp e => ?_) hr rfl
          ⟨rfl, rfl, rfl, by decide +kernel, rfl, by decide +kernel, by decide +kernel⟩ (fun _ => rfl) (fun H H' p e h => h.ext e) (fun _ _ _ _ _ => rfl)
          (fun A s H f c' hr2 => pe_conv (pe_propSl (E := E0) (pv 0) TC.sc TC.hAt TC.hGet TC.hTk TC.hRc (ok_cHead TC) (hr2.mono (by decide)) (fun _ _ _ _ z => z)) fun σ H Q hh => ?_)))) pss_nil)
      (pss_one (ps_ret (pe_make TD.mkr FI (hr.mono (by decide)) rfl TD.g bI .nil pass0 (pa_cons (pe_callTy call_tuple_of rfl B.tuple PyProof.Rows.boot_tuple (pa_cons (pv 2) pa_nil)) pa_nil))))), ?_⟩
    · rcases List.mem_cons.mp hp with rfl | hp
      · exact absurd e hne
      · rw [List.mem_singleton.mp hp]
        rfl
    · obtain ⟨p, h1, h2, q2⟩ := hh
      obtain ⟨dx, t, v2, v3, v4, h3, h4⟩ := id h2
      exact ⟨_, h1, p.1, dx, _, rfl, h3, p, rfl, h2, q2 H (Same.refl H)⟩
    · refine ⟨_, rfl, _, rfl, _, _, rfl, rfl, r, sc, m + 1, rfl, by omega, by omega, hR, fun H1 n b1 R1 hn => ⟨n, rfl, by omega, by omega, ?_⟩⟩
      rw [show ((n : Nat) : Int).toNat = n from Int.toNat_natCast n]
      have hT1 := Tabs.but b1 hR.ls hT
      refine fun D0 nD0 => lc_it (walk_range (lo := 0) (n := n)) (fun i H2 => ∃ ps : List KeyR, ps.length = i ∧ AccB r H1 D0 (refK ps) H2 ∧ RowAt K sc H2 r ∧ ∀ p ∈ ps, CardAt CC H2 p) ⟨[], rfl, AccB.start R1.ls nD0, R1.ext (LamX.ExtN.of (same_new nD0)), fun _ h => (List.not_mem_nil h).elim⟩ (fun _ _ _ _ => trivial) (fun i x H2 H3 hi a y => ?_) fun H2 a => ?_
      · obtain ⟨ps, el, a, R2, hc⟩ := a
        obtain ⟨rfl, hx⟩ := y
        refine ⟨rfl, _, rfl, r, sc, rfl, R2, fun H4 x4 h4 b4 R4 c4 => ?_⟩
        obtain ⟨acc', k1, k2, k3⟩ := a.push (y := .ref x4) b4 (small_line (by rw [List.length_map]; omega)) rfl
        have up : But r H4 (upd H4 D0 (.lst (acc' ++ [V.ref x4]))) → False ∨ True := fun _ => .inr trivial
        refine ⟨acc', k1, k2, ps ++ [(x4, h4)], by rw [List.length_append, el]; rfl, ?_, ?_, ?_⟩
        · rw [show refK (ps ++ [(x4, h4)]) = refK ps ++ [V.ref x4] from List.map_append]
          exact k3
        · refine R1.over k3.2.1.n ?_
          obtain ⟨c, g, u, e⟩ := R4.at
          exact ⟨c, g, u, by rw [upd_ne a.2.2.2.symm]; exact e⟩
        · have cu : ∀ p : KeyR, CardAt CC H4 p → CardAt CC (upd H4 D0 (.lst (acc' ++ [V.ref x4]))) p := fun p h => CardAt.but (r := D0) But.upd.n ⟨_, k1⟩ h
          intro p hp
          rcases List.mem_append.mp hp with hp | hp
          · exact cu p ((hc p hp).but b4.n R2.ls)
          · rw [List.mem_singleton.mp hp]
            exact cu _ c4
      · obtain ⟨ps, el, a, R2, hc⟩ := a
        have b02 : But r H H2 := b1.trans a.2.1
        have hT2 := Tabs.but a.2.1 R1.ls hT1
        have fin : ∀ (H5 : Hp) (D : Addr) (qs : List KeyR), SqL K H5 D (refK qs) → (∀ p ∈ qs, CardAt CC H5 p) → qs.length ≤ m → ButN r H H5 → RowAt K sc H5 r → LamX.Tabs (tabs P1 P2) H5 → ∃ p ys, [V.ref D] = [V.ref p] ∧ ((SqL K H5 p ys ∧ ∀ l, H5 l = none → ∀ x dx, (upd H5 l (.tup ys)) x = none → (upd H5 l (.tup ys)) dx = none → dx ≠ x →
            spDInit K CD (.ref x :: ([.ref l] ++ [])) (upd (upd (upd H5 l (.tup ys)) dx (.own x)) x (.ins CD dx [])) (fun v H2 => v = .non ∧ Q (.ref x) H2) E0) ∨
            (SqT K H5 p ys ∧ ∀ x dx, H5 x = none → H5 dx = none → dx ≠ x → spDInit K CD (.ref x :: ([.ref p] ++ [])) (upd (upd H5 dx (.own x)) x (.ins CD dx [])) (fun v H2 => v = .non ∧ Q (.ref x) H2) E0)) :=
          fun H5 D qs h1 h2 h3 h4 h5 h6 => draw_read (Q := fun x H => Q (.ref x) H) h1 (by omega) h2 fun H' d' s hd => q H' d' qs (h4.ext (LamX.ExtN.of s)) (h5.ext (LamX.ExtN.of s)) (h6.ext s) hd h3
        refine ⟨_, rfl, r, sc, 2, rfl, by decide, by decide, R2, fun H3 v b3 R3 hv => ⟨rfl, _, rfl, ?_⟩⟩
        have hT3 := Tabs.but b3 R2.ls hT2
        have hl3 : SqL K H3 D0 (refK ps) := (a.keep b3).seq
        have hc3 : ∀ p ∈ ps, CardAt CC H3 p := fun p hp => (hc p hp).but b3.n R2.ls
        by_cases ev : V.int (v : Int) = .int 0
        · refine ite_yes (decide_eq_true ev) ?_
          refine ⟨_, rfl, D0, ps, rfl, .inl hl3, hc3, hT3, fun H4 D eN T4 nD => ?_⟩
          have s5 : Same H4 (upd H4 D (.lst (refK (ps.mergeSort leK)))) := same_new nD
          refine ⟨_, rfl, fin _ D (ps.mergeSort leK) (.inl (.inl upd_same)) (fun p hp => ((hc3 p ((List.mergeSort_perm _ _).mem_iff.mp hp)).ext eN).same s5) (by rw [List.length_mergeSort]; omega) ?_ ((R3.ext eN).ext (LamX.ExtN.of s5)) (T4.ext s5)⟩
          exact ((b02.trans b3).n.ext eN).ext (LamX.ExtN.of s5)
        · refine ite_no (decide_eq_false ev) ?_
          exact ⟨_, rfl, fin _ D0 ps hl3 hc3 (by omega) (b02.trans b3).n R3 hT3⟩
end
end SrT
set_option Elab.async false
set_option linter.all false
set_option maxRecDepth 100000
set_option maxHeartbeats 4000000
set_option pp.maxSteps 1500
/-! _law_are_fit. -/
namespace SrT
open PySem PySem.Spec PyProof.Rows L2 SrR SlX
section
variable {P : Program} {w : World} {K : PySem.W.Frag} {mg : Str → Option Value} {base : Heap} {R : Addr} {CC fI pF pH gH T0 CD dI pR pC gC gL gG gK : Addr}
abbrev nLFit : List Str := ["_law_drawer_here", "_law_rule_here", "_law_tally", "_law_two", "_law_base", "_law_orders", "_law_most", "_law_order", "_law_here", "_law_told", "_law_k", "_law_one"]
theorem scLFit : FnScope nLFit ["_law_drawer_here", "_law_rule_here", "_law_tally", "_law_two"] (defScope sLFit) := ⟨rfl, rfl, rfl, by decide +kernel, rfl, by decide +kernel, by decide +kernel⟩
def spLFit (K : PySem.W.Frag) (CC CD : Addr) (T : List (Addr × Str)) : Sp := fun vs H Q _ => ∃ d ps, ∃ (r : Str) (ta : Addr) (ts : List TlyR) (two lo : Addr) (os : List OrdR) (m : Nat), vs = [.ref d, .str r, .ref ta, .ref two] ∧ DrawAt K CC CD H d ps ∧ ps.length ≤ 6 ∧ RuleOk r ∧ Tally K H ta ts ∧ LamX.Tabs T H ∧
  H two = some (.tup [.ref lo, .int m]) ∧ SqL K H lo (refO os) ∧ (∀ p ∈ os, OrdIn H p) ∧ os.map (·.2) = Sr.poss r (hsOf (ps.mergeSort leK)) (tlyOf ts) m ∧ m ≤ 2 ∧ ∀ H', LamX.ExtN H H' → LamX.Tabs T H' → Q (.bl true) H'
theorem ok_lfit {f fN fF fL fM : Addr} {T : List (Addr × Str)} (D : DefT K mg "_law_are_fit" sLFit ["_law_drawer_here", "_law_rule_here", "_law_tally", "_law_two"] f) (TD : DrawT K mg CD dI pR pC gC gL gG gK) (B : Bl mg) (C : Co K mg R)
    (N : Cal P w K mg base CX0 1 "is_number" fN ["value", "smallest", "largest"] spNum) (FD : Cal P w K mg base CX0 6 "filed" fF ["drawer"] (spFiled K CC CD T)) (LU : Cal P w K mg base CX0 5 "look_up" fL ["drawer", "rule", "heading"] (spLook K CC CD))
    (LM : Cal P w K mg base CX0 9 "_law_misplaced" fM ["_law_drawer_here", "_law_rule_here", "_law_tally", "_law_most"] (spLMis K CC CD T)) :
    Cal P w K mg base CX0 10 "_law_are_fit" f ["_law_drawer_here", "_law_rule_here", "_law_tally", "_law_two"] (spLFit K CC CD T) := by
  obtain ⟨fdI, FI, bI⟩ := ok_dInit (P := P) (w := w) (base := base) TD B C
  refine D.cal scLFit (fun vs H Q E h => ?_) (fun cdv A outer s H vs Q E hr h => ?_)
  · obtain ⟨d, ps, r, ta, ts, two, lo, os, m, rfl, _⟩ := h
    rfl
  · obtain ⟨d, ps, r, ta, ts, two, lo, os, m, rfl, hd, hl, ro, ht, hT, h2, hlo, hos, ho, m2, q⟩ := h
    refine ⟨_, pss_cons (ps_asg (pe_tup (pa_cons (pe_cl FD (hr.mono (by decide)) (pa_cons (pv 0) pa_nil)) (pa_cons (pe_ix ix_tup (pv 3) pe_int (fun _ _ => rfl)) (pa_cons (pe_ix ix_tup (pv 3) pe_int (fun _ _ => rfl)) pa_nil))))
        (pg_tup rfl (pgs_cons (pg_name (i := 4) scLFit.nd rfl (Or.inr rfl)) (pgs_cons (pg_name (i := 5) scLFit.nd rfl (Or.inl rfl)) (pgs_cons (pg_name (i := 6) scLFit.nd rfl (Or.inl rfl)) pgs_nil)))))
      (pss_cons (ps_for PassesOwn.never rfl (pi_list (pe_slice sl_list (pv 5) po_none (po_some pe_int))) (pg_name (i := 7) scLFit.nd rfl (Or.inr rfl))
        (pss_cons (ps_set (i := 8) scLFit.nd rfl (.inr rfl) (pe_make TD.mkr FI (hr.mono (by decide)) rfl TD.g bI .nil pass0 (pa_cons (pe_callTy call_tuple_of rfl B.tuple PyProof.Rows.boot_tuple (pa_cons
          (pe_lc (own := [("_law_k", 10)]) (g := gName 10) (tt := tYes) rfl scLFit.nd (pi_tup (pv 7)) (blkOk_by (N := nLFit) (sc := defScope sLFit) (by decide +kernel))
            (fun _ _ _ _ _ => pg_name (i := 10) scLFit.nd rfl (Or.inl rfl)) (fun _ _ _ _ _ => pts_nil) (fun _ _ _ _ _ => pe_ixSl (E := E0) TD.gS TD.gN TD.gI (ok_dGet TD B N) (hr.mono (by decide)) pass0 (pv 4) (pv 10) (fun _ _ => rfl))) pa_nil)) pa_nil)))
        (pss_one (ps_if (pt_cmpR (op_neD hr.units) (pe_lc (own := [("_law_one", 11)]) (g := gName 11) rfl scLFit.nd (pi_list (pv 2)) (blkOk_by (N := nLFit) (sc := defScope sLFit) (by decide +kernel))
            (fun _ _ _ _ _ => pg_name (i := 11) scLFit.nd rfl (Or.inl rfl)) (fun _ _ _ _ _ => pts_one (pt_cmpR op_ne (pe_callB (call_lenQ K) rfl B.len boot_len (pa_cons (pe_ix (ix_tupQ K) (pe_cl LU (hr.mono (by decide)) (pa_cons (pv 8) (pa_cons (pv 1) (pa_cons (pe_ix (ix_tupQ K) (pv 11) pe_int (fun _ _ => rfl)) pa_nil)))) pe_int (fun _ _ => rfl)) pa_nil)) (pe_ix (ix_tupQ K) (pv 11) pe_int (fun _ _ => rfl)) (nomark _)))
            (fun _ _ _ _ _ => pv 11)) (pe_lst pa_nil) (nomark _)) (pss_one (ps_ret pe_bl)) pss_nil))))
      (pss_cons (ps_set (i := 9) scLFit.nd rfl (.inl rfl) (pe_cl LM hr (pa_cons (pv 0) (pa_cons (pv 1) (pa_cons (pv 2) (pa_cons (pv 6) pa_nil))))))
      (pss_cons (ps_if (PW.pt (pw_or (pt_cmpR op_ne (pe_cmpR op_isN (pv 9) pe_non (nomark _)) (pe_cmpR (op_eqD hr.units) (pv 5) (pe_lst pa_nil) (nomark _)) (nomark _)) (pw_or1 (PW.pt (pw_and (pt_cmpR op_notN (pv 9) pe_non (nomark _)) (pw_and (pt_cmpR op_eq (pv 6) pe_int (nomark _)) (pw_and1 (pt_cmpR (op_neD hr.units) (pv 9) (pe_lst pa_nil) (nomark _)))))))))
        (pss_one (ps_ret pe_bl)) pss_nil)
      (pss_cons (ps_for PassesOwn.never rfl (pi_list (pv 5)) (pg_name (i := 7) scLFit.nd rfl (Or.inr rfl))
        (pss_one (ps_if (pt_cmpR (op_neD hr.units) (pe_lc (own := [("_law_k", 10)]) (g := gName 10) rfl scLFit.nd (pi_list (pv 9)) (blkOk_by (N := nLFit) (sc := defScope sLFit) (by decide +kernel))
            (fun _ _ _ _ _ => pg_name (i := 10) scLFit.nd rfl (Or.inl rfl)) (fun _ _ _ _ _ => pts_one (pt_cmpR op_eq (pe_ix (ix_tupQ K) (pv 7) (pv 10) (fun _ _ => rfl)) (pv 10) (nomark _))) (fun _ _ _ _ _ => pv 10)) (pe_lst pa_nil) (nomark _)) (pss_one (ps_ret pe_bl)) pss_nil)))
      (pss_one (ps_ret pe_bl)))))), ?_⟩
    refine ⟨_, rfl, d, ps, rfl, hd, by omega, hT, fun H1 b1 e1 T1 hb1 => ?_⟩
    have h21 : H1 two = some (.tup [.ref lo, .int m]) := e1 _ _ h2 fun _ z => nomatch z
    refine ⟨_, rfl, two, _, 0, _, rfl, rfl, .of h21, atI_nat (j := 0) rfl, _, rfl, two, _, 1, _, rfl, rfl, .of h21, atI_nat (j := 1) rfl, small_le (by show 3 ≤ _; decide), fun p np => ?_⟩
    refine ⟨p, _, rfl, .of upd_same, rfl, _, _, rfl, _, _, rfl, _, _, rfl, rfl, ?_⟩
    have s2 : Same H1 (upd H1 p (.tup [.ref b1, .ref lo, .int m])) := same_new np
    have hb2 := hb1.same s2
    have e2 := e1.trans (LamX.ExtN.of s2)
    have T2 := T1.ext s2
    generalize upd H1 p (.tup [.ref b1, .ref lo, .int m]) = H2 at s2 hb2 e2 T2
    have hlo2 := sqL_ext e2 hlo
    have hos2 : ∀ p ∈ os, OrdIn H2 p := fun p hp => (hos p hp).ext e2
    have ht2 := ht.ext e2
    have hd2 := hd.ext e2
    clear h21 h2 hb1 T1 s2 np
    generalize hpf : ps.mergeSort leK = pf at hb2 ho
    have lpf : pf.length = ps.length := by rw [← hpf, List.length_mergeSort]
    have lhs : (hsOf pf).length = ps.length := by rw [List.length_map, lpf]
    have lo1 : os.length ≤ 1000 := by
      have := Sr.poss_few (rule := r) (hs := hsOf pf) (tally := tlyOf ts) (m := m) (by omega) m2
      rw [← ho, List.length_map] at this
      exact this
    have gO : ∀ p ∈ os, Sr.Good ps.length p.2 ∧ Sr.fit r (hsOf pf) (tlyOf ts) p.2 = true := fun p hp => by
      have hm : p.2 ∈ Sr.poss r (hsOf pf) (tlyOf ts) m := by rw [← ho]; exact List.mem_map.mpr ⟨p, hp, rfl⟩
      have := Sr.poss_good p.2 hm
      rw [lhs] at this
      exact ⟨this, (Sr.mem_poss.mp hm).2⟩
    refine ⟨_, rfl, _, rfl, lo, _, rfl, hlo2, fun l6 n6 => ?_⟩
    rw [show cutV (refO os) none (some 6) = (refO os).take 6 from cut_to _ 6, ← List.map_take]
    have s3 : Same H2 (upd H2 l6 (.lst (refO (os.take 6)))) := same_new n6
    have k3 : (upd H2 l6 (.lst (refO (os.take 6)))) l6 = some (.lst (refO (os.take 6))) := upd_same
    generalize upd H2 l6 (.lst (refO (os.take 6))) = H3 at s3 k3
    refine ⟨l6, rfl, ⟨_, .inl (.inl k3)⟩, for_it (walk_list (xs := refO (os.take 6))) (fun i σ H4 => ∃ y7 y8, σ = [some (.ref d), some (.str r), some (.ref ta), some (.ref two), some (.ref b1), some (.ref lo), some (.int m), y7, y8, none, none, none] ∧ Same H3 H4)
      ⟨none, none, rfl, Same.refl _⟩ (fun i σ H4 _ hW => ?_) (fun i x σ H4 H5 hi hW y => ?_) (fun σ H4 hW => ?_)⟩
    · obtain ⟨_, _, _, s4⟩ := hW
      exact .inl (.inl (s4 _ _ k3))
    · obtain ⟨y7, y8, rfl, s4⟩ := hW
      obtain ⟨rfl, hx⟩ := y
      rw [List.getElem?_map] at hx
      obtain ⟨o, hoi, rfl⟩ := Option.map_eq_some_iff.mp hx
      have om : o ∈ os := List.mem_of_mem_take (List.mem_of_getElem? hoi)
      obtain ⟨good, fitO⟩ := gO o om
      have s25 := s3.trans s4
      have hoo := (hos2 o om).same s25
      have hb := hb2.same s25
      obtain ⟨⟨dx, t, hb3, hb4⟩, hb5⟩ := id hb
      have inPs : ∀ k ∈ o.2, ∃ m : Nat, k = m ∧ ∃ hm : m < pf.length, pf.getD k.toNat (0, Str.empty) = pf[m] := fun k hk => by
        obtain ⟨k0, k1⟩ := good.ge k hk
        refine ⟨k.toNat, by omega, by omega, ?_⟩
        simp [List.getD_eq_getElem?_getD, show k.toNat < pf.length by omega]
      have lenA : (refK (arrK pf o.2)).length = o.2.length := by rw [List.length_map, List.length_map]
      have lenI : (o.2.map V.int).length = o.2.length := List.length_map _
      refine ⟨_, rfl, o.1, rfl, ⟨_, .of hoo⟩, fun D0 nD0 => lc_it (walk_tup (xs := o.2.map V.int)) (fun i H6 => Acc H5 D0 ((refK (arrK pf o.2)).take i) H6) (Acc.start nD0) (fun i H6 _ a => sameT a.2.1 (.of hoo)) (fun i x H6 H7 hi a y => ?_) fun H6 a => ?_⟩
      · obtain ⟨rfl, hx⟩ := y
        rw [List.getElem?_map] at hx
        obtain ⟨k, hk, rfl⟩ := Option.map_eq_some_iff.mp hx
        obtain ⟨j, rfl, hm, em⟩ := inPs k (List.mem_of_getElem? hk)
        have s1 := a.2.1
        have g : (refK pf)[j]? = some (.ref (pf[j]).1) := by
          rw [List.getElem?_map, List.getElem?_eq_getElem hm]
          rfl
        have g2 : (refK (arrK pf o.2))[i]? = some (.ref (pf[j]).1) := by
          rw [List.getElem?_map, List.getElem?_map, hk]
          show some (V.ref (pf.getD ((j : Int)).toNat (0, Str.empty)).1) = _
          rw [em]
        refine ⟨rfl, _, rfl, _, rfl, b1, dx, _, rfl, slt_ext (LamX.ExtN.of s1) hb3, b1, dx, t, _, _, j, rfl, slt_ext (LamX.ExtN.of s1) hb3, sameT s1 hb4, g, a.pushV (Same.refl _) (small_line ?_) rfl (take_next g2)⟩
        rw [List.length_take, lenA]
        have := good.len
        omega
      · rw [lenI, ← lenA, List.take_length] at a
        have hc : ∀ p ∈ arrK pf o.2, CardAt CC H6 p := fun p hp => by
          obtain ⟨k, hk, rfl⟩ := List.mem_map.mp hp
          obtain ⟨j, rfl, hm, em⟩ := inPs k hk
          rw [em]
          exact (hb5 _ (List.getElem_mem hm)).same a.2.1
        have few : (arrK pf o.2).length ≤ 16 := by
          rw [List.length_map, good.len]
          omega
        refine draw_read (Q := fun x H => _) a.seq few hc fun H7 d7 s7 hd7 => ?_
        have s57 := (s25.trans a.2.1).trans s7
        have ht7 := ht2.same s57
        refine ⟨_, rfl, ta, rfl, ⟨_, ht7.1⟩, fun D1 nD1 => lc_it (walk_list (xs := ts.map fun q : TlyR => V.ref q.1)) (fun i H8 => Acc H7 D1 [] H8) (Acc.start nD1) (fun i H8 _ a => a.2.1.seq ht7.1) (fun i x H8 H9 hi b y => ?_) fun H8 b => ?_⟩
        · obtain ⟨rfl, hx⟩ := y
          rw [List.getElem?_map] at hx
          obtain ⟨z, hz, rfl⟩ := Option.map_eq_some_iff.mp hx
          have zm := List.mem_of_getElem? hz
          have ht9 := ht7.same b.2.1
          obtain ⟨w1, w2⟩ := ht9.2.1 z zm
          refine ⟨rfl, _, rfl, _, rfl, _, rfl, z.1, _, 0, _, rfl, rfl, .of w1, atI_nat (j := 0) rfl, d7, _, r, z.2.1, rfl, hd7.same b.2.1, few, ro, w2, fun H10 l lk => ?_⟩
          obtain ⟨s10, v, t5, L, k1, k2, k4⟩ := lk
          refine ⟨l, _, 1, _, rfl, rfl, .of k1, atI_nat (j := 1) rfl, t5, L, rfl, .inr k2, _, rfl, z.1, _, 1, _, rfl, rfl, .of (s10 _ _ w1), atI_nat (j := 1) rfl, rfl, _, rfl, ?_⟩
          have eq : (L.length : Int) = z.2.2 := by
            rw [k4, hs_arr]
            have := List.all_eq_true.mp fitO z.2 (List.mem_map.mpr ⟨z, zm, rfl⟩)
            exact of_decide_eq_true this
          refine ite_no ?_ ⟨b.1, b.2.1.trans s10, s10 _ _ b.2.2⟩
          rw [eq, decide_eq_true rfl]
          rfl
        · refine ⟨small_le (by show 0 ≤ _; decide), fun z nz => ⟨_, _, .lst ((same_new nz).seq b.seq) .nil, .lst (.inl (.inl upd_same)) .nil, rfl, rfl, _, rfl, ?_⟩⟩
          refine ite_no (by rw [eqv_nil]; rfl) ⟨_, _, rfl, ?_⟩
          exact ((s4.trans a.2.1).trans (s7.trans b.2.1)).trans (same_new nz)
    · obtain ⟨y7, y8, rfl, s4⟩ := hW
      have s25 := s3.trans s4
      have e4 := e2.trans (LamX.ExtN.of s25)
      have hlo4 := s25.seq hlo2
      have hos4 : ∀ p ∈ os, OrdIn H4 p := fun p hp => (hos2 p hp).same s25
      refine ⟨_, rfl, _, rfl, _, rfl, _, rfl, d, ps, r, ta, ts, m, rfl, hd2.same s25, hl, ro, ht2.same s25, m2, T2.ext s25, fun H5 e5 T5 => ?_⟩
      rw [hpf, ← ho]
      have hlo5 := sqL_ext e5 hlo4
      have hos5 : ∀ p ∈ os, OrdIn H5 p := fun p hp => (hos4 p hp).ext e5
      refine ⟨fun he => ?_, fun l he hl5 => ?_⟩
      · have he' : os = [] := List.map_eq_nil_iff.mp he
        subst he'
        refine ⟨_, rfl, rfl, _, rfl, small_le (by show 0 ≤ _; decide), fun z nz => ?_⟩
        have s6 : Same H5 (upd H5 z (.lst [])) := same_new nz
        refine ⟨_, _, dp_Os (s6.seq hlo5) (fun _ h => (List.not_mem_nil h).elim), .lst (.inl (.inl upd_same)) .nil, rfl, rfl, rfl, _, rfl, ?_⟩
        rw [show PyData.list [] = dOs [] from rfl, eqv_dOs]
        refine ite_no (by simp) ⟨_, rfl, rfl, _, rfl, ite_no (by simp) (iteF ?_)⟩
        refine ⟨_, rfl, lo, rfl, ⟨_, s6.seq hlo5⟩, for_it (walk_list (xs := refO [])) (fun i σ H7 => Same (upd H5 z (.lst [])) H7) (Same.refl _) (fun i σ H7 _ hW => hW.seq (s6.seq hlo5)) (fun i x σ H7 H8 hi hW y => absurd hi (Nat.not_lt_zero i)) (fun σ H7 hW => ?_)⟩
        exact q _ ((e4.trans e5).trans (LamX.ExtN.of (s6.trans hW))) (T5.ext (s6.trans hW))
      · have hno : os.map (·.2) ≠ [] := he
        refine ⟨_, rfl, rfl, _, rfl, small_le (by show 0 ≤ _; decide), fun z nz => ?_⟩
        have s6 : Same H5 (upd H5 z (.lst [])) := same_new nz
        refine ⟨_, _, dp_Os (s6.seq hlo5) (fun p hp => (hos5 p hp).same s6), .lst (.inl (.inl upd_same)) .nil, shp_Os _, rfl, rfl, _, rfl, ?_⟩
        rw [show PyData.list [] = dOs [] from rfl, eqv_dOs, decide_eq_false hno]
        refine ite_no (by simp) ⟨_, rfl, rfl, _, rfl, ite_yes (by simp) ⟨_, rfl, rfl, _, rfl, ?_⟩⟩
        have hl6 := s6 _ _ hl5
        generalize upd H5 z (.lst []) = H6 at s6 hl6
        have toldO : ∀ k ∈ Sr.told ps.length (os.map (·.2)), ∀ p ∈ os, ∃ j : Nat, k = j ∧ ∃ hj : j < p.2.length, p.2[j] ≠ k := fun k hk p hp => by
          obtain ⟨k0, k1⟩ := Sr.told_in hk
          have lp := (gO p hp).1.len
          refine ⟨k.toNat, by omega, by omega, fun e => ?_⟩
          have := List.all_eq_true.mp (List.mem_filter.mp hk).2 p.2 (List.mem_map.mpr ⟨p, hp, rfl⟩)
          have := of_decide_eq_true this
          rw [List.getD_eq_getElem?_getD, List.getElem?_eq_getElem (by omega)] at this
          exact this e
        generalize hks : Sr.told ps.length (os.map (·.2)) = ks at hl6 toldO
        by_cases hm : V.int (m : Int) = .int 0
        · refine ite_yes (decide_eq_true hm) ?_
          have m0 : m = 0 := by
            have := V.int.inj hm
            omega
          have k0 : ks = [] := by
            rw [← hks, ho, m0, ← lhs]
            rw [ho, m0] at hno
            exact Sr.told_0 hno
          have hl6' : SqL K H6 l [] := .inl (.inl (by rw [hl6, k0]; rfl))
          refine ⟨_, rfl, small_le (by show 0 ≤ _; decide), fun z nz => ?_⟩
          have s7 : Same H6 (upd H6 z (.lst [])) := same_new nz
          refine ⟨_, _, .lst (s7.seq hl6') .nil, .lst (.inl (.inl upd_same)) .nil, rfl, rfl, _, rfl, ?_⟩
          rw [eqv_nil]
          refine iteF ?_
          have hl7 := s7 _ _ hl6
          generalize upd H6 z (.lst []) = H7 at s7 hl7
          refine ⟨_, rfl, lo, rfl, ⟨_, (s6.trans s7).seq hlo5⟩, for_it (walk_list (xs := refO os)) (fun i σ HA => ∃ y7 y8, σ = [some (.ref d), some (.str r), some (.ref ta), some (.ref two), some (.ref b1), some (.ref lo), some (.int m), y7, y8, some (.ref l), none, none] ∧ Same H7 HA)
            ⟨_, _, rfl, Same.refl _⟩ (fun i σ HA _ hW => ?_) (fun i x σ HA HB hi hW y => ?_) (fun σ HA hW => ?_)⟩
          · obtain ⟨_, _, _, sA⟩ := hW
            exact ((s6.trans s7).trans sA).seq hlo5
          · obtain ⟨y7, y8, rfl, sA⟩ := hW
            obtain ⟨rfl, hx⟩ := y
            rw [List.getElem?_map] at hx
            obtain ⟨o, hoi, rfl⟩ := Option.map_eq_some_iff.mp hx
            have om : o ∈ os := List.mem_of_getElem? hoi
            have oo := (hos5 o om).same ((s6.trans s7).trans sA)
            have ll : SqL K HB l (ks.map V.int) := .inl (.inl (sA _ _ hl7))
            refine ⟨_, rfl, l, rfl, ⟨_, ll⟩, fun D0 nD0 => lc_it (walk_list (xs := ks.map V.int)) (fun i HC => Acc HB D0 [] HC) (Acc.start nD0) (fun i HC _ a => a.2.1.seq ll) (fun i x HC HD hi b y => ?_) fun HC b => ?_⟩
            · obtain ⟨rfl, hx⟩ := y
              rw [List.getElem?_map] at hx
              obtain ⟨k, hk, rfl⟩ := Option.map_eq_some_iff.mp hx
              obtain ⟨j, rfl, hj, ne⟩ := toldO k (List.mem_of_getElem? hk) o om
              have g1 : (o.2.map V.int)[j]? = some (V.int o.2[j]) := by
                rw [List.getElem?_map, List.getElem?_eq_getElem hj]
                rfl
              refine ⟨rfl, _, rfl, _, rfl, o.1, _, _, _, rfl, rfl, .of (oo.same b.2.1), atI_nat g1, _, rfl, rfl, _, rfl, ?_⟩
              exact ite_no (decide_eq_false fun e => ne (V.int.inj e)) b
            · refine ⟨small_le (by show 0 ≤ _; decide), fun z nz => ⟨_, _, .lst ((same_new nz).seq b.seq) .nil, .lst (.inl (.inl upd_same)) .nil, rfl, rfl, _, rfl, ?_⟩⟩
              refine ite_no (by rw [eqv_nil]; rfl) ⟨_, _, rfl, ?_⟩
              exact (sA.trans b.2.1).trans (same_new nz)
          · obtain ⟨y7, y8, rfl, sA⟩ := hW
            exact q _ ((e4.trans e5).trans (LamX.ExtN.of ((s6.trans s7).trans sA))) (T5.ext ((s6.trans s7).trans sA))
        · refine ite_no (decide_eq_false hm) (iteF ?_)
          refine ⟨_, rfl, lo, rfl, ⟨_, (s6).seq hlo5⟩, for_it (walk_list (xs := refO os)) (fun i σ H7 => ∃ y7 y8, σ = [some (.ref d), some (.str r), some (.ref ta), some (.ref two), some (.ref b1), some (.ref lo), some (.int m), y7, y8, some (.ref l), none, none] ∧ Same H6 H7)
            ⟨_, _, rfl, Same.refl _⟩ (fun i σ H7 _ hW => ?_) (fun i x σ H7 H8 hi hW y => ?_) (fun σ H7 hW => ?_)⟩
          · obtain ⟨_, _, _, s7⟩ := hW
            exact ((s6).trans s7).seq hlo5
          · obtain ⟨y7, y8, rfl, s7⟩ := hW
            obtain ⟨rfl, hx⟩ := y
            rw [List.getElem?_map] at hx
            obtain ⟨o, hoi, rfl⟩ := Option.map_eq_some_iff.mp hx
            have om : o ∈ os := List.mem_of_getElem? hoi
            have oo := (hos5 o om).same ((s6).trans s7)
            have ll : SqL K H8 l (ks.map V.int) := .inl (.inl (s7 _ _ hl6))
            refine ⟨_, rfl, l, rfl, ⟨_, ll⟩, fun D0 nD0 => lc_it (walk_list (xs := ks.map V.int)) (fun i H9 => Acc H8 D0 [] H9) (Acc.start nD0) (fun i H9 _ a => a.2.1.seq ll) (fun i x H9 H10 hi b y => ?_) fun H9 b => ?_⟩
            · obtain ⟨rfl, hx⟩ := y
              rw [List.getElem?_map] at hx
              obtain ⟨k, hk, rfl⟩ := Option.map_eq_some_iff.mp hx
              obtain ⟨j, rfl, hj, ne⟩ := toldO k (List.mem_of_getElem? hk) o om
              have g1 : (o.2.map V.int)[j]? = some (V.int o.2[j]) := by
                rw [List.getElem?_map, List.getElem?_eq_getElem hj]
                rfl
              refine ⟨rfl, _, rfl, _, rfl, o.1, _, _, _, rfl, rfl, .of (oo.same b.2.1), atI_nat g1, _, rfl, rfl, _, rfl, ?_⟩
              exact ite_no (decide_eq_false fun e => ne (V.int.inj e)) b
            · refine ⟨small_le (by show 0 ≤ _; decide), fun z nz => ⟨_, _, .lst ((same_new nz).seq b.seq) .nil, .lst (.inl (.inl upd_same)) .nil, rfl, rfl, _, rfl, ?_⟩⟩
              refine ite_no (by rw [eqv_nil]; rfl) ⟨_, _, rfl, ?_⟩
              exact (s7.trans b.2.1).trans (same_new nz)
          · obtain ⟨y7, y8, rfl, s7⟩ := hW
            exact q _ ((e4.trans e5).trans (LamX.ExtN.of ((s6).trans s7))) (T5.ext ((s6).trans s7))
end
end SrT
set_option Elab.async false
set_option linter.all false
set_option maxRecDepth 100000
set_option maxHeartbeats 4000000
set_option pp.maxSteps 1500
/-! what the law's walk needs: the things it holds, as data and in the heap. -/
namespace SrT
open PySem PySem.Spec PyProof.Rows L2 SrR SlX
theorem op_notInQ {X : Cx} (K : PySem.W.Frag) (hu : X.A.units + 65 < cLine) (h : X.K = K := by rfl) : OpR X (compareOp .NotIn) (rNotInD K) := by
  subst h
  exact op_notInD hu
theorem hu65 {A : Around} {k : Nat} (hr : Room k A) : A.units + 65 < cLine := by
  have := hr.un
  omega
theorem leK_tr : ∀ a b c : KeyR, leK a b = true → leK b c = true → leK a c = true := fun a b c h1 h2 => decide_eq_true (List.le_trans (of_decide_eq_true h1) (of_decide_eq_true h2))
theorem leK_tot : ∀ a b : KeyR, (leK a b || leK b a) = true := fun a b => by
  rcases List.le_total (l₁ := a.2.cps.toList) (l₂ := b.2.cps.toList) with h | h
  · unfold leK
    rw [decide_eq_true h]
    rfl
  · unfold leK
    rw [decide_eq_true h, Bool.or_true]
theorem filed_again (ps : List KeyR) : (ps.mergeSort leK).mergeSort leK = ps.mergeSort leK := List.mergeSort_of_pairwise (List.pairwise_mergeSort leK_tr leK_tot ps)
theorem DrawAt.but {K : PySem.W.Frag} {CC CD r : Addr} {H H' : Hp} {d : Addr} {ps : List KeyR} (e : ButN r H H') (l : Ls r H) (h : DrawAt K CC CD H d ps) : DrawAt K CC CD H' d ps := by
  obtain ⟨⟨dx, t, h1, h2⟩, h3⟩ := h
  exact ⟨⟨dx, t, slt_but e l h1, sqT_but e l h2⟩, fun p hp => (h3 p hp).but e l⟩
/-- a list of orders at a -/
structure Os (K : PySem.W.Frag) (H : Hp) (a : Addr) (os : List OrdR) : Prop where
  l : SqL K H a (refO os)
  o : ∀ p ∈ os, OrdIn H p
theorem Os.ext {K : PySem.W.Frag} {H H' : Hp} {a : Addr} {os : List OrdR} (e : LamX.ExtN H H') (h : Os K H a os) : Os K H' a os := ⟨sqL_ext e h.l, fun p hp => (h.o p hp).ext e⟩
theorem Os.same {K : PySem.W.Frag} {H H' : Hp} {a : Addr} {os : List OrdR} (e : Same H H') (h : Os K H a os) : Os K H' a os := h.ext (LamX.ExtN.of e)
theorem Os.dp {K : PySem.W.Frag} {H : Hp} {a : Addr} {os : List OrdR} (h : Os K H a os) : Dp K H (.ref a) (dOs (os.map (·.2))) := dp_Os h.l h.o
/-- what the law holds in one turn: the row at r over the script at sc, the drawers at d and b, the tally at l -/
structure LS (K : PySem.W.Frag) (CC CD : Addr) (T : List (Addr × Str)) (r sc d b l : Addr) (ps : List KeyR) (ts : List TlyR) (H : Hp) : Prop where
  row : RowAt K sc H r
  tab : LamX.Tabs T H
  dr : DrawAt K CC CD H d ps
  ba : DrawAt K CC CD H b (ps.mergeSort leK)
  tl : H l = some (.lst (ts.map fun q => V.ref q.1))
  ty : ∀ q ∈ ts, TlyAt H q ∧ Wd q.2.1
  ne : l ≠ r
  fx : ∃ ns : List Int, ns.length ≤ 63 ∧ ∀ H', (∀ b o, b ≠ r → b ≠ l → H b = some o → (∀ ps, o ≠ .tbl ps) → H' b = some o) → SqL K H' sc (ns.map V.int)
section
variable {K : PySem.W.Frag} {CC CD : Addr} {T : List (Addr × Str)} {r sc d b l : Addr} {ps : List KeyR} {ts : List TlyR} {H H' : Hp}
theorem LS.fx' (h : LS K CC CD T r sc d b l ps ts H) (e : ∀ b o, b ≠ r → b ≠ l → H b = some o → (∀ ps, o ≠ .tbl ps) → H' b = some o) : ∃ ns : List Int, ns.length ≤ 63 ∧ ∀ H2, (∀ b o, b ≠ r → b ≠ l → H' b = some o → (∀ ps, o ≠ .tbl ps) → H2 b = some o) → SqL K H2 sc (ns.map V.int) := by
  obtain ⟨ns, f1, f2⟩ := h.fx
  exact ⟨ns, f1, fun H2 k => f2 H2 fun b o n1 n2 q z => k b o n1 n2 (e b o n1 n2 q z) z⟩
theorem LS.ext (h : LS K CC CD T r sc d b l ps ts H) (e : LamX.ExtN H H') (t : LamX.Tabs T H') : LS K CC CD T r sc d b l ps ts H' :=
  ⟨h.row.ext e, t, h.dr.ext e, h.ba.ext e, e _ _ h.tl (fun _ z => nomatch z), fun q hq => ⟨e _ _ (h.ty q hq).1 (fun _ z => nomatch z), (h.ty q hq).2⟩, h.ne, h.fx' fun b o _ _ q z => e b o q z⟩
theorem LS.same (h : LS K CC CD T r sc d b l ps ts H) (e : Same H H') : LS K CC CD T r sc d b l ps ts H' := h.ext (LamX.ExtN.of e) (h.tab.ext e)
theorem LS.draw (h : LS K CC CD T r sc d b l ps ts H) (e : But r H H') (k : RowAt K sc H' r) : LS K CC CD T r sc d b l ps ts H' :=
  ⟨k, Tabs.but e h.row.ls h.tab, h.dr.but e.n h.row.ls, h.ba.but e.n h.row.ls, e _ _ h.ne h.tl, fun q hq => ⟨e _ _ (h.row.ls.ne (h.ty q hq).1 (fun _ z => nomatch z)) (h.ty q hq).1, (h.ty q hq).2⟩, h.ne, h.fx' fun b o n _ q _ => e b o n q⟩
theorem LS.tally (h : LS K CC CD T r sc d b l ps ts H) (few : ts.length ≤ 16) : Tally K H l ts := ⟨.inl (.inl h.tl), h.ty, few⟩
theorem LS.push (h : LS K CC CD T r sc d b l ps ts H) {q : TlyR} (hq : TlyAt H q) (w : Wd q.2.1) : LS K CC CD T r sc d b l ps (ts ++ [q]) (upd H l (.lst ((ts.map fun q => V.ref q.1) ++ [.ref q.1]))) := by
  have e : But l H (upd H l (.lst ((ts.map fun q => V.ref q.1) ++ [.ref q.1]))) := But.upd
  have ls : Ls l H := ⟨_, h.tl⟩
  refine ⟨?_, Tabs.but e ls h.tab, h.dr.but e.n ls, h.ba.but e.n ls, by rw [upd_same, List.map_append]; rfl, fun z hz => ?_, h.ne, h.fx' fun b o _ n q _ => e b o n q⟩
  · obtain ⟨c, g, u, h1⟩ := h.row.at
    obtain ⟨ns, f1, f2⟩ := h.fx
    refine ⟨ns, c, g, u, by rw [upd_ne h.ne.symm]; exact h1, fun H2 k => f2 H2 fun b o n1 n2 q z => k b o n1 (e b o n2 q) z, f1⟩
  · have t : ∀ z, TlyAt H z → TlyAt (upd H l (.lst ((ts.map fun q => V.ref q.1) ++ [.ref q.1]))) z := fun z hz => e _ _ (ls.ne hz fun _ z => nomatch z) hz
    rcases List.mem_append.mp hz with hz | hz
    · exact ⟨t z (h.ty z hz).1, (h.ty z hz).2⟩
    · rw [List.mem_singleton.mp hz]
      exact ⟨t q hq, w⟩
/-- at the tally's making -/
theorem LS.start (row : RowAt K sc H r) (tab : LamX.Tabs T H) (dr : DrawAt K CC CD H d ps) (ba : DrawAt K CC CD H b (ps.mergeSort leK)) (nl : H l = none) : LS K CC CD T r sc d b l ps [] (upd H l (.lst [])) := by
  have s : Same H (upd H l (.lst [])) := same_new nl
  obtain ⟨ns, c, g, u, h1, h2, h4⟩ := id row
  have ne : l ≠ r := fun z => by
    rw [z, h1] at nl
    cases nl
  refine ⟨row.ext (LamX.ExtN.of s), tab.ext s, dr.same s, ba.same s, upd_same, fun _ h => (List.not_mem_nil h).elim, ne, ns, h4, fun H2 k => h2 H2 fun b o n q z => k b o n (ne_of_none q nl) (s b o q) z⟩
end
/-- tally entries as data -/
def dT (t : Str × Int) : PyData := .tuple [.str t.1, .int t.2]
theorem dT_lay {t : Str × Int} (w : Wd t.1) : (dT t).canLay0 = true ∧ (dT t).depth ≤ 1 := by
  unfold dT
  simp [PyData.canLay0, PyData.canLayAll0, PyData.depth, PyData.depthAll, strOkW w]
theorem all_dpT (K : PySem.W.Frag) (H : Hp) : ∀ ts : List TlyR, (∀ q ∈ ts, TlyAt H q) → DpAll K H (ts.map fun q => V.ref q.1) ((tlyOf ts).map dT)
  | [], _ => .nil
  | q :: r, h => .cons (.tup (.of (h q List.mem_cons_self)) (.cons (.str _) (.cons (.int _) .nil))) (all_dpT K H r fun z hz => h z (List.mem_cons_of_mem _ hz))
end SrT
set_option Elab.async false
set_option linter.all false
set_option maxRecDepth 100000
set_option maxHeartbeats 4000000
set_option pp.maxSteps 1500
/-! law. -/
namespace SrT
open PySem PySem.Spec PyProof.Rows L2 SrR SlX
theorem arr_id (hs : List Str) : Sr.arr hs (Sr.idO hs.length) = hs := by
  refine List.ext_getElem? fun i => ?_
  unfold Sr.arr Sr.idO
  rw [List.getElem?_map, List.getElem?_map]
  by_cases h : i < hs.length
  · rw [List.getElem?_range h, List.getElem?_eq_getElem h]
    show some (hs.getD ((i : Int)).toNat Str.empty) = some hs[i]
    rw [show ((i : Int)).toNat = i from Int.toNat_natCast i, List.getD_eq_getElem?_getD, List.getElem?_eq_getElem h]
    rfl
  · rw [List.getElem?_eq_none (l := List.range hs.length) (by rw [List.length_range]; omega), List.getElem?_eq_none (l := hs) (by omega)]
    rfl
/-- the tally's entries that do not fit the filed drawer -/
def offs (r : Str) (hs : List Str) (ts : List TlyR) : List TlyR := ts.filter fun q => !decide ((Sr.looksOf r hs q.2.1 : Int) = q.2.2)
theorem offs_fit (r : Str) (hs : List Str) (ts : List TlyR) : decide ((tlyOf (offs r hs ts)).map dT = []) = Sr.fit r hs (tlyOf ts) (Sr.idO hs.length) := by
  unfold Sr.fit
  rw [arr_id, Bool.eq_iff_iff, decide_eq_true_iff, List.all_eq_true, List.map_eq_nil_iff, List.map_eq_nil_iff]
  unfold offs
  rw [List.filter_eq_nil_iff]
  constructor
  · intro h t ht
    obtain ⟨q, hq, rfl⟩ := List.mem_map.mp ht
    have := h q hq
    simpa using this
  · intro h q hq
    have := h q.2 (List.mem_map.mpr ⟨q, hq, rfl⟩)
    simpa using this
theorem cr_setQ {X : Cx} (K : PySem.W.Frag) (P : Program) (w : World) (hc : X.calm = true) (hu : X.A.units + 64 < cLine) (h : X.K = K := by rfl) (hP : X.prog = P := by rfl) (hw : X.w = w := by rfl) : CallR X (.type "set") (rSetO K P w) := by
  subst h hP hw
  exact cr_setO hc hu
theorem cr_sortQ {X : Cx} (K : PySem.W.Frag) (P : Program) (w : World) (hc : X.calm = true) (hu : X.A.units + 64 < cLine) (h : X.K = K := by rfl) (hP : X.prog = P := by rfl) (hw : X.w = w := by rfl) : CallR X (.builtin "sorted") (rSortSet K P w) := by
  subst h hP hw
  exact cr_sortSet hc hu
section
variable {P : Program} {w : World} {K : PySem.W.Frag} {mg : Str → Option Value} {base : Heap} {R : Addr} {CC fI pF pH gH T0 CD dI pR pC gC gL gG gK : Addr}
abbrev nLaw : List Str := ["_law_script", "_law_row", "_law_turn", "_law_drawer_here", "_law_rule_here", "_law_base", "_law_many", "_law_tally", "_law_name", "_law_before", "_law_most", "_law_orders", "_law_less", "_law_own", "_law_is_so", "_law_order", "_law_one"]
theorem scLaw : FnScope nLaw ["_law_script"] (defScope sLaw) := ⟨rfl, rfl, rfl, by decide +kernel, rfl, by decide +kernel, by decide +kernel⟩
def spLaw (K : PySem.W.Frag) (T : List (Addr × Str)) : Sp := fun vs H Q _ => ∃ (sc : Addr) (ns : List Int), vs = [.ref sc] ∧ SqL K H sc (ns.map V.int) ∧ ns.length ≤ 63 ∧ LamX.Tabs T H ∧ ∀ H', Q (.bl true) H'
theorem ok_law {f fD fR fF fT fL fP fA : Addr} {fd : FuncData} {T : List (Addr × Str)} (F : Fun K "law" "law" sLaw f fd) (TD : DrawT K mg CD dI pR pC gC gL gG gK) (B : Bl mg)
    (LD : Cal P w K mg base CX0 6 "_law_drawer" fD ["_law_row", "_law_most"] (spLDraw K CC CD T)) (LR : Cal P w K mg base CX0 2 "_law_rule" fR ["_law_row"] (spLRule K)) (FD : Cal P w K mg base CX0 6 "filed" fF ["drawer"] (spFiled K CC CD T))
    (TK : Cal P w K mg base CX0 1 "_law_taken" fT ["_law_row", "_law_many"] (spTaken K)) (LU : Cal P w K mg base CX0 5 "look_up" fL ["drawer", "rule", "heading"] (spLook K CC CD)) (PO : Cal P w K mg base CX0 8 "possible_orders" fP ["drawer", "rule", "tally", "most"] (spAllO K CC CD T))
    (LF : Cal P w K mg base CX0 10 "_law_are_fit" fA ["_law_drawer_here", "_law_rule_here", "_law_tally", "_law_two"] (spLFit K CC CD T)) :
    FnOk P w K mg base CX0 11 f fd ["_law_script"] (spLaw K T) := by
  refine F.ok scLaw (fun vs H Q E h => ?_) (fun cdv A outer s H vs Q E hr h => ?_)
  · obtain ⟨sc, ns, rfl, _⟩ := h
    rfl
  · obtain ⟨sc, ns, rfl, hs, hl, hT, q⟩ := h
    have hr1 : Room 1 _ := hr.mono (by decide)
    have hr5 : Room 5 _ := hr.mono (by decide)
    have hr8 : Room 8 _ := hr.mono (by decide)
    refine ⟨_, pss_cons (ps_set (i := 1) scLaw.nd rfl (.inl rfl) (pe_lst (pa_cons (pv 0) (pa_cons pe_int (pa_cons pe_int (pa_cons pe_int pa_nil))))))
      (pss_cons (ps_for PassesOwn.never rfl (pi_range1 rfl B.range (pa_cons pe_int pa_nil)) (pg_name (i := 2) scLaw.nd rfl (Or.inl rfl))
        (pss_cons (ps_asg (pe_tup (pa_cons (pe_cl LD (hr.mono (by decide)) (pa_cons (pv 1) (pa_cons pe_int pa_nil))) (pa_cons (pe_cl LR (hr.mono (by decide)) (pa_cons (pv 1) pa_nil)) pa_nil)))
          (pg_tup rfl (pgs_cons (pg_name (i := 3) scLaw.nd rfl (Or.inl rfl)) (pgs_cons (pg_name (i := 4) scLaw.nd rfl (Or.inr rfl)) pgs_nil))))
        (pss_cons (ps_asg (pe_tup (pa_cons (pe_cl FD (hr.mono (by decide)) (pa_cons (pv 3) pa_nil)) (pa_cons (pe_callB (call_lenSl (E := E0) TD.lS TD.lI (ok_dLen TD B) (hr.mono (by decide)) pass0) rfl B.len boot_len (pa_cons (pv 3) pa_nil)) pa_nil)))
          (pg_tup rfl (pgs_cons (pg_name (i := 5) scLaw.nd rfl (Or.inr rfl)) (pgs_cons (pg_name (i := 6) scLaw.nd rfl (Or.inl rfl)) pgs_nil))))
        (pss_cons (ps_set (i := 7) scLaw.nd rfl (.inl rfl) (pe_lst pa_nil))
        (pss_cons (ps_for PassesOwn.never rfl (pi_tup (pe_tup (pa_cons pe_str (pa_cons pe_str (pa_cons pe_str pa_nil))))) (pg_name (i := 8) scLaw.nd rfl (Or.inl rfl))
          (pss_one (ps_if (pt_cmpR op_eq (pe_cl TK hr1 (pa_cons (pv 1) (pa_cons pe_int pa_nil))) pe_int (nomark _))
            (pss_one (ps_expr (pe_bm PySem.F.plainAttrs_list PySem.F.slot_list_append PySem.F.type_list_append mt_append (pv 7) (pa_cons (pe_tup (pa_cons (pv 8) (pa_cons (pe_callB call_len_seq rfl B.len boot_len (pa_cons (pe_ix ix_tup (pe_cl LU hr5 (pa_cons (pv 3) (pa_cons (pv 4) (pa_cons (pv 8) pa_nil)))) pe_int (fun _ _ => rfl)) pa_nil)) pa_nil))) pa_nil)))) pss_nil)))
        (pss_cons (ps_set (i := 9) scLaw.nd rfl (.inl rfl) (pe_lst pa_nil))
        (pss_cons (ps_for PassesOwn.never rfl (pi_range1 rfl B.range (pa_cons pe_int pa_nil)) (pg_name (i := 10) scLaw.nd rfl (Or.inl rfl))
          (pss_cons (ps_set (i := 11) scLaw.nd rfl (.inr rfl) (pe_cl PO hr8 (pa_cons (pv 3) (pa_cons (pv 4) (pa_cons (pv 7) (pa_cons (pv 10) pa_nil))))))
          (pss_cons (ps_if (PW.pt (pw_or (pt_cmpR (op_neD hr.units) (pe_lc (own := [("_law_order", 15)]) (g := gName 15) rfl scLaw.nd (pi_list (pv 9)) (blkOk_by (N := nLaw) (sc := defScope sLaw) (by decide +kernel))
                (fun _ _ _ _ _ => pg_name (i := 15) scLaw.nd rfl (Or.inl rfl)) (fun _ _ _ _ _ => pts_one (pt_cmpR (op_notInQ K (hu65 hr)) (pv 15) (pv 11) (by rfl))) (fun _ _ _ _ _ => pv 15)) (pe_lst pa_nil) (nomark _))
              (pw_or1 (pt_cmpR (op_neD hr.units) (pv 11) (pe_callB (cr_sortQ K P w rfl hr.units) rfl B.sorted PyProof.Rows.boot_sorted (pa_cons (pe_callTy (cr_setQ K P w rfl hr.units) rfl B.set PyProof.Rows.boot_set (pa_cons (pv 11) pa_nil)) pa_nil)) (nomark _)))))
            (pss_one (ps_ret pe_bl)) pss_nil)
          (pss_cons (ps_if (pt_cmpR (op_neD hr.units) (pe_cl PO hr8 (pa_cons (pv 5) (pa_cons (pv 4) (pa_cons (pv 7) (pa_cons (pv 10) pa_nil))))) (pv 11) (nomark _)) (pss_one (ps_ret pe_bl)) pss_nil)
          (pss_cons (ps_set (i := 12) scLaw.nd rfl (.inr rfl) (pe_cl PO hr8 (pa_cons (pv 3) (pa_cons (pv 4) (pa_cons (pe_slice sl_list (pv 7) po_none (po_some (pe_un un_neg pe_int))) (pa_cons (pv 10) pa_nil))))))
          (pss_cons (ps_if (pt_cmpR (op_neD hr.units) (pe_lc (own := [("_law_order", 15)]) (g := gName 15) rfl scLaw.nd (pi_list (pv 11)) (blkOk_by (N := nLaw) (sc := defScope sLaw) (by decide +kernel))
                (fun _ _ _ _ _ => pg_name (i := 15) scLaw.nd rfl (Or.inl rfl)) (fun _ _ _ _ _ => pts_one (pt_cmpR (op_notInQ K (hu65 hr)) (pv 15) (pv 12) (by rfl))) (fun _ _ _ _ _ => pv 15)) (pe_lst pa_nil) (nomark _)) (pss_one (ps_ret pe_bl)) pss_nil)
          (pss_cons (ps_if (pt_not (pt_val (pe_cl LF hr (pa_cons (pv 3) (pa_cons (pv 4) (pa_cons (pv 7) (pa_cons (pe_tup (pa_cons (pv 11) (pa_cons (pv 10) pa_nil))) pa_nil))))))) (pss_one (ps_ret pe_bl)) pss_nil)
          (pss_one (ps_set (i := 9) scLaw.nd rfl (.inl rfl) (pv 11))))))))))
        (pss_cons (ps_set (i := 13) scLaw.nd rfl (.inl rfl) (pe_tupRg rfl rfl B.tuple (prg_1 rfl B.range (pv 6))))
        (pss_cons (ps_set (i := 14) scLaw.nd rfl (.inl rfl) (pe_cmpR (op_eqD hr.units) (pe_lc (own := [("_law_one", 16)]) (g := gName 16) rfl scLaw.nd (pi_list (pv 7)) (blkOk_by (N := nLaw) (sc := defScope sLaw) (by decide +kernel))
            (fun _ _ _ _ _ => pg_name (i := 16) scLaw.nd rfl (Or.inl rfl)) (fun _ _ _ _ _ => pts_one (pt_cmpR op_ne (pe_callB (call_lenQ K) rfl B.len boot_len (pa_cons (pe_ix (ix_tupQ K) (pe_cl LU hr5 (pa_cons (pv 5) (pa_cons (pv 4) (pa_cons (pe_ix (ix_tupQ K) (pv 16) pe_int (fun _ _ => rfl)) pa_nil)))) pe_int (fun _ _ => rfl)) pa_nil)) (pe_ix (ix_tupQ K) (pv 16) pe_int (fun _ _ => rfl)) (nomark _)))
            (fun _ _ _ _ _ => pv 16)) (pe_lst pa_nil) (nomark _)))
        (pss_cons (ps_if (PW.pt (pw_or (pt_cmpR op_ne (pe_cmpR (op_inD (hu65 hr)) (pv 13) (pv 9) (by rfl)) (pv 14) (nomark _)) (pw_or1 (pt_cmpR (op_neD hr.units) (pe_cl PO hr8 (pa_cons (pv 3) (pa_cons (pv 4) (pa_cons (pe_lst pa_nil) (pa_cons pe_int pa_nil))))) (pe_lst (pa_cons (pv 13) pa_nil)) (nomark _)))))
          (pss_one (ps_ret pe_bl)) pss_nil)
        (pss_one (ps_if (pt_cmpR op_ne (pe_callB call_len_seq rfl B.len boot_len (pa_cons (pe_cl PO hr8 (pa_cons (pv 3) (pa_cons (pv 4) (pa_cons (pe_lst pa_nil) (pa_cons pe_int pa_nil))))) pa_nil)) (pe_op op_add pe_int (pe_op op_pow (pe_callB (call_max2 rfl) rfl B.max PyProof.Rows.boot_max (pa_cons pe_int (pa_cons (pe_op op_sub (pv 6) pe_int) pa_nil))) pe_int)) (nomark _))
          (pss_one (ps_ret pe_bl)) pss_nil))))))))))))
      (pss_one (ps_ret pe_bl))), ?_⟩
    refine ⟨_, rfl, small_le (by show 4 ≤ _; decide), fun rw nrw => ?_⟩
    have s1 : Same H (upd H rw (.lst [.ref sc, .int 0, .int 0, .int 0])) := same_new nrw
    have R1 : RowAt K sc (upd H rw (.lst [.ref sc, .int 0, .int 0, .int 0])) rw := by
      refine ⟨ns, 0, 0, 0, upd_same, fun H2 b => ?_, hl⟩
      rcases hs with (h | ⟨o, h⟩) | h
      · exact .inl (.inl (b _ _ (ne_of_none h nrw) (s1 _ _ h) fun _ z => nomatch z))
      · exact .inl (.inr ⟨o, b _ _ (ne_of_none h nrw) (s1 _ _ h) fun _ z => nomatch z⟩)
      · exact .inr h
    have T1 := hT.ext s1
    generalize upd H rw (.lst [.ref sc, .int 0, .int 0, .int 0]) = H1 at R1 T1
    clear s1 hs hl hT
    refine ⟨_, rfl, by decide, by decide, for_it (walk_range (lo := 0) (n := 3)) (fun i σ H2 => ∃ y2 y3 y4 y5 y6 y7 y8 y9 y10 y11 y12 y13 y14, σ = [some (.ref sc), some (.ref rw), y2, y3, y4, y5, y6, y7, y8, y9, y10, y11, y12, y13, y14, none, none] ∧ RowAt K sc H2 rw ∧ LamX.Tabs T H2)
      ⟨_, _, _, _, _, _, _, _, _, _, _, _, _, rfl, R1, T1⟩ (fun _ _ _ _ _ => trivial) (fun i xt σ H2 H3 hi hW y => ?_) (fun σ H2 hW => ?_)⟩
    · obtain ⟨y2, y3, y4, y5, y6, y7, y8, y9, y10, y11, y12, y13, y14, rfl, R2, T2⟩ := hW
      obtain ⟨rfl, hx⟩ := y
      clear hx
      refine ⟨_, rfl, rw, sc, 6, rfl, by decide, R2, T2, fun H3 d ps b3 R3 T3 hd3 l6 => ?_⟩
      refine ⟨_, rfl, rw, sc, rfl, R3, fun H4 r b4 R4 ro => ⟨small_le (by show 2 ≤ _; decide), fun p np => ?_⟩⟩
      refine ⟨p, _, rfl, .of upd_same, rfl, _, _, rfl, _, _, rfl, rfl, ?_⟩
      have s5 : Same H4 (upd H4 p (.tup [.ref d, .str r])) := same_new np
      have T5 := (Tabs.but b4 R3.ls T3).ext s5
      have hd5 := (hd3.but b4.n R3.ls).same s5
      have R5 := R4.ext (LamX.ExtN.of s5)
      generalize upd H4 p (.tup [.ref d, .str r]) = H5 at T5 hd5 R5
      clear s5 np R4 b4 hd3 T3 R3 b3 T2 R2
      refine ⟨_, rfl, d, ps, rfl, hd5, by omega, T5, fun H6 b e6 T6 hb6 => ?_⟩
      have hd6 := hd5.ext e6
      have R6 := R5.ext e6
      obtain ⟨⟨dx, t, hx1, hx2⟩, hx3⟩ := id hd6
      have lK : (refK ps).length = ps.length := List.length_map _
      refine ⟨_, rfl, d, dx, _, rfl, hx1, d, dx, t, _, rfl, hx1, hx2, _, rfl, ?_⟩
      rw [lK]
      refine ⟨by omega, by omega, small_le (by show 2 ≤ _; decide), fun p np => ?_⟩
      refine ⟨p, _, rfl, .of upd_same, rfl, _, _, rfl, _, _, rfl, rfl, ?_⟩
      have s7 : Same H6 (upd H6 p (.tup [.ref b, .int (ps.length : Int)])) := same_new np
      have T7 := T6.ext s7
      have hd7 := hd6.same s7
      have hb7 := hb6.same s7
      have R7 := R6.ext (LamX.ExtN.of s7)
      generalize upd H6 p (.tup [.ref b, .int (ps.length : Int)]) = H7 at T7 hd7 hb7 R7
      clear s7 np hx1 hx2 hx3 hd6 R6 hb6 T6 e6 hd5 T5 R5
      refine ⟨small_le (by show 0 ≤ _; decide), fun l nl => ?_⟩
      have S8 := LS.start R7 T7 hd7 hb7 nl
      generalize upd H7 l (.lst []) = H8 at S8
      clear hd7 hb7 T7 R7 nl
      refine ⟨small_le (by show 3 ≤ _; decide), fun t nt => ⟨t, rfl, ⟨_, .of upd_same⟩, ?_⟩⟩
      have s9 : Same H8 (upd H8 t (.tup [.str "ant", .str "cat", .str "dog"])) := same_new nt
      have ht9 : (upd H8 t (.tup [.str "ant", .str "cat", .str "dog"])) t = some (.tup [.str "ant", .str "cat", .str "dog"]) := upd_same
      have S9 := S8.same s9
      generalize upd H8 t (.tup [.str "ant", .str "cat", .str "dog"]) = H9 at s9 ht9 S9
      clear s9 S8 nt
      refine for_it (walk_tup (xs := [V.str "ant", .str "cat", .str "dog"])) (fun j σ H10 => ∃ y8 ts, σ = [some (.ref sc), some (.ref rw), some xt, some (.ref d), some (.str r), some (.ref b), some (.int (ps.length : Int)), some (.ref l), y8, y9, y10, y11, y12, y13, y14, none, none] ∧ LS K CC CD T rw sc d b l ps ts H10 ∧ ts.length ≤ j ∧ H10 t = some (.tup [.str "ant", .str "cat", .str "dog"]))
        ⟨_, [], rfl, S9, Nat.le_refl _, ht9⟩ (fun j σ H10 _ hW => ?_) (fun j x σ H10 H11 hj hW y => ?_) (fun σ H10 hW => ?_)
      · obtain ⟨_, _, _, _, _, h⟩ := hW
        exact .of h
      · obtain ⟨y8, ts, rfl, S, lt, ht⟩ := hW
        obtain ⟨rfl, hx⟩ := y
        obtain ⟨nm, rfl, wn⟩ : ∃ nm : Str, x = .str nm ∧ Wd nm := by
          match j, hj, hx with
          | 0, _, hx => exact ⟨"ant", (Option.some.inj hx).symm, by unfold Wd; decide +kernel⟩
          | 1, _, hx => exact ⟨"cat", (Option.some.inj hx).symm, by unfold Wd; decide +kernel⟩
          | 2, _, hx => exact ⟨"dog", (Option.some.inj hx).symm, by unfold Wd; decide +kernel⟩
        have j3 : j < 3 := hj
        refine ⟨_, rfl, rw, sc, 2, rfl, by decide, by decide, S.row, fun H12 v b12 R12 hv => ⟨rfl, _, rfl, ?_⟩⟩
        have S12 := S.draw b12 R12
        have ht12 := b12 _ _ (S.row.ls.ne ht fun _ z => nomatch z) ht
        by_cases ev : V.int (v : Int) = .int 0
        · refine ite_yes (decide_eq_true ev) ?_
          refine ⟨_, rfl, .inl ⟨rfl, _, .inl (.inl S12.tl)⟩, ?_⟩
          refine ⟨_, rfl, _, rfl, _, rfl, _, rfl, d, ps, r, nm, rfl, S12.dr, by omega, ro, wn, fun H13 a lk => ?_⟩
          obtain ⟨s13, v13, t5, L, k1, k2, k3⟩ := lk
          refine ⟨a, _, 1, _, rfl, rfl, .of k1, atI_nat (j := 1) rfl, t5, L, rfl, .inr k2, small_le (by show 2 ≤ _; decide), fun p np => ?_⟩
          have s14 : Same H13 (upd H13 p (.tup [.str nm, .int (L.length : Int)])) := same_new np
          have S14 := S12.same (s13.trans s14)
          have ht14 := s14 _ _ (s13 _ _ ht12)
          have hp14 : TlyAt (upd H13 p (.tup [.str nm, .int (L.length : Int)])) (p, nm, (L.length : Int)) := upd_same
          generalize upd H13 p (.tup [.str nm, .int (L.length : Int)]) = H14 at S14 ht14 hp14
          refine ⟨l, _, _, rfl, rfl, S14.tl, small_line (by rw [List.length_map]; omega), ?_⟩
          refine ⟨_, ts ++ [(p, nm, (L.length : Int))], rfl, S14.push hp14 wn, by rw [List.length_append]; show ts.length + 1 ≤ _; omega, ?_⟩
          rw [upd_ne (fun z => ?_)]
          · exact ht14
          · rw [z, S14.tl] at ht14
            cases ht14
        · refine ite_no (decide_eq_false ev) ⟨_, ts, rfl, S12, by omega, ht12⟩
      · obtain ⟨y8, ts, rfl, S, lt, _⟩ := hW
        have lt3 : ts.length ≤ 3 := lt
        clear lt S9 ht9
        refine ⟨small_le (by show 0 ≤ _; decide), fun lb nlb => ?_⟩
        have S11 := S.same (same_new (o := .lst []) nlb)
        have ob11 : Os K (upd H10 lb (.lst [])) lb [] := ⟨.inl (.inl upd_same), fun _ h => (List.not_mem_nil h).elim⟩
        generalize upd H10 lb (.lst []) = H11 at S11 ob11
        clear S nlb
        generalize hhs : hsOf (ps.mergeSort leK) = hs
        have lhs : hs.length = ps.length := by rw [← hhs, List.length_map, List.length_mergeSort]
        refine ⟨_, rfl, by decide, by decide, for_it (walk_range (lo := 0) (n := 3)) (fun m σ H12 => ∃ y10 y11 y12 lb ob, σ = [some (.ref sc), some (.ref rw), some xt, some (.ref d), some (.str r), some (.ref b), some (.int (ps.length : Int)), some (.ref l), y8, some (.ref lb), y10, y11, y12, y13, y14, none, none] ∧ LS K CC CD T rw sc d b l ps ts H12 ∧ Os K H12 lb ob ∧
          ob.map (·.2) = (match m with | 0 => [] | j + 1 => Sr.poss r hs (tlyOf ts) j)) ⟨_, _, _, lb, [], rfl, S11, ob11, rfl⟩ (fun _ _ _ _ _ => trivial) (fun m x σ H12 H13 hm hW y => ?_) (fun σ H12 hW => ?_)⟩
        · obtain ⟨y10, y11, y12, lb, ob, rfl, S12, B12, mb⟩ := hW
          obtain ⟨rfl, hx⟩ := y
          obtain rfl : x = V.int (m : Nat) := hx.trans (congrArg V.int (Int.zero_add _))
          clear hx S11 ob11
          have m3 : m < 3 := hm
          refine ⟨_, rfl, _, rfl, _, rfl, _, rfl, d, ps, r, l, ts, m, rfl, S12.dr, l6, ro, S12.tally (by omega), by omega, S12.tab, fun H14 lo os e14 T14 h14 o14 mo => ?_⟩
          rw [hhs] at mo
          have S14 := S12.ext e14 T14
          have B14 := B12.ext e14
          have O14 : Os K H14 lo os := ⟨.inl (.inl h14), o14⟩
          clear S12 B12 h14 o14 T14 e14
          have fewO : os.length ≤ 1000 := by
            have := Sr.poss_few (rule := r) (hs := hs) (tally := tlyOf ts) (m := m) (by omega) (by omega)
            rw [← mo, List.length_map] at this
            exact this
          refine ⟨_, rfl, lb, rfl, ⟨_, B14.l⟩, fun D0 nD0 => lc_it (walk_list (xs := refO ob)) (fun i H15 => Acc H14 D0 [] H15) (Acc.start nD0) (fun i H15 _ a => (B14.same a.2.1).l) (fun j x H15 H16 hj a y => ?_) fun H15 a => ?_⟩
          · obtain ⟨rfl, hx⟩ := y
            rw [List.getElem?_map] at hx
            obtain ⟨o, hoi, rfl⟩ := Option.map_eq_some_iff.mp hx
            have om := List.mem_of_getElem? hoi
            refine ⟨rfl, _, rfl, _, rfl, _, _, dp_O ((B14.same a.2.1).o o om), (O14.same a.2.1).dp, shp_O _, shp_Os _, _, rfl, ?_⟩
            refine ite_no ?_ a
            rw [any_dO, decide_eq_true, Bool.not_true]
            have om2 : o.2 ∈ ob.map (·.2) := List.mem_map.mpr ⟨o, om, rfl⟩
            rw [mb] at om2
            rw [mo]
            match m, om2 with
            | j + 1, om2 => exact Sr.poss_mono _ om2
          · refine ⟨small_le (by show 0 ≤ _; decide), fun z nz => ⟨_, _, .lst ((same_new nz).seq a.seq) .nil, .lst (.inl (.inl upd_same)) .nil, rfl, rfl, _, rfl, ite_no (by rw [eqv_nil]; rfl) ?_⟩⟩
            have s16 := a.2.1.trans (same_new (o := .lst []) nz)
            generalize upd H15 z (.lst []) = H16 at s16
            have S16 := S14.same s16
            have O16 := O14.same s16
            clear s16 a nz S14 B14 O14 nD0
            have gdO : ∀ o ∈ os.map (·.2), Sr.Good hs.length o := fun o ho => Sr.poss_good (rule := r) (tally := tlyOf ts) (m := m) o (by rw [← mo]; exact ho)
            have ndO : (os.map (·.2)).Nodup := by rw [mo]; exact Sr.poss_nd _ _ _ _
            have few_of : ∀ L : List OrdR, L.Perm os → L.length ≤ 1 ∨ ∀ p ∈ L, p.2 ≠ [] := fun L pm => by
              rcases few_or gdO ndO with z | z
              · exact .inl (by rw [List.length_map] at z; rw [pm.length_eq]; exact z)
              · exact .inr fun p hp => z p.2 (List.mem_map.mpr ⟨p, pm.mem_iff.mp hp, rfl⟩)
            refine ⟨_, rfl, _, rfl, lo, os, rfl, O16.l, fun p hp => (O16.o p hp).at, ndO, by omega, fun a L1 pm1 na => ?_⟩
            have s17 : Same H16 (upd H16 a (SetBO P w a L1)) := same_new na
            refine ⟨a, L1, rfl, upd_same, fun p hp => ((O16.o p (pm1.mem_iff.mp hp)).same s17).at, few_of L1 pm1, fun D2 L2 pm2 e2 nD2 => ?_⟩
            have s18 : Same H16 (upd (upd H16 a (SetBO P w a L1)) D2 (.lst (refO L2))) := s17.trans (same_new nD2)
            have O18 := O16.same s18
            have O18' : Os K (upd (upd H16 a (SetBO P w a L1)) D2 (.lst (refO L2))) D2 L2 := ⟨.inl (.inl upd_same), fun p hp => O18.o p (pm1.mem_iff.mp (pm2.mem_iff.mp hp))⟩
            refine ⟨_, _, O18.dp, O18'.dp, shp_Os _, shp_Os _, _, rfl, ?_⟩
            have S18 := S16.same s18
            generalize upd (upd H16 a (SetBO P w a L1)) D2 (.lst (refO L2)) = H18 at S18 O18
            clear s18 s17 O18' S16 O16 na nD2
            have eqL : os.map (·.2) = L2.map (·.2) := by
              rw [e2, mo]
              refine (Sr.poss_again ?_).symm
              rw [← mo]
              exact pm1.map _
            rw [eqv_dOs, decide_eq_true eqL]
            refine iteF ?_
            -- the filed drawer's orders
            refine ⟨_, rfl, _, rfl, _, rfl, _, rfl, b, _, r, l, ts, m, rfl, S18.ba, by rw [List.length_mergeSort]; exact l6, ro, S18.tally (by omega), by omega, S18.tab, fun H19 l2 os2 e19 T19 h19 o19 mo2 => ?_⟩
            rw [filed_again, hhs, ← mo] at mo2
            have S19 := S18.ext e19 T19
            have O19 := O18.ext e19
            have O19' : Os K H19 l2 os2 := ⟨.inl (.inl h19), o19⟩
            refine ⟨_, rfl, _, _, O19'.dp, O19.dp, shp_Os _, shp_Os _, _, rfl, ?_⟩
            rw [eqv_dOs, decide_eq_true mo2]
            refine iteF ?_
            clear O19' S18 O18 h19 o19 e19 T19
            -- one entry less
            refine ⟨_, rfl, _, rfl, _, rfl, _, rfl, _, rfl, l, _, rfl, .inl (.inl S19.tl), fun l8 n8 => ?_⟩
            rw [show cutV (ts.map fun q => V.ref q.1) none (some (-1)) = (ts.map fun q => V.ref q.1).dropLast from cut_last _, ← List.map_dropLast]
            have s20 : Same H19 (upd H19 l8 (.lst (ts.dropLast.map fun q => V.ref q.1))) := same_new n8
            have h20 : (upd H19 l8 (.lst (ts.dropLast.map fun q => V.ref q.1))) l8 = some (.lst (ts.dropLast.map fun q => V.ref q.1)) := upd_same
            have S20 := S19.same s20
            have O20 := O19.same s20
            generalize upd H19 l8 (.lst (ts.dropLast.map fun q => V.ref q.1)) = H20 at S20 O20 h20
            clear s20 n8 S19 O19
            refine ⟨_, rfl, d, ps, r, l8, ts.dropLast, m, rfl, S20.dr, l6, ro, ⟨.inl (.inl h20), fun q hq => S20.ty q (List.dropLast_subset _ hq), by rw [List.length_dropLast]; omega⟩, by omega, S20.tab, fun H21 l9 ol e21 T21 h21 o21 ml => ?_⟩
            rw [hhs, show tlyOf ts.dropLast = (tlyOf ts).dropLast from List.map_dropLast] at ml
            have S21 := S20.ext e21 T21
            have O21 := O20.ext e21
            have L21 : Os K H21 l9 ol := ⟨.inl (.inl h21), o21⟩
            clear S20 O20 h20 h21 o21 e21 T21
            refine ⟨_, rfl, lo, rfl, ⟨_, O21.l⟩, fun D0 nD0 => lc_it (walk_list (xs := refO os)) (fun i H15 => Acc H21 D0 [] H15) (Acc.start nD0) (fun i H15 _ a => (O21.same a.2.1).l) (fun j x H15 H16 hj a y => ?_) fun H15 a => ?_⟩
            · obtain ⟨rfl, hx⟩ := y
              rw [List.getElem?_map] at hx
              obtain ⟨o, hoi, rfl⟩ := Option.map_eq_some_iff.mp hx
              have om := List.mem_of_getElem? hoi
              refine ⟨rfl, _, rfl, _, rfl, _, _, dp_O ((O21.same a.2.1).o o om), (L21.same a.2.1).dp, shp_O _, shp_Os _, _, rfl, ?_⟩
              refine ite_no ?_ a
              rw [any_dO, decide_eq_true, Bool.not_true]
              have om2 : o.2 ∈ os.map (·.2) := List.mem_map.mpr ⟨o, om, rfl⟩
              rw [mo] at om2
              rw [ml]
              exact Sr.poss_less _ om2
            · refine ⟨small_le (by show 0 ≤ _; decide), fun z nz => ⟨_, _, .lst ((same_new nz).seq a.seq) .nil, .lst (.inl (.inl upd_same)) .nil, rfl, rfl, _, rfl, ite_no (by rw [eqv_nil]; rfl) ?_⟩⟩
              have s22 := a.2.1.trans (same_new (o := .lst []) nz)
              generalize upd H15 z (.lst []) = H22 at s22
              have S22 := S21.same s22
              have O22 := O21.same s22
              clear s22 a nz S21 O21 L21 nD0
              refine ⟨_, rfl, _, rfl, _, rfl, _, rfl, _, rfl, small_le (by show 2 ≤ _; decide), fun tw ntw => ?_⟩
              have s23 : Same H22 (upd H22 tw (.tup [.ref lo, .int (m : Int)])) := same_new ntw
              have S23 := S22.same s23
              have O23 := O22.same s23
              refine ⟨d, ps, r, l, ts, tw, lo, os, m, rfl, S23.dr, l6, ro, S23.tally (by omega), S23.tab, upd_same, O23.l, O23.o, by rw [hhs]; exact mo, by omega, fun H24 e24 T24 => ⟨true, rfl, iteF ?_⟩⟩
              exact ⟨_, rfl, _, _, _, lo, os, rfl, S23.ext e24 T24, O23.ext e24, mo⟩
        · obtain ⟨y10, y11, y12, lb, ob, rfl, S, Bo, mb⟩ := hW
          replace mb : ob.map (·.2) = Sr.poss r hs (tlyOf ts) 2 := mb
          clear S11 ob11
          refine ⟨_, rfl, _, rfl, RgOk.of_le (by omega) (by omega) (by omega) (by omega), fun z nz => ?_⟩
          rw [rg_id] at *
          have s13 : Same H12 (upd H12 z (.tup ((Sr.idO ps.length).map V.int))) := same_new nz
          have hz : OrdIn (upd H12 z (.tup ((Sr.idO ps.length).map V.int))) (z, Sr.idO ps.length) := upd_same
          have S13 := S.same s13
          have B13 := Bo.same s13
          generalize upd H12 z (.tup ((Sr.idO ps.length).map V.int)) = H13 at S13 B13 hz
          clear s13 nz S Bo
          have Tl13 := S13.tally (by omega)
          refine ⟨_, rfl, l, rfl, ⟨_, Tl13.1⟩, fun D0 nD0 => lc_it (walk_list (xs := ts.map fun q : TlyR => V.ref q.1)) (fun i H14 => Acc H13 D0 (((ts.take i).filter fun q => !decide ((Sr.looksOf r hs q.2.1 : Int) = q.2.2)).map fun q : TlyR => V.ref q.1) H14) (Acc.start nD0) (fun i H14 _ a => a.2.1.seq Tl13.1) (fun i x H14 H15 hi a y => ?_) fun H14 a => ?_⟩
          · obtain ⟨rfl, hx⟩ := y
            rw [List.getElem?_map] at hx
            obtain ⟨q, hq, rfl⟩ := Option.map_eq_some_iff.mp hx
            have S15 := S13.same a.2.1
            obtain ⟨w1, w2⟩ := S15.ty q (List.mem_of_getElem? hq)
            refine ⟨rfl, _, rfl, _, rfl, _, rfl, q.1, _, 0, _, rfl, rfl, .of w1, atI_nat (j := 0) rfl, b, _, r, q.2.1, rfl, S15.ba, by rw [List.length_mergeSort]; omega, ro, w2, fun H16 a2 lk => ?_⟩
            obtain ⟨s16, v, t5, L, k1, k2, k4⟩ := lk
            refine ⟨a2, _, 1, _, rfl, rfl, .of k1, atI_nat (j := 1) rfl, t5, L, rfl, .inr k2, _, rfl, q.1, _, 1, _, rfl, rfl, .of (s16 _ _ w1), atI_nat (j := 1) rfl, rfl, _, rfl, ?_⟩
            obtain ⟨p1, p2⟩ := acc_pick (fun q : TlyR => !decide ((Sr.looksOf r hs q.2.1 : Int) = q.2.2)) (fun q : TlyR => V.ref q.1) a s16 hq (by omega)
            rw [hhs] at k4
            by_cases e : (Sr.looksOf r hs q.2.1 : Int) = q.2.2
            · refine ite_no ?_ (p2 (by rw [decide_eq_true e]; rfl))
              rw [k4, e, decide_eq_true rfl]
              rfl
            · refine ite_yes ?_ ⟨_, rfl, p1 (by rw [decide_eq_false e]; rfl)⟩
              rw [k4, decide_eq_false fun z => e (V.int.inj z)]
              rfl
          · rw [List.length_map, List.take_length] at a
            replace a : Acc H13 D0 ((offs r hs ts).map fun q : TlyR => V.ref q.1) H14 := a
            have offM : ∀ q ∈ offs r hs ts, q ∈ ts := fun q hq => (List.mem_filter.mp hq).1
            refine ⟨small_le (by show 0 ≤ _; decide), fun z2 nz2 => ?_⟩
            have s15 : Same H14 (upd H14 z2 (.lst [])) := same_new nz2
            have S15 := S13.same (a.2.1.trans s15)
            refine ⟨_, _, .lst (s15.seq a.seq) (all_dpT K _ _ fun q hq => (S15.ty q (offM q hq)).1), .lst (.inl (.inl upd_same)) .nil, shp_list (n := 1) (by decide) (fun d hd => ?_), rfl, ?_⟩
            · obtain ⟨t1, ht1, rfl⟩ := List.mem_map.mp hd
              obtain ⟨q, hq, rfl⟩ := List.mem_map.mp ht1
              exact dT_lay (S15.ty q (offM q hq)).2
            rw [eqv_nil, offs_fit]
            have B15 := (B13.same a.2.1).same s15
            have hz15 := (hz.same a.2.1).same s15
            generalize upd H14 z2 (.lst []) = H15 at S15 B15 hz15
            clear a s15 S13 B13 hz Tl13 nD0 nz2
            rw [lhs]
            refine ⟨_, rfl, _, rfl, _, _, dp_O hz15, B15.dp, shp_O _, shp_Os _, _, rfl, rfl, _, rfl, ?_⟩
            have own : decide (Sr.idO ps.length ∈ ob.map (·.2)) = Sr.fit r hs (tlyOf ts) (Sr.idO ps.length) := by
              rw [mb, ← lhs, Bool.eq_iff_iff, decide_eq_true_iff]
              exact Sr.poss_own
            rw [any_dO, own]
            refine ite_no (by rw [decide_eq_true rfl]; rfl) ?_
            -- no tally, no move
            refine ⟨_, rfl, _, rfl, small_le (by show 0 ≤ _; decide), fun le nle => ?_⟩
            have s16 : Same H15 (upd H15 le (.lst [])) := same_new nle
            have S16 := S15.same s16
            refine ⟨d, ps, r, le, [], 0, rfl, S16.dr, l6, ro, ⟨.inl (.inl upd_same), fun _ h => (List.not_mem_nil h).elim, by decide⟩, by decide, S16.tab, fun H17 lz oz e17 T17 h17 o17 m17 => ?_⟩
            rw [hhs, show tlyOf [] = [] from rfl, Sr.poss_nil0, lhs] at m17
            have S17 := S16.ext e17 T17
            have hz17 := (hz15.same s16).ext e17
            refine ⟨_, rfl, small_le (by show 1 ≤ _; decide), fun lw nlw => ?_⟩
            have s18 : Same H17 (upd H17 lw (.lst [.ref z])) := same_new nlw
            have O18 : Os K (upd H17 lw (.lst [.ref z])) lz oz := ⟨s18.seq (.inl (.inl h17)), fun p hp => (o17 p hp).same s18⟩
            have W18 : Os K (upd H17 lw (.lst [.ref z])) lw [(z, Sr.idO ps.length)] := ⟨.inl (.inl upd_same), fun p hp => by rw [List.mem_singleton.mp hp]; exact hz17.same s18⟩
            refine ⟨_, _, O18.dp, W18.dp, shp_Os _, shp_Os _, _, rfl, ?_⟩
            rw [eqv_dOs, m17, decide_eq_true (show [Sr.idO ps.length] = List.map (·.2) [(z, Sr.idO ps.length)] from rfl)]
            refine iteF ?_
            have S18 := S17.same s18
            generalize upd H17 lw (.lst [.ref z]) = H18 at S18
            clear O18 W18 s18 nlw h17 o17 hz17 S17 e17 T17 S16 s16 nle S15 B15 hz15
            -- no tally, one move
            refine ⟨_, rfl, _, rfl, small_le (by show 0 ≤ _; decide), fun le nle => ?_⟩
            have s19 : Same H18 (upd H18 le (.lst [])) := same_new nle
            have S19 := S18.same s19
            refine ⟨d, ps, r, le, [], 1, rfl, S19.dr, l6, ro, ⟨.inl (.inl upd_same), fun _ h => (List.not_mem_nil h).elim, by decide⟩, by decide, S19.tab, fun H20 l20 o20 e20 T20 h20 oo20 m20 => ?_⟩
            rw [hhs, show tlyOf [] = [] from rfl] at m20
            have len20 : o20.length = 1 + (ps.length - 1) * (ps.length - 1) := by
              have := Sr.poss_nil1 r hs (by omega)
              rw [← m20, List.length_map, lhs] at this
              exact this
            have lr20 : (refO o20).length = o20.length := List.length_map _
            have S20 := S19.ext e20 T20
            refine ⟨l20, _, rfl, .inl (.inl (.inl h20)), _, rfl, _, _, rfl, rfl, _, _, rfl, _, _, rfl, rfl, ⟨by decide, by decide, ?_⟩, _, _, rfl, rfl, rfl, _, rfl, ?_⟩
            · split <;> omega
            · have fin : V.int ((refO o20).length : Int) = .int (1 + (if (ps.length : Int) - 1 > 0 then (ps.length : Int) - 1 else 0) ^ (2 : Int).toNat) := by
                rw [lr20, len20]
                show V.int _ = V.int (1 + (if (ps.length : Int) - 1 > 0 then (ps.length : Int) - 1 else 0) ^ 2)
                congr 1
                by_cases h0 : ps.length = 0
                · rw [h0]
                  decide
                · obtain ⟨k, hk⟩ : ∃ k, ps.length = k + 1 := ⟨ps.length - 1, by omega⟩
                  rw [hk, Nat.add_sub_cancel]
                  have e1 : (((k + 1 : Nat) : Int) - 1) = (k : Int) := by omega
                  rw [e1]
                  by_cases hk0 : (k : Int) > 0
                  · rw [if_pos hk0, Int.pow_succ, Int.pow_succ, Int.pow_zero, Int.one_mul]
                    push_cast
                    rfl
                  · have : k = 0 := by omega
                    subst this
                    decide
              rw [fin, decide_eq_true rfl]
              refine iteF ?_
              exact ⟨_, _, _, _, _, _, _, _, _, _, _, _, _, rfl, S20.row, S20.tab⟩
    · obtain ⟨y2, y3, y4, y5, y6, y7, y8, y9, y10, y11, y12, y13, y14, rfl, R2, T2⟩ := hW
      exact q _
end
end SrT
set_option Elab.async false
set_option linter.all false
set_option maxRecDepth 100000
set_option maxHeartbeats 8000000
/-! from the facts of the written part to the law's promise. -/
namespace SrT
open PySem PySem.Spec PyProof.Rows L2 SrR SlX
theorem all_mk {l : PySem.W.OpenLaw} {w : World} {K : PySem.W.Frag} {h : Heap} {mg : Str → Option Value} {fa : Addr} (X : K.In h) (G : h.Ns PySem.mainGlobals mg) (hfa : mg "law" = some (.ref fa)) (PL0 PL1 : Addr) (tb0 : h.get? PL0 = some (PySem.W.tabObj #[])) (tb1 : h.get? PL1 = some (PySem.W.tabObj #[])) (hne : PL0 ≠ PL1)
    {CC CD CN R T0 TD Ta coL0 coL1 dI f0 f1 f10 f11 f12 f13 f14 f15 f16 f17 f18 f19 f2 f20 f21 f22 f3 f4 f5 f6 f7 f8 f9 fI fL0 fL1 gC gG gH gK gL pC pF pH pR : Addr} {an0 an1 an10 an11 an12 an13 an14 an15 an16 an17 an18 an19 an2 an20 an21 an22 an3 an4 an5 an6 an7 an8 an9 anCH anCI anDC anDG anDI anDK anDL anL0 anL1 od0 od1 od10 od11 od12 od13 od14 od15 od16 od17 od18 od19 od2 od20 od21 od22 od3 od4 od5 od6 od7 od8 od9 odCH odCI odDC odDG odDI odDK odDL odE odL0 odL1 odR odT : Option Addr} {sl0 sl1 sl10 sl11 sl12 sl13 sl14 sl15 sl16 sl17 sl18 sl19 sl2 sl20 sl21 sl22 sl3 sl4 sl5 sl6 sl7 sl8 sl9 slCH slCI slDC slDG slDI slDK slDL slE slL0 slL1 slR slT : Array (Option Value)} {cd0 cd1 cd10 cd11 cd12 cd13 cd14 cd15 cd16 cd17 cd18 cd19 cd2 cd20 cd21 cd22 cd3 cd4 cd5 cd6 cd7 cd8 cd9 cdCH cdCI cdDC cdDG cdDI cdDK cdDL ct0 ct1 ct10 ct11 ct12 ct13 ct14 ct15 ct16 ct17 ct18 ct19 ct2 ct20 ct21 ct22 ct3 ct4 ct5 ct6 ct7 ct8 ct9 ctCH ctCI ctDC ctDG ctDI ctDK ctDL ctL0 ctL1 dc0 dc1 dc10 dc11 dc12 dc13 dc14 dc15 dc16 dc17 dc18 dc19 dc2 dc20 dc21 dc22 dc3 dc4 dc5 dc6 dc7 dc8 dc9 dcCH dcCI dcDC dcDG dcDI dcDK dcDL dcL0 dcL1 kV0 kV1 kV10 kV11 kV12 kV13 kV14 kV15 kV16 kV17 kV18 kV19 kV2 kV20 kV21 kV22 kV3 kV4 kV5 kV6 kV7 kV8 kV9 kVCH kVCI kVDC kVDG kVDI kVDK kVDL kVL0 kVL1 oc0 oc1 oc10 oc11 oc12 oc13 oc14 oc15 oc16 oc17 oc18 oc19 oc2 oc20 oc21 oc22 oc3 oc4 oc5 oc6 oc7 oc8 oc9 ocCH ocCI ocDC ocDG ocDI ocDK ocDL ocL0 ocL1 ocT pm0 pm1 pm10 pm11 pm12 pm13 pm14 pm15 pm16 pm17 pm18 pm19 pm2 pm20 pm21 pm22 pm3 pm4 pm5 pm6 pm7 pm8 pm9 pmCH pmCI pmDC pmDG pmDI pmDK pmDL pmL0 pmL1 : Value} {rsH rsC : List Value} {tkT tk0 tk1 tk2 tk3 tk4 tk5 tk6 tk7 tk8 tkA tkB tkC : Tok} {nT nE nR : Nat}
    (a0 : PySem.W.nsIn K PySem.mainGlobals "is_number" = some (some (.ref f0)))
    (l0 : K.lookup f0 = some ⟨oc0, od0, .func (PySem.W.fnOf "is_number" "is_number" (defArgs sNum) (defBody sNum) (defScope sNum) .none kV0 dc0 pm0 an0 cd0 ct0), sl0⟩)
    (c0 : PySem.W.codeIn K cd0 "is_number" = true)
    (k0 : PySem.W.keepIn K (.ref f0) = true)
    (a1 : PySem.W.nsIn K PySem.mainGlobals "is_word" = some (some (.ref f1)))
    (l1 : K.lookup f1 = some ⟨oc1, od1, .func (PySem.W.fnOf "is_word" "is_word" (defArgs sWord) (defBody sWord) (defScope sWord) .none kV1 dc1 pm1 an1 cd1 ct1), sl1⟩)
    (c1 : PySem.W.codeIn K cd1 "is_word" = true)
    (k1 : PySem.W.keepIn K (.ref f1) = true)
    (a2 : PySem.W.nsIn K PySem.mainGlobals "check_heading" = some (some (.ref f2)))
    (l2 : K.lookup f2 = some ⟨oc2, od2, .func (PySem.W.fnOf "check_heading" "check_heading" (defArgs sChkH) (defBody sChkH) (defScope sChkH) .none kV2 dc2 pm2 an2 cd2 ct2), sl2⟩)
    (c2 : PySem.W.codeIn K cd2 "check_heading" = true)
    (k2 : PySem.W.keepIn K (.ref f2) = true)
    (a3 : PySem.W.nsIn K PySem.mainGlobals "check_number" = some (some (.ref f3)))
    (l3 : K.lookup f3 = some ⟨oc3, od3, .func (PySem.W.fnOf "check_number" "check_number" (defArgs sChkN) (defBody sChkN) (defScope sChkN) .none kV3 dc3 pm3 an3 cd3 ct3), sl3⟩)
    (c3 : PySem.W.codeIn K cd3 "check_number" = true)
    (k3 : PySem.W.keepIn K (.ref f3) = true)
    (a4 : PySem.W.nsIn K PySem.mainGlobals "are_books" = some (some (.ref f4)))
    (l4 : K.lookup f4 = some ⟨oc4, od4, .func (PySem.W.fnOf "are_books" "are_books" (defArgs sBooks) (defBody sBooks) (defScope sBooks) .none kV4 dc4 pm4 an4 cd4 ct4), sl4⟩)
    (c4 : PySem.W.codeIn K cd4 "are_books" = true)
    (k4 : PySem.W.keepIn K (.ref f4) = true)
    (a5 : PySem.W.nsIn K PySem.mainGlobals "are_others" = some (some (.ref f5)))
    (l5 : K.lookup f5 = some ⟨oc5, od5, .func (PySem.W.fnOf "are_others" "are_others" (defArgs sOthers) (defBody sOthers) (defScope sOthers) .none kV5 dc5 pm5 an5 cd5 ct5), sl5⟩)
    (c5 : PySem.W.codeIn K cd5 "are_others" = true)
    (k5 : PySem.W.keepIn K (.ref f5) = true)
    (a6 : PySem.W.nsIn K PySem.mainGlobals "check_rule" = some (some (.ref f6)))
    (l6 : K.lookup f6 = some ⟨oc6, od6, .func (PySem.W.fnOf "check_rule" "check_rule" (defArgs sRule) (defBody sRule) (defScope sRule) .none kV6 dc6 pm6 an6 cd6 ct6), sl6⟩)
    (c6 : PySem.W.codeIn K cd6 "check_rule" = true)
    (k6 : PySem.W.keepIn K (.ref f6) = true)
    (a7 : PySem.W.nsIn K PySem.mainGlobals "by_halves" = some (some (.ref f7)))
    (l7 : K.lookup f7 = some ⟨oc7, od7, .func (PySem.W.fnOf "by_halves" "by_halves" (defArgs sHalves) (defBody sHalves) (defScope sHalves) .none kV7 dc7 pm7 an7 cd7 ct7), sl7⟩)
    (c7 : PySem.W.codeIn K cd7 "by_halves" = true)
    (k7 : PySem.W.keepIn K (.ref f7) = true)
    (a8 : PySem.W.nsIn K PySem.mainGlobals "one_by_one" = some (some (.ref f8)))
    (l8 : K.lookup f8 = some ⟨oc8, od8, .func (PySem.W.fnOf "one_by_one" "one_by_one" (defArgs sOneBy) (defBody sOneBy) (defScope sOneBy) .none kV8 dc8 pm8 an8 cd8 ct8), sl8⟩)
    (c8 : PySem.W.codeIn K cd8 "one_by_one" = true)
    (k8 : PySem.W.keepIn K (.ref f8) = true)
    (a9 : PySem.W.nsIn K PySem.mainGlobals "looked_up" = some (some (.ref f9)))
    (l9 : K.lookup f9 = some ⟨oc9, od9, .func (PySem.W.fnOf "looked_up" "looked_up" (defArgs sLooked) (defBody sLooked) (defScope sLooked) .none kV9 dc9 pm9 an9 cd9 ct9), sl9⟩)
    (c9 : PySem.W.codeIn K cd9 "looked_up" = true)
    (k9 : PySem.W.keepIn K (.ref f9) = true)
    (a10 : PySem.W.nsIn K PySem.mainGlobals "look_up" = some (some (.ref f10)))
    (l10 : K.lookup f10 = some ⟨oc10, od10, .func (PySem.W.fnOf "look_up" "look_up" (defArgs sLook) (defBody sLook) (defScope sLook) .none kV10 dc10 pm10 an10 cd10 ct10), sl10⟩)
    (c10 : PySem.W.codeIn K cd10 "look_up" = true)
    (k10 : PySem.W.keepIn K (.ref f10) = true)
    (a11 : PySem.W.nsIn K PySem.mainGlobals "check_all" = some (some (.ref f11)))
    (l11 : K.lookup f11 = some ⟨oc11, od11, .func (PySem.W.fnOf "check_all" "check_all" (defArgs sChkA) (defBody sChkA) (defScope sChkA) .none kV11 dc11 pm11 an11 cd11 ct11), sl11⟩)
    (c11 : PySem.W.codeIn K cd11 "check_all" = true)
    (k11 : PySem.W.keepIn K (.ref f11) = true)
    (a12 : PySem.W.nsIn K PySem.mainGlobals "orders_behind" = some (some (.ref f12)))
    (l12 : K.lookup f12 = some ⟨oc12, od12, .func (PySem.W.fnOf "orders_behind" "orders_behind" (defArgs sBehind) (defBody sBehind) (defScope sBehind) .none kV12 dc12 pm12 an12 cd12 ct12), sl12⟩)
    (c12 : PySem.W.codeIn K cd12 "orders_behind" = true)
    (k12 : PySem.W.keepIn K (.ref f12) = true)
    (a13 : PySem.W.nsIn K PySem.mainGlobals "fits" = some (some (.ref f13)))
    (l13 : K.lookup f13 = some ⟨oc13, od13, .func (PySem.W.fnOf "fits" "fits" (defArgs sFits) (defBody sFits) (defScope sFits) .none kV13 dc13 pm13 an13 cd13 ct13), sl13⟩)
    (c13 : PySem.W.codeIn K cd13 "fits" = true)
    (k13 : PySem.W.keepIn K (.ref f13) = true)
    (a14 : PySem.W.nsIn K PySem.mainGlobals "all_orders" = some (some (.ref f14)))
    (l14 : K.lookup f14 = some ⟨oc14, od14, .func (PySem.W.fnOf "all_orders" "all_orders" (defArgs sAllO) (defBody sAllO) (defScope sAllO) .none kV14 dc14 pm14 an14 cd14 ct14), sl14⟩)
    (c14 : PySem.W.codeIn K cd14 "all_orders" = true)
    (k14 : PySem.W.keepIn K (.ref f14) = true)
    (a15 : PySem.W.nsIn K PySem.mainGlobals "possible_orders" = some (some (.ref f15)))
    (l15 : K.lookup f15 = some ⟨oc15, od15, .func (PySem.W.fnOf "possible_orders" "possible_orders" (defArgs sPoss) (defBody sPoss) (defScope sPoss) .none kV15 dc15 pm15 an15 cd15 ct15), sl15⟩)
    (c15 : PySem.W.codeIn K cd15 "possible_orders" = true)
    (k15 : PySem.W.keepIn K (.ref f15) = true)
    (a16 : PySem.W.nsIn K PySem.mainGlobals "misplaced" = some (some (.ref f16)))
    (l16 : K.lookup f16 = some ⟨oc16, od16, .func (PySem.W.fnOf "misplaced" "misplaced" (defArgs sMis) (defBody sMis) (defScope sMis) .none kV16 dc16 pm16 an16 cd16 ct16), sl16⟩)
    (c16 : PySem.W.codeIn K cd16 "misplaced" = true)
    (k16 : PySem.W.keepIn K (.ref f16) = true)
    (a17 : PySem.W.nsIn K PySem.mainGlobals "_law_taken" = some (some (.ref f17)))
    (l17 : K.lookup f17 = some ⟨oc17, od17, .func (PySem.W.fnOf "_law_taken" "_law_taken" (defArgs sTaken) (defBody sTaken) (defScope sTaken) .none kV17 dc17 pm17 an17 cd17 ct17), sl17⟩)
    (c17 : PySem.W.codeIn K cd17 "_law_taken" = true)
    (k17 : PySem.W.keepIn K (.ref f17) = true)
    (a18 : PySem.W.nsIn K PySem.mainGlobals "_law_card" = some (some (.ref f18)))
    (l18 : K.lookup f18 = some ⟨oc18, od18, .func (PySem.W.fnOf "_law_card" "_law_card" (defArgs sLCard) (defBody sLCard) (defScope sLCard) .none kV18 dc18 pm18 an18 cd18 ct18), sl18⟩)
    (c18 : PySem.W.codeIn K cd18 "_law_card" = true)
    (k18 : PySem.W.keepIn K (.ref f18) = true)
    (a19 : PySem.W.nsIn K PySem.mainGlobals "_law_rule" = some (some (.ref f19)))
    (l19 : K.lookup f19 = some ⟨oc19, od19, .func (PySem.W.fnOf "_law_rule" "_law_rule" (defArgs sLRule) (defBody sLRule) (defScope sLRule) .none kV19 dc19 pm19 an19 cd19 ct19), sl19⟩)
    (c19 : PySem.W.codeIn K cd19 "_law_rule" = true)
    (k19 : PySem.W.keepIn K (.ref f19) = true)
    (a20 : PySem.W.nsIn K PySem.mainGlobals "_law_misplaced" = some (some (.ref f20)))
    (l20 : K.lookup f20 = some ⟨oc20, od20, .func (PySem.W.fnOf "_law_misplaced" "_law_misplaced" (defArgs sLMis) (defBody sLMis) (defScope sLMis) .none kV20 dc20 pm20 an20 cd20 ct20), sl20⟩)
    (c20 : PySem.W.codeIn K cd20 "_law_misplaced" = true)
    (k20 : PySem.W.keepIn K (.ref f20) = true)
    (a21 : PySem.W.nsIn K PySem.mainGlobals "_law_are_fit" = some (some (.ref f21)))
    (l21 : K.lookup f21 = some ⟨oc21, od21, .func (PySem.W.fnOf "_law_are_fit" "_law_are_fit" (defArgs sLFit) (defBody sLFit) (defScope sLFit) .none kV21 dc21 pm21 an21 cd21 ct21), sl21⟩)
    (c21 : PySem.W.codeIn K cd21 "_law_are_fit" = true)
    (k21 : PySem.W.keepIn K (.ref f21) = true)
    (a22 : PySem.W.nsIn K PySem.mainGlobals "law" = some (some (.ref f22)))
    (l22 : K.lookup f22 = some ⟨oc22, od22, .func (PySem.W.fnOf "law" "law" (defArgs sLaw) (defBody sLaw) (defScope sLaw) .none kV22 dc22 pm22 an22 cd22 ct22), sl22⟩)
    (c22 : PySem.W.codeIn K cd22 "law" = true)
    (k22 : PySem.W.keepIn K (.ref f22) = true)
    (aL0 : PySem.W.nsIn K PySem.mainGlobals "filed" = some (some (.ref fL0)))
    (lL0 : K.lookup fL0 = some ⟨ocL0, odL0, .func (PySem.W.fnOf "filed" "filed" (defArgs sFiled) (defBody sFiled) (defScope sFiled) .none kVL0 dcL0 pmL0 anL0 (.ref coL0) ctL0), slL0⟩)
    (cL0 : PySem.W.codeIn K (.ref coL0) "filed" = true)
    (kL0 : PySem.W.keepIn K (.ref fL0) = true)
    (hdL0 : PySem.W.codeHdIn K coL0 PL0 = true)
    (ntL0 : K.lookup PL0 = none)
    (aL1 : PySem.W.nsIn K PySem.mainGlobals "_law_drawer" = some (some (.ref fL1)))
    (lL1 : K.lookup fL1 = some ⟨ocL1, odL1, .func (PySem.W.fnOf "_law_drawer" "_law_drawer" (defArgs sLDraw) (defBody sLDraw) (defScope sLDraw) .none kVL1 dcL1 pmL1 anL1 (.ref coL1) ctL1), slL1⟩)
    (cL1 : PySem.W.codeIn K (.ref coL1) "_law_drawer" = true)
    (kL1 : PySem.W.keepIn K (.ref fL1) = true)
    (hdL1 : PySem.W.codeHdIn K coL1 PL1 = true)
    (ntL1 : K.lookup PL1 = none)
    (aCC : PySem.W.nsIn K PySem.mainGlobals "Card" = some (some (.ref CC)))
    (pgCC : PySem.W.plainGet K CC Str.empty = true)
    (icCC : PySem.W.isClsIn K CC = true)
    (poCC : PySem.W.plainOver K CC = true)
    (saCC : PySem.W.findIn K (.ref CC) "__setattr__" = some (some (.builtin "object.__setattr__")))
    (mkCC : PySem.W.makesIn K CC = true)
    (inCC : PySem.W.findIn K (.ref CC) "__init__" = some (some (.ref fI)))
    (ifCC : PySem.W.isFn K (.ref fI) = true)
    (kpCC : PySem.W.keepIn K (.ref CC) = true)
    (s1CC : PySem.W.findIn K (.ref CC) "facts" = some (some (.ref pF)))
    (s2CC : PySem.W.specialIn K (.ref pF) "__get__" = some (some (.builtin "member_descriptor.__get__")))
    (s3CC : PySem.W.takesIn K (.ref pF) = some true)
    (s4CC : PySem.W.typeIn K (.ref pF) = some (.type "member_descriptor"))
    (s5CC : PySem.W.slotIn K pF CC = some 0)
    (lCI : K.lookup fI = some ⟨ocCI, odCI, .func (PySem.W.fnOf "__init__" "Card.__init__" (defArgs sCInit) (defBody sCInit) (defScope sCInit) (.ref TD) kVCI dcCI pmCI anCI cdCI ctCI), slCI⟩)
    (cCI : PySem.W.codeIn K cdCI "Card.__init__" = true)
    (kCI : PySem.W.keepIn K (.ref fI) = true)
    (dT : K.lookup TD = some ⟨ocT, odT, .seq #[.ref Ta, .str "" tkT, .ref T0] nT, slT⟩)
    (dE : K.lookup T0 = some ⟨.type "tuple", odE, .seq #[] nE, slE⟩)
    (p1H : PySem.W.findIn K (.ref CC) "heading" = some (some (.ref pH)))
    (p2H : PySem.W.specialIn K (.ref pH) "__get__" = some (some (.builtin "property.__get__")))
    (p3H : PySem.W.takesIn K (.ref pH) = some true)
    (p4H : PySem.W.recIn K pH "property" = some (.ref gH :: rsH))
    (lCH : K.lookup gH = some ⟨ocCH, odCH, .func (PySem.W.fnOf "heading" "Card.heading" (defArgs sCHead) (defBody sCHead) (defScope sCHead) .none kVCH dcCH pmCH anCH cdCH ctCH), slCH⟩)
    (cCH : PySem.W.codeIn K cdCH "Card.heading" = true)
    (kCH : PySem.W.keepIn K (.ref gH) = true)
    (aCD : PySem.W.nsIn K PySem.mainGlobals "Drawer" = some (some (.ref CD)))
    (pgCD : PySem.W.plainGet K CD Str.empty = true)
    (icCD : PySem.W.isClsIn K CD = true)
    (poCD : PySem.W.plainOver K CD = true)
    (saCD : PySem.W.findIn K (.ref CD) "__setattr__" = some (some (.builtin "object.__setattr__")))
    (mkCD : PySem.W.makesIn K CD = true)
    (inCD : PySem.W.findIn K (.ref CD) "__init__" = some (some (.ref dI)))
    (ifCD : PySem.W.isFn K (.ref dI) = true)
    (kpCD : PySem.W.keepIn K (.ref CD) = true)
    (s1CD : PySem.W.findIn K (.ref CD) "row" = some (some (.ref pR)))
    (s2CD : PySem.W.specialIn K (.ref pR) "__get__" = some (some (.builtin "member_descriptor.__get__")))
    (s3CD : PySem.W.takesIn K (.ref pR) = some true)
    (s4CD : PySem.W.typeIn K (.ref pR) = some (.type "member_descriptor"))
    (s5CD : PySem.W.slotIn K pR CD = some 0)
    (lDI : K.lookup dI = some ⟨ocDI, odDI, .func (PySem.W.fnOf "__init__" "Drawer.__init__" (defArgs sDInit) (defBody sDInit) (defScope sDInit) .none kVDI dcDI pmDI anDI cdDI ctDI), slDI⟩)
    (cDI : PySem.W.codeIn K cdDI "Drawer.__init__" = true)
    (kDI : PySem.W.keepIn K (.ref dI) = true)
    (p1C : PySem.W.findIn K (.ref CD) "cards" = some (some (.ref pC)))
    (p2C : PySem.W.specialIn K (.ref pC) "__get__" = some (some (.builtin "property.__get__")))
    (p3C : PySem.W.takesIn K (.ref pC) = some true)
    (p4C : PySem.W.recIn K pC "property" = some (.ref gC :: rsC))
    (lDC : K.lookup gC = some ⟨ocDC, odDC, .func (PySem.W.fnOf "cards" "Drawer.cards" (defArgs sDCards) (defBody sDCards) (defScope sDCards) .none kVDC dcDC pmDC anDC cdDC ctDC), slDC⟩)
    (cDC : PySem.W.codeIn K cdDC "Drawer.cards" = true)
    (kDC : PySem.W.keepIn K (.ref gC) = true)
    (lS : PySem.W.findIn K (.ref CD) "__len__" = some (some (.ref gL)))
    (lI : PySem.W.isFn K (.ref gL) = true)
    (lDL : K.lookup gL = some ⟨ocDL, odDL, .func (PySem.W.fnOf "__len__" "Drawer.__len__" (defArgs sDLen) (defBody sDLen) (defScope sDLen) .none kVDL dcDL pmDL anDL cdDL ctDL), slDL⟩)
    (cDL : PySem.W.codeIn K cdDL "Drawer.__len__" = true)
    (kDL : PySem.W.keepIn K (.ref gL) = true)
    (gS : PySem.W.findIn K (.ref CD) "__getitem__" = some (some (.ref gG)))
    (gN : PySem.W.fnIn K gG = true)
    (gI : PySem.W.isFn K (.ref gG) = true)
    (lDG : K.lookup gG = some ⟨ocDG, odDG, .func (PySem.W.fnOf "__getitem__" "Drawer.__getitem__" (defArgs sDGet) (defBody sDGet) (defScope sDGet) .none kVDG dcDG pmDG anDG cdDG ctDG), slDG⟩)
    (cDG : PySem.W.codeIn K cdDG "Drawer.__getitem__" = true)
    (kDG : PySem.W.keepIn K (.ref gG) = true)
    (kM : PySem.W.findIn K (.ref CD) "check_place" = some (some (.ref gK)))
    (kI : PySem.W.isFn K (.ref gK) = true)
    (lDK : K.lookup gK = some ⟨ocDK, odDK, .func (PySem.W.fnOf "check_place" "Drawer.check_place" (defArgs sDChk) (defBody sDChk) (defScope sDChk) .none kVDK dcDK pmDK anDK cdDK ctDK), slDK⟩)
    (cDK : PySem.W.codeIn K cdDK "Drawer.check_place" = true)
    (kDK : PySem.W.keepIn K (.ref gK) = true)
    (aN : PySem.W.nsIn K PySem.mainGlobals "NoOrder" = some (some (.ref CN)))
    (xN : PySem.W.excIn K CN [.type "ValueError", .type "Exception", .type "BaseException", .type "object"] "ValueError.__new__" = true)
    (kN : PySem.W.keepIn K (.ref CN) = true)
    (bN : PySem.W.subIn K (.ref CN) (.type "BaseException") = some true)
    (tN : PySem.W.typeIn K (.ref CN) = some (.type "type"))
    (iN : PySem.W.isClsIn K CN = true)
    (sN : PySem.W.subIn K (.ref CN) (.ref CN) = some true)
    (b0 : PySem.W.nsIn K PySem.mainGlobals "isinstance" = some none)
    (b1 : PySem.W.nsIn K PySem.mainGlobals "int" = some none)
    (b2 : PySem.W.nsIn K PySem.mainGlobals "bool" = some none)
    (b3 : PySem.W.nsIn K PySem.mainGlobals "str" = some none)
    (b4 : PySem.W.nsIn K PySem.mainGlobals "len" = some none)
    (b5 : PySem.W.nsIn K PySem.mainGlobals "all" = some none)
    (b6 : PySem.W.nsIn K PySem.mainGlobals "set" = some none)
    (b7 : PySem.W.nsIn K PySem.mainGlobals "zip" = some none)
    (b8 : PySem.W.nsIn K PySem.mainGlobals "tuple" = some none)
    (b9 : PySem.W.nsIn K PySem.mainGlobals "sorted" = some none)
    (b10 : PySem.W.nsIn K PySem.mainGlobals "range" = some none)
    (b11 : PySem.W.nsIn K PySem.mainGlobals "enumerate" = some none)
    (b12 : PySem.W.nsIn K PySem.mainGlobals "list" = some none)
    (b13 : PySem.W.nsIn K PySem.mainGlobals "max" = some none)
    (v0 : PySem.W.nsIn K PySem.mainGlobals "LETTERS" = some (some (.str abc tk0)))
    (v1 : PySem.W.nsIn K PySem.mainGlobals "MAX_LETTERS" = some (some (.int 8 tk1)))
    (v2 : PySem.W.nsIn K PySem.mainGlobals "MAX_BOOKS" = some (some (.int 6 tk2)))
    (v3 : PySem.W.nsIn K PySem.mainGlobals "MAX_BOOK" = some (some (.int 999 tk3)))
    (v4 : PySem.W.nsIn K PySem.mainGlobals "MAX_ALSO" = some (some (.int 4 tk4)))
    (v5 : PySem.W.nsIn K PySem.mainGlobals "MAX_CARDS" = some (some (.int 16 tk5)))
    (v6 : PySem.W.nsIn K PySem.mainGlobals "MAX_MOVES" = some (some (.int 2 tk6)))
    (v7 : PySem.W.nsIn K PySem.mainGlobals "HALF" = some (some (.str "half" tk7)))
    (v8 : PySem.W.nsIn K PySem.mainGlobals "LEAF" = some (some (.str "leaf" tk8)))
    (v9 : PySem.W.nsIn K PySem.mainGlobals "RULES" = some (some (.ref R)))
    (dR : K.lookup R = some ⟨.type "tuple", odR, .seq #[.str "all" tkA, .str "half" tkB, .str "leaf" tkC] nR, slR⟩) : LamX.LawAtS l w K CX0 11 63 "_law_script" mg fa h := by
  have e := hfa.symm.trans (PySem.W.mg_of X G a22)
  cases e
  have B : Bl mg := ⟨PySem.W.mg_none_of X G b0, PySem.W.mg_none_of X G b1, PySem.W.mg_none_of X G b2, PySem.W.mg_none_of X G b3, PySem.W.mg_none_of X G b4, PySem.W.mg_none_of X G b5, PySem.W.mg_none_of X G b6, PySem.W.mg_none_of X G b7, PySem.W.mg_none_of X G b8, PySem.W.mg_none_of X G b9, PySem.W.mg_none_of X G b10, PySem.W.mg_none_of X G b11, PySem.W.mg_none_of X G b12, PySem.W.mg_none_of X G b13⟩
  have C : Co K mg R := ⟨⟨tk0, PySem.W.mg_of X G v0⟩, ⟨tk1, PySem.W.mg_of X G v1⟩, ⟨tk2, PySem.W.mg_of X G v2⟩, ⟨tk3, PySem.W.mg_of X G v3⟩, ⟨tk4, PySem.W.mg_of X G v4⟩, ⟨tk5, PySem.W.mg_of X G v5⟩, ⟨tk6, PySem.W.mg_of X G v6⟩, ⟨tk7, PySem.W.mg_of X G v7⟩, ⟨tk8, PySem.W.mg_of X G v8⟩, PySem.W.mg_of X G v9, fun H => .inr ⟨_, _, _, dR, rfl, rfl, small_le (by show 3 ≤ _; decide), .cons ⟨_, rfl⟩ (.cons ⟨_, rfl⟩ (.cons ⟨_, rfl⟩ .nil))⟩⟩
  have D0 : DefT K mg "is_number" sNum ["value", "smallest", "largest"] f0 := ⟨⟨_, fun_mk l0 c0 k0, (fun_mk l0 c0 k0).binds (ps := ["value", "smallest", "largest"]) fun _ _ _ _ _ _ us hl => match us, hl with | [_, _, _], _ => rfl⟩, PySem.W.mg_of X G a0⟩
  have D1 : DefT K mg "is_word" sWord ["value"] f1 := ⟨⟨_, fun_mk l1 c1 k1, (fun_mk l1 c1 k1).binds (ps := ["value"]) fun _ _ _ _ _ _ us hl => match us, hl with | [_], _ => rfl⟩, PySem.W.mg_of X G a1⟩
  have D2 : DefT K mg "check_heading" sChkH ["value"] f2 := ⟨⟨_, fun_mk l2 c2 k2, (fun_mk l2 c2 k2).binds (ps := ["value"]) fun _ _ _ _ _ _ us hl => match us, hl with | [_], _ => rfl⟩, PySem.W.mg_of X G a2⟩
  have D3 : DefT K mg "check_number" sChkN ["value", "smallest", "largest"] f3 := ⟨⟨_, fun_mk l3 c3 k3, (fun_mk l3 c3 k3).binds (ps := ["value", "smallest", "largest"]) fun _ _ _ _ _ _ us hl => match us, hl with | [_, _, _], _ => rfl⟩, PySem.W.mg_of X G a3⟩
  have D4 : DefT K mg "are_books" sBooks ["row"] f4 := ⟨⟨_, fun_mk l4 c4 k4, (fun_mk l4 c4 k4).binds (ps := ["row"]) fun _ _ _ _ _ _ us hl => match us, hl with | [_], _ => rfl⟩, PySem.W.mg_of X G a4⟩
  have D5 : DefT K mg "are_others" sOthers ["heading", "row"] f5 := ⟨⟨_, fun_mk l5 c5 k5, (fun_mk l5 c5 k5).binds (ps := ["heading", "row"]) fun _ _ _ _ _ _ us hl => match us, hl with | [_, _], _ => rfl⟩, PySem.W.mg_of X G a5⟩
  have D6 : DefT K mg "check_rule" sRule ["rule"] f6 := ⟨⟨_, fun_mk l6 c6 k6, (fun_mk l6 c6 k6).binds (ps := ["rule"]) fun _ _ _ _ _ _ us hl => match us, hl with | [_], _ => rfl⟩, PySem.W.mg_of X G a6⟩
  have D7 : DefT K mg "by_halves" sHalves ["drawer", "heading"] f7 := ⟨⟨_, fun_mk l7 c7 k7, (fun_mk l7 c7 k7).binds (ps := ["drawer", "heading"]) fun _ _ _ _ _ _ us hl => match us, hl with | [_, _], _ => rfl⟩, PySem.W.mg_of X G a7⟩
  have D8 : DefT K mg "one_by_one" sOneBy ["drawer", "heading", "is_leafing"] f8 := ⟨⟨_, fun_mk l8 c8 k8, (fun_mk l8 c8 k8).binds (ps := ["drawer", "heading", "is_leafing"]) fun _ _ _ _ _ _ us hl => match us, hl with | [_, _, _], _ => rfl⟩, PySem.W.mg_of X G a8⟩
  have D9 : DefT K mg "looked_up" sLooked ["drawer", "rule", "heading"] f9 := ⟨⟨_, fun_mk l9 c9 k9, (fun_mk l9 c9 k9).binds (ps := ["drawer", "rule", "heading"]) fun _ _ _ _ _ _ us hl => match us, hl with | [_, _, _], _ => rfl⟩, PySem.W.mg_of X G a9⟩
  have D10 : DefT K mg "look_up" sLook ["drawer", "rule", "heading"] f10 := ⟨⟨_, fun_mk l10 c10 k10, (fun_mk l10 c10 k10).binds (ps := ["drawer", "rule", "heading"]) fun _ _ _ _ _ _ us hl => match us, hl with | [_, _, _], _ => rfl⟩, PySem.W.mg_of X G a10⟩
  have D11 : DefT K mg "check_all" sChkA ["rule", "tally", "most"] f11 := ⟨⟨_, fun_mk l11 c11 k11, (fun_mk l11 c11 k11).binds (ps := ["rule", "tally", "most"]) fun _ _ _ _ _ _ us hl => match us, hl with | [_, _, _], _ => rfl⟩, PySem.W.mg_of X G a11⟩
  have D12 : DefT K mg "orders_behind" sBehind ["orders"] f12 := ⟨⟨_, fun_mk l12 c12 k12, (fun_mk l12 c12 k12).binds (ps := ["orders"]) fun _ _ _ _ _ _ us hl => match us, hl with | [_], _ => rfl⟩, PySem.W.mg_of X G a12⟩
  have D13 : DefT K mg "fits" sFits ["base", "order", "rule", "tally"] f13 := ⟨⟨_, fun_mk l13 c13 k13, (fun_mk l13 c13 k13).binds (ps := ["base", "order", "rule", "tally"]) fun _ _ _ _ _ _ us hl => match us, hl with | [_, _, _, _], _ => rfl⟩, PySem.W.mg_of X G a13⟩
  have D14 : DefT K mg "all_orders" sAllO ["drawer", "rule", "tally", "most"] f14 := ⟨⟨_, fun_mk l14 c14 k14, (fun_mk l14 c14 k14).binds (ps := ["drawer", "rule", "tally", "most"]) fun _ _ _ _ _ _ us hl => match us, hl with | [_, _, _, _], _ => rfl⟩, PySem.W.mg_of X G a14⟩
  have D15 : DefT K mg "possible_orders" sPoss ["drawer", "rule", "tally", "most"] f15 := ⟨⟨_, fun_mk l15 c15 k15, (fun_mk l15 c15 k15).binds (ps := ["drawer", "rule", "tally", "most"]) fun _ _ _ _ _ _ us hl => match us, hl with | [_, _, _, _], _ => rfl⟩, PySem.W.mg_of X G a15⟩
  have F16 := fun_mk (x := "misplaced") (qual := "misplaced") (st := sMis) l16 c16 k16
  have D17 : DefT K mg "_law_taken" sTaken ["_law_row", "_law_many"] f17 := ⟨⟨_, fun_mk l17 c17 k17, (fun_mk l17 c17 k17).binds (ps := ["_law_row", "_law_many"]) fun _ _ _ _ _ _ us hl => match us, hl with | [_, _], _ => rfl⟩, PySem.W.mg_of X G a17⟩
  have D18 : DefT K mg "_law_card" sLCard ["_law_row"] f18 := ⟨⟨_, fun_mk l18 c18 k18, (fun_mk l18 c18 k18).binds (ps := ["_law_row"]) fun _ _ _ _ _ _ us hl => match us, hl with | [_], _ => rfl⟩, PySem.W.mg_of X G a18⟩
  have D19 : DefT K mg "_law_rule" sLRule ["_law_row"] f19 := ⟨⟨_, fun_mk l19 c19 k19, (fun_mk l19 c19 k19).binds (ps := ["_law_row"]) fun _ _ _ _ _ _ us hl => match us, hl with | [_], _ => rfl⟩, PySem.W.mg_of X G a19⟩
  have D20 : DefT K mg "_law_misplaced" sLMis ["_law_drawer_here", "_law_rule_here", "_law_tally", "_law_most"] f20 := ⟨⟨_, fun_mk l20 c20 k20, (fun_mk l20 c20 k20).binds (ps := ["_law_drawer_here", "_law_rule_here", "_law_tally", "_law_most"]) fun _ _ _ _ _ _ us hl => match us, hl with | [_, _, _, _], _ => rfl⟩, PySem.W.mg_of X G a20⟩
  have D21 : DefT K mg "_law_are_fit" sLFit ["_law_drawer_here", "_law_rule_here", "_law_tally", "_law_two"] f21 := ⟨⟨_, fun_mk l21 c21 k21, (fun_mk l21 c21 k21).binds (ps := ["_law_drawer_here", "_law_rule_here", "_law_tally", "_law_two"]) fun _ _ _ _ _ _ us hl => match us, hl with | [_, _, _, _], _ => rfl⟩, PySem.W.mg_of X G a21⟩
  have F22 := fun_mk (x := "law") (qual := "law") (st := sLaw) l22 c22 k22
  have FL0 : FunL K "filed" "filed" sFiled fL0 coL0 := ⟨⟨_, _, _, _, _, _, _, _, lL0, cL0⟩, kL0⟩
  have FL1 : FunL K "_law_drawer" "_law_drawer" sLDraw fL1 coL1 := ⟨⟨_, _, _, _, _, _, _, _, lL1, cL1⟩, kL1⟩
  have TC : CardT K mg CC fI pF pH gH T0 :=
    { g := PySem.W.mg_of X G aCC, sc := ⟨pgCC, icCC, poCC, saCC⟩, mkr := ⟨mkCC, inCC, ifCC, kpCC⟩, s1 := ⟨s1CC, s2CC, s3CC, s4CC, s5CC, by decide⟩, hAt := p1H, hGet := p2H, hTk := p3H, hRc := ⟨_, p4H⟩, hF := ⟨_, fun_mk lCH cCH kCH⟩,
      iF := ⟨Ta, _, ⟨⟨_, _, _, _, _, _, _, _, _, _, rfl, lCI, cCI, .inr ⟨by simp, TD, _, [.ref Ta, .str "" tkT, .ref T0], nT, rfl, dT, rfl, .cons rfl (.cons ⟨_, rfl⟩ (.cons rfl .nil))⟩, .inl rfl⟩, kCI⟩⟩, t0 := fun H => .inr ⟨_, _, _, dE, rfl, rfl, Nat.zero_le _, .nil⟩ }
  have TDr : DrawT K mg CD dI pR pC gC gL gG gK :=
    { g := PySem.W.mg_of X G aCD, sc := ⟨pgCD, icCD, poCD, saCD⟩, mkr := ⟨mkCD, inCD, ifCD, kpCD⟩, s1 := ⟨s1CD, s2CD, s3CD, s4CD, s5CD, by decide⟩, cAt := p1C, cGet := p2C, cTk := p3C, cRc := ⟨_, p4C⟩, cF := ⟨_, fun_mk lDC cDC kDC⟩, iF := ⟨_, fun_mk lDI cDI kDI⟩,
      lF := ⟨_, fun_mk lDL cDL kDL⟩, lS := lS, lI := lI, gF := ⟨_, fun_mk lDG cDG kDG⟩, gS := gS, gN := gN, gI := gI, kF := ⟨_, fun_mk lDK cDK kDK⟩, kM := ⟨kM, kI, kDK⟩ }
  have TN : ErrT K mg "NoOrder" CN := ⟨PySem.W.mg_of X G aN, xN, kN, bN, tN, iN, sN⟩
  have bM := F16.binds (ps := ["drawer", "rule", "tally", "most"]) fun _ _ _ _ _ _ us hl => match us, hl with | [_, _, _, _], _ => rfl
  refine ⟨PySem.W.fnOf "law" "law" (defArgs sLaw) (defBody sLaw) (defScope sLaw) .none kV22 dc22 pm22 an22 cd22 ct22, [(coL0, PL0), (coL1, PL1)], spLaw K (tabs PL0 PL1), fun p hp => ?_, fun p hp => ?_, fun p hp => ?_, fun s u => .of_eq rfl, fun H a ns hn hb ht hs => ?_, fun base IB NB TB => ?_⟩
  · rcases List.mem_cons.mp hp with rfl | hp
    · exact tb0
    · rw [List.mem_singleton.mp hp]
      exact tb1
  · rcases List.mem_cons.mp hp with rfl | hp
    · exact ntL0
    · rw [List.mem_singleton.mp hp]
      exact ntL1
  · rcases List.mem_cons.mp hp with rfl | hp
    · exact PySem.W.codeHd_of_K X hdL0
    · rw [List.mem_singleton.mp hp]
      exact PySem.W.codeHd_of_K X hdL1
  · refine ⟨a, ns, rfl, hs, hn, fun p hp => ?_, fun _ => rfl⟩
    rcases List.mem_cons.mp hp with rfl | hp
    · exact LamX.TabS.nil (ht _ List.mem_cons_self)
    · rw [List.mem_singleton.mp hp]
      exact LamX.TabS.nil (ht (coL1, PL1) (List.mem_cons_of_mem _ List.mem_cons_self))
  · have B0 := TB _ List.mem_cons_self
    have B1 := TB (coL1, PL1) (List.mem_cons_of_mem _ List.mem_cons_self)
    have oN := ok_num (P := l.prog) (w := w) (base := base) D0 B
    have oW := ok_word (P := l.prog) (w := w) (base := base) D1 B C
    have oCH := ok_chkH D2 oW
    have oCN := ok_chkN D3 oN
    have oBK := ok_books D4 B C oN
    have oOT := ok_others D5 B C oW
    have oFD := ok_filed (P := l.prog) (w := w) FL0 (PySem.W.mg_of X G aL0) B0 hne TC TDr B C
    have oRL := ok_rule (P := l.prog) (w := w) (base := base) D6 C
    have oHV := ok_halves (P := l.prog) (w := w) (base := base) D7 TC TDr B
    have oOB := ok_oneBy (P := l.prog) (w := w) (base := base) D8 TC TDr B
    have oLK := ok_looked D9 C oHV oOB
    have oLU := ok_look D10 oRL oCH oLK
    have oCA := ok_chkA D11 B C oRL oW oCN
    have oBH := ok_behind (P := l.prog) (w := w) (base := base) D12 B
    have oFT := ok_fits D13 TC TDr B C oN oLK
    have oAO := ok_allO D14 TDr B oFD oBH oFT
    have oPO := ok_poss D15 oCA oAO
    have oMI := ok_mis F16 TDr TN B oCA oAO
    have oTK := ok_taken (P := l.prog) (w := w) (base := base) D17 B
    have oLC := ok_lcard D18 TC B oW oBK oOT oTK
    have oLR := ok_lrule D19 oTK
    have oLM := ok_lmis D20 TN oMI (PySem.W.mg_of X G a16) k16 bM
    have oLF := ok_lfit D21 TDr B C oN oFD oLU oLM
    have oLD := ok_ldraw FL1 (PySem.W.mg_of X G aL1) B1 hne TC TDr B C oTK oLC
    exact ok_law F22 TDr B oLD oLR oFD oTK oLU oPO oLF
end SrT
set_option maxRecDepth 100000
set_option maxHeartbeats 0
open PySem PySem.W PyProof.Rows
open_top headT for PySem.Challenge.rw_seerings_k58_whole_orders_of_filed_cards
theorem PySem.Challenge.cw_seerings_k58_whole_orders_of_filed_cards_holds : PySem.Challenge.rw_seerings_k58_whole_orders_of_filed_cards.Holds := by
  refine headT ?_
  refine LamX.walk_ofTs (l := PySem.Challenge.rw_seerings_k58_whole_orders_of_filed_cards) (n := 63) (k := 11) (x := "_law_script") (CX := fun _ => L2.CX0) rfl (by decide) rfl ⟨rfl, by decide, by decide⟩ (fun w h Y => PySem.W.km_in_of Y) ?F (fun _ _ _ _ _ h => h)
  case F =>
    intro w mg fa h Y KX G hmg
    refine' SrT.all_mk KX G hmg 339 428 ?tb0 ?tb1 (by decide) ?a0 ?l0 ?c0 ?k0 ?a1 ?l1 ?c1 ?k1 ?a2 ?l2 ?c2 ?k2 ?a3 ?l3 ?c3 ?k3 ?a4 ?l4 ?c4 ?k4 ?a5 ?l5 ?c5 ?k5 ?a6 ?l6 ?c6 ?k6 ?a7 ?l7 ?c7 ?k7 ?a8 ?l8 ?c8 ?k8 ?a9 ?l9 ?c9 ?k9 ?a10 ?l10 ?c10 ?k10 ?a11 ?l11 ?c11 ?k11 ?a12 ?l12 ?c12 ?k12 ?a13 ?l13 ?c13 ?k13 ?a14 ?l14 ?c14 ?k14 ?a15 ?l15 ?c15 ?k15 ?a16 ?l16 ?c16 ?k16 ?a17 ?l17 ?c17 ?k17 ?a18 ?l18 ?c18 ?k18 ?a19 ?l19 ?c19 ?k19 ?a20 ?l20 ?c20 ?k20 ?a21 ?l21 ?c21 ?k21 ?a22 ?l22 ?c22 ?k22 ?aL0 ?lL0 ?cL0 ?kL0 ?hdL0 ?ntL0 ?aL1 ?lL1 ?cL1 ?kL1 ?hdL1 ?ntL1 ?aCC ?pgCC ?icCC ?poCC ?saCC ?mkCC ?inCC ?ifCC ?kpCC ?s1CC ?s2CC ?s3CC ?s4CC ?s5CC ?lCI ?cCI ?kCI ?dT ?dE ?p1H ?p2H ?p3H ?p4H ?lCH ?cCH ?kCH ?aCD ?pgCD ?icCD ?poCD ?saCD ?mkCD ?inCD ?ifCD ?kpCD ?s1CD ?s2CD ?s3CD ?s4CD ?s5CD ?lDI ?cDI ?kDI ?p1C ?p2C ?p3C ?p4C ?lDC ?cDC ?kDC ?lS ?lI ?lDL ?cDL ?kDL ?gS ?gN ?gI ?lDG ?cDG ?kDG ?kM ?kI ?lDK ?cDK ?kDK ?aN ?xN ?kN ?bN ?tN ?iN ?sN ?b0 ?b1 ?b2 ?b3 ?b4 ?b5 ?b6 ?b7 ?b8 ?b9 ?b10 ?b11 ?b12 ?b13 ?v0 ?v1 ?v2 ?v3 ?v4 ?v5 ?v6 ?v7 ?v8 ?v9 ?dR
    (case tb0 => exact PySem.W.km_tabs_of Y 339 (by decide))
    (case tb1 => exact PySem.W.km_tabs_of Y 428 (by decide))
    (case a0 => k_is)
    (case l0 => k_is)
    (case c0 => k_is)
    (case k0 => k_is)
    (case a1 => k_is)
    (case l1 => k_is)
    (case c1 => k_is)
    (case k1 => k_is)
    (case a2 => k_is)
    (case l2 => k_is)
    (case c2 => k_is)
    (case k2 => k_is)
    (case a3 => k_is)
    (case l3 => k_is)
    (case c3 => k_is)
    (case k3 => k_is)
    (case a4 => k_is)
    (case l4 => k_is)
    (case c4 => k_is)
    (case k4 => k_is)
    (case a5 => k_is)
    (case l5 => k_is)
    (case c5 => k_is)
    (case k5 => k_is)
    (case a6 => k_is)
    (case l6 => k_is)
    (case c6 => k_is)
    (case k6 => k_is)
    (case a7 => k_is)
    (case l7 => k_is)
    (case c7 => k_is)
    (case k7 => k_is)
    (case a8 => k_is)
    (case l8 => k_is)
    (case c8 => k_is)
    (case k8 => k_is)
    (case a9 => k_is)
    (case l9 => k_is)
    (case c9 => k_is)
    (case k9 => k_is)
    (case a10 => k_is)
    (case l10 => k_is)
    (case c10 => k_is)
    (case k10 => k_is)
    (case a11 => k_is)
    (case l11 => k_is)
    (case c11 => k_is)
    (case k11 => k_is)
    (case a12 => k_is)
    (case l12 => k_is)
    (case c12 => k_is)
    (case k12 => k_is)
    (case a13 => k_is)
    (case l13 => k_is)
    (case c13 => k_is)
    (case k13 => k_is)
    (case a14 => k_is)
    (case l14 => k_is)
    (case c14 => k_is)
    (case k14 => k_is)
    (case a15 => k_is)
    (case l15 => k_is)
    (case c15 => k_is)
    (case k15 => k_is)
    (case a16 => k_is)
    (case l16 => k_is)
    (case c16 => k_is)
    (case k16 => k_is)
    (case a17 => k_is)
    (case l17 => k_is)
    (case c17 => k_is)
    (case k17 => k_is)
    (case a18 => k_is)
    (case l18 => k_is)
    (case c18 => k_is)
    (case k18 => k_is)
    (case a19 => k_is)
    (case l19 => k_is)
    (case c19 => k_is)
    (case k19 => k_is)
    (case a20 => k_is)
    (case l20 => k_is)
    (case c20 => k_is)
    (case k20 => k_is)
    (case a21 => k_is)
    (case l21 => k_is)
    (case c21 => k_is)
    (case k21 => k_is)
    (case a22 => k_is)
    (case l22 => k_is)
    (case c22 => k_is)
    (case k22 => k_is)
    (case aL0 => k_is)
    (case lL0 => k_is)
    (case cL0 => k_is)
    (case kL0 => k_is)
    (case hdL0 => exact rfl)
    (case ntL0 => exact rfl)
    (case aL1 => k_is)
    (case lL1 => k_is)
    (case cL1 => k_is)
    (case kL1 => k_is)
    (case hdL1 => exact rfl)
    (case ntL1 => exact rfl)
    (case aCC => k_is)
    (case pgCC => k_is)
    (case icCC => k_is)
    (case poCC => k_is)
    (case saCC => k_is)
    (case mkCC => k_is)
    (case inCC => k_is)
    (case ifCC => k_is)
    (case kpCC => k_is)
    (case s1CC => k_is)
    (case s2CC => k_is)
    (case s3CC => k_is)
    (case s4CC => k_is)
    (case s5CC => k_is)
    (case lCI => k_is)
    (case cCI => k_is)
    (case kCI => k_is)
    (case dT => k_is)
    (case dE => k_is)
    (case p1H => k_is)
    (case p2H => k_is)
    (case p3H => k_is)
    (case p4H => k_is)
    (case lCH => k_is)
    (case cCH => k_is)
    (case kCH => k_is)
    (case aCD => k_is)
    (case pgCD => k_is)
    (case icCD => k_is)
    (case poCD => k_is)
    (case saCD => k_is)
    (case mkCD => k_is)
    (case inCD => k_is)
    (case ifCD => k_is)
    (case kpCD => k_is)
    (case s1CD => k_is)
    (case s2CD => k_is)
    (case s3CD => k_is)
    (case s4CD => k_is)
    (case s5CD => k_is)
    (case lDI => k_is)
    (case cDI => k_is)
    (case kDI => k_is)
    (case p1C => k_is)
    (case p2C => k_is)
    (case p3C => k_is)
    (case p4C => k_is)
    (case lDC => k_is)
    (case cDC => k_is)
    (case kDC => k_is)
    (case lS => k_is)
    (case lI => k_is)
    (case lDL => k_is)
    (case cDL => k_is)
    (case kDL => k_is)
    (case gS => k_is)
    (case gN => k_is)
    (case gI => k_is)
    (case lDG => k_is)
    (case cDG => k_is)
    (case kDG => k_is)
    (case kM => k_is)
    (case kI => k_is)
    (case lDK => k_is)
    (case cDK => k_is)
    (case kDK => k_is)
    (case aN => k_is)
    (case xN => k_exc)
    (case kN => k_is)
    (case bN => k_is)
    (case tN => k_is)
    (case iN => k_is)
    (case sN => first | rfl | k_is)
    (case b0 => k_is)
    (case b1 => k_is)
    (case b2 => k_is)
    (case b3 => k_is)
    (case b4 => k_is)
    (case b5 => k_is)
    (case b6 => k_is)
    (case b7 => k_is)
    (case b8 => k_is)
    (case b9 => k_is)
    (case b10 => k_is)
    (case b11 => k_is)
    (case b12 => k_is)
    (case b13 => k_is)
    (case v0 => k_is)
    (case v1 => k_is)
    (case v2 => k_is)
    (case v3 => k_is)
    (case v4 => k_is)
    (case v5 => k_is)
    (case v6 => k_is)
    (case v7 => k_is)
    (case v8 => k_is)
    (case v9 => k_is)
    (case dR => k_is)
#print axioms PySem.Challenge.cw_seerings_k58_whole_orders_of_filed_cards_holds
