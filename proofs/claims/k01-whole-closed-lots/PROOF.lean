import PyProof.Rows.All
import KE.SortKeyHeap
import Wide.All
import OpenK.AllK
import Wide.FinOn
import KE.KDflt
import PyProof.P3In
import PyProof.ReprRoads
import HandS.ForMost
import HandS.Exc
import HandS.WordsExc
import HandS.ExcInit
import HandS.ExcField
import HandS.Lambda
import HandS.Nested
import HandS.Star
import HandS.Style
import HandS.TupAny
import HandS.Zip
import HandS.IsInst
import HandS.SortKw
import HandS.Defaults
import HandS.HeadHook4
import HandS.HeadWalk
import HandS.Head0
import HandS.Head1
import HandS.Head2
import HandS.HeadEnd
import HandS.EndBits
import PySem.Challenge.RW_evenhouse_k01_whole_closed_lots
set_option Elab.async false
set_option linter.all false
set_option maxRecDepth 100000
set_option maxHeartbeats 0
/-! The plain law: lots, ties, what leads where. No program in sight. -/
namespace K1
open PySem PySem.W
abbrev Tie := Int × Int
def lotD (l : List Int) : PyData := .tuple (l.map .int)
def tieD (p : Tie) : PyData := .tuple [.int p.1, .int p.2]
def keyD (l : List Int) : PyData := .tuple [.int (l.length : Int), lotD l]
/-! ### lots -/
def subs : Nat → List (List Int)
  | 0 => [[]]
  | n + 1 => subs n ++ (subs n).map fun r => r ++ [(n : Int)]
def lots (n : Nat) : List (List Int) := (subs n).mergeSort (dataLe false keyD)
def closedB (ties : List Tie) (l : List Int) : Bool := ties.all fun p => !(l.contains p.2) || l.contains p.1
def closedL (n : Nat) (ties : List Tie) : List (List Int) := (lots n).filter (closedB ties)
def full (n : Nat) : List Int := (List.range n).map fun (i : Nat) => (i : Int)
theorem subs_length : ∀ n, (subs n).length = 2 ^ n
  | 0 => rfl
  | n + 1 => by
    show (subs n ++ (subs n).map _).length = _
    rw [List.length_append, List.length_map, subs_length n, Nat.pow_succ]
    omega
theorem lots_length (n : Nat) : (lots n).length = 2 ^ n := by
  unfold lots
  rw [List.length_mergeSort, subs_length]
theorem lots_mem {n : Nat} {l : List Int} : l ∈ lots n ↔ l ∈ subs n := by
  unfold lots
  exact (List.mergeSort_perm _ _).mem_iff
theorem subs_range : ∀ (n : Nat) (l : List Int), l ∈ subs n → ∀ x ∈ l, 0 ≤ x ∧ x < n
  | 0, l, h, x, hx => by
    have e : l = [] := by simpa [subs] using h
    rw [e] at hx
    cases hx
  | n + 1, l, h, x, hx => by
    rcases List.mem_append.mp (show l ∈ subs n ++ (subs n).map _ from h) with h | h
    · have := subs_range n l h x hx
      omega
    · obtain ⟨r, hr, e⟩ := List.mem_map.mp h
      subst e
      rcases List.mem_append.mp hx with hx | hx
      · have := subs_range n r hr x hx
        omega
      · have e : x = (n : Int) := by simpa using hx
        omega
theorem subs_asc : ∀ (n : Nat) (l : List Int), l ∈ subs n → l.Pairwise (· < ·)
  | 0, l, h => by
    have e : l = [] := by simpa [subs] using h
    rw [e]
    exact List.Pairwise.nil
  | n + 1, l, h => by
    rcases List.mem_append.mp (show l ∈ subs n ++ (subs n).map _ from h) with h | h
    · exact subs_asc n l h
    · obtain ⟨r, hr, e⟩ := List.mem_map.mp h
      subst e
      refine List.pairwise_append.mpr ⟨subs_asc n r hr, List.pairwise_singleton _ _, fun a ha b hb => ?_⟩
      have e : b = (n : Int) := by simpa using hb
      have := subs_range n r hr a ha
      omega
theorem subs_len_le : ∀ (n : Nat) (l : List Int), l ∈ subs n → l.length ≤ n
  | 0, l, h => by
    have e : l = [] := by simpa [subs] using h
    rw [e]
    exact Nat.le_refl _
  | n + 1, l, h => by
    rcases List.mem_append.mp (show l ∈ subs n ++ (subs n).map _ from h) with h | h
    · have := subs_len_le n l h
      omega
    · obtain ⟨r, hr, e⟩ := List.mem_map.mp h
      subst e
      have := subs_len_le n r hr
      rw [List.length_append, List.length_singleton]
      omega
/-! ### the order of lots -/
def klt (a b : List Int) : Bool := if a.length = b.length then decide (a < b) else decide (a.length < b.length)
theorem alike_lot (a b : List Int) : alike (lotD a) (lotD b) = true := by
  unfold lotD
  simp only [alike]
  exact alike_ints a b
theorem alike_key (a b : List Int) : alike (keyD a) (keyD b) = true := by
  have h := alike_lot a b
  unfold keyD
  simp [alike, alikeAll, h]
theorem eqvAll_ints : ∀ a b : List Int, PyData.eqvAll (a.map .int) (b.map .int) = decide (a = b)
  | [], [] => by simp [PyData.eqvAll]
  | [], b :: bs => by simp [PyData.eqvAll]
  | a :: as, [] => by simp [PyData.eqvAll]
  | a :: as, b :: bs => by
    simp only [List.map_cons, PyData.eqvAll, PyData.eqv, eqvAll_ints as bs]
    by_cases h : a = b
    · by_cases h2 : as = bs
      · simp [h, h2]
      · simp [h, h2]
    · simp [h]
theorem eqv_lot (a b : List Int) : PyData.eqv (lotD a) (lotD b) = decide (a = b) := by
  unfold lotD
  simp only [PyData.eqv]
  exact eqvAll_ints a b
theorem keyLt (a b : List Int) : dataLt (keyD a) (keyD b) = klt a b := by
  unfold keyD
  rw [dataLt_pair (by simp [alike]) (alike_lot a b), eqv_lot, dataLt_int]
  have e2 : dataLt (lotD a) (lotD b) = decide (a < b) := by
    unfold lotD
    rw [dataLt_tuple]
    exact dataLt_ints a b
  rw [e2]
  unfold klt
  by_cases h : a.length = b.length
  · have hi : PyData.eqv (.int (a.length : Int)) (.int (b.length : Int)) = true := by simp [PyData.eqv, h]
    rw [if_pos hi, if_pos h]
    by_cases e : a = b
    · subst e
      simp
    · simp [e]
  · have hi : ¬ PyData.eqv (.int (a.length : Int)) (.int (b.length : Int)) = true := by
      simp [PyData.eqv]
      omega
    rw [if_neg hi, if_neg h]
    by_cases h2 : a.length < b.length
    · rw [decide_eq_true h2, decide_eq_true (by omega)]
    · rw [decide_eq_false h2, decide_eq_false (by omega)]
theorem keyLe : dataLe false keyD = fun a b => !klt b a := by
  rw [dataLe_eq]
  funext a b
  show (!dataLt (keyD b) (keyD a)) = _
  rw [keyLt]
theorem klt_irrefl (a : List Int) : klt a a = false := by
  unfold klt
  simp
theorem klt_asymm {a b : List Int} (h : klt a b = true) : klt b a = false := by
  unfold klt at *
  by_cases e : a.length = b.length
  · rw [if_pos e] at h
    rw [if_pos e.symm]
    exact decide_eq_false (List.lt_asymm (of_decide_eq_true h))
  · rw [if_neg e] at h
    rw [if_neg fun z => e z.symm]
    have := of_decide_eq_true h
    exact decide_eq_false (by omega)
theorem kle_trans {a b c : List Int} (h1 : klt b a = false) (h2 : klt c b = false) : klt c a = false := by
  unfold klt at *
  by_cases e1 : b.length = a.length
  · rw [if_pos e1] at h1
    by_cases e2 : c.length = b.length
    · rw [if_pos e2] at h2
      rw [if_pos (e2.trans e1)]
      have q1 := of_decide_eq_false h1
      have q2 := of_decide_eq_false h2
      exact decide_eq_false (List.not_lt.mpr (List.le_trans (List.not_lt.mp q1) (List.not_lt.mp q2)))
    · rw [if_neg e2] at h2
      have q2 := of_decide_eq_false h2
      rw [if_neg (by omega)]
      exact decide_eq_false (by omega)
  · rw [if_neg e1] at h1
    have q1 := of_decide_eq_false h1
    by_cases e2 : c.length = b.length
    · rw [if_neg (by omega)]
      exact decide_eq_false (by omega)
    · rw [if_neg e2] at h2
      have q2 := of_decide_eq_false h2
      rw [if_neg (by omega)]
      exact decide_eq_false (by omega)
theorem kle_antisymm {a b : List Int} (h1 : klt b a = false) (h2 : klt a b = false) : a = b := by
  unfold klt at *
  by_cases e : a.length = b.length
  · rw [if_pos e.symm] at h1
    rw [if_pos e] at h2
    exact List.le_antisymm (List.not_lt.mp (of_decide_eq_false h1)) (List.not_lt.mp (of_decide_eq_false h2))
  · rw [if_neg fun z => e z.symm] at h1
    rw [if_neg e] at h2
    have q1 := of_decide_eq_false h1
    have q2 := of_decide_eq_false h2
    omega
theorem lots_sorted (n : Nat) : (lots n).Pairwise fun a b => klt b a = false := by
  unfold lots
  rw [keyLe]
  have h := List.pairwise_mergeSort (le := fun a b : List Int => !klt b a) (fun a b c h1 h2 => by
    have q1 : klt b a = false := by simpa using h1
    have q2 : klt c b = false := by simpa using h2
    have := kle_trans q1 q2
    simp [this]) (fun a b => by
    cases e : klt b a with
    | false => simp
    | true => simp [klt_asymm e]) (subs n)
  exact h.imp fun z => by simpa using z
/-- a sorted list of the same lots is that list -/
theorem lots_is {n : Nat} {l : List (List Int)} (hp : l.Perm (subs n)) (hs : l.Pairwise fun a b => klt b a = false) : lots n = l := by
  refine List.Perm.eq_of_pairwise (fun a b _ _ h1 h2 => kle_antisymm h1 h2) (lots_sorted n) hs ?_
  unfold lots
  exact (List.mergeSort_perm _ _).trans hp.symm
/-- the last lot is that of all -/
theorem lots_last {n : Nat} (hf : full n ∈ subs n) (ho : ∀ l ∈ subs n, klt (full n) l = false) : ∃ init, lots n = init ++ [full n] := by
  have hm : full n ∈ lots n := lots_mem.mpr hf
  have hne : lots n ≠ [] := fun z => by
    rw [z] at hm
    cases hm
  refine ⟨(lots n).dropLast, ?_⟩
  have e := List.dropLast_concat_getLast hne
  have hz : (lots n).getLast hne ∈ subs n := lots_mem.mp (List.getLast_mem hne)
  have hs := lots_sorted n
  rw [← e] at hs hm
  have q : (lots n).getLast hne = full n := by
    rcases List.mem_append.mp hm with h | h
    · have h1 := (List.pairwise_append.mp hs).2.2 _ h _ (List.mem_singleton.mpr rfl)
      exact (kle_antisymm h1 (ho _ hz)).symm
    · exact (List.mem_singleton.mp h).symm
  rw [q] at e
  exact e.symm
theorem last_ok (n : Nat) (h1 : 1 ≤ n) (h2 : n ≤ 5) : full n ∈ subs n ∧ ∀ l ∈ subs n, klt (full n) l = false := by
  have key : ∀ n ∈ [1, 2, 3, 4, 5], (decide (full n ∈ subs n) && (subs n).all fun l => !klt (full n) l) = true := by decide +kernel
  have hm : n ∈ [1, 2, 3, 4, 5] := by simp; omega
  have h := key n hm
  rw [Bool.and_eq_true, List.all_eq_true] at h
  exact ⟨of_decide_eq_true h.1, fun l hl => by simpa using h.2 l hl⟩
theorem lots1 : lots 1 = [[], [0]] := lots_is (by decide +kernel) (by decide +kernel)
theorem lots3 : lots 3 = [[], [0], [1], [2], [0, 1], [0, 2], [1, 2], [0, 1, 2]] := lots_is (by decide +kernel) (by decide +kernel)
theorem closed1 : closedL 1 [] = [[], [0]] := by
  unfold closedL
  rw [lots1]
  decide +kernel
theorem closed3 : closedL 3 [(0, 1), (2, 1)] = [[], [0], [2], [0, 2], [0, 1, 2]] := by
  unfold closedL
  rw [lots3]
  decide +kernel
theorem closed6 : (closedL 6 []).length = 64 := by
  unfold closedL
  rw [List.filter_eq_self.mpr fun l _ => (by rfl : closedB [] l = true), lots_length]
/-- the law's way to say that a lot is closed -/
theorem closed_law (ties : List Tie) (l : List Int) : (ties.filter fun p => l.contains p.2 && !(l.contains p.1)) = [] ↔ closedB ties l = true := by
  unfold closedB
  rw [List.filter_eq_nil_iff, List.all_eq_true]
  constructor
  · intro h p hp
    have q := h p hp
    generalize l.contains p.2 = b at q ⊢
    generalize l.contains p.1 = c at q ⊢
    cases b <;> cases c <;> simp at q ⊢
  · intro h p hp
    have q := h p hp
    generalize l.contains p.2 = b at q ⊢
    generalize l.contains p.1 = c at q ⊢
    cases b <;> cases c <;> simp at q ⊢
/-- the program's -/
theorem closed_prog (ties : List Tie) (l : List Int) : (((ties.filter fun p => l.contains p.2).map fun p => l.contains p.1).all id) = closedB ties l := by
  unfold closedB
  induction ties with
  | nil => rfl
  | cons p r ih =>
    rw [List.all_cons, ← ih]
    cases e1 : l.contains p.2 with
    | false =>
      rw [List.filter_cons_of_neg (by rw [e1]; exact Bool.false_ne_true)]
      rfl
    | true =>
      rw [List.filter_cons_of_pos (by rw [e1]), List.map_cons, List.all_cons]
      rfl
theorem closedL_last {n : Nat} {ties : List Tie} (h1 : 1 ≤ n) (h2 : n ≤ 5) (hr : ∀ p ∈ ties, 0 ≤ p.1 ∧ p.1 < (n : Int)) : ∃ init, closedL n ties = init ++ [full n] := by
  obtain ⟨a, b⟩ := last_ok n h1 h2
  obtain ⟨init, e⟩ := lots_last a b
  refine ⟨init.filter (closedB ties), ?_⟩
  unfold closedL
  rw [e, List.filter_append]
  have hc : closedB ties (full n) = true := by
    unfold closedB
    rw [List.all_eq_true]
    intro p hp
    have := hr p hp
    have hm : (full n).contains p.1 = true := by
      rw [List.contains_iff_mem]
      unfold full
      exact List.mem_map.mpr ⟨p.1.toNat, List.mem_range.mpr (by omega), by omega⟩
    rw [hm, Bool.or_true]
  rw [List.filter_cons_of_pos hc, List.filter_nil]
/-! ### rows of ties -/
def fresh (ties : List Tie) (h : Int) (f : List Int) : List Int := (ties.filter fun p => decide (p.2 = h) && !(f.contains p.1)).map (·.1)
def go (ties : List Tie) : Nat → List Int → List Int → List Int
  | 0, f, _ => f
  | n + 1, f, w => match w.getLast? with
    | none => f
    | some h => go ties n (f ++ fresh ties h f) (w.dropLast ++ fresh ties h f)
def cnt (many : Nat) (f : List Int) : Nat := ((List.range many).filter fun (i : Nat) => !(f.contains (i : Int))).length
def mu (many : Nat) (f w : List Int) : Nat := 2 * cnt many f + w.length
def need (many : Nat) (ties : List Tie) (t : Int) : List Int := go ties (2 * many + 1) [] [t]
theorem go_nil (ties : List Tie) (n : Nat) (f : List Int) : go ties n f [] = f := by
  cases n with
  | zero => rfl
  | succ n => rfl
theorem go_step (ties : List Tie) (n : Nat) (f : List Int) {w : List Int} {h : Int} (e : w.getLast? = some h) : go ties (n + 1) f w = go ties n (f ++ fresh ties h f) (w.dropLast ++ fresh ties h f) := by
  show (match w.getLast? with
    | none => f
    | some h => go ties n (f ++ fresh ties h f) (w.dropLast ++ fresh ties h f)) = _
  rw [e]
theorem filter_len_lt {α : Type} {l : List α} {p q : α → Bool} (h : ∀ x ∈ l, q x = true → p x = true) {x : α} (hx : x ∈ l) (hp : p x = true) (hq : q x = false) : (l.filter q).length + 1 ≤ (l.filter p).length := by
  induction l with
  | nil => cases hx
  | cons a r ih =>
    have le : (r.filter q).length ≤ (r.filter p).length := by
      clear ih hx
      induction r with
      | nil => exact Nat.le_refl _
      | cons b s ih2 =>
        have ih2 := ih2 fun x hx => h x (by
          rcases List.mem_cons.mp hx with e | e
          · rw [e]; exact List.mem_cons_self
          · exact List.mem_cons_of_mem _ (List.mem_cons_of_mem _ e))
        have hb := h b (List.mem_cons_of_mem _ List.mem_cons_self)
        cases e1 : q b with
        | false =>
          rw [List.filter_cons_of_neg (by simp [e1])]
          cases e2 : p b with
          | false => rw [List.filter_cons_of_neg (by simp [e2])]; exact ih2
          | true => rw [List.filter_cons_of_pos (by simp [e2]), List.length_cons]; omega
        | true => rw [List.filter_cons_of_pos (by simp [e1]), List.filter_cons_of_pos (by simp [hb e1]), List.length_cons, List.length_cons]; omega
    rcases List.mem_cons.mp hx with e | e
    · subst e
      rw [List.filter_cons_of_neg (by simp [hq]), List.filter_cons_of_pos (by simp [hp]), List.length_cons]
      omega
    · have ih := ih (fun y hy => h y (List.mem_cons_of_mem _ hy)) e
      have ha := h a List.mem_cons_self
      cases e1 : q a with
      | false =>
        rw [List.filter_cons_of_neg (by simp [e1])]
        cases e2 : p a with
        | false => rw [List.filter_cons_of_neg (by simp [e2])]; exact ih
        | true => rw [List.filter_cons_of_pos (by simp [e2]), List.length_cons]; omega
      | true => rw [List.filter_cons_of_pos (by simp [e1]), List.filter_cons_of_pos (by simp [ha e1]), List.length_cons, List.length_cons]; omega
theorem cnt_more {many : Nat} : ∀ (r f : List Int), r.Nodup → (∀ x ∈ r, 0 ≤ x ∧ x < (many : Int) ∧ ¬ x ∈ f) → cnt many (f ++ r) + r.length ≤ cnt many f
  | [], f, _, _ => by
    rw [List.append_nil]
    exact Nat.le_refl _
  | x :: r, f, hn, hr => by
    obtain ⟨n1, n2⟩ := List.nodup_cons.mp hn
    obtain ⟨x0, x1, x2⟩ := hr x List.mem_cons_self
    have ih := cnt_more r (f ++ [x]) n2 fun y hy => by
      obtain ⟨a, b, c⟩ := hr y (List.mem_cons_of_mem _ hy)
      refine ⟨a, b, fun z => ?_⟩
      rcases List.mem_append.mp z with z | z
      · exact c z
      · rw [List.mem_singleton.mp z] at hy
        exact n1 hy
    rw [List.append_assoc, List.singleton_append] at ih
    have h1 : cnt many (f ++ [x]) + 1 ≤ cnt many f := by
      unfold cnt
      refine filter_len_lt (x := x.toNat) (fun i _ hi => ?_) (List.mem_range.mpr (by omega)) ?_ ?_
      · have hi : ¬ (i : Int) ∈ f ++ [x] := by simpa using hi
        have : ¬ (i : Int) ∈ f := fun z => hi (List.mem_append_left _ z)
        simpa using this
      · have e : ((x.toNat : Nat) : Int) = x := by omega
        rw [e]
        simpa using x2
      · have e : ((x.toNat : Nat) : Int) = x := by omega
        rw [e]
        simp
    rw [List.length_cons]
    omega
theorem fresh_nodup {ties : List Tie} (hn : ties.Nodup) (h : Int) (f : List Int) : (fresh ties h f).Nodup := by
  unfold fresh
  have q : (ties.filter fun p => decide (p.2 = h) && !(f.contains p.1)).Pairwise fun p r => p ≠ r ∧ p.2 = h ∧ r.2 = h := by
    have h1 := List.Pairwise.filter (fun p : Tie => decide (p.2 = h) && !(f.contains p.1)) hn
    refine List.Pairwise.imp_of_mem (fun {a b} ha hb hab => ?_) h1
    have ha := (List.mem_filter.mp ha).2
    have hb := (List.mem_filter.mp hb).2
    simp only [Bool.and_eq_true, decide_eq_true_eq] at ha hb
    exact ⟨hab, ha.1, hb.1⟩
  rw [List.Nodup, List.pairwise_map]
  exact q.imp fun {a b} ⟨z1, z2, z3⟩ e => z1 (by
    obtain ⟨a1, a2⟩ := a
    obtain ⟨b1, b2⟩ := b
    simp only at z2 z3 e
    rw [e, z2, z3])
theorem fresh_mem {ties : List Tie} {h x : Int} {f : List Int} (hx : x ∈ fresh ties h f) : (x, h) ∈ ties ∧ ¬ x ∈ f := by
  unfold fresh at hx
  obtain ⟨p, hp, e⟩ := List.mem_map.mp hx
  obtain ⟨h1, h2⟩ := List.mem_filter.mp hp
  simp only [Bool.and_eq_true, decide_eq_true_eq] at h2
  obtain ⟨a, b⟩ := p
  simp only at e h2
  subst e
  obtain ⟨h3, h4⟩ := h2
  subst h3
  exact ⟨h1, by simpa using h4⟩
/-- a turn brings the measure down -/
theorem mu_less {many : Nat} {ties : List Tie} (hn : ties.Nodup) (hr : ∀ p ∈ ties, 0 ≤ p.1 ∧ p.1 < (many : Int)) {f w : List Int} {h : Int} (e : w.getLast? = some h) :
    mu many (f ++ fresh ties h f) (w.dropLast ++ fresh ties h f) + 1 ≤ mu many f w := by
  have h1 := cnt_more (many := many) (fresh ties h f) f (fresh_nodup hn h f) fun x hx => by
    obtain ⟨a, b⟩ := fresh_mem hx
    exact ⟨(hr _ a).1, (hr _ a).2, b⟩
  have hw : w ≠ [] := fun z => by
    rw [z] at e
    cases e
  have hl : w.dropLast.length + 1 = w.length := by
    rw [List.length_dropLast]
    have : 0 < w.length := List.length_pos_iff.mpr hw
    omega
  unfold mu
  rw [List.length_append]
  omega
theorem mu_start (many : Nat) (t : Int) : mu many [] [t] = 2 * many + 1 := by
  unfold mu cnt
  have e : ((List.range many).filter fun (i : Nat) => !(([] : List Int).contains (i : Int))) = List.range many := List.filter_eq_self.mpr fun i _ => rfl
  rw [e, List.length_range]
  rfl
/-- no way leads back where all ties go up, or all down -/
theorem go_up {ties : List Tie} (hu : ∀ p ∈ ties, p.1 < p.2) (t : Int) : ∀ (n : Nat) (f w : List Int), (∀ x ∈ f, x < t) → (∀ x ∈ w, x ≤ t) → ∀ x ∈ go ties n f w, x < t
  | 0, f, w, hf, _ => hf
  | n + 1, f, w, hf, hw => by
    cases e : w.getLast? with
    | none =>
      have : w = [] := List.getLast?_eq_none_iff.mp e
      subst this
      rw [go_nil]
      exact hf
    | some h =>
      rw [go_step ties n f e]
      have hh := hw h (List.mem_of_getLast? e)
      have fr : ∀ x ∈ fresh ties h f, x < t := fun x hx => by
        have := hu _ (fresh_mem hx).1
        simp only at this
        omega
      refine go_up hu t n _ _ (fun x hx => ?_) fun x hx => ?_
      · rcases List.mem_append.mp hx with z | z
        · exact hf x z
        · exact fr x z
      · rcases List.mem_append.mp hx with z | z
        · exact hw x ((List.dropLast_sublist w).subset z)
        · exact Int.le_of_lt (fr x z)
theorem go_down {ties : List Tie} (hu : ∀ p ∈ ties, p.2 < p.1) (t : Int) : ∀ (n : Nat) (f w : List Int), (∀ x ∈ f, t < x) → (∀ x ∈ w, t ≤ x) → ∀ x ∈ go ties n f w, t < x
  | 0, f, w, hf, _ => hf
  | n + 1, f, w, hf, hw => by
    cases e : w.getLast? with
    | none =>
      have : w = [] := List.getLast?_eq_none_iff.mp e
      subst this
      rw [go_nil]
      exact hf
    | some h =>
      rw [go_step ties n f e]
      have hh := hw h (List.mem_of_getLast? e)
      have fr : ∀ x ∈ fresh ties h f, t < x := fun x hx => by
        have := hu _ (fresh_mem hx).1
        simp only at this
        omega
      refine go_down hu t n _ _ (fun x hx => ?_) fun x hx => ?_
      · rcases List.mem_append.mp hx with z | z
        · exact hf x z
        · exact fr x z
      · rcases List.mem_append.mp hx with z | z
        · exact hw x ((List.dropLast_sublist w).subset z)
        · exact Int.le_of_lt (fr x z)
/-! ### what are ties -/
def betw (lo hi : Int) : PyData → Bool
  | .int i => decide (lo ≤ i) && decide (i ≤ hi)
  | _ => false
def intOf : PyData → Int
  | .int i => i
  | _ => 0
def isTieB (many : Nat) : PyData → Bool
  | .tuple [x, y] => betw 0 ((many : Int) - 1) x && betw 0 ((many : Int) - 1) y && !decide (intOf x = intOf y)
  | _ => false
def tieOf : PyData → Tie
  | .tuple [x, y] => (intOf x, intOf y)
  | _ => (0, 0)
def plt (p q : Tie) : Bool := if p.1 = q.1 then decide (p.2 < q.2) else decide (p.1 < q.1)
/-- each is less than the next one -/
def ascB {α : Type} (lt : α → α → Bool) : List α → Bool
  | [] => true
  | [_] => true
  | x :: y :: r => lt x y && ascB lt (y :: r)
def acyB (many : Nat) (ties : List Tie) : Bool := !((List.range many).any fun (n : Nat) => (need many ties (n : Int)).contains (n : Int))
def areTiesB (many : Nat) : PyData → Bool
  | .tuple ds => ds.all (isTieB many) && (ascB plt (ds.map tieOf) && acyB many (ds.map tieOf))
  | _ => false
def plainB (many : Nat) : PyData → Bool
  | .tuple ds => ds.all (betw 0 ((many : Int) - 1)) && ascB (fun x y : Int => decide (x < y)) (ds.map intOf)
  | _ => false
/-- drawn ties -/
structure Good (many : Nat) (ties : List Tie) : Prop where
  rng : ∀ p ∈ ties, (0 ≤ p.1 ∧ p.1 < (many : Int)) ∧ 0 ≤ p.2 ∧ p.2 < (many : Int)
  asc : ties.Pairwise fun p q => plt p q = true
  way : (∀ p ∈ ties, p.1 < p.2) ∨ ∀ p ∈ ties, p.2 < p.1
theorem plt_irrefl (p : Tie) : plt p p = false := by
  unfold plt
  simp
theorem plt_iff {p q : Tie} : plt p q = true ↔ p.1 < q.1 ∨ (p.1 = q.1 ∧ p.2 < q.2) := by
  unfold plt
  by_cases h : p.1 = q.1
  · rw [if_pos h]
    simp [h]
  · rw [if_neg h]
    simp [h]
theorem asc_of {α : Type} {lt : α → α → Bool} : ∀ {l : List α}, l.Pairwise (fun p q => lt p q = true) → ascB lt l = true
  | [], _ => rfl
  | [_], _ => rfl
  | x :: y :: r, h => by
    obtain ⟨h1, h2⟩ := List.pairwise_cons.mp h
    show (lt x y && ascB lt (y :: r)) = true
    rw [h1 y List.mem_cons_self, asc_of h2]
    rfl
theorem Good.nodup {many : Nat} {ties : List Tie} (g : Good many ties) : ties.Nodup := g.asc.imp fun {a b} h e => by
  subst e
  rw [plt_irrefl] at h
  cases h
theorem tie_of_D (p : Tie) : tieOf (tieD p) = p := rfl
theorem Good.are {many : Nat} {ties : List Tie} (g : Good many ties) : areTiesB many (.tuple (ties.map tieD)) = true := by
  have e : (ties.map tieD).map tieOf = ties := by
    rw [List.map_map]
    exact List.map_id'' (fun p => rfl) ties
  show ((ties.map tieD).all (isTieB many) && (ascB plt ((ties.map tieD).map tieOf) && acyB many ((ties.map tieD).map tieOf))) = true
  rw [e]
  have h1 : (ties.map tieD).all (isTieB many) = true := by
    rw [List.all_map, List.all_eq_true]
    intro p hp
    obtain ⟨⟨a, b⟩, c, d⟩ := g.rng p hp
    have hne : ¬ p.1 = p.2 := by
      rcases g.way with w | w
      · have := w p hp
        omega
      · have := w p hp
        omega
    show isTieB many (tieD p) = true
    unfold tieD isTieB betw intOf
    simp [hne]
    omega
  rw [h1, asc_of g.asc, Bool.true_and, Bool.true_and]
  unfold acyB
  rw [Bool.not_eq_true', List.any_eq_false]
  intro n _ hc
  have hm : (n : Int) ∈ need many ties (n : Int) := List.contains_iff_mem.mp hc
  unfold need at hm
  rcases g.way with w | w
  · exact Int.lt_irrefl _ (go_up w (n : Int) _ [] [(n : Int)] (fun x hx => by cases hx) (fun x hx => by rw [List.mem_singleton.mp hx]; exact Int.le_refl _) _ hm)
  · exact Int.lt_irrefl _ (go_down w (n : Int) _ [] [(n : Int)] (fun x hx => by cases hx) (fun x hx => by rw [List.mem_singleton.mp hx]; exact Int.le_refl _) _ hm)
/-- turned about -/
def flip (many : Nat) (p : Tie) : Tie := ((many : Int) - 1 - p.1, (many : Int) - 1 - p.2)
theorem Good.flip {many : Nat} {ties ys : List Tie} (g : Good many ties) (hp : ys.Perm (ties.map (flip many))) (hs : ys.Pairwise fun p q => plt q p = false) : Good many ys := by
  have mem : ∀ p ∈ ys, ∃ q ∈ ties, p = K1.flip many q := fun p h => by
    obtain ⟨q, hq, e⟩ := List.mem_map.mp (hp.mem_iff.mp h)
    exact ⟨q, hq, e.symm⟩
  refine ⟨fun p h => ?_, ?_, ?_⟩
  · obtain ⟨q, hq, e⟩ := mem p h
    have := g.rng q hq
    subst e
    unfold K1.flip
    simp only
    omega
  · have nd : (ties.map (K1.flip many)).Nodup := by
      rw [List.Nodup, List.pairwise_map]
      exact g.nodup.imp fun {a b} h e => h (by
        obtain ⟨a1, a2⟩ := a
        obtain ⟨b1, b2⟩ := b
        unfold K1.flip at e
        simp only [Prod.mk.injEq] at e
        simp only [Prod.mk.injEq]
        omega)
    have nd2 : ys.Nodup := hp.nodup_iff.mpr nd
    have both := hs.and nd2
    refine both.imp fun {a b} ⟨h1, h2⟩ => ?_
    cases e : plt a b with
    | true => rfl
    | false =>
      exfalso
      apply h2
      have n1 : ¬ (a.1 < b.1 ∨ (a.1 = b.1 ∧ a.2 < b.2)) := fun z => by
        rw [plt_iff.mpr z] at e
        cases e
      have n2 : ¬ (b.1 < a.1 ∨ (b.1 = a.1 ∧ b.2 < a.2)) := fun z => by
        rw [plt_iff.mpr z] at h1
        cases h1
      obtain ⟨a1, a2⟩ := a
      obtain ⟨b1, b2⟩ := b
      simp only at n1 n2
      simp only [Prod.mk.injEq]
      omega
  · rcases g.way with w | w
    · refine .inr fun p h => ?_
      obtain ⟨q, hq, e⟩ := mem p h
      have := w q hq
      subst e
      unfold K1.flip
      simp only
      omega
    · refine .inl fun p h => ?_
      obtain ⟨q, hq, e⟩ := mem p h
      have := w q hq
      subst e
      unfold K1.flip
      simp only
      omega
/-- a lot of lots is a plain lot -/
theorem plain_lot {n : Nat} {l : List Int} (h : l ∈ lots n) : plainB n (lotD l) = true := by
  have hs := lots_mem.mp h
  have e : (l.map PyData.int).map intOf = l := by
    rw [List.map_map]
    exact List.map_id'' (fun p => rfl) l
  show ((l.map PyData.int).all (betw 0 ((n : Int) - 1)) && ascB (fun x y : Int => decide (x < y)) ((l.map PyData.int).map intOf)) = true
  rw [e, asc_of ((subs_asc n l hs).imp fun {a b} z => decide_eq_true z), Bool.and_true, List.all_map, List.all_eq_true]
  intro x hx
  have := subs_range n l hs x hx
  show betw 0 ((n : Int) - 1) (.int x) = true
  unfold betw
  simp
  omega
/-! ### the refused ones -/
theorem odd_ties : ([.none, .list [tieD (0, 1)], .tuple [tieD (0, 3)], .tuple [tieD (1, 1)], .tuple [tieD (0, 1), tieD (0, 1)], .tuple [tieD (0, 2), tieD (0, 1)], .tuple [tieD (0, 1), tieD (1, 0)], .tuple [.tuple [.int 0]],
    .tuple [tieD (0, 1), tieD (1, 2), tieD (2, 0)], .tuple [.tuple [.int 0, .bool true]], .tuple [tieD (-1, 0)], .tuple [.tuple [.int 0, .int 1, .int 2]]] : List PyData).all (fun d => !areTiesB 3 d) = true := by decide +kernel
theorem odd_back (n : Nat) (h1 : 1 ≤ n) (h2 : n ≤ 5) : plainB n (lotD ((full n).reverse ++ [0])) = false := by
  have key : ∀ n ∈ [1, 2, 3, 4, 5], plainB n (lotD ((full n).reverse ++ [0])) = false := by decide +kernel
  exact key n (by simp; omega)
theorem full_ne {n : Nat} (h : 1 ≤ n) : full n ≠ [] := fun z => by
  have := congrArg List.length z
  unfold full at this
  rw [List.length_map, List.length_range] at this
  simp at this
  omega
end K1
/-! Data in the abstract heap, rules of our own. -/
namespace K1
open PySem PySem.Spec PyProof.Rows L2 LamX
/-! ### data that stand tracked -/
mutual
inductive Dt (H : Hp) : V → PyData → Prop
  | non : Dt H .non .none
  | bl (b : Bool) : Dt H (.bl b) (.bool b)
  | int (i : Int) : Dt H (.int i) (.int i)
  | str (x : Str) : Dt H (.str x) (.str x)
  | lst {a : Addr} {xs : List V} {ds : List PyData} : H a = some (.lst xs) → DtAll H xs ds → Dt H (.ref a) (.list ds)
  | tup {a : Addr} {xs : List V} {ds : List PyData} : H a = some (.tup xs) → DtAll H xs ds → Dt H (.ref a) (.tuple ds)
inductive DtAll (H : Hp) : List V → List PyData → Prop
  | nil : DtAll H [] []
  | cons {v : V} {vs : List V} {d : PyData} {ds : List PyData} : Dt H v d → DtAll H vs ds → DtAll H (v :: vs) (d :: ds)
end
mutual
theorem Dt.dp {K : PySem.W.Frag} {H : Hp} : ∀ {v : V} {d : PyData}, Dt H v d → Dp K H v d
  | _, _, .non => .non
  | _, _, .bl b => .bl b
  | _, _, .int i => .int i
  | _, _, .str x => .str x
  | _, _, .lst h a => .lst (.of h) (DtAll.dp a)
  | _, _, .tup h a => .tup (.of h) (DtAll.dp a)
theorem DtAll.dp {K : PySem.W.Frag} {H : Hp} : ∀ {vs : List V} {ds : List PyData}, DtAll H vs ds → DpAll K H vs ds
  | _, _, .nil => .nil
  | _, _, .cons h t => .cons (Dt.dp h) (DtAll.dp t)
end
mutual
theorem Dt.ext {H H' : Hp} (e : ExtN H H') : ∀ {v : V} {d : PyData}, Dt H v d → Dt H' v d
  | _, _, .non => .non
  | _, _, .bl b => .bl b
  | _, _, .int i => .int i
  | _, _, .str x => .str x
  | _, _, .lst h a => .lst (e _ _ h fun _ z => nomatch z) (DtAll.ext e a)
  | _, _, .tup h a => .tup (e _ _ h fun _ z => nomatch z) (DtAll.ext e a)
theorem DtAll.ext {H H' : Hp} (e : ExtN H H') : ∀ {vs : List V} {ds : List PyData}, DtAll H vs ds → DtAll H' vs ds
  | _, _, .nil => .nil
  | _, _, .cons h t => .cons (Dt.ext e h) (DtAll.ext e t)
end
theorem Same.ext {H H' : Hp} (e : Same H H') : ExtN H H' := fun b o h _ => e b o h
theorem Dt.same {H H' : Hp} (e : Same H H') {v : V} {d : PyData} (h : Dt H v d) : Dt H' v d := h.ext (Same.ext e)
theorem DtAll.same {H H' : Hp} (e : Same H H') {vs : List V} {ds : List PyData} (h : DtAll H vs ds) : DtAll H' vs ds := h.ext (Same.ext e)
theorem DtAll.length {H : Hp} : ∀ {vs : List V} {ds : List PyData}, DtAll H vs ds → vs.length = ds.length
  | _, _, .nil => rfl
  | _, _, .cons _ t => congrArg Nat.succ (DtAll.length t)
theorem DtAll.get {H : Hp} : ∀ {vs : List V} {ds : List PyData} {i : Nat} {v : V}, DtAll H vs ds → vs[i]? = some v → ∃ d, ds[i]? = some d ∧ Dt H v d
  | _, _, _, _, .nil, e => by simp at e
  | _, _, 0, _, .cons h _, e => by
    simp at e
    subst e
    exact ⟨_, rfl, h⟩
  | _, _, i + 1, _, .cons _ t, e => by
    obtain ⟨d, h1, h2⟩ := DtAll.get (i := i) t (by simpa using e)
    exact ⟨d, by simpa using h1, h2⟩
theorem DtAll.append {H : Hp} : ∀ {vs ws : List V} {ds es : List PyData}, DtAll H vs ds → DtAll H ws es → DtAll H (vs ++ ws) (ds ++ es)
  | _, _, _, _, .nil, h => h
  | _, _, _, _, .cons h t, h2 => .cons h (DtAll.append t h2)
theorem DtAll.one {H : Hp} {v : V} {d : PyData} (h : Dt H v d) : DtAll H [v] [d] := .cons h .nil
theorem DtAll.ints {H : Hp} : ∀ ns : List Int, DtAll H (ns.map V.int) (ns.map .int)
  | [] => .nil
  | n :: ns => .cons (.int n) (DtAll.ints ns)
theorem DtAll.ints_eq {H : Hp} : ∀ {ns : List Int} {vs : List V}, DtAll H vs (ns.map .int) → vs = ns.map V.int
  | [], _, .nil => rfl
  | n :: ns, _, .cons h t => by
    cases h
    rw [DtAll.ints_eq (ns := ns) t]
    rfl
theorem DtAll.bls_eq {H : Hp} : ∀ {bs : List Bool} {vs : List V}, DtAll H vs (bs.map .bool) → vs = bs.map V.bl
  | [], _, .nil => rfl
  | b :: bs, _, .cons h t => by
    cases h
    rw [DtAll.bls_eq (bs := bs) t]
    rfl
theorem Dt.int_eq {H : Hp} {v : V} {i : Int} (h : Dt H v (.int i)) : v = .int i := by
  cases h
  rfl
theorem Dt.tup_of {H : Hp} {v : V} {ds : List PyData} (h : Dt H v (.tuple ds)) : ∃ a xs, v = .ref a ∧ H a = some (.tup xs) ∧ DtAll H xs ds := by
  cases h with
  | tup h a => exact ⟨_, _, rfl, h, a⟩
theorem Dt.lst_of {H : Hp} {v : V} {ds : List PyData} (h : Dt H v (.list ds)) : ∃ a xs, v = .ref a ∧ H a = some (.lst xs) ∧ DtAll H xs ds := by
  cases h with
  | lst h a => exact ⟨_, _, rfl, h, a⟩
theorem Dt.lot {H : Hp} {v : V} {l : List Int} (h : Dt H v (lotD l)) : ∃ a, v = .ref a ∧ H a = some (.tup (l.map V.int)) := by
  obtain ⟨a, xs, e, ha, hx⟩ := h.tup_of
  rw [hx.ints_eq] at ha
  exact ⟨a, e, ha⟩
theorem Dt.of_lot {H : Hp} {a : Addr} {l : List Int} (h : H a = some (.tup (l.map V.int))) : Dt H (.ref a) (lotD l) := .tup h (.ints l)
theorem Dt.tie {H : Hp} {v : V} {p : Tie} (h : Dt H v (tieD p)) : ∃ a, v = .ref a ∧ H a = some (.tup [V.int p.1, V.int p.2]) := by
  obtain ⟨a, xs, e, ha, hx⟩ := h.tup_of
  have e2 := DtAll.ints_eq (ns := [p.1, p.2]) hx
  rw [e2] at ha
  exact ⟨a, e, ha⟩
theorem Dt.of_tie {H : Hp} {a : Addr} {p : Tie} (h : H a = some (.tup [V.int p.1, V.int p.2])) : Dt H (.ref a) (tieD p) := .tup h (DtAll.ints [p.1, p.2])
theorem DtAll.mem {H : Hp} : ∀ {vs : List V} {ds : List PyData}, DtAll H vs ds → ∀ v ∈ vs, ∃ d ∈ ds, Dt H v d
  | _, _, .nil, v, h => by cases h
  | _, _, .cons h t, v, hm => by
    rcases List.mem_cons.mp hm with e | e
    · subst e
      exact ⟨_, List.mem_cons_self, h⟩
    · obtain ⟨d, h1, h2⟩ := DtAll.mem t v e
      exact ⟨d, List.mem_cons_of_mem _ h1, h2⟩
/-! ### what grows -/
/-- all but the tables stays; the tables stay tables -/
structure Gr (T : List (Addr × Str)) (H H' : Hp) : Prop where
  ext : ExtN H H'
  tab : Tabs T H'
theorem Gr.of_same {T : List (Addr × Str)} {H H' : Hp} (t : Tabs T H) (e : Same H H') : Gr T H H' := ⟨Same.ext e, t.ext e⟩
theorem Gr.trans {T : List (Addr × Str)} {H H1 H2 : Hp} (a : Gr T H H1) (b : Gr T H1 H2) : Gr T H H2 := ⟨a.ext.trans b.ext, b.tab⟩
theorem Gr.same {T : List (Addr × Str)} {H H1 H2 : Hp} (a : Gr T H H1) (b : Same H1 H2) : Gr T H H2 := ⟨a.ext.trans (Same.ext b), a.tab.ext b⟩
theorem same_upd {H : Hp} {p : Addr} {o : HO} (h : H p = none) : Same H (upd H p o) := fun b x e => by
  rw [upd_ne (ne_of_none e h)]
  exact e
theorem Same.upd' {H H1 : Hp} {p : Addr} {o : HO} (e : Same H H1) (h : H1 p = none) : Same H (upd H1 p o) := e.trans (same_upd h)
end K1
namespace K1
open PySem PySem.Spec PyProof.Rows L2 LamX
/-! ### how long a datum's text is -/
mutual
def wt : PyData → Nat
  | .none => 4
  | .bool _ => 5
  | .int _ => 24
  | .str x => 10 * x.length + 2
  | .list xs => 3 + wtAll xs
  | .tuple xs => 3 + wtAll xs
  | .dict _ => 0
def wtAll : List PyData → Nat
  | [] => 0
  | x :: xs => wt x + 2 + wtAll xs
end
mutual
/-- small numbers, plain signs, no dict -/
def smallD : PyData → Bool
  | .none => true
  | .bool _ => true
  | .int i => decide (i.natAbs < 2 ^ 20)
  | .str x => PyData.strOk x
  | .list xs => smallAll xs
  | .tuple xs => smallAll xs
  | .dict _ => false
def smallAll : List PyData → Bool
  | [] => true
  | x :: xs => smallD x && smallAll xs
end
theorem piled_add (t : Str) (r : List Str) : piled (t :: r) = t.length + 2 + piled r := by
  rw [piled_cons]
  try omega
theorem listText_le (ts : List Str) : (listText ts).length ≤ 2 + piled ts := by
  have hX : (listText ts).length = (textFrom 0 "[" ts).length + 1 := by
    show (textFrom 0 "[" ts ++ "]").length = _
    rw [strLen_append]; rfl
  rw [hX]
  cases ts with
  | nil => show 1 + 1 ≤ _; omega
  | cons t r =>
    have h := textFrom_length_pos r 1 (("[" : Str) ++ (if (0 : Nat) > 0 then ", " else "" : String) ++ t) (Nat.succ_pos 0)
    have hY : (textFrom 0 "[" (t :: r)).length = (textFrom 1 (("[" : Str) ++ (if (0 : Nat) > 0 then ", " else "" : String) ++ t) r).length := rfl
    have e : ((("[" : Str) ++ (if (0 : Nat) > 0 then ", " else "" : String) ++ t)).length = 1 + t.length := by
      rw [strLen_append, strLen_append]; rfl
    rw [hY, h, e, piled_add]
    omega
theorem tupleText_le (ts : List Str) : (tupleText ts).length ≤ 3 + piled ts := by
  have e : (tupleText ts).length ≤ 1 + (Str.join ", " ts).length + 2 := by
    unfold tupleText
    rw [strLen_append, strLen_append]
    have h2 : ((if ts.length == 1 then ",)" else ")" : String) : Str).length ≤ 2 := by
      split
      · exact (by decide : (Str.ofString ",)").length ≤ 2)
      · exact (by decide : (Str.ofString ")").length ≤ 2)
    have h1 : ("(" : Str).length = 1 := rfl
    omega
  cases ts with
  | nil =>
    have : (Str.join ", " ([] : List Str)).length = 0 := rfl
    omega
  | cons t r =>
    have := join_length_add (t :: r) (by simp)
    omega
theorem int_text_len {i : Int} (h : i.natAbs < 2 ^ 20) : (Str.ofString (toString i)).length ≤ 24 := by
  have h1 : (Nat.repr i.natAbs).length ≤ 20 := nat_repr_length_le (by decide) h
  have hl : ∀ s : String, (Str.ofString s).length = s.length := fun s => by
    rw [PyProof.Rows.ofString_length, String.length_toList]
  rw [hl]
  cases i with
  | ofNat n =>
    have e : toString (Int.ofNat n) = Nat.repr n := rfl
    rw [e]
    have h2 : (Nat.repr n).length ≤ 20 := h1
    omega
  | negSucc n =>
    have e : toString (Int.negSucc n) = "-" ++ Nat.repr (n + 1) := rfl
    rw [e, String.length_append]
    have h2 : (Nat.repr (n + 1)).length ≤ 20 := h1
    have : ("-" : String).length = 1 := rfl
    omega
mutual
theorem shown_le : ∀ d : PyData, smallD d = true → d.shown.length ≤ wt d
  | .none, _ => by
    simp only [PyData.shown, wt]
    exact (by decide : (Str.ofString "None").length ≤ 4)
  | .bool b, _ => by
    simp only [PyData.shown, wt]
    cases b
    · exact (by decide : (Str.ofString "False").length ≤ 5)
    · exact (by decide : (Str.ofString "True").length ≤ 5)
  | .int i, h => by
    simp only [PyData.shown, wt]
    exact int_text_len (by simpa [smallD] using h)
  | .str x, h => by
    simp only [PyData.shown, wt]
    refine StrLaws.reprText_len x fun c hc => ?_
    have h' : (x.cps.all fun c => decide (c < 0x110000)) = true := by simpa only [smallD, PyData.strOk] using h
    rw [← Array.all_toList, List.all_eq_true] at h'
    have := of_decide_eq_true (h' c hc)
    omega
  | .list xs, h => by
    have q := shownAll_le xs (by simpa only [smallD] using h)
    have := listText_le (PyData.shownAll xs)
    simp only [PyData.shown, wt]
    omega
  | .tuple xs, h => by
    have q := shownAll_le xs (by simpa only [smallD] using h)
    have := tupleText_le (PyData.shownAll xs)
    simp only [PyData.shown, wt]
    omega
  | .dict _, h => by simp [smallD] at h
theorem shownAll_le : ∀ xs : List PyData, smallAll xs = true → piled (PyData.shownAll xs) ≤ wtAll xs
  | [], _ => by
    simp only [PyData.shownAll, wtAll]
    exact Nat.le_refl _
  | x :: xs, h => by
    have h' : smallD x = true ∧ smallAll xs = true := by simpa only [smallAll, Bool.and_eq_true] using h
    have h1 := shown_le x h'.1
    have h2 := shownAll_le xs h'.2
    simp only [PyData.shownAll, wtAll]
    rw [piled_add]
    omega
end
mutual
theorem small_show : ∀ d : PyData, smallD d = true → d.showable = true ∧ d.canLay0 = true
  | .none, _ => by simp [PyData.showable, PyData.canLay0]
  | .bool _, _ => by simp [PyData.showable, PyData.canLay0]
  | .int i, h => by
    have h' : i.natAbs < 2 ^ 20 := by simpa only [smallD, decide_eq_true_eq] using h
    have : i.natAbs.log2 < 1920 := by
      by_cases z : i.natAbs = 0
      · rw [z]
        decide
      · have := (Nat.log2_lt z).mpr h'
        omega
    simp [PyData.showable, PyData.canLay0, this]
  | .str x, h => by
    have h' : PyData.strOk x = true := by simpa only [smallD] using h
    simp [PyData.showable, PyData.canLay0, h']
  | .list xs, h => by
    have q := smallAll_show xs (by simpa only [smallD] using h)
    simp [PyData.showable, PyData.canLay0, q.1, q.2]
  | .tuple xs, h => by
    have q := smallAll_show xs (by simpa only [smallD] using h)
    simp [PyData.showable, PyData.canLay0, q.1, q.2]
  | .dict _, h => by simp [smallD] at h
theorem smallAll_show : ∀ xs : List PyData, smallAll xs = true → PyData.showableAll xs = true ∧ PyData.canLayAll0 xs = true
  | [], _ => by simp [PyData.showableAll, PyData.canLayAll0]
  | x :: xs, h => by
    have h' : smallD x = true ∧ smallAll xs = true := by simpa only [smallAll, Bool.and_eq_true] using h
    have h1 := small_show x h'.1
    have h2 := smallAll_show xs h'.2
    simp [PyData.showableAll, PyData.canLayAll0, h1.1, h1.2, h2.1, h2.2]
end
/-- what is asked of a datum that is shown -/
structure Shw (d : PyData) : Prop where
  small : smallD d = true
  wt : wt d ≤ 1000000
  depth : d.depth ≤ 20
theorem Shw.fits {d : PyData} (h : Shw d) : d.shown.length ≤ sizeLine := by
  have h1 := shown_le d h.small
  have h2 := h.wt
  rw [sizeLine_eq]
  omega
/-! ### repr -/
section
variable {X : Cx}
def rRepr : List V → Hp → VK → Prop := fun xs H Q => ∃ (x : V) (d : PyData), xs = [x] ∧ Dt H x d ∧ Shw d ∧ Q (.str d.shown) H
theorem call_reprD (hg : X.A.guards = some []) (hu : X.A.units + 64 < cLine) : CallR X (.builtin "repr") rRepr := by
  intro pins s σ H xs us Q I r h
  obtain ⟨x, d, rfl, hd, hs, q⟩ := h
  obtain ⟨u, rfl, rx⟩ := vals1 r
  have sh := small_show d hs.small
  have fit := hs.fits
  cases hd with
  | bl b =>
    cases rx
    exact P.repr_of_bool ⟨.str _, H, I.tok _, ⟨_, rfl⟩, by
      have e : PyData.shown (.bool b) = (if b then Str.ofString "True" else Str.ofString "False") := by
        simp only [PyData.shown]
      rw [e] at q
      exact q⟩
  | non =>
    cases rx
    exact P.repr_of_none ⟨.str _, H, I.tok _, ⟨_, rfl⟩, by simpa only [PyData.shown] using q⟩
  | str y =>
    obtain ⟨t, rfl⟩ := rx
    exact P.repr_of_str ⟨.str _, H, I.tok _, ⟨_, rfl⟩, by simpa only [PyData.shown] using q⟩ (by simpa only [PyData.shown] using fit)
  | int i =>
    obtain ⟨t, rfl⟩ := rx
    exact P.repr_of_int (by simpa [PyData.showable] using sh.1) ⟨.str _, H, I.tok _, ⟨_, rfl⟩, by simpa only [PyData.shown] using q⟩
  | lst h1 h2 =>
    cases rx
    obtain ⟨as, rd⟩ := Dp.reads I _ _ _ (Dt.dp (K := X.K) (.lst h1 h2)) (show RelV (.ref _) (.ref _) from rfl)
    have hdp := hs.depth
    exact repr_of_reads' rd sh.1 (PyData.noDict_hsm (PyData.hasDict_of_canLay _ sh.2)) hg (by omega) (fun _ _ e => e) (fun h' u tk k => ⟨.str _, H, I.kept k, ⟨_, rfl⟩, q⟩) fit
  | tup h1 h2 =>
    cases rx
    obtain ⟨as, rd⟩ := Dp.reads I _ _ _ (Dt.dp (K := X.K) (.tup h1 h2)) (show RelV (.ref _) (.ref _) from rfl)
    have hdp := hs.depth
    exact repr_of_reads' rd sh.1 (PyData.noDict_hsm (PyData.hasDict_of_canLay _ sh.2)) hg (by omega) (fun _ _ e => e) (fun h' u tk k => ⟨.str _, H, I.kept k, ⟨_, rfl⟩, q⟩) fit
end
end K1
namespace K1
open PySem PySem.Spec PyProof.Rows L2 LamX
/-! ### x in a tuple of data -/
section
variable {X : Cx}
def rInD : R2 := fun x y H Q => ∃ (xs : List PyData) (d : PyData), Dt H y (.tuple xs) ∧ Dt H x d ∧ PyData.canLayAll0 xs = true ∧ d.canLay0 = true ∧ d.depth ≤ 20 ∧ Q (.bl (xs.any fun y => PyData.eqv y d)) H
theorem op_inD (hu : X.A.units + 64 < cLine) : OpR X (compareOp .In) rInD := by
  intro pins s σ H x y v u Q I rx ry h
  obtain ⟨xs, d, hy, hx, c1, c2, dp, q⟩ := h
  obtain ⟨as, r1⟩ := Dp.reads I _ _ _ (Dt.dp (K := X.K) hy) ry
  obtain ⟨bs, r2⟩ := Dp.reads I _ _ _ (Dt.dp (K := X.K) hx) rx
  refine SeqAt.in_tuple_reads r1 r2 c1 c2 ?_ ⟨.bl _, H, I, rfl, q⟩
  have := Nat.min_le_right (PyData.depthAll xs) d.depth
  omega
end
/-! ### t[::-1] -/
section
variable {prog : Program} {w : World} {A : Around} {E : Value → Shared → Prop} {s : Shared}
theorem adjust_rev (n : Nat) : Builtin.Slice.sliceAdjust none none (-1) (n : Int) = ((n : Int) - 1, -1) := by
  first
    | rfl
    | simp [Builtin.Slice.sliceAdjust]
theorem places_rev (n : Nat) : Builtin.Slice.slicePlaces ((n : Int) - 1) (-1) (-1) = n := by
  unfold Builtin.Slice.slicePlaces
  have h1 : ¬ ((-1 : Int) > 0) := by decide
  simp only [h1, if_false]
  split
  · rw [show (- -1 : Int) = 1 by decide, Int.ediv_one]
    omega
  · omega
theorem sliceApplied_rev {sl : Addr} {vl vu vs : Value} {n : Nat} {Q : Int × Int × Nat → Shared → Prop} (hs : s.heap.IsSliceOf sl vl vu vs) (pl : IsPart vl none) (pu : IsPart vu none) (ps : IsPart vs (some (-1)))
    (h : Q ((n : Int) - 1, -1, n) s) : wpAny (model prog w) A (Builtin.Slice.sliceApplied (.ref sl) (pure (n : Int))) Q E s := by
  obtain ⟨os, hos, hcs, hds⟩ := id hs
  unfold Builtin.Slice.sliceApplied Builtin.Slice.sliceFields
  refine wpAny_bind (wpAny_bind (wpAny_field hos hds (x := vl) rfl (wpAny_bind (wpAny_field hos hds (x := vu) rfl (wpAny_bind (wpAny_field hos hds (x := vs) rfl (wpAny_pure ?_)))))))
  refine wpAny_bind (HT.slicePart_ ps ?_)
  show wpAny _ _ (if ((-1 : Int) == 0) = true then _ else _) _ _ s
  rw [if_neg (by decide)]
  refine wpAny_bind (HT.slicePart_ pl (wpAny_bind (HT.slicePart_ pu (wpAny_bind (wpAny_pure ?_)))))
  show wpAny _ _ (match Builtin.Slice.sliceAdjust none none (-1) (n : Int) with | (lo, hi) => pure (lo, (-1 : Int), Builtin.Slice.slicePlaces lo hi (-1))) _ _ s
  rw [adjust_rev n]
  show wpAny _ _ (pure ((n : Int) - 1, (-1 : Int), Builtin.Slice.slicePlaces ((n : Int) - 1) (-1) (-1))) _ _ s
  rw [places_rev]
  exact wpAny_pure h
theorem pick_rev (xs : Array Value) : ((List.range xs.size).filterMap fun (m : Nat) => xs[(((xs.size : Int) - 1) + (m : Int) * (-1)).toNat]?).toArray = xs.toList.reverse.toArray := by
  congr 1
  apply List.ext_getElem?
  intro i
  have key : ∀ (l : List Nat), (∀ m ∈ l, m < xs.size) → (l.filterMap fun (m : Nat) => xs[(((xs.size : Int) - 1) + (m : Int) * (-1)).toNat]?) = l.map fun m => (xs.toList.reverse[m]?).getD .none := by
    intro l
    induction l with
    | nil => intro _; rfl
    | cons m l ih =>
      intro hl
      have hm := hl m (by simp)
      have e : (((xs.size : Int) - 1) + (m : Int) * (-1)).toNat = xs.size - 1 - m := by omega
      have e2 : xs[xs.size - 1 - m]? = some ((xs.toList.reverse[m]?).getD .none) := by
        rw [List.getElem?_reverse (by simpa using hm)]
        simp only [Array.length_toList]
        rw [Array.getElem?_toList, Array.getElem?_eq_getElem (by omega)]
        simp
      rw [List.filterMap_cons]
      simp only [e, e2]
      rw [List.map_cons, ih fun x hx => hl x (by simp [hx])]
  rw [key _ fun m hm => List.mem_range.mp hm]
  rw [List.getElem?_map]
  by_cases hi : i < xs.size
  · rw [List.getElem?_range hi]
    have : i < xs.toList.reverse.length := by simpa using hi
    have e3 := List.getElem?_eq_getElem this
    rw [e3]
    simp only [Option.map_some]
    rw [e3]
    rfl
  · rw [List.getElem?_eq_none (by simpa using hi), List.getElem?_eq_none (by simpa using hi)]
    rfl
theorem getItem_tuple_rev {t sl : Addr} {items : Array Value} {vl vu vs : Value} {Q : Value → Shared → Prop} (ht : IsTup s.heap t items) (hs : s.heap.IsSliceOf sl vl vu vs) (pl : IsPart vl none) (pu : IsPart vu none) (ps : IsPart vs (some (-1)))
    (h : Q (.ref s.heap.objs.size) { s with heap := s.heap.push { cls := .type "tuple", data := .seq items.toList.reverse.toArray } })
    (hsz : items.size ≤ sizeLine) : wpAny (model prog w) A (getItem (.ref t) (.ref sl)) Q E s := by
  have htake : sizeOk (.seq items.toList.reverse.toArray) := by
    show items.toList.reverse.toArray.size ≤ sizeLine
    rw [List.size_toArray, List.length_reverse, Array.length_toList]
    exact hsz
  obtain ⟨os, hos, hcs, hds⟩ := id hs
  have hTs : s.TypeIs (.ref sl) "slice" := ⟨os, hos, hcs⟩
  unfold getItem
  try with_reducible refine wpAny_holding ?_
  first | refine wpAny_bind (wpAny_pure ?_) | skip
  refine wpAny_bind (wpAny_sequenceKey ht.typeIs (by decide) ?_)
  refine wpAny_bind (wpAny_callSpecial?_slot (name := Str.ofString "__getitem__") ht.typeIs PyProof.Rows.slot_tuple_getitem
    (wpAny_call_entry PyProof.Rows.slot_tuple_getitem ht.typeIs entry_tuple_getitem ?_ (args_tuple_getitem _ _)))
  show wpAny _ _ (Builtin.Tuple.tupleItemsOf (.ref t) >>= _) _ _ s
  refine wpAny_bind (PyProof.Rows.tupleItemsOf_ ht ?_)
  refine wpAny_bind (wpAny_typeOf hTs ?_)
  rw [if_pos (by decide)]
  refine wpAny_bind (sliceApplied_rev hs pl pu ps ?_)
  have hno : ¬ ((((items.size : Int) - 1) == 0 && (-1 : Int) == 1 && items.size == items.size) = true) := by
    intro q
    rw [Bool.and_eq_true, Bool.and_eq_true] at q
    exact absurd q.1.2 (by decide)
  show wpAny _ _ (if (((items.size : Int) - 1) == 0 && (-1 : Int) == 1 && items.size == items.size) = true then _ else _) _ _ s
  rw [if_neg hno, pick_rev]
  first
    | exact wpAny_bind (m := Builtin.Tuple.tupleExact _) (wpAny_newObj_type (wpAny_pure ⟨_, rfl, wpAny_pure h⟩) htake)
    | exact wpAny_bind (m := Builtin.Tuple.tupleExact _) (wpAny_newObj_type (wpAny_bind (wpAny_pure (wpAny_pure ⟨_, rfl, wpAny_pure h⟩))) htake)
    | exact wpAny_bind (wpAny_bind (m := Builtin.Tuple.tupleExact _) (wpAny_newObj_type (wpAny_pure (wpAny_pure ⟨_, rfl, wpAny_pure h⟩)) htake))
    | exact wpAny_bind (wpAny_bind (m := Builtin.Tuple.tupleExact _) (wpAny_newObj_type (wpAny_pure ⟨_, rfl, wpAny_pure h⟩) htake))
end
section
variable {X : Cx}
def tRevT (K : PySem.W.Frag) (te : TE) : TE := fun σ H Q => te σ H fun x H1 => ∃ a xs, x = .ref a ∧ SqT K H1 a xs ∧ ∀ p, H1 p = none → Q (.ref p) (upd H1 p (.tup xs.reverse))
theorem pe_revT {e : Expr} {te : TE} {k : Nat} {p1 p2 p3 pos : Pos} (he : PE X e te) : PE X (.Subscript e (.Slice none none (some (.UnaryOp .USub (.Constant (.int 1) k p1) p2)) p3) pos) (tRevT X.K te) := by
  refine ⟨fun pins s σ H Q I h => ?_⟩
  refine Subscript_ (thn (he.run pins s σ H _ I h) fun v s1 ⟨x, H1, I1, r1, q1⟩ => ?_)
  obtain ⟨a, xs, ex, hx, q⟩ := q1
  subst ex
  cases r1
  have hst : PO X (some (.UnaryOp .USub (.Constant (.int 1) k p1) p2)) (tPart (tUn (rU fun i => .int (-i)) (tC (.int 1)))) := po_some (pe_un un_neg pe_int)
  refine wpAny_Slice (thn (po_none.run pins s1 σ H1 (fun o H2 => o = none ∧ H2 = H1) I1 ⟨rfl, rfl⟩) fun vl s2 ⟨l, H2, I2, pl, el, e2⟩ => ?_)
  subst el e2
  refine thn (po_none.run pins s2 σ H2 (fun o H3 => o = none ∧ H3 = H2) I2 ⟨rfl, rfl⟩) fun vu s3 ⟨u, H3, I3, pu, eu, e3⟩ => ?_
  subst eu e3
  refine thn (hst.run pins s3 σ H3 (fun o H4 => o = some (-1) ∧ H4 = H3) I3 ⟨1, rfl, -1, rfl, rfl, rfl⟩) fun vs s4 ⟨o, H4, I4, ps, eo, e4⟩ => ?_
  subst eo e4
  have I5 : Inv X pins σ H4 { s4 with heap := s4.heap.push { cls := .type "slice", data := .fields #[vl, vu, vs] } } := I4.kept (t' := s4.toks) fun b ob q => Heap.get?_push_of_some _ q
  obtain ⟨its, r, ht, hz⟩ := I5.tuple hx
  have hlen := r.length
  show wpAny (model X.prog X.w) X.A (subscriptTail e (.Slice none none (some (.UnaryOp .USub (.Constant (.int 1) k p1) p2)) p3) (.ref a) (.ref s4.heap.objs.size)) (EP X pins σ Q) X.xe { s4 with heap := s4.heap.push { cls := .type "slice", data := .fields #[vl, vu, vs] } }
  refine tail_any (ops := [.ref a, .ref s4.heap.objs.size]) ht.typeIs (PyProof.Rows.slot_tuple_getitem.lookup) ?_ (by with_unfolding_all rfl)
  refine getItem_tuple_rev ht (Heap.IsSliceOf.new _ vl vu vs) pl pu ps ?_ (by rw [List.size_toArray]; omega)
  refine ⟨.ref _, _, I5.laid (t' := s4.toks) (o := .tup xs.reverse) (fun b ob q => Heap.get?_push_of_some _ q) (Nat.le_refl _) ?_, rfl, q _ (I5.hok.fresh (Nat.le_refl _))⟩
  exact ⟨by rw [List.length_reverse]; exact hz, _, r.reverse, IsTup.new _ _⟩
end
/-! ### sorted(a list of data) -/
section
variable {β : Type} {enc : β → PyData} {H : Hp}
abbrev RS (H : Hp) (enc : β → PyData) : Value → β → Prop := fun u b => ∃ x, RelV x u ∧ Dt H x (enc b)
theorem each_of : ∀ {bs : List β} {xs : List V} {us : List Value}, Vals xs us → DtAll H xs (bs.map enc) → PySem.W.EachIs (RS H enc) us bs
  | [], _, _, r, d => by
    cases d
    cases r
    exact .nil
  | b :: bs, _, _, r, d => by
    cases d with
    | cons h t =>
      cases r with
      | cons r1 r2 => exact .cons ⟨_, r1, h⟩ (each_of r2 t)
theorem each_back : ∀ {bs : List β} {us : List Value}, PySem.W.EachIs (RS H enc) us bs → ∃ ys, Vals ys us ∧ DtAll H ys (bs.map enc)
  | _, _, .nil => ⟨[], .nil, .nil⟩
  | _, _, .cons ⟨x, r, h⟩ t => by
    obtain ⟨ys, h1, h2⟩ := each_back t
    exact ⟨x :: ys, .cons r h1, .cons h h2⟩
def rSortD (K : PySem.W.Frag) (enc : β → PyData) : List V → Hp → VK → Prop := fun vs H Q => ∃ (a : Addr) (xs : List V) (bs : List β), vs = [V.ref a] ∧ H a = some (.lst xs) ∧ DtAll H xs (bs.map enc) ∧ PySem.W.AllAlike (bs.map enc) ∧ PySem.W.Sortable (bs.map enc) ∧ (∀ b ∈ bs, (enc b).depth ≤ 20) ∧
  ∀ ys p, DtAll H ys ((bs.mergeSort (PySem.W.dataLe false enc)).map enc) → H p = none → Q (.ref p) (upd H p (.lst ys))
theorem cr_sortD {X : Cx} (hu : X.A.units + 64 < cLine) : CallR X (.builtin "sorted") (rSortD X.K enc) := by
  intro pins s σ H vs us Q I r h
  obtain ⟨a, xs, bs, rfl, hs, hd, al, so, dp, q⟩ := h
  obtain ⟨its, rv, hl, hz⟩ := I.list (SqL.of (K := X.K) hs)
  obtain ⟨u, rfl, ru⟩ := vals1 r
  obtain rfl : u = Value.ref a := ru
  have e1 := each_of rv hd
  have er : PySem.W.EachIs (fun v b => ∃ as, Reads s.heap v (enc b) as) its bs := e1.mono fun v b ⟨x, rx, dx⟩ => Dp.reads I _ _ _ (Dt.dp (K := X.K) dx) rx
  have hlen : bs.length = xs.length := by
    have := hd.length
    rw [List.length_map] at this
    exact this.symm
  refine PySem.W.sorted_data hl.isList e1 er al so (by omega) (fun b hb => ?_) fun out hlo eo => ?_
  · have := dp b hb
    omega
  · obtain ⟨ys, r2, d2⟩ := each_back eo
    have hn : H (s.heap.objs.size + 1) = none := I.hok.fresh (Nat.le_succ _)
    obtain ⟨ep, he'⟩ := PyProof.Rows.sortedAll_at s.heap its (List.toArray out)
    refine ⟨.ref (s.heap.objs.size + 1), upd H (s.heap.objs.size + 1) (.lst ys), I.laid (t' := s.toks) (fun _ _ => PyProof.Rows.sortedAll_old) (Nat.le_succ _) ⟨?_, out, ep, r2, he'⟩, rfl, q ys _ d2 hn⟩
    rw [r2.length, hlo, hlen]
    exact hz
end
end K1
namespace K1
open PySem PySem.Spec PyProof.Rows L2 LamX NdefX
/-! ### a lambda is made -/
/-- the defaults: none, or a tuple that is tracked -/
def DOk (H : Hp) (dV : Value) (ds : List V) : Prop := (dV = .none ∧ ds = []) ∨ (ds ≠ [] ∧ ∃ T, dV = .ref T ∧ H T = some (.tup ds))
theorem DOk.ext {H H' : Hp} {dV : Value} {ds : List V} (e : ExtN H H') (d : DOk H dV ds) : DOk H' dV ds := by
  rcases d with d | ⟨h0, T, h1, h2⟩
  · exact .inl d
  · exact .inr ⟨h0, T, h1, e _ _ h2 fun _ z => nomatch z⟩
abbrev lamObj (qual : Str) (params : Arguments) (body : Expr) (scope : Scope) (cl : List (Str × Addr)) (dV doc pm : Value) (c' : Addr) (ctv : Value) : Obj := PySem.W.kdv_obj "<lambda>" qual params (.expr body) scope cl dV doc pm c' ctv
section
variable {X : Cx} {pins : List (Addr × Obj)} {σ : L2.St} {H : Hp} {s : Shared}
theorem lam_tail {T : List (Addr × Str)} {c P : Addr} {params : Arguments} {body : Expr} {scope : Scope} {pos : Pos} {fl : Nat} {dV : Value} {E : Value → Shared → Prop} {Q : Value → Shared → Prop} (I : Inv X pins σ H s) (TB : TabB X.base X.mg c P) (hcode : X.env.code = .ref c)
    (hm : (P, X.env.qual ++ "<lambda>") ∈ T) (hu : ∀ p ∈ T, p.1 = P → p.2 = X.env.qual ++ "<lambda>") (hT : Tabs T H) (hfree : ∀ y ∈ scope.names, y.2 = .free → ∃ c, X.env.cells.lookup y.1 = some c)
    (h : ∀ (f c' : Addr) (doc pm ctv : Value) (H1 : Hp) (s' : Shared), Inv X pins σ H1 s' → ExtN H H1 → Tabs T H1 →
      s'.heap.get? f = some (lamObj (X.env.qual ++ "<lambda>") params body scope (cloFrom X.env.cells scope.names []) dV doc pm c' ctv) → H1 f = none → f ∉ frs X.stack → H1 c' = some (CodeO c' (X.env.qual ++ "<lambda>")) → Q (.ref f) s') :
    wpAny (model X.prog X.w) X.A (makeTail "<lambda>" (X.env.qual ++ "<lambda>") params (.expr body) scope X.env dV .none none pos fl) Q E s := by
  obtain ⟨ps, hP, ht, ha⟩ := hT _ hm
  have bP : s.heap.BuiltinsAt X.mg P := TB.bm.keeps I.bk
  have hP' : s.heap.get? P = some { cls := .none, data := .fields ps } := I.hok P _ hP
  have nofr : ∀ f, s.heap.objs.size ≤ f → f ∉ frs X.stack := fun f hf z => by
    rcases List.mem_cons.mp (I.stkSub _ z) with e | e
    · have h1 := I.lt
      rw [← e] at h1
      exact Nat.lt_irrefl _ (Nat.lt_of_lt_of_le h1 hf)
    · exact I.nofs hf e
  cases hc : codeAmong pos ps.toList with
  | none =>
    refine PySem.W.kdv_makeTail (mg := X.mg) (c := c) (P := P) (ps := ps) (closure_ok hfree) I.ok.glob (I.mod.glob.keeps I.bk) hcode (TB.code.keeps I.bk) hP' ht hc TB.gP bP fun c' ctv doc h' tk hx hge hlt hrec htb => ?_
    obtain ⟨c2, oc, vs, t, e2, hoc, hd, hv⟩ := hrec
    cases e2
    have hsz : s.heap.objs.size ≤ h'.objs.size := Nat.le_trans hge (Nat.le_of_lt hlt)
    have nC : H c' = none := I.hok.fresh hge
    have I1 := inv_table (t' := tk) (more := #[rawInt pos.line, rawInt pos.col, .ref c']) (h' := h'.push (lamObj (X.env.qual ++ "<lambda>") params body scope (cloFrom X.env.cells scope.names []) dV doc ((X.mg "__name__").getD .none) c' ctv)) I hP
      (fun b o hb e => Heap.get?_push_of_some _ (hx b o hb e)) (Heap.get?_push_of_some _ htb) hge ⟨oc, vs, t, Heap.get?_push_of_some _ hoc, hd, hv⟩
    have hE : ExtN H (upd (upd H P (.tbl (ps ++ #[rawInt pos.line, rawInt pos.col, .ref c']))) c' (CodeO c' (X.env.qual ++ "<lambda>"))) := fun b o e n => by
      rw [upd_ne (ne_of_none e nC), upd_ne (fun z => n ps (Option.some.inj (e.symm.trans (by rw [z]; exact hP))))]
      exact e
    have eL : (ps ++ #[rawInt pos.line, rawInt pos.col, .ref c']).toList = ps.toList ++ [rawInt pos.line, rawInt pos.col, .ref c'] := by simp
    refine h h'.objs.size c' doc ((X.mg "__name__").getD .none) ctv _ _ I1 hE (fun p hp => ?_) (Heap.get?_push_size _ rfl) ?_ (nofr _ hsz) upd_same
    · by_cases hb : p.1 = P
      · rw [hu p hp hb, hb]
        refine ⟨_, by rw [upd_ne (ne_of_none hP nC), upd_same], by rw [eL]; exact PySem.TriplesOk_snoc _ _ _ _ ht, fun p' cv hcv => ?_⟩
        rw [eL] at hcv
        rcases among_app _ ht hcv with z | z
        · obtain ⟨c0, e1, e2⟩ := ha p' cv z
          exact ⟨c0, e1, hE _ _ e2 LamX.codeO_ne⟩
        · exact ⟨c', z, upd_same⟩
      · obtain ⟨ps', a1, a2, a3⟩ := hT p hp
        refine ⟨ps', by rw [upd_ne (ne_of_none a1 nC), upd_ne hb]; exact a1, a2, fun p' cv hcv => ?_⟩
        obtain ⟨c0, e1, e2⟩ := a3 p' cv hcv
        exact ⟨c0, e1, hE _ _ e2 LamX.codeO_ne⟩
    · have n1 : h'.objs.size ≠ c' := Nat.ne_of_gt hlt
      have n2 : h'.objs.size ≠ P := Nat.ne_of_gt (Nat.lt_of_lt_of_le (Heap.lt_size hP') hsz)
      rw [upd_ne n1, upd_ne n2]
      exact I.hok.fresh hsz
  | some cv =>
    obtain ⟨c', e, hco⟩ := ha pos cv hc
    subst e
    refine PySem.W.kdv_makeTailHit (mg := X.mg) (c := c) (P := P) (ps := ps) (closure_ok hfree) I.ok.glob (I.mod.glob.keeps I.bk) hcode (TB.code.keeps I.bk) hP' ht hc bP fun ctv doc h' tk hx hsz => ?_
    have I1 : Inv X pins σ H { s with heap := h'.push (lamObj (X.env.qual ++ "<lambda>") params body scope (cloFrom X.env.cells scope.names []) dV doc ((X.mg "__name__").getD .none) c' ctv), toks := tk } := I.kept fun b o e => Heap.get?_push_of_some _ (hx b o e)
    exact h h'.objs.size c' doc ((X.mg "__name__").getD .none) ctv H _ I1 (ExtN.refl H) hT (Heap.get?_push_size _ rfl) (I.hok.fresh hsz) (nofr _ hsz) hco
/-- the lambda's maker: no defaults -/
structure LamMk (X : Cx) (T : List (Addr × Str)) (c P : Addr) : Prop where
  tb : TabB X.base X.mg c P
  code : X.env.code = .ref c
  hm : (P, X.env.qual ++ "<lambda>") ∈ T
  hu : ∀ p ∈ T, p.1 = P → p.2 = X.env.qual ++ "<lambda>"
/-- what the made lambda is -/
structure Made (X : Cx) (pins : List (Addr × Obj)) (σ : L2.St) (H : Hp) (T : List (Addr × Str)) (params : Arguments) (body : Expr) (scope : Scope) (ds : List V) (f c' : Addr) (H1 : Hp) (s' : Shared) : Prop where
  inv : Inv X pins σ H1 s'
  ext : ExtN H H1
  tab : Tabs T H1
  obj : ∃ (dV doc pm ctv : Value), s'.heap.get? f = some (lamObj (X.env.qual ++ "<lambda>") params body scope (cloFrom X.env.cells scope.names []) dV doc pm c' ctv) ∧ DOk H1 dV ds
  code : H1 c' = some (CodeO c' (X.env.qual ++ "<lambda>"))
  fn : H1 f = none
  fr : f ∉ frs X.stack
theorem lam0 {T : List (Addr × Str)} {c P : Addr} {params : Arguments} {body : Expr} {scope : Scope} {pos : Pos} {E : Value → Shared → Prop} {Q : Value → Shared → Prop} (I : Inv X pins σ H s) (L : LamMk X T c P) (hT : Tabs T H) (hfree : ∀ y ∈ scope.names, y.2 = .free → ∃ c, X.env.cells.lookup y.1 = some c)
    (hdef : defaultsOf params X.env = ([], [])) (h : ∀ f c' H1 s', Made X pins σ H T params body scope [] f c' H1 s' → Q (.ref f) s') :
    wpAny (model X.prog X.w) X.A (eval (.Lambda params body scope pos) X.env) Q E s := by
  refine PySem.W.kla_eval hdef ?_
  rw [makeFunction_eq]
  simp only [List.zip_nil_right, List.filterMap_nil, List.isEmpty_nil, if_true, pure_bind]
  exact lam_tail I L.tb L.code L.hm L.hu hT hfree fun f c' doc pm ctv H1 s' I1 e t ho hn hf hc => h f c' H1 s' ⟨I1, e, t, ⟨_, doc, pm, ctv, ho, .inl ⟨rfl, rfl⟩⟩, hc, hn, hf⟩
/-- one default, an int's constant -/
theorem lam1 {T : List (Addr × Str)} {c P : Addr} {params : Arguments} {body : Expr} {scope : Scope} {pos p2 : Pos} {i : Int} {j : Nat} {E : Value → Shared → Prop} {Q : Value → Shared → Prop} (I : Inv X pins σ H s) (L : LamMk X T c P) (hT : Tabs T H) (hfree : ∀ y ∈ scope.names, y.2 = .free → ∃ c, X.env.cells.lookup y.1 = some c)
    (hdef : params.defaults = [.Constant (.int i) j p2]) (hk0 : params.kw_defaults = []) (h : ∀ f c' H1 s', Made X pins σ H T params body scope [.int i] f c' H1 s' → Q (.ref f) s') :
    wpAny (model X.prog X.w) X.A (eval (.Lambda params body scope pos) X.env) Q E s := by
  refine PySem.W.kdv_lam (by rw [hdef]; rfl) hk0 ?_
  rw [hdef]
  refine PySem.W.kdv_all1 (wpAny_Constant_int (PySem.W.kdv_all0 ?_))
  rw [makeFunction_eq]
  simp only [List.zip_nil_right, List.filterMap_nil, List.isEmpty_nil, if_true, pure_bind, List.isEmpty_cons, Bool.false_eq_true, if_false]
  refine wpAny_bind (wpAny_newTextTuple ?_)
  have hn0 : H s.heap.objs.size = none := I.hok.fresh (Nat.le_refl _)
  have I0 : Inv X pins σ (upd H s.heap.objs.size (.tup [.int i])) { s with heap := s.heap.push { cls := .type "tuple", data := .seq [Value.int i s.toks].toArray }, toks := s.toks + 1 } :=
    I.laid (o := .tup [.int i]) (t' := s.toks + 1) (fun b u e => Heap.get?_push_of_some _ e) (Nat.le_refl _) ⟨by rw [sizeLine_eq]; simp, [.int i s.toks], .cons ⟨_, rfl⟩ .nil, ⟨_, Heap.get?_push_size _ rfl, rfl, _, rfl⟩⟩
  have e0 : Same H (upd H s.heap.objs.size (.tup [.int i])) := same_upd hn0
  refine lam_tail I0 L.tb L.code L.hm L.hu (hT.ext e0) hfree fun f c' doc pm ctv H1 s' I1 e t ho hn hf hc => h f c' H1 s' ⟨I1, (Same.ext e0).trans e, t, ⟨_, doc, pm, ctv, ho, .inr ⟨by simp, _, rfl, ?_⟩⟩, hc, hn, hf⟩
  exact e _ _ upd_same fun _ z => nomatch z
end
/-! ### a lambda is called -/
/-- the bound values, told of the state -/
def LamBind (params : Arguments) (body : Expr) (scope : Scope) (ps : List Str) (as vs ds : List V) : Prop :=
  ∀ (q : Str) (cl : List (Str × Addr)) (dV doc pm ctv : Value) (c' : Addr) (P : Program) (w : World) (H : Hp) (s : Shared) (us : List Value), HOk P w H s.heap → DOk H dV ds → Vals as us →
    ∃ ws, Vals vs ws ∧ BindsTo s (PySem.W.kdv_fn "<lambda>" q params (.expr body) scope cl dV doc pm (.ref c') ctv) ⟨us, []⟩ (ps.zip ws)
section
variable {X Z : Cx} {pins : List (Addr × Obj)} {σ : L2.St} {H HZ : Hp} {s sZ : Shared}
abbrev lamF (X : Cx) (params : Arguments) (scope : Scope) (c' : Addr) : NF := ⟨"<lambda>", X.env.qual ++ "<lambda>", params, [], scope, cloFrom X.env.cells scope.names [], c'⟩
/-- the call of a lambda that was made at (s, H), at a later state (sZ, HZ) under a context of the same module -/
theorem lam_code {A : Around} {outer : List Env} {T : List (Addr × Str)} {H0 : Hp} {params : Arguments} {body : Expr} {scope : Scope} {ps fr N : List Str} {as vs ds : List V} {js : List Nat} {f c' : Addr} {us : List Value} {Q : VK} {E : XK} {k : Nat}
    (M : Made X pins σ H0 T params body scope ds f c' H s) (hcz : HZ c' = some (CodeO c' (X.env.qual ++ "<lambda>"))) (S : NScope N ps fr scope) (hcap : Caps X (cloFrom X.env.cells scope.names []) fr js) (hB : LamBind params body scope ps as vs ds) (hl : vs.length = ps.length)
    (e0 : Env0 X.prog X.w X.K X.mg X.base A outer sZ HZ) (un : Un (frs X.stack) [] H HZ s.heap sZ.heap) (hr : Room (k + 1) A) (ru : Vals as us)
    (hbody : Room k (A.deeper (envF (lamF X params scope c') f sZ.heap.objs.size)) → ∃ t, PE (ncx (L2.CX X.prog X.w) X.prog X.w X.K X.mg X.base N (lamF X params scope c') f A outer sZ HZ E) body t ∧ t (startF N vs (js.map (slotAt σ))) HZ Q) :
    codeAny (model X.prog X.w) A (.call (.ref f) ⟨us, []⟩) (CR (L2.CX X.prog X.w) outer X.prog X.w HZ sZ Q E) sZ := by
  obtain ⟨dV, doc, pm, ctv, ho, hd⟩ := M.obj
  have hoZ : sZ.heap.get? f = some (lamObj (X.env.qual ++ "<lambda>") params body scope (cloFrom X.env.cells scope.names []) dV doc pm c' ctv) := un.keep f _ ho M.fn M.fr (fun z => nomatch (show f ∈ ([] : List Addr) from z))
  have hcr : sZ.heap.CodeRec (.ref c') (X.env.qual ++ "<lambda>") := codeO_at e0.hok hcz
  have hdZ : DOk HZ dV ds := by
    rcases hd with d | ⟨h0, T, h1, h2⟩
    · exact .inl d
    · exact .inr ⟨h0, T, h1, un.tups _ _ h2⟩
  obtain ⟨ws, rw', hbind⟩ := hB (X.env.qual ++ "<lambda>") (cloFrom X.env.cells scope.names []) dV doc pm ctv c' X.prog X.w HZ sZ us e0.hok hdZ ru
  have lim : sZ.heap.NoLimit := e0.mod.nolimit.keeps fun b o e => (e0.bs b o e).1
  have C0 := cells_of M.inv hcap
  have CZ : CellsAt (cloFrom X.env.cells scope.names []) fr (js.map (slotAt σ)) sZ.heap HZ := by
    have kp : ∀ y c, (cloFrom X.env.cells scope.names []).lookup y = some c → ∀ v, s.heap.IsCell c v → sZ.heap.IsCell c v := fun y c e v ⟨o, ho, hd⟩ => by
      obtain ⟨sl, q⟩ := un.any ho (C0.all y c e).1 (by simp)
      exact ⟨_, q, hd⟩
    refine ⟨C0.len, fun y c e => ?_, C0.inj, fun i y e => ?_⟩
    · obtain ⟨n, v, z⟩ := C0.all y c e
      refine ⟨?_, v, kp y c e v z⟩
      obtain ⟨o, ho, _⟩ := z
      exact un.free c o ho n (by simp)
    · obtain ⟨c, hc, hv⟩ := C0.has i y e
      refine ⟨c, hc, fun v ev => ?_⟩
      obtain ⟨u, r, z⟩ := hv v ev
      exact ⟨u, r, kp y c hc _ z⟩
  refine PySem.W.kla_callFunE hr.depth hoZ rfl S.co S.gen rfl hcr (hbind _ _ _ _ ?_)
  refine wpAny_newFunctionEnv S.nocell (fun ⟨n, _⟩ hy => S.par n (List.of_mem_zip hy).1) (fun h₁ hns hsb => ⟨lim.fresh _ hsb, ?_⟩) S.kind
  show codeAny _ _ (.expr body (envF (lamF X params scope c') f sZ.heap.objs.size)) _ _
  have kp : ∀ b o, sZ.heap.get? b = some o → h₁.get? b = some o := fun b o e => hsb.extBut b o (Nat.ne_of_lt (Heap.lt_size e)) (Heap.get?_push_of_some _ e)
  obtain ⟨t, ht, hq⟩ := hbody (hr.deeper _)
  have J : Inv (ncx (L2.CX X.prog X.w) X.prog X.w X.K X.mg X.base N (lamF X params scope c') f A outer sZ HZ E) [] (startF N vs (js.map (slotAt σ))) HZ { sZ with heap := h₁, toks := sZ.toks + (ps.zip ws).length } := inv_startN S hr.hd e0 hl rw' CZ hns kp
  refine PySem.W.kla_codeExpr (wpAny_mono (ht.run [] _ _ HZ Q J hq) (fun v s' hq => ?_) fun e s' hq => hq)
  obtain ⟨w', H', J', rv, q⟩ := hq
  exact ⟨w', H', J'.os, J'.bare, J'.base, J'.hok, rv, q⟩
end
/-! ### sorted(xs, key=lambda x: (len(x), x)) -/
section
variable {P : Program} {w : World} {A : Around} {s : Shared} {mg : Str → Option Value}
theorem reads_ints {h : Heap} : ∀ {l : List Int} {its : List Value}, Vals (l.map V.int) its → ReadsAll h its (l.map .int) []
  | [], _, r => by
    cases r
    exact .nil
  | n :: l, _, r => by
    cases r with
    | cons r1 r2 =>
      obtain ⟨t, rfl⟩ := r1
      exact ReadsAll.cons (Reads.int n t) (reads_ints r2)
theorem key_call {f a c' : Addr} {qual x : Str} {params : Arguments} {scope : Scope} {cl : List (Str × Addr)} {doc pm ctv : Value} {its : List Value} {l : List Int} {p1 p2 p3 p4 p5 : Pos} {xx : Nat}
    (ho : s.heap.get? f = some (lamObj qual params (.Tuple [.Call (.Name "len" p1) [.Name x p2] [] p3, .Name x p4] xx p5) scope cl .none doc pm c' ctv)) (hcd : s.heap.CodeRec (.ref c') qual) (hr : A.depth < recursionLimit) (lim : s.heap.NoLimit)
    (hg : s.heap.Ns mainGlobals mg) (hmg : mg "len" = none) (hb : ∃ mb, s.heap.Ns builtinsNs mb ∧ ∀ x : Str, x ≠ "__name__" → mb x = bootBuiltins x)
    (hbind : ∀ v, bindArgs (PySem.W.kdv_fn "<lambda>" qual params (.expr (.Tuple [.Call (.Name "len" p1) [.Name x p2] [] p3, .Name x p4] xx p5)) scope cl .none doc pm (.ref c') ctv) ⟨[v], []⟩ = pure [(x, v)])
    (hk : scope.kind = .function) (hco : scope.isCoroutine = false) (hgen : scope.isGenerator = false) (hcell : ∀ y ∈ scope.names, y.2 ≠ .cell) (hx : scope.names.lookup x = some .local) (hlen : scope.names.lookup ("len" : Str) = some .globalImplicit)
    (hd : (x == ("__debug__" : Str)) = false) (ht : IsTup s.heap a its.toArray) (hv : Vals (l.map V.int) its) (hz : l.length ≤ 1000) :
    wpAny (model P w) A (call (.ref f) [.ref a]) (PySem.W.KeyPure (keyD l) s) (fun _ _ => False) s := by
  have hlen2 : its.length = l.length := by
    have := hv.length
    rw [List.length_map] at this
    exact this.symm
  refine wpAny_call (PySem.W.kla_callFunE hr ho rfl hco hgen rfl hcd ?_)
  rw [hbind]
  refine wpAny_pure (wpAny_newFunctionEnv hcell (fun y hy => ?_) (fun h₁ hns hsb => ⟨lim.fresh _ hsb, ?_⟩) hk)
  · have : y = (x, Value.ref a) := by simpa using hy
    rw [this]
    exact hx
  show codeAny _ _ (.expr _ (PySem.W.envX qual scope s.heap.objs.size f (.ref c') cl)) _ _
  have kp : ∀ b o, s.heap.get? b = some o → h₁.get? b = some o := fun b o e => hsb.extBut b o (Nat.ne_of_lt (Heap.lt_size e)) (Heap.get?_push_of_some _ e)
  obtain ⟨mb, b1, b2⟩ := hb
  have ht1 : IsTup h₁ a its.toArray := by
    obtain ⟨o, e1, e2⟩ := ht
    exact ⟨o, kp _ _ e1, e2⟩
  have hloc : [(x, Value.ref a)].reverse.lookup x = some (Value.ref a) := by simp
  have hx' : (PySem.W.envX qual scope s.heap.objs.size f (.ref c') cl).kindOf x = some .local := hx
  have hlen' : (PySem.W.envX qual scope s.heap.objs.size f (.ref c') cl).kindOf "len" = some .globalImplicit := hlen
  refine PySem.W.kla_codeExpr ?_
  refine wpAny_Tuple_spliced ?_
  refine Calls.spliced_cons ?_
  refine wpAny_Call_Name_kw (Calls.Name_function_global hk hlen' (Calls.loadGlobal_builtin (hg.keeps kp) hmg (b1.keeps kp) ((b2 "len" (by decide)).trans (by rfl)) ?_) (by decide))
  refine PyProof.Rows.callWith_builtin1 (e := .Name x p2) (rest := []) (Calls.spliced_cons (wpAny_Name (wpAny_loadName_local hk hx' hns hloc (Calls.spliced_nil ?_)) hd)) rfl rfl
  have h63 : (2 : Int) ^ 63 = 9223372036854775808 := by decide
  refine len_tuple ht1 (by rw [List.size_toArray]; omega) ?_
  refine Calls.spliced_cons (wpAny_Name (wpAny_loadName_local hk hx' hns hloc (Calls.spliced_nil ⟨?_, ?_⟩)) hd)
  · rw [sizeLine_eq]
    simp
  · have rl : Reads h₁ (.ref a) (lotD l) [] := by
      obtain ⟨o, e1, e2, n, e3⟩ := ht1
      exact Reads.tuple e1 e2 e3 (reads_ints hv)
    have kpO : ∀ (O : Obj) b o, h₁.get? b = some o → (h₁.push O).get? b = some o := fun O b o e => Heap.get?_push_of_some _ e
    refine ⟨_, _, rfl, fun b o e => Heap.get?_push_of_some _ (kp b o e), Reads.tuple (Heap.get?_push_size _ rfl) rfl rfl ?_⟩
    refine ReadsAll.cons (as := []) (bs := []) ?_ (ReadsAll.cons (as := []) (bs := []) (PyProof.Rows.Reads.keeps (kpO _) rl) .nil)
    have e : ((its.toArray.size : Nat) : Int) = (l.length : Int) := by rw [List.size_toArray, hlen2]
    rw [← e]
    exact Reads.int _ _
end

/-- what the reading of sorted(xs, key=..) says -/
def tSortK (T : List (Addr × Str)) (ta : TE) : TE := fun σ H Q => ta σ H fun v H1 => ∃ (a : Addr) (xs : List V) (ls : List (List Int)), [v] = [V.ref a] ∧ H1 a = some (.lst xs) ∧ DtAll H1 xs (ls.map lotD) ∧ (∀ l ∈ ls, l.length ≤ 1000) ∧ Tabs T H1 ∧
  ∀ ys p H2, ExtN H1 H2 → Tabs T H2 → DtAll H2 ys ((ls.mergeSort (PySem.W.dataLe false keyD)).map lotD) → H2 p = none → Q (.ref p) (upd H2 p (.lst ys))
theorem key_depth (l : List Int) : (keyD l).depth ≤ 3 := by
  have e : ∀ l : List Int, PyData.depthAll (l.map .int) = 0 := fun l => by
    induction l with
    | nil => simp [PyData.depthAll]
    | cons n l ih => simp [PyData.depthAll, PyData.depth, ih]
  simp [keyD, lotD, PyData.depth, PyData.depthAll, e]
section
variable {X : Cx}
theorem pe_sortKey {T : List (Addr × Str)} {c P : Addr} {ta : TE} {e : Expr} {x : Str} {params : Arguments} {scope : Scope} {p pos kpos lpos p1 p2 p3 p4 p5 : Pos} {xx : Nat}
    (L : LamMk X T c P) (hr : Room 3 X.A) (hg : Gl X "sorted") (hm : X.mg "sorted" = none) (hml : X.mg "len" = none) (ha : PE X e ta)
    (hdef : defaultsOf params X.env = ([], [])) (hcapt : ∀ y ∈ scope.names, y.2 ≠ .free)
    (hbind : ∀ (qual : Str) (cl : List (Str × Addr)) (doc pm ctv : Value) (c' : Addr) (v : Value), bindArgs (PySem.W.kdv_fn "<lambda>" qual params (.expr (.Tuple [.Call (.Name "len" p1) [.Name x p2] [] p3, .Name x p4] xx p5)) scope cl .none doc pm (.ref c') ctv) ⟨[v], []⟩ = pure [(x, v)])
    (hk : scope.kind = .function) (hco : scope.isCoroutine = false) (hgen : scope.isGenerator = false) (hcell : ∀ y ∈ scope.names, y.2 ≠ .cell) (hx : scope.names.lookup x = some .local) (hlen : scope.names.lookup ("len" : Str) = some .globalImplicit)
    (hd : (x == ("__debug__" : Str)) = false)
    (he : backTo pos (starEach [e] X.env) = (false, eval e X.env) :: backTo pos (starEach [] X.env) := by rfl) (hpl : (backTo pos (starEach [e] X.env)).any (·.1) = false := by rfl) (hs : starEach [e] X.env = (false, eval e X.env) :: starEach [] X.env := by rfl) :
    PE X (.Call (.Name "sorted" p) [e] [⟨some "key", .Lambda params (.Tuple [.Call (.Name "len" p1) [.Name x p2] [] p3, .Name x p4] xx p5) scope lpos, kpos⟩] pos) (tSortK T ta) := by
  refine ⟨fun pins s σ H Q I h => ?_⟩
  refine wpAny_Call_Name_kw (ld_blt I hg hm (by rfl) ?_ (by decide))
  refine PyProof.Rows.callWith_kw (thn ((pa_cons ha pa_nil hs).run pos pins s σ H (fun vs H1 => ∃ (a : Addr) (xs : List V) (ls : List (List Int)), vs = [V.ref a] ∧ H1 a = some (.lst xs) ∧ DtAll H1 xs (ls.map lotD) ∧ (∀ l ∈ ls, l.length ≤ 1000) ∧ Tabs T H1 ∧
      ∀ ys p H2, ExtN H1 H2 → Tabs T H2 → DtAll H2 ys ((ls.mergeSort (PySem.W.dataLe false keyD)).map lotD) → H2 p = none → Q (.ref p) (upd H2 p (.lst ys))) I h) fun us s1 ⟨vs, H1, I1, r1, q1⟩ => ?_) he hpl (by rfl) (by rfl)
  obtain ⟨a, xs, ls, rfl, hxs, hd', hlens, hT, q⟩ := q1
  obtain rfl := Vals.ref1 r1
  show wpAny _ _ (evalAll ((do let v ← eval (.Lambda params (.Tuple [.Call (.Name "len" p1) [.Name x p2] [] p3, .Name x p4] xx p5) scope lpos) X.env; standAt pos; pure v) :: [])) _ _ s1
  refine wpAny_evalAll_cons (wpAny_bind (lam0 I1 L hT (fun y hy z => absurd z (hcapt y hy)) hdef fun f c' H2 s2 M => wpAny_bind (wpAny_standAt (wpAny_pure (wpAny_evalAll_nil ?_)))))
  obtain ⟨dV, doc, pm, ctv, ho, hdo⟩ := M.obj
  have hdV : dV = .none := by
    rcases hdo with d | ⟨h0, _⟩
    · exact d.1
    · exact absurd rfl h0
  subst hdV
  show wpAny _ _ (call (.builtin "sorted") [.ref a] [(Str.ofString "key", .ref f)]) _ _ s2
  have I2 := M.inv
  have hxs2 : H2 a = some (.lst xs) := M.ext _ _ hxs fun _ z => nomatch z
  have hd2 : DtAll H2 xs (ls.map lotD) := hd'.ext M.ext
  obtain ⟨its, rv, hl, hz⟩ := I2.list (SqL.of (K := X.K) hxs2)
  have hlen2 : ls.length = xs.length := by
    have := hd2.length
    rw [List.length_map] at this
    exact this.symm
  have hru := hr.units
  have hrd := hr.depth
  refine PySem.W.sorted_key_data (b := false) keyD hl.isList (each_of rv hd2) (PySem.W.AllAlike.of fun a b => alike_key a b) (PySem.W.Sortable.tuples fun b => ⟨_, _, rfl⟩) (by omega) (fun b hb => ?_) (PyProof.Rows.ksk_s1 _ _) (fun _ => PyProof.Rows.ksk_l1 _ _) (fun _ => PyProof.Rows.ksk_t1 _ _)
    (fun v l ⟨y, ry, dy⟩ hl' h' tk kp => ?_) fun out cc h' tk kp _ hD hlo eo => ?_
  · have := key_depth b
    omega
  · obtain ⟨t, rfl, ht⟩ := dy.lot
    cases ry
    have J : Inv X pins σ H2 { s2 with heap := h', toks := tk } := I2.kept kp
    obtain ⟨its2, rv2, pl, _⟩ := J.tuple (SqT.of (K := X.K) ht)
    exact key_call (A := X.A.in1.in1) (s := { s2 with heap := h', toks := tk }) (mg := X.mg) (kp _ _ ho) (codeO_at J.hok M.code) hr.in1.in1.depth J.nolimit (I2.mod.glob.keeps J.bk) hml
      (by obtain ⟨mb, h1, h2⟩ := I2.mod.blt; exact ⟨mb, h1.keeps J.bk, h2⟩) (hbind _ _ _ _ _ _) hk hco hgen hcell hx hlen hd pl rv2 (hlens l hl')
  · obtain ⟨ys, r2, d2⟩ := each_back (enc := lotD) eo
    have hn : H2 (s2.heap.objs.size + 1) = none := I2.hok.fresh (Nat.le_succ _)
    refine ⟨.ref (s2.heap.objs.size + 1), upd H2 (s2.heap.objs.size + 1) (.lst ys), I2.laid (t' := tk) kp (Nat.le_succ _) ⟨?_, out, cc, r2, hD⟩, rfl, q ys _ H2 M.ext M.tab d2 hn⟩
    rw [r2.length, hlo, hlen2]
    exact hz
end
end K1
namespace K1
open PySem PySem.Spec PyProof.Rows L2 LamX NdefX
/-! ### several clauses «except X as e» -/
abbrev ClAs := Value × Nat × (Addr → Value → Option Addr → TS)
def wMas (K : PySem.W.Frag) (Wout : WX) (D : Ends) : List ClAs → WX
  | [] => Wout
  | (c, i, ts) :: r => fun cls d σ H => ∃ b, PySem.W.exmOne K cls c = some b ∧ (b = true → ∀ a, H a = none → ts a cls d { nx := fun σ' H' => D.nx (σ'.set i none) H', rt := D.rt, bk := fun σ' H' => D.bk (σ'.set i none) H', ct := fun σ' H' => D.ct (σ'.set i none) H' } (σ.set i (some (.ref a))) H) ∧
      (b = false → wMas K Wout D r cls d σ H)
inductive HasOk (X : Cx) : List ExceptHandler → List ClAs → Prop
  | nil : HasOk X [] []
  | cons {x n : Str} {c : Value} {i : Nat} {ts : Addr → Value → Option Addr → TS} {b₀ : Stmt} {suite : List Stmt} {np pos' : Pos} {hds : List ExceptHandler} {l : List ClAs} (hi : X.N[i]? = some n) (hln : X.env.kindOf n = some .local) (hc : Names X x c)
      (hsu : ∀ (a : Addr) (oe : Obj) (cls : Value) (d : Option Addr) (pn : List (Addr × Obj)), Zc cls d oe → (∃ vs, oe.data = .fields vs) → PSs (X.suite a ((a, oe) :: pn)) (b₀ :: suite) (ts a cls d)) (r : HasOk X hds l) :
      HasOk X (.ExceptHandler (some (.Name x np)) (some n) (b₀ :: suite) pos' :: hds) ((c, i, ts) :: l)
section
variable {X : Cx} {body : List Stmt} {h₀ : ExceptHandler} {hds : List ExceptHandler} {l : List ClAs} {pos : Pos} {tb : WX → TS} {Wout : WX}
theorem ps_try_mas (hs : X.stack = X.env :: X.outer) (hf : X.env.frame = some X.env.locals) (hN : X.N.Nodup) (tk : Takes X Wout)
    (hb : ∀ (W : WX) (pn : List (Addr × Obj)) (xe : Value → Shared → Prop), Takes (X.tr pn xe) W → PassesOwn (model X.prog X.w) X.A X.env xe → PSs (X.tr pn xe) body (tb W))
    (hh : HasOk X (h₀ :: hds) l) : PS X (.Try body (h₀ :: hds) [] [] pos) (fun D σ H => tb (wMas X.K Wout D l) D σ H) := by
  refine ⟨fun pins s σ H D I h => ?_⟩
  have ok := I.ok
  have hfr : X.A.frames = some (X.env :: X.outer) := by rw [ok.frames, hs]
  refine wpAny_Try_except ?_
  refine wpAny_mono ((hb (wMas X.K Wout D l) (X.pn ++ pins) (fun e s₁ => wpAny (model X.prog X.w) X.A (noteFrame e X.env) (fun _ s₂ => wpAny (model X.prog X.w) X.A (setFlight e none) (fun _ s₃ =>
    wpAny (model X.prog X.w) X.A (handleBy e X.env (h₀ :: hds)) (SP X pins D) X.xe s₃) X.xe s₂) X.xe s₁) (fun u s' xx => ?_) PassesOwn.looking).run [] s σ H D (I.toTry _) h) (fun f s1 hsp => ?_) (fun e s1 he => he)
  · obtain ⟨a, B, sI, pins', σ', H', cls, d, rfl, J', nb, up, sky, na, os, ag, w⟩ := xx
    have J : Inv X pins σ' H' sI := J'.ofTry ok
    have sky' : Sky B (X.env :: X.outer) a (Zc cls d) X.env.locals s'.heap := by rw [← hs]; exact sky
    show wpAny (model X.prog X.w) X.A (noteFrame (.ref a) X.env) _ _ _
    refine Sky.land Zc.steady hfr hf sky' fun h3 fl3 up3 => ?_
    have J3 : Inv X pins σ' H' { s' with heap := h3 } := J.landed nb fl3.1 (up.trans up3) os ag
    obtain ⟨oe3, vs3, he3, hz3, hd3⟩ := fl3.there
    have notFr : ∀ {h : Heap} {o : Obj} {vs : Array Value}, h.FunFrames B (X.env :: X.outer) → h.get? a = some o → o.data = .fields vs → a ∉ frs (X.env :: X.outer) := fun {h o vs} ff e dd hm => by
      obtain ⟨_, o', e', hnf⟩ := ff.mem hm
      rw [e] at e'; cases e'
      exact hnf _ dd
    have nfr := notFr fl3.2.2.1 he3 hd3
    have nL : a ≠ X.env.locals := fun z => nfr (List.mem_filterMap.mpr ⟨X.env, List.mem_cons_self, by rw [hf, z]⟩)
    have nF : a ∉ X.fs := fun hm => by
      obtain ⟨e, he, q⟩ := List.mem_filterMap.mp hm
      exact nfr (List.mem_filterMap.mpr ⟨e, List.mem_cons_of_mem _ he, q⟩)
    have S3 := J3.suite he3 hd3 na nL nF
    have go : ∀ {hds' : List ExceptHandler} {l' : List ClAs}, HasOk X hds' l' → wMas X.K Wout D l' cls d σ' H' →
        wpAny (model X.prog X.w) X.A (handleBy (.ref a) X.env hds') (SP X pins D) X.xe { s' with heap := h3 } := by
      intro hds' l' hk
      induction hk with
      | nil =>
        intro w
        refine wpAny_handleBy_nil ?_
        obtain ⟨k1, k2, k3, oe, vs, T, oT, ts', he, hz, hd, h1, hr⟩ := id fl3
        unfold PySem.passOn
        refine wpAny_bind (wpAny_field he hd h1 ?_)
        rw [if_neg (show ¬ ((Value.ref T == Value.none) = true) from by simp)]
        have fin : wpAny (model X.prog X.w) X.A (setFlight (.ref a) X.env.frame) (fun _ s4 => wpAny (model X.prog X.w) X.A (throw (.ref a) : Sem Flow) (SP X pins D) X.xe s4) X.xe { s' with heap := h3 } := by
          rw [hf]
          refine HandSPX.setFlight_upZ fl3 fun h4 hh4 up4 => wpAny_throw (tk _ _ ?_)
          exact ⟨a, B, sI, pins, σ', H', cls, d, rfl, J, nb, (up.trans up3).trans up4, .inr (.inr (by rw [hs]; exact hh4)), na, os, ag, w⟩
        first
          | exact wpAny_bind (wpAny_pure (wpAny_bind fin))
          | exact wpAny_bind fin
      | @cons x n c i ts b₀ suite np pos' hds2 l2 hi hln hc hsu r ih =>
        intro w
        obtain ⟨b, hb1, hyes, hno⟩ := w
        refine wpAny_handleBy_cons (codeAny_handlers_test ?_) (by intro q; cases q)
        have LT : PySem.W.Looks (model X.prog X.w) h3 (typeOf (.ref a)) cls := fun A Q E s k q => wpAny_typeOf_ref (k _ _ he3) (by rw [hz3.1]; exact q)
        have LM := PySem.W.exm_one (M := model X.prog X.w) (J3.kIn) LT hb1
        have test : ∀ {Q : Value → Shared → Prop} {E : Value → Shared → Prop}, Q c { s' with heap := h3 } → wpAny (model X.prog X.w) (X.A.mark (some (.ref a))) (eval (.Name x np) X.env) Q E { s' with heap := h3 } := fun {Q E} q => by
          obtain ⟨hg, hdbg, hm | ⟨hm, hv, hnn⟩⟩ := hc
          · exact ld_glob (X := X.suite a ((a, oe3) :: (X.pn ++ pins))) S3 hg hm q hdbg
          · exact ld_blt (X := X.suite a ((a, oe3) :: (X.pn ++ pins))) S3 hg hm hv q hnn hdbg
        refine test (LM.here ?_)
        cases b with
        | true =>
          refine codeAny_handlers_suite_as ?_
          refine HandSPX.lands_againZ fl3 fun h4 fl4 up4 => ?_
          have J4 : Inv X pins σ' H' { s' with heap := h4 } := J.landed nb fl4.1 ((up.trans up3).trans up4) os ag
          obtain ⟨oe4, vs4, he4, hz4, hd4⟩ := fl4.there
          have S4 := J4.suite he4 hd4 na nL nF
          refine store_ok (X := X.suite a ((a, oe4) :: (X.pn ++ pins))) (v := .ref a) S4 hN hi (.inl hln) rfl (fun s5 S5 => ?_) (.inr hln)
          refine wpAny_mono ((hsu a oe4 cls d (X.pn ++ pins) hz4 ⟨_, hd4⟩).run [] s5 _ H' _ S5 (hyes rfl a na)) (fun f s6 hsp => ?_) (fun _ _ z => False.elim z)
          have end_ : ∀ {σ6 : L2.St} {H6 : Hp} {Q : Shared → Prop}, Inv (X.suite a ((a, oe4) :: (X.pn ++ pins))) [] σ6 H6 s6 → (∀ s7, Inv X pins (σ6.set i none) H6 s7 → Q s7) →
              wpAny (model X.prog X.w) X.A (do bindName X.env n .none; unbindBehindTheSuite X.env n pos') (fun _ s7 => Q s7) X.xe s6 := fun {σ6 H6 Q} S6 hq => gone_ok (S6.unsuite ok) hN hi hln hq
          cases f with
          | next =>
            obtain ⟨σ6, H6, S6, q6⟩ := hsp
            exact end_ S6 fun s7 J7 => ⟨_, _, J7, q6⟩
          | brk =>
            obtain ⟨σ6, H6, S6, q6⟩ := hsp
            exact end_ S6 fun s7 J7 => ⟨_, _, J7, q6⟩
          | cont =>
            obtain ⟨σ6, H6, S6, q6⟩ := hsp
            exact end_ S6 fun s7 J7 => ⟨_, _, J7, q6⟩
          | ret u =>
            obtain ⟨v6, σ6, H6, S6, r6, q6⟩ := hsp
            exact end_ S6 fun s7 J7 => ⟨_, _, _, J7, r6, q6⟩
        | false =>
          show wpAny _ X.A (handleBy (.ref a) X.env hds2) _ _ _
          exact ih (hno rfl)
    exact go hh w
  · cases f with
    | next =>
      obtain ⟨σ', H', J', q⟩ := hsp
      exact wpAny_execs_nil ⟨σ', H', J'.ofTry ok, q⟩
    | brk =>
      obtain ⟨σ', H', J', q⟩ := hsp
      exact ⟨σ', H', J'.ofTry ok, q⟩
    | cont =>
      obtain ⟨σ', H', J', q⟩ := hsp
      exact ⟨σ', H', J'.ofTry ok, q⟩
    | ret u =>
      obtain ⟨v, σ', H', J', r, q⟩ := hsp
      exact ⟨v, σ', H', J'.ofTry ok, r, q⟩
end
/-! ### heard(lambda: ..) -/
/-- the exception's one field -/
def Given (d : Option Addr) (v : V) (H : Hp) : Prop := ∃ dd, d = some dd ∧ H dd = some (.xd [("given", v)])
/-- what is wanted of an exception that the heard call lets out -/
def EHeard (CN CT : Addr) (Q : VK) : XK := fun cls d H => ∃ v, Given d v H ∧ ((cls = .ref CN ∧ ∀ p, H p = none → Q (.ref p) (upd H p (.tup [.str "number", v]))) ∨ (cls = .ref CT ∧ ∀ p, H p = none → Q (.ref p) (upd H p (.tup [.str "ties", v]))))
section
variable {X : Cx}
def tHeard (T : List (Addr × Str)) (CN CT : Addr) (N : List Str) (vs ds : List V) (js : List Nat) (t : XK → TE) : TE := fun σ H Q => Tabs T H ∧ ∀ H1, ExtN H H1 → Tabs T H1 →
  t (EHeard CN CT Q) (startF N vs (js.map (slotAt σ))) H1 fun v H2 => [v].length ≤ sizeLine ∧ ∀ p, H2 p = none → Q (.ref p) (upd H2 p (.lst [v]))
/-- the body of heard -/
abbrev heardB (p1 p2 p3 p4 p5 p6 p7 p8 p9 p10 p11 p12 p13 p14 p15 p16 p17 p18 p19 p20 : Pos) (k1 k2 x1 x2 x3 : Nat) : List Stmt :=
  [.Try [.Return (some (.List [.Call (.Name "_law_call" p1) [] [] p2] p3)) p4]
    [.ExceptHandler (some (.Name "BadNumber" p5)) (some "error") [.Return (some (.Tuple [.Constant (.str "number") k1 p6, .Attribute (.Name "error" p7) "given" p8] x1 p9)) p10] p11,
     .ExceptHandler (some (.Name "BadTies" p12)) (some "error") [.Return (some (.Tuple [.Constant (.str "ties") k2 p13, .Attribute (.Name "error" p14) "given" p15] x2 p16)) p17] p18] [] [] p19]
end
end K1
namespace K1
open PySem PySem.Spec PyProof.Rows L2 LamX NdefX
def top (i : Nat) : Stmt := PySem.Challenge.pw_evenhouse_k01_whole_closed_lots.main.body.getD i (.Pass ⟨0, 0, 0, 0⟩)
abbrev sBadN : Stmt := inClass (top 2) 0
abbrev sBadT : Stmt := inClass (top 3) 0
abbrev sIsInt : Stmt := top 5
abbrev sBetw : Stmt := top 8
abbrev sPlain : Stmt := top 9
abbrev sIsTie : Stmt := top 10
abbrev sNeed : Stmt := top 11
abbrev sAre : Stmt := top 12
abbrev sClosIn : Stmt := top 13
abbrev sLots : Stmt := top 14
abbrev sClosed : Stmt := top 15
abbrev sNeedT : Stmt := top 16
abbrev sCloLots : Stmt := top 17
abbrev sIsClos : Stmt := top 18
abbrev sMixed : Stmt := top 20
abbrev sBegin : Stmt := top 21
abbrev sDraw : Stmt := top 22
abbrev sLLots : Stmt := top 23
abbrev sLClosed : Stmt := top 24
abbrev sLTies : Stmt := top 25
abbrev sHeard : Stmt := top 26
abbrev sGood : Stmt := top 27
abbrev sLaw : Stmt := top 28
abbrev FnP (K : PySem.W.Frag) (x : Str) (st : Stmt) (f : Addr) (fd : FuncData) : Prop := FunD K x x (defArgs st) (defBody st) (defScope st) [] [] f fd
theorem scHeard : FnScope ["_law_call", "error"] ["_law_call"] (defScope sHeard) := ⟨rfl, rfl, rfl, by decide +kernel, rfl, by decide +kernel, by decide +kernel⟩
/-- the two classes -/
structure ErrC (K : PySem.W.Frag) (CN CT : Addr) : Prop where
  xN : XfC K CN
  xT : XfC K CT
  noN : PySem.W.findIn K (.ref CN) "given" = some none
  noT : PySem.W.findIn K (.ref CT) "given" = some none
  eNN : PySem.W.exmOne K (.ref CN) (.ref CN) = some true
  eTN : PySem.W.exmOne K (.ref CT) (.ref CN) = some false
  eTT : PySem.W.exmOne K (.ref CT) (.ref CT) = some true
def tsuite (C : Addr) (w : Str) : Addr → Value → Option Addr → TS := fun a cls d => tRet (tTup (tCons (tC (.str w)) (tCons (tXf a cls d C "given" (tVar 1)) tNil)))
section
variable {X : Cx}
theorem heard_takes {K : PySem.W.Frag} {CN CT : Addr} (EC : ErrC K CN CT) {D : Ends} {cls : Value} {d : Option Addr} {σ' : L2.St} {H' : Hp} (hσ : σ'.length = 2) (h : EHeard CN CT D.rt cls d H') :
    wMas K (fun _ _ _ _ => False) D [(.ref CN, 1, tsuite CN "number"), (.ref CT, 1, tsuite CT "ties")] cls d σ' H' := by
  obtain ⟨v, ⟨dd, rfl, hd⟩, ⟨rfl, q⟩ | ⟨rfl, q⟩⟩ := h
  · refine ⟨true, EC.eNN, fun _ a ha => ?_, fun z => nomatch z⟩
    refine ⟨.ref a, by rw [List.getElem?_set_self (by omega)], rfl, rfl, dd, _, v, rfl, hd, by rfl, by simp [sizeLine_eq], fun p hp => q p hp⟩
  · refine ⟨false, EC.eTN, (fun z => nomatch z), fun _ => ⟨true, EC.eTT, fun _ a ha => ?_, (fun z => nomatch z)⟩⟩
    refine ⟨.ref a, by rw [List.getElem?_set_self (by omega)], rfl, rfl, dd, _, v, rfl, hd, by rfl, by simp [sizeLine_eq], fun p hp => q p hp⟩
/-- a call of a lambda that the slot 0 of a frame holds, made before -/
theorem pe_act2 {CXg : CXT} {Eg : XK} {Ng : List Str} {qg : Str} {sg : Scope} {g f c' : Addr} {cdg : Value} {params : Arguments} {body : Expr} {scope : Scope} {k i : Nat} {a : Str} {pn : List (Addr × Obj)} {xe : Value → Shared → Prop} {W : WX} {E : XK} {tb : TE} {p1 p2 : Pos}
    {pins : List (Addr × Obj)} {σ : L2.St} {H H0 : Hp} {s : Shared} {T : List (Addr × Str)} {ps fr N : List Str} {vs ds : List V} {js : List Nat}
    (M : Made X pins σ H0 T params body scope ds f c' H s) (S : NScope N ps fr scope) (hcap : Caps X (cloFrom X.env.cells scope.names []) fr js) (hB : LamBind params body scope ps [] vs ds) (hl : vs.length = ps.length)
    (tk : Takes ((cxOf CXg X.prog X.w X.K X.mg X.base Ng qg sg g cdg X.A X.stack s H Eg).tr pn xe) W) (hW : ∀ cls d σ' H', σ'.length = Ng.length → E cls d H' → W cls d σ' H') (hr : Room (k + 1) (X.A.deeper (envOfC qg sg s.heap.objs.size g cdg)))
    (hbody : ∀ (A : Around) (outer : List Env) (s : Shared) (H : Hp), Room k (A.deeper (envF (lamF X params scope c') f s.heap.objs.size)) → PE (ncx (L2.CX X.prog X.w) X.prog X.w X.K X.mg X.base N (lamF X params scope c') f A outer s H E) body tb)
    (hN : Ng[i]? = some a) (hv : Vis sg a) (hd : (a == ("__debug__" : Str)) = false := by decide) (hcd : (a == ("__classdict__" : Str)) = false := by decide) :
    PE ((cxOf CXg X.prog X.w X.K X.mg X.base Ng qg sg g cdg X.A X.stack s H Eg).tr pn xe) (.Call (.Name a p1) [] [] p2)
      (fun σZ HZ Q => σZ[i]? = some (some (.ref f)) ∧ HZ c' = some (CodeO c' (X.env.qual ++ "<lambda>")) ∧ tb (startF N vs (js.map (slotAt σ))) HZ Q) := by
  refine ⟨fun pinsZ sZ σZ HZ Q IZ h => ?_⟩
  obtain ⟨hs, hc, ht⟩ := h
  refine wpAny_Call_Name_kw (thn ((pe_var (pos := p1) (i := i) hN hv hd hcd).run pinsZ sZ σZ HZ (fun v H1 => v = .ref f ∧ H1 = HZ) IZ ⟨.ref f, hs, rfl, rfl⟩) fun u s1 ⟨v, H1, I1, r1, q1⟩ => ?_)
  obtain ⟨ev, eH⟩ := q1
  subst ev
  rw [eH] at I1
  obtain rfl : u = Value.ref f := r1
  obtain ⟨dV, doc, pm, ctv, ho, hdo⟩ := M.obj
  have un : Un (frs X.stack) [] H HZ s.heap s1.heap := I1.base
  have of1 := un.keep f _ ho M.fn M.fr (fun z => nomatch (show f ∈ ([] : List Addr) from z))
  refine PySem.W.callWith_F0 ⟨_, _, _, _, of1⟩ ?_
  have rc : codeAny (model X.prog X.w) (X.A.deeper (envOfC qg sg s.heap.objs.size g cdg)) (.call (.ref f) ⟨[], []⟩) (CR (L2.CX X.prog X.w) (envOfC qg sg s.heap.objs.size g cdg :: X.stack) X.prog X.w HZ s1 Q E) s1 :=
    lam_code M hc S hcap hB hl I1.env0 un hr .nil fun hr2 => ⟨tb, hbody _ _ s1 HZ hr2, ht⟩
  refine wpAny_call (codeAny_mono rc fun r s' hq => ?_)
  cases r with
  | error e =>
    have hq' : L2.CX X.prog X.w (envOfC qg sg s.heap.objs.size g cdg :: X.stack) HZ s1 E e s' := hq
    exact tk e s' (XE.of_call I1 (fun cls d H' h => hW cls d σZ H' I1.len h) hq')
  | ok fl =>
    cases fl with
    | ret u => exact I1.after hq
    | next => exact False.elim hq
    | brk => exact False.elim hq
    | cont => exact False.elim hq
/-- heard(lambda: ..) -/
theorem pe_heard {g CN CT c P : Addr} {fd : FuncData} {T : List (Addr × Str)} {params : Arguments} {body : Expr} {scope : Scope} {ps fr N : List Str} {vs ds : List V} {js : List Nat} {k : Nat} {t : XK → TE} {p lpos pos : Pos}
    (F : FnP X.K "_law_heard" sHeard g fd) (hg : Gl X "_law_heard") (hm : X.mg "_law_heard" = some (.ref g)) (gN : X.mg "BadNumber" = some (.ref CN)) (gT : X.mg "BadTies" = some (.ref CT)) (EC : ErrC X.K CN CT)
    (S : NScope N ps fr scope) (hcap : X.Ok → Caps X (cloFrom X.env.cells scope.names []) fr js) (hB : LamBind params body scope ps [] vs ds) (hl : vs.length = ps.length) (hr : Room (k + 2) X.A)
    (hev : ∀ {pins : List (Addr × Obj)} {σ : L2.St} {H : Hp} {s : Shared} {E : Value → Shared → Prop} {Q : Value → Shared → Prop}, Inv X pins σ H s → Tabs T H → (∀ f c' H1 s', Made X pins σ H T params body scope ds f c' H1 s' → Q (.ref f) s') → wpAny (model X.prog X.w) X.A (eval (.Lambda params body scope lpos) X.env) Q E s)
    (hbody : ∀ (c' f : Addr) (A : Around) (outer : List Env) (s : Shared) (H : Hp) (E : XK), Room k (A.deeper (envF (lamF X params scope c') f s.heap.objs.size)) → PE (ncx (L2.CX X.prog X.w) X.prog X.w X.K X.mg X.base N (lamF X params scope c') f A outer s H E) body (t E)) :
    PE X (.Call (.Name "_law_heard" p) [.Lambda params body scope lpos] [] pos) (tHeard T CN CT N vs ds js t) := by
  refine ⟨fun pins s σ H Q I h => ?_⟩
  obtain ⟨hT, h⟩ := h
  refine wpAny_Call_Name_kw (ld_glob I hg hm ?_ (by decide))
  refine PySem.W.callWith_K (h₀ := X.base) I.ok.mod.kin F.kp ?_ (by rfl) (by rfl)
  show wpAny _ _ (spliced ((false, eval (.Lambda params body scope lpos) X.env) :: backTo pos (starEach [] X.env))) _ _ s
  refine Calls.spliced_cons (hev I hT fun f c' H1 s' M => ?_)
  refine Calls.spliced_nil ⟨M.inv.kIn, ?_⟩
  have I1 := M.inv
  have b : Binds X.K fd ["_law_call"] [] := F.bindsN fun _ _ _ _ _ _ us hl => match us, hl with | [_], _ => rfl
  obtain ⟨oc, od, dV, kV, doc, pm, an, cdv, ct, osl, rfl, lk, hcd, _, _⟩ := F.ex
  have rc : codeAny (model X.prog X.w) X.A (.call (.ref g) ⟨[.ref f], []⟩) (CR C8.CX0 X.stack X.prog X.w H1 s' Q C8.E0) s' := by
    refine run_ofS (N := ["_law_call", "error"]) (ps := ["_law_call"]) (us := [.ref f]) (vs := [.ref f]) lk hcd scHeard hr I1.env0 (b s' [.ref f] I1.kIn rfl) (.cons rfl .nil) rfl fun hr' => ?_
    have Z : Cx := (cxOf C8.CX0 X.prog X.w X.K X.mg X.base ["_law_call", "error"] "_law_heard" (defScope sHeard) g cdv X.A X.stack s' H1 C8.E0)
    refine ⟨_, PSs.nox (pss_one (ps_try_mas (X := (cxOf C8.CX0 X.prog X.w X.K X.mg X.base ["_law_call", "error"] "_law_heard" (defScope sHeard) g cdv X.A X.stack s' H1 C8.E0).nox) (Wout := fun _ _ _ _ => False)
      (l := [(.ref CN, 1, tsuite CN "number"), (.ref CT, 1, tsuite CT "ties")])
      (tb := fun W D σx Hx => ∃ Ech : XK, (∀ cls d σ' H', σ'.length = 2 → Ech cls d H' → W cls d σ' H') ∧ σx[0]? = some (some (.ref f)) ∧ Hx c' = some (CodeO c' (X.env.qual ++ "<lambda>")) ∧ t Ech (startF N vs (js.map (slotAt σ))) Hx fun v H2 => [v].length ≤ sizeLine ∧ ∀ p, H2 p = none → D.rt (.ref p) (upd H2 p (.lst [v])))
      rfl rfl scHeard.nd L2.takes0 (fun W pn xe tk _ => ?_) (.cons (n := "error") rfl rfl ⟨rfl, by decide, .inl gN⟩ (fun a oe cls d pn hz hf => ?_) (.cons (n := "error") rfl rfl ⟨rfl, by decide, .inl gT⟩ (fun a oe cls d pn hz hf => ?_) .nil)))), ?_⟩
    · refine ⟨fun pins2 s2 σ2 H2 D I2 h2 => ?_⟩
      obtain ⟨Ech, hW, h1, h2, h3⟩ := h2
      have hp := pe_act2 (X := X) (Ng := ["_law_call", "error"]) (qg := "_law_heard") (sg := defScope sHeard) (g := g) (cdg := cdv) (pn := pn) (xe := xe) (CXg := C8.CX0) (Eg := C8.E0) (i := 0) (a := "_law_call") (p1 := ⟨98, 16, 98, 25⟩) (p2 := ⟨98, 16, 98, 27⟩) M S (hcap I1.ok) hB hl tk hW hr' (fun A outer s H hr2 => hbody c' f A outer s H Ech hr2) rfl (.inl rfl)
      have hq := pss_one (ps_ret (pos := ⟨98, 8, 98, 28⟩) (pe_lst (pos := ⟨98, 15, 98, 28⟩) (pa_cons hp pa_nil)))
      refine hq.run pins2 s2 σ2 H2 D I2 ?_
      exact ⟨h1, h2, h3⟩
    · exact pss_one (ps_ret (pe_tup (pa_cons pe_str (pa_cons (pe_xf EC.xN EC.noN hz hf (pv 1)) pa_nil))))
    · exact pss_one (ps_ret (pe_tup (pa_cons pe_str (pa_cons (pe_xf EC.xT EC.noT hz hf (pv 1)) pa_nil))))
    · exact ⟨EHeard CN CT Q, fun cls d σ' H' hl he => heard_takes EC hl he, rfl, M.code, h H1 M.ext M.tab⟩
  refine wpAny_call (codeAny_mono rc fun r s2 hq => ?_)
  cases r with
  | error e => exact (show False from hq).elim
  | ok fl =>
    cases fl with
    | ret u => exact I1.after hq
    | next => exact False.elim hq
    | brk => exact False.elim hq
    | cont => exact False.elim hq
end
end K1
namespace K1
open PySem PySem.Spec PyProof.Rows L2 LamX NdefX
/-! ### data without lists -/
mutual
def noL : PyData → Bool
  | .list _ => false
  | .dict _ => false
  | .tuple xs => noLAll xs
  | .none => true
  | .bool _ => true
  | .int _ => true
  | .str _ => true
def noLAll : List PyData → Bool
  | [] => true
  | x :: xs => noL x && noLAll xs
end
mutual
theorem Dt.updL {H : Hp} {D : Addr} {xs zs : List V} (e : H D = some (.lst xs)) : ∀ {v : V} {d : PyData}, noL d = true → Dt H v d → Dt (upd H D (.lst zs)) v d
  | _, _, _, .non => .non
  | _, _, _, .bl b => .bl b
  | _, _, _, .int i => .int i
  | _, _, _, .str x => .str x
  | _, _, n, .lst h a => by simp [noL] at n
  | _, _, n, .tup h a => .tup (by rw [upd_ne (ne_of h e (fun z => nomatch z))]; exact h) (DtAll.updL e (by simpa only [noL] using n) a)
theorem DtAll.updL {H : Hp} {D : Addr} {xs zs : List V} (e : H D = some (.lst xs)) : ∀ {vs : List V} {ds : List PyData}, noLAll ds = true → DtAll H vs ds → DtAll (upd H D (.lst zs)) vs ds
  | _, _, _, .nil => .nil
  | _, d :: ds, n, .cons h t => by
    have n' : noL d = true ∧ noLAll ds = true := by simpa only [noLAll, Bool.and_eq_true] using n
    exact .cons (Dt.updL e n'.1 h) (DtAll.updL e n'.2 t)
end
theorem noLAll_of : ∀ {ds : List PyData}, (∀ d ∈ ds, noL d = true) → noLAll ds = true
  | [], _ => by simp [noLAll]
  | d :: ds, h => by simp [noLAll, h d (by simp), noLAll_of (ds := ds) fun x hx => h x (by simp [hx])]
theorem noL_lot (l : List Int) : noL (lotD l) = true := by
  simp only [lotD, noL]
  exact noLAll_of fun d hd => by
    obtain ⟨i, _, rfl⟩ := List.mem_map.mp hd
    simp [noL]
theorem noL_tie (p : Tie) : noL (tieD p) = true := by simp [tieD, noL, noLAll]
theorem noL_key (l : List Int) : noL (keyD l) = true := by simp [keyD, noL, noLAll, noL_lot l]
/-! ### list comprehensions -/
structure Acc (H1 : Hp) (F : Nat → Option PyData) (D : Addr) (i : Nat) (H : Hp) : Prop where
  same : Same H1 H
  acc : ∃ ys, H D = some (.lst ys) ∧ ys.length ≤ i ∧ DtAll H ys ((List.range i).filterMap F)
theorem Acc.mono {H1 : Hp} {F : Nat → Option PyData} {D : Addr} {i : Nat} {H H' : Hp} (a : Acc H1 F D i H) (e : Same H H') : Acc H1 F D i H' := by
  obtain ⟨s, ys, h1, h2, h3⟩ := a
  exact ⟨s.trans e, ys, e _ _ h1, h2, h3.same e⟩
theorem Acc.start {H1 : Hp} {F : Nat → Option PyData} {D : Addr} (h : H1 D = none) : Acc H1 F D 0 (upd H1 D (.lst [])) := ⟨same_upd h, [], upd_same, Nat.le_refl _, .nil⟩
def LcBody (g : TG) (tt : TT) (te : TE) (vs : List Nat) (σ : L2.St) (o : Option PyData) (x : V) (H' : Hp) : Prop :=
  ∀ R : Option V → Hp → Prop, (o = none → ∀ H3, Same H' H3 → R none H3) → (∀ d, o = some d → ∀ y H4, Same H' H4 → Dt H4 y d → R (some y) H4) →
    g x (wipe σ vs) H' fun σ2 H2 => wipe σ2 vs = wipe σ vs ∧ tt σ2 H2 fun b H3 => if b = true then te σ2 H3 fun y H4 => R (some y) H4 else R none H3
section
variable {K : PySem.W.Frag} {g : TG} {tt : TT} {te : TE} {vs : List Nat} {σ : L2.St} {H1 : Hp} {F : Nat → Option PyData} {Q : VK} {a b : Addr} {xs ys : List V}
theorem acc_turn {D : Addr} {i : Nat} {x : V} {H' : Hp} (p : Acc H1 F D i H') (hD : H1 D = none) (hF : ∀ i d, F i = some d → noL d = true) (hi : i < 50000) (h : LcBody g tt te vs σ (F i) x H') :
    g x (wipe σ vs) H' fun σ2 H2 => wipe σ2 vs = wipe σ vs ∧ tt σ2 H2 fun b H3 => if b = true then te σ2 H3 fun y H4 => ∃ acc, H4 D = some (.lst acc) ∧ acc.length < sizeLine ∧ Acc H1 F D (i + 1) (upd H4 D (.lst (acc ++ [y]))) else Acc H1 F D (i + 1) H3 := by
  obtain ⟨s, ys, h1, h2, h3⟩ := p
  refine h (fun o H => match o with
    | some y => ∃ acc, H D = some (.lst acc) ∧ acc.length < sizeLine ∧ Acc H1 F D (i + 1) (upd H D (.lst (acc ++ [y])))
    | none => Acc H1 F D (i + 1) H) (fun e H3 e3 => ?_) (fun d e y H4 e4 hy => ?_)
  · refine ⟨s.trans e3, ys, e3 _ _ h1, by omega, ?_⟩
    rw [List.range_succ, List.filterMap_append]
    have : [i].filterMap F = [] := by simp [e]
    rw [this, List.append_nil]
    exact h3.same e3
  · have hD4 := e4 _ _ h1
    have nA : noLAll ((List.range i).filterMap F) = true := noLAll_of fun d hd => by
      obtain ⟨j, _, ej⟩ := List.mem_filterMap.mp hd
      exact hF j d ej
    refine ⟨ys, hD4, by rw [sizeLine_eq]; omega, fun c o ec => ?_, ys ++ [y], upd_same, by rw [List.length_append]; simp; omega, ?_⟩
    · rw [upd_ne (ne_of_none ec hD)]
      exact e4 _ _ (s _ _ ec)
    · rw [List.range_succ, List.filterMap_append]
      have : [i].filterMap F = [d] := by simp [e]
      rw [this]
      exact (DtAll.updL hD4 nA (h3.same e4)).append (.one (Dt.updL hD4 (hF i d e) hy))
theorem lcT (hx : H1 a = some (.tup xs)) (hF : ∀ i d, F i = some d → noL d = true) (hz : xs.length ≤ 50000)
    (hs : ∀ i x H', xs[i]? = some x → Same H1 H' → LcBody g tt te vs σ (F i) x H')
    (hd : ∀ D H2 ys, H1 D = none → Same H1 H2 → H2 D = some (.lst ys) → DtAll H2 ys ((List.range xs.length).filterMap F) → Q (.ref D) H2) :
    (∃ xs, SqT K H1 a xs) ∧ ∀ D, H1 D = none → ∃ W : Nat → Nat → Hp → Prop, (∃ m, W 0 m (upd H1 D (.lst []))) ∧ ∀ i m H, W i m H →
      ((Itt K a).stop i H ∧ Q (.ref D) H) ∨ ((Itt K a).go i H ∧ ∃ Nx : Hp → Prop, (∀ H', Nx H' → ∃ m', m' < m ∧ W (i + 1) m' H') ∧ ∀ x H', (Itt K a).yld i H x H' → g x (wipe σ vs) H' fun σ2 H2 => wipe σ2 vs = wipe σ vs ∧ tt σ2 H2 fun b H3 =>
        if b = true then te σ2 H3 fun y H4 => ∃ acc, H4 D = some (.lst acc) ∧ acc.length < sizeLine ∧ Nx (upd H4 D (.lst (acc ++ [y]))) else Nx H3) :=
  ⟨⟨xs, SqT.of hx⟩, fun D hD => lc_tup (xs := xs) (Acc H1 F D) (.start hD) (fun i H _ p => SqT.of (p.same _ _ hx)) (fun i x H hi p => acc_turn p hD hF (by have := (List.getElem?_eq_some_iff.mp hi).1; omega) (hs i x H hi p.same))
    fun H p => by obtain ⟨ys, h1, _, h3⟩ := p.acc; exact hd D H ys hD p.same h1 h3⟩
theorem lcL (hx : H1 a = some (.lst xs)) (hF : ∀ i d, F i = some d → noL d = true) (hz : xs.length ≤ 50000)
    (hs : ∀ i x H', xs[i]? = some x → Same H1 H' → LcBody g tt te vs σ (F i) x H')
    (hd : ∀ D H2 ys, H1 D = none → Same H1 H2 → H2 D = some (.lst ys) → DtAll H2 ys ((List.range xs.length).filterMap F) → Q (.ref D) H2) :
    (∃ xs, SqL K H1 a xs) ∧ ∀ D, H1 D = none → ∃ W : Nat → Nat → Hp → Prop, (∃ m, W 0 m (upd H1 D (.lst []))) ∧ ∀ i m H, W i m H →
      ((Itl K a).stop i H ∧ Q (.ref D) H) ∨ ((Itl K a).go i H ∧ ∃ Nx : Hp → Prop, (∀ H', Nx H' → ∃ m', m' < m ∧ W (i + 1) m' H') ∧ ∀ x H', (Itl K a).yld i H x H' → g x (wipe σ vs) H' fun σ2 H2 => wipe σ2 vs = wipe σ vs ∧ tt σ2 H2 fun b H3 =>
        if b = true then te σ2 H3 fun y H4 => ∃ acc, H4 D = some (.lst acc) ∧ acc.length < sizeLine ∧ Nx (upd H4 D (.lst (acc ++ [y]))) else Nx H3) :=
  ⟨⟨xs, SqL.of hx⟩, fun D hD => lc_list (xs := xs) (Acc H1 F D) (.start hD) (fun i H _ p => SqL.of (p.same _ _ hx)) (fun i x H hi p => acc_turn p hD hF (by have := (List.getElem?_eq_some_iff.mp hi).1; omega) (hs i x H hi p.same))
    fun H p => by obtain ⟨ys, h1, _, h3⟩ := p.acc; exact hd D H ys hD p.same h1 h3⟩
theorem lcR {lo : Int} {n : Nat} (hF : ∀ i d, F i = some d → noL d = true) (hz : n ≤ 50000)
    (hs : ∀ i H', i < n → Same H1 H' → LcBody g tt te vs σ (F i) (.int (lo + (i : Int))) H')
    (hd : ∀ D H2 ys, H1 D = none → Same H1 H2 → H2 D = some (.lst ys) → DtAll H2 ys ((List.range n).filterMap F) → Q (.ref D) H2) :
    ∀ D, H1 D = none → ∃ W : Nat → Nat → Hp → Prop, (∃ m, W 0 m (upd H1 D (.lst []))) ∧ ∀ i m H, W i m H →
      ((Itr lo n).stop i H ∧ Q (.ref D) H) ∨ ((Itr lo n).go i H ∧ ∃ Nx : Hp → Prop, (∀ H', Nx H' → ∃ m', m' < m ∧ W (i + 1) m' H') ∧ ∀ x H', (Itr lo n).yld i H x H' → g x (wipe σ vs) H' fun σ2 H2 => wipe σ2 vs = wipe σ vs ∧ tt σ2 H2 fun b H3 =>
        if b = true then te σ2 H3 fun y H4 => ∃ acc, H4 D = some (.lst acc) ∧ acc.length < sizeLine ∧ Nx (upd H4 D (.lst (acc ++ [y]))) else Nx H3) :=
  fun D hD => lc_range (Acc H1 F D) (.start hD) (fun i H hi p => acc_turn p hD hF (by omega) (hs i H hi p.same))
    fun H p => by obtain ⟨ys, h1, _, h3⟩ := p.acc; exact hd D H ys hD p.same h1 h3
theorem lcZ {n : Nat} (hx : H1 a = some (.tup xs)) (hy : H1 b = some (.tup ys)) (hn : n = min xs.length ys.length) (hF : ∀ i d, F i = some d → noL d = true) (hz : n ≤ 50000)
    (hs : ∀ i x y T H', xs[i]? = some x → ys[i]? = some y → Same H1 H' → H' T = some (.tup [x, y]) → LcBody g tt te vs σ (F i) (.ref T) H')
    (hd : ∀ D H2 ys, H1 D = none → Same H1 H2 → H2 D = some (.lst ys) → DtAll H2 ys ((List.range n).filterMap F) → Q (.ref D) H2) :
    ∀ D, H1 D = none → ∃ W : Nat → Nat → Hp → Prop, (∃ m, W 0 m (upd H1 D (.lst []))) ∧ ∀ i m H, W i m H →
      ((RZ.ItzT K a b).stop i H ∧ Q (.ref D) H) ∨ ((RZ.ItzT K a b).go i H ∧ ∃ Nx : Hp → Prop, (∀ H', Nx H' → ∃ m', m' < m ∧ W (i + 1) m' H') ∧ ∀ x H', (RZ.ItzT K a b).yld i H x H' → g x (wipe σ vs) H' fun σ2 H2 => wipe σ2 vs = wipe σ vs ∧ tt σ2 H2 fun b H3 =>
        if b = true then te σ2 H3 fun y H4 => ∃ acc, H4 D = some (.lst acc) ∧ acc.length < sizeLine ∧ Nx (upd H4 D (.lst (acc ++ [y]))) else Nx H3) := by
  intro D hD
  refine ⟨fun i m H => m = n - i ∧ i ≤ n ∧ Acc H1 F D i H, ⟨n, by simp, Nat.zero_le _, .start hD⟩, ?_⟩
  rintro i m H ⟨rfl, hi, p⟩
  have qx : SqT K H a xs := SqT.of (p.same _ _ hx)
  have qy : SqT K H b ys := SqT.of (p.same _ _ hy)
  by_cases hlt : i < n
  · have ix : i < xs.length := by omega
    have iy : i < ys.length := by omega
    refine .inr ⟨⟨xs, ys, xs[i], ys[i], qx, qy, by simp [ix], by simp [iy]⟩, Acc H1 F D (i + 1), fun H' p' => ⟨n - (i + 1), by omega, rfl, hlt, p'⟩, fun x H' y => ?_⟩
    obtain ⟨T, u, v, rfl, hT, rfl, h1, h2⟩ := y
    have p2 : Acc H1 F D i (upd H T (.tup [u, v])) := p.mono (same_upd hT)
    exact acc_turn p2 hD hF (by omega) (hs i u v T _ (h1 xs qx) (h2 ys qy) p2.same upd_same)
  · have e : i = n := by omega
    subst e
    obtain ⟨zs, h1, _, h3⟩ := p.acc
    exact .inl ⟨⟨xs, ys, qx, qy, by omega⟩, hd D H zs hD p.same h1 h3⟩
end
/-! ### isinstance of data -/
def tyD : PyData → String
  | .none => "NoneType"
  | .bool _ => "bool"
  | .int _ => "int"
  | .str _ => "str"
  | .list _ => "list"
  | .tuple _ => "tuple"
  | .dict _ => "dict"
theorem Dt.ty {K : PySem.W.Frag} {H : Hp} {v : V} {d : PyData} (h : Dt H v d) : TyOf K H v (.type (tyD d)) := by
  cases h with
  | non => exact .non
  | bl b => exact .bl b
  | int i => exact .int i
  | str x => exact .str x
  | lst h a => exact .lst h
  | tup h a => exact .tup h
def isI : PyData → Bool
  | .int _ => true
  | .bool _ => true
  | _ => false
def isBo : PyData → Bool
  | .bool _ => true
  | _ => false
def isT : PyData → Bool
  | .tuple _ => true
  | _ => false
def rIsiD (T : String) (f : PyData → Bool) : List V → Hp → VK → Prop := fun xs H Q => ∃ (x : V) (d : PyData), xs = [x, .ty T] ∧ Dt H x d ∧ Q (.bl (f d)) H
theorem call_isiD {X : Cx} {T : String} {f : PyData → Bool} (hk : ∀ d, kitB (tyD d) T = some (f d)) : CallR X (.builtin "isinstance") (rIsiD T f) := by
  intro pins s σ H xs us Q I r h
  obtain ⟨x, d, rfl, hx, q⟩ := h
  exact call_isi pins s σ H _ us Q I r ⟨x, .ty T, .type (tyD d), .type T, _, rfl, .ty T, .base hx.ty, kit_ty (hk d), q⟩
theorem kit_int (d : PyData) : kitB (tyD d) "int" = some (isI d) := by
  cases d with
  | none => exact (by decide +kernel : kitB "NoneType" "int" = some false)
  | bool b => exact (by decide +kernel : kitB "bool" "int" = some true)
  | int i => exact (by decide +kernel : kitB "int" "int" = some true)
  | str x => exact (by decide +kernel : kitB "str" "int" = some false)
  | list xs => exact (by decide +kernel : kitB "list" "int" = some false)
  | tuple xs => exact (by decide +kernel : kitB "tuple" "int" = some false)
  | dict xs => exact (by decide +kernel : kitB "dict" "int" = some false)
theorem kit_bool (d : PyData) : kitB (tyD d) "bool" = some (isBo d) := by
  cases d with
  | none => exact (by decide +kernel : kitB "NoneType" "bool" = some false)
  | bool b => exact (by decide +kernel : kitB "bool" "bool" = some true)
  | int i => exact (by decide +kernel : kitB "int" "bool" = some false)
  | str x => exact (by decide +kernel : kitB "str" "bool" = some false)
  | list xs => exact (by decide +kernel : kitB "list" "bool" = some false)
  | tuple xs => exact (by decide +kernel : kitB "tuple" "bool" = some false)
  | dict xs => exact (by decide +kernel : kitB "dict" "bool" = some false)
theorem kit_tuple (d : PyData) : kitB (tyD d) "tuple" = some (isT d) := by
  cases d with
  | none => exact (by decide +kernel : kitB "NoneType" "tuple" = some false)
  | bool b => exact (by decide +kernel : kitB "bool" "tuple" = some false)
  | int i => exact (by decide +kernel : kitB "int" "tuple" = some false)
  | str x => exact (by decide +kernel : kitB "str" "tuple" = some false)
  | list xs => exact (by decide +kernel : kitB "list" "tuple" = some false)
  | tuple xs => exact (by decide +kernel : kitB "tuple" "tuple" = some true)
  | dict xs => exact (by decide +kernel : kitB "dict" "tuple" = some false)
end K1
namespace K1
open PySem PySem.Spec PyProof.Rows L2 LamX NdefX
/-! ### comprehensions over data -/
theorem range_bind {α β : Type} (G : α → Option β) : ∀ l : List α, (List.range l.length).filterMap (fun i => (l[i]?).bind G) = l.filterMap G
  | [] => rfl
  | x :: l => by
    rw [List.length_cons, List.range_succ_eq_map, List.filterMap_cons, List.filterMap_map]
    have e : ((fun i => ((x :: l)[i]?).bind G) ∘ Nat.succ) = fun i => (l[i]?).bind G := by
      funext i
      simp
    rw [e, range_bind G l]
    simp only [List.getElem?_cons_zero, Option.bind_some, List.filterMap_cons]
theorem DtAll.at {α : Type} {H : Hp} {enc : α → PyData} {ds : List α} {xs : List V} (h : DtAll H xs (ds.map enc)) {i : Nat} {x : V} (e : xs[i]? = some x) : ∃ d, ds[i]? = some d ∧ d ∈ ds ∧ Dt H x (enc d) := by
  obtain ⟨d', h1, h2⟩ := h.get e
  rw [List.getElem?_map] at h1
  cases q : ds[i]? with
  | none => rw [q] at h1; cases h1
  | some d =>
    rw [q] at h1
    cases h1
    exact ⟨d, rfl, List.mem_of_getElem? q, h2⟩
section
variable {K : PySem.W.Frag} {g : TG} {tt : TT} {te : TE} {vs : List Nat} {σ : L2.St} {H1 : Hp} {Q : VK} {a b : Addr} {xs ys : List V} {α : Type} {enc : α → PyData} {ds : List α} {G : α → Option PyData}
theorem bindF_noL {α : Type} {G : α → Option PyData} {ds : List α} (hG : ∀ d e, G d = some e → noL e = true) : ∀ (i : Nat) e, (fun (i : Nat) => (ds[i]?).bind G) i = some e → noL e = true := fun i e h => by
  cases q : ds[i]? with
  | none =>
    have h' : (ds[i]?).bind G = some e := h
    rw [q] at h'
    cases h'
  | some d =>
    have h' : (ds[i]?).bind G = some e := h
    rw [q] at h'
    exact hG d e h'
/-- over a tuple of data -/
theorem lcTS {H : Hp} {tl : TE} {Cnd : Hp → Prop} (htl : ∀ R : VK, (∀ a xs H1, Cnd H1 → H1 a = some (.tup xs) → DtAll H1 xs (ds.map enc) → R (.ref a) H1) → tl σ H R) (hG : ∀ d e, G d = some e → noL e = true) (hz : ds.length ≤ 50000)
    (hs : ∀ H1 x d H', Cnd H1 → d ∈ ds → Same H1 H' → Dt H' x (enc d) → LcBody g tt te vs σ (G d) x H')
    (hd : ∀ H1 D H2 ys, Cnd H1 → H1 D = none → Same H1 H2 → H2 D = some (.lst ys) → DtAll H2 ys (ds.filterMap G) → Q (.ref D) H2) : tLc (iTup K tl) g tt te vs σ H Q := by
  refine htl _ fun a xs H1 hc hx hds => ?_
  have hl : xs.length = ds.length := by
    have := hds.length
    rwa [List.length_map] at this
  have q := lcT (K := K) (g := g) (tt := tt) (te := te) (vs := vs) (σ := σ) (Q := Q) (F := fun (i : Nat) => (ds[i]?).bind G) hx (bindF_noL hG) (by omega) (fun i x H' hi e => by
    obtain ⟨d, h1, h2, h3⟩ := hds.at hi
    show LcBody g tt te vs σ ((ds[i]?).bind G) x H'
    rw [h1]
    exact hs H1 x d H' hc h2 e (h3.same e)) (fun D H2 ys hD e h1 h2 => hd H1 D H2 ys hc hD e h1 (by
      rw [hl, range_bind] at h2
      exact h2))
  exact ⟨a, rfl, q.1, q.2⟩
/-- over a list of data -/
theorem lcLS {H : Hp} {tl : TE} {Cnd : Hp → Prop} (htl : ∀ R : VK, (∀ a xs H1, Cnd H1 → H1 a = some (.lst xs) → DtAll H1 xs (ds.map enc) → R (.ref a) H1) → tl σ H R) (hG : ∀ d e, G d = some e → noL e = true) (hz : ds.length ≤ 50000)
    (hs : ∀ H1 x d H', Cnd H1 → d ∈ ds → Same H1 H' → Dt H' x (enc d) → LcBody g tt te vs σ (G d) x H')
    (hd : ∀ H1 D H2 ys, Cnd H1 → H1 D = none → Same H1 H2 → H2 D = some (.lst ys) → DtAll H2 ys (ds.filterMap G) → Q (.ref D) H2) : tLc (iList K tl) g tt te vs σ H Q := by
  refine htl _ fun a xs H1 hc hx hds => ?_
  have hl : xs.length = ds.length := by
    have := hds.length
    rwa [List.length_map] at this
  have q := lcL (K := K) (g := g) (tt := tt) (te := te) (vs := vs) (σ := σ) (Q := Q) (F := fun (i : Nat) => (ds[i]?).bind G) hx (bindF_noL hG) (by omega) (fun i x H' hi e => by
    obtain ⟨d, h1, h2, h3⟩ := hds.at hi
    show LcBody g tt te vs σ ((ds[i]?).bind G) x H'
    rw [h1]
    exact hs H1 x d H' hc h2 e (h3.same e)) (fun D H2 ys hD e h1 h2 => hd H1 D H2 ys hc hD e h1 (by
      rw [hl, range_bind] at h2
      exact h2))
  exact ⟨a, rfl, q.1, q.2⟩
/-- over two tuples at once -/
theorem lcZS {H : Hp} {ta : TA} {Cnd : Hp → Prop} {ds es : List PyData} {G : PyData × PyData → Option PyData} (hta : ∀ R : List V → Hp → Prop, (∀ a b xs ys H1, Cnd H1 → H1 a = some (.tup xs) → H1 b = some (.tup ys) → DtAll H1 xs ds → DtAll H1 ys es → R [.ref a, .ref b] H1) → ta σ H R)
    (hG : ∀ d e, G d = some e → noL e = true) (hz : ds.length ≤ 50000)
    (hs : ∀ H1 x y d e T H', Cnd H1 → (d, e) ∈ ds.zip es → Same H1 H' → H' T = some (.tup [x, y]) → Dt H' x d → Dt H' y e → LcBody g tt te vs σ (G (d, e)) (.ref T) H')
    (hd : ∀ H1 D H2 ys, Cnd H1 → H1 D = none → Same H1 H2 → H2 D = some (.lst ys) → DtAll H2 ys ((ds.zip es).filterMap G) → Q (.ref D) H2) : tLc (RZ.iZipA K ta) g tt te vs σ H Q := by
  refine hta _ fun a b xs ys H1 hc hx hy h1 h2 => ?_
  have l1 := h1.length
  have l2 := h2.length
  have lz : (ds.zip es).length = min xs.length ys.length := by rw [List.length_zip, l1, l2]
  refine ⟨a, b, xs, ys, rfl, .inr ⟨SqT.of hx, SqT.of hy, ?_⟩⟩
  refine lcZ (K := K) (F := fun (i : Nat) => ((ds.zip es)[i]?).bind G) hx hy lz (bindF_noL hG) (by omega) (fun i x y T H' hi hj e hT => ?_) fun D H2 ys hD e h1 h2 => hd H1 D H2 ys hc hD e h1 (by rw [range_bind] at h2; exact h2)
  obtain ⟨d, e1, e2⟩ := h1.get hi
  obtain ⟨d', e3, e4⟩ := h2.get hj
  have ez : (ds.zip es)[i]? = some (d, d') := List.getElem?_zip_eq_some.mpr ⟨e1, e3⟩
  show LcBody g tt te vs σ (((ds.zip es)[i]?).bind G) (.ref T) H'
  rw [ez]
  exact hs H1 x y d d' T H' hc (List.mem_of_getElem? ez) e hT (e2.same e) (e4.same e)
/-- over range(n) -/
theorem lcR1 {H : Hp} {ta : TA} {Cnd : Hp → Prop} {n : Nat} {G : Nat → Option PyData} (hta : ∀ R : List V → Hp → Prop, (∀ H1, Cnd H1 → R [.int (n : Int)] H1) → ta σ H R) (hG : ∀ d e, G d = some e → noL e = true) (hz : n ≤ 50000)
    (hs : ∀ H1 i H', Cnd H1 → i < n → Same H1 H' → LcBody g tt te vs σ (G i) (.int (i : Int)) H')
    (hd : ∀ H1 D H2 ys, Cnd H1 → H1 D = none → Same H1 H2 → H2 D = some (.lst ys) → DtAll H2 ys ((List.range n).filterMap G) → Q (.ref D) H2) : tLc (iRng1 ta) g tt te vs σ H Q := by
  refine hta _ fun H1 hc => ⟨(n : Int), rfl, by omega, by omega, ?_⟩
  have e : ((n : Int)).toNat = n := by omega
  rw [e]
  exact lcR (lo := 0) hG hz (fun i H' hi e => by rw [Int.zero_add]; exact hs H1 i H' hc hi e) fun D H2 ys => hd H1 D H2 ys hc
/-- over range(lo, hi) -/
theorem lcR2 {H : Hp} {ta : TA} {Cnd : Hp → Prop} {lo hi : Int} {G : Nat → Option PyData} (hta : ∀ R : List V → Hp → Prop, (∀ H1, Cnd H1 → R [.int lo, .int hi] H1) → ta σ H R) (hG : ∀ d e, G d = some e → noL e = true) (hz : -10000 ≤ lo ∧ lo ≤ 10000 ∧ -10000 ≤ hi ∧ hi ≤ 10000)
    (hs : ∀ H1 (i : Nat) H', Cnd H1 → i < (hi - lo).toNat → Same H1 H' → LcBody g tt te vs σ (G i) (.int (lo + (i : Int))) H')
    (hd : ∀ H1 D H2 ys, Cnd H1 → H1 D = none → Same H1 H2 → H2 D = some (.lst ys) → DtAll H2 ys ((List.range (hi - lo).toNat).filterMap G) → Q (.ref D) H2) : tLc (iRng2 ta) g tt te vs σ H Q := by
  refine hta _ fun H1 hc => ⟨lo, hi, rfl, by omega, ?_⟩
  exact lcR hG (by omega) (fun i H' hi e => hs H1 i H' hc hi e) fun D H2 ys => hd H1 D H2 ys hc
end
theorem LcBody.yes {g : TG} {te : TE} {vs : List Nat} {σ : L2.St} {o : Option PyData} {x : V} {H' : Hp} (h : ∀ R : VK, (∀ d, o = some d → ∀ y H4, Same H' H4 → Dt H4 y d → R y H4) → g x (wipe σ vs) H' fun σ2 H2 => wipe σ2 vs = wipe σ vs ∧ te σ2 H2 R) : LcBody g tYes te vs σ o x H' :=
  fun R _ hs => h (fun y => R (some y)) hs
/-! ### readings opened from without -/
section
variable {σ : L2.St} {H : Hp} {t u : TT} {ta tb : TE} {tt tr : TA} {Q : VK} {D : Ends} {ts tz : TS} {wi : TI} {g : TG}
theorem i_not {Q : Bool → Hp → Prop} (h : t σ H fun c H1 => Q (!c) H1) : tNot t σ H Q := h
theorem i_B {Q : Bool → Hp → Prop} (h : ta σ H fun x H1 => ∃ c, x = .bl c ∧ Q c H1) : tB ta σ H Q := h
theorem i_CB {r : List V → Hp → VK → Prop} (h : tt σ H fun vs H1 => r vs H1 Q) : tCB r tt σ H Q := h
theorem i_cons {Q : List V → Hp → Prop} (h : ta σ H fun x H1 => tr σ H1 fun xs H2 => Q (x :: xs) H2) : tCons ta tr σ H Q := h
theorem i_tand {Q : Bool → Hp → Prop} (h : t σ H fun c H1 => if c = true then u σ H1 Q else Q false H1) : tAnd t u σ H Q := h
theorem i_for (h : wi σ H fun J H1 => ∃ W : Nat → Nat → L2.St → Hp → Prop, (∃ m, W 0 m σ H1) ∧ ∀ i m σ H, W i m σ H →
    (J.stop i H ∧ D.nx σ H) ∨ (J.go i H ∧ ∃ N : L2.St → Hp → Prop, (∀ σ' H', N σ' H' → ∃ m', m' < m ∧ W (i + 1) m' σ' H') ∧ ∀ x H', J.yld i H x H' → g x σ H' fun σ2 H2 => ts { D with nx := N, ct := N, bk := D.nx } σ2 H2)) : tFor wi g ts D σ H := h
theorem i_iList {K : PySem.W.Frag} {R : It → Hp → Prop} (h : ta σ H fun x H1 => ∃ a, x = .ref a ∧ (∃ xs, SqL K H1 a xs) ∧ R (Itl K a) H1) : iList K ta σ H R := h
theorem i_iTup {K : PySem.W.Frag} {R : It → Hp → Prop} (h : ta σ H fun x H1 => ∃ a, x = .ref a ∧ (∃ xs, SqT K H1 a xs) ∧ R (Itt K a) H1) : iTup K ta σ H R := h
theorem i_lst (h : tt σ H fun xs H1 => xs.length ≤ sizeLine ∧ ∀ p, H1 p = none → Q (.ref p) (upd H1 p (.lst xs))) : tLst tt σ H Q := h
theorem i_tup (h : tt σ H fun xs H1 => xs.length ≤ sizeLine ∧ ∀ p, H1 p = none → Q (.ref p) (upd H1 p (.tup xs))) : tTup tt σ H Q := h
theorem i_next (h : D.nx σ H) : tNext D σ H := h
theorem i_ret (h : ta σ H D.rt) : tRet ta D σ H := h
theorem i_seq (h : ts { D with nx := tz D } σ H) : tSeq ts tz D σ H := h
theorem i_asg (h : ta σ H fun x H1 => g x σ H1 D.nx) : tAsg ta g D σ H := h
theorem i_drop (h : ta σ H fun _ H1 => D.nx σ H1) : tDrop ta D σ H := h
theorem i_if {c : TT} (h : c σ H fun b H1 => if b = true then ts D σ H1 else tz D σ H1) : tIfS c ts tz D σ H := h
theorem i_op {r : R2} (h : ta σ H fun x H1 => tb σ H1 fun y H2 => r x y H2 Q) : tOp r ta tb σ H Q := h
theorem i_test {Q : Bool → Hp → Prop} (h : ta σ H fun x H' => ∃ k, x = .bl k ∧ Q k H') : tTest ta σ H Q := h
theorem i_and (h : ta σ H fun x H1 => ∃ c, x = .bl c ∧ if c = true then tb σ H1 Q else Q (.bl false) H1) : tAndV ta tb σ H Q := h
theorem i_or {Q : Bool → Hp → Prop} (h : t σ H fun c H1 => if c = true then Q true H1 else u σ H1 Q) : tOr t u σ H Q := h
theorem i_notv (h : ta σ H fun x H1 => ∃ c, x = .bl c ∧ Q (.bl (!c)) H1) : tNotV ta σ H Q := h
theorem i_call {sp : Sp} {dvs : List V} {E : XK} (h : tt σ H fun vs H1 => sp (vs ++ dvs) H1 Q E) : tCall sp dvs E tt σ H Q := h
end
theorem fm_some {α β : Type} (f : α → β) (l : List α) : l.filterMap (fun x => some (f x)) = l.map f := by
  rw [List.filterMap_eq_map']
theorem fm_if {α β : Type} (p : α → Bool) (f : α → β) (l : List α) : l.filterMap (fun x => if p x = true then some (f x) else none) = (l.filter p).map f := by
  induction l with
  | nil => rfl
  | cons x l ih =>
    rw [List.filterMap_cons, List.filter_cons]
    cases h : p x with
    | true => simp [ih]
    | false => simp [ih]
/-! ### t[1:] -/
theorem sl_drop1 {K : PySem.W.Frag} {H : Hp} {a : Addr} {xs : List V} {Q : VK} (h : H a = some (.tup xs)) (q : ∀ p H', Same H H' → H' p = some (.tup (xs.drop 1)) → Q (.ref p) H') : rSlA K (.ref a) (some 1) none H Q := by
  have e1 : HT.sIx xs.length 0 (some 1) = min 1 xs.length := HT.sIx_nat xs.length 0 1
  have e2 : HT.sIx xs.length xs.length none = xs.length := rfl
  refine ⟨a, xs, rfl, SqT.of h, fun e => ?_, fun _ p hp => ?_⟩
  · rw [e1] at e
    have : xs = [] := by
      cases xs with
      | nil => rfl
      | cons x r => simp at e
    subst this
    exact q a H (Same.refl H) h
  · refine q p _ (same_upd hp) ?_
    rw [upd_same]
    congr 2
    unfold cutV
    rw [e1, e2]
    cases xs with
    | nil => rfl
    | cons x r =>
      have : min 1 (x :: r).length = 1 := by simp
      rw [this]
      simp
theorem i_sl1 {K : PySem.W.Frag} {i : Nat} {a : Addr} {σ : L2.St} {H : Hp} {Q : VK} (hv : σ[i]? = some (some (.ref a))) (h : rSlA K (.ref a) (some 1) none H Q) : tSl (rSlA K) (tVar i) (tPart (tC (.int 1))) tNoPart σ H Q := ⟨_, hv, 1, rfl, h⟩
theorem DtAll.drop1 {H : Hp} {xs : List V} {ds : List PyData} (h : DtAll H xs ds) : DtAll H (xs.drop 1) (ds.drop 1) := by
  cases h with
  | nil => exact .nil
  | cons _ t => exact t
/-! ### neighbours -/
theorem asc_zip {α : Type} (lt : α → α → Bool) : ∀ l : List α, (l.zip (l.drop 1)).all (fun p => lt p.1 p.2) = ascB lt l
  | [] => rfl
  | [_] => rfl
  | x :: y :: r => by
    have ih := asc_zip lt (y :: r)
    simp only [List.drop_succ_cons, List.drop_zero] at ih ⊢
    rw [List.zip_cons_cons, List.all_cons, ih]
    rfl
theorem DtAll.bools {α : Type} {H : Hp} {f : α → Bool} {ds : List α} {ys : List V} (h : DtAll H ys (ds.filterMap fun d => some (.bool (f d)))) : ys = (ds.map f).map V.bl := by
  rw [fm_some] at h
  have e : ds.map (fun d => PyData.bool (f d)) = (ds.map f).map .bool := by rw [List.map_map]; rfl
  rw [e] at h
  exact h.bls_eq
theorem all_map_zip {α : Type} (f : PyData → α) (lt : α → α → Bool) (ds : List PyData) : ((ds.zip (ds.drop 1)).all fun p => lt (f p.1) (f p.2)) = ascB lt (ds.map f) := by
  rw [← asc_zip, ← List.map_drop, List.zip_map, List.all_map]
  rfl
theorem all_id {α : Type} (f : α → Bool) (ds : List α) : (ds.map f).all id = ds.all f := by
  rw [List.all_map]
  rfl
theorem any_id {α : Type} (f : α → Bool) (ds : List α) : (ds.map f).any id = ds.any f := by
  rw [List.any_map]
  rfl
theorem noL_bool {α : Type} {f : α → Bool} : ∀ d e, (fun d => some (PyData.bool (f d))) d = some e → noL e = true := fun d e h => by
  cases h
  rfl
/-! ### for x, y in .. -/
def g2 (K : PySem.W.Frag) (i j : Nat) : TG := gTup K 2 (gCons (gName i) (gCons (gName j) gNil))
theorem pg2 (K : PySem.W.Frag) (i j : Nat) {X : Cx} {x y : Str} {k : Nat} {px py pos : Pos} (hc : X.calm = true) (hN : X.N.Nodup) (hi : X.N[i]? = some x) (hj : X.N[j]? = some y) (lx : X.env.scope.names.lookup x = some .local) (ly : X.env.scope.names.lookup y = some .local) (hK : X.K = K) :
    PG X (.Tuple [.Name x px, .Name y py] k pos) (g2 K i j) := hK ▸
  pg_tup (n := 2) hc (pgs_cons (pg_name hN hi (.inl lx) (.inr lx)) (pgs_cons (pg_name hN hj (.inl ly) (.inr ly)) pgs_nil)) rfl rfl
theorem g2_of {K : PySem.W.Frag} {i j : Nat} {T : Addr} {x y : V} {σ : L2.St} {H : Hp} {Q : L2.St → Hp → Prop} (h : H T = some (.tup [x, y])) (q : Q ((σ.set i (some x)).set j (some y)) H) : g2 K i j (.ref T) σ H Q :=
  ⟨T, [x, y], rfl, SqT.of h, rfl, x, [y], rfl, y, [], rfl, rfl, q⟩
theorem pg1 (i : Nat) {X : Cx} {x : Str} {px : Pos} (hN : X.N.Nodup) (hi : X.N[i]? = some x) (lx : X.env.scope.names.lookup x = some .local) : PG X (.Name x px) (gName i) := pg_name hN hi (.inl lx) (.inr lx)
end K1
namespace K1
open PySem PySem.Spec PyProof.Rows L2 LamX NdefX
section
variable {P : Program} {w : World} {K : PySem.W.Frag} {mg : Str → Option Value} {base : Heap} {f f1 f2 f3 f4 : Addr} {fd fd1 fd2 fd3 fd4 : FuncData}
theorem b1 {x a : Str} {st : Stmt} {f : Addr} {fd : FuncData} (F : FnP K x st f fd) (h : ∀ (kV doc pm : Value) (an : Option Addr) (cdv ct : Value) (us : List Value), us.length = [a].length → bindArgs (PySem.W.fnOf x x (defArgs st) (defBody st) (defScope st) .none kV doc pm an cdv ct) ⟨us, []⟩ = pure ([a].zip us)) : Binds K fd [a] [] := F.bindsN h
/-! ### is_integer -/
def isIntB (d : PyData) : Bool := isI d && !(isBo d)
def spInt : Sp := fun vs H Q _ => ∃ (v : V) (d : PyData), vs = [v] ∧ Dt H v d ∧ Q (.bl (isIntB d)) H
theorem scIsInt : FnScope ["thing"] ["thing"] (defScope sIsInt) := ⟨rfl, rfl, rfl, by decide +kernel, rfl, by decide +kernel, by decide +kernel⟩
theorem ok_isint (F : FnP K "is_integer" sIsInt f fd) (gI : mg "isinstance" = none) (gi : mg "int" = none) (gb : mg "bool" = none) : FnOk P w K mg base L2.CX0 1 f fd ["thing"] spInt := by
  refine F.ok scIsInt (fun vs H Q E h => ?_) (fun cdv A outer s H vs Q E hr h => ⟨_, PSs.nox (pss_one (ps_ret (pe_and (pe_callB (call_isiD kit_int) rfl gI (by rfl) (pa_cons (pv 0) (pa_cons (pe_bltn (v := .ty "int") rfl gi (by rfl) rfl) pa_nil)))
    (pe_one (pe_not (pe_callB (call_isiD kit_bool) rfl gI (by rfl) (pa_cons (pv 0) (pa_cons (pe_bltn (v := .ty "bool") rfl gb (by rfl) rfl) pa_nil)))))))), ?_⟩)
  · obtain ⟨v, d, rfl, _⟩ := h
    rfl
  · obtain ⟨v, d, rfl, hd, q⟩ := h
    refine ⟨v, rfl, v, d, rfl, hd, _, rfl, ?_⟩
    unfold isIntB at q
    cases hi : isI d with
    | false =>
      rw [hi] at q
      exact q
    | true =>
      rw [hi] at q
      exact ⟨v, rfl, v, d, rfl, hd, _, rfl, q⟩
theorem bi_isint (F : FnP K "is_integer" sIsInt f fd) : Binds K fd ["thing"] [] := F.bindsN fun _ _ _ _ _ _ us hl => match us, hl with | [_], _ => rfl
/-! ### is_between -/
def spBetw : Sp := fun vs H Q _ => ∃ (v : V) (d : PyData) (lo hi : Int), vs = [v, .int lo, .int hi] ∧ Dt H v d ∧ Q (.bl (betw lo hi d)) H
theorem scBetw : FnScope ["thing", "least", "most"] ["thing", "least", "most"] (defScope sBetw) := ⟨rfl, rfl, rfl, by decide +kernel, rfl, by decide +kernel, by decide +kernel⟩
theorem bi_betw (F : FnP K "is_between" sBetw f fd) : Binds K fd ["thing", "least", "most"] [] := F.bindsN fun _ _ _ _ _ _ us hl => match us, hl with | [_, _, _], _ => rfl
theorem ok_betw (F : FnP K "is_between" sBetw f fd) (F1 : FnP K "is_integer" sIsInt f1 fd1) (g1 : mg "is_integer" = some (.ref f1)) (gI : mg "isinstance" = none) (gi : mg "int" = none) (gb : mg "bool" = none) :
    FnOk P w K mg base L2.CX0 2 f fd ["thing", "least", "most"] spBetw := by
  have G1 : FnOk P w K mg base L2.CX0 1 f1 fd1 ["thing"] spInt := ok_isint F1 gI gi gb
  refine F.ok scBetw (fun vs H Q E h => ?_) (fun cdv A outer s H vs Q E hr h => ⟨_, PSs.nox (pss_one (ps_ret (pe_and (pe_call G1 hr rfl g1 F1.kp (bi_isint F1) .nil pass0 (pa_cons (pv 0) pa_nil))
    (pe_one (pe_chain op_le op_le (pv 1) (pv 0) (pv 2)))))), ?_⟩)
  · obtain ⟨v, d, lo, hi, rfl, _⟩ := h
    rfl
  · obtain ⟨v, d, lo, hi, rfl, hd, q⟩ := h
    refine ⟨v, rfl, v, d, rfl, hd, _, rfl, ?_⟩
    cases hd with
    | int i =>
      refine ⟨_, rfl, _, rfl, lo, i, rfl, rfl, _, rfl, ?_⟩
      have q' : Q (.bl (decide (lo ≤ i) && decide (i ≤ hi))) H := q
      cases hc : decide (lo ≤ i) with
      | true =>
        rw [hc] at q'
        exact ⟨_, rfl, i, hi, rfl, rfl, q'⟩
      | false =>
        rw [hc] at q'
        exact q'
    | non => exact q
    | bl b => exact q
    | str x => exact q
    | lst _ _ => exact q
    | tup _ _ => exact q
/-! ### is_plain_lot -/
def lenOk : PyData → Prop
  | .tuple xs => xs.length ≤ 10000
  | _ => True
def spPlain : Sp := fun vs H Q _ => ∃ (n : Nat) (v : V) (d : PyData), vs = [.int (n : Int), v] ∧ Dt H v d ∧ lenOk d ∧ ∀ H', Same H H' → Q (.bl (plainB n d)) H'
theorem scPlain : FnScope ["many", "thing", "one", "other"] ["many", "thing"] (defScope sPlain) := ⟨rfl, rfl, rfl, by decide +kernel, rfl, by decide +kernel, by decide +kernel⟩
theorem bi_plain (F : FnP K "is_plain_lot" sPlain f fd) : Binds K fd ["many", "thing"] [] := F.bindsN fun _ _ _ _ _ _ us hl => match us, hl with | [_, _], _ => rfl
theorem ok_plain (F : FnP K "is_plain_lot" sPlain f fd) (F1 : FnP K "is_between" sBetw f1 fd1) (F2 : FnP K "is_integer" sIsInt f2 fd2) (g1 : mg "is_between" = some (.ref f1)) (g2 : mg "is_integer" = some (.ref f2)) (gI : mg "isinstance" = none) (gi : mg "int" = none) (gb : mg "bool" = none)
    (gt : mg "tuple" = none) (ga : mg "all" = none) (gz : mg "zip" = none) : FnOk P w K mg base L2.CX0 3 f fd ["many", "thing"] spPlain := by
  have G1 : FnOk P w K mg base L2.CX0 2 f1 fd1 ["thing", "least", "most"] spBetw := ok_betw F1 F2 g2 gI gi gb
  refine F.ok scPlain (fun vs H Q E h => ?_) (fun cdv A outer s H vs Q E hr h => ⟨_, PSs.nox (pss_cons (ps_if (PW.pt (pw_or (pt_not (pt_val (pe_callB (call_isiD kit_tuple) rfl gI (by rfl) (pa_cons (pv 1) (pa_cons (pe_bltn (v := .ty "tuple") rfl gt (by rfl) rfl) pa_nil)))))
      (pw_or1 (pt_not (pt_val (pe_callB (cr_all rfl) rfl ga (by rfl) (pa_cons (pe_lc (own := [("one", 2)]) rfl scPlain.nd (pi_tup (pv 1)) (blkOk_by (N := ["many", "thing", "one", "other"]) (sc := defScope sPlain) (by decide +kernel)) (fun _ _ _ _ _ => pg1 2 scPlain.nd rfl rfl) (fun _ _ _ _ _ => pts_nil)
        (fun _ _ _ _ _ => pe_call G1 hr rfl g1 F1.kp (bi_betw F1) .nil pass0 (pa_cons (pv 2) (pa_cons pe_int (pa_cons (pe_op op_sub (pv 0) pe_int) pa_nil))))) pa_nil))))))) (pss_one (ps_ret pe_bl)) pss_nil)
    (pss_one (ps_ret (pe_callB (cr_all rfl) rfl ga (by rfl) (pa_cons (pe_lc (own := [("one", 2), ("other", 3)]) rfl scPlain.nd (RZ.pi_zipA rfl gz (pa_cons (pv 1) (pa_cons (pe_slice sl_tupA (pv 1) (po_some pe_int) po_none) pa_nil))) (blkOk_by (N := ["many", "thing", "one", "other"]) (sc := defScope sPlain) (by decide +kernel))
      (fun _ _ _ _ _ => pg2 K 2 3 rfl scPlain.nd rfl rfl rfl rfl rfl) (fun _ _ _ _ _ => pts_nil) (fun _ _ _ _ _ => pe_cmpR op_lt (pv 2) (pv 3) rfl)) pa_nil))))), ?_⟩)
  · obtain ⟨n, v, d, rfl, _⟩ := h
    rfl
  · obtain ⟨n, v, d, rfl, hd, hz, q⟩ := h
    refine ⟨v, rfl, v, d, rfl, hd, _, rfl, ?_⟩
    cases hd with
    | @tup a xs ds ha hxs =>
      refine iteF ?_
      have hl := hxs.length
      have hz' : ds.length ≤ 10000 := hz
      refine i_not (i_B (i_CB (i_cons (lcTS (Cnd := fun H1 => Same H H1) (enc := id) (ds := ds) (G := fun d => some (.bool (betw 0 ((n : Int) - 1) d))) (fun R hR => ⟨_, rfl, hR a xs H (Same.refl H) ha (by rw [List.map_id]; exact hxs)⟩) noL_bool (by omega)
        (fun H1 x d H' _ _ e hx => .yes fun R hs => ⟨rfl, x, rfl, _, rfl, _, _, rfl, rfl, x, d, _, _, rfl, hx, hs _ rfl _ _ (Same.refl _) (.bl _)⟩) fun H1 D H2 ys e1 hD e2 h1 h2 => ?_))))
      obtain rfl := h2.bools
      refine ⟨D, _, rfl, SqL.of h1, _, rfl, ?_⟩
      rw [all_id]
      cases hA : ds.all (betw 0 ((n : Int) - 1)) with
      | false =>
        refine iteT ?_
        have e0 : plainB n (.tuple ds) = false := by
          show (ds.all (betw 0 ((n : Int) - 1)) && _) = false
          rw [hA, Bool.false_and]
        rw [e0] at q
        exact q _ (e1.trans e2)
      | true =>
        refine iteF ?_
        have e0 : plainB n (.tuple ds) = ascB (fun x y : Int => decide (x < y)) (ds.map intOf) := by
          show (ds.all (betw 0 ((n : Int) - 1)) && _) = _
          rw [hA, Bool.true_and]
        rw [e0] at q
        have hi : ∀ {H : Hp} {x : V} {d : PyData}, d ∈ ds → Dt H x d → x = .int (intOf d) := fun {H x d} hm hx => by
          have hb := List.all_eq_true.mp hA d hm
          cases hx with
          | int i => rfl
          | _ => cases hb
        have es := e1.trans e2
        refine i_next ?_
        dsimp only
        refine i_ret (i_CB (i_cons (lcZS (Cnd := fun H3 => Same H2 H3) (ds := ds) (es := ds.drop 1) (G := fun p => some (.bool (decide (intOf p.1 < intOf p.2))))
          (fun R hR => ⟨_, rfl, i_cons (i_sl1 rfl (sl_drop1 (es _ _ ha) fun p H' e h => hR a p xs (xs.drop 1) H' e (e _ _ (es _ _ ha)) h (hxs.same (es.trans e)) (hxs.drop1.same (es.trans e))))⟩) noL_bool (by omega)
          (fun H1 x y d e T H' _ hm _ hT hx hy => .yes fun R hs => g2_of hT ⟨rfl, x, rfl, y, rfl, _, _, hi (List.of_mem_zip hm).1 hx, hi (List.mem_of_mem_drop (List.of_mem_zip hm).2) hy, hs _ rfl _ _ (Same.refl _) (.bl _)⟩)
          fun H3 D2 H4 zs e3 hD2 e4 h3 h4 => ?_)))
        obtain rfl := h4.bools
        refine ⟨D2, _, rfl, SqL.of h3, ?_⟩
        rw [all_id, all_map_zip intOf (fun x y : Int => decide (x < y))]
        exact q _ ((es.trans e3).trans e4)
    | non => exact iteT (q _ (Same.refl _))
    | bl b => exact iteT (q _ (Same.refl _))
    | int i => exact iteT (q _ (Same.refl _))
    | str x => exact iteT (q _ (Same.refl _))
    | lst _ _ => exact iteT (q _ (Same.refl _))
end
end K1
namespace K1
open PySem PySem.Spec PyProof.Rows L2 LamX NdefX
section
variable {P : Program} {w : World} {K : PySem.W.Frag} {mg : Str → Option Value} {base : Heap} {f f1 f2 f3 f4 : Addr} {fd fd1 fd2 fd3 fd4 : FuncData}
/-! ### is_tie -/
def spTie : Sp := fun vs H Q _ => ∃ (n : Nat) (v : V) (d : PyData), vs = [.int (n : Int), v] ∧ Dt H v d ∧ ∀ H', Same H H' → Q (.bl (isTieB n d)) H'
theorem scTie : FnScope ["many", "thing", "one"] ["many", "thing"] (defScope sIsTie) := ⟨rfl, rfl, rfl, by decide +kernel, rfl, by decide +kernel, by decide +kernel⟩
theorem bi_tie (F : FnP K "is_tie" sIsTie f fd) : Binds K fd ["many", "thing"] [] := F.bindsN fun _ _ _ _ _ _ us hl => match us, hl with | [_, _], _ => rfl
theorem tie_no {n : Nat} : ∀ {ds : List PyData}, ds.length ≠ 2 → isTieB n (.tuple ds) = false
  | [], _ => rfl
  | [_], _ => rfl
  | [_, _], h => absurd rfl h
  | _ :: _ :: _ :: _, _ => rfl
theorem ok_tie (F : FnP K "is_tie" sIsTie f fd) (F1 : FnP K "is_between" sBetw f1 fd1) (F2 : FnP K "is_integer" sIsInt f2 fd2) (g1 : mg "is_between" = some (.ref f1)) (g2 : mg "is_integer" = some (.ref f2)) (gI : mg "isinstance" = none) (gi : mg "int" = none) (gb : mg "bool" = none)
    (gt : mg "tuple" = none) (ga : mg "all" = none) (gl : mg "len" = none) : FnOk P w K mg base L2.CX0 3 f fd ["many", "thing"] spTie := by
  have G1 : FnOk P w K mg base L2.CX0 2 f1 fd1 ["thing", "least", "most"] spBetw := ok_betw F1 F2 g2 gI gi gb
  refine F.ok scTie (fun vs H Q E h => ?_) (fun cdv A outer s H vs Q E hr h => ⟨_, PSs.nox (pss_cons (ps_if (PW.pt (pw_or (pt_not (pt_val (pe_callB (call_isiD kit_tuple) rfl gI (by rfl) (pa_cons (pv 1) (pa_cons (pe_bltn (v := .ty "tuple") rfl gt (by rfl) rfl) pa_nil)))))
      (pw_or1 (pt_cmpR op_ne (pe_callB call_len rfl gl (by rfl) (pa_cons (pv 1) pa_nil)) pe_int rfl)))) (pss_one (ps_ret pe_bl)) pss_nil)
    (pss_one (ps_ret (pe_and (pe_callB (cr_all rfl) rfl ga (by rfl) (pa_cons (pe_lc (own := [("one", 2)]) rfl scTie.nd (pi_tup (pv 1)) (blkOk_by (N := ["many", "thing", "one"]) (sc := defScope sIsTie) (by decide +kernel)) (fun _ _ _ _ _ => pg1 2 scTie.nd rfl rfl) (fun _ _ _ _ _ => pts_nil)
        (fun _ _ _ _ _ => pe_call G1 hr rfl g1 F1.kp (bi_betw F1) .nil pass0 (pa_cons (pv 2) (pa_cons pe_int (pa_cons (pe_op op_sub (pv 0) pe_int) pa_nil))))) pa_nil))
      (pe_one (pe_cmpR op_ne (pe_ix ix_tup (pv 1) pe_int (fun _ _ => rfl)) (pe_ix ix_tup (pv 1) pe_int (fun _ _ => rfl)) rfl)))))), ?_⟩)
  · obtain ⟨n, v, d, rfl, _⟩ := h
    rfl
  · obtain ⟨n, v, d, rfl, hd, q⟩ := h
    refine ⟨v, rfl, v, d, rfl, hd, _, rfl, ?_⟩
    cases hd with
    | @tup a xs ds ha hxs =>
      refine iteF ?_
      have hl := hxs.length
      refine ⟨_, rfl, .ref a, xs.length, rfl, .inr ⟨xs, SqT.of ha, rfl⟩, rfl, _, rfl, ?_⟩
      by_cases h2 : ds.length = 2
      · have e2 : (!decide (V.int (xs.length : Int) = V.int 2)) = false := by
          rw [hl, h2]
          rfl
        rw [e2]
        refine iteF (i_next ?_)
        dsimp only
        match ds, h2, hxs with
        | [x, y], _, .cons (v := u) hx (.cons (v := z) hy .nil) =>
          refine i_ret (i_and (i_CB (i_cons (lcTS (Cnd := fun H1 => Same H H1) (enc := id) (ds := [x, y]) (G := fun d => some (.bool (betw 0 ((n : Int) - 1) d))) (fun R hR => ⟨_, rfl, hR a _ H (Same.refl H) ha (.cons hx (.cons hy .nil))⟩) noL_bool (by simp)
            (fun H1 x d H' _ _ e hx => .yes fun R hs => ⟨rfl, x, rfl, _, rfl, _, _, rfl, rfl, x, d, _, _, rfl, hx, hs _ rfl _ _ (Same.refl _) (.bl _)⟩) fun H1 D H2 ys e1 hD e2 h1 h2 => ?_))))
          obtain rfl := h2.bools
          refine ⟨D, _, rfl, SqL.of h1, _, rfl, ?_⟩
          have es := e1.trans e2
          cases hbx : betw 0 ((n : Int) - 1) x with
          | false =>
            have e0 : isTieB n (.tuple [x, y]) = false := by simp [isTieB, hbx]
            rw [e0] at q
            simp only [List.map_cons, List.map_nil, hbx, List.all_cons, id, Bool.false_and]
            exact iteF (q _ es)
          | true =>
            cases hby : betw 0 ((n : Int) - 1) y with
            | false =>
              have e0 : isTieB n (.tuple [x, y]) = false := by simp [isTieB, hbx, hby]
              rw [e0] at q
              simp only [List.map_cons, List.map_nil, hbx, hby, List.all_cons, id, Bool.false_and, Bool.and_false]
              exact iteF (q _ es)
            | true =>
              have e0 : isTieB n (.tuple [x, y]) = !decide (intOf x = intOf y) := by simp [isTieB, hbx, hby]
              rw [e0] at q
              simp only [List.map_cons, List.map_nil, hbx, hby, List.all_cons, List.all_nil, id, Bool.and_self, Bool.true_and]
              cases hx with
              | int i =>
                cases hy with
                | int j =>
                  have e3 : (!decide (V.int i = V.int j)) = !decide (intOf (.int i) = intOf (.int j)) := by
                    by_cases hij : i = j
                    · subst hij
                      rw [decide_eq_true (rfl : V.int i = V.int i), decide_eq_true (rfl : intOf (.int i) = intOf (.int i))]
                    · have h3 : ¬ (V.int i = V.int j) := fun z => hij (V.int.inj z)
                      rw [decide_eq_false h3, decide_eq_false (show ¬ (intOf (.int i) = intOf (.int j)) from hij)]
                  refine ⟨_, rfl, _, _, _, .int i, rfl, rfl, SqT.of (es _ _ ha), rfl, _, rfl, _, _, _, .int j, rfl, rfl, SqT.of (es _ _ ha), rfl, rfl, ?_⟩
                  rw [e3]
                  exact q _ es
                | _ => cases hby
              | _ => cases hbx
      · have e2 : (!decide (V.int (xs.length : Int) = V.int 2)) = true := by
          rw [hl]
          simp
          omega
        rw [e2]
        refine iteT ?_
        rw [tie_no h2] at q
        exact q _ (Same.refl _)
    | non => exact iteT (q _ (Same.refl _))
    | bl b => exact iteT (q _ (Same.refl _))
    | int i => exact iteT (q _ (Same.refl _))
    | str x => exact iteT (q _ (Same.refl _))
    | lst _ _ => exact iteT (q _ (Same.refl _))
/-! ### is_closed_in -/
def spClosIn : Sp := fun vs H Q _ => ∃ (u v : V) (ties : List Tie) (l : List Int), vs = [u, v] ∧ Dt H u (.tuple (ties.map tieD)) ∧ Dt H v (lotD l) ∧ ties.length ≤ 10000 ∧ ∀ H', Same H H' → Q (.bl (closedB ties l)) H'
theorem scClosIn : FnScope ["ties", "lot", "one", "other"] ["ties", "lot"] (defScope sClosIn) := ⟨rfl, rfl, rfl, by decide +kernel, rfl, by decide +kernel, by decide +kernel⟩
theorem bi_closin (F : FnP K "is_closed_in" sClosIn f fd) : Binds K fd ["ties", "lot"] [] := F.bindsN fun _ _ _ _ _ _ us hl => match us, hl with | [_, _], _ => rfl
theorem in_ints (x : Int) (l : List Int) : inV (.int x) (l.map V.int) = l.contains x := by
  unfold inV
  rw [List.any_map]
  induction l with
  | nil => rfl
  | cons y l ih =>
    rw [List.any_cons, ih, List.contains_cons]
    congr 1
    show (y == x) = (x == y)
    exact BEq.comm
theorem flat_ints (l : List Int) : (l.map V.int).all flatV = true := by
  rw [List.all_map, List.all_eq_true]
  intro _ _
  rfl
theorem ok_closin (F : FnP K "is_closed_in" sClosIn f fd) (ga : mg "all" = none) : FnOk P w K mg base L2.CX0 1 f fd ["ties", "lot"] spClosIn := by
  refine F.ok scClosIn (fun vs H Q E h => ?_) (fun cdv A outer s H vs Q E hr h => ⟨_, PSs.nox (pss_one (ps_ret (pe_callB (cr_all rfl) rfl ga (by rfl) (pa_cons (pe_lc (own := [("one", 2), ("other", 3)]) (tt := tTest (tOp (rIn K false) (tVar 3) (tVar 1))) (te := tOp (rIn K false) (tVar 2) (tVar 1)) rfl scClosIn.nd (pi_tup (pv 0)) (blkOk_by (N := ["ties", "lot", "one", "other"]) (sc := defScope sClosIn) (by decide +kernel)) (fun _ _ _ _ _ => pg2 K 2 3 rfl scClosIn.nd rfl rfl rfl rfl rfl) (fun _ _ _ _ _ => pts_one (pt_cmpR op_in_seq (pv 3) (pv 1) rfl))
        (fun _ _ _ _ _ => pe_cmpR op_in_seq (pv 2) (pv 1) rfl)) pa_nil)))), ?_⟩)
  · obtain ⟨u, v, t, l, rfl, _⟩ := h
    rfl
  · obtain ⟨u, v, ties, l, rfl, hu, hv, hz, q⟩ := h
    obtain ⟨a, xs, rfl, ha, hxs⟩ := hu.tup_of
    obtain ⟨b, rfl, hb⟩ := hv.lot
    refine i_ret (i_CB (i_cons (lcTS (Cnd := fun H1 => Same H H1) (enc := tieD) (ds := ties) (G := fun p => if l.contains p.2 = true then some (.bool (l.contains p.1)) else none) (fun R hR => ⟨_, rfl, hR a xs H (Same.refl H) ha hxs⟩) (fun d e h => ?_) (by omega)
      (fun H1 x p H' e1 _ e hx R hn hs => ?_) fun H1 D H2 ys e1 hD e2 h1 h2 => ?_)))
    · split at h
      · cases h
        rfl
      · cases h
    · obtain ⟨T, rfl, hT⟩ := hx.tie
      have hb' := e _ _ (e1 _ _ hb)
      refine g2_of hT ⟨rfl, .int p.2, rfl, .ref b, rfl, b, l.map V.int, rfl, .inr (SqT.of hb'), rfl, flat_ints l, _, rfl, ?_⟩
      rw [if_neg Bool.false_ne_true, in_ints]
      cases hc : l.contains p.2 with
      | false => exact iteF (hn (by rw [hc]; rfl) _ (Same.refl _))
      | true =>
        refine iteT ⟨.int p.1, rfl, .ref b, rfl, b, l.map V.int, rfl, .inr (SqT.of hb'), rfl, flat_ints l, ?_⟩
        rw [if_neg Bool.false_ne_true, in_ints]
        exact hs _ (by rw [hc]; rfl) _ _ (Same.refl _) (.bl _)
    · rw [fm_if] at h2
      have e3 : ((ties.filter fun p => l.contains p.2).map fun p => PyData.bool (l.contains p.1)) = ((ties.filter fun p => l.contains p.2).map fun p => l.contains p.1).map .bool := by rw [List.map_map]; rfl
      rw [e3] at h2
      obtain rfl := h2.bls_eq
      refine ⟨D, _, rfl, SqL.of h1, ?_⟩
      rw [closed_prog]
      exact q _ (e1.trans e2)
end
end K1
namespace K1
open PySem PySem.Spec PyProof.Rows L2 LamX NdefX
section
variable {P : Program} {w : World} {K : PySem.W.Frag} {mg : Str → Option Value} {base : Heap} {f f1 f2 f3 f4 : Addr} {fd fd1 fd2 fd3 fd4 : FuncData}
/-! ### needed_in -/
def spNeed : Sp := fun vs H Q _ => ∃ (u : V) (ties : List Tie) (t : Int) (many : Nat), vs = [u, .int t] ∧ Dt H u (.tuple (ties.map tieD)) ∧ ties.Nodup ∧ (∀ p ∈ ties, 0 ≤ p.1 ∧ p.1 < (many : Int)) ∧ many ≤ 10000 ∧ ties.length ≤ 10000 ∧
  ∀ p H', Same H H' → H' p = some (.lst ((need many ties t).map V.int)) → Q (.ref p) H'
abbrev nNeed : List Str := ["ties", "thing", "found", "waiting", "here", "fresh", "one", "other"]
theorem scNeed : FnScope nNeed ["ties", "thing"] (defScope sNeed) := ⟨rfl, rfl, rfl, by decide +kernel, rfl, by decide +kernel, by decide +kernel⟩
theorem bi_need (F : FnP K "needed_in" sNeed f fd) : Binds K fd ["ties", "thing"] [] := F.bindsN fun _ _ _ _ _ _ us hl => match us, hl with | [_, _], _ => rfl
theorem depthAll_ints : ∀ l : List Int, PyData.depthAll (l.map .int) = 0
  | [] => by simp [PyData.depthAll]
  | n :: l => by simp [PyData.depthAll, PyData.depth, depthAll_ints l]
theorem canLayAll_ints : ∀ l : List Int, PyData.canLayAll0 (l.map .int) = true
  | [] => by simp [PyData.canLayAll0]
  | n :: l => by simp [PyData.canLayAll0, PyData.canLay0, canLayAll_ints l]
theorem shaped_ints (l : List Int) : SeqAt.shaped (.list (l.map .int)) = true := by
  unfold SeqAt.shaped
  simp [PyData.canLay0, PyData.depth, canLayAll_ints, depthAll_ints]
theorem eqv_nil (l : List Int) : PyData.eqv (.list (l.map .int)) (.list []) = l.isEmpty := by
  have h := eqvAll_ints l []
  cases l with
  | nil => simp [PyData.eqv, PyData.eqvAll]
  | cons x l => simp [PyData.eqv, PyData.eqvAll]
structure NW (H0 : Hp) (u : V) (ties : List Tie) (t : Int) (many : Nat) (lf lw : Addr) (m : Nat) (σ : L2.St) (Hc : Hp) : Prop where
  ex : ∃ (n : Nat) (f w : List Int) (o4 o5 : Option V), σ = [some u, some (.int t), some (.ref lf), some (.ref lw), o4, o5, none, none] ∧ Hc lf = some (.lst (f.map V.int)) ∧ Hc lw = some (.lst (w.map V.int)) ∧
    mu many f w = m ∧ m ≤ n ∧ go ties n f w = need many ties t ∧ f.length + cnt many f ≤ many ∧ n ≤ 2 * many + 1
  same : Same H0 Hc
theorem cnt_nil (many : Nat) : cnt many [] = many := by
  have h := mu_start many 0
  unfold mu at h
  simp at h
  omega
theorem getLast_map {l : List Int} {x : Int} (h : l.getLast? = some x) : (l.map V.int)[(l.map V.int).length - 1]? = some (.int x) := by
  rw [List.getLast?_eq_getElem?] at h
  rw [List.length_map, List.getElem?_map, h]
  rfl
theorem upd2 {H : Hp} {a b : Addr} {o o' : HO} (h : H b = none) {c : Addr} {x : HO} (e : H c = some x) : upd H b o c = some x := by
  rw [upd_ne (ne_of_none e h)]
  exact e
theorem ok_need (F : FnP K "needed_in" sNeed f fd) : FnOk P w K mg base L2.CX0 1 f fd ["ties", "thing"] spNeed := by
  refine F.ok scNeed (fun vs H Q E h => ?_) (fun cdv A outer s H vs Q E hr h => ⟨_, PSs.nox (pss_cons (ps_asg (pe_tup (pa_cons (pe_lst pa_nil) (pa_cons (pe_lst (pa_cons (pv 1) pa_nil)) pa_nil)))
      (pg_tup (n := 2) rfl (pgs_cons (pg_name (i := 2) scNeed.nd rfl (.inr rfl) (.inl rfl)) (pgs_cons (pg_name (i := 3) scNeed.nd rfl (.inl rfl) (.inr rfl)) pgs_nil)) rfl rfl))
    (pss_cons (ps_while PassesOwn.never (pt_cmpR (op_neD hr.units) (pv 3) (pe_lst pa_nil) rfl)
      (pss_cons (ps_set (i := 4) scNeed.nd rfl (.inr rfl) (pe_bm0 PySem.F.plainAttrs_list PySem.F.slot_list_pop PySem.F.type_list_pop mt_pop (pv 3)))
      (pss_cons (ps_setLc (i := 5) (own := [("one", 6), ("other", 7)]) (tt := tAnd (tTest (tOp rEq (tVar 7) (tVar 4))) (tTest (tOp (rIn K true) (tVar 6) (tVar 2)))) (te := tVar 6) rfl scNeed.nd rfl rfl (sw_true rfl rfl rfl rfl) (pi_tup (pv 0)) (blkOk_by (N := nNeed) (sc := defScope sNeed) (by decide +kernel)) (fun _ _ _ _ _ => pg2 K 6 7 rfl scNeed.nd rfl rfl rfl rfl rfl)
          (fun _ _ _ _ _ => pts_one (PW.pt (pw_and (pt_cmpR op_eq (pv 7) (pv 4) rfl) (pw_and1 (pt_cmpR op_notIn_seq (pv 6) (pv 2) rfl))))) (fun _ _ _ _ _ => pv 6))
      (pss_cons (ps_expr (pe_bm PySem.F.plainAttrs_list PySem.F.slot_list_extend PySem.F.type_list_extend mt_extend (pv 2) (pa_cons (pv 5) pa_nil)))
      (pss_one (ps_expr (pe_bm PySem.F.plainAttrs_list PySem.F.slot_list_extend PySem.F.type_list_extend mt_extend (pv 3) (pa_cons (pv 5) pa_nil))))))))
    (pss_one (ps_ret (pv 2))))), ?_⟩)
  · obtain ⟨u, ties, t, many, rfl, _⟩ := h
    rfl
  · obtain ⟨u, ties, t, many, rfl, hu, hn, hr, hm, hz, q⟩ := h
    have hsz : ∀ n : Nat, n ≤ 100000 → n ≤ sizeLine := fun n hn => by
      rw [sizeLine_eq]
      omega
    obtain ⟨a, xs, rfl, ha, hxs⟩ := hu.tup_of
    refine i_seq (i_asg ⟨hsz _ (by simp), fun lf hlf => ⟨_, rfl, hsz _ (by simp), fun lw hlw => ⟨hsz _ (by simp), fun p hp => ?_⟩⟩⟩)
    have nwf : lw ≠ lf := fun z => by
      rw [z, upd_same] at hlw
      cases hlw
    have h0w : H lw = none := by
      rw [upd_ne nwf] at hlw
      exact hlw
    refine ⟨p, [.ref lf, .ref lw], rfl, SqT.of upd_same, rfl, .ref lf, [.ref lw], rfl, .ref lw, [], rfl, rfl, ?_⟩
    have e3 : Same (upd (upd H lf (.lst [])) lw (.lst [.int t])) (upd (upd (upd H lf (.lst [])) lw (.lst [.int t])) p (.tup [.ref lf, .ref lw])) := same_upd hp
    have l3 : (upd (upd (upd H lf (.lst [])) lw (.lst [.int t])) p (.tup [.ref lf, .ref lw])) lf = some (.lst ([] : List V)) := e3 _ _ (by rw [upd_ne (Ne.symm nwf), upd_same])
    have w3 : (upd (upd (upd H lf (.lst [])) lw (.lst [.int t])) p (.tup [.ref lf, .ref lw])) lw = some (.lst [.int t]) := e3 _ _ upd_same
    refine ⟨NW H (.ref a) ties t many lf lw, ⟨_, ⟨2 * many + 1, [], [t], none, none, rfl, l3, w3, mu_start many t, Nat.le_refl _, rfl, by rw [cnt_nil]; simp, Nat.le_refl _⟩, ((same_upd hlf).trans (same_upd hlw)).trans e3⟩, ?_⟩
    rintro m σ Hc ⟨⟨n, fl, w, o4, o5, rfl, hf, hw, hmu, hmn, hgo, hcnt, hnb⟩, hS⟩
    refine i_test (i_op ⟨_, rfl, hsz _ (by simp), fun p2 hp2 => ?_⟩)
    have eS : Same Hc (upd Hc p2 (.lst [])) := same_upd hp2
    refine ⟨.list (w.map .int), .list [], .lst (SqL.of (eS _ _ hw)) (DtAll.dp (.ints w)), .lst (SqL.of upd_same) .nil, shaped_ints w, shaped_ints [], _, rfl, ?_⟩
    rw [eqv_nil]
    cases hlast : w.getLast? with
    | none =>
      have hw0 : w = [] := List.getLast?_eq_none_iff.mp hlast
      subst hw0
      refine iteF ⟨.ref lf, rfl, q lf _ (hS.trans eS) ?_⟩
      rw [go_nil] at hgo
      rw [← hgo]
      exact eS _ _ hf
    | some hd =>
      have hwne : w ≠ [] := fun z => by
        rw [z] at hlast
        cases hlast
      have hemp : w.isEmpty = false := by
        cases w with
        | nil => exact absurd rfl hwne
        | cons _ _ => rfl
      rw [hemp]
      refine iteT ⟨fun σ' H' => ∃ m', m' < m ∧ NW H (.ref a) ties t many lf lw m' σ' H', fun σ' H' x => x, ?_⟩
      have hml := mu_less (many := many) hn hr hlast (f := fl)
      rw [hmu] at hml
      obtain ⟨n', rfl⟩ : ∃ n', n = n' + 1 := ⟨n - 1, by omega⟩
      rw [go_step ties n' fl hlast] at hgo
      generalize hH1 : upd Hc p2 (.lst []) = H1 at eS ⊢
      have f1 := eS _ _ hf
      have w1 := eS _ _ hw
      have nfw : lf ≠ lw := Ne.symm nwf
      refine i_seq (i_asg ⟨.ref lw, rfl, .inl ⟨rfl, _, SqL.of w1⟩, lw, w.map V.int, .int hd, rfl, rfl, w1, getLast_map hlast, ?_⟩)
      have w2 : upd H1 lw (.lst (w.map V.int).dropLast) lw = some (.lst (w.dropLast.map V.int)) := by
        rw [upd_same, List.map_dropLast]
      have f2 : upd H1 lw (.lst (w.map V.int).dropLast) lf = some (.lst (fl.map V.int)) := by
        rw [upd_ne nfw]
        exact f1
      have S2 : Same H (upd H1 lw (.lst (w.map V.int).dropLast)) := fun b o e => by
        rw [upd_ne (ne_of_none e h0w)]
        exact eS _ _ (hS _ _ e)
      generalize hH2 : upd H1 lw (.lst (w.map V.int).dropLast) = H2 at w2 f2 S2 ⊢
      dsimp only
      refine i_seq (i_asg (lcTS (Cnd := fun H3 => Same H2 H3) (enc := tieD) (ds := ties) (G := fun p => if (decide (p.2 = hd) && !(fl.contains p.1)) = true then some (.int p.1) else none) (fun R hR => ⟨_, rfl, hR a xs H2 (Same.refl H2) (S2 _ _ ha) (hxs.same S2)⟩) (fun d e h => ?_) (by omega)
        (fun H3 x p H' e1 _ e hx R hn hs => ?_) fun H3 D H4 ys e1 hD e2 h1 h2 => ?_))
      · split at h
        · cases h
          rfl
        · cases h
      · obtain ⟨T, rfl, hT⟩ := hx.tie
        have hf' := e _ _ (e1 _ _ f2)
        refine g2_of hT ⟨rfl, i_tand (i_test (i_op ⟨.int p.2, rfl, .int hd, rfl, rfl, _, rfl, ?_⟩))⟩
        by_cases hph : p.2 = hd
        · rw [decide_eq_true (show V.int p.2 = V.int hd by rw [hph])]
          refine iteT (i_test (i_op ⟨.int p.1, rfl, .ref lf, rfl, lf, fl.map V.int, rfl, .inl (SqL.of hf'), rfl, flat_ints fl, _, rfl, ?_⟩))
          rw [if_pos rfl, in_ints]
          cases hc : fl.contains p.1 with
          | true => exact iteF (hn (by rw [hc]; simp) _ (Same.refl _))
          | false => exact iteT ⟨.int p.1, rfl, hs _ (by rw [hc]; simp [hph]) _ _ (Same.refl _) (.int _)⟩
        · rw [decide_eq_false (show ¬ V.int p.2 = V.int hd from fun z => hph (V.int.inj z))]
          exact iteF (iteF (hn (by simp [hph]) _ (Same.refl _)))
      · rw [fm_if] at h2
        have e3 : ((ties.filter fun p => decide (p.2 = hd) && !(fl.contains p.1)).map fun p => PyData.int p.1) = (fresh ties hd fl).map .int := by
          unfold fresh
          rw [List.map_map]
          rfl
        rw [e3] at h2
        obtain rfl := h2.ints_eq
        have es := e1.trans e2
        have f4 := es _ _ f2
        have w4 := es _ _ w2
        have S4 := S2.trans es
        have hcm := cnt_more (many := many) (fresh ties hd fl) fl (fresh_nodup hn hd fl) fun x hx => by
          obtain ⟨a, b⟩ := fresh_mem hx
          exact ⟨(hr _ a).1, (hr _ a).2, b⟩
        have hDf : D ≠ lf := fun z => by
          rw [z] at hD
          rw [e1 _ _ f2] at hD
          cases hD
        have hDw : D ≠ lw := fun z => by
          rw [z] at hD
          rw [e1 _ _ w2] at hD
          cases hD
        dsimp only
        have hlr : (fresh ties hd fl).length ≤ many := by omega
        have hwl : w.dropLast.length ≤ 2 * many + 1 := by
          have : w.length ≤ mu many fl w := by
            unfold mu
            omega
          rw [List.length_dropLast]
          omega
        refine i_seq (i_drop ⟨.ref lf, rfl, .inl ⟨rfl, _, SqL.of f4⟩, .ref D, rfl, lf, D, fl.map V.int, (fresh ties hd fl).map V.int, rfl, rfl, f4, h1, hsz _ (by rw [List.length_map, List.length_map]; omega), ?_⟩)
        have hE1 : upd H4 lf (.lst (fl.map V.int ++ (fresh ties hd fl).map V.int)) D = some (.lst ((fresh ties hd fl).map V.int)) := by
          rw [upd_ne hDf]
          exact h1
        have wE : upd H4 lf (.lst (fl.map V.int ++ (fresh ties hd fl).map V.int)) lw = some (.lst (w.dropLast.map V.int)) := by
          rw [upd_ne nwf]
          exact w4
        dsimp only
        refine i_drop ⟨.ref lw, rfl, .inl ⟨rfl, _, SqL.of wE⟩, .ref D, rfl, lw, D, w.dropLast.map V.int, (fresh ties hd fl).map V.int, rfl, rfl, wE, hE1, hsz _ (by rw [List.length_map, List.length_map]; omega), ?_⟩
        refine ⟨_, by omega, ⟨n', fl ++ fresh ties hd fl, w.dropLast ++ fresh ties hd fl, some (.int hd), some (.ref D), rfl, ?_, ?_, rfl, by omega, hgo, ?_, by omega⟩, fun b o e => ?_⟩
        · rw [upd_ne nfw, upd_same, List.map_append]
        · rw [upd_same, List.map_append]
        · rw [List.length_append]
          omega
        · rw [upd_ne (ne_of_none e h0w), upd_ne (ne_of_none e hlf)]
          exact S4 _ _ e
end
end K1
namespace K1
open PySem PySem.Spec PyProof.Rows L2 LamX NdefX
/-! ### are_ties -/
theorem tie_is {n : Nat} {d : PyData} (h : isTieB n d = true) : d = tieD (tieOf d) ∧ (0 ≤ (tieOf d).1 ∧ (tieOf d).1 < (n : Int)) ∧ 0 ≤ (tieOf d).2 ∧ (tieOf d).2 < (n : Int) := by
  match d, h with
  | .tuple [x, y], h =>
    have h' : (betw 0 ((n : Int) - 1) x && betw 0 ((n : Int) - 1) y && !decide (intOf x = intOf y)) = true := h
    simp only [Bool.and_eq_true] at h'
    obtain ⟨⟨h1, h2⟩, _⟩ := h'
    cases x with
    | int i =>
      cases y with
      | int j =>
        simp only [betw, Bool.and_eq_true, decide_eq_true_eq] at h1 h2
        exact ⟨rfl, ⟨h1.1, by show i < _; omega⟩, h2.1, by show j < _; omega⟩
      | _ => cases h2
    | _ => cases h1
theorem ties_is {n : Nat} : ∀ {ds : List PyData}, ds.all (isTieB n) = true → ds = (ds.map tieOf).map tieD
  | [], _ => rfl
  | d :: ds, h => by
    rw [List.all_cons, Bool.and_eq_true] at h
    rw [List.map_cons, List.map_cons, ← (tie_is h.1).1, ← ties_is h.2]
theorem plt_trans {p q r : Tie} (h1 : plt p q = true) (h2 : plt q r = true) : plt p r = true := by
  rw [plt_iff] at h1 h2 ⊢
  omega
theorem asc_pair : ∀ {l : List Tie}, ascB plt l = true → l.Pairwise fun p q => plt p q = true
  | [], _ => .nil
  | [_], _ => by simp
  | x :: y :: r, h => by
    have h' : plt x y = true ∧ ascB plt (y :: r) = true := by
      have h2 : (plt x y && ascB plt (y :: r)) = true := h
      simpa only [Bool.and_eq_true] using h2
    have ih := asc_pair h'.2
    refine List.pairwise_cons.mpr ⟨fun z hz => ?_, ih⟩
    rcases List.mem_cons.mp hz with e | hz
    · rw [e]
      exact h'.1
    · exact plt_trans h'.1 ((List.pairwise_cons.mp ih).1 z hz)
theorem lex_plt (p q : Tie) : HT.lexLt [p.1, p.2] [q.1, q.2] = plt p q := by
  unfold plt
  rw [HT.lexLt_cons, HT.lexLt_cons, HT.lexLt_nil_nil]
  by_cases h : p.1 = q.1
  · rw [if_pos h, if_pos h]
    by_cases h2 : p.2 = q.2
    · rw [if_pos h2, h2]
      exact (decide_eq_false (Int.lt_irrefl _)).symm
    · rw [if_neg h2]
  · rw [if_neg h, if_neg h]
section
variable {P : Program} {w : World} {K : PySem.W.Frag} {mg : Str → Option Value} {base : Heap} {f f1 f2 f3 f4 : Addr} {fd fd1 fd2 fd3 fd4 : FuncData}
def spAre : Sp := fun vs H Q _ => ∃ (n : Nat) (v : V) (d : PyData), vs = [.int (n : Int), v] ∧ Dt H v d ∧ lenOk d ∧ n ≤ 10000 ∧ ∀ H', Same H H' → Q (.bl (areTiesB n d)) H'
abbrev nAre : List Str := ["many", "thing", "one", "other", "number"]
theorem scAre : FnScope nAre ["many", "thing"] (defScope sAre) := ⟨rfl, rfl, rfl, by decide +kernel, rfl, by decide +kernel, by decide +kernel⟩
theorem bi_are (F : FnP K "are_ties" sAre f fd) : Binds K fd ["many", "thing"] [] := F.bindsN fun _ _ _ _ _ _ us hl => match us, hl with | [_, _], _ => rfl
/-- the names that the checks look up -/
structure Gs (K : PySem.W.Frag) (mg : Str → Option Value) : Prop where
  isinstance : mg "isinstance" = none
  int : mg "int" = none
  bool : mg "bool" = none
  tuple : mg "tuple" = none
  all : mg "all" = none
  any : mg "any" = none
  zip : mg "zip" = none
  len : mg "len" = none
  range : mg "range" = none
  sorted : mg "sorted" = none
  repr : mg "repr" = none
  list : mg "list" = none
  min : mg "min" = none
  fInt : ∃ f fd, mg "is_integer" = some (.ref f) ∧ FnP K "is_integer" sIsInt f fd
  fBetw : ∃ f fd, mg "is_between" = some (.ref f) ∧ FnP K "is_between" sBetw f fd
  fPlain : ∃ f fd, mg "is_plain_lot" = some (.ref f) ∧ FnP K "is_plain_lot" sPlain f fd
  fTie : ∃ f fd, mg "is_tie" = some (.ref f) ∧ FnP K "is_tie" sIsTie f fd
  fNeed : ∃ f fd, mg "needed_in" = some (.ref f) ∧ FnP K "needed_in" sNeed f fd
  fAre : ∃ f fd, mg "are_ties" = some (.ref f) ∧ FnP K "are_ties" sAre f fd
  fClosIn : ∃ f fd, mg "is_closed_in" = some (.ref f) ∧ FnP K "is_closed_in" sClosIn f fd
theorem Gs.betw (G : Gs K mg) : ∃ f fd, mg "is_between" = some (.ref f) ∧ FnP K "is_between" sBetw f fd ∧ ∀ {P : Program} {w : World} {base : Heap}, FnOk P w K mg base L2.CX0 2 f fd ["thing", "least", "most"] spBetw := by
  obtain ⟨f, fd, h1, h2⟩ := G.fBetw
  obtain ⟨f1, fd1, h3, h4⟩ := G.fInt
  exact ⟨f, fd, h1, h2, ok_betw h2 h4 h3 G.isinstance G.int G.bool⟩
theorem Gs.plain (G : Gs K mg) : ∃ f fd, mg "is_plain_lot" = some (.ref f) ∧ FnP K "is_plain_lot" sPlain f fd ∧ ∀ {P : Program} {w : World} {base : Heap}, FnOk P w K mg base L2.CX0 3 f fd ["many", "thing"] spPlain := by
  obtain ⟨f, fd, h1, h2⟩ := G.fPlain
  obtain ⟨f1, fd1, h3, h4⟩ := G.fBetw
  obtain ⟨f2, fd2, h5, h6⟩ := G.fInt
  exact ⟨f, fd, h1, h2, ok_plain h2 h4 h6 h3 h5 G.isinstance G.int G.bool G.tuple G.all G.zip⟩
theorem Gs.tie (G : Gs K mg) : ∃ f fd, mg "is_tie" = some (.ref f) ∧ FnP K "is_tie" sIsTie f fd ∧ ∀ {P : Program} {w : World} {base : Heap}, FnOk P w K mg base L2.CX0 3 f fd ["many", "thing"] spTie := by
  obtain ⟨f, fd, h1, h2⟩ := G.fTie
  obtain ⟨f1, fd1, h3, h4⟩ := G.fBetw
  obtain ⟨f2, fd2, h5, h6⟩ := G.fInt
  exact ⟨f, fd, h1, h2, ok_tie h2 h4 h6 h3 h5 G.isinstance G.int G.bool G.tuple G.all G.len⟩
theorem Gs.need (G : Gs K mg) : ∃ f fd, mg "needed_in" = some (.ref f) ∧ FnP K "needed_in" sNeed f fd ∧ ∀ {P : Program} {w : World} {base : Heap}, FnOk P w K mg base L2.CX0 1 f fd ["ties", "thing"] spNeed := by
  obtain ⟨f, fd, h1, h2⟩ := G.fNeed
  exact ⟨f, fd, h1, h2, ok_need h2⟩
theorem Gs.closin (G : Gs K mg) : ∃ f fd, mg "is_closed_in" = some (.ref f) ∧ FnP K "is_closed_in" sClosIn f fd ∧ ∀ {P : Program} {w : World} {base : Heap}, FnOk P w K mg base L2.CX0 1 f fd ["ties", "lot"] spClosIn := by
  obtain ⟨f, fd, h1, h2⟩ := G.fClosIn
  exact ⟨f, fd, h1, h2, ok_closin h2 G.all⟩
theorem ok_are (F : FnP K "are_ties" sAre f fd) (G : Gs K mg) : FnOk P w K mg base L2.CX0 4 f fd ["many", "thing"] spAre := by
  obtain ⟨f1, fd1, g1, F1, G1⟩ := G.tie
  obtain ⟨f2, fd2, g2, F2, G2⟩ := G.need
  refine F.ok scAre (fun vs H Q E h => ?_) (fun cdv A outer s H vs Q E hr h => ⟨_, PSs.nox (pss_cons (ps_if (PW.pt (pw_or (pt_not (pt_val (pe_callB (call_isiD kit_tuple) rfl G.isinstance (by rfl) (pa_cons (pv 1) (pa_cons (pe_bltn (v := .ty "tuple") rfl G.tuple (by rfl) rfl) pa_nil)))))
      (pw_or1 (pt_not (pt_val (pe_callB (cr_all rfl) rfl G.all (by rfl) (pa_cons (pe_lc (own := [("one", 2)]) rfl scAre.nd (pi_tup (pv 1)) (blkOk_by (N := nAre) (sc := defScope sAre) (by decide +kernel)) (fun _ _ _ _ _ => pg1 2 scAre.nd rfl rfl) (fun _ _ _ _ _ => pts_nil)
        (fun _ _ _ _ _ => pe_call G1 hr rfl g1 F1.kp (bi_tie F1) .nil pass0 (pa_cons (pv 0) (pa_cons (pv 2) pa_nil)))) pa_nil))))))) (pss_one (ps_ret pe_bl)) pss_nil)
    (pss_cons (ps_if (pt_not (pt_val (pe_callB (cr_all rfl) rfl G.all (by rfl) (pa_cons (pe_lc (own := [("one", 2), ("other", 3)]) (te := tOp (rLtT K) (tVar 2) (tVar 3)) rfl scAre.nd (RZ.pi_zipA rfl G.zip (pa_cons (pv 1) (pa_cons (pe_slice sl_tupA (pv 1) (po_some pe_int) po_none) pa_nil))) (blkOk_by (N := nAre) (sc := defScope sAre) (by decide +kernel))
      (fun _ _ _ _ _ => pg2 K 2 3 rfl scAre.nd rfl rfl rfl rfl rfl) (fun _ _ _ _ _ => pts_nil) (fun _ _ _ _ _ => pe_cmpR (op_ltT hr.units0) (pv 2) (pv 3) rfl)) pa_nil)))) (pss_one (ps_ret pe_bl)) pss_nil)
    (pss_one (ps_ret (pe_not (pe_callB (cr_any rfl) rfl G.any (by rfl) (pa_cons (pe_lc (own := [("number", 4)]) (te := tOp (rIn K false) (tVar 4) (tCall spNeed [] L2.E0 (tCons (tVar 1) (tCons (tVar 4) tNil)))) rfl scAre.nd (pi_range1 rfl G.range (pa_cons (pv 0) pa_nil)) (blkOk_by (N := nAre) (sc := defScope sAre) (by decide +kernel))
      (fun _ _ _ _ _ => pg1 4 scAre.nd rfl rfl) (fun _ _ _ _ _ => pts_nil) (fun _ _ _ _ _ => pe_cmpR op_in_seq (pv 4) (pe_call G2 (hr.mono (by decide)) rfl g2 F2.kp (bi_need F2) .nil pass0 (pa_cons (pv 1) (pa_cons (pv 4) pa_nil))) rfl)) pa_nil))))))), ?_⟩)
  · obtain ⟨n, v, d, rfl, _⟩ := h
    rfl
  · obtain ⟨n, v, d, rfl, hd, hz, hn, q⟩ := h
    refine ⟨v, rfl, v, d, rfl, hd, _, rfl, ?_⟩
    cases hd with
    | @tup a xs ds ha hxs =>
      refine iteF ?_
      have hl := hxs.length
      have hz' : ds.length ≤ 10000 := hz
      refine i_not (i_B (i_CB (i_cons (lcTS (Cnd := fun H1 => Same H H1) (enc := id) (ds := ds) (G := fun d => some (.bool (isTieB n d))) (fun R hR => ⟨_, rfl, hR a xs H (Same.refl H) ha (by rw [List.map_id]; exact hxs)⟩) noL_bool (by omega)
        (fun H1 x d H' _ _ e hx => .yes fun R hs => ⟨rfl, _, rfl, x, rfl, n, x, d, rfl, hx, fun H'' e'' => hs _ rfl _ _ e'' (.bl _)⟩) fun H1 D H2 ys e1 hD e2 h1 h2 => ?_))))
      obtain rfl := h2.bools
      refine ⟨D, _, rfl, SqL.of h1, _, rfl, ?_⟩
      rw [all_id]
      have es := e1.trans e2
      cases hA : ds.all (isTieB n) with
      | false =>
        refine iteT ?_
        have e0 : areTiesB n (.tuple ds) = false := by
          show (ds.all (isTieB n) && _) = false
          rw [hA, Bool.false_and]
        rw [e0] at q
        exact q _ es
      | true =>
        refine iteF (i_next ?_)
        dsimp only
        have hT := ties_is hA
        have hrg : ∀ p ∈ ds.map tieOf, (0 ≤ p.1 ∧ p.1 < (n : Int)) ∧ 0 ≤ p.2 ∧ p.2 < (n : Int) := fun p hp => by
          obtain ⟨d, hd, rfl⟩ := List.mem_map.mp hp
          exact (tie_is (List.all_eq_true.mp hA d hd)).2
        have e0 : areTiesB n (.tuple ds) = (ascB plt (ds.map tieOf) && acyB n (ds.map tieOf)) := by
          show (ds.all (isTieB n) && _) = _
          rw [hA, Bool.true_and]
        rw [e0] at q
        have hix : ∀ {H : Hp} {x : V} {d : PyData}, d ∈ ds → Dt H x d → ∃ T, x = .ref T ∧ H T = some (.tup ([(tieOf d).1, (tieOf d).2].map V.int)) := fun {H x d} hm hx => by
          have hb := (tie_is (List.all_eq_true.mp hA d hm)).1
          rw [hb] at hx
          exact hx.tie
        refine i_if (i_not (i_B (i_CB (i_cons (lcZS (Cnd := fun H3 => Same H2 H3) (ds := ds) (es := ds.drop 1) (G := fun p => some (.bool (plt (tieOf p.1) (tieOf p.2))))
          (fun R hR => ⟨_, rfl, i_cons (i_sl1 rfl (sl_drop1 (es _ _ ha) fun p H' e h => hR a p xs (xs.drop 1) H' e (e _ _ (es _ _ ha)) h (hxs.same (es.trans e)) (hxs.drop1.same (es.trans e))))⟩) noL_bool (by omega)
          (fun H1 x y d e T H' _ hm _ hT hx hy => ?_) fun H3 D2 H4 zs e3 hD2 e4 h3 h4 => ?_)))))
        · obtain ⟨T1, rfl, t1⟩ := hix (List.of_mem_zip hm).1 hx
          obtain ⟨T2, rfl, t2⟩ := hix (List.mem_of_mem_drop (List.of_mem_zip hm).2) hy
          refine .yes fun R hs => g2_of hT ⟨rfl, _, rfl, _, rfl, T1, T2, _, _, rfl, rfl, SqT.of t1, SqT.of t2, ?_⟩
          rw [lex_plt]
          exact hs _ rfl _ _ (Same.refl _) (.bl _)
        obtain rfl := h4.bools
        refine ⟨D2, _, rfl, SqL.of h3, _, rfl, ?_⟩
        rw [all_id, all_map_zip tieOf plt]
        have es2 := (es.trans e3).trans e4
        cases hB : ascB plt (ds.map tieOf) with
        | false =>
          refine iteT ?_
          rw [hB, Bool.false_and] at q
          exact q _ es2
        | true =>
          refine iteF (i_next ?_)
          dsimp only
          rw [hB, Bool.true_and] at q
          have hnd : (ds.map tieOf).Nodup := (asc_pair hB).imp fun {a b} h e => by
            rw [e, plt_irrefl] at h
            cases h
          refine i_ret (i_notv (i_CB (i_cons (lcR1 (Cnd := fun H5 => Same H4 H5) (n := n) (G := fun (i : Nat) => some (.bool ((need n (ds.map tieOf) (i : Int)).contains (i : Int)))) (fun R hR => ⟨_, rfl, hR H4 (Same.refl H4)⟩) noL_bool (by omega)
            (fun H5 i H' e5 _ e6 => .yes fun R hs => ⟨rfl, _, rfl, _, rfl, _, rfl, .ref a, ds.map tieOf, (i : Int), n, rfl, ?_, hnd, fun p hp => (hrg p hp).1, hn, by rw [List.length_map]; omega, fun p H'' e'' hp => ?_⟩) fun H5 D3 H6 ws e5 hD3 e6 h5 h6 => ?_))))
          · rw [← hT]
            exact (Dt.tup ha hxs).same ((es2.trans e5).trans e6)
          · refine ⟨p, _, rfl, .inl (SqL.of hp), rfl, flat_ints _, ?_⟩
            rw [if_neg Bool.false_ne_true, in_ints]
            exact hs _ rfl _ _ e'' (.bl _)
          · obtain rfl := h6.bools
            refine ⟨D3, _, rfl, SqL.of h5, _, rfl, ?_⟩
            rw [any_id]
            exact q _ ((es2.trans e5).trans e6)
    | non => exact iteT (q _ (Same.refl _))
    | bl b => exact iteT (q _ (Same.refl _))
    | int i => exact iteT (q _ (Same.refl _))
    | str x => exact iteT (q _ (Same.refl _))
    | lst _ _ => exact iteT (q _ (Same.refl _))
end
end K1
namespace K1
open PySem PySem.Spec PyProof.Rows L2 LamX NdefX
section
variable {P : Program} {w : World} {K : PySem.W.Frag} {mg : Str → Option Value} {base : Heap} {f f1 f2 f3 f4 : Addr} {fd fd1 fd2 fd3 fd4 : FuncData} {T : List (Addr × Str)}
/-! ### all_lots -/
/-- a def whose body makes lambdas -/
structure LamD (base : Heap) (mg : Str → Option Value) (fd : FuncData) (T : List (Addr × Str)) (q : Str) (c P : Addr) : Prop where
  code : fd.code = .ref c
  tb : TabB base mg c P
  hm : (P, q) ∈ T
  hu : ∀ p ∈ T, p.1 = P → p.2 = q
def spLots (T : List (Addr × Str)) : Sp := fun vs H Q _ => ∃ n : Nat, vs = [.int (n : Int)] ∧ n ≤ 10 ∧ Tabs T H ∧ ∀ p H' ys, Gr T H H' → H' p = some (.lst ys) → DtAll H' ys ((lots n).map lotD) → Q (.ref p) H'
abbrev nLots : List Str := ["many", "found", "number", "lot"]
theorem scLots : FnScope nLots ["many"] (defScope sLots) := ⟨rfl, rfl, rfl, by decide +kernel, rfl, by decide +kernel, by decide +kernel⟩
theorem bi_lots (F : FnP K "all_lots" sLots f fd) : Binds K fd ["many"] [] := F.bindsN fun _ _ _ _ _ _ us hl => match us, hl with | [_], _ => rfl
theorem ok_lots {c PT : Addr} (F : FnP K "all_lots" sLots f fd) (G : Gs K mg) (L : LamD base mg fd T "all_lots.<locals>.<lambda>" c PT) : FnOk P w K mg base L2.CX0 4 f fd ["many"] (spLots T) := by
  obtain ⟨oc, od, dV, kV, doc, pm, an, cdv, ct, osl, rfl, lk, hcd, _, _⟩ := F.ex
  have hcode : cdv = .ref c := L.code
  subst hcode
  refine fn_of lk hcd scLots (fun vs H Q E h => ?_) fun A outer s H vs Q E hr h => ⟨_, PSs.nox (pss_cons (ps_set (i := 1) scLots.nd rfl (.inl rfl) (pe_lst (pa_cons (pe_tup pa_nil) pa_nil)))
    (pss_cons (ps_for PassesOwn.never rfl (pi_range1 rfl G.range (pa_cons (pv 0) pa_nil)) (pg_name (i := 2) scLots.nd rfl (.inr rfl) (.inl rfl))
      (pss_one (ps_expr (pe_bm PySem.F.plainAttrs_list PySem.F.slot_list_extend PySem.F.type_list_extend mt_extend (pv 1) (pa_cons (pe_lc (own := [("lot", 3)]) (te := tTup (StX.tStar K (tVar 3) (tCons (tVar 2) tNil))) rfl scLots.nd (pi_list (pv 1)) (blkOk_by (N := nLots) (sc := defScope sLots) (by decide +kernel))
        (fun _ _ _ _ _ => pg1 3 scLots.nd rfl rfl) (fun _ _ _ _ _ => pts_nil) (fun _ _ _ _ _ => pe_tup (StX.pa_star (pv 3) (pa_cons (pv 2) pa_nil)))) pa_nil)))))
    (pss_one (ps_ret (pe_sortKey (T := T) (c := c) (P := PT) ⟨L.tb, rfl, L.hm, L.hu⟩ hr rfl G.sorted G.len (pv 1) rfl (by decide +kernel) (fun _ _ _ _ _ _ _ => rfl) rfl rfl rfl (by decide +kernel) rfl rfl (by decide)))))), ?_⟩
  · obtain ⟨n, rfl, _⟩ := h
    rfl
  · obtain ⟨n, rfl, hn, hT, q⟩ := h
    have hsz : ∀ n : Nat, n ≤ 100000 → n ≤ sizeLine := fun n hn => by
      rw [sizeLine_eq]
      omega
    refine i_seq (i_asg ⟨hsz _ (by simp), fun p0 h0 => ⟨hsz _ (by simp), fun lf hlf => ?_⟩⟩)
    have h0f : H lf = none := by
      have : lf ≠ p0 := fun z => by
        rw [z, upd_same] at hlf
        cases hlf
      rw [upd_ne this] at hlf
      exact hlf
    have e1 : Same H (upd H p0 (.tup [])) := same_upd h0
    have e2 : Same (upd H p0 (.tup [])) (upd (upd H p0 (.tup [])) lf (.lst [.ref p0])) := same_upd hlf
    have d0 : DtAll (upd (upd H p0 (.tup [])) lf (.lst [.ref p0])) [.ref p0] ((subs 0).map lotD) := .cons (Dt.of_lot (l := []) (e2 _ _ upd_same)) .nil
    have f0 : (upd (upd H p0 (.tup [])) lf (.lst [.ref p0])) lf = some (.lst [.ref p0]) := upd_same
    generalize upd (upd H p0 (.tup [])) lf (.lst [.ref p0]) = H2 at e2 d0 f0 ⊢
    dsimp only
    have en : ((n : Int)).toNat = n := by omega
    refine i_seq ⟨_, rfl, (n : Int), rfl, by omega, by omega, for_range (lo := 0) (fun i σ H' => ∃ o2, σ = [some (.int (n : Int)), some (.ref lf), o2, none] ∧ Same H H' ∧ ∃ ys, H' lf = some (.lst ys) ∧ DtAll H' ys ((subs i).map lotD)) ⟨none, rfl, e1.trans e2, _, f0, d0⟩ (fun i σ H' hi hP => ?_) (fun σ H' hP => ?_)⟩
    · obtain ⟨o2, rfl, S, ys, hf, hd⟩ := hP
      rw [en] at hi
      have hl : ys.length = 2 ^ i := by
        have := hd.length
        rwa [List.length_map, subs_length] at this
      have hp : 2 ^ i ≤ 2 ^ 10 := Nat.pow_le_pow_right (by decide) (by omega)
      have hsl := subs_length i
      refine i_drop ⟨.ref lf, rfl, .inl ⟨rfl, _, SqL.of hf⟩, i_cons (lcLS (Cnd := fun H1 => Same H' H1) (enc := lotD) (ds := subs i) (G := fun r => some (lotD (r ++ [(i : Int)]))) (fun R hR => ⟨_, rfl, hR lf ys H' (Same.refl _) hf hd⟩) (fun d e h => ?_) (by omega)
        (fun H1 x l H'' e3 hm e4 hx => ?_) fun H1 D H3 zs e3 hD e4 h3 h4 => ?_)⟩
      · cases h
        exact noL_lot _
      · obtain ⟨a, rfl, ha⟩ := hx.lot
        have hll := subs_len_le i l hm
        refine .yes fun R hs => ⟨rfl, .ref a, rfl, a, l.map V.int, rfl, .inl (SqT.of ha), _, rfl, hsz _ (by rw [List.length_append, List.length_map]; simp; omega), fun p hp => hs _ rfl _ _ (same_upd hp) ?_⟩
        refine Dt.of_lot (l := l ++ [(i : Int)]) ?_
        rw [upd_same, List.map_append, Int.zero_add]
        rfl
      · rw [fm_some] at h4
        have hz : zs.length = 2 ^ i := by
          have := h4.length
          rwa [List.length_map, subs_length] at this
        have es := e3.trans e4
        have hf3 := es _ _ hf
        refine ⟨lf, D, ys, zs, rfl, rfl, hf3, h3, hsz _ (by omega), some (.int (0 + (i : Int))), rfl, fun b o e => ?_, ys ++ zs, upd_same, ?_⟩
        · rw [upd_ne (ne_of_none e h0f)]
          exact es _ _ (S _ _ e)
        · refine DtAll.updL hf3 (noLAll_of fun d hd => ?_) ?_
          · obtain ⟨l, _, rfl⟩ := List.mem_map.mp hd
            exact noL_lot l
          · have e5 : (subs (i + 1)).map lotD = (subs i).map lotD ++ (subs i).map fun r => lotD (r ++ [(i : Int)]) := by
              show (subs i ++ (subs i).map fun r => r ++ [(i : Int)]).map lotD = _
              rw [List.map_append, List.map_map]
              rfl
            rw [e5]
            exact (hd.same es).append h4
    · obtain ⟨o2, rfl, S, ys, hf, hd⟩ := hP
      rw [en] at hd
      dsimp only
      refine i_ret ⟨_, rfl, lf, ys, subs n, rfl, hf, hd, fun l hl => ?_, hT.ext S, fun zs p H3 e t d hp => q p _ zs ⟨(Same.ext S).trans (e.trans (Same.ext (same_upd hp))), t.ext (same_upd hp)⟩ upd_same (d.same (same_upd hp))⟩
      have := subs_len_le n l hl
      omega
end
end K1
namespace K1
open PySem PySem.Spec PyProof.Rows L2 LamX NdefX
section
variable {P : Program} {w : World} {K : PySem.W.Frag} {mg : Str → Option Value} {base : Heap} {f f1 f2 f3 f4 : Addr} {fd fd1 fd2 fd3 fd4 : FuncData} {T : List (Addr × Str)}
/-! ### closed_in -/
def spClosed (T : List (Addr × Str)) : Sp := fun vs H Q _ => ∃ (n : Nat) (u : V) (ties : List Tie), vs = [.int (n : Int), u] ∧ n ≤ 10 ∧ Dt H u (.tuple (ties.map tieD)) ∧ ties.length ≤ 10000 ∧ Tabs T H ∧
  ∀ p H' ys, Gr T H H' → H' p = some (.lst ys) → DtAll H' ys ((closedL n ties).map lotD) → Q (.ref p) H'
abbrev nClosed : List Str := ["many", "ties", "lot"]
theorem scClosed : FnScope nClosed ["many", "ties"] (defScope sClosed) := ⟨rfl, rfl, rfl, by decide +kernel, rfl, by decide +kernel, by decide +kernel⟩
theorem bi_closed (F : FnP K "closed_in" sClosed f fd) : Binds K fd ["many", "ties"] [] := F.bindsN fun _ _ _ _ _ _ us hl => match us, hl with | [_, _], _ => rfl
theorem two_pow {n : Nat} (h : n ≤ 10) : 2 ^ n ≤ 1024 := Nat.le_trans (Nat.pow_le_pow_right (by decide) h) (by decide)
theorem ok_closed {c PT : Addr} (F : FnP K "closed_in" sClosed f fd) (G : Gs K mg) (F1 : FnP K "all_lots" sLots f1 fd1) (g1 : mg "all_lots" = some (.ref f1)) (L : LamD base mg fd1 T "all_lots.<locals>.<lambda>" c PT) : FnOk P w K mg base L2.CX0 5 f fd ["many", "ties"] (spClosed T) := by
  have G1 : FnOk P w K mg base L2.CX0 4 f1 fd1 ["many"] (spLots T) := ok_lots F1 G L
  obtain ⟨f2, fd2, g2, F2, G2⟩ := G.closin
  refine F.ok scClosed (fun vs H Q E h => ?_) (fun cdv A outer s H vs Q E hr h => ⟨_, PSs.nox (pss_one (ps_ret (pe_lc (own := [("lot", 2)]) (tt := tB (tCall spClosIn [] L2.E0 (tCons (tVar 1) (tCons (tVar 2) tNil)))) (te := tVar 2) rfl scClosed.nd (pi_list (pe_call G1 hr rfl g1 F1.kp (bi_lots F1) .nil pass0 (pa_cons (pv 0) pa_nil)))
      (blkOk_by (N := nClosed) (sc := defScope sClosed) (by decide +kernel)) (fun _ _ _ _ _ => pg1 2 scClosed.nd rfl rfl)
      (fun _ _ _ _ _ => pts_one (pt_val (pe_call G2 (hr.mono (by decide)) rfl g2 F2.kp (bi_closin F2) .nil pass0 (pa_cons (pv 1) (pa_cons (pv 2) pa_nil))))) (fun _ _ _ _ _ => pv 2)))), ?_⟩)
  · obtain ⟨n, u, t, rfl, _⟩ := h
    rfl
  · obtain ⟨n, u, ties, rfl, hn, hu, hz, hT, q⟩ := h
    have hp := two_pow hn
    have hl := lots_length n
    refine i_ret (lcLS (Cnd := fun H1 => Gr T H H1) (enc := lotD) (ds := lots n) (G := fun l => if closedB ties l = true then some (lotD l) else none) (fun R hR => ⟨_, rfl, n, rfl, hn, hT, fun p H' ys g h d => hR p ys H' g h d⟩) (fun d e h => ?_) (by omega)
      (fun H1 x l H' g hm e hx R hn hs => ⟨rfl, i_B (i_call ⟨_, rfl, _, rfl, u, x, ties, l, rfl, (hu.ext g.ext).same e, hx, hz, fun H'' e'' => ⟨_, rfl, ?_⟩⟩)⟩) fun H1 D H2 ys g hD e h1 h2 => ?_)
    · split at h
      · cases h
        exact noL_lot _
      · cases h
    · cases hc : closedB ties l with
      | false => exact iteF (hn (by rw [hc]; rfl) _ e'')
      | true => exact iteT ⟨x, rfl, hs _ (by rw [hc]; rfl) _ _ e'' (hx.same e'')⟩
    · rw [fm_if] at h2
      exact q D H2 ys (g.same e) h1 h2
/-! ### the errors' __init__ -/
def spInit (C : Addr) : Sp := fun vs H Q _ => ∃ (a : Addr) (v : V), vs = [.ref a, v] ∧ H a = some (exo a C none) ∧ ∀ dx, H dx = none → dx ≠ a → Q .non (upd (upd H dx (exd dx [("given", v)])) a (exo a C (some dx)))
abbrev FnI (K : PySem.W.Frag) (q : Str) (st : Stmt) (f : Addr) (fd : FuncData) : Prop := FunD K "__init__" q (defArgs st) (defBody st) (defScope st) [] [] f fd
theorem scBadN : FnScope ["self", "given"] ["self", "given"] (defScope sBadN) := ⟨rfl, rfl, rfl, by decide +kernel, rfl, by decide +kernel, by decide +kernel⟩
theorem scBadT : FnScope ["self", "given"] ["self", "given"] (defScope sBadT) := ⟨rfl, rfl, rfl, by decide +kernel, rfl, by decide +kernel, by decide +kernel⟩
theorem ok_badn {C : Addr} (F : FnI K "BadNumber.__init__" sBadN f fd) (O : OexC K C) (no : PySem.W.findIn K (.ref C) "given" = some none) : FnOk P w K mg base L2.CX0 1 f fd ["self", "given"] (spInit C) := by
  refine F.ok scBadN (fun vs H Q E h => ?_) (fun cdv A outer s H vs Q E hr h => ⟨_, PSs.nox (pss_one (ps_ost (pv 0) (pv 1))), ?_⟩)
  · obtain ⟨a, v, rfl, _⟩ := h
    rfl
  · obtain ⟨a, v, rfl, ha, q⟩ := h
    exact ⟨v, rfl, .ref a, rfl, a, C, rfl, O, no, .inl ⟨ha, fun dx h1 h2 => q dx h1 h2⟩⟩
theorem ok_badt {C : Addr} (F : FnI K "BadTies.__init__" sBadT f fd) (O : OexC K C) (no : PySem.W.findIn K (.ref C) "given" = some none) : FnOk P w K mg base L2.CX0 1 f fd ["self", "given"] (spInit C) := by
  refine F.ok scBadT (fun vs H Q E h => ?_) (fun cdv A outer s H vs Q E hr h => ⟨_, PSs.nox (pss_one (ps_ost (pv 0) (pv 1))), ?_⟩)
  · obtain ⟨a, v, rfl, _⟩ := h
    rfl
  · obtain ⟨a, v, rfl, ha, q⟩ := h
    exact ⟨v, rfl, .ref a, rfl, a, C, rfl, O, no, .inl ⟨ha, fun dx h1 h2 => q dx h1 h2⟩⟩
/-- what is known of the two classes -/
structure ExG (K : PySem.W.Frag) (mg : Str → Option Value) (CN CT : Addr) : Prop where
  gN : mg "BadNumber" = some (.ref CN)
  gT : mg "BadTies" = some (.ref CT)
  ec : ErrC K CN CT
  oN : OexC K CN
  oT : OexC K CT
  iN : ∃ fI fdI, PySem.W.findIn K (.ref CN) "__init__" = some (some (.ref fI)) ∧ PySem.W.typeIn K (.ref fI) = some (.type "function") ∧ FnI K "BadNumber.__init__" sBadN fI fdI
  iT : ∃ fI fdI, PySem.W.findIn K (.ref CT) "__init__" = some (some (.ref fI)) ∧ PySem.W.typeIn K (.ref fI) = some (.type "function") ∧ FnI K "BadTies.__init__" sBadT fI fdI
  most : ∃ t, mg "MOST_THINGS" = some (.int 6 t)
/-- the making of such an error, as its reading wants it -/
theorem mk_given {C : Addr} {v : V} {H : Hp} {Q : XK} (q : ∀ d H', Same H H' → H' d = some (.xd [("given", v)]) → Q (.ref C) (some d) H') :
    ∀ a, H a = none → spInit C [.ref a, v] (upd H a (exo a C none)) (fun v' H2 => v' = .non ∧ ∃ (d : Addr) (fs : List (Str × V)), H2 a = some (exo a C (some d)) ∧ H2 d = some (exd d fs) ∧ H d = none ∧ Q (.ref C) (some d) (upd (del H2 a) d (.xd fs))) (fun _ _ _ => False) := by
  intro a ha
  refine ⟨a, v, rfl, upd_same, fun dx h1 h2 => ⟨rfl, dx, [("given", v)], upd_same, ?_, ?_, ?_⟩⟩
  · rw [upd_ne h2, upd_same]
  · rw [upd_ne h2] at h1
    exact h1
  · rw [upd_ne h2] at h1
    refine q dx _ (fun b o e => ?_) upd_same
    have n1 : b ≠ dx := ne_of_none e h1
    have n2 : b ≠ a := ne_of_none e ha
    rw [upd_ne n1, del_ne n2, upd_ne n2, upd_ne n1, upd_ne n2]
    exact e
/-! ### need_ties -/
def okN (d : PyData) : Bool := betw 1 6 d
def nOf (d : PyData) : Nat := (intOf d).toNat
theorem okN_is {d : PyData} (h : okN d = true) : d = .int (nOf d : Int) ∧ 1 ≤ nOf d ∧ nOf d ≤ 6 := by
  cases d with
  | int i =>
    have h' : (decide (1 ≤ i) && decide (i ≤ 6)) = true := h
    simp only [Bool.and_eq_true, decide_eq_true_eq] at h'
    have e : nOf (.int i) = i.toNat := rfl
    refine ⟨?_, ?_, ?_⟩
    · rw [e]
      congr 1
      omega
    · rw [e]
      omega
    · rw [e]
      omega
  | _ => cases h
def spNeedT (CN CT : Addr) : Sp := fun vs H Q E => ∃ (v u : V) (dm dt : PyData), vs = [v, u] ∧ Dt H v dm ∧ Dt H u dt ∧ lenOk dt ∧
  (okN dm = false → ∀ d H', Same H H' → H' d = some (.xd [("given", v)]) → E (.ref CN) (some d) H') ∧
  (okN dm = true → (areTiesB (nOf dm) dt = false → ∀ d H', Same H H' → H' d = some (.xd [("given", u)]) → E (.ref CT) (some d) H') ∧ (areTiesB (nOf dm) dt = true → ∀ H', Same H H' → Q .non H'))
theorem scNeedT : FnScope ["many", "ties"] ["many", "ties"] (defScope sNeedT) := ⟨rfl, rfl, rfl, by decide +kernel, rfl, by decide +kernel, by decide +kernel⟩
theorem bi_needt (F : FnP K "need_ties" sNeedT f fd) : Binds K fd ["many", "ties"] [] := F.bindsN fun _ _ _ _ _ _ us hl => match us, hl with | [_, _], _ => rfl
theorem ok_needt {CN CT : Addr} (F : FnP K "need_ties" sNeedT f fd) (G : Gs K mg) (X : ExG K mg CN CT) : FnOk P w K mg base (L2.CX P w) 5 f fd ["many", "ties"] (spNeedT CN CT) := by
  obtain ⟨f1, fd1, g1, F1, G1⟩ := G.betw
  obtain ⟨f2, fd2, g2, F2⟩ := G.fAre
  have G2 : FnOk P w K mg base L2.CX0 4 f2 fd2 ["many", "thing"] spAre := ok_are F2 G
  obtain ⟨fN, fdN, iN, tN, FN⟩ := X.iN
  obtain ⟨fT, fdT, iT, tT, FT⟩ := X.iT
  obtain ⟨tk6, hmost⟩ := X.most
  have bN : Binds K fdN ["self", "given"] [] := FN.bindsN fun _ _ _ _ _ _ us hl => match us, hl with | [_, _], _ => rfl
  have bT : Binds K fdT ["self", "given"] [] := FT.bindsN fun _ _ _ _ _ _ us hl => match us, hl with | [_, _], _ => rfl
  have oN : FnOk P w K mg base L2.CX0 1 fN fdN ["self", "given"] (spInit CN) := ok_badn FN X.oN X.ec.noN
  have oT : FnOk P w K mg base L2.CX0 1 fT fdT ["self", "given"] (spInit CT) := ok_badt FT X.oT X.ec.noT
  refine F.ok scNeedT (fun vs H Q E h => ?_) (fun cdv A outer s H vs Q E hr h => ⟨_, pss_cons (ps_if (pt_not (pt_val (pe_call G1 (hr.mono (by decide)) rfl g1 F1.kp (bi_betw F1) .nil pass0 (pa_cons (pv 0) (pa_cons pe_int (pa_cons (pe_glob (v := .int 6) rfl hmost ⟨_, rfl⟩) pa_nil))))))
      (pss_one (ps_raise rfl (takes_of rfl rfl rfl rfl) (pmk_oex X.oN iN tN oN (hr.mono (by decide)) bN .nil (fun _ _ _ _ _ _ _ h => h.elim) rfl X.gN (pa_cons (pv 0) pa_nil)))) pss_nil)
    (pss_one (ps_if (pt_not (pt_val (pe_call G2 hr rfl g2 F2.kp (bi_are F2) .nil pass0 (pa_cons (pv 0) (pa_cons (pv 1) pa_nil)))))
      (pss_one (ps_raise rfl (takes_of rfl rfl rfl rfl) (pmk_oex X.oT iT tT oT (hr.mono (by decide)) bT .nil (fun _ _ _ _ _ _ _ h => h.elim) rfl X.gT (pa_cons (pv 1) pa_nil)))) pss_nil)), ?_⟩)
  · obtain ⟨v, u, dm, dt, rfl, _⟩ := h
    rfl
  · obtain ⟨v, u, dm, dt, rfl, hv, hu, hz, q1, q2⟩ := h
    refine i_seq (i_if (i_not (i_B (i_call ⟨_, rfl, v, dm, 1, 6, rfl, hv, _, rfl, ?_⟩))))
    cases hb : okN dm with
    | false =>
      have hb' : betw 1 6 dm = false := hb
      rw [hb']
      refine iteT ⟨v, rfl, by simp, mk_given (q1 hb)⟩
    | true =>
      have hb' : betw 1 6 dm = true := hb
      rw [hb']
      refine iteF (i_next ?_)
      dsimp only
      obtain ⟨e1, e2, e3⟩ := okN_is hb
      rw [e1] at hv
      obtain rfl := hv.int_eq
      obtain ⟨q3, q4⟩ := q2 hb
      refine i_if (i_not (i_B (i_call ⟨_, rfl, _, rfl, nOf dm, u, dt, rfl, hu, hz, by omega, fun H' e => ⟨_, rfl, ?_⟩⟩)))
      cases hc : areTiesB (nOf dm) dt with
      | false => exact iteT ⟨u, rfl, by simp, mk_given fun d H'' e'' h => q3 hc d H'' (e.trans e'') h⟩
      | true => exact iteF (i_next (q4 hc _ e))
end
end K1
namespace K1
open PySem PySem.Spec PyProof.Rows L2 LamX NdefX
def tiesOf : PyData → List Tie
  | .tuple ds => ds.map tieOf
  | _ => []
def lotOf : PyData → List Int
  | .tuple ds => ds.map intOf
  | _ => []
theorem are_is {n : Nat} {d : PyData} (h : areTiesB n d = true) : d = .tuple ((tiesOf d).map tieD) := by
  cases d with
  | tuple ds =>
    have h' : (ds.all (isTieB n) && (ascB plt (ds.map tieOf) && acyB n (ds.map tieOf))) = true := h
    rw [Bool.and_eq_true] at h'
    show PyData.tuple ds = .tuple ((ds.map tieOf).map tieD)
    rw [← ties_is h'.1]
  | _ => cases h
theorem ints_is {lo hi : Int} : ∀ {ds : List PyData}, ds.all (betw lo hi) = true → ds = (ds.map intOf).map .int
  | [], _ => rfl
  | d :: ds, h => by
    rw [List.all_cons, Bool.and_eq_true] at h
    have e : d = .int (intOf d) := by
      cases d with
      | int i => rfl
      | _ => cases h.1
    rw [List.map_cons, List.map_cons, ← e, ← ints_is h.2]
theorem plain_is {n : Nat} {d : PyData} (h : plainB n d = true) : d = lotD (lotOf d) := by
  cases d with
  | tuple ds =>
    have h' : (ds.all (betw 0 ((n : Int) - 1)) && ascB (fun x y : Int => decide (x < y)) (ds.map intOf)) = true := h
    rw [Bool.and_eq_true] at h'
    show PyData.tuple ds = .tuple ((ds.map intOf).map .int)
    rw [← ints_is h'.1]
  | _ => cases h
section
variable {P : Program} {w : World} {K : PySem.W.Frag} {mg : Str → Option Value} {base : Heap} {f f1 f2 f3 f4 : Addr} {fd fd1 fd2 fd3 fd4 : FuncData} {T : List (Addr × Str)} {CN CT : Addr}
theorem lenOk_are {n : Nat} {d : PyData} (h : areTiesB n d = true) (hz : lenOk d) : (tiesOf d).length ≤ 10000 := by
  cases d with
  | tuple ds =>
    have hz' : ds.length ≤ 10000 := hz
    show (ds.map tieOf).length ≤ 10000
    rw [List.length_map]
    exact hz'
  | _ => cases h
/-! ### closed_lots -/
def spCloLots (T : List (Addr × Str)) (CN CT : Addr) : Sp := fun vs H Q E => ∃ (v u : V) (dm dt : PyData), vs = [v, u] ∧ Dt H v dm ∧ Dt H u dt ∧ lenOk dt ∧
  (okN dm = false → ∀ d H', Same H H' → H' d = some (.xd [("given", v)]) → E (.ref CN) (some d) H') ∧
  (okN dm = true → (areTiesB (nOf dm) dt = false → ∀ d H', Same H H' → H' d = some (.xd [("given", u)]) → E (.ref CT) (some d) H') ∧
    (areTiesB (nOf dm) dt = true → Tabs T H ∧ ∀ p H' ys, Gr T H H' → H' p = some (.tup ys) → DtAll H' ys ((closedL (nOf dm) (tiesOf dt)).map lotD) → Q (.ref p) H'))
theorem scCloLots : FnScope ["many", "ties"] ["many", "ties"] (defScope sCloLots) := ⟨rfl, rfl, rfl, by decide +kernel, rfl, by decide +kernel, by decide +kernel⟩
theorem bi_clolots (F : FnP K "closed_lots" sCloLots f fd) : Binds K fd ["many", "ties"] [] := F.bindsN fun _ _ _ _ _ _ us hl => match us, hl with | [_, _], _ => rfl
/-- what the program's tops are -/
structure PrG (K : PySem.W.Frag) (mg : Str → Option Value) (CN CT : Addr) : Prop where
  gs : Gs K mg
  ex : ExG K mg CN CT
  fNeedT : ∃ f fd, mg "need_ties" = some (.ref f) ∧ FnP K "need_ties" sNeedT f fd
  fClosed : ∃ f fd, mg "closed_in" = some (.ref f) ∧ FnP K "closed_in" sClosed f fd
  fCloLots : ∃ f fd, mg "closed_lots" = some (.ref f) ∧ FnP K "closed_lots" sCloLots f fd
  fIsClos : ∃ f fd, mg "is_closed" = some (.ref f) ∧ FnP K "is_closed" sIsClos f fd
/-- all_lots and its table -/
def LotsG (K : PySem.W.Frag) (mg : Str → Option Value) (base : Heap) (T : List (Addr × Str)) : Prop := ∃ f fd c PT, mg "all_lots" = some (.ref f) ∧ FnP K "all_lots" sLots f fd ∧ LamD base mg fd T "all_lots.<locals>.<lambda>" c PT
theorem ok_clolots (F : FnP K "closed_lots" sCloLots f fd) (G : PrG K mg CN CT) (L : LotsG K mg base T) : FnOk P w K mg base (L2.CX P w) 6 f fd ["many", "ties"] (spCloLots T CN CT) := by
  obtain ⟨f1, fd1, g1, F1⟩ := G.fNeedT
  have G1 : FnOk P w K mg base (L2.CX P w) 5 f1 fd1 ["many", "ties"] (spNeedT CN CT) := ok_needt F1 G.gs G.ex
  obtain ⟨f2, fd2, g2, F2⟩ := G.fClosed
  obtain ⟨f3, fd3, c, PT, g3, F3, L3⟩ := L
  have G2 : FnOk P w K mg base L2.CX0 5 f2 fd2 ["many", "ties"] (spClosed T) := ok_closed F2 G.gs F3 g3 L3
  refine F.ok scCloLots (fun vs H Q E h => ?_) (fun cdv A outer s H vs Q E hr h => ⟨_, pss_cons (ps_expr (pe_call (E := E) G1 hr rfl g1 F1.kp (bi_needt F1) .nil (passes_call (takes_of rfl rfl rfl rfl) (fun _ _ _ _ h => h)) (pa_cons (pv 0) (pa_cons (pv 1) pa_nil))))
    (pss_one (ps_ret (pe_callTy call_tuple_of rfl G.gs.tuple (by rfl) (pa_cons (pe_call G2 hr rfl g2 F2.kp (bi_closed F2) .nil pass0 (pa_cons (pv 0) (pa_cons (pv 1) pa_nil))) pa_nil)))), ?_⟩)
  · obtain ⟨v, u, dm, dt, rfl, _⟩ := h
    rfl
  · obtain ⟨v, u, dm, dt, rfl, hv, hu, hz, q1, q2⟩ := h
    refine i_seq (i_drop (i_call ⟨_, rfl, _, rfl, v, u, dm, dt, rfl, hv, hu, hz, q1, fun hb => ⟨(q2 hb).1, fun hc H' e => ?_⟩⟩))
    dsimp only
    obtain ⟨hT, q⟩ := (q2 hb).2 hc
    obtain ⟨e1, e2, e3⟩ := okN_is hb
    rw [e1] at hv
    obtain rfl := hv.int_eq
    have hu' := hu
    rw [are_is hc] at hu'
    refine i_ret (i_CB (i_cons (i_call ⟨_, rfl, _, rfl, nOf dm, u, tiesOf dt, rfl, by omega, hu'.same e, lenOk_are hc hz, hT.ext e, fun p H2 ys g h d => ?_⟩)))
    refine ⟨p, ys, rfl, .inl ⟨SqL.of h, fun l hl => ?_⟩⟩
    have g' : Gr T H H2 := ⟨(Same.ext e).trans g.ext, g.tab⟩
    exact q l _ ys (g'.same (same_upd hl)) upd_same (d.same (same_upd hl))
/-! ### is_closed -/
def spIsClos (CN CT : Addr) : Sp := fun vs H Q E => ∃ (v u x : V) (dm dt dx : PyData), vs = [v, u, x] ∧ Dt H v dm ∧ Dt H u dt ∧ Dt H x dx ∧ lenOk dt ∧ lenOk dx ∧
  (okN dm = false → ∀ d H', Same H H' → H' d = some (.xd [("given", v)]) → E (.ref CN) (some d) H') ∧
  (okN dm = true → (areTiesB (nOf dm) dt = false → ∀ d H', Same H H' → H' d = some (.xd [("given", u)]) → E (.ref CT) (some d) H') ∧
    (areTiesB (nOf dm) dt = true → ∀ H', Same H H' → Q (.bl (plainB (nOf dm) dx && closedB (tiesOf dt) (lotOf dx))) H'))
theorem scIsClos : FnScope ["many", "ties", "value"] ["many", "ties", "value"] (defScope sIsClos) := ⟨rfl, rfl, rfl, by decide +kernel, rfl, by decide +kernel, by decide +kernel⟩
theorem bi_isclos (F : FnP K "is_closed" sIsClos f fd) : Binds K fd ["many", "ties", "value"] [] := F.bindsN fun _ _ _ _ _ _ us hl => match us, hl with | [_, _, _], _ => rfl
theorem ok_isclos (F : FnP K "is_closed" sIsClos f fd) (G : PrG K mg CN CT) : FnOk P w K mg base (L2.CX P w) 6 f fd ["many", "ties", "value"] (spIsClos CN CT) := by
  obtain ⟨f1, fd1, g1, F1⟩ := G.fNeedT
  have G1 : FnOk P w K mg base (L2.CX P w) 5 f1 fd1 ["many", "ties"] (spNeedT CN CT) := ok_needt F1 G.gs G.ex
  obtain ⟨f2, fd2, g2, F2, G2⟩ := G.gs.plain
  obtain ⟨f3, fd3, g3, F3, G3⟩ := G.gs.closin
  refine F.ok scIsClos (fun vs H Q E h => ?_) (fun cdv A outer s H vs Q E hr h => ⟨_, pss_cons (ps_expr (pe_call (E := E) G1 hr rfl g1 F1.kp (bi_needt F1) .nil (passes_call (takes_of rfl rfl rfl rfl) (fun _ _ _ _ h => h)) (pa_cons (pv 0) (pa_cons (pv 1) pa_nil))))
    (pss_one (ps_ret (pe_and (pe_call G2 (hr.mono (by decide)) rfl g2 F2.kp (bi_plain F2) .nil pass0 (pa_cons (pv 0) (pa_cons (pv 2) pa_nil))) (pe_one (pe_call G3 (hr.mono (by decide)) rfl g3 F3.kp (bi_closin F3) .nil pass0 (pa_cons (pv 1) (pa_cons (pv 2) pa_nil))))))), ?_⟩)
  · obtain ⟨v, u, x, dm, dt, dx, rfl, _⟩ := h
    rfl
  · obtain ⟨v, u, x, dm, dt, dx, rfl, hv, hu, hx, hz, hz2, q1, q2⟩ := h
    refine i_seq (i_drop (i_call ⟨_, rfl, _, rfl, v, u, dm, dt, rfl, hv, hu, hz, q1, fun hb => ⟨(q2 hb).1, fun hc H' e => ?_⟩⟩))
    dsimp only
    have q := (q2 hb).2 hc
    obtain ⟨e1, e2, e3⟩ := okN_is hb
    rw [e1] at hv
    obtain rfl := hv.int_eq
    have hu' := hu
    rw [are_is hc] at hu'
    refine i_ret (i_and (i_call ⟨_, rfl, _, rfl, nOf dm, x, dx, rfl, hx.same e, hz2, fun H2 e4 => ⟨_, rfl, ?_⟩⟩))
    cases hp : plainB (nOf dm) dx with
    | false =>
      rw [hp, Bool.false_and] at q
      exact iteF (q _ (e.trans e4))
    | true =>
      rw [hp, Bool.true_and] at q
      have hx' := hx
      rw [plain_is hp] at hx'
      exact iteT (i_call ⟨_, rfl, _, rfl, u, x, tiesOf dt, lotOf dx, rfl, hu'.same (e.trans e4), hx'.same (e.trans e4), lenOk_are hc hz, fun H3 e5 => q _ ((e.trans e4).trans e5)⟩)
end
end K1
namespace K1
open PySem PySem.Spec PyProof.Rows L2 LamX NdefX
/-! ### the law's state -/
abbrev kCells : Key := .inr "cells"
abbrev kLefts : Key := .inr "lefts"
abbrev kAt : Key := .inr "at"
abbrev kRoom : Key := .inr "room"
def stK (lc ll : Addr) (at_ : Int) : List (Key × V) := [(kCells, .ref lc), (kLefts, .ref ll), (kAt, .int at_), (kRoom, .int 0)]
theorem kne1 : ¬ kCells = kLefts := by decide
theorem kne2 : ¬ kCells = kAt := by decide
theorem kne3 : ¬ kLefts = kAt := by decide
theorem stK_cells (lc ll : Addr) (a : Int) : valV (stK lc ll a) kCells = some (.ref lc) := valV_pos rfl
theorem stK_lefts (lc ll : Addr) (a : Int) : valV (stK lc ll a) kLefts = some (.ref ll) := (valV_neg kne1).trans (valV_pos rfl)
theorem stK_at (lc ll : Addr) (a : Int) : valV (stK lc ll a) kAt = some (.int a) := (valV_neg kne2).trans ((valV_neg kne3).trans (valV_pos rfl))
theorem stK_put (lc ll : Addr) (a b : Int) : putK (stK lc ll a) kAt (.int b) = stK lc ll b := by
  rfl
structure StA (H : Hp) (p lc ll : Addr) (b : Int) : Prop where
  ex : ∃ (cs ls : List Int) (a : Int), H p = some (.dK (stK lc ll a)) ∧ H lc = some (.lst (cs.map V.int)) ∧ H ll = some (.lst (ls.map V.int)) ∧ cs.length = ls.length ∧ 0 < cs.length ∧ cs.length ≤ 100 ∧ 0 ≤ a ∧ a ≤ b
  ne : lc ≠ ll
/-- all but the state's dict and its numbers stays -/
def Chg (p ll : Addr) (H H' : Hp) : Prop := ∀ b o, H b = some o → b ≠ p → b ≠ ll → H' b = some o
theorem Chg.of {p ll : Addr} {H H' : Hp} (e : Same H H') : Chg p ll H H' := fun b o h _ _ => e b o h
theorem Chg.refl (p ll : Addr) (H : Hp) : Chg p ll H H := fun _ _ h _ _ => h
theorem Chg.trans {p ll : Addr} {H H1 H2 : Hp} (a : Chg p ll H H1) (b : Chg p ll H1 H2) : Chg p ll H H2 := fun c o h n1 n2 => b c o (a c o h n1 n2) n1 n2
theorem StA.same {H H' : Hp} {p lc ll : Addr} {b : Int} (s : StA H p lc ll b) (e : Same H H') : StA H' p lc ll b := by
  obtain ⟨⟨cs, ls, a, h1, h2, h3, r⟩, ne⟩ := s
  exact ⟨⟨cs, ls, a, e _ _ h1, e _ _ h2, e _ _ h3, r⟩, ne⟩
theorem StA.mono {H : Hp} {p lc ll : Addr} {b c : Int} (s : StA H p lc ll b) (h : b ≤ c) : StA H p lc ll c := by
  obtain ⟨⟨cs, ls, a, h1, h2, h3, h4, h5, h6, h7, h8⟩, ne⟩ := s
  exact ⟨⟨cs, ls, a, h1, h2, h3, h4, h5, h6, h7, by omega⟩, ne⟩
section
variable {P : Program} {w : World} {K : PySem.W.Frag} {mg : Str → Option Value} {base : Heap} {f f1 f2 f3 f4 : Addr} {fd fd1 fd2 fd3 fd4 : FuncData} {T : List (Addr × Str)}
/-! ### _law_mixed -/
def spMixed : Sp := fun vs H Q _ => ∃ c k : Int, vs = [.int c, .int k] ∧ 0 ≤ k ∧ k ≤ 1000000 ∧ ∀ r : Int, 0 ≤ r → r < 2147483629 → Q (.int r) H
theorem scMixed : FnScope ["_law_cell", "_law_k"] ["_law_cell", "_law_k"] (defScope sMixed) := ⟨rfl, rfl, rfl, by decide +kernel, rfl, by decide +kernel, by decide +kernel⟩
theorem bi_mixed (F : FnP K "_law_mixed" sMixed f fd) : Binds K fd ["_law_cell", "_law_k"] [] := F.bindsN fun _ _ _ _ _ _ us hl => match us, hl with | [_, _], _ => rfl
theorem ok_mixed (F : FnP K "_law_mixed" sMixed f fd) (gi : mg "int" = none) : FnOk P w K mg base L2.CX0 1 f fd ["_law_cell", "_law_k"] spMixed := by
  refine F.ok scMixed (fun vs H Q E h => ?_) (fun cdv A outer s H vs Q E hr h => ⟨_, PSs.nox (pss_cons (ps_set (i := 0) scMixed.nd rfl (.inl rfl) (pe_op op_mod (pe_callTy call_int1 rfl gi (by rfl) (pa_cons (pv 0) pa_nil)) pe_int))
    (pss_one (ps_ret (pe_op op_mod (pe_op op_mul (pe_op op_mod (pe_op op_add (pe_op op_add (pe_op op_mul (pv 0) (pe_op op_add pe_int (pe_op op_mul (pe_op op_mul pe_int (pv 1)) (pv 1)))) (pe_op op_mul pe_int (pv 1))) pe_int) pe_int) pe_int) pe_int)))), ?_⟩)
  · obtain ⟨c, k, rfl, _⟩ := h
    rfl
  · obtain ⟨c, k, rfl, h0, h1, q⟩ := h
    have hM : (0 : Int) < 2147483647 := by decide
    have m1 := Int.emod_nonneg c (show (2147483647 : Int) ≠ 0 by decide)
    have m2 := Int.emod_lt_of_pos c hM
    refine i_seq (i_asg (i_op (i_CB ⟨_, rfl, .inl ⟨c, rfl, c, 2147483647, rfl, rfl, hM, ?_⟩⟩)))
    dsimp only
    generalize c % 2147483647 = x at m1 m2 ⊢
    have hM2 : (0 : Int) < 2147483629 := by decide
    have c1 : CMul 2 k := .inl ⟨by decide, by decide⟩
    have c2 : CMul (2 * k) k := .inl ⟨by omega, by omega⟩
    have c3 : CMul x (48271 + 2 * k * k) := .inl ⟨by omega, by omega⟩
    have c4 : CMul 69621 k := .inl ⟨by decide, by decide⟩
    have c5 : CMul ((x * (48271 + 2 * k * k) + 69621 * k + 11) % 2147483647) 69621 := .inr ⟨by decide, by decide⟩
    refine i_ret ⟨_, rfl, _, rfl, _, _, rfl, rfl, c1, _, rfl, _, _, rfl, rfl, c2, _, _, rfl, rfl, _, _, rfl, rfl, c3, _, rfl, _, _, rfl, rfl, c4, _, _, rfl, rfl, _, _, rfl, rfl, _, _, rfl, rfl, hM, _, _, rfl, rfl, c5, _, _, rfl, rfl, hM2, q _ (Int.emod_nonneg _ (by decide)) (Int.emod_lt_of_pos _ hM2)⟩
/-! ### _law_begin -/
theorem i_pair {v : V} {tv : TE} {r : List (TE × TE)} {σ : L2.St} {H : Hp} {Q : List (V × V) → Hp → Prop} (h : tv σ H fun y H2 => tPairs r σ H2 fun ps H3 => Q ((v, y) :: ps) H3) : tPairs ((tC v, tv) :: r) σ H Q := h
def spBegin (K : PySem.W.Frag) : Sp := fun vs H Q _ => ∃ (a : Addr) (ns : List Int), vs = [.ref a] ∧ SqL K H a (ns.map V.int) ∧ ns.length ≤ 63 ∧ ∀ p lc ll H', Same H H' → H p = none → H ll = none → StA H' p lc ll 0 → Q (.ref p) H'
abbrev nBegin : List Str := ["_law_script", "_law_cells", "_law_cell"]
theorem scBegin : FnScope nBegin ["_law_script"] (defScope sBegin) := ⟨rfl, rfl, rfl, by decide +kernel, rfl, by decide +kernel, by decide +kernel⟩
theorem bi_begin (F : FnP K "_law_begin" sBegin f fd) : Binds K fd ["_law_script"] [] := F.bindsN fun _ _ _ _ _ _ us hl => match us, hl with | [_], _ => rfl
theorem stK_merge (lc ll : Addr) : mergeK [] [(kCells, V.ref lc), (kLefts, V.ref ll), (kAt, V.int 0), (kRoom, V.int 0)] = stK lc ll 0 := by
  rfl
theorem ok_begin (F : FnP K "_law_begin" sBegin f fd) (gl : mg "list" = none) : FnOk P w K mg base L2.CX0 1 f fd ["_law_script"] (spBegin K) := by
  refine F.ok scBegin (fun vs H Q E h => ?_) (fun cdv A outer s H vs Q E hr h => ⟨_, PSs.nox (pss_cons (ps_set (i := 1) scBegin.nd rfl (.inl rfl) (pe_ifExp (pt_cmpR (op_neD hr.units) (pv 0) (pe_lst pa_nil) rfl) (pe_callTy call_list_of rfl gl (by rfl) (pa_cons (pv 0) pa_nil)) (pe_lst (pa_cons pe_int pa_nil))))
    (pss_one (ps_ret (pe_disp (pps_cons pe_str (pv 1) (pps_cons pe_str (pe_lc (own := [("_law_cell", 2)]) (te := tIf (tTest (tOp (rI0 fun i j => .bl (decide (j ≤ i))) (tVar 2) (tOp (rI CPow fun i j => .int (i ^ j.toNat)) (tC (.int 10)) (tC (.int 18))))) (tVar 2) (tC (.int 0))) rfl scBegin.nd (pi_list (pv 1)) (blkOk_by (N := nBegin) (sc := defScope sBegin) (by decide +kernel))
      (fun _ _ _ _ _ => pg1 2 scBegin.nd rfl rfl) (fun _ _ _ _ _ => pts_nil) (fun _ _ _ _ _ => pe_ifExp (pt_cmpR op_ge (pv 2) (pe_op op_pow pe_int pe_int) rfl) (pv 2) pe_int)) (pps_cons pe_str pe_int (pps_cons pe_str pe_int pps_nil)))) rfl rfl (by simp) (by decide))))), ?_⟩)
  · obtain ⟨a, ns, rfl, _⟩ := h
    rfl
  · obtain ⟨a, ns, rfl, hS, hn, q⟩ := h
    have hsz : ∀ n : Nat, n ≤ 100000 → n ≤ sizeLine := fun n hn => by
      rw [sizeLine_eq]
      omega
    -- behind the cells
    have rest : ∀ (lc : Addr) (cs : List Int) (H1 : Hp), Same H H1 → H1 lc = some (.lst (cs.map V.int)) → 0 < cs.length → cs.length ≤ 100 →
        (tDisp [(tC (.str "cells"), tVar 1), (tC (.str "lefts"), tLc (iList K (tVar 1)) (gName 2) tYes (tIf (tTest (tOp (rI0 fun i j => .bl (decide (j ≤ i))) (tVar 2) (tOp (rI CPow fun i j => .int (i ^ j.toNat)) (tC (.int 10)) (tC (.int 18))))) (tVar 2) (tC (.int 0))) [2]), (tC (.str "at"), tC (.int 0)), (tC (.str "room"), tC (.int 0))])
          [some (.ref a), some (.ref lc), none] H1 Q := by
      intro lc cs H1 e1 hlc h0 h100 p hp
      have e2 : Same H1 (upd H1 p (.dK [])) := same_upd hp
      have hdp : (upd H1 p (.dK [])) p = some (.dK []) := upd_same
      generalize upd H1 p (.dK []) = H2 at e2 hdp ⊢
      refine i_pair ⟨_, rfl, i_pair (lcLS (Cnd := fun H3 => Same H2 H3) (enc := .int) (ds := cs) (G := fun c => some (.int (if (10 : Int) ^ 18 ≤ c then c else 0))) (fun R hR => ⟨_, rfl, hR lc _ H2 (Same.refl _) (e2 _ _ hlc) (.ints cs)⟩) (fun d e h => ?_) (by omega)
        (fun H3 x c H' e3 _ e4 hx => .yes fun R hs => ⟨rfl, ?_⟩) fun H3 ll H4 ys e3 hll e4 h3 h4 => ?_)⟩
      · cases h
        rfl
      · obtain rfl := hx.int_eq
        refine ⟨_, rfl, _, _, rfl, rfl, ⟨by decide, by decide, by decide⟩, _, _, rfl, rfl, _, rfl, ?_⟩
        have eT : ((18 : Int).toNat) = 18 := rfl
        rw [eT]
        by_cases hc : (10 : Int) ^ 18 ≤ c
        · rw [decide_eq_true hc]
          refine iteT ⟨_, rfl, hs _ rfl _ _ (Same.refl _) ?_⟩
          rw [if_pos hc]
          exact .int c
        · rw [decide_eq_false hc]
          refine iteF (hs _ rfl _ _ (Same.refl _) ?_)
          rw [if_neg hc]
          exact .int 0
      · rw [fm_some] at h4
        have e5 : cs.map (fun c => PyData.int (if (10 : Int) ^ 18 ≤ c then c else 0)) = (cs.map fun c => if (10 : Int) ^ 18 ≤ c then c else 0).map .int := by
          rw [List.map_map]
          rfl
        rw [e5] at h4
        obtain rfl := h4.ints_eq
        have es := e3.trans e4
        have hp4 := es _ _ hdp
        refine ⟨hp4, [(kCells, .ref lc), (kLefts, .ref ll), (kAt, .int 0), (kRoom, .int 0)], rfl, by simp, ?_⟩
        rw [stK_merge]
        have hlp : lc ≠ p := ne_of_none hlc hp
        have hllp : ll ≠ p := fun z => by
          rw [z] at h3
          rw [hp4] at h3
          cases h3
        have hll2 : H2 ll = none := by
          cases q : H2 ll with
          | none => rfl
          | some o =>
            rw [e3 _ _ q] at hll
            cases hll
        have hnl : lc ≠ ll := ne_of_none (e2 _ _ hlc) hll2
        have hl4 := es _ _ (e2 _ _ hlc)
        refine q p lc ll _ (fun b o eb => ?_) ?_ ?_ ⟨⟨cs, cs.map (fun c => if (10 : Int) ^ 18 ≤ c then c else 0), 0, upd_same, ?_, ?_, by rw [List.length_map], h0, h100, Int.le_refl _, Int.le_refl _⟩, hnl⟩
        · have n1 : b ≠ p := ne_of_none (e1 _ _ eb) hp
          rw [upd_ne n1]
          exact es _ _ (e2 _ _ (e1 _ _ eb))
        · exact e1.free hp
        · exact e1.free (e2.free hll2)
        · rw [upd_ne hlp]
          exact hl4
        · rw [upd_ne hllp]
          exact h3
    refine i_seq (i_asg ⟨_, rfl, hsz _ (by simp), fun p2 hp2 => ?_⟩)
    have e0 : Same H (upd H p2 (.lst [])) := same_upd hp2
    have hS2 : SqL K (upd H p2 (.lst [])) a (ns.map V.int) := Same.seq e0 hS
    refine ⟨.list (ns.map .int), .list [], .lst hS2 (DtAll.dp (.ints ns)), .lst (SqL.of upd_same) .nil, shaped_ints ns, shaped_ints [], _, rfl, ?_⟩
    rw [eqv_nil]
    cases hE : ns.isEmpty with
    | true =>
      refine iteF ⟨hsz _ (by simp), fun lc hlc => ?_⟩
      dsimp only
      exact i_ret (rest lc [0] _ (e0.trans (same_upd hlc)) upd_same (by decide) (by decide))
    | false =>
      refine iteT (i_CB ⟨_, rfl, a, ns.map V.int, rfl, .inl hS2, fun lc hlc => ?_⟩)
      dsimp only
      have hpos : 0 < ns.length := by
        cases ns with
        | nil => cases hE
        | cons _ _ => simp
      exact i_ret (rest lc ns _ (e0.trans (same_upd hlc)) upd_same hpos (by omega))
end
end K1
namespace K1
open PySem PySem.Spec PyProof.Rows L2 LamX NdefX
section
variable {P : Program} {w : World} {K : PySem.W.Frag} {mg : Str → Option Value} {base : Heap} {f f1 f2 f3 f4 : Addr} {fd fd1 fd2 fd3 fd4 : FuncData} {T : List (Addr × Str)}
/-! ### _law_draw -/
def spDraw : Sp := fun vs H Q _ => ∃ (p lc ll : Addr) (many b : Int), vs = [.ref p, .int many] ∧ 0 < many ∧ many ≤ 100 ∧ StA H p lc ll b ∧ b ≤ 10000 ∧ ∀ (r : Int) H', 0 ≤ r → r < many → Chg p ll H H' → StA H' p lc ll (b + 1) → Q (.int r) H'
abbrev nDraw : List Str := ["_law_state", "_law_many", "_law_at", "_law_place", "_law_left", "_law_number"]
theorem scDraw : FnScope nDraw ["_law_state", "_law_many"] (defScope sDraw) := ⟨rfl, rfl, rfl, by decide +kernel, rfl, by decide +kernel, by decide +kernel⟩
theorem bi_draw (F : FnP K "_law_draw" sDraw f fd) : Binds K fd ["_law_state", "_law_many"] [] := F.bindsN fun _ _ _ _ _ _ us hl => match us, hl with | [_, _], _ => rfl
theorem atI_ints {l : List Int} {i : Int} (h0 : 0 ≤ i) (h1 : i < (l.length : Int)) : ∃ x : Int, atI (l.map V.int) i = some (.int x) ∧ ixN (l.map V.int).length i = some i.toNat ∧ i.toNat < l.length := by
  have h2 : i.toNat < l.length := by omega
  have e : ixN (l.map V.int).length i = some i.toNat := by
    unfold ixN
    rw [if_pos h0, if_pos (by rw [List.length_map]; exact h1)]
  refine ⟨l[i.toNat], ?_, e, h2⟩
  unfold atI
  rw [e]
  show (l.map V.int)[i.toNat]? = _
  rw [List.getElem?_map, List.getElem?_eq_getElem h2]
  rfl
theorem dg_at {H : Hp} {p lc ll : Addr} {a : Int} (h : H p = some (.dK (stK lc ll a))) : DGet H p (.str "at") (some (.int a)) := by
  have := DGet.k (k := kAt) h
  rwa [stK_at] at this
theorem dg_cells {H : Hp} {p lc ll : Addr} {a : Int} (h : H p = some (.dK (stK lc ll a))) : DGet H p (.str "cells") (some (.ref lc)) := by
  have := DGet.k (k := kCells) h
  rwa [stK_cells] at this
theorem dg_lefts {H : Hp} {p lc ll : Addr} {a : Int} (h : H p = some (.dK (stK lc ll a))) : DGet H p (.str "lefts") (some (.ref ll)) := by
  have := DGet.k (k := kLefts) h
  rwa [stK_lefts] at this
theorem ok_draw (F : FnP K "_law_draw" sDraw f fd) (F1 : FnP K "_law_mixed" sMixed f1 fd1) (g1 : mg "_law_mixed" = some (.ref f1)) (gi : mg "int" = none) (gl : mg "len" = none) : FnOk P w K mg base L2.CX0 2 f fd ["_law_state", "_law_many"] spDraw := by
  have G1 : FnOk P w K mg base L2.CX0 1 f1 fd1 ["_law_cell", "_law_k"] spMixed := ok_mixed F1 gi
  refine F.ok scDraw (fun vs H Q E h => ?_) (fun cdv A outer s H vs Q E hr h => ⟨_, PSs.nox (pss_cons (ps_set (i := 2) scDraw.nd rfl (.inl rfl) (pe_dget (hu_of hr) (pv 0) pe_str (fun _ _ => rfl)))
    (pss_cons (ps_dput (hu_of hr) (pv 0) pe_str (pe_op op_add (pv 2) pe_int) rfl)
    (pss_cons (ps_set (i := 3) scDraw.nd rfl (.inl rfl) (pe_op op_mod (pe_callTy call_int1 rfl gi (by rfl) (pa_cons (pv 2) pa_nil)) (pe_callB call_len rfl gl (by rfl) (pa_cons (pe_dget (hu_of hr) (pv 0) pe_str (fun _ _ => rfl)) pa_nil))))
    (pss_cons (ps_set (i := 4) scDraw.nd rfl (.inl rfl) (pe_ix ix_list (pe_dget (hu_of hr) (pv 0) pe_str (fun _ _ => rfl)) (pv 3) (fun _ _ => rfl)))
    (pss_cons (ps_if (pt_cmpR op_gt (pv 4) pe_int rfl) (pss_cons (ps_asg (pe_op op_fdiv (pv 4) (pv 1)) (pg_sub (pe_dget (hu_of hr) (pv 0) pe_str (fun _ _ => rfl)) (pv 3) set_list))
      (pss_one (ps_ret (pe_op op_mod (pe_callTy call_int1 rfl gi (by rfl) (pa_cons (pv 4) pa_nil)) (pv 1))))) pss_nil)
    (pss_cons (ps_set (i := 5) scDraw.nd rfl (.inl rfl) (pe_call G1 (hr.mono (by decide)) rfl g1 F1.kp (bi_mixed F1) .nil pass0 (pa_cons (pe_call G1 (hr.mono (by decide)) rfl g1 F1.kp (bi_mixed F1) .nil pass0 (pa_cons (pe_ix ix_list (pe_dget (hu_of hr) (pv 0) pe_str (fun _ _ => rfl)) (pv 3) (fun _ _ => rfl)) (pa_cons (pv 2) pa_nil))) (pa_cons (pe_op op_add pe_int (pv 2)) pa_nil))))
    (pss_one (ps_ret (pe_op op_mod (pe_op op_fdiv (pe_callTy call_int1 rfl gi (by rfl) (pa_cons (pe_op op_add (pe_op op_mul (pv 5) pe_int) (pe_call G1 (hr.mono (by decide)) rfl g1 F1.kp (bi_mixed F1) .nil pass0 (pa_cons (pv 5) (pa_cons (pe_op op_add pe_int (pv 2)) pa_nil)))) pa_nil)) pe_int) (pv 1)))))))))), ?_⟩)
  · obtain ⟨p, lc, ll, many, b, rfl, _⟩ := h
    rfl
  · obtain ⟨p, lc, ll, many, b, rfl, m0, m1, ⟨⟨cs, ls, a, hp, hc, hl, hcl, h0, h100, a0, ab⟩, hne⟩, hb, q⟩ := h
    refine i_seq (i_asg ⟨_, rfl, p, _, rfl, dg_at hp, ?_⟩)
    dsimp only
    refine i_seq ⟨_, rfl, _, _, rfl, rfl, _, rfl, p, _, rfl, DPut.k (k := kAt) hp (by rw [sizeLine_eq]; simp [stK]), ?_⟩
    rw [stK_put]
    dsimp only
    have nlp : lc ≠ p := ne_of hc hp (fun z => nomatch z)
    have nllp : ll ≠ p := ne_of hl hp (fun z => nomatch z)
    have e1 : Chg p ll H (upd H p (.dK (stK lc ll (a + 1)))) := fun c o h n1 _ => by
      rw [upd_ne n1]
      exact h
    have hp1 : (upd H p (.dK (stK lc ll (a + 1)))) p = some (.dK (stK lc ll (a + 1))) := upd_same
    have hc1 : (upd H p (.dK (stK lc ll (a + 1)))) lc = some (.lst (cs.map V.int)) := by
      rw [upd_ne nlp]
      exact hc
    have hl1 : (upd H p (.dK (stK lc ll (a + 1)))) ll = some (.lst (ls.map V.int)) := by
      rw [upd_ne nllp]
      exact hl
    generalize upd H p (.dK (stK lc ll (a + 1))) = H1 at e1 hp1 hc1 hl1 ⊢
    have hn : (0 : Int) < (cs.length : Int) := by omega
    refine i_seq (i_asg (i_op (i_CB ⟨_, rfl, .inl ⟨a, rfl, _, rfl, p, _, rfl, dg_cells hp1, .ref lc, (cs.map V.int).length, rfl, .inl ⟨_, SqL.of hc1, rfl⟩, a, _, rfl, rfl, by rw [List.length_map]; exact hn, ?_⟩⟩)))
    dsimp only
    rw [List.length_map]
    have p0 := Int.emod_nonneg a (show (cs.length : Int) ≠ 0 by omega)
    have p1 := Int.emod_lt_of_pos a hn
    generalize a % (cs.length : Int) = pl at p0 p1 ⊢
    obtain ⟨x, hx, hxi, hxl⟩ := atI_ints (l := ls) p0 (by omega)
    obtain ⟨y, hy, hyi, hyl⟩ := atI_ints (l := cs) p0 p1
    refine i_seq (i_asg ⟨_, rfl, p, _, rfl, dg_lefts hp1, _, rfl, ll, _, pl, _, rfl, rfl, SqL.of hl1, hx, ?_⟩)
    dsimp only
    refine i_seq (i_if ⟨_, rfl, x, 0, rfl, rfl, _, rfl, ?_⟩)
    by_cases hx0 : 0 < x
    · rw [decide_eq_true hx0]
      refine iteT (i_seq (i_asg ⟨_, rfl, _, rfl, x, many, rfl, rfl, ⟨m0, by omega⟩, _, rfl, p, _, rfl, dg_lefts hp1, _, rfl, ll, _, pl, _, rfl, rfl, hl1, hxi, ?_⟩))
      dsimp only
      refine i_ret (i_op (i_CB ⟨_, rfl, .inl ⟨x, rfl, _, rfl, x, many, rfl, rfl, m0, q _ _ (Int.emod_nonneg _ (by omega)) (Int.emod_lt_of_pos _ m0) (fun c o h n1 n2 => ?_) ⟨⟨cs, ls.set pl.toNat (x / many), a + 1, ?_, ?_, ?_, ?_, h0, h100, by omega, by omega⟩, hne⟩⟩⟩))
      · rw [upd_ne n2]
        exact e1 c o h n1 n2
      · rw [upd_ne (Ne.symm nllp)]
        exact hp1
      · rw [upd_ne hne]
        exact hc1
      · rw [upd_same, List.map_set]
      · rw [List.length_set]
        exact hcl
    · rw [decide_eq_false hx0]
      refine iteF (i_next ?_)
      dsimp only
      have r0 : ∀ r : Int, (r * 2147483647 : Int) = r * 2147483647 := fun _ => rfl
      refine i_seq (i_asg (i_call (i_cons (i_call ⟨_, rfl, p, _, rfl, dg_cells hp1, _, rfl, lc, _, pl, _, rfl, rfl, SqL.of hc1, hy, _, rfl, y, a, rfl, a0, by omega, fun r1 _ _ => ?_⟩))))
      refine ⟨_, rfl, 40, a, rfl, rfl, r1, 40 + a, rfl, by omega, by omega, fun r2 z0 z1 => ?_⟩
      dsimp only
      have cm : CMul r2 2147483647 := .inr ⟨by decide, by decide⟩
      refine i_ret (i_op (i_op (i_CB (i_cons (i_op (i_op ⟨_, rfl, _, _, rfl, rfl, cm, i_call ⟨_, rfl, _, rfl, 7, a, rfl, rfl, r2, 7 + a, rfl, by omega, by omega, fun r3 _ _ => ?_⟩⟩)))))) 
      refine ⟨_, _, rfl, rfl, .inl ⟨_, rfl, ?_⟩⟩
      refine ⟨_, _, rfl, rfl, ⟨by decide, by decide⟩, _, rfl, _, many, rfl, rfl, m0, q _ _ (Int.emod_nonneg _ (by omega)) (Int.emod_lt_of_pos _ m0) e1 ⟨⟨cs, ls, a + 1, hp1, hc1, hl1, hcl, h0, h100, by omega, by omega⟩, hne⟩⟩
end
end K1
namespace K1
open PySem PySem.Spec PyProof.Rows L2 LamX NdefX
section
variable {P : Program} {w : World} {K : PySem.W.Frag} {mg : Str → Option Value} {base : Heap} {f f1 f2 f3 f4 : Addr} {fd fd1 fd2 fd3 fd4 : FuncData} {T : List (Addr × Str)}
/-! ### _law_lots -/
def spLLots : Sp := fun vs H Q _ => ∃ n : Nat, vs = [.int (n : Int)] ∧ n ≤ 10 ∧ ∀ p H' ys, Same H H' → H' p = some (.lst ys) → DtAll H' ys ((lots n).map lotD) → Q (.ref p) H'
abbrev nLLots : List Str := ["_law_many", "_law_rows", "_law_one", "_law_row", "_law_size"]
theorem scLLots : FnScope nLLots ["_law_many"] (defScope sLLots) := ⟨rfl, rfl, rfl, by decide +kernel, rfl, by decide +kernel, by decide +kernel⟩
theorem bi_llots (F : FnP K "_law_lots" sLLots f fd) : Binds K fd ["_law_many"] [] := F.bindsN fun _ _ _ _ _ _ us hl => match us, hl with | [_], _ => rfl
theorem ok_llots (F : FnP K "_law_lots" sLLots f fd) (G : Gs K mg) : FnOk P w K mg base L2.CX0 1 f fd ["_law_many"] spLLots := by
  refine F.ok scLLots (fun vs H Q E h => ?_) (fun cdv A outer s H vs Q E hr h => ⟨_, PSs.nox (pss_cons (ps_set (i := 1) scLLots.nd rfl (.inl rfl) (pe_lst (pa_cons (pe_tup pa_nil) pa_nil)))
    (pss_cons (ps_for PassesOwn.never rfl (pi_range1 rfl G.range (pa_cons (pv 0) pa_nil)) (pg_name (i := 2) scLLots.nd rfl (.inr rfl) (.inl rfl))
      (pss_one (ps_set (i := 1) scLLots.nd rfl (.inl rfl) (pe_op op_cat (pv 1) (pe_lc (own := [("_law_row", 3)]) (te := tOp (rCatA K) (tVar 3) (tTup (tCons (tVar 2) tNil))) rfl scLLots.nd (pi_list (pv 1)) (blkOk_by (N := nLLots) (sc := defScope sLLots) (by decide +kernel))
        (fun _ _ _ _ _ => pg1 3 scLLots.nd rfl rfl) (fun _ _ _ _ _ => pts_nil) (fun _ _ _ _ _ => pe_op op_catA (pv 3) (pe_tup (pa_cons (pv 2) pa_nil))))))))
    (pss_one (ps_ret (pe_lc (own := [("_law_size", 4), ("_law_row", 3)]) (te := tVar 3) rfl scLLots.nd (pi_list (pe_callB (cr_sortD (enc := keyD) hr.units) rfl G.sorted (by rfl) (pa_cons
        (pe_lc (own := [("_law_row", 3)]) (te := tTup (tCons (tCB (fun xs H Q => ∃ x n, xs = [x] ∧ LenV K x H n ∧ Q (.int n) H) (tCons (tVar 3) tNil)) (tCons (tVar 3) tNil))) rfl scLLots.nd (pi_list (pv 1)) (blkOk_by (N := nLLots) (sc := defScope sLLots) (by decide +kernel)) (fun _ _ _ _ _ => pg1 3 scLLots.nd rfl rfl) (fun _ _ _ _ _ => pts_nil)
          (fun _ _ _ _ _ => pe_tup (pa_cons (pe_callB call_len rfl G.len (by rfl) (pa_cons (pv 3) pa_nil)) (pa_cons (pv 3) pa_nil)))) pa_nil)))
      (blkOk_by (N := nLLots) (sc := defScope sLLots) (by decide +kernel)) (fun _ _ _ _ _ => pg2 K 4 3 rfl scLLots.nd rfl rfl rfl rfl rfl) (fun _ _ _ _ _ => pts_nil) (fun _ _ _ _ _ => pv 3)))))), ?_⟩)
  · obtain ⟨n, rfl, _⟩ := h
    rfl
  · obtain ⟨n, rfl, hn, q⟩ := h
    have hsz : ∀ n : Nat, n ≤ 100000 → n ≤ sizeLine := fun n hn => by
      rw [sizeLine_eq]
      omega
    refine i_seq (i_asg ⟨hsz _ (by simp), fun p0 h0 => ⟨hsz _ (by simp), fun lf hlf => ?_⟩⟩)
    have e1 : Same H (upd H p0 (.tup [])) := same_upd h0
    have e2 : Same (upd H p0 (.tup [])) (upd (upd H p0 (.tup [])) lf (.lst [.ref p0])) := same_upd hlf
    have d0 : DtAll (upd (upd H p0 (.tup [])) lf (.lst [.ref p0])) [.ref p0] ((subs 0).map lotD) := .cons (Dt.of_lot (l := []) (e2 _ _ upd_same)) .nil
    have f0 : (upd (upd H p0 (.tup [])) lf (.lst [.ref p0])) lf = some (.lst [.ref p0]) := upd_same
    generalize upd (upd H p0 (.tup [])) lf (.lst [.ref p0]) = H2 at e2 d0 f0 ⊢
    dsimp only
    have en : ((n : Int)).toNat = n := by omega
    refine i_seq ⟨_, rfl, (n : Int), rfl, by omega, by omega, for_range (lo := 0) (fun i σ H' => ∃ lr o2, σ = [some (.int (n : Int)), some (.ref lr), o2, none, none] ∧ Same H H' ∧ ∃ ys, H' lr = some (.lst ys) ∧ DtAll H' ys ((subs i).map lotD)) ⟨lf, none, rfl, e1.trans e2, _, f0, d0⟩ (fun i σ H' hi hP => ?_) (fun σ H' hP => ?_)⟩
    · obtain ⟨lr, o2, rfl, S, ys, hf, hd⟩ := hP
      rw [en] at hi
      have hl : ys.length = 2 ^ i := by
        have := hd.length
        rwa [List.length_map, subs_length] at this
      have hp : 2 ^ i ≤ 2 ^ 10 := Nat.pow_le_pow_right (by decide) (by omega)
      have hsl := subs_length i
      refine i_asg (i_op ⟨_, rfl, lcLS (Cnd := fun H1 => Same H' H1) (enc := lotD) (ds := subs i) (G := fun r => some (lotD (r ++ [(i : Int)]))) (fun R hR => ⟨_, rfl, hR lr ys H' (Same.refl _) hf hd⟩) (fun d e h => ?_) (by omega)
        (fun H1 x l H'' e3 hm e4 hx => ?_) fun H1 D H3 zs e3 hD e4 h3 h4 => ?_⟩)
      · cases h
        exact noL_lot _
      · obtain ⟨a, rfl, ha⟩ := hx.lot
        have hll := subs_len_le i l hm
        refine .yes fun R hs => ⟨rfl, .ref a, rfl, .int (0 + (i : Int)), rfl, hsz _ (by simp), fun p hp => ?_⟩
        have e5 : Same H'' (upd H'' p (.tup [.int (0 + (i : Int))])) := same_upd hp
        refine ⟨a, p, l.map V.int, [.int (0 + (i : Int))], rfl, rfl, SqT.of (e5 _ _ ha), SqT.of upd_same, hsz _ (by rw [List.length_map]; simp; omega), fun hl0 => ?_, fun _ z => absurd z (by simp), fun _ _ p2 hp2 => ?_⟩
        · have hl1 : l = [] := List.map_eq_nil_iff.mp hl0
          subst hl1
          refine hs _ rfl _ _ e5 (Dt.of_lot (l := [(i : Int)]) ?_)
          rw [upd_same, Int.zero_add]
          rfl
        · refine hs _ rfl _ _ (e5.trans (same_upd hp2)) (Dt.of_lot (l := l ++ [(i : Int)]) ?_)
          rw [upd_same, List.map_append, Int.zero_add]
          rfl
      · rw [fm_some] at h4
        have hz : zs.length = 2 ^ i := by
          have := h4.length
          rwa [List.length_map, subs_length] at this
        have es := e3.trans e4
        have hf3 := es _ _ hf
        refine ⟨lr, D, ys, zs, rfl, rfl, hf3, h3, hsz _ (by omega), fun p hp => ⟨p, some (.int (0 + (i : Int))), rfl, (S.trans es).trans (same_upd hp), ys ++ zs, upd_same, ?_⟩⟩
        have e5 : (subs (i + 1)).map lotD = (subs i).map lotD ++ (subs i).map fun r => lotD (r ++ [(i : Int)]) := by
          show (subs i ++ (subs i).map fun r => r ++ [(i : Int)]).map lotD = _
          rw [List.map_append, List.map_map]
          rfl
        rw [e5]
        exact ((hd.same es).append h4).same (same_upd hp)
    · obtain ⟨lr, o2, rfl, S, ys, hf, hd⟩ := hP
      rw [en] at hd
      dsimp only
      have hp : 2 ^ n ≤ 2 ^ 10 := Nat.pow_le_pow_right (by decide) (by omega)
      have hsl := subs_length n
      have hll := lots_length n
      refine i_ret (lcLS (Cnd := fun H1 => Same H' H1) (enc := keyD) (ds := lots n) (G := fun l => some (lotD l)) (fun R hR => i_CB (i_cons (lcLS (Cnd := fun H1 => Same H' H1) (enc := lotD) (ds := subs n) (G := fun l => some (keyD l)) (fun R hR => ⟨_, rfl, hR lr ys H' (Same.refl _) hf hd⟩) (fun d e h => ?_) (by omega)
        (fun H1 x l H'' e3 hm e4 hx => ?_) fun H1 D H3 zs e3 hD e4 h3 h4 => ?_))) (fun d e h => ?_) (by omega) (fun H1 x l H'' e3 hm e4 hx => ?_) fun H1 D H3 zs e3 hD e4 h3 h4 => ?_)
      · cases h
        exact noL_key _
      · obtain ⟨a, rfl, ha⟩ := hx.lot
        refine .yes fun R hs => ⟨rfl, .ref a, rfl, .ref a, _, rfl, .inr ⟨_, SqT.of ha, rfl⟩, .ref a, rfl, hsz _ (by simp), fun p hp => hs _ rfl _ _ (same_upd hp) (.tup upd_same (.cons ?_ (.cons (hx.same (same_upd hp)) .nil)))⟩
        rw [List.length_map]
        exact .int _
      · rw [fm_some] at h4
        have e5 : (subs n).map (fun l => keyD l) = (subs n).map keyD := rfl
        rw [e5] at h4
        exact ⟨D, zs, subs n, rfl, h3, h4, PySem.W.AllAlike.of fun a b => alike_key a b, PySem.W.Sortable.tuples fun b => ⟨_, _, rfl⟩, fun b _ => Nat.le_trans (key_depth b) (by decide), fun ys p d hp => hR p ys _ ((e3.trans e4).trans (same_upd hp)) upd_same (d.same (same_upd hp))⟩
      · cases h
        exact noL_lot _
      · obtain ⟨T, xs, rfl, hT, hxs⟩ := hx.tup_of
        match xs, hxs with
        | [u, v], .cons hu (.cons hv .nil) => exact .yes fun R hs => g2_of hT ⟨rfl, v, rfl, hs _ rfl _ _ (Same.refl _) hv⟩
      · rw [fm_some] at h4
        exact q D H3 zs ((S.trans e3).trans e4) h3 h4
end
end K1
namespace K1
open PySem PySem.Spec PyProof.Rows L2 LamX NdefX
section
variable {P : Program} {w : World} {K : PySem.W.Frag} {mg : Str → Option Value} {base : Heap} {f f1 f2 f3 f4 : Addr} {fd fd1 fd2 fd3 fd4 : FuncData} {T : List (Addr × Str)}
/-! ### _law_closed -/
def spLClosed : Sp := fun vs H Q _ => ∃ (n : Nat) (u : V) (ties : List Tie), vs = [.int (n : Int), u] ∧ n ≤ 10 ∧ Dt H u (.tuple (ties.map tieD)) ∧ ties.length ≤ 10000 ∧ ∀ p H' ys, Same H H' → H' p = some (.lst ys) → DtAll H' ys ((closedL n ties).map lotD) → Q (.ref p) H'
abbrev nLClosed : List Str := ["_law_many", "_law_ties_so", "_law_found_so", "_law_lot", "_law_need", "_law_late"]
theorem scLClosed : FnScope nLClosed ["_law_many", "_law_ties_so"] (defScope sLClosed) := ⟨rfl, rfl, rfl, by decide +kernel, rfl, by decide +kernel, by decide +kernel⟩
theorem bi_lclosed (F : FnP K "_law_closed" sLClosed f fd) : Binds K fd ["_law_many", "_law_ties_so"] [] := F.bindsN fun _ _ _ _ _ _ us hl => match us, hl with | [_, _], _ => rfl
theorem ok_lclosed (F : FnP K "_law_closed" sLClosed f fd) (F1 : FnP K "_law_lots" sLLots f1 fd1) (g1 : mg "_law_lots" = some (.ref f1)) (G : Gs K mg) : FnOk P w K mg base L2.CX0 2 f fd ["_law_many", "_law_ties_so"] spLClosed := by
  have G1 : FnOk P w K mg base L2.CX0 1 f1 fd1 ["_law_many"] spLLots := ok_llots F1 G
  refine F.ok scLClosed (fun vs H Q E h => ?_) (fun cdv A outer s H vs Q E hr h => ⟨_, PSs.nox (pss_cons (ps_set (i := 2) scLClosed.nd rfl (.inl rfl) (pe_lst pa_nil))
    (pss_cons (ps_for PassesOwn.never rfl (pi_list (pe_call G1 hr rfl g1 F1.kp (bi_llots F1) .nil pass0 (pa_cons (pv 0) pa_nil))) (pg_name (i := 3) scLClosed.nd rfl (.inr rfl) (.inl rfl))
      (pss_one (ps_if (pt_cmpR (op_eqD hr.units) (pe_lc (own := [("_law_need", 4), ("_law_late", 5)]) (tt := tAnd (tTest (tOp (rIn K false) (tVar 5) (tVar 3))) (tTest (tOp (rIn K true) (tVar 4) (tVar 3)))) (te := tC (.int 1)) rfl scLClosed.nd (pi_tup (pv 1)) (blkOk_by (N := nLClosed) (sc := defScope sLClosed) (by decide +kernel))
          (fun _ _ _ _ _ => pg2 K 4 5 rfl scLClosed.nd rfl rfl rfl rfl rfl) (fun _ _ _ _ _ => pts_one (PW.pt (pw_and (pt_cmpR op_in_seq (pv 5) (pv 3) rfl) (pw_and1 (pt_cmpR op_notIn_seq (pv 4) (pv 3) rfl))))) (fun _ _ _ _ _ => pe_int)) (pe_lst pa_nil) rfl)
        (pss_one (ps_expr (pe_bm PySem.F.plainAttrs_list PySem.F.slot_list_append PySem.F.type_list_append mt_append (pv 2) (pa_cons (pv 3) pa_nil)))) pss_nil)))
    (pss_one (ps_ret (pv 2))))), ?_⟩)
  · obtain ⟨n, u, t, rfl, _⟩ := h
    rfl
  · obtain ⟨n, u, ties, rfl, hn, hu, hz, q⟩ := h
    have hsz : ∀ n : Nat, n ≤ 100000 → n ≤ sizeLine := fun n hn => by
      rw [sizeLine_eq]
      omega
    obtain ⟨a, xs, rfl, ha, hxs⟩ := hu.tup_of
    have hpw := two_pow hn
    have hll := lots_length n
    refine i_seq (i_asg ⟨hsz _ (by simp), fun lf hlf => ?_⟩)
    have e0 : Same H (upd H lf (.lst [])) := same_upd hlf
    have f0 : (upd H lf (.lst [])) lf = some (.lst []) := upd_same
    generalize upd H lf (.lst []) = H1 at e0 f0 ⊢
    dsimp only
    refine i_seq (i_for (i_iList (i_call ⟨_, rfl, n, rfl, hn, fun pl H2 zs e1 hpl hzs => ⟨pl, rfl, ⟨zs, SqL.of hpl⟩, ?_⟩⟩)))
    have hzl : zs.length = (lots n).length := by
      have := hzs.length
      rwa [List.length_map] at this
    have hne0 : lf ≠ pl := fun z => by
      have h1 := e1 _ _ f0
      rw [z, hpl] at h1
      cases h1
      have : (lots n).length = 0 := hzl.symm
      rw [hll] at this
      exact absurd this (Nat.ne_of_gt (Nat.two_pow_pos n))
    refine for_list (xs := zs) (fun i σ H' => ∃ o3, σ = [some (.int (n : Int)), some (.ref a), some (.ref lf), o3, none, none] ∧ Same H H' ∧ H' pl = some (.lst zs) ∧ DtAll H' zs ((lots n).map lotD) ∧ ∃ ys, H' lf = some (.lst ys) ∧ lf ≠ pl ∧ ys.length ≤ i ∧ DtAll H' ys ((((lots n).take i).filter (closedB ties)).map lotD)) ?_ (fun i σ H' _ hP => ?_) (fun i x σ H' hi hP => ?_) (fun σ H' hP => ?_)
    · exact ⟨none, rfl, e0.trans e1, hpl, hzs, [], e1 _ _ f0, hne0, Nat.le_refl _, .nil⟩
    · obtain ⟨o3, rfl, S, hp, _⟩ := hP
      exact SqL.of hp
    · obtain ⟨o3, rfl, S, hp, hd, ys, hf, hne, hyl, hys⟩ := hP
      obtain ⟨l, hl1, hl2, hx⟩ := hd.at hi
      obtain ⟨b, rfl, hb⟩ := hx.lot
      have hlt : i < (lots n).length := (List.getElem?_eq_some_iff.mp hl1).1
      have htk : (lots n).take (i + 1) = (lots n).take i ++ [l] := by rw [List.take_add_one, hl1]; rfl
      refine i_if (i_test (i_op (lcTS (Cnd := fun H1 => Same H' H1) (enc := tieD) (ds := ties) (G := fun p => if (l.contains p.2 && !(l.contains p.1)) = true then some (.int 1) else none) (fun R hR => ⟨_, rfl, hR a xs H' (Same.refl _) (S _ _ ha) (hxs.same S)⟩) (fun d e h => ?_) (by omega)
        (fun H3 x p H'' e3 hm e4 hx R hn hs => ?_) fun H3 D H4 vs e3 hD e4 h3 h4 => ?_)))
      · split at h
        · cases h
          rfl
        · cases h
      · obtain ⟨Tp, rfl, hT⟩ := hx.tie
        have hb' := e4 _ _ (e3 _ _ hb)
        refine g2_of hT ⟨rfl, i_tand (i_test (i_op ⟨_, rfl, _, rfl, b, l.map V.int, rfl, .inr (SqT.of hb'), rfl, flat_ints l, _, rfl, ?_⟩))⟩
        rw [if_neg Bool.false_ne_true, in_ints]
        cases h1 : l.contains p.2 with
        | false => exact iteF (iteF (hn (by rw [h1]; rfl) _ (Same.refl _)))
        | true =>
          refine iteT (i_test (i_op ⟨_, rfl, _, rfl, b, l.map V.int, rfl, .inr (SqT.of hb'), rfl, flat_ints l, _, rfl, ?_⟩))
          rw [if_pos rfl, in_ints]
          cases h2 : l.contains p.1 with
          | true => exact iteF (hn (by rw [h1, h2]; rfl) _ (Same.refl _))
          | false => exact iteT (hs _ (by rw [h1, h2]; rfl) _ _ (Same.refl _) (.int 1))
      · rw [fm_if] at h4
        have e5 : ((ties.filter fun p => l.contains p.2 && !(l.contains p.1)).map fun _ => PyData.int 1) = ((ties.filter fun p => l.contains p.2 && !(l.contains p.1)).map fun _ => (1 : Int)).map .int := by
          rw [List.map_map]
          rfl
        rw [e5] at h4
        obtain rfl := h4.ints_eq
        refine ⟨hsz _ (by simp), fun p5 hp5 => ⟨.list (((ties.filter fun p => l.contains p.2 && !(l.contains p.1)).map fun _ => (1 : Int)).map .int), .list [], .lst (SqL.of (same_upd hp5 _ _ h3)) (DtAll.dp (.ints _)), .lst (SqL.of upd_same) .nil, shaped_ints _, shaped_ints [], _, rfl, ?_⟩⟩
        rw [eqv_nil, List.isEmpty_map]
        have es := (e3.trans e4).trans (same_upd (o := .lst []) hp5)
        have hp' := es _ _ hp
        have hf' := es _ _ hf
        have hd' := hd.same es
        have hys' := hys.same es
        have S' := S.trans es
        have hx' := hx.same es
        generalize upd H4 p5 (.lst []) = H5 at hp' hf' hd' hys' S' hx' ⊢
        cases hc : closedB ties l with
        | true =>
          have hz0 : (ties.filter fun p => l.contains p.2 && !(l.contains p.1)).isEmpty = true := by
            rw [(closed_law ties l).mpr hc]
            rfl
          rw [hz0]
          refine iteT (i_drop ⟨.ref lf, rfl, .inl ⟨rfl, _, SqL.of hf'⟩, _, rfl, lf, ys, _, rfl, rfl, hf', by rw [sizeLine_eq]; omega, some (.ref b), rfl, fun c o e => ?_, ?_, ?_, ys ++ [.ref b], upd_same, hne, by rw [List.length_append]; simp; omega, ?_⟩)
          · rw [upd_ne (ne_of_none e hlf)]
            exact S' _ _ e
          · rw [upd_ne (Ne.symm hne)]
            exact hp'
          · exact DtAll.updL hf' (noLAll_of fun d hd => by
              obtain ⟨l, _, rfl⟩ := List.mem_map.mp hd
              exact noL_lot l) hd'
          · rw [htk, List.filter_append, List.map_append]
            have e6 : [l].filter (closedB ties) = [l] := by simp [hc]
            rw [e6]
            refine DtAll.updL hf' (noLAll_of fun d hd => ?_) (hys'.append (.one hx'))
            rcases List.mem_append.mp hd with hd | hd
            · obtain ⟨l, _, rfl⟩ := List.mem_map.mp hd
              exact noL_lot l
            · obtain ⟨l, _, rfl⟩ := List.mem_map.mp hd
              exact noL_lot l
        | false =>
          have hz0 : (ties.filter fun p => l.contains p.2 && !(l.contains p.1)).isEmpty = false := by
            cases hq : (ties.filter fun p => l.contains p.2 && !(l.contains p.1)) with
            | nil =>
              have := (closed_law ties l).mp hq
              rw [hc] at this
              cases this
            | cons _ _ => rfl
          rw [hz0]
          refine iteF (i_next ⟨some (.ref b), rfl, S', hp', hd', ys, hf', hne, by omega, ?_⟩)
          rw [htk, List.filter_append]
          have e6 : [l].filter (closedB ties) = [] := by simp [hc]
          rw [e6, List.append_nil]
          exact hys'
    · obtain ⟨o3, rfl, S, hp, hd, ys, hf, hne, hyl, hys⟩ := hP
      dsimp only
      rw [hzl, List.take_length] at hys
      exact i_ret ⟨_, rfl, q lf _ ys S hf hys⟩
end
end K1
namespace K1
open PySem PySem.Spec PyProof.Rows L2 LamX NdefX
theorem tie_sorted (l : List Tie) : (l.mergeSort (PySem.W.dataLe false tieD)).Pairwise fun p q => plt q p = false := by
  have e : PySem.W.dataLe false tieD = fun p q : Tie => !plt q p := by
    have h := PySem.W.dataLe_ii (β := Tie) (fun p => p.1) (fun p => p.2)
    have h2 : PySem.W.dataLe false tieD = fun p q : Tie => decide (p.1 < q.1 ∨ (p.1 = q.1 ∧ p.2 ≤ q.2)) := h
    rw [h2]
    funext p q
    unfold plt
    by_cases h1 : q.1 = p.1
    · rw [if_pos h1]
      by_cases h3 : q.2 < p.2
      · rw [decide_eq_true h3]
        exact decide_eq_false (by omega)
      · rw [decide_eq_false h3]
        exact decide_eq_true (by omega)
    · rw [if_neg h1]
      by_cases h3 : q.1 < p.1
      · rw [decide_eq_true h3]
        exact decide_eq_false (by omega)
      · rw [decide_eq_false h3]
        exact decide_eq_true (by omega)
  rw [e]
  have h := List.pairwise_mergeSort (le := fun p q : Tie => !plt q p) (fun a b c h1 h2 => by
    have h1' : plt b a = false := by simpa using h1
    have h2' : plt c b = false := by simpa using h2
    cases h3 : plt c a with
    | false => rfl
    | true =>
      have a1 : ¬ (b.1 < a.1 ∨ (b.1 = a.1 ∧ b.2 < a.2)) := fun z => by
        rw [plt_iff.mpr z] at h1'
        cases h1'
      have a2 : ¬ (c.1 < b.1 ∨ (c.1 = b.1 ∧ c.2 < b.2)) := fun z => by
        rw [plt_iff.mpr z] at h2'
        cases h2'
      have a3 := plt_iff.mp h3
      omega) (fun a b => by
    cases h3 : plt b a with
    | false => rfl
    | true =>
      cases h4 : plt a b with
      | false => simp
      | true =>
        have a3 := plt_iff.mp h3
        have a4 := plt_iff.mp h4
        omega) l
  exact h.imp fun {a b} h => by simpa using h
mutual
theorem Dt.chg {H H' : Hp} {p ll : Addr} {kvs : List (Key × V)} {ws : List V} (hp : H p = some (.dK kvs)) (hl : H ll = some (.lst ws)) (c : Chg p ll H H') : ∀ {v : V} {d : PyData}, noL d = true → Dt H v d → Dt H' v d
  | _, _, _, .non => .non
  | _, _, _, .bl b => .bl b
  | _, _, _, .int i => .int i
  | _, _, _, .str x => .str x
  | _, _, n, .lst h a => by simp [noL] at n
  | _, _, n, .tup h a => .tup (c _ _ h (ne_of h hp (fun z => nomatch z)) (ne_of h hl (fun z => nomatch z))) (DtAll.chg hp hl c (by simpa only [noL] using n) a)
theorem DtAll.chg {H H' : Hp} {p ll : Addr} {kvs : List (Key × V)} {ws : List V} (hp : H p = some (.dK kvs)) (hl : H ll = some (.lst ws)) (c : Chg p ll H H') : ∀ {vs : List V} {ds : List PyData}, noLAll ds = true → DtAll H vs ds → DtAll H' vs ds
  | _, _, _, .nil => .nil
  | _, d :: ds, n, .cons h t => by
    have n' : noL d = true ∧ noLAll ds = true := by simpa only [noLAll, Bool.and_eq_true] using n
    exact .cons (Dt.chg hp hl c n'.1 h) (DtAll.chg hp hl c n'.2 t)
end
theorem Chg.dtAll {H H' : Hp} {p lc ll : Addr} {b : Int} (c : Chg p ll H H') (s : StA H p lc ll b) {vs : List V} {ds : List PyData} (n : noLAll ds = true) (h : DtAll H vs ds) : DtAll H' vs ds := by
  obtain ⟨⟨cs, ls, a, hp, _, hl, _⟩, _⟩ := s
  exact DtAll.chg hp hl c n h
theorem Chg.dt {H H' : Hp} {p lc ll : Addr} {b : Int} (c : Chg p ll H H') (s : StA H p lc ll b) {v : V} {d : PyData} (n : noL d = true) (h : Dt H v d) : Dt H' v d := by
  obtain ⟨⟨cs, ls, a, hp, _, hl, _⟩, _⟩ := s
  exact Dt.chg hp hl c n h
theorem StA.fresh {H : Hp} {p lc ll : Addr} {b : Int} (s : StA H p lc ll b) {D : Addr} (h : H D = none) : D ≠ p ∧ D ≠ ll ∧ D ≠ lc := by
  obtain ⟨⟨cs, ls, a, hp, hc, hl, _⟩, _⟩ := s
  exact ⟨(fun z => by rw [z, hp] at h; cases h), (fun z => by rw [z, hl] at h; cases h), (fun z => by rw [z, hc] at h; cases h)⟩
theorem noL_ties (l : List Tie) : noLAll (l.map tieD) = true := noLAll_of fun d hd => by
  obtain ⟨p, _, rfl⟩ := List.mem_map.mp hd
  exact noL_tie p
theorem noL_lots (l : List (List Int)) : noLAll (l.map lotD) = true := noLAll_of fun d hd => by
  obtain ⟨p, _, rfl⟩ := List.mem_map.mp hd
  exact noL_lot p
theorem StA.updN {H : Hp} {p lc ll : Addr} {b : Int} (s : StA H p lc ll b) {D : Addr} {o : HO} (n1 : D ≠ p) (n2 : D ≠ ll) (n3 : D ≠ lc) : StA (upd H D o) p lc ll b := by
  obtain ⟨⟨cs, ls, a, hp, hc, hl, r⟩, ne⟩ := s
  exact ⟨⟨cs, ls, a, by rw [upd_ne (Ne.symm n1)]; exact hp, by rw [upd_ne (Ne.symm n3)]; exact hc, by rw [upd_ne (Ne.symm n2)]; exact hl, r⟩, ne⟩
section
variable {P : Program} {w : World} {K : PySem.W.Frag} {mg : Str → Option Value} {base : Heap} {f f1 f2 f3 f4 : Addr} {fd fd1 fd2 fd3 fd4 : FuncData} {T : List (Addr × Str)}
/-- draw and what it leans on -/
def DrawG (K : PySem.W.Frag) (mg : Str → Option Value) : Prop := ∃ f fd, mg "_law_draw" = some (.ref f) ∧ FnP K "_law_draw" sDraw f fd ∧ ∀ {P : Program} {w : World} {base : Heap}, FnOk P w K mg base L2.CX0 2 f fd ["_law_state", "_law_many"] spDraw
/-! ### _law_ties -/
def spLTies : Sp := fun vs H Q _ => ∃ (p lc ll : Addr) (n : Nat) (ch b : Int), vs = [.ref p, .int (n : Int), .int ch] ∧ 1 ≤ n ∧ n ≤ 5 ∧ 0 < ch ∧ ch ≤ 100 ∧ StA H p lc ll b ∧ b ≤ 5000 ∧
  ∀ t H' ties, Chg p ll H H' → StA H' p lc ll (b + 30) → Good n ties → ties.length ≤ 25 → Dt H' t (.tuple (ties.map tieD)) → Q t H'
abbrev nLTies : List Str := ["_law_state", "_law_many", "_law_chance", "_law_found_so", "_law_need", "_law_late"]
theorem scLTies : FnScope nLTies ["_law_state", "_law_many", "_law_chance"] (defScope sLTies) := ⟨rfl, rfl, rfl, by decide +kernel, rfl, by decide +kernel, by decide +kernel⟩
theorem bi_lties (F : FnP K "_law_ties" sLTies f fd) : Binds K fd ["_law_state", "_law_many", "_law_chance"] [] := F.bindsN fun _ _ _ _ _ _ us hl => match us, hl with | [_, _, _], _ => rfl
abbrev teFlip (i j k : Nat) : TE := tTup (tCons (tOp (rI0 fun i j => .int (i - j)) (tOp (rI0 fun i j => .int (i - j)) (tVar i) (tC (.int 1))) (tVar j)) (tCons (tOp (rI0 fun i j => .int (i - j)) (tOp (rI0 fun i j => .int (i - j)) (tVar i) (tC (.int 1))) (tVar k)) tNil))
structure TsOk (i n : Nat) (ts : List Tie) : Prop where
  rng : ∀ t ∈ ts, 0 ≤ t.1 ∧ t.1 < (i : Int) ∧ t.1 < t.2 ∧ t.2 < (n : Int)
  asc : ts.Pairwise fun p q => plt p q = true
theorem TsOk.good {n : Nat} {ts : List Tie} (h : TsOk n n ts) : Good n ts :=
  ⟨fun t ht => by
    have := h.rng t ht
    omega, h.asc, .inl fun t ht => (h.rng t ht).2.2.1⟩
theorem TsOk.app {i n : Nat} {ts us : List Tie} (h : TsOk i n ts) (h1 : ∀ t ∈ us, t.1 = (i : Int) ∧ t.1 < t.2 ∧ t.2 < (n : Int)) (h2 : us.Pairwise fun p q => plt p q = true) : TsOk (i + 1) n (ts ++ us) :=
  ⟨fun t ht => by
    rcases List.mem_append.mp ht with z | z
    · have := h.rng t z
      omega
    · have := h1 t z
      omega, List.pairwise_append.mpr ⟨h.asc, h2, fun a ha b hb => plt_iff.mpr (by
    have h3 := h.rng a ha
    have h4 := h1 b hb
    omega)⟩⟩
theorem ok_lties (F : FnP K "_law_ties" sLTies f fd) (G : Gs K mg) (DG : DrawG K mg) : FnOk P w K mg base L2.CX0 3 f fd ["_law_state", "_law_many", "_law_chance"] spLTies := by
  obtain ⟨f1, fd1, g1, F1, G1⟩ := DG
  refine F.ok scLTies (fun vs H Q E h => ?_) (fun cdv A outer s H vs Q E hr h => ⟨_, PSs.nox (pss_cons (ps_set (i := 3) scLTies.nd rfl (.inl rfl) (pe_lst pa_nil))
    (pss_cons (ps_for PassesOwn.never rfl (pi_range1 rfl G.range (pa_cons (pv 1) pa_nil)) (pg_name (i := 4) scLTies.nd rfl (.inr rfl) (.inl rfl))
      (pss_one (ps_set (i := 3) scLTies.nd rfl (.inl rfl) (pe_op op_cat (pv 3) (pe_lc (own := [("_law_late", 5)]) (tt := tTest (tOp rEq (tCall spDraw [] L2.E0 (tCons (tVar 0) (tCons (tVar 2) tNil))) (tC (.int 0)))) (te := tTup (tCons (tVar 4) (tCons (tVar 5) tNil))) rfl scLTies.nd
        (pi_range2 rfl G.range (pa_cons (pe_op op_add (pv 4) pe_int) (pa_cons (pv 1) pa_nil))) (blkOk_by (N := nLTies) (sc := defScope sLTies) (by decide +kernel)) (fun _ _ _ _ _ => pg1 5 scLTies.nd rfl rfl)
        (fun _ _ _ _ _ => pts_one (pt_cmpR op_eq (pe_call G1 hr rfl g1 F1.kp (bi_draw F1) .nil pass0 (pa_cons (pv 0) (pa_cons (pv 2) pa_nil))) pe_int rfl)) (fun _ _ _ _ _ => pe_tup (pa_cons (pv 4) (pa_cons (pv 5) pa_nil))))))))
    (pss_cons (ps_if (pt_cmpR op_eq (pe_call G1 hr rfl g1 F1.kp (bi_draw F1) .nil pass0 (pa_cons (pv 0) (pa_cons pe_int pa_nil))) pe_int rfl)
      (pss_one (ps_set (i := 3) scLTies.nd rfl (.inl rfl) (pe_callB (cr_sortD (enc := tieD) hr.units) rfl G.sorted (by rfl) (pa_cons (pe_lc (own := [("_law_need", 4), ("_law_late", 5)]) (te := teFlip 1 4 5) rfl scLTies.nd (pi_list (pv 3)) (blkOk_by (N := nLTies) (sc := defScope sLTies) (by decide +kernel))
        (fun _ _ _ _ _ => pg2 K 4 5 rfl scLTies.nd rfl rfl rfl rfl rfl) (fun _ _ _ _ _ => pts_nil) (fun _ _ _ _ _ => pe_tup (pa_cons (pe_op op_sub (pe_op op_sub (pv 1) pe_int) (pv 4)) (pa_cons (pe_op op_sub (pe_op op_sub (pv 1) pe_int) (pv 5)) pa_nil)))) pa_nil)))) pss_nil)
    (pss_one (ps_ret (pe_callTy call_tuple_of rfl G.tuple (by rfl) (pa_cons (pv 3) pa_nil))))))), ?_⟩)
  · obtain ⟨p, lc, ll, n, ch, b, rfl, _⟩ := h
    rfl
  · obtain ⟨p, lc, ll, n, ch, b, rfl, n1, n5, c0, c1, hst, hb, q⟩ := h
    have hsz : ∀ n : Nat, n ≤ 100000 → n ≤ sizeLine := fun n hn => by
      rw [sizeLine_eq]
      omega
    refine i_seq (i_asg ⟨hsz _ (by simp), fun lf hlf => ?_⟩)
    have e0 : Same H (upd H lf (.lst [])) := same_upd hlf
    have f0 : (upd H lf (.lst [])) lf = some (.lst []) := upd_same
    have nf := hst.fresh hlf
    have hst0 := hst.same e0
    generalize upd H lf (.lst []) = H1 at e0 f0 hst0 ⊢
    dsimp only
    have en : ((n : Int)).toNat = n := by omega
    refine i_seq ⟨_, rfl, (n : Int), rfl, by omega, by omega, for_range (lo := 0) (fun i σ H' => ∃ lf o4 ts ys, σ = [some (.ref p), some (.int (n : Int)), some (.int ch), some (.ref lf), o4, none] ∧ Chg p ll H H' ∧ StA H' p lc ll (b + 5 * (i : Int)) ∧
      H' lf = some (.lst ys) ∧ lf ≠ p ∧ lf ≠ ll ∧ DtAll H' ys (ts.map tieD) ∧ TsOk i n ts ∧ ts.length ≤ 5 * i) ⟨lf, none, [], [], rfl, .of e0, hst0.mono (by omega), f0, nf.1, nf.2.1, .nil, ⟨(fun _ h => by cases h), List.Pairwise.nil⟩, Nat.le_refl _⟩ (fun i σ H' hi hP => ?_) (fun σ H' hP => ?_)⟩
    · obtain ⟨lf, o4, ts, ys, rfl, hC, hS, hf, nlp, nll, hys, hts, hlen⟩ := hP
      rw [en] at hi
      refine i_asg (i_op ⟨_, rfl, ⟨_, rfl, _, _, rfl, rfl, _, rfl, 0 + (i : Int) + 1, (n : Int), rfl, by omega, fun D hD => ?_⟩⟩)
      have nD := hS.fresh hD
      have eD : Same H' (upd H' D (.lst [])) := same_upd hD
      have hnk : ((n : Int) - (0 + (i : Int) + 1)).toNat ≤ 5 := by omega
      refine lc_range (fun k Hk => Chg p ll H' Hk ∧ StA Hk p lc ll (b + 5 * (i : Int) + (k : Int)) ∧ ∃ us zs, Hk D = some (.lst zs) ∧ DtAll Hk zs (us.map tieD) ∧ (∀ t ∈ us, t.1 = (i : Int) ∧ (i : Int) < t.2 ∧ t.2 < (i : Int) + 1 + (k : Int)) ∧ us.Pairwise (fun p q => plt p q = true) ∧ us.length ≤ k)
        ⟨.of eD, (hS.same eD).mono (by omega), [], [], upd_same, .nil, (fun _ h => by cases h), List.Pairwise.nil, Nat.le_refl _⟩ (fun k Hk hk hQ => ?_) (fun Hk hQ => ?_)
      · obtain ⟨kC, kS, us, zs, kD, kz, kr, kp, kl⟩ := hQ
        refine ⟨rfl, i_test (i_op (i_call ⟨_, rfl, _, rfl, p, lc, ll, ch, _, rfl, c0, c1, kS, by omega, fun r H3 r0 r1 rC rS => ⟨rfl, _, rfl, ?_⟩⟩))⟩
        have kD3 := rC _ _ kD nD.1 nD.2.1
        have kz3 := rC.dtAll kS (noL_ties us) kz
        have C3 := kC.trans rC
        by_cases hr0 : r = 0
        · subst hr0
          rw [decide_eq_true rfl]
          refine iteT ⟨_, rfl, _, rfl, hsz _ (by simp), fun t ht => ⟨zs, ?_, ?_, fun c o h1 h2 h3 => ?_, ?_, us ++ [((i : Int), 0 + (i : Int) + 1 + (k : Int))], zs ++ [.ref t], upd_same, ?_, fun t ht => ?_, ?_, ?_⟩⟩
          · exact same_upd ht _ _ kD3
          · have := kz.length
            rw [List.length_map] at this
            rw [sizeLine_eq]
            omega
          · have hcD : c ≠ D := ne_of_none h1 hD
            rw [upd_ne hcD]
            exact same_upd ht _ _ (C3 c o h1 h2 h3)
          · exact ((rS.same (same_upd ht)).updN nD.1 nD.2.1 nD.2.2).mono (by omega)
          · rw [List.map_append]
            refine DtAll.updL (same_upd ht _ _ kD3) (noLAll_of fun d hd => ?_) ((kz3.same (same_upd ht)).append (.one (Dt.of_tie (p := ((i : Int), 0 + (i : Int) + 1 + (k : Int))) ?_)))
            · rcases List.mem_append.mp hd with hd | hd
              · obtain ⟨x, _, rfl⟩ := List.mem_map.mp hd
                exact noL_tie x
              · obtain ⟨x, _, rfl⟩ := List.mem_map.mp hd
                exact noL_tie x
            · rw [upd_same, Int.zero_add]
          · rcases List.mem_append.mp ht with z | z
            · have := kr t z
              omega
            · rw [List.mem_singleton.mp z]
              show (i : Int) = (i : Int) ∧ (i : Int) < 0 + (i : Int) + 1 + (k : Int) ∧ 0 + (i : Int) + 1 + (k : Int) < (i : Int) + 1 + ((k + 1 : Nat) : Int)
              omega
          · refine List.pairwise_append.mpr ⟨kp, by simp, fun a ha c hc => ?_⟩
            rw [List.mem_singleton.mp hc]
            have := kr a ha
            refine plt_iff.mpr (.inr ⟨this.1, ?_⟩)
            show a.2 < 0 + (i : Int) + 1 + (k : Int)
            omega
          · rw [List.length_append]
            simp
            omega
        · rw [decide_eq_false (show ¬ V.int r = V.int 0 from fun z => hr0 (V.int.inj z))]
          exact iteF ⟨C3, rS.mono (by omega), us, zs, kD3, kz3, fun t ht => by
            have := kr t ht
            omega, kp, by omega⟩
      · obtain ⟨kC, kS, us, zs, kD, kz, kr, kp, kl⟩ := hQ
        have kf := kC _ _ hf nlp nll
        have kys := kC.dtAll hS (noL_ties ts) hys
        have l1 := hys.length
        have l2 := kz.length
        rw [List.length_map] at l1 l2
        refine ⟨lf, D, ys, zs, rfl, rfl, kf, kD, hsz _ (by omega), fun l hl => ⟨l, some (.int (0 + (i : Int))), ts ++ us, ys ++ zs, rfl, (hC.trans kC).trans (.of (same_upd hl)), (kS.same (same_upd hl)).mono (by omega), upd_same, (kS.fresh hl).1, (kS.fresh hl).2.1, ?_, hts.app (fun t ht => ?_) kp, ?_⟩⟩
        · rw [List.map_append]
          exact (kys.append kz).same (same_upd hl)
        · have := kr t ht
          omega
        · rw [List.length_append]
          omega
    · obtain ⟨lf, o4, ts, ys, rfl, hC, hS, hf, nlp, nll, hys, hts, hlen⟩ := hP
      rw [en] at hS hts hlen
      dsimp only
      have fin : ∀ (lf : Addr) (ts : List Tie) (ys : List V) (H3 : Hp), Chg p ll H H3 → StA H3 p lc ll (b + 30) → Good n ts → ts.length ≤ 25 → H3 lf = some (.lst ys) → DtAll H3 ys (ts.map tieD) → ∀ l, H3 l = none → Q (.ref l) (upd H3 l (.tup ys)) :=
        fun lf ts ys H3 c st g hl hf hd l hl0 => q (.ref l) _ ts (c.trans (.of (same_upd hl0))) (st.same (same_upd hl0)) g hl (.tup upd_same (hd.same (same_upd hl0)))
      refine i_seq (i_if (i_test (i_op (i_call ⟨_, rfl, p, lc, ll, 3, _, rfl, by omega, by omega, hS, by omega, fun r H3 r0 r1 rC rS => ⟨rfl, _, rfl, ?_⟩⟩))))
      have rf := rC _ _ hf nlp nll
      have rys := rC.dtAll hS (noL_ties ts) hys
      have C3 := hC.trans rC
      have S3 : StA H3 p lc ll (b + 30) := rS.mono (by omega)
      by_cases hr0 : r = 0
      · subst hr0
        rw [decide_eq_true rfl]
        refine iteT (i_asg (i_CB (i_cons (lcLS (Cnd := fun H4 => Same H3 H4) (enc := tieD) (ds := ts) (G := fun t => some (tieD (flip n t))) (fun R hR => ⟨_, rfl, hR lf ys H3 (Same.refl _) rf rys⟩) (fun d e h => ?_) (by omega)
          (fun H4 x t H5 e4 hm e5 hx => ?_) fun H4 D H5 zs e4 hD e5 h5 h6 => ?_))))
        · cases h
          exact noL_tie _
        · obtain ⟨Tp, rfl, hT⟩ := hx.tie
          refine .yes fun R hs => g2_of hT ⟨rfl, _, rfl, _, _, rfl, rfl, _, rfl, _, _, rfl, rfl, _, rfl, _, _, rfl, rfl, _, rfl, _, _, rfl, rfl, hsz _ (by simp), fun l hl => hs _ rfl _ _ (same_upd hl) (Dt.of_tie (p := flip n t) upd_same)⟩
        · rw [fm_some] at h6
          have e7 : ts.map (fun t => tieD (flip n t)) = (ts.map (flip n)).map tieD := by
            rw [List.map_map]
            rfl
          rw [e7] at h6
          refine ⟨D, zs, ts.map (flip n), rfl, h5, h6, PySem.W.AllAlike.of fun a b => by simp [tieD, PySem.W.alike, PySem.W.alikeAll], PySem.W.Sortable.tuples fun b => ⟨_, _, rfl⟩, fun b _ => by simp [tieD, PyData.depth, PyData.depthAll], fun vs l hd hl => ?_⟩
          dsimp only
          have es := (e4.trans e5).trans (same_upd (o := .lst vs) hl)
          have hp := List.mergeSort_perm (ts.map (flip n)) (PySem.W.dataLe false tieD)
          refine i_ret (i_CB ⟨_, rfl, l, vs, rfl, .inl ⟨SqL.of upd_same, fin l _ vs _ (C3.trans (.of es)) (S3.same es) (hts.good.flip hp (tie_sorted _)) ?_ upd_same (hd.same (same_upd hl))⟩⟩)
          rw [hp.length_eq, List.length_map]
          omega
      · rw [decide_eq_false (show ¬ V.int r = V.int 0 from fun z => hr0 (V.int.inj z))]
        refine iteF (i_next ?_)
        dsimp only
        exact i_ret (i_CB ⟨_, rfl, lf, ys, rfl, .inl ⟨SqL.of rf, fin lf ts ys H3 C3 S3 hts.good (by omega) rf rys⟩⟩)
end
end K1
namespace K1
open PySem PySem.Spec PyProof.Rows L2 LamX NdefX
section
variable {X : Cx}
/-- f(e, ..), f's body walked under this very frame (what is known of X.A may be used) -/
theorem pe_callO {f : Addr} {fd : FuncData} {x : Str} {st : Stmt} {sp : Sp} {N ps : List Str} {k : Nat} {p pos : Pos} {e : Expr} {es : List Expr} {t : TA} (F : FnP X.K x st f fd) (S : FnScope N ps (defScope st)) (hb : Binds X.K fd ps []) (len : ∀ vs H Q E, sp vs H Q E → vs.length = ps.length) (hr : Room (k + 1) X.A)
    (hbody : ∀ (cdv : Value) (s : Shared) (H : Hp) (vs : List V) (Q : VK), Room k (X.A.deeper (envOfC x (defScope st) s.heap.objs.size f cdv)) → sp vs H Q L2.E0 →
      ∃ t, PSs (cxOf L2.CX0 X.prog X.w X.K X.mg X.base N x (defScope st) f cdv X.A X.stack s H L2.E0).nox (defBody st) t ∧ t { nx := fun _ H' => Q .non H', rt := Q } (L2.start N vs) H)
    (hg : Gl X x) (hm : X.mg x = some (.ref f)) (ha : PA X (e :: es) t) (hdb : (x == ("__debug__" : Str)) = false := by decide)
    (he : starEach (e :: es) X.env = (false, eval e X.env) :: starEach es X.env := by rfl) (hpl : (backTo pos (starEach es X.env)).any (·.1) = false := by rfl) : PE X (.Call (.Name x p) (e :: es) [] pos) (tCall sp [] L2.E0 t) := by
  refine ⟨fun pins s σ H Q I h => ?_⟩
  refine wpAny_Call_Name_kw (ld_glob I hg hm ?_ hdb)
  refine PySem.W.callWith_K (h₀ := X.base) I.ok.mod.kin F.kp (thn (ha.run pos pins s σ H _ I h) fun us s1 ⟨vs, H1, I1, r, q⟩ => ⟨I1.kIn, ?_⟩) he hpl
  have q : sp (vs ++ []) H1 Q L2.E0 := q
  rw [List.append_nil] at q
  have hl := len _ _ _ _ q
  have hbd := hb s1 us I1.kIn (by rw [List.append_nil, ← r.length]; exact hl)
  rw [List.append_nil] at hbd
  obtain ⟨oc, od, dV, kV, doc, pm, an, cdv, ct, osl, rfl, lk, hcd, _, _⟩ := F.ex
  have rc : codeAny (model X.prog X.w) X.A (.call (.ref f) ⟨us, []⟩) (CR L2.CX0 X.stack X.prog X.w H1 s1 Q L2.E0) s1 :=
    run_ofS lk hcd S hr I1.env0 hbd r hl fun hr' => by
      obtain ⟨t', ht', hq'⟩ := hbody cdv s1 H1 vs Q hr' q
      exact ⟨t', ht'.nox, hq'⟩
  refine wpAny_call (codeAny_mono rc fun r s2 hq => ?_)
  cases r with
  | error e => exact (show False from hq).elim
  | ok fl =>
    cases fl with
    | ret u => exact I1.after hq
    | next => exact False.elim hq
    | brk => exact False.elim hq
    | cont => exact False.elim hq
end
theorem tabs_chg {T : List (Addr × Str)} {H H' : Hp} {p lc ll : Addr} {b : Int} (t : Tabs T H) (s : StA H p lc ll b) (c : Chg p ll H H') : Tabs T H' := fun q hq => by
  obtain ⟨⟨cs, ls, a, hp, _, hl, _⟩, _⟩ := s
  obtain ⟨ps, h1, h2, h3⟩ := t q hq
  refine ⟨ps, c _ _ h1 (ne_of h1 hp (fun z => nomatch z)) (ne_of h1 hl (fun z => nomatch z)), h2, fun pos cv hc => ?_⟩
  obtain ⟨d, e1, e2⟩ := h3 pos cv hc
  exact ⟨d, e1, c _ _ e2 (ne_of e2 hp (fun z => by unfold CodeO at z; cases z)) (ne_of e2 hl (fun z => by unfold CodeO at z; cases z))⟩
theorem StA.ext {H H' : Hp} {p lc ll : Addr} {b : Int} (s : StA H p lc ll b) (e : ExtN H H') : StA H' p lc ll b := by
  obtain ⟨⟨cs, ls, a, h1, h2, h3, r⟩, ne⟩ := s
  exact ⟨⟨cs, ls, a, e _ _ h1 (fun _ z => nomatch z), e _ _ h2 (fun _ z => nomatch z), e _ _ h3 (fun _ z => nomatch z), r⟩, ne⟩
/-! ### small data -/
theorem small_ints : ∀ {l : List Int}, (∀ x ∈ l, 0 ≤ x ∧ x < 1000) → smallAll (l.map .int) = true
  | [], _ => by simp [smallAll]
  | x :: l, h => by
    have h1 := h x (by simp)
    have h2 : x.natAbs < 2 ^ 20 := by omega
    simp only [List.map_cons, smallAll, smallD, Bool.and_eq_true, decide_eq_true_eq]
    exact ⟨h2, small_ints fun y hy => h y (by simp [hy])⟩
theorem wt_ints : ∀ l : List Int, wtAll (l.map .int) = 26 * l.length
  | [] => by simp [wtAll]
  | x :: l => by
    simp only [List.map_cons, wtAll, wt, wt_ints l, List.length_cons]
    omega
theorem small_lots : ∀ {ls : List (List Int)}, (∀ l ∈ ls, ∀ x ∈ l, 0 ≤ x ∧ x < 1000) → smallAll (ls.map lotD) = true
  | [], _ => by simp [smallAll]
  | l :: ls, h => by
    simp only [List.map_cons, smallAll, Bool.and_eq_true]
    refine ⟨?_, small_lots fun m hm => h m (by simp [hm])⟩
    simp only [lotD, smallD]
    exact small_ints (h l (by simp))
theorem wt_lots {b : Nat} : ∀ {ls : List (List Int)}, (∀ l ∈ ls, l.length ≤ b) → wtAll (ls.map lotD) ≤ ls.length * (26 * b + 5)
  | [], _ => by simp [wtAll]
  | l :: ls, h => by
    have h1 := h l (by simp)
    have ih := wt_lots (ls := ls) fun m hm => h m (by simp [hm])
    simp only [List.map_cons, wtAll, List.length_cons]
    have e : wt (lotD l) = 3 + 26 * l.length := by
      simp only [lotD, wt, wt_ints]
    have h3 : 26 * l.length + 5 ≤ 26 * b + 5 := by omega
    rw [e]
    generalize 26 * b + 5 = M at ih h3 ⊢
    have h4 : (ls.length + 1) * M = ls.length * M + M := by rw [Nat.add_mul, Nat.one_mul]
    omega
theorem depth_lots : ∀ ls : List (List Int), PyData.depthAll (ls.map lotD) ≤ 1
  | [] => by simp [PyData.depthAll]
  | l :: ls => by
    have ih := depth_lots ls
    simp only [List.map_cons, PyData.depthAll, lotD, PyData.depth, depthAll_ints]
    omega
theorem closed_mem {n : Nat} {ties : List Tie} {l : List Int} (h : l ∈ closedL n ties) : l ∈ lots n := (List.mem_filter.mp h).1
theorem shw_two {n : Nat} {ties : List Tie} (hn : n ≤ 5) : Shw (.list [.tuple ((closedL n ties).map lotD), .tuple ((closedL n ties).map lotD)]) := by
  have hl : ∀ l ∈ closedL n ties, l.length ≤ 5 := fun l hl => Nat.le_trans (subs_len_le n l (lots_mem.mp (closed_mem hl))) hn
  have hlen : (closedL n ties).length ≤ 32 := by
    have h1 : (closedL n ties).length ≤ (lots n).length := List.length_filter_le _ _
    rw [lots_length] at h1
    exact Nat.le_trans h1 (Nat.le_trans (Nat.pow_le_pow_right (by decide) hn) (by decide))
  have hs : smallAll ((closedL n ties).map lotD) = true := small_lots fun l hl x hx => by
    have := subs_range n l (lots_mem.mp (closed_mem hl)) x hx
    omega
  have hw := wt_lots hl
  have hd := depth_lots (closedL n ties)
  refine ⟨?_, ?_, ?_⟩
  · simp [smallD, smallAll, hs]
  · simp only [wt, wtAll]
    have : (closedL n ties).length * (26 * 5 + 5) ≤ 32 * 135 := Nat.mul_le_mul hlen (by decide)
    omega
  · simp only [PyData.depth, PyData.depthAll]
    omega
theorem shw_bool (b : Bool) : Shw (.bool b) := ⟨by simp [smallD], by simp [wt], by simp [PyData.depth]⟩
end K1
namespace K1
open PySem PySem.Spec PyProof.Rows L2 LamX NdefX
/-- what the law's own tops are -/
structure LwG (K : PySem.W.Frag) (mg : Str → Option Value) : Prop where
  draw : DrawG K mg
  fLots : ∃ f fd, mg "_law_lots" = some (.ref f) ∧ FnP K "_law_lots" sLLots f fd
  fClosed : ∃ f fd, mg "_law_closed" = some (.ref f) ∧ FnP K "_law_closed" sLClosed f fd
  fTies : ∃ f fd, mg "_law_ties" = some (.ref f) ∧ FnP K "_law_ties" sLTies f fd
  fBegin : ∃ f fd, mg "_law_begin" = some (.ref f) ∧ FnP K "_law_begin" sBegin f fd
  fGood : ∃ f fd, mg "_law_good" = some (.ref f) ∧ FnP K "_law_good" sGood f fd
  fHeard : ∃ f fd, mg "_law_heard" = some (.ref f) ∧ FnP K "_law_heard" sHeard f fd
/-- a statement, then the rest from what is told between -/
def tMid (M : L2.St → Hp → Prop) (t u : TS) : TS := fun D σ H => t { D with nx := M } σ H ∧ ∀ σ' H', M σ' H' → u D σ' H'
theorem pss_mid {X : Cx} (M : (D : Ends) → L2.St → Hp → L2.St → Hp → Prop) {st : Stmt} {rest : List Stmt} {t u : TS} (h1 : PS X st t) (h2 : PSs X rest u) : PSs X (st :: rest) (fun D σ H => t { D with nx := M D σ H } σ H ∧ ∀ σ' H', M D σ H σ' H' → u D σ' H') := by
  refine ⟨fun pins s σ H D I h => ?_⟩
  refine wpAny_execs_cons (thn (h1.run pins s σ H { D with nx := M D σ H } I h.1) fun f s1 q => ?_)
  cases f with
  | next =>
    obtain ⟨σ', H', I', q⟩ := q
    exact h2.run pins s1 σ' H' D I' (h.2 σ' H' q)
  | ret v => exact q
  | brk => exact q
  | cont => exact q
section
variable {sp : Sp} {E : XK} {i j k : Nat} {u v x : V} {σ : L2.St} {H : Hp} {Q : VK}
theorem i_call2 (hi : σ[i]? = some (some v)) (hj : σ[j]? = some (some u)) (h : sp [v, u] H Q E) : tCall sp [] E (tCons (tVar i) (tCons (tVar j) tNil)) σ H Q := ⟨v, hi, u, hj, h⟩
theorem i_call3 (hi : σ[i]? = some (some v)) (hj : σ[j]? = some (some u)) (hk : σ[k]? = some (some x)) (h : sp [v, u, x] H Q E) : tCall sp [] E (tCons (tVar i) (tCons (tVar j) (tCons (tVar k) tNil))) σ H Q := ⟨v, hi, u, hj, x, hk, h⟩
end
theorem last_at {H : Hp} {ys : List V} {init : List (List Int)} {l : List Int} (h : DtAll H ys ((init ++ [l]).map lotD)) : ∃ a, atI ys (-1) = some (.ref a) ∧ H a = some (.tup (l.map V.int)) := by
  have hl := h.length
  rw [List.length_map, List.length_append] at hl
  have hl' : ys.length = init.length + 1 := hl
  have e1 : ixN ys.length (-1) = some init.length := by
    unfold ixN
    rw [if_neg (by decide), if_pos (by omega)]
    congr 1
    omega
  have hx : init.length < ys.length := by omega
  obtain ⟨d, h1, h2⟩ := h.get (List.getElem?_eq_getElem hx)
  have h3 : ((init ++ [l]).map lotD)[init.length]? = some (lotD l) := by
    rw [List.getElem?_map, List.getElem?_append_right (Nat.le_refl _)]
    simp
  rw [h3] at h1
  cases h1
  obtain ⟨a, e, ha⟩ := h2.lot
  refine ⟨a, ?_, ha⟩
  unfold atI
  rw [e1]
  show ys[init.length]? = _
  rw [List.getElem?_eq_getElem hx, e]
theorem okN_nat {n : Nat} (h1 : 1 ≤ n) (h2 : n ≤ 6) : okN (.int (n : Int)) = true := by
  show (decide ((1 : Int) ≤ (n : Int)) && decide ((n : Int) ≤ 6)) = true
  rw [decide_eq_true (by omega), decide_eq_true (by omega)]
  rfl
theorem nOf_nat (n : Nat) : nOf (.int (n : Int)) = n := by
  show ((n : Int)).toNat = n
  omega
theorem tiesOf_ties (ties : List Tie) : tiesOf (.tuple (ties.map tieD)) = ties := by
  show (ties.map tieD).map tieOf = ties
  rw [List.map_map]
  have e : tieOf ∘ tieD = id := funext fun p => tie_of_D p
  rw [e, List.map_id]
theorem lotOf_lot (l : List Int) : lotOf (lotD l) = l := by
  show (l.map PyData.int).map intOf = l
  rw [List.map_map]
  have e : intOf ∘ PyData.int = id := funext fun p => rfl
  rw [e, List.map_id]
theorem any_closed {n : Nat} {ties : List Tie} {l : List Int} (h : l ∈ lots n) : (((closedL n ties).map lotD).any fun y => PyData.eqv y (lotD l)) = closedB ties l := by
  rw [List.any_map]
  have e : ((fun y => PyData.eqv y (lotD l)) ∘ lotD) = fun m => decide (m = l) := funext fun m => eqv_lot m l
  rw [e]
  cases hc : closedB ties l with
  | true => exact List.any_eq_true.mpr ⟨l, List.mem_filter.mpr ⟨h, hc⟩, decide_eq_true rfl⟩
  | false =>
    refine List.any_eq_false.mpr fun m hm z => ?_
    have := of_decide_eq_true z
    subst this
    rw [(List.mem_filter.mp hm).2] at hc
    cases hc
theorem canLay_lots : ∀ ls : List (List Int), PyData.canLayAll0 (ls.map lotD) = true
  | [] => by simp [PyData.canLayAll0]
  | l :: ls => by simp [PyData.canLayAll0, PyData.canLay0, lotD, canLayAll_ints, canLay_lots ls]
theorem canLay_lot (l : List Int) : (lotD l).canLay0 = true := by simp [lotD, PyData.canLay0, canLayAll_ints]
theorem depth_lot (l : List Int) : (lotD l).depth ≤ 20 := by simp [lotD, PyData.depth, depthAll_ints]
section
variable {P : Program} {w : World} {K : PySem.W.Frag} {mg : Str → Option Value} {base : Heap} {f f1 f2 f3 f4 : Addr} {fd fd1 fd2 fd3 fd4 : FuncData} {T : List (Addr × Str)} {CN CT : Addr}
/-! ### _law_good -/
def spGood (T : List (Addr × Str)) : Sp := fun vs H Q _ => ∃ (p lc ll : Addr) (b : Int), vs = [.ref p] ∧ StA H p lc ll b ∧ b ≤ 4000 ∧ Tabs T H ∧ ∀ H', StA H' p lc ll (b + 40) → Tabs T H' → Q (.bl true) H'
abbrev nGood : List Str := ["_law_state", "_law_many", "_law_ties_so", "_law_due", "_law_lot", "_law_odd", "_law_need", "_law_late"]
theorem scGood : FnScope nGood ["_law_state"] (defScope sGood) := ⟨rfl, rfl, rfl, by decide +kernel, rfl, by decide +kernel, by decide +kernel⟩
theorem bi_good (F : FnP K "_law_good" sGood f fd) : Binds K fd ["_law_state"] [] := F.bindsN fun _ _ _ _ _ _ us hl => match us, hl with | [_], _ => rfl
def MidG (T : List (Addr × Str)) (p lc ll : Addr) (b : Int) (σ : L2.St) (H : Hp) : Prop := ∃ (n : Nat) (t : V) (ties : List Tie), σ = [some (.ref p), some (.int (n : Int)), some t, none, none, none, none, none] ∧ 1 ≤ n ∧ n ≤ 5 ∧ StA H p lc ll (b + 40) ∧ Tabs T H ∧ Good n ties ∧ ties.length ≤ 25 ∧ Dt H t (.tuple (ties.map tieD))
theorem body_good {cdv : Value} {A : Around} {outer : List Env} {s : Shared} {H : Hp} {vs : List V} {Q : VK} (hgd : A.guards = some []) (G : PrG K mg CN CT) (L : LotsG K mg base T) (W : LwG K mg) (hr : Room 6 (A.deeper (envOfC "_law_good" (defScope sGood) s.heap.objs.size f cdv)))
    (h : spGood T vs H Q L2.E0) : ∃ t, PSs (cxOf L2.CX0 P w K mg base nGood "_law_good" (defScope sGood) f cdv A outer s H L2.E0).nox (defBody sGood) t ∧ t { nx := fun _ H' => Q .non H', rt := Q } (L2.start nGood vs) H := by
  obtain ⟨f1, fd1, g1, F1, G1⟩ := W.draw
  obtain ⟨f2, fd2, g2, F2⟩ := W.fTies
  have G2 : FnOk P w K mg base L2.CX0 3 f2 fd2 ["_law_state", "_law_many", "_law_chance"] spLTies := ok_lties F2 G.gs W.draw
  obtain ⟨f3, fd3, g3, F3⟩ := W.fLots
  have G3 : FnOk P w K mg base L2.CX0 1 f3 fd3 ["_law_many"] spLLots := ok_llots F3 G.gs
  obtain ⟨f4, fd4, g4, F4⟩ := W.fClosed
  have G4 : FnOk P w K mg base L2.CX0 2 f4 fd4 ["_law_many", "_law_ties_so"] spLClosed := ok_lclosed F4 F3 g3 G.gs
  obtain ⟨f5, fd5, g5, F5⟩ := G.fCloLots
  have G5 : FnOk P w K mg base (L2.CX P w) 6 f5 fd5 ["many", "ties"] (spCloLots T CN CT) := ok_clolots F5 G L
  obtain ⟨f6, fd6, g6, F6⟩ := G.fIsClos
  have G6 : FnOk P w K mg base (L2.CX P w) 6 f6 fd6 ["many", "ties", "value"] (spIsClos CN CT) := ok_isclos F6 G
  have hu := hr.units
  obtain ⟨p, lc, ll, b, rfl, hst, hb, hT, q⟩ := h
  refine ⟨_, pss_cons (ps_set (i := 1) scGood.nd rfl (.inr rfl) (pe_op op_add pe_int (pe_call G1 (hr.mono (by decide)) rfl g1 F1.kp (bi_draw F1) .nil L2.pass0 (pa_cons (pv 0) (pa_cons pe_int pa_nil)))))
    (pss_cons (ps_set (i := 2) scGood.nd rfl (.inl rfl) (pe_call G2 (hr.mono (by decide)) rfl g2 F2.kp (bi_lties F2) .nil L2.pass0 (pa_cons (pv 0) (pa_cons (pv 1) (pa_cons pe_int pa_nil)))))
    (pss_mid (fun _ _ _ σ' H' => MidG T p lc ll b σ' H') (ps_if (pt_cmpR op_eq (pe_call G1 (hr.mono (by decide)) rfl g1 F1.kp (bi_draw F1) .nil L2.pass0 (pa_cons (pv 0) (pa_cons pe_int pa_nil))) pe_int rfl)
      (pss_one (ps_set (i := 2) scGood.nd rfl (.inl rfl) (pe_callTy call_tuple_of rfl G.gs.tuple (by rfl) (pa_cons (pe_callB (cr_sortD (enc := tieD) hu) rfl G.gs.sorted (by rfl) (pa_cons (pe_lc (own := [("_law_need", 6), ("_law_late", 7)]) (te := teFlip 1 6 7) rfl scGood.nd (pi_tup (pv 2)) (blkOk_by (N := nGood) (sc := defScope sGood) (by decide +kernel))
        (fun _ _ _ _ _ => pg2 K 6 7 rfl scGood.nd rfl rfl rfl rfl rfl) (fun _ _ _ _ _ => pts_nil) (fun _ _ _ _ _ => pe_tup (pa_cons (pe_op op_sub (pe_op op_sub (pv 1) pe_int) (pv 6)) (pa_cons (pe_op op_sub (pe_op op_sub (pv 1) pe_int) (pv 7)) pa_nil)))) pa_nil)) pa_nil)))) pss_nil)
    (pss_cons (ps_set (i := 3) scGood.nd rfl (.inl rfl) (pe_callTy call_tuple_of rfl G.gs.tuple (by rfl) (pa_cons (pe_call G4 (hr.mono (by decide)) rfl g4 F4.kp (bi_lclosed F4) .nil L2.pass0 (pa_cons (pv 1) (pa_cons (pv 2) pa_nil))) pa_nil)))
    (pss_cons (ps_if (pt_cmpR op_ne (pe_callB (call_reprD hgd hu) rfl G.gs.repr (by rfl) (pa_cons (pe_lst (pa_cons (pe_call G5 hr rfl g5 F5.kp (bi_clolots F5) .nil L2.passL (pa_cons (pv 1) (pa_cons (pv 2) pa_nil))) (pa_cons (pe_call G5 hr rfl g5 F5.kp (bi_clolots F5) .nil L2.passL (pa_cons (pv 1) (pa_cons (pv 2) pa_nil))) pa_nil))) pa_nil))
        (pe_callB (call_reprD hgd hu) rfl G.gs.repr (by rfl) (pa_cons (pe_lst (pa_cons (pv 3) (pa_cons (pv 3) pa_nil))) pa_nil)) rfl) (pss_one (ps_ret pe_bl)) pss_nil)
    (pss_cons (ps_for PassesOwn.never rfl (pi_list (pe_call G3 (hr.mono (by decide)) rfl g3 F3.kp (bi_llots F3) .nil L2.pass0 (pa_cons (pv 1) pa_nil))) (pg_name (i := 4) scGood.nd rfl (.inl rfl) (.inr rfl))
      (pss_one (ps_if (pt_cmpR op_ne (pe_callB (call_reprD hgd hu) rfl G.gs.repr (by rfl) (pa_cons (pe_call G6 hr rfl g6 F6.kp (bi_isclos F6) .nil L2.passL (pa_cons (pv 1) (pa_cons (pv 2) (pa_cons (pv 4) pa_nil)))) pa_nil))
        (pe_callB (call_reprD hgd hu) rfl G.gs.repr (by rfl) (pa_cons (pe_cmpR (op_inD hu) (pv 4) (pv 3) rfl) pa_nil)) rfl) (pss_one (ps_ret pe_bl)) pss_nil)))
    (pss_cons (ps_for PassesOwn.never rfl (pi_tup (pe_tup (pa_cons pe_non (pa_cons (pe_callTy call_list_of rfl G.gs.list (by rfl) (pa_cons (pe_ix ix_tup (pv 3) (pe_un un_neg pe_int) (fun _ _ => rfl)) pa_nil)) (pa_cons (pe_tup (pa_cons (pv 1) pa_nil)) (pa_cons (pe_tup (pa_cons (pe_un un_neg pe_int) pa_nil)) (pa_cons (pe_tup (pa_cons pe_int (pa_cons pe_int pa_nil)))
        (pa_cons (pe_tup (pa_cons pe_str pa_nil)) (pa_cons (pe_tup (pa_cons pe_bl pa_nil)) (pa_cons (pe_op op_catA (pe_revT (pe_ix ix_tup (pv 3) (pe_un un_neg pe_int) (fun _ _ => rfl))) (pe_tup (pa_cons pe_int pa_nil))) pa_nil)))))))))) (pg_name (i := 5) scGood.nd rfl (.inl rfl) (.inr rfl))
      (pss_one (ps_if (pt_cmpR op_notBl (pe_call G6 hr rfl g6 F6.kp (bi_isclos F6) .nil L2.passL (pa_cons (pv 1) (pa_cons (pv 2) (pa_cons (pv 5) pa_nil)))) pe_bl rfl) (pss_one (ps_ret pe_bl)) pss_nil)))
    (pss_one (ps_ret pe_bl)))))))), ?_⟩
  have hsz : ∀ n : Nat, n ≤ 100000 → n ≤ sizeLine := fun n hn => by
    rw [sizeLine_eq]
    omega
  refine i_seq (i_asg ⟨_, rfl, p, lc, ll, 5, b, rfl, by decide, by decide, hst, by omega, fun r H1 r0 r1 c1 s1 => ⟨1, r, rfl, rfl, ?_⟩⟩)
  obtain ⟨n, hn⟩ : ∃ n : Nat, 1 + r = (n : Int) := ⟨(1 + r).toNat, by omega⟩
  dsimp only
  rw [hn]
  have n1 : 1 ≤ n := by omega
  have n5 : n ≤ 5 := by omega
  refine i_seq (i_asg (i_call ⟨_, rfl, _, rfl, p, lc, ll, n, 3, b + 1, rfl, n1, n5, by decide, by decide, s1, by omega, fun t H2 ties c2 s2 good hlen hd => ?_⟩))
  dsimp only
  have T2 : Tabs T H2 := tabs_chg (tabs_chg hT hst c1) s1 c2
  refine ⟨i_if (i_test (i_op (i_call ⟨_, rfl, p, lc, ll, 2, b + 1 + 30, rfl, by decide, by decide, s2, by omega, fun r2 H3 _ _ c3 s3 => ⟨rfl, _, rfl, ?_⟩⟩))), ?_⟩
  · have T3 : Tabs T H3 := tabs_chg T2 s2 c3
    have d3 := c3.dt s2 (by simp only [noL]; exact noL_ties ties) hd
    have S3 : StA H3 p lc ll (b + 40) := s3.mono (by omega)
    by_cases hr0 : r2 = 0
    · subst hr0
      rw [decide_eq_true rfl]
      obtain ⟨a, xs, rfl, ha, hxs⟩ := d3.tup_of
      refine iteT (i_asg (i_CB (i_cons (i_CB (i_cons (lcTS (Cnd := fun H4 => Same H3 H4) (enc := tieD) (ds := ties) (G := fun t => some (tieD (flip n t))) (fun R hR => ⟨_, rfl, hR a xs H3 (Same.refl _) ha hxs⟩) (fun d e h => ?_) (by omega)
        (fun H4 x t H5 e4 hm e5 hx => ?_) fun H4 D H5 zs e4 hD e5 h5 h6 => ?_))))))
      · cases h
        exact noL_tie _
      · obtain ⟨Tp, rfl, hT⟩ := hx.tie
        refine .yes fun R hs => g2_of hT ⟨rfl, _, rfl, _, _, rfl, rfl, _, rfl, _, _, rfl, rfl, _, rfl, _, _, rfl, rfl, _, rfl, _, _, rfl, rfl, hsz _ (by simp), fun l hl => hs _ rfl _ _ (same_upd hl) (Dt.of_tie (p := flip n t) upd_same)⟩
      · rw [fm_some] at h6
        have e7 : ties.map (fun t => tieD (flip n t)) = (ties.map (flip n)).map tieD := by
          rw [List.map_map]
          rfl
        rw [e7] at h6
        refine ⟨D, zs, ties.map (flip n), rfl, h5, h6, PySem.W.AllAlike.of fun a b => by simp [tieD, PySem.W.alike, PySem.W.alikeAll], PySem.W.Sortable.tuples fun b => ⟨_, _, rfl⟩, fun b _ => by simp [tieD, PyData.depth, PyData.depthAll], fun vs l hd hl => ?_⟩
        have es := (e4.trans e5).trans (same_upd (o := .lst vs) hl)
        have hp := List.mergeSort_perm (ties.map (flip n)) (PySem.W.dataLe false tieD)
        refine ⟨l, vs, rfl, .inl ⟨SqL.of upd_same, fun l2 hl2 => ⟨n, .ref l2, (ties.map (flip n)).mergeSort (PySem.W.dataLe false tieD), rfl, n1, n5, (S3.same es).same (same_upd hl2), (T3.ext es).ext (same_upd hl2), good.flip hp (tie_sorted _), ?_, .tup upd_same ((hd.same (same_upd hl)).same (same_upd hl2))⟩⟩⟩
        rw [hp.length_eq, List.length_map]
        exact hlen
    · rw [decide_eq_false (show ¬ V.int r2 = V.int 0 from fun z => hr0 (V.int.inj z))]
      exact iteF (i_next ⟨n, t, ties, rfl, n1, n5, S3, T3, good, hlen, d3⟩)
  clear s1 s2 c1 c2 hd hst hT T2 good hlen hn n1 n5 r0 r1
  rintro σ H3 ⟨n, t, ties, rfl, n1, n5, S3, T3, good, hlen, d3⟩
  refine i_seq (i_asg (i_CB (i_cons (i_call ⟨_, rfl, _, rfl, n, t, ties, rfl, by omega, d3, by omega, fun pl H4 ys e4 h4 d4 => ⟨pl, ys, rfl, .inl ⟨SqL.of h4, fun du hdu => ?_⟩⟩⟩))))
  dsimp only
  have e5 : Same H3 (upd H4 du (.tup ys)) := e4.trans (same_upd hdu)
  have du5 : (upd H4 du (.tup ys)) du = some (.tup ys) := upd_same
  have dy5 := d4.same (same_upd (o := .tup ys) hdu)
  generalize upd H4 du (.tup ys) = H5 at e5 du5 dy5 ⊢
  have S5 := S3.same e5
  have T5 := T3.ext e5
  have d5 := d3.same e5
  have hok := okN_nat n1 (Nat.le_trans n5 (by decide))
  have hare : areTiesB (nOf (.int (n : Int))) (.tuple (ties.map tieD)) = true := by
    rw [nOf_nat]
    exact good.are
  have hlk : lenOk (.tuple (ties.map tieD)) := by
    show (ties.map tieD).length ≤ 10000
    rw [List.length_map]
    omega
  -- what the two calls give
  have two : ∀ (H' : Hp), Gr T H5 H' → ∀ (R : VK), (∀ p1 H6 ys1, Gr T H5 H6 → Gr T H' H6 → H6 p1 = some (.tup ys1) → DtAll H6 ys1 ((closedL n ties).map lotD) → R (.ref p1) H6) → spCloLots T CN CT [.int (n : Int), t] H' R L2.E0 := fun H' g R hR =>
    ⟨.int (n : Int), t, .int (n : Int), .tuple (ties.map tieD), rfl, .int _, d5.ext g.ext, hlk, (fun z => by rw [hok] at z; cases z), fun _ => ⟨(fun z => by rw [hare] at z; cases z), fun _ => ⟨g.tab, fun p1 H6 ys1 g6 h6 d6 => by
      rw [nOf_nat, tiesOf_ties] at d6
      exact hR p1 H6 ys1 (g.trans g6) g6 h6 d6⟩⟩⟩
  have g0 : Gr T H5 H5 := ⟨ExtN.refl _, T5⟩
  refine i_seq (i_if (i_test (i_op (i_CB (i_cons (i_lst (i_cons (i_call2 rfl rfl (two H5 g0 _ fun p1 H6 ys1 g6 _ h6 d6 => ?_)))))))))
  refine i_cons (i_call2 rfl rfl (two H6 g6 _ fun p2 H7 ys2 g7 g67 h7 d7 => ⟨hsz _ (by simp), fun pl hpl => ?_⟩))
  have e8 : Same H7 (upd H7 pl (.lst [.ref p1, .ref p2])) := same_upd hpl
  refine ⟨.ref pl, .list [.tuple ((closedL n ties).map lotD), .tuple ((closedL n ties).map lotD)], rfl, .lst upd_same (.cons ((Dt.tup (g67.ext _ _ h6 (fun _ z => nomatch z)) (d6.ext g67.ext)).same e8) (.cons ((Dt.tup h7 d7).same e8) .nil)), shw_two n5, ?_⟩
  have g8 : Gr T H5 (upd H7 pl (.lst [.ref p1, .ref p2])) := g7.same e8
  generalize upd H7 pl (.lst [.ref p1, .ref p2]) = H8 at g8 ⊢
  have du8 := g8.ext _ _ du5 (fun _ z => nomatch z)
  refine i_CB (i_cons (i_lst ⟨_, rfl, _, rfl, hsz _ (by simp), fun pl2 hpl2 => ?_⟩))
  have e9 : Same H8 (upd H8 pl2 (.lst [.ref du, .ref du])) := same_upd hpl2
  refine ⟨.ref pl2, .list [.tuple ((closedL n ties).map lotD), .tuple ((closedL n ties).map lotD)], rfl, .lst upd_same (.cons ((Dt.tup du8 (dy5.ext g8.ext)).same e9) (.cons ((Dt.tup du8 (dy5.ext g8.ext)).same e9) .nil)), shw_two n5, rfl, _, rfl, ?_⟩
  rw [decide_eq_true rfl]
  refine iteF (i_next ?_)
  dsimp only
  have g9 := g8.same e9
  generalize upd H8 pl2 (.lst [.ref du, .ref du]) = H9 at g9 ⊢
  have S9 := S5.ext g9.ext
  have T9 := g9.tab
  have d9 := d5.ext g9.ext
  have du9 := g9.ext _ _ du5 (fun _ z => nomatch z)
  have dy9 := dy5.ext g9.ext
  clear two g0
  -- is_closed, told
  have clo : ∀ (H' : Hp) (x : V) (dx : PyData), Same H9 H' → Dt H' x dx → lenOk dx → ∀ R : VK, (∀ H'', Same H' H'' → R (.bl (plainB n dx && closedB ties (lotOf dx))) H'') → spIsClos CN CT [.int (n : Int), t, x] H' R L2.E0 := fun H' x dx e hx hl R hR =>
    ⟨.int (n : Int), t, x, .int (n : Int), .tuple (ties.map tieD), dx, rfl, .int _, d9.same e, hx, hlk, hl, (fun z => by rw [hok] at z; cases z), fun _ => ⟨(fun z => by rw [hare] at z; cases z), fun _ H'' e'' => by
      rw [nOf_nat, tiesOf_ties]
      exact hR H'' e''⟩⟩
  refine i_seq (i_for (i_iList (i_call ⟨_, rfl, n, rfl, by omega, fun pl H10 zs e10 hpl hzs => ⟨pl, rfl, ⟨zs, SqL.of hpl⟩, ?_⟩⟩)))
  have hzl : zs.length = (lots n).length := by
    have := hzs.length
    rwa [List.length_map] at this
  refine for_list (xs := zs) (fun i σ H' => ∃ o4, σ = [some (.ref p), some (.int (n : Int)), some t, some (.ref du), o4, none, none, none] ∧ Same H9 H' ∧ H' pl = some (.lst zs) ∧ DtAll H' zs ((lots n).map lotD)) ⟨none, rfl, e10, hpl, hzs⟩ (fun i σ H' _ hP => ?_) (fun i x σ H' hi hP => ?_) (fun σ H' hP => ?_)
  · obtain ⟨o4, rfl, S, hp, _⟩ := hP
    exact SqL.of hp
  · obtain ⟨o4, rfl, S, hp, hd⟩ := hP
    obtain ⟨l, hl1, hl2, hx⟩ := hd.at hi
    have hll := subs_len_le n l (lots_mem.mp hl2)
    have hlk2 : lenOk (lotD l) := by
      show (l.map PyData.int).length ≤ 10000
      rw [List.length_map]
      omega
    refine i_if (i_test (i_op (i_CB (i_cons (i_call3 rfl rfl rfl (clo H' x (lotD l) S hx hlk2 _ fun H'' e'' => ⟨_, _, rfl, .bl _, shw_bool _, ?_⟩))))))
    refine i_CB (i_cons (i_op ⟨_, rfl, _, rfl, (closedL n ties).map lotD, lotD l, (Dt.tup du9 dy9).same (S.trans e''), hx.same e'', canLay_lots _, canLay_lot l, depth_lot l, _, .bool _, rfl, .bl _, shw_bool _, rfl, _, rfl, ?_⟩))
    rw [any_closed hl2, plain_lot hl2, Bool.true_and, lotOf_lot, decide_eq_true rfl]
    exact iteF (i_next ⟨some x, rfl, S.trans e'', e'' _ _ hp, hd.same e''⟩)
  · obtain ⟨o4, rfl, S, hp, hd⟩ := hP
    dsimp only
    obtain ⟨init, hinit⟩ := closedL_last (ties := ties) n1 n5 fun q hq => (good.rng q hq).1
    have dy := dy9.same S
    have hdu := S _ _ du9
    rw [hinit] at dy
    obtain ⟨la, hla, hlt⟩ := last_at dy
    have Sx : StA H' p lc ll (b + 40) := S9.same S
    have Tx : Tabs T H' := T9.ext S
    -- the odd ones
    refine i_seq (i_for (i_iTup (i_tup ⟨_, rfl, 1, rfl, du, ys, -1, .ref la, rfl, rfl, SqT.of hdu, hla, la, (full n).map V.int, rfl, .inr (SqT.of hlt), fun l1 hl1 => ?_⟩)))
    have x1 : Same H' (upd H' l1 (.lst ((full n).map V.int))) := same_upd hl1
    have y1 : Dt (upd H' l1 (.lst ((full n).map V.int))) (.ref l1) (.list ((full n).map .int)) := .lst upd_same (.ints _)
    generalize upd H' l1 (.lst ((full n).map V.int)) = J1 at x1 y1 ⊢
    refine i_cons (i_tup ⟨_, rfl, hsz _ (by simp), fun l2 hl2 => ?_⟩)
    have x2 : Same J1 (upd J1 l2 (.tup [.int (n : Int)])) := same_upd hl2
    have y2 : Dt (upd J1 l2 (.tup [.int (n : Int)])) (.ref l2) (.tuple [.int (n : Int)]) := .tup upd_same (.cons (.int _) .nil)
    generalize upd J1 l2 (.tup [.int (n : Int)]) = J2 at x2 y2 ⊢
    refine i_cons (i_tup ⟨1, rfl, hsz _ (by simp), fun l3 hl3 => ?_⟩)
    have x3 : Same J2 (upd J2 l3 (.tup [.int (-1)])) := same_upd hl3
    have y3 : Dt (upd J2 l3 (.tup [.int (-1)])) (.ref l3) (.tuple [.int (-1)]) := .tup upd_same (.cons (.int _) .nil)
    generalize upd J2 l3 (.tup [.int (-1)]) = J3 at x3 y3 ⊢
    refine i_cons (i_tup ⟨hsz _ (by simp), fun l4 hl4 => ?_⟩)
    have x4 : Same J3 (upd J3 l4 (.tup [.int 0, .int 0])) := same_upd hl4
    have y4 : Dt (upd J3 l4 (.tup [.int 0, .int 0])) (.ref l4) (.tuple [.int 0, .int 0]) := .tup upd_same (.cons (.int _) (.cons (.int _) .nil))
    generalize upd J3 l4 (.tup [.int 0, .int 0]) = J4 at x4 y4 ⊢
    refine i_cons (i_tup ⟨hsz _ (by simp), fun l5 hl5 => ?_⟩)
    have x5 : Same J4 (upd J4 l5 (.tup [.str "0"])) := same_upd hl5
    have y5 : Dt (upd J4 l5 (.tup [.str "0"])) (.ref l5) (.tuple [.str "0"]) := .tup upd_same (.cons (.str _) .nil)
    generalize upd J4 l5 (.tup [.str "0"]) = J5 at x5 y5 ⊢
    refine i_cons (i_tup ⟨hsz _ (by simp), fun l6 hl6 => ?_⟩)
    have x6 : Same J5 (upd J5 l6 (.tup [.bl true])) := same_upd hl6
    have y6 : Dt (upd J5 l6 (.tup [.bl true])) (.ref l6) (.tuple [.bool true]) := .tup upd_same (.cons (.bl _) .nil)
    generalize upd J5 l6 (.tup [.bl true]) = J6 at x6 y6 ⊢
    have s16 : Same H' J6 := ((((x1.trans x2).trans x3).trans x4).trans x5).trans x6
    refine i_cons (i_op ⟨_, rfl, 1, rfl, du, ys, -1, .ref la, rfl, rfl, SqT.of (s16 _ _ hdu), hla, la, (full n).map V.int, rfl, SqT.of (s16 _ _ hlt), fun l7 hl7 => ⟨hsz _ (by simp), fun l8 hl8 => ?_⟩⟩)
    have x7 : Same J6 (upd J6 l7 (.tup ((full n).map V.int).reverse)) := same_upd hl7
    have x8 : Same (upd J6 l7 (.tup ((full n).map V.int).reverse)) (upd (upd J6 l7 (.tup ((full n).map V.int).reverse)) l8 (.tup [.int 0])) := same_upd hl8
    have y7 := x8 _ _ (upd_same (H := J6) (a := l7) (o := .tup ((full n).map V.int).reverse))
    have y8 : (upd (upd J6 l7 (.tup ((full n).map V.int).reverse)) l8 (.tup [.int 0])) l8 = some (.tup [.int 0]) := upd_same
    generalize upd (upd J6 l7 (.tup ((full n).map V.int).reverse)) l8 (.tup [.int 0]) = J8 at x8 y7 y8 ⊢
    have hrev : ((full n).map V.int).reverse ≠ [] := fun z => full_ne n1 (List.map_eq_nil_iff.mp (List.reverse_eq_nil_iff.mp z))
    have hfl : (full n).length = n := by
      unfold full
      rw [List.length_map, List.length_range]
    refine ⟨l7, l8, ((full n).map V.int).reverse, [.int 0], rfl, rfl, SqT.of y7, SqT.of y8, hsz _ (by rw [List.length_reverse, List.length_map, hfl]; simp; omega), fun z => absurd z hrev, fun _ z => absurd z (by simp), fun _ _ l9 hl9 => ?_⟩
    have x9 : Same J8 (upd J8 l9 (.tup (((full n).map V.int).reverse ++ [.int 0]))) := same_upd hl9
    have y9 : Dt (upd J8 l9 (.tup (((full n).map V.int).reverse ++ [.int 0]))) (.ref l9) (lotD ((full n).reverse ++ [0])) := Dt.of_lot (by rw [upd_same, List.map_append, List.map_reverse]; rfl)
    generalize upd J8 l9 (.tup (((full n).map V.int).reverse ++ [.int 0])) = J9 at x9 y9 ⊢
    refine ⟨hsz _ (by simp), fun pt hpt => ?_⟩
    have x10 : Same J9 (upd J9 pt (.tup [.non, .ref l1, .ref l2, .ref l3, .ref l4, .ref l5, .ref l6, .ref l9])) := same_upd hpt
    have y10 : (upd J9 pt (.tup [.non, .ref l1, .ref l2, .ref l3, .ref l4, .ref l5, .ref l6, .ref l9])) pt = some (.tup [.non, .ref l1, .ref l2, .ref l3, .ref l4, .ref l5, .ref l6, .ref l9]) := upd_same
    generalize upd J9 pt (.tup [.non, .ref l1, .ref l2, .ref l3, .ref l4, .ref l5, .ref l6, .ref l9]) = J at x10 y10 ⊢
    have t9 : Same J9 J := x10
    have t6 : Same J6 J := ((x7.trans x8).trans x9).trans t9
    have t5 := x6.trans t6
    have t4 := x5.trans t5
    have t3 := x4.trans t4
    have t2 := x3.trans t3
    have t1 := x2.trans t2
    have dJ : DtAll J [.non, .ref l1, .ref l2, .ref l3, .ref l4, .ref l5, .ref l6, .ref l9] [.none, .list ((full n).map .int), .tuple [.int (n : Int)], .tuple [.int (-1)], .tuple [.int 0, .int 0], .tuple [.str "0"], .tuple [.bool true], lotD ((full n).reverse ++ [0])] :=
      .cons .non (.cons (y1.same t1) (.cons (y2.same t2) (.cons (y3.same t3) (.cons (y4.same t4) (.cons (y5.same t5) (.cons (y6.same t6) (.cons (y9.same t9) .nil)))))))
    have odd : ∀ d ∈ [PyData.none, .list ((full n).map .int), .tuple [.int (n : Int)], .tuple [.int (-1)], .tuple [.int 0, .int 0], .tuple [.str "0"], .tuple [.bool true], lotD ((full n).reverse ++ [0])], plainB n d = false ∧ lenOk d := by
      intro d hd
      simp only [List.mem_cons, List.not_mem_nil, or_false] at hd
      rcases hd with rfl | rfl | rfl | rfl | rfl | rfl | rfl | rfl
      · exact ⟨rfl, trivial⟩
      · exact ⟨rfl, trivial⟩
      · refine ⟨?_, by show 1 ≤ 10000; decide⟩
        have e : betw 0 ((n : Int) - 1) (.int (n : Int)) = false := by
          show (decide ((0 : Int) ≤ (n : Int)) && decide ((n : Int) ≤ (n : Int) - 1)) = false
          rw [decide_eq_false (show ¬ (n : Int) ≤ (n : Int) - 1 by omega), Bool.and_false]
        show ([PyData.int (n : Int)].all (betw 0 ((n : Int) - 1)) && _) = false
        rw [List.all_cons, e, Bool.false_and, Bool.false_and]
      · exact ⟨rfl, by show 1 ≤ 10000; decide⟩
      · refine ⟨?_, by show 2 ≤ 10000; decide⟩
        show (_ && (decide ((0 : Int) < 0) && true)) = false
        rw [decide_eq_false (show ¬ (0 : Int) < 0 by decide), Bool.false_and, Bool.and_false]
      · exact ⟨rfl, by show 1 ≤ 10000; decide⟩
      · exact ⟨rfl, by show 1 ≤ 10000; decide⟩
      · refine ⟨odd_back n n1 n5, ?_⟩
        show (((full n).reverse ++ [0]).map PyData.int).length ≤ 10000
        rw [List.length_map, List.length_append, List.length_reverse, hfl]
        simp
        omega
    have SJ : Same H' J := s16.trans t6
    have clo' := fun (H'' : Hp) (e : Same J H'') => clo H''
    refine ⟨pt, rfl, ⟨_, SqT.of y10⟩, for_tup (xs := [.non, .ref l1, .ref l2, .ref l3, .ref l4, .ref l5, .ref l6, .ref l9]) (fun i σ K' => ∃ o5, σ = [some (.ref p), some (.int (n : Int)), some t, some (.ref du), o4, o5, none, none] ∧ Same J K') ⟨none, rfl, Same.refl _⟩ (fun i σ K' _ hP => ?_) (fun i x σ K' hi hP => ?_) (fun σ K' hP => ?_)⟩
    · obtain ⟨o5, rfl, SK⟩ := hP
      exact SqT.of (SK _ _ y10)
    · obtain ⟨o5, rfl, SK⟩ := hP
      obtain ⟨d, h1, h2⟩ := dJ.get hi
      obtain ⟨hpl, hlo⟩ := odd d (List.mem_of_getElem? h1)
      refine i_if (i_test (i_op (i_call3 rfl rfl rfl (clo K' x d ((S.trans SJ).trans SK) (h2.same SK) hlo _ fun H'' e'' => ⟨_, false, rfl, rfl, _, rfl, ?_⟩))))
      rw [hpl, Bool.false_and, decide_eq_true rfl]
      exact iteF (i_next ⟨some x, rfl, SK.trans e''⟩)
    · obtain ⟨o5, rfl, SK⟩ := hP
      exact q K' ((Sx.same SJ).same SK) ((Tx.ext SJ).ext SK)
end
end K1
namespace K1
open PySem PySem.Spec PyProof.Rows L2 LamX NdefX
/-! ### what a display makes -/
def Mk (te : TE) (σ : L2.St) (d : PyData) : Prop := ∀ H (R : VK), (∀ v H', Same H H' → Dt H' v d → R v H') → te σ H R
def MkA (ta : TA) (σ : L2.St) (ds : List PyData) : Prop := ∀ H (R : List V → Hp → Prop), (∀ vs H', Same H H' → DtAll H' vs ds → R vs H') → ta σ H R
section
variable {σ : L2.St} {te : TE} {ta : TA} {d : PyData} {ds : List PyData}
theorem Mk.non : Mk (tC .non) σ .none := fun H R h => h _ H (Same.refl H) .non
theorem Mk.int (i : Int) : Mk (tC (.int i)) σ (.int i) := fun H R h => h _ H (Same.refl H) (.int i)
theorem Mk.bl (b : Bool) : Mk (tC (.bl b)) σ (.bool b) := fun H R h => h _ H (Same.refl H) (.bl b)
theorem Mk.str (x : Str) : Mk (tC (.str x)) σ (.str x) := fun H R h => h _ H (Same.refl H) (.str x)
theorem Mk.neg (i : Int) : Mk (tUn (rU fun i => .int (-i)) (tC (.int i))) σ (.int (-i)) := fun H R h => ⟨i, rfl, h _ H (Same.refl H) (.int (-i))⟩
theorem MkA.nil : MkA tNil σ [] := fun H R h => h [] H (Same.refl H) .nil
theorem MkA.cons (h1 : Mk te σ d) (h2 : MkA ta σ ds) : MkA (tCons te ta) σ (d :: ds) := fun H R h => h1 H _ fun v H1 e1 d1 => h2 H1 _ fun vs H2 e2 d2 => h (v :: vs) H2 (e1.trans e2) (.cons (d1.same e2) d2)
theorem Mk.tup (h : MkA ta σ ds) (hz : ds.length ≤ 1000) : Mk (tTup ta) σ (.tuple ds) := fun H R hR => h H _ fun vs H1 e1 d1 => ⟨by rw [sizeLine_eq, d1.length]; omega, fun p hp => hR (.ref p) _ (e1.trans (same_upd hp)) (.tup upd_same (d1.same (same_upd hp)))⟩
theorem Mk.lst (h : MkA ta σ ds) (hz : ds.length ≤ 1000) : Mk (tLst ta) σ (.list ds) := fun H R hR => h H _ fun vs H1 e1 d1 => ⟨by rw [sizeLine_eq, d1.length]; omega, fun p hp => hR (.ref p) _ (e1.trans (same_upd hp)) (.lst upd_same (d1.same (same_upd hp)))⟩
end
/-! ### what the lambdas bind -/
theorem DOk.nil {H : Hp} {dV : Value} (h : DOk H dV []) : dV = .none := by
  rcases h with h | ⟨h, _⟩
  · exact h.1
  · exact absurd rfl h
theorem lamB0 {params : Arguments} {body : Expr} {scope : Scope} (h : ∀ (q : Str) (cl : List (Str × Addr)) (doc pm ctv : Value) (c' : Addr), bindArgs (PySem.W.kdv_fn "<lambda>" q params (.expr body) scope cl .none doc pm (.ref c') ctv) ⟨[], []⟩ = pure []) :
    LamBind params body scope [] [] [] [] := fun q cl dV doc pm ctv c' P w H s us _ hd r => by
  cases r
  rw [hd.nil]
  exact ⟨[], .nil, .of_eq (h q cl doc pm ctv c')⟩
theorem lamB1 {params : Arguments} {body : Expr} {scope : Scope} {x : Str} {v : V} (h : ∀ (q : Str) (cl : List (Str × Addr)) (doc pm ctv : Value) (c' T : Addr), ∃ k : Option (Array Value) → Sem (List (Str × Value)),
      bindArgs (PySem.W.kdv_fn "<lambda>" q params (.expr body) scope cl (.ref T) doc pm (.ref c') ctv) ⟨[], []⟩ = seqItems? (.ref T) >>= k ∧ ∀ u, k (some #[u]) = pure [(x, u)]) :
    LamBind params body scope [x] [] [v] [v] := fun q cl dV doc pm ctv c' P w H s us hok hd r => by
  cases r
  rcases hd with ⟨_, h⟩ | ⟨_, T, rfl, hT⟩
  · cases h
  · obtain ⟨_, its, rv, o, ho, hc, n, hdt⟩ := hok T _ hT
    obtain ⟨u, rfl, ru⟩ := vals1 rv
    obtain ⟨k, e1, e2⟩ := h q cl doc pm ctv c' T
    exact ⟨[u], .cons ru .nil, BindsTo.of_defaults rfl ho hdt e1 (e2 u)⟩
/-! ### the odd ones -/
def D2 (w : Str) (d : PyData) : PyData := .list [.tuple [.str w, d], .tuple [.str w, d]]
def shwB (d : PyData) : Bool := smallD d && decide (wt d ≤ 1000000) && decide (d.depth ≤ 20)
theorem shwB_ok {d : PyData} (h : shwB d = true) : Shw d := by
  unfold shwB at h
  simp only [Bool.and_eq_true, decide_eq_true_eq] at h
  exact ⟨h.1.1, h.1.2, h.2⟩
def lenB : PyData → Bool
  | .tuple xs => decide (xs.length ≤ 10000)
  | _ => true
theorem lenB_ok {d : PyData} (h : lenB d = true) : lenOk d := by
  cases d with
  | tuple xs =>
    have h' : decide (xs.length ≤ 10000) = true := h
    show xs.length ≤ 10000
    exact of_decide_eq_true h'
  | _ => exact True.intro
abbrev ods1 : List PyData := [.none, .int 0, .int 7, .bool true, .tuple [.int 2], .str "2"]
theorem ods1_ok : (ods1.all fun d => !(okN d) && shwB (D2 "number" d)) = true := by decide +kernel
abbrev ods2 : List PyData := [.none, .list [tieD (0, 1)], .tuple [tieD (0, 3)], .tuple [tieD (1, 1)], .tuple [tieD (0, 1), tieD (0, 1)], .tuple [tieD (0, 2), tieD (0, 1)], .tuple [tieD (0, 1), tieD (1, 0)], .tuple [.tuple [.int 0]]]
abbrev ods3 : List PyData := [.tuple [tieD (0, 1), tieD (1, 2), tieD (2, 0)], .tuple [.tuple [.int 0, .bool true]], .tuple [tieD (-1, 0)], .tuple [.tuple [.int 0, .int 1, .int 2]]]
theorem ods2_ok : ((ods2 ++ ods3).all fun d => !(areTiesB 3 d) && shwB (D2 "ties" d) && lenB d) = true := by decide +kernel
theorem is1 {d : PyData} (h : d ∈ ods1) : okN d = false ∧ Shw (D2 "number" d) := by
  have := List.all_eq_true.mp ods1_ok d h
  simp only [Bool.and_eq_true, Bool.not_eq_true'] at this
  exact ⟨this.1, shwB_ok this.2⟩
theorem is2 {d : PyData} (h : d ∈ ods2 ++ ods3) : areTiesB 3 d = false ∧ Shw (D2 "ties" d) ∧ lenOk d := by
  have := List.all_eq_true.mp ods2_ok d h
  simp only [Bool.and_eq_true, Bool.not_eq_true'] at this
  exact ⟨this.1.1, shwB_ok this.1.2, lenB_ok this.2⟩
theorem eqvAll_lots : ∀ ls : List (List Int), PyData.eqvAll (ls.map lotD) (ls.map lotD) = true
  | [] => by simp [PyData.eqvAll]
  | l :: ls => by
    simp only [List.map_cons, PyData.eqvAll, Bool.and_eq_true]
    refine ⟨?_, eqvAll_lots ls⟩
    rw [eqv_lot]
    exact decide_eq_true rfl
theorem eqv_lots (ls : List (List Int)) : PyData.eqv (.tuple (ls.map lotD)) (.tuple (ls.map lotD)) = true := by
  simp only [PyData.eqv]
  exact eqvAll_lots ls
theorem shaped_lots (ls : List (List Int)) : SeqAt.shaped (.tuple (ls.map lotD)) = true := by
  unfold SeqAt.shaped
  have := depth_lots ls
  rw [Bool.and_eq_true]
  refine ⟨by simp only [PyData.canLay0]; exact canLay_lots ls, decide_eq_true ?_⟩
  simp only [PyData.depth]
  omega
/-! ### heard -/
section
variable {T : List (Addr × Str)} {CN CT : Addr} {σ : L2.St} {H : Hp} {x : V} {d : PyData} {R : VK}
theorem slot3 (h : σ[3]? = some (some x)) : [3].map (slotAt σ) = [some x] := by
  show [slotAt σ 3] = [some x]
  rw [slotAt_of h]
theorem gr_upd {H H1 H2 : Hp} {p : Addr} {o : HO} (e : ExtN H H1) (t : Tabs T H1) (s : Same H1 H2) (hp : H2 p = none) : Gr T H (upd H2 p o) := ⟨e.trans ((Same.ext s).trans (Same.ext (same_upd hp))), (t.ext s).ext (same_upd hp)⟩
/-- the number is refused: closed_lots -/
theorem heard1 (hσ : σ[3]? = some (some x)) (hx : Dt H x d) (hd : okN d = false) (hT : Tabs T H) (hR : ∀ p H', Gr T H H' → H' p = some (.tup [.str "number", x]) → R (.ref p) H') :
    tHeard T CN CT ["_law_odd"] [] [] [3] (fun E => tCall (spCloLots T CN CT) [] E (tCons (tVar 0) (tCons (tC .non) tNil))) σ H R := by
  refine ⟨hT, fun H1 e t => ?_⟩
  rw [slot3 hσ]
  exact ⟨x, rfl, x, .non, d, .none, rfl, hx.ext e, .non, trivial, fun _ dd H' s h => ⟨x, ⟨dd, rfl, h⟩, .inl ⟨rfl, fun p hp => hR p _ (gr_upd e t s hp) upd_same⟩⟩, fun z => by rw [hd] at z; cases z⟩
theorem heard2 (hσ : σ[3]? = some (some x)) (hx : Dt H x d) (hd : okN d = false) (hT : Tabs T H) (hR : ∀ p H', Gr T H H' → H' p = some (.tup [.str "number", x]) → R (.ref p) H') :
    tHeard T CN CT ["_law_own", "_law_odd"] [.int 0] [.int 0] [3] (fun E => tCall (spIsClos CN CT) [] E (tCons (tVar 1) (tCons (tC .non) (tCons (tTup tNil) tNil)))) σ H R := by
  refine ⟨hT, fun H1 e t => ?_⟩
  rw [slot3 hσ]
  refine ⟨x, rfl, by rw [sizeLine_eq]; simp, fun q hq => ?_⟩
  have e2 : Same H1 (upd H1 q (.tup [])) := same_upd hq
  exact ⟨x, .non, .ref q, d, .none, .tuple [], rfl, (hx.ext e).same e2, .non, .tup upd_same .nil, trivial, Nat.zero_le _, fun _ dd H' s h => ⟨x, ⟨dd, rfl, h⟩, .inl ⟨rfl, fun p hp => hR p _ (gr_upd e t (e2.trans s) hp) upd_same⟩⟩, fun z => by rw [hd] at z; cases z⟩
theorem ok3 : okN (.int 3) = true := by decide
theorem n3 : nOf (.int 3) = 3 := rfl
/-- the ties are refused -/
theorem heard3 (hσ : σ[3]? = some (some x)) (hx : Dt H x d) (hd : areTiesB 3 d = false) (hl : lenOk d) (hT : Tabs T H) (hR : ∀ p H', Gr T H H' → H' p = some (.tup [.str "ties", x]) → R (.ref p) H') :
    tHeard T CN CT ["_law_odd"] [] [] [3] (fun E => tCall (spCloLots T CN CT) [] E (tCons (tC (.int 3)) (tCons (tVar 0) tNil))) σ H R := by
  refine ⟨hT, fun H1 e t => ?_⟩
  rw [slot3 hσ]
  exact ⟨x, rfl, .int 3, x, .int 3, d, rfl, .int 3, hx.ext e, hl, (fun z => by rw [ok3] at z; cases z), fun _ => ⟨fun _ dd H' s h => ⟨x, ⟨dd, rfl, h⟩, .inr ⟨rfl, fun p hp => hR p _ (gr_upd e t s hp) upd_same⟩⟩, fun z => by rw [n3, hd] at z; cases z⟩⟩
theorem heard4 (hσ : σ[3]? = some (some x)) (hx : Dt H x d) (hd : areTiesB 3 d = false) (hl : lenOk d) (hT : Tabs T H) (hR : ∀ p H', Gr T H H' → H' p = some (.tup [.str "ties", x]) → R (.ref p) H') :
    tHeard T CN CT ["_law_own", "_law_odd"] [.int 0] [.int 0] [3] (fun E => tCall (spIsClos CN CT) [] E (tCons (tC (.int 3)) (tCons (tVar 1) (tCons (tTup tNil) tNil)))) σ H R := by
  refine ⟨hT, fun H1 e t => ?_⟩
  rw [slot3 hσ]
  refine ⟨x, rfl, by rw [sizeLine_eq]; simp, fun q hq => ?_⟩
  have e2 : Same H1 (upd H1 q (.tup [])) := same_upd hq
  exact ⟨.int 3, x, .ref q, .int 3, d, .tuple [], rfl, .int 3, (hx.ext e).same e2, .tup upd_same .nil, hl, Nat.zero_le _, (fun z => by rw [ok3] at z; cases z), fun _ => ⟨fun _ dd H' s h => ⟨x, ⟨dd, rfl, h⟩, .inr ⟨rfl, fun p hp => hR p _ (gr_upd e t (e2.trans s) hp) upd_same⟩⟩, fun z => by rw [n3, hd] at z; cases z⟩⟩
end
end K1
namespace K1
open PySem PySem.Spec PyProof.Rows L2 LamX NdefX
section
variable {X : Cx} {g CN CT c P : Addr} {fd : FuncData} {T : List (Addr × Str)} {params : Arguments} {body : Expr} {scope : Scope} {k : Nat} {t : XK → TE} {p lpos pos p2 : Pos}
theorem has_of {fr : List Str} (hn : ndefB X.env.scope scope fr = true) (ok : X.Ok) : ∀ y ∈ scope.names, y.2 = .free → ∃ c, X.env.cells.lookup y.1 = some c := fun y hy e => ok.has y.1 (ndef_free hn y hy e)
/-- heard(lambda: ..) -/
theorem pe_heard0 (F : FnP X.K "_law_heard" sHeard g fd) (hg : Gl X "_law_heard") (hm : X.mg "_law_heard" = some (.ref g)) (gN : X.mg "BadNumber" = some (.ref CN)) (gT : X.mg "BadTies" = some (.ref CT)) (EC : ErrC X.K CN CT) (Lm : LamMk X T c P)
    (sc : Scope) (hsc : X.env.scope = sc) (hn : ndefB sc scope ["_law_odd"] = true) (S : NScope ["_law_odd"] [] ["_law_odd"] scope) (hN : [3].map (fun j => X.N[j]?) = ([("_law_odd" : Str)]).map some) (hdef : defaultsOf params X.env = ([], []))
    (hB : ∀ (q : Str) (cl : List (Str × Addr)) (doc pm ctv : Value) (c' : Addr), bindArgs (PySem.W.kdv_fn "<lambda>" q params (.expr body) scope cl .none doc pm (.ref c') ctv) ⟨[], []⟩ = pure []) (hr : Room (k + 2) X.A)
    (hbody : ∀ (c' f : Addr) (A : Around) (outer : List Env) (s : Shared) (H : Hp) (E : XK), Room k (A.deeper (envF (lamF X params scope c') f s.heap.objs.size)) → PE (ncx (L2.CX X.prog X.w) X.prog X.w X.K X.mg X.base ["_law_odd"] (lamF X params scope c') f A outer s H E) body (t E)) :
    PE X (.Call (.Name "_law_heard" p) [.Lambda params body scope lpos] [] pos) (tHeard T CN CT ["_law_odd"] [] [] [3] t) :=
  have hn : ndefB X.env.scope scope ["_law_odd"] = true := by rw [hsc]; exact hn
  pe_heard (c := c) (P := P) F hg hm gN gT EC S (fun ok => Caps.made ok (ndef_free hn) (ndef_fr hn) hN) (lamB0 hB) rfl hr (fun I hT h => lam0 I Lm hT (has_of hn I.ok) hdef h) hbody
/-- heard(lambda own=0: ..) -/
theorem pe_heard1 {j : Nat} (F : FnP X.K "_law_heard" sHeard g fd) (hg : Gl X "_law_heard") (hm : X.mg "_law_heard" = some (.ref g)) (gN : X.mg "BadNumber" = some (.ref CN)) (gT : X.mg "BadTies" = some (.ref CT)) (EC : ErrC X.K CN CT) (Lm : LamMk X T c P)
    (sc : Scope) (hsc : X.env.scope = sc) (hn : ndefB sc scope ["_law_odd"] = true) (S : NScope ["_law_own", "_law_odd"] ["_law_own"] ["_law_odd"] scope) (hN : [3].map (fun j => X.N[j]?) = ([("_law_odd" : Str)]).map some) (hdef : params.defaults = [.Constant (.int 0) j p2]) (hk0 : params.kw_defaults = [])
    (hB : ∀ (q : Str) (cl : List (Str × Addr)) (doc pm ctv : Value) (c' T : Addr), ∃ k : Option (Array Value) → Sem (List (Str × Value)), bindArgs (PySem.W.kdv_fn "<lambda>" q params (.expr body) scope cl (.ref T) doc pm (.ref c') ctv) ⟨[], []⟩ = seqItems? (.ref T) >>= k ∧ ∀ u, k (some #[u]) = pure [(("_law_own" : Str), u)])
    (hr : Room (k + 2) X.A)
    (hbody : ∀ (c' f : Addr) (A : Around) (outer : List Env) (s : Shared) (H : Hp) (E : XK), Room k (A.deeper (envF (lamF X params scope c') f s.heap.objs.size)) → PE (ncx (L2.CX X.prog X.w) X.prog X.w X.K X.mg X.base ["_law_own", "_law_odd"] (lamF X params scope c') f A outer s H E) body (t E)) :
    PE X (.Call (.Name "_law_heard" p) [.Lambda params body scope lpos] [] pos) (tHeard T CN CT ["_law_own", "_law_odd"] [.int 0] [.int 0] [3] t) :=
  have hn : ndefB X.env.scope scope ["_law_odd"] = true := by rw [hsc]; exact hn
  pe_heard (c := c) (P := P) F hg hm gN gT EC S (fun ok => Caps.made ok (ndef_free hn) (ndef_fr hn) hN) (lamB1 hB) rfl hr (fun I hT h => lam1 I Lm hT (has_of hn I.ok) hdef hk0 h) hbody
end
theorem tup2 {X : Cx} {a b : Expr} {ta tb : TE} {x1} {pos : Pos} (ha : PE X a ta) (hb : PE X b tb) (h1 : starEach [a, b] X.env = (false, eval a X.env) :: starEach [b] X.env := by rfl) (h2 : starEach [b] X.env = (false, eval b X.env) :: starEach [] X.env := by rfl) : PE X (.Tuple [a, b] x1 pos) (tTup (tCons ta (tCons tb tNil))) :=
  pe_tup (pa_cons ha (pa_cons hb pa_nil h2) h1)
section
variable {P : Program} {w : World} {K : PySem.W.Frag} {mg : Str → Option Value} {base : Heap} {f f1 f2 f3 f4 : Addr} {fd fd1 fd2 fd3 fd4 : FuncData} {T : List (Addr × Str)} {CN CT : Addr}
/-! ### law -/
abbrev nLaw : List Str := ["_law_script", "_law_state", "_law_turn", "_law_odd", "_law_heard_here", "_law_rows"]
theorem scLaw : FnScope nLaw ["_law_script"] (defScope sLaw) := ⟨rfl, rfl, rfl, by decide +kernel, rfl, by decide +kernel, by decide +kernel⟩
def spLaw (K : PySem.W.Frag) (T : List (Addr × Str)) : Sp := fun vs H Q _ => ∃ (a : Addr) (ns : List Int), vs = [.ref a] ∧ SqL K H a (ns.map V.int) ∧ ns.length ≤ 63 ∧ Tabs T H ∧ ∀ H', Q (.bl true) H'
theorem body_law {c PT : Addr} {A : Around} {outer : List Env} {s : Shared} {H : Hp} {vs : List V} {Q : VK} (hgd : A.guards = some []) (G : PrG K mg CN CT) (L : LotsG K mg base T) (W : LwG K mg) (TB : TabB base mg c PT) (hm : (PT, ("law.<locals>.<lambda>" : Str)) ∈ T) (hu : ∀ p ∈ T, p.1 = PT → p.2 = "law.<locals>.<lambda>")
    (hr : Room 8 (A.deeper (envOfC "law" (defScope sLaw) s.heap.objs.size f (.ref c)))) (h : spLaw K T vs H Q L2.E0) :
    ∃ t, PSs (cxOf L2.CX0 P w K mg base nLaw "law" (defScope sLaw) f (.ref c) A outer s H L2.E0).nox (defBody sLaw) t ∧ t { nx := fun _ H' => Q .non H', rt := Q } (L2.start nLaw vs) H := by
  obtain ⟨f1, fd1, g1, F1⟩ := W.fBegin
  have G1 : FnOk P w K mg base L2.CX0 1 f1 fd1 ["_law_script"] (spBegin K) := ok_begin F1 G.gs.list
  obtain ⟨f2, fd2, g2, F2⟩ := W.fGood
  obtain ⟨f3, fd3, g3, F3⟩ := W.fHeard
  obtain ⟨f5, fd5, g5, F5⟩ := G.fCloLots
  have G5 : FnOk P w K mg base (L2.CX P w) 6 f5 fd5 ["many", "ties"] (spCloLots T CN CT) := ok_clolots F5 G L
  obtain ⟨f6, fd6, g6, F6⟩ := G.fIsClos
  have G6 : FnOk P w K mg base (L2.CX P w) 6 f6 fd6 ["many", "ties", "value"] (spIsClos CN CT) := ok_isclos F6 G
  have hun := hr.units
  have hr7 := hr.mono (show 7 ≤ 8 by decide)
  have hr6 := hr.mono (show 6 ≤ 8 by decide)
  refine ⟨_, pss_cons (ps_set (i := 1) scLaw.nd rfl (.inl rfl) (pe_call G1 (hr.mono (by decide)) rfl g1 F1.kp (bi_begin F1) .nil L2.pass0 (pa_cons (pv 0) pa_nil)))
    (pss_cons (ps_for PassesOwn.never rfl (pi_range1 rfl G.gs.range (pa_cons (pe_op op_add pe_int (pe_callB (call_min2 rfl) rfl G.gs.min (by rfl) (pa_cons (pe_callB call_len rfl G.gs.len (by rfl) (pa_cons (pv 0) pa_nil)) (pa_cons pe_int pa_nil)))) pa_nil)) (pg_name (i := 2) scLaw.nd rfl (.inl rfl) (.inr rfl))
      (pss_one (ps_if (pt_not (pt_val (pe_callO (sp := spGood T) (N := nGood) F2 scGood (bi_good F2) (fun vs H Q E ⟨p, lc, ll, b, e, _⟩ => by rw [e]; rfl) hr7 (fun cdv s H vs Q hr' h' => body_good hgd G L W hr' h') rfl g2 (pa_cons (pv 1) pa_nil)))) (pss_one (ps_ret pe_bl)) pss_nil)))
    (pss_cons (ps_for PassesOwn.never rfl (pi_tup (pe_tup (pa_cons pe_non (pa_cons pe_int (pa_cons pe_int (pa_cons pe_bl (pa_cons (pe_tup (pa_cons pe_int pa_nil)) (pa_cons pe_str pa_nil)))))))) (pg_name (i := 3) scLaw.nd rfl (.inr rfl) (.inl rfl))
      (pss_cons (ps_set (i := 4) scLaw.nd rfl (.inl rfl) (pe_lst (pa_cons
          (pe_heard0 (T := T) (t := fun E => tCall (spCloLots T CN CT) [] E (tCons (tVar 0) (tCons (tC .non) tNil))) F3 rfl g3 G.ex.gN G.ex.gT G.ex.ec ⟨TB, rfl, hm, hu⟩ (defScope sLaw) rfl (by decide +kernel) (nscope_by (by decide +kernel)) rfl rfl (fun _ _ _ _ _ _ => rfl) hr fun c' f A outer s H E hr2 =>
            pe_call (E := E) G5 hr2 rfl g5 F5.kp (bi_clolots F5) .nil (passes_call (takes_of rfl rfl rfl rfl) (fun _ _ _ _ h => h)) (pa_cons (pv 0) (pa_cons pe_non pa_nil)))
          (pa_cons (pe_heard1 (T := T) (t := fun E => tCall (spIsClos CN CT) [] E (tCons (tVar 1) (tCons (tC .non) (tCons (tTup tNil) tNil)))) F3 rfl g3 G.ex.gN G.ex.gT G.ex.ec ⟨TB, rfl, hm, hu⟩ (defScope sLaw) rfl (by decide +kernel) (nscope_by (by decide +kernel)) rfl rfl rfl (fun _ _ _ _ _ _ _ => ⟨_, rfl, fun _ => rfl⟩) hr fun c' f A outer s H E hr2 =>
            pe_call (E := E) G6 hr2 rfl g6 F6.kp (bi_isclos F6) .nil (passes_call (takes_of rfl rfl rfl rfl) (fun _ _ _ _ h => h)) (pa_cons (pv 1) (pa_cons pe_non (pa_cons (pe_tup pa_nil) pa_nil)))) pa_nil))))
      (pss_one (ps_if (pt_cmpR op_ne (pe_callB (call_reprD hgd hun) rfl G.gs.repr (by rfl) (pa_cons (pv 4) pa_nil)) (pe_callB (call_reprD hgd hun) rfl G.gs.repr (by rfl) (pa_cons (pe_op op_rep (pe_lst (pa_cons (pe_tup (pa_cons pe_str (pa_cons (pv 3) pa_nil))) pa_nil)) pe_int) pa_nil)) rfl) (pss_one (ps_ret pe_bl)) pss_nil))))
    (pss_cons (ps_set (i := 5) scLaw.nd rfl (.inl rfl) (pe_lst (pa_cons pe_non (pa_cons (pe_lst (pa_cons (tup2 (pe_int) pe_int) pa_nil)) (pa_cons (pe_tup (pa_cons (tup2 pe_int pe_int) pa_nil)) (pa_cons (pe_tup (pa_cons (tup2 pe_int pe_int) pa_nil)) (pa_cons (pe_tup (pa_cons (tup2 pe_int pe_int) (pa_cons (tup2 pe_int pe_int) pa_nil)))
        (pa_cons (pe_tup (pa_cons (tup2 pe_int pe_int) (pa_cons (tup2 pe_int pe_int) pa_nil))) (pa_cons (pe_tup (pa_cons (tup2 pe_int pe_int) (pa_cons (tup2 pe_int pe_int) pa_nil))) (pa_cons (pe_tup (pa_cons (pe_tup (pa_cons pe_int pa_nil)) pa_nil)) pa_nil))))))))))
    (pss_cons (ps_for PassesOwn.never rfl (pi_list (pe_op op_cat (pv 5) (pe_lst (pa_cons (pe_tup (pa_cons (tup2 pe_int pe_int) (pa_cons (tup2 pe_int pe_int) (pa_cons (tup2 pe_int pe_int) pa_nil)))) (pa_cons (pe_tup (pa_cons (tup2 pe_int pe_bl) pa_nil)) (pa_cons (pe_tup (pa_cons (tup2 (pe_un un_neg pe_int) pe_int) pa_nil))
          (pa_cons (pe_tup (pa_cons (pe_tup (pa_cons pe_int (pa_cons pe_int (pa_cons pe_int pa_nil)))) pa_nil)) pa_nil))))))) (pg_name (i := 3) scLaw.nd rfl (.inr rfl) (.inl rfl))
      (pss_cons (ps_set (i := 4) scLaw.nd rfl (.inl rfl) (pe_lst (pa_cons
          (pe_heard0 (T := T) (t := fun E => tCall (spCloLots T CN CT) [] E (tCons (tC (.int 3)) (tCons (tVar 0) tNil))) F3 rfl g3 G.ex.gN G.ex.gT G.ex.ec ⟨TB, rfl, hm, hu⟩ (defScope sLaw) rfl (by decide +kernel) (nscope_by (by decide +kernel)) rfl rfl (fun _ _ _ _ _ _ => rfl) hr fun c' f A outer s H E hr2 =>
            pe_call (E := E) G5 hr2 rfl g5 F5.kp (bi_clolots F5) .nil (passes_call (takes_of rfl rfl rfl rfl) (fun _ _ _ _ h => h)) (pa_cons pe_int (pa_cons (pv 0) pa_nil)))
          (pa_cons (pe_heard1 (T := T) (t := fun E => tCall (spIsClos CN CT) [] E (tCons (tC (.int 3)) (tCons (tVar 1) (tCons (tTup tNil) tNil)))) F3 rfl g3 G.ex.gN G.ex.gT G.ex.ec ⟨TB, rfl, hm, hu⟩ (defScope sLaw) rfl (by decide +kernel) (nscope_by (by decide +kernel)) rfl rfl rfl (fun _ _ _ _ _ _ _ => ⟨_, rfl, fun _ => rfl⟩) hr fun c' f A outer s H E hr2 =>
            pe_call (E := E) G6 hr2 rfl g6 F6.kp (bi_isclos F6) .nil (passes_call (takes_of rfl rfl rfl rfl) (fun _ _ _ _ h => h)) (pa_cons pe_int (pa_cons (pv 1) (pa_cons (pe_tup pa_nil) pa_nil)))) pa_nil))))
      (pss_one (ps_if (pt_cmpR op_ne (pe_callB (call_reprD hgd hun) rfl G.gs.repr (by rfl) (pa_cons (pv 4) pa_nil)) (pe_callB (call_reprD hgd hun) rfl G.gs.repr (by rfl) (pa_cons (pe_op op_rep (pe_lst (pa_cons (pe_tup (pa_cons pe_str (pa_cons (pv 3) pa_nil))) pa_nil)) pe_int) pa_nil)) rfl) (pss_one (ps_ret pe_bl)) pss_nil))))
    (pss_cons (ps_if (pt_cmpR (op_neD hun) (pe_call G5 hr6 rfl g5 F5.kp (bi_clolots F5) .nil L2.passL (pa_cons pe_int (pa_cons (pe_tup (pa_cons (tup2 pe_int pe_int) (pa_cons (tup2 pe_int pe_int) pa_nil))) pa_nil)))
        (pe_tup (pa_cons (pe_tup pa_nil) (pa_cons (pe_tup (pa_cons pe_int pa_nil)) (pa_cons (pe_tup (pa_cons pe_int pa_nil)) (pa_cons (tup2 pe_int pe_int) (pa_cons (pe_tup (pa_cons pe_int (pa_cons pe_int (pa_cons pe_int pa_nil)))) pa_nil)))))) rfl) (pss_one (ps_ret pe_bl)) pss_nil)
    (pss_cons (ps_if (pt_cmpR (op_neD hun) (pe_call G5 hr6 rfl g5 F5.kp (bi_clolots F5) .nil L2.passL (pa_cons pe_int (pa_cons (pe_tup pa_nil) pa_nil)))
        (pe_tup (pa_cons (pe_tup pa_nil) (pa_cons (pe_tup (pa_cons pe_int pa_nil)) pa_nil))) rfl) (pss_one (ps_ret pe_bl)) pss_nil)
    (pss_one (ps_ret (pe_and (pe_cmpR op_eq (pe_callB call_len rfl G.gs.len (by rfl) (pa_cons (pe_call G5 hr6 rfl g5 F5.kp (bi_clolots F5) .nil L2.passL (pa_cons pe_int (pa_cons (pe_tup pa_nil) pa_nil))) pa_nil)) pe_int rfl)
      (pe_one (pe_cmpR op_isBl (pe_call G6 hr6 rfl g6 F6.kp (bi_isclos F6) .nil L2.passL (pa_cons pe_int (pa_cons (pe_tup pa_nil) (pa_cons (pe_tup (pa_cons pe_int (pa_cons pe_int (pa_cons pe_int (pa_cons pe_int (pa_cons pe_int (pa_cons pe_int pa_nil))))))) pa_nil)))) pe_bl rfl))))))))))), ?_⟩
  obtain ⟨a, ns, rfl, hS, hn, hT, q⟩ := h
  have hsz : ∀ n : Nat, n ≤ 100000 → n ≤ sizeLine := fun n hn => by
    rw [sizeLine_eq]
    omega
  refine i_seq (i_asg (i_call ⟨_, rfl, a, ns, rfl, hS, hn, fun p lc ll H1 e1 hp0 hl0 hst => ?_⟩))
  have T1 := hT.ext e1
  dsimp only
  have hb : (2 : Int) + (if (3 : Int) < ((ns.map V.int).length : Int) then 3 else ((ns.map V.int).length : Int)) ≤ 5 ∧ 0 ≤ (2 : Int) + (if (3 : Int) < ((ns.map V.int).length : Int) then 3 else ((ns.map V.int).length : Int)) := by
    split <;> omega
  refine i_seq ⟨_, rfl, .ref a, _, rfl, .inl ⟨_, Same.seq e1 hS, rfl⟩, _, 3, rfl, _, _, rfl, rfl, _, rfl, by omega, by omega, for_range (lo := 0) (fun i σ H' => ∃ o2, σ = [some (.ref a), some (.ref p), o2, none, none, none] ∧ StA H' p lc ll (40 * (i : Int)) ∧ Tabs T H') ⟨none, rfl, hst.mono (by omega), T1⟩ (fun i σ H' hi hP => ?_) (fun σ H' hP => ?_)⟩
  · obtain ⟨o2, rfl, st, t⟩ := hP
    refine i_if (i_not (i_B (i_call ⟨_, rfl, p, lc, ll, 40 * (i : Int), rfl, st, by omega, t, fun H'' st' t' => ⟨true, rfl, iteF (i_next ⟨some (.int (0 + (i : Int))), rfl, st'.mono (by omega), t'⟩)⟩⟩)))
  obtain ⟨o2, rfl, st, T2⟩ := hP
  clear hb st hst hp0 hl0
  dsimp only
  -- the numbers
  refine i_seq (i_for (i_iTup ((Mk.tup (.cons .non (.cons (.int 0) (.cons (.int 7) (.cons (.bl true) (.cons (Mk.tup (.cons (.int 2) .nil) (by simp)) (.cons (.str "2") .nil)))))) (by simp)) H' _ fun v H2 e2 d2 => ?_)))
  obtain ⟨pt, xs, rfl, hpt, hxs⟩ := d2.tup_of
  have T3 := T2.ext e2
  refine ⟨pt, rfl, ⟨xs, SqT.of hpt⟩, for_tup (xs := xs) (fun i σ K' => ∃ o3 o4, σ = [some (.ref a), some (.ref p), o2, o3, o4, none] ∧ Gr T H2 K') ⟨none, none, rfl, ExtN.refl _, T3⟩ (fun i σ K' _ hP => ?_) (fun i x σ K' hi hP => ?_) (fun σ K' hP => ?_)⟩
  · obtain ⟨o3, o4, rfl, g⟩ := hP
    exact SqT.of (g.ext _ _ hpt fun _ z => nomatch z)
  · obtain ⟨o3, o4, rfl, g⟩ := hP
    obtain ⟨d, h1, h2⟩ := hxs.get hi
    obtain ⟨hok, hshw⟩ := is1 (List.mem_of_getElem? h1)
    have hx := h2.ext g.ext
    refine i_seq (i_asg (i_lst (i_cons (heard1 (x := x) rfl hx hok g.tab fun p1 J1 g1 h1 => i_cons (heard2 (x := x) rfl (hx.ext g1.ext) hok g1.tab fun p2 J2 g2 h2 => ⟨hsz _ (by simp), fun pl hpl => ?_⟩)))))
    dsimp only
    have h1' := g2.ext _ _ h1 fun _ z => nomatch z
    have s3 : Same J2 (upd J2 pl (.lst [.ref p1, .ref p2])) := same_upd hpl
    have hx2 := (hx.ext (g1.trans g2).ext).same s3
    have d3 : Dt (upd J2 pl (.lst [.ref p1, .ref p2])) (.ref pl) (D2 "number" d) := .lst upd_same (.cons (.tup (s3 _ _ h1') (.cons (.str _) (.cons hx2 .nil))) (.cons (.tup (s3 _ _ h2) (.cons (.str _) (.cons hx2 .nil))) .nil))
    have g3 : Gr T H2 (upd J2 pl (.lst [.ref p1, .ref p2])) := ((g.trans g1).trans g2).same s3
    generalize upd J2 pl (.lst [.ref p1, .ref p2]) = J3 at hx2 d3 g3 ⊢
    refine i_if (i_test (i_op (i_CB ⟨_, rfl, .ref pl, _, rfl, d3, hshw, ?_⟩)))
    refine i_CB ⟨_, rfl, hsz _ (by simp), fun q1 hq1 => ⟨hsz _ (by simp), fun q2 hq2 => ⟨q2, 2, [.ref q1], rfl, rfl, upd_same, by decide, by decide, hsz _ (by simp), fun q3 hq3 => ?_⟩⟩⟩
    have s4 : Same J3 (upd J3 q1 (.tup [.str "number", x])) := same_upd hq1
    have s5 : Same (upd J3 q1 (.tup [.str "number", x])) (upd (upd J3 q1 (.tup [.str "number", x])) q2 (.lst [.ref q1])) := same_upd hq2
    have s6 : Same (upd (upd J3 q1 (.tup [.str "number", x])) q2 (.lst [.ref q1])) (upd (upd (upd J3 q1 (.tup [.str "number", x])) q2 (.lst [.ref q1])) q3 (.lst [.ref q1, .ref q1])) := same_upd hq3
    have y1 : Dt (upd (upd (upd J3 q1 (.tup [.str "number", x])) q2 (.lst [.ref q1])) q3 (.lst [.ref q1, .ref q1])) (.ref q1) (.tuple [.str "number", d]) := .tup (s6 _ _ (s5 _ _ upd_same)) (.cons (.str _) (.cons (hx2.same ((s4.trans s5).trans s6)) .nil))
    refine ⟨.ref q3, D2 "number" d, rfl, .lst upd_same (.cons y1 (.cons y1 .nil)), hshw, rfl, _, rfl, ?_⟩
    rw [decide_eq_true rfl]
    exact iteF (i_next ⟨some x, some (.ref pl), rfl, g3.same ((s4.trans s5).trans s6)⟩)
  obtain ⟨o3, o4, rfl, g⟩ := hP
  have T4 := g.tab
  clear g T3 hxs hpt d2 e2 T2
  dsimp only
  -- the rows
  refine i_seq (i_asg ((Mk.lst (.cons .non (.cons (Mk.lst (.cons (Mk.tup (.cons (.int 0) (.cons (.int 1) .nil)) (by simp)) .nil) (by simp)) (.cons (Mk.tup (.cons (Mk.tup (.cons (.int 0) (.cons (.int 3) .nil)) (by simp)) .nil) (by simp))
    (.cons (Mk.tup (.cons (Mk.tup (.cons (.int 1) (.cons (.int 1) .nil)) (by simp)) .nil) (by simp)) (.cons (Mk.tup (.cons (Mk.tup (.cons (.int 0) (.cons (.int 1) .nil)) (by simp)) (.cons (Mk.tup (.cons (.int 0) (.cons (.int 1) .nil)) (by simp)) .nil)) (by simp))
    (.cons (Mk.tup (.cons (Mk.tup (.cons (.int 0) (.cons (.int 2) .nil)) (by simp)) (.cons (Mk.tup (.cons (.int 0) (.cons (.int 1) .nil)) (by simp)) .nil)) (by simp)) (.cons (Mk.tup (.cons (Mk.tup (.cons (.int 0) (.cons (.int 1) .nil)) (by simp)) (.cons (Mk.tup (.cons (.int 1) (.cons (.int 0) .nil)) (by simp)) .nil)) (by simp))
    (.cons (Mk.tup (.cons (Mk.tup (.cons (.int 0) .nil) (by simp)) .nil) (by simp)) .nil)))))))) (by simp)) K' _ fun v2 H3 e3 d3 => ?_))
  have T5 := T4.ext e3
  have d3 : Dt H3 v2 (.list ods2) := d3
  obtain ⟨lr, xr, rfl, hlr, hxr⟩ := d3.lst_of
  dsimp only
  refine i_seq (i_for (i_iList (i_op ⟨_, rfl, (Mk.lst (.cons (Mk.tup (.cons (Mk.tup (.cons (.int 0) (.cons (.int 1) .nil)) (by simp)) (.cons (Mk.tup (.cons (.int 1) (.cons (.int 2) .nil)) (by simp)) (.cons (Mk.tup (.cons (.int 2) (.cons (.int 0) .nil)) (by simp)) .nil))) (by simp))
    (.cons (Mk.tup (.cons (Mk.tup (.cons (.int 0) (.cons (.bl true) .nil)) (by simp)) .nil) (by simp)) (.cons (Mk.tup (.cons (Mk.tup (.cons (.neg 1) (.cons (.int 0) .nil)) (by simp)) .nil) (by simp)) (.cons (Mk.tup (.cons (Mk.tup (.cons (.int 0) (.cons (.int 1) (.cons (.int 2) .nil))) (by simp)) .nil) (by simp)) .nil)))) (by simp)) H3 _ fun v3 H4 e4 d4 => ?_⟩)))
  have d4 : Dt H4 v3 (.list ods3) := d4
  obtain ⟨lq, xq, rfl, hlq, hxq⟩ := d4.lst_of
  have l1 : xr.length = 8 := hxr.length
  have l2 : xq.length = 4 := hxq.length
  refine ⟨lr, lq, xr, xq, rfl, rfl, e4 _ _ hlr, hlq, hsz _ (by omega), fun pt2 hpt2 => ?_⟩
  have s5 : Same H4 (upd H4 pt2 (.lst (xr ++ xq))) := same_upd hpt2
  have T6 := (T5.ext e4).ext s5
  have hxx : DtAll (upd H4 pt2 (.lst (xr ++ xq))) (xr ++ xq) (ods2 ++ ods3) := ((hxr.same e4).append hxq).same s5
  have hpp : (upd H4 pt2 (.lst (xr ++ xq))) pt2 = some (.lst (xr ++ xq)) := upd_same
  generalize upd H4 pt2 (.lst (xr ++ xq)) = H5 at s5 T6 hxx hpp ⊢
  refine ⟨pt2, rfl, ⟨_, SqL.of hpp⟩, for_list (xs := xr ++ xq) (fun i σ K' => ∃ o3 o4, σ = [some (.ref a), some (.ref p), o2, o3, o4, some (.ref lr)] ∧ Gr T H5 K') ⟨_, _, rfl, ExtN.refl _, T6⟩ (fun i σ K' _ hP => ?_) (fun i x σ K' hi hP => ?_) (fun σ K' hP => ?_)⟩
  · obtain ⟨o3, o4, rfl, g⟩ := hP
    exact SqL.of (g.ext _ _ hpp fun _ z => nomatch z)
  · obtain ⟨o3, o4, rfl, g⟩ := hP
    obtain ⟨d, h1, h2⟩ := hxx.get hi
    obtain ⟨hok, hshw, hlen⟩ := is2 (List.mem_of_getElem? h1)
    have hx := h2.ext g.ext
    refine i_seq (i_asg (i_lst (i_cons (heard3 (x := x) rfl hx hok hlen g.tab fun p1 J1 g1 h1 => i_cons (heard4 (x := x) rfl (hx.ext g1.ext) hok hlen g1.tab fun p2 J2 g2 h2 => ⟨hsz _ (by simp), fun pl hpl => ?_⟩)))))
    dsimp only
    have h1' := g2.ext _ _ h1 fun _ z => nomatch z
    have s3 : Same J2 (upd J2 pl (.lst [.ref p1, .ref p2])) := same_upd hpl
    have hx2 := (hx.ext (g1.trans g2).ext).same s3
    have d3 : Dt (upd J2 pl (.lst [.ref p1, .ref p2])) (.ref pl) (D2 "ties" d) := .lst upd_same (.cons (.tup (s3 _ _ h1') (.cons (.str _) (.cons hx2 .nil))) (.cons (.tup (s3 _ _ h2) (.cons (.str _) (.cons hx2 .nil))) .nil))
    have g3 : Gr T H5 (upd J2 pl (.lst [.ref p1, .ref p2])) := ((g.trans g1).trans g2).same s3
    generalize upd J2 pl (.lst [.ref p1, .ref p2]) = J3 at hx2 d3 g3 ⊢
    refine i_if (i_test (i_op (i_CB ⟨_, rfl, .ref pl, _, rfl, d3, hshw, ?_⟩)))
    refine i_CB ⟨_, rfl, hsz _ (by simp), fun q1 hq1 => ⟨hsz _ (by simp), fun q2 hq2 => ⟨q2, 2, [.ref q1], rfl, rfl, upd_same, by decide, by decide, hsz _ (by simp), fun q3 hq3 => ?_⟩⟩⟩
    have s4 : Same J3 (upd J3 q1 (.tup [.str "ties", x])) := same_upd hq1
    have s5 : Same (upd J3 q1 (.tup [.str "ties", x])) (upd (upd J3 q1 (.tup [.str "ties", x])) q2 (.lst [.ref q1])) := same_upd hq2
    have s6 : Same (upd (upd J3 q1 (.tup [.str "ties", x])) q2 (.lst [.ref q1])) (upd (upd (upd J3 q1 (.tup [.str "ties", x])) q2 (.lst [.ref q1])) q3 (.lst [.ref q1, .ref q1])) := same_upd hq3
    have y1 : Dt (upd (upd (upd J3 q1 (.tup [.str "ties", x])) q2 (.lst [.ref q1])) q3 (.lst [.ref q1, .ref q1])) (.ref q1) (.tuple [.str "ties", d]) := .tup (s6 _ _ (s5 _ _ upd_same)) (.cons (.str _) (.cons (hx2.same ((s4.trans s5).trans s6)) .nil))
    refine ⟨.ref q3, D2 "ties" d, rfl, .lst upd_same (.cons y1 (.cons y1 .nil)), hshw, rfl, _, rfl, ?_⟩
    rw [decide_eq_true rfl]
    exact iteF (i_next ⟨some x, some (.ref pl), rfl, g3.same ((s4.trans s5).trans s6)⟩)
  obtain ⟨o3, o4, rfl, g⟩ := hP
  have T7 := g.tab
  clear g T6 hxx hpp s5 hpt2 l1 l2 hxq hlq d4 hxr hlr d3 T5
  dsimp only
  -- the lots by hand
  have lots_call : ∀ (m : Nat) (ties : List Tie) (u : V) (J : Hp) (R : VK), okN (.int (m : Int)) = true → areTiesB m (.tuple (ties.map tieD)) = true → ties.length ≤ 100 → Tabs T J → Dt J u (.tuple (ties.map tieD)) →
      (∀ p J' ys, Gr T J J' → J' p = some (.tup ys) → DtAll J' ys ((closedL m ties).map lotD) → R (.ref p) J') → spCloLots T CN CT [.int (m : Int), u] J R L2.E0 := fun m ties u J R h1 h2 h3 hT hu hR =>
    ⟨.int (m : Int), u, .int (m : Int), .tuple (ties.map tieD), rfl, .int _, hu, by show (ties.map tieD).length ≤ 10000; rw [List.length_map]; omega, (fun z => by rw [h1] at z; cases z), fun _ => ⟨(fun z => by rw [nOf_nat, h2] at z; cases z), fun _ => ⟨hT, fun p J' ys g hp hd => by
      rw [nOf_nat, tiesOf_ties] at hd
      exact hR p J' ys g hp hd⟩⟩⟩
  refine i_seq (i_if (i_test (i_op (i_call ((MkA.cons (.int 3) (MkA.cons (Mk.tup (.cons (Mk.tup (.cons (.int 0) (.cons (.int 1) .nil)) (by simp)) (.cons (Mk.tup (.cons (.int 2) (.cons (.int 1) .nil)) (by simp)) .nil)) (by simp)) .nil)) K' _ fun vs J1 e1 d1 => ?_)))))
  obtain ⟨u, rfl, hu⟩ : ∃ u, vs = [.int 3, u] ∧ Dt J1 u (.tuple ([((0 : Int), (1 : Int)), (2, 1)].map tieD)) := by
    cases d1 with
    | cons hv t =>
      cases t with
      | cons hu t2 =>
        cases t2
        obtain rfl := hv.int_eq
        exact ⟨_, rfl, hu⟩
  refine lots_call 3 [(0, 1), (2, 1)] u J1 _ (by decide) (by decide +kernel) (by simp) (T7.ext e1) hu fun p1 J2 ys g hp hd => ?_
  rw [closed3] at hd
  refine (Mk.tup (.cons (Mk.tup .nil (by simp)) (.cons (Mk.tup (.cons (.int 0) .nil) (by simp)) (.cons (Mk.tup (.cons (.int 2) .nil) (by simp)) (.cons (Mk.tup (.cons (.int 0) (.cons (.int 2) .nil)) (by simp)) (.cons (Mk.tup (.cons (.int 0) (.cons (.int 1) (.cons (.int 2) .nil))) (by simp)) .nil))))) (by simp)) J2 _ fun v5 J3 e3 d5 => ?_
  have d5 : Dt J3 v5 (.tuple (([[], [0], [2], [0, 2], [0, 1, 2]] : List (List Int)).map lotD)) := d5
  refine ⟨_, _, Dt.dp ((Dt.tup hp hd).same e3), Dt.dp d5, shaped_lots _, shaped_lots _, _, rfl, ?_⟩
  rw [eqv_lots]
  refine iteF (i_next ?_)
  have T8 := g.tab.ext e3
  clear d5 hd hp g hu e1 d1 T7 e3
  dsimp only
  refine i_seq (i_if (i_test (i_op (i_call ((MkA.cons (.int 1) (MkA.cons (Mk.tup .nil (by simp)) .nil)) J3 _ fun vs J1 e1 d1 => ?_)))))
  obtain ⟨u, rfl, hu⟩ : ∃ u, vs = [.int 1, u] ∧ Dt J1 u (.tuple (([] : List Tie).map tieD)) := by
    cases d1 with
    | cons hv t =>
      cases t with
      | cons hu t2 =>
        cases t2
        obtain rfl := hv.int_eq
        exact ⟨_, rfl, hu⟩
  refine lots_call 1 [] u J1 _ (by decide) (by decide +kernel) (by simp) (T8.ext e1) hu fun p1 J2 ys g hp hd => ?_
  rw [closed1] at hd
  refine (Mk.tup (.cons (Mk.tup .nil (by simp)) (.cons (Mk.tup (.cons (.int 0) .nil) (by simp)) .nil)) (by simp)) J2 _ fun v5 J4 e3 d5 => ?_
  have d5 : Dt J4 v5 (.tuple (([[], [0]] : List (List Int)).map lotD)) := d5
  refine ⟨_, _, Dt.dp ((Dt.tup hp hd).same e3), Dt.dp d5, shaped_lots _, shaped_lots _, _, rfl, ?_⟩
  rw [eqv_lots]
  refine iteF (i_next ?_)
  have T9 := g.tab.ext e3
  clear d5 hd hp g hu e1 d1 T8 e3
  dsimp only
  refine i_ret (i_and (i_op (i_CB (i_cons (i_call ((MkA.cons (.int 6) (MkA.cons (Mk.tup .nil (by simp)) .nil)) J4 _ fun vs J1 e1 d1 => ?_))))))
  obtain ⟨u, rfl, hu⟩ : ∃ u, vs = [.int 6, u] ∧ Dt J1 u (.tuple (([] : List Tie).map tieD)) := by
    cases d1 with
    | cons hv t =>
      cases t with
      | cons hu t2 =>
        cases t2
        obtain rfl := hv.int_eq
        exact ⟨_, rfl, hu⟩
  refine lots_call 6 [] u J1 _ (by decide) (by decide +kernel) (by simp) (T9.ext e1) hu fun p1 J2 ys g hp hd => ?_
  have h64 : ys.length = 64 := by
    have := hd.length
    rw [List.length_map, closed6] at this
    exact this
  refine ⟨.ref p1, ys.length, rfl, .inr ⟨ys, SqT.of hp, rfl⟩, rfl, _, rfl, ?_⟩
  have e64 : decide (V.int ((64 : Nat) : Int) = V.int 64) = true := decide_eq_true rfl
  rw [h64, e64]
  refine iteT (i_op (i_call ((MkA.cons (.int 6) (MkA.cons (Mk.tup .nil (by simp)) (MkA.cons (Mk.tup (.cons (.int 0) (.cons (.int 1) (.cons (.int 2) (.cons (.int 3) (.cons (.int 4) (.cons (.int 5) .nil)))))) (by simp)) .nil))) J2 _ fun vs J5 e5 d1 => ?_)))
  obtain ⟨u2, x, rfl, hu2, hx⟩ : ∃ u x, vs = [.int 6, u, x] ∧ Dt J5 u (.tuple []) ∧ Dt J5 x (lotD [0, 1, 2, 3, 4, 5]) := by
    cases d1 with
    | cons hv t =>
      cases t with
      | cons hu t2 =>
        cases t2 with
        | cons hx t3 =>
          cases t3
          obtain rfl := hv.int_eq
          exact ⟨_, _, rfl, hu, hx⟩
  refine ⟨.int 6, u2, x, .int 6, .tuple [], lotD [0, 1, 2, 3, 4, 5], rfl, .int 6, hu2, hx, Nat.zero_le _, by show 6 ≤ 10000; decide, (fun z => absurd z (by decide)), fun _ => ⟨(fun z => absurd z (by decide +kernel)), fun _ J6 e6 => ⟨_, true, rfl, rfl, ?_⟩⟩⟩
  have hv : (plainB (nOf (.int 6)) (lotD [0, 1, 2, 3, 4, 5]) && closedB (tiesOf (.tuple [])) (lotOf (lotD [0, 1, 2, 3, 4, 5]))) = true := by decide +kernel
  rw [hv, decide_eq_true rfl]
  exact q _
end
end K1
namespace K1
open PySem PySem.Spec PyProof.Rows L2 LamX NdefX
/-! ### the law's call from its caller, who is in no guard -/
/-- what is tracked when the law begins: the script (unless it is of the written part), the tables -/
def H0 (K : PySem.W.Frag) (a : Addr) (vs : List Value) (ns : List Int) (ts : List Addr) : Hp := fun b =>
  if b = a ∧ K.lookup a = none then some (.frz { cls := .type "list", data := .seq vs.toArray } (.lst (ns.map V.int))) else if b ∈ ts then some (.tbl #[]) else none
section
variable {P : Program} {w : World} {K : PySem.W.Frag} {a b : Addr} {vs : List Value} {ns : List Int} {ts : List Addr} {s₁ : Shared}
theorem H0_cases (K : PySem.W.Frag) (a : Addr) (vs : List Value) (ns : List Int) (ts : List Addr) (b : Addr) : (H0 K a vs ns ts b = none ∧ (b = a → K.lookup a ≠ none) ∧ b ∉ ts) ∨ (b ∈ ts ∧ H0 K a vs ns ts b = some (.tbl #[])) ∨ (b = a ∧ K.lookup a = none ∧ H0 K a vs ns ts b = some (.frz { cls := .type "list", data := .seq vs.toArray } (.lst (ns.map V.int)))) := by
  unfold H0
  by_cases h1 : b = a ∧ K.lookup a = none
  · rw [if_pos h1]
    exact .inr (.inr ⟨h1.1, h1.2, rfl⟩)
  · rw [if_neg h1]
    by_cases h2 : b ∈ ts
    · rw [if_pos h2]
      exact .inr (.inl ⟨h2, rfl⟩)
    · rw [if_neg h2]
      exact .inl ⟨rfl, fun e z => h1 ⟨e, z⟩, h2⟩
end
section
variable {P : Program} {w : World} {K : PySem.W.Frag} {mg mb : Str → Option Value} {fa a : Addr} {cs : List (Addr × Addr)} {s₁ : Shared} {vs : List Value} {ns : List Int}
theorem law_callG (KX : K.In s₁.heap) (hns : s₁.heap.Ns mainGlobals mg) (hb : s₁.heap.Ns builtinsNs mb) (hbb : ∀ x : Str, x ≠ "__name__" → mb x = bootBuiltins x) (hlim : s₁.heap.NoLimit) (hg : s₁.gens = #[])
    (hT : ∀ p ∈ cs, s₁.heap.get? p.2 = some { cls := .none, data := .fields #[] }) (nT : ∀ p ∈ cs, K.lookup p.2 = none) (C : ∀ p ∈ cs, PySem.W.CodeHd s₁.heap p.1 p.2)
    (hbm : ∃ (bm : Addr) (ob : Obj), mg "__builtins__" = some (.ref bm) ∧ bm ≠ builtinsNs ∧ s₁.heap.get? bm = some ob ∧ ob.cls = .type "module" ∧ ob.dict = some builtinsNs ∧ ob.data = .plain)
    (ha : s₁.heap.get? a = some { cls := .type "list", data := .seq vs.toArray }) (hi : IntsAre vs ns) (hl : ns.length ≤ sizeLine)
    (F : ∀ (base : Heap) (H : Hp), K.In base → base.Ns mainGlobals mg → (∀ p ∈ cs, TabB base mg p.1 p.2) → Env0 P w K mg base callerA [] s₁ H → (∀ p ∈ cs, H p.2 = some (.tbl #[])) → SqL K H a (ns.map V.int) →
      codeAny (model P w) callerA (.call (.ref fa) ⟨[.ref a], []⟩) (CR L2.CX0 [] P w H s₁ (fun v _ => v = .bl true) L2.E0) s₁) :
    codeAny (model P w) callerA (.call (.ref fa) ⟨[.ref a], []⟩) (fun r s' => r = .ok (.ret (.bool true)) ∧ OldK s₁.heap s'.heap ∧ s'.os = s₁.os ∧ AllBare s'.gens) s₁ := by
  have rv := vals_ints hi
  have lenV := hi.length
  have inT : ∀ {b : Addr}, b ∈ cs.map (·.2) → ∃ p ∈ cs, p.2 = b := fun hm => List.mem_map.mp hm
  have tabAt : ∀ {b : Addr}, b ∈ cs.map (·.2) → s₁.heap.get? b = some { cls := .none, data := .fields #[] } := fun hm => by
    obtain ⟨p, hp, e⟩ := inT hm
    rw [← e]
    exact hT p hp
  have hH : ∀ p ∈ cs, H0 K a vs ns (cs.map (·.2)) p.2 = some (.tbl #[]) := fun p hp => by
    rcases H0_cases K a vs ns (cs.map (·.2)) p.2 with ⟨_, _, z⟩ | ⟨_, e⟩ | ⟨e, _, _⟩
    · exact absurd (List.mem_map.mpr ⟨p, hp, rfl⟩) z
    · exact e
    · have q := hT p hp
      rw [e, ha] at q
      have z : Data.seq vs.toArray _ = Data.fields #[] := congrArg Obj.data (Option.some.inj q)
      cases z
  -- an object of another kind is not tracked
  have free : ∀ {b : Addr} {o : Obj}, s₁.heap.get? b = some o → (∀ us n, o.data ≠ .seq us n) → o.data ≠ .fields #[] → H0 K a vs ns (cs.map (·.2)) b = none := fun {b o} e h1 h2 => by
    rcases H0_cases K a vs ns (cs.map (·.2)) b with ⟨z, _⟩ | ⟨hm, _⟩ | ⟨e2, _, _⟩
    · exact z
    · rw [tabAt hm] at e
      cases e
      exact absurd rfl h2
    · rw [e2, ha] at e
      cases e
      exact absurd rfl (h1 _ _)
  have freeD : ∀ {b : Addr} {o : Obj} {es : Array DictEntry} {ep : Nat}, s₁.heap.get? b = some o → o.data = .dict es ep → H0 K a vs ns (cs.map (·.2)) b = none := fun e d => free e (fun _ _ z => by rw [d] at z; cases z) (fun z => by rw [d] at z; cases z)
  have nsK : ∀ {b : Addr} {m : Str → Option Value}, s₁.heap.Ns b m → (hidT s₁.heap (H0 K a vs ns (cs.map (·.2)))).Ns b m := fun {b m} ⟨o, es, ep, e, d, r⟩ => ⟨o, es, ep, hidT_get e (freeD e d), d, r⟩
  have KB : K.In (hidT s₁.heap (H0 K a vs ns (cs.map (·.2)))) := fun b o e => hidT_get (KX b o e) (by
    rcases H0_cases K a vs ns (cs.map (·.2)) b with ⟨z, _⟩ | ⟨hm, _⟩ | ⟨e2, z, _⟩
    · exact z
    · obtain ⟨p, hp, ep⟩ := inT hm
      rw [← ep, nT p hp] at e
      cases e
    · rw [e2, z] at e
      cases e)
  have md : L2.Mod K mg (hidT s₁.heap (H0 K a vs ns (cs.map (·.2)))) := ⟨KB, nsK hns, ⟨mb, nsK hb, hbb⟩, let ⟨mc, h1, h2⟩ := hlim; ⟨mc, nsK h1, h2⟩⟩
  have TB : ∀ p ∈ cs, TabB (hidT s₁.heap (H0 K a vs ns (cs.map (·.2)))) mg p.1 p.2 := fun p hp => by
    have hTp := hT p hp
    refine ⟨?_, ?_, fun z => ?_⟩
    · obtain ⟨o, us, file, tf, flags, tg, inF, text, tt, e1, r1, r2, r3, r4, r5, r6, r7, r8, hne⟩ := C p hp
      refine ⟨o, us, file, tf, flags, tg, inF, text, tt, hidT_get e1 (free e1 (fun _ _ z => by rw [r2] at z; cases z) fun z => ?_), r1, r2, r3, r4, r5, r6, r7, r8, hne⟩
      rw [r2] at z
      cases z
      simp at r3
    · obtain ⟨bm, ob, b1, b2, b3, b4, b5, b6⟩ := hbm
      have nG : bm ≠ mainGlobals := fun q => by
        obtain ⟨o, es, ep, e, hd, _⟩ := hns
        rw [q, e] at b3
        cases b3
        rw [hd] at b6
        cases b6
      have nP : bm ≠ p.2 := fun q => by
        rw [q, hTp] at b3
        cases b3
        cases b6
      exact ⟨bm, ob, b1, b2, nG, nP, hidT_get b3 (free b3 (fun _ _ z => by rw [b6] at z; cases z) fun z => by rw [b6] at z; cases z), b4, b5, b6⟩
    · obtain ⟨o, es, ep, e, hd, _⟩ := hns
      rw [z, hTp] at e
      cases e
      cases hd
  have hok : HOk P w (H0 K a vs ns (cs.map (·.2))) s₁.heap := fun b u e => by
    rcases H0_cases K a vs ns (cs.map (·.2)) b with ⟨z, _⟩ | ⟨hm, z⟩ | ⟨e2, _, z⟩
    · rw [z] at e
      cases e
    · rw [z] at e
      cases e
      exact tabAt hm
    · rw [z] at e
      cases e
      rw [e2]
      exact ⟨ha, by rw [List.length_map]; exact hl, vs, _, rv, ha⟩
  have e0 : Env0 P w K mg (hidT s₁.heap (H0 K a vs ns (cs.map (·.2)))) callerA [] s₁ (H0 K a vs ns (cs.map (·.2))) :=
    ⟨rfl, md, fun b o e => of_hidT e, Nat.le_of_eq (hidT_size _ _), trivial, fun b hb => absurd (show b ∈ ([] : List Addr) from hb) (by simp), hok, .of_eq hg⟩
  have hS : SqL K (H0 K a vs ns (cs.map (·.2))) a (ns.map V.int) := by
    cases hk : K.lookup a with
    | none =>
      refine .inl (.inr ⟨{ cls := .type "list", data := .seq vs.toArray }, ?_⟩)
      unfold H0
      exact if_pos ⟨rfl, hk⟩
    | some o =>
      have e := KX a o hk
      rw [ha] at e
      cases e
      exact .inr ⟨_, vs.toArray, _, hk, rfl, rfl, rfl, by rw [List.size_toArray, lenV]; exact hl, by simpa using rv⟩
  refine codeAny_mono (F _ _ KB (nsK hns) TB e0 hH hS) fun r s' h => ?_
  cases r with
  | error e => exact (show False from h).elim
  | ok fl =>
    cases fl with
    | next => exact False.elim h
    | brk => exact False.elim h
    | cont => exact False.elim h
    | ret u =>
      obtain ⟨v, H', os, bare, un, hok', r', q⟩ := h
      have q' : v = .bl true := q
      subst q'
      obtain rfl : u = Value.bool true := r'
      refine ⟨rfl, ⟨fun b o e => ?_, fun b o e => ?_⟩, os, bare⟩
      · rcases H0_cases K a vs ns (cs.map (·.2)) b with ⟨z, _⟩ | ⟨hm, z⟩ | ⟨_, _, z⟩
        · exact .inl (un.keep b o e z (fun z => absurd (show b ∈ ([] : List Addr) from z) (by simp)) (by simp))
        · obtain ⟨p, hp, ep⟩ := inT hm
          obtain ⟨more, zm⟩ := un.tbls b #[] z
          have hm' := hok' b _ zm
          rw [tabAt hm] at e
          cases e
          rw [← ep] at hm' ⊢
          exact .inr (.inl ⟨((C p hp).tab (hT p hp)).isCodeTable, rfl, #[], more, rfl, hm'⟩)
        · obtain ⟨e1, _⟩ := hok b _ z
          obtain ⟨e2, _⟩ := hok' b _ (un.frzs b _ _ z)
          rw [e] at e1
          cases e1
          exact .inl e2
      · exact un.there b o e (by simp)
end
end K1
namespace K1
open PySem PySem.Spec PyProof.Rows L2 LamX NdefX
/-! ### the head: what the top leaves -/
def dF (x : Str) (st : Stmt) : He.DefD := ⟨(x, none), x, x, defArgs st, defBody st, defScope st, [], []⟩
def dI (C q : Str) (st : Stmt) : He.DefD := ⟨(C, some "__init__"), "__init__", q, defArgs st, defBody st, defScope st, [], []⟩
def fn : List He.DefD := [dF "is_integer" sIsInt, dF "is_between" sBetw, dF "is_plain_lot" sPlain, dF "is_tie" sIsTie, dF "needed_in" sNeed, dF "are_ties" sAre, dF "is_closed_in" sClosIn, dF "all_lots" sLots, dF "closed_in" sClosed, dF "need_ties" sNeedT, dF "closed_lots" sCloLots, dF "is_closed" sIsClos, dF "_law_mixed" sMixed, dF "_law_begin" sBegin, dF "_law_draw" sDraw, dF "_law_lots" sLLots, dF "_law_closed" sLClosed, dF "_law_ties" sLTies, dF "_law_heard" sHeard, dF "_law_good" sGood, dF "law" sLaw,
  dI "BadNumber" "BadNumber.__init__" sBadN, dI "BadTies" "BadTies.__init__" sBadT]
def fa : List He.Fa := [.free "isinstance", .free "int", .free "bool", .free "tuple", .free "all", .free "any", .free "zip", .free "len", .free "range", .free "sorted", .free "repr", .free "list", .free "min", .glo "is_integer", .glo "is_between", .glo "is_plain_lot", .glo "is_tie", .glo "needed_in", .glo "are_ties", .glo "is_closed_in", .glo "all_lots", .glo "closed_in", .glo "need_ties", .glo "closed_lots", .glo "is_closed", .glo "_law_mixed", .glo "_law_begin", .glo "_law_draw", .glo "_law_lots", .glo "_law_closed", .glo "_law_ties", .glo "_law_heard", .glo "_law_good", .glo "law", .glo "BadNumber", .glo "BadTies", .int "MOST_THINGS" 6]
def tf : List He.Defn := [("all_lots", none), ("law", none)]
/-- an error class of the program -/
def oexB (K : PySem.W.Frag) (C : Addr) : Bool := match K.lookup C with
  | some ⟨.type t, _, .cls cd, sl⟩ => decide (t = "type") && (match cd.mro, sl.toList with
    | .ref C' :: bm, [_, _, _, _, some (.builtin n), _] => C' == C && (n == "ValueError.__new__" && (!cd.hasDel && (cd.hasDict && PySem.HandSPX.refsVE bm)))
    | _, _ => false)
  | _ => false
theorem oexB_ok {K : PySem.W.Frag} {C : Addr} (h : oexB K C = true) : ∃ nm q N bs bm sn sub ab col dd k0 k1 k2 k3 k5, K.lookup C = some (excClassObj nm q C N bs bm true sn sub ab col dd k0 k1 k2 k3 k5 "ValueError.__new__") ∧ PySem.HandSPX.refsVE bm = true := by
  unfold oexB at h
  split at h
  · rename_i t dd cd sl ho
    obtain ⟨ht, h⟩ := Bool.and_eq_true_iff.mp h
    obtain rfl := of_decide_eq_true ht
    split at h
    · rename_i C' bm k0 k1 k2 k3 n k5 hm hs
      simp only [Bool.and_eq_true, beq_iff_eq, Bool.not_eq_true'] at h
      obtain ⟨_, rfl, rfl, hdel, hd, hr⟩ := h
      obtain ⟨nm, bs, mro, ns, qn, hdd, sn, sub, ab, col, del⟩ := cd
      dsimp only at hm hdel hd
      subst hm hdel hd
      have hsl : sl = #[k0, k1, k2, k3, some (.builtin "ValueError.__new__"), k5] := by
        obtain ⟨l⟩ := sl
        simp only at hs
        rw [hs]
      subst hsl
      exact ⟨nm, qn, ns, bs, bm, sn, sub, ab, col, dd, k0, k1, k2, k3, k5, ho, hr⟩
    · cases h
  · cases h
def clsB (K : PySem.W.Frag) (C : Addr) : Bool := xfB K C && (decide (PySem.W.findIn K (.ref C) "given" = some none) && (oexB K C && (decide (PySem.W.findIn K (.ref C) "__setattr__" = some (some (.builtin "object.__setattr__"))) &&
  (decide (PySem.W.subIn K (.ref C) (.type "BaseException") = some true) && (decide (PySem.W.typeIn K (.ref C) = some (.type "type")) && (PySem.W.keepIn K (.ref C) &&
  (decide (PySem.W.findIn K (.ref C) "__init__" = some (some (.ref (He.ma K C "__init__")))) && decide (PySem.W.typeIn K (.ref (He.ma K C "__init__")) = some (.type "function")))))))))
structure ClsF (K : PySem.W.Frag) (C : Addr) : Prop where
  xf : XfC K C
  no : PySem.W.findIn K (.ref C) "given" = some none
  ox : OexC K C
  fi : PySem.W.findIn K (.ref C) "__init__" = some (some (.ref (He.ma K C "__init__")))
  ti : PySem.W.typeIn K (.ref (He.ma K C "__init__")) = some (.type "function")
theorem clsB_ok {K : PySem.W.Frag} {C : Addr} (h : clsB K C = true) : ClsF K C := by
  obtain ⟨h1, h⟩ := Bool.and_eq_true_iff.mp h
  obtain ⟨h2, h⟩ := Bool.and_eq_true_iff.mp h
  obtain ⟨h3, h⟩ := Bool.and_eq_true_iff.mp h
  obtain ⟨h4, h⟩ := Bool.and_eq_true_iff.mp h
  obtain ⟨h5, h⟩ := Bool.and_eq_true_iff.mp h
  obtain ⟨h6, h⟩ := Bool.and_eq_true_iff.mp h
  obtain ⟨h7, h⟩ := Bool.and_eq_true_iff.mp h
  obtain ⟨h8, h9⟩ := Bool.and_eq_true_iff.mp h
  exact ⟨xfB_ok h1, of_decide_eq_true h2, ⟨oexB_ok h3, of_decide_eq_true h4, of_decide_eq_true h5, of_decide_eq_true h6, h7⟩, of_decide_eq_true h8, of_decide_eq_true h9⟩
def exB (K : PySem.W.Frag) : Bool := clsB K (He.ga K "BadNumber") && (clsB K (He.ga K "BadTies") && (decide (PySem.W.exmOne K (.ref (He.ga K "BadNumber")) (.ref (He.ga K "BadNumber")) = some true) &&
  (decide (PySem.W.exmOne K (.ref (He.ga K "BadTies")) (.ref (He.ga K "BadNumber")) = some false) && (decide (PySem.W.exmOne K (.ref (He.ga K "BadTies")) (.ref (He.ga K "BadTies")) = some true) &&
  decide ((He.cT K ("all_lots", none)).2 ≠ (He.cT K ("law", none)).2)))))
structure ExF (K : PySem.W.Frag) : Prop where
  n : ClsF K (He.ga K "BadNumber")
  t : ClsF K (He.ga K "BadTies")
  nn : PySem.W.exmOne K (.ref (He.ga K "BadNumber")) (.ref (He.ga K "BadNumber")) = some true
  tn : PySem.W.exmOne K (.ref (He.ga K "BadTies")) (.ref (He.ga K "BadNumber")) = some false
  tt : PySem.W.exmOne K (.ref (He.ga K "BadTies")) (.ref (He.ga K "BadTies")) = some true
  ne : (He.cT K ("all_lots", none)).2 ≠ (He.cT K ("law", none)).2
theorem exB_ok {K : PySem.W.Frag} (h : exB K = true) : ExF K := by
  obtain ⟨h1, h⟩ := Bool.and_eq_true_iff.mp h
  obtain ⟨h2, h⟩ := Bool.and_eq_true_iff.mp h
  obtain ⟨h3, h⟩ := Bool.and_eq_true_iff.mp h
  obtain ⟨h4, h⟩ := Bool.and_eq_true_iff.mp h
  obtain ⟨h5, h6⟩ := Bool.and_eq_true_iff.mp h
  exact ⟨clsB_ok h1, clsB_ok h2, of_decide_eq_true h3, of_decide_eq_true h4, of_decide_eq_true h5, of_decide_eq_true h6⟩
theorem code_at {K : PySem.W.Frag} {x : Str} {st : Stmt} {fd : FuncData} (F : FnP K x st (He.fAd K (x, none)) fd) : fd.code = .ref (He.codeOf K (x, none)) := by
  obtain ⟨oc, od, dV, kV, doc, pm, an, cdv, ct, osl, rfl, lk, hcd, _, _⟩ := F.ex
  obtain ⟨c0, rfl⟩ := He.codeIn_ref hcd
  have e := He.codeOf_eq (p := (x, none)) (c := c0) lk rfl
  rw [e]
section
variable {w : World} {K : PySem.W.Frag} {h : Heap} {mg : Str → Option Value}
theorem gs_of (X : K.In h) (G : h.Ns mainGlobals mg) (c : He.SaysD fa fn K) : Gs K mg where
  isinstance := He.free_ok X G (c.fact 0 (f := .free "isinstance") rfl)
  int := He.free_ok X G (c.fact 1 (f := .free "int") rfl)
  bool := He.free_ok X G (c.fact 2 (f := .free "bool") rfl)
  tuple := He.free_ok X G (c.fact 3 (f := .free "tuple") rfl)
  all := He.free_ok X G (c.fact 4 (f := .free "all") rfl)
  any := He.free_ok X G (c.fact 5 (f := .free "any") rfl)
  zip := He.free_ok X G (c.fact 6 (f := .free "zip") rfl)
  len := He.free_ok X G (c.fact 7 (f := .free "len") rfl)
  range := He.free_ok X G (c.fact 8 (f := .free "range") rfl)
  sorted := He.free_ok X G (c.fact 9 (f := .free "sorted") rfl)
  repr := He.free_ok X G (c.fact 10 (f := .free "repr") rfl)
  list := He.free_ok X G (c.fact 11 (f := .free "list") rfl)
  min := He.free_ok X G (c.fact 12 (f := .free "min") rfl)
  fInt := by obtain ⟨fd, F⟩ := c.def_ 0 (d := dF "is_integer" sIsInt) rfl; exact ⟨_, fd, He.glo_ok X G (c.fact 13 (f := .glo "is_integer") rfl), F⟩
  fBetw := by obtain ⟨fd, F⟩ := c.def_ 1 (d := dF "is_between" sBetw) rfl; exact ⟨_, fd, He.glo_ok X G (c.fact 14 (f := .glo "is_between") rfl), F⟩
  fPlain := by obtain ⟨fd, F⟩ := c.def_ 2 (d := dF "is_plain_lot" sPlain) rfl; exact ⟨_, fd, He.glo_ok X G (c.fact 15 (f := .glo "is_plain_lot") rfl), F⟩
  fTie := by obtain ⟨fd, F⟩ := c.def_ 3 (d := dF "is_tie" sIsTie) rfl; exact ⟨_, fd, He.glo_ok X G (c.fact 16 (f := .glo "is_tie") rfl), F⟩
  fNeed := by obtain ⟨fd, F⟩ := c.def_ 4 (d := dF "needed_in" sNeed) rfl; exact ⟨_, fd, He.glo_ok X G (c.fact 17 (f := .glo "needed_in") rfl), F⟩
  fAre := by obtain ⟨fd, F⟩ := c.def_ 5 (d := dF "are_ties" sAre) rfl; exact ⟨_, fd, He.glo_ok X G (c.fact 18 (f := .glo "are_ties") rfl), F⟩
  fClosIn := by obtain ⟨fd, F⟩ := c.def_ 6 (d := dF "is_closed_in" sClosIn) rfl; exact ⟨_, fd, He.glo_ok X G (c.fact 19 (f := .glo "is_closed_in") rfl), F⟩
theorem ex_of (X : K.In h) (G : h.Ns mainGlobals mg) (c : He.SaysD fa fn K) (e : ExF K) : ExG K mg (He.ga K "BadNumber") (He.ga K "BadTies") where
  gN := He.glo_ok X G (c.fact 34 (f := .glo "BadNumber") rfl)
  gT := He.glo_ok X G (c.fact 35 (f := .glo "BadTies") rfl)
  ec := ⟨e.n.xf, e.t.xf, e.n.no, e.t.no, e.nn, e.tn, e.tt⟩
  oN := e.n.ox
  oT := e.t.ox
  iN := by obtain ⟨fd, F⟩ := c.def_ 21 (d := dI "BadNumber" "BadNumber.__init__" sBadN) rfl; exact ⟨_, fd, e.n.fi, e.n.ti, F⟩
  iT := by obtain ⟨fd, F⟩ := c.def_ 22 (d := dI "BadTies" "BadTies.__init__" sBadT) rfl; exact ⟨_, fd, e.t.fi, e.t.ti, F⟩
  most := He.int_ok X G (c.fact 36 (f := .int "MOST_THINGS" 6) rfl)
theorem pr_of (X : K.In h) (G : h.Ns mainGlobals mg) (c : He.SaysD fa fn K) (e : ExF K) : PrG K mg (He.ga K "BadNumber") (He.ga K "BadTies") where
  gs := gs_of X G c
  ex := ex_of X G c e
  fNeedT := by obtain ⟨fd, F⟩ := c.def_ 9 (d := dF "need_ties" sNeedT) rfl; exact ⟨_, fd, He.glo_ok X G (c.fact 22 (f := .glo "need_ties") rfl), F⟩
  fClosed := by obtain ⟨fd, F⟩ := c.def_ 8 (d := dF "closed_in" sClosed) rfl; exact ⟨_, fd, He.glo_ok X G (c.fact 21 (f := .glo "closed_in") rfl), F⟩
  fCloLots := by obtain ⟨fd, F⟩ := c.def_ 10 (d := dF "closed_lots" sCloLots) rfl; exact ⟨_, fd, He.glo_ok X G (c.fact 23 (f := .glo "closed_lots") rfl), F⟩
  fIsClos := by obtain ⟨fd, F⟩ := c.def_ 11 (d := dF "is_closed" sIsClos) rfl; exact ⟨_, fd, He.glo_ok X G (c.fact 24 (f := .glo "is_closed") rfl), F⟩
theorem draw_of (X : K.In h) (G : h.Ns mainGlobals mg) (c : He.SaysD fa fn K) : DrawG K mg := by
  obtain ⟨fd, F⟩ := c.def_ 14 (d := dF "_law_draw" sDraw) rfl
  obtain ⟨fd1, F1⟩ := c.def_ 12 (d := dF "_law_mixed" sMixed) rfl
  exact ⟨_, fd, He.glo_ok X G (c.fact 27 (f := .glo "_law_draw") rfl), F, ok_draw F F1 (He.glo_ok X G (c.fact 25 (f := .glo "_law_mixed") rfl)) (He.free_ok X G (c.fact 1 (f := .free "int") rfl)) (He.free_ok X G (c.fact 7 (f := .free "len") rfl))⟩
theorem lw_of (X : K.In h) (G : h.Ns mainGlobals mg) (c : He.SaysD fa fn K) : LwG K mg where
  draw := draw_of X G c
  fLots := by obtain ⟨fd, F⟩ := c.def_ 15 (d := dF "_law_lots" sLLots) rfl; exact ⟨_, fd, He.glo_ok X G (c.fact 28 (f := .glo "_law_lots") rfl), F⟩
  fClosed := by obtain ⟨fd, F⟩ := c.def_ 16 (d := dF "_law_closed" sLClosed) rfl; exact ⟨_, fd, He.glo_ok X G (c.fact 29 (f := .glo "_law_closed") rfl), F⟩
  fTies := by obtain ⟨fd, F⟩ := c.def_ 17 (d := dF "_law_ties" sLTies) rfl; exact ⟨_, fd, He.glo_ok X G (c.fact 30 (f := .glo "_law_ties") rfl), F⟩
  fBegin := by obtain ⟨fd, F⟩ := c.def_ 13 (d := dF "_law_begin" sBegin) rfl; exact ⟨_, fd, He.glo_ok X G (c.fact 26 (f := .glo "_law_begin") rfl), F⟩
  fGood := by obtain ⟨fd, F⟩ := c.def_ 19 (d := dF "_law_good" sGood) rfl; exact ⟨_, fd, He.glo_ok X G (c.fact 32 (f := .glo "_law_good") rfl), F⟩
  fHeard := by obtain ⟨fd, F⟩ := c.def_ 18 (d := dF "_law_heard" sHeard) rfl; exact ⟨_, fd, He.glo_ok X G (c.fact 31 (f := .glo "_law_heard") rfl), F⟩
/-- the tables that lambdas' code objects are noted in -/
abbrev TK (K : PySem.W.Frag) : List (Addr × Str) := [((He.cT K ("all_lots", none)).2, "all_lots.<locals>.<lambda>"), ((He.cT K ("law", none)).2, "law.<locals>.<lambda>")]
theorem law_at (X : K.In h) (G : h.Ns mainGlobals mg) {f : Addr} (hfa : mg "law" = some (.ref f)) (c : He.SaysD fa fn K) (e : ExF K) {P : Program} {a : Addr} {ns : List Int} {s₁ : Shared} (hlen : ns.length ≤ 63) {base : Heap} {H : Hp} (KB : K.In base)
    (TB : ∀ p ∈ tf.map (He.cT K), TabB base mg p.1 p.2) (e0 : Env0 P w K mg base callerA [] s₁ H) (hH : ∀ p ∈ tf.map (He.cT K), H p.2 = some (.tbl #[])) (hS : SqL K H a (ns.map V.int)) :
    codeAny (model P w) callerA (.call (.ref f) ⟨[.ref a], []⟩) (CR L2.CX0 [] P w H s₁ (fun v _ => v = .bl true) L2.E0) s₁ := by
  obtain ⟨fd, F⟩ := c.def_ 20 (d := dF "law" sLaw) rfl
  obtain ⟨fdL, FL⟩ := c.def_ 7 (d := dF "all_lots" sLots) rfl
  have F : FnP K "law" sLaw (He.fAd K ("law", none)) fd := F
  have FL : FnP K "all_lots" sLots (He.fAd K ("all_lots", none)) fdL := FL
  have ef := hfa.symm.trans (He.glo_ok X G (c.fact 33 (f := .glo "law") rfl))
  cases ef
  have hT : Tabs (TK K) H := fun p hp => by
    rcases List.mem_cons.mp hp with z | z
    · rw [z]
      exact .nil (hH (He.cT K ("all_lots", none)) (by simp [tf]))
    · rw [List.mem_singleton.mp z]
      exact .nil (hH (He.cT K ("law", none)) (by simp [tf]))
  have L : LotsG K mg base (TK K) := ⟨_, fdL, _, _, He.glo_ok X G (c.fact 20 (f := .glo "all_lots") rfl), FL, code_at FL, TB (He.cT K ("all_lots", none)) (by simp [tf]), List.mem_cons_self, fun p hp hq => by
    rcases List.mem_cons.mp hp with z | z
    · rw [z]
    · rw [List.mem_singleton.mp z] at hq
      exact absurd hq.symm e.ne⟩
  have hu : ∀ p ∈ TK K, p.1 = (He.cT K ("law", none)).2 → p.2 = "law.<locals>.<lambda>" := fun p hp hq => by
    rcases List.mem_cons.mp hp with z | z
    · rw [z] at hq
      exact absurd hq e.ne
    · rw [List.mem_singleton.mp z]
  have b : Binds K fd ["_law_script"] [] := F.bindsN fun _ _ _ _ _ _ us hl => match us, hl with | [_], _ => rfl
  have hbd := b s₁ [.ref a] (KB.keeps fun b o e => (e0.bs b o e).1) rfl
  have hcode := code_at F
  obtain ⟨oc, od, dV, kV, doc, pm, an, cdv, ct, osl, rfl, lk, hcd, _, _⟩ := F.ex
  have hcode : cdv = .ref (He.codeOf K ("law", none)) := hcode
  subst hcode
  refine run_ofS (k := 8) (N := nLaw) (ps := ["_law_script"]) (us := [.ref a]) (vs := [.ref a]) lk hcd scLaw ⟨rfl, by decide, by decide⟩ e0 hbd (.cons rfl .nil) rfl fun hr' => ?_
  obtain ⟨t, ht, hq⟩ := body_law (P := P) (w := w) (K := K) (mg := mg) (base := base) (T := TK K) (CN := He.ga K "BadNumber") (CT := He.ga K "BadTies") (A := callerA) (outer := []) (s := s₁) (H := H) (vs := [.ref a]) (Q := fun v _ => v = .bl true) rfl (pr_of X G c e) L (lw_of X G c)
    (TB (He.cT K ("law", none)) (by simp [tf])) (List.mem_cons_of_mem _ List.mem_cons_self) hu hr' ⟨a, ns, rfl, hS, hlen, hT, fun _ => rfl⟩
  exact ⟨t, ht.nox, hq⟩
end
end K1
namespace K1
open PySem PySem.Spec PyProof.Rows L2 LamX NdefX
abbrev RR : PySem.W.OpenRow := PySem.W.OpenLaw.row PySem.Challenge.rw_evenhouse_k01_whole_closed_lots
abbrev hk : PySem.W.Hook := He.hookX 5 fa fn [] tf exB
def ob (s : PySem.W.SharedT) : He.AlX := He.obsX 5 fa fn [] tf exB (HandSHeadRun.getT s)
theorem ob_eq (s : PySem.W.SharedT) : ob s = hk.obs s.abs := He.obsX_eq (HandSHeadRun.getT_eq s)
def loose : List PySem.Str := ["__name__", "EvenError", "BadNumber", "BadTies", "is_integer", "MOST_THINGS", "is_between", "is_plain_lot", "is_tie", "needed_in", "are_ties", "is_closed_in", "all_lots", "closed_in", "need_ties", "closed_lots", "is_closed",
  "_law_mixed", "_law_begin", "_law_draw", "_law_lots", "_law_closed", "_law_ties", "_law_heard", "_law_good"]
theorem run (w : World) : HandSHeadRun.RunEq RR (PySem.W.view RR.prog [28]) hk ob 4000 loose w := by
  intro os
  kernel_rfl
end K1
namespace K1
open PySem PySem.Spec PyProof.Rows L2 LamX NdefX
theorem walk_law {q : Program} {loose : List Str} {XP : (Str → Option Value) → Heap → Prop} {d : DefRec} (hdf : d.params.defaults = []) (hnm : d.name = ("law" : Str)) :
    PySem.W.WalkO q loose XP hk.says PySem.Challenge.rw_evenhouse_k01_whole_closed_lots.row.toRowW d [] (fun f vs => PySem.call f vs) := by
  refine Att.attach_callB (l := PySem.Challenge.rw_evenhouse_k01_whole_closed_lots) (n := 63) rfl hdf fun w s₀ s₁ mg mb fa' o pm cd doc a vs ns G Y ho hd hcd hmg hobj hints hlen hbits hg => ?_
  obtain ⟨K, KX, c⟩ := Y
  rw [hnm] at hmg
  have cD : He.SaysD fa fn K := congrArg (fun z : He.AlT => z.1) c.t
  have cE := exB_ok c.more
  refine law_callG (cs := tf.map (He.cT K)) KX G.T.g G.T.b G.T.builtins G.T.nolimit hg (fun p hp => ?_) (fun p hp => ?_) (fun p hp => ?_) G.T.bmain hobj hints (Nat.le_trans hlen (by decide)) fun base H KB nsB TB e0 hH hS => law_at KX G.T.g hmg cD cE hlen KB TB e0 hH hS
  · obtain ⟨x, hx, rfl⟩ := List.mem_map.mp hp
    exact c.empty x hx
  · obtain ⟨x, hx, rfl⟩ := List.mem_map.mp hp
    exact c.out x hx
  · obtain ⟨x, hx, rfl⟩ := List.mem_map.mp hp
    exact PySem.W.codeHd_of_K KX (c.hd x hx)
end K1
open PySem PySem.W PySem.Calls PyProof.Rows
theorem PySem.Challenge.cw_evenhouse_k01_whole_closed_lots_holds : PySem.Challenge.rw_evenhouse_k01_whole_closed_lots.Holds := by
  w_on; o_law
  refine HandSHeadRun.head_any (r := OpenLaw.row PySem.Challenge.rw_evenhouse_k01_whole_closed_lots) (q := view (OpenLaw.row PySem.Challenge.rw_evenhouse_k01_whole_closed_lots).prog [28]) (H := K1.hk) (ob := K1.ob) (M := 4000) (loose := K1.loose) (d := HandSHeadRun.topDef (OpenLaw.row PySem.Challenge.rw_evenhouse_k01_whole_closed_lots).prog 28) (kwd := []) K1.ob_eq
    (by kernel_rfl) (fun s => by kernel_rfl) K1.run (by kernel_rfl) (by kernel_rfl) (by kernel_rfl) (by rfl) (by first | assumption | decide +kernel) (by decide +kernel) ⟨rfl, rfl, rfl, rfl, rfl, by decide +kernel⟩ ?hw ?hc
  case hw => w_witness2
  case hc => exact K1.walk_law (by kernel_rfl) (by kernel_rfl)
