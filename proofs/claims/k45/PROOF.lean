import PyProof.Rows.All
import Wide.All
import OpenK.AllK
import Wide.FinOn
import HandS.Iter
import KE.GoesMore
import HandS.SetFor
import HandS.Strs
import HandS.SortKw
import KE.KMinKey
import KE.LtData
import HandS.ForMost
import HandS.Conv
import HandS.IsInst
import HandS.TupAny
import HandS.Walk
import HandS.Zip
import PySem.Challenge.RW_hingemount_k45_whole_a_false_stamp_takes
set_option Elab.async false
set_option linter.all false
set_option maxRecDepth 100000
set_option maxHeartbeats 4000000
section Mth
set_option autoImplicit false
namespace K45
/-- a move: the stamp, its giver, its taker -/
abbrev Mv := Nat × Int × Int
abbrev Deal := List Mv
def sts (d : Deal) : List Nat := d.map (·.1)
def step (o : List Int) (d : Deal) : List Int := d.foldl (fun o m => o.set m.1 m.2.2) o
def Can (o : List Int) (d : Deal) : Prop := ∀ m ∈ d, o[m.1]? = some m.2.1
def behind (o : List Int) (ds : List Deal) : List Int := ds.foldl step o
def Valid : List Int → List Deal → Prop
  | _, [] => True
  | o, d :: ds => Can o d ∧ Valid (step o d) ds
structure DealOk (n : Nat) (d : Deal) : Prop where
  ne : 1 ≤ d.length
  le : d.length ≤ 6
  nd : (sts d).Nodup
  mv : ∀ m ∈ d, m.1 < n ∧ 0 ≤ m.2.1 ∧ m.2.1 ≤ 5 ∧ 0 ≤ m.2.2 ∧ m.2.2 ≤ 5 ∧ m.2.1 ≠ m.2.2
structure OwnOk (o : List Int) : Prop where
  ne : 1 ≤ o.length
  le : o.length ≤ 12
  all : ∀ x ∈ o, 0 ≤ x ∧ x ≤ 5
structure Good (o : List Int) (ds : List Deal) : Prop where
  own : OwnOk o
  len : ds.length ≤ 10
  ok : ∀ d ∈ ds, DealOk o.length d
  can : Valid o ds

/-! ### steps -/
theorem step_nil (o : List Int) : step o [] = o := rfl
theorem step_cons (o : List Int) (m : Mv) (d : Deal) : step o (m :: d) = step (o.set m.1 m.2.2) d := rfl
theorem step_snoc (o : List Int) (d : Deal) (m : Mv) : step o (d ++ [m]) = (step o d).set m.1 m.2.2 := by
  unfold step
  rw [List.foldl_append]
  rfl
theorem step_length : ∀ (d : Deal) (o : List Int), (step o d).length = o.length
  | [], _ => rfl
  | m :: d, o => by rw [step_cons, step_length d, List.length_set]
theorem behind_snoc (o : List Int) (ds : List Deal) (d : Deal) : behind o (ds ++ [d]) = step (behind o ds) d := by
  unfold behind
  rw [List.foldl_append]
  rfl
theorem behind_length : ∀ (ds : List Deal) (o : List Int), (behind o ds).length = o.length
  | [], _ => rfl
  | d :: ds, o => by
    show (behind (step o d) ds).length = o.length
    rw [behind_length ds, step_length]
theorem step_other {s : Nat} : ∀ (d : Deal) (o : List Int), s ∉ sts d → (step o d)[s]? = o[s]?
  | [], _, _ => rfl
  | m :: d, o, h => by
    have h1 : s ≠ m.1 := fun e => h (by rw [e]; exact List.mem_cons_self)
    have h2 : s ∉ sts d := fun e => h (List.mem_cons_of_mem _ e)
    rw [step_cons, step_other d _ h2, List.getElem?_set_ne (Ne.symm h1)]
/-- the owner of a moved stamp behind the deal hangs on the deal alone -/
theorem step_moved {s : Nat} : ∀ (d : Deal) (o o' : List Int), s ∈ sts d → s < o.length → s < o'.length → (step o d)[s]? = (step o' d)[s]?
  | [], _, _, h, _, _ => by simp [sts] at h
  | m :: d, o, o', h, h1, h2 => by
    rw [step_cons, step_cons]
    by_cases hd : s ∈ sts d
    · exact step_moved d _ _ hd (by rw [List.length_set]; exact h1) (by rw [List.length_set]; exact h2)
    · have e : s = m.1 := by
        rcases List.mem_cons.mp h with e | e
        · exact e
        · exact absurd e hd
      rw [step_other d _ hd, step_other d _ hd]
      subst e
      rw [List.getElem?_set_self h1, List.getElem?_set_self h2]
theorem valid_snoc : ∀ (ds : List Deal) (o : List Int) (d : Deal), Valid o (ds ++ [d]) ↔ Valid o ds ∧ Can (behind o ds) d
  | [], o, d => by
    show Can o d ∧ True ↔ True ∧ Can o d
    exact And.comm
  | c :: ds, o, d => by
    show Can o c ∧ Valid (step o c) (ds ++ [d]) ↔ (Can o c ∧ Valid (step o c) ds) ∧ Can (behind (step o c) ds) d
    rw [valid_snoc ds, and_assoc]
theorem valid_take : ∀ (k : Nat) (ds : List Deal) (o : List Int), Valid o ds → Valid o (ds.take k)
  | 0, _, _, _ => trivial
  | _ + 1, [], _, _ => trivial
  | k + 1, _ :: ds, _, h => ⟨h.1, valid_take k ds _ h.2⟩
theorem valid_at {ds : List Deal} {o : List Int} {i : Nat} {d : Deal} (h : Valid o ds) (e : ds[i]? = some d) : Can (behind o (ds.take i)) d := by
  have h1 := valid_take (i + 1) ds o h
  rw [List.take_add_one, e] at h1
  exact ((valid_snoc _ _ _).mp h1).2
theorem Good.take {o : List Int} {ds : List Deal} (g : Good o ds) (k : Nat) : Good o (ds.take k) :=
  ⟨g.own, by rw [List.length_take]; have := g.len; omega, fun d h => g.ok d (List.mem_of_mem_take h), valid_take k ds o g.can⟩

/-! ### who moves what, and on what a deal leans -/
def mvs (ds : List Deal) (q s : Nat) : Bool := match ds[q]? with
  | some d => decide (s ∈ sts d)
  | none => false
theorem mvs_some {ds : List Deal} {q s : Nat} {d : Deal} (e : ds[q]? = some d) : mvs ds q s = decide (s ∈ sts d) := by
  unfold mvs
  rw [e]
theorem mvs_lt {ds : List Deal} {q s : Nat} (h : mvs ds q s = true) : q < ds.length := by
  unfold mvs at h
  cases e : ds[q]? with
  | none => rw [e] at h; cases h
  | some d => exact (List.getElem?_eq_some_iff.mp e).1
def lastOf (ds : List Deal) : Nat → Nat → Option Nat
  | 0, _ => none
  | i + 1, s => if mvs ds i s = true then some i else lastOf ds i s
theorem lastOf_lt {ds : List Deal} {s q : Nat} : ∀ {i : Nat}, lastOf ds i s = some q → q < i ∧ mvs ds q s = true
  | 0, h => by cases h
  | i + 1, h => by
    unfold lastOf at h
    by_cases c : mvs ds i s = true
    · rw [if_pos c] at h
      cases h
      exact ⟨Nat.lt_succ_self _, c⟩
    · rw [if_neg c] at h
      obtain ⟨h1, h2⟩ := lastOf_lt h
      exact ⟨Nat.lt_succ_of_lt h1, h2⟩
theorem lastOf_of {ds : List Deal} {s q : Nat} : ∀ {i : Nat}, q < i → mvs ds q s = true → ∃ r, lastOf ds i s = some r ∧ q ≤ r
  | 0, h, _ => absurd h (Nat.not_lt_zero _)
  | i + 1, h, m => by
    unfold lastOf
    by_cases c : mvs ds i s = true
    · exact ⟨i, by rw [if_pos c], by omega⟩
    · have hq : q < i := by
        rcases Nat.lt_or_ge q i with z | z
        · exact z
        · have e : q = i := by omega
          subst e
          exact absurd m c
      obtain ⟨r, h1, h2⟩ := lastOf_of hq m
      exact ⟨r, by rw [if_neg c]; exact h1, h2⟩
/-- the deal p leans on the deal q -/
def Leans (ds : List Deal) (q p : Nat) : Prop := ∃ s, mvs ds p s = true ∧ lastOf ds p s = some q
theorem Leans.lt {ds : List Deal} {q p : Nat} (h : Leans ds q p) : q < p := let ⟨_, _, e⟩ := h; (lastOf_lt e).1
theorem Leans.len {ds : List Deal} {q p : Nat} (h : Leans ds q p) : p < ds.length := let ⟨_, e, _⟩ := h; mvs_lt e

/-! ### chains -/
structure ChainP (ds : List Deal) (f : Nat) (c : List Nat) (p : Nat) : Prop where
  lt : ∀ x ∈ c, x < ds.length
  last : c.getLast? = some p
  head : ∀ x, c.head? = some x → mvs ds x f = true
  nx : ∀ i a b, c[i]? = some a → c[i + 1]? = some b → Leans ds a b
def Falls (ds : List Deal) (f p : Nat) : Prop := ∃ c, ChainP ds f c p
theorem ChainP.ne {ds : List Deal} {f p : Nat} {c : List Nat} (h : ChainP ds f c p) : c ≠ [] := fun e => by
  have := h.last
  rw [e] at this
  cases this
theorem ChainP.one {ds : List Deal} {f p : Nat} (h : mvs ds p f = true) : ChainP ds f [p] p :=
  ⟨fun x hx => by rw [List.mem_singleton.mp hx]; exact mvs_lt h, rfl, fun x e => by cases e; exact h, fun i a b _ e => by simp at e⟩
theorem ChainP.snoc {ds : List Deal} {f p q : Nat} {c : List Nat} (h : ChainP ds f c q) (l : Leans ds q p) : ChainP ds f (c ++ [p]) p := by
  refine ⟨fun x hx => ?_, by simp, fun x e => ?_, fun i a b e1 e2 => ?_⟩
  · rcases List.mem_append.mp hx with hx | hx
    · exact h.lt x hx
    · rw [List.mem_singleton.mp hx]
      exact l.len
  · refine h.head x ?_
    rw [List.head?_append] at e
    cases c with
    | nil => exact absurd rfl h.ne
    | cons y ys => exact e
  · have hl : i + 1 < (c ++ [p]).length := (List.getElem?_eq_some_iff.mp e2).1
    rw [List.length_append, List.length_singleton] at hl
    have e1' : c[i]? = some a := by
      rw [List.getElem?_append_left (by omega)] at e1
      exact e1
    by_cases hi : i + 1 < c.length
    · rw [List.getElem?_append_left hi] at e2
      exact h.nx i a b e1' e2
    · have hi' : i + 1 = c.length := by omega
      rw [hi', List.getElem?_append_right (Nat.le_refl _), Nat.sub_self] at e2
      have eb : p = b := Option.some.inj e2
      have el := h.last
      rw [List.getLast?_eq_getElem?, ← hi', Nat.add_sub_cancel, e1'] at el
      cases el
      rw [← eb]
      exact l
theorem ChainP.pre {ds : List Deal} {f p x : Nat} {c : List Nat} {i : Nat} (h : ChainP ds f c p) (e : c[i]? = some x) : ChainP ds f (c.take (i + 1)) x := by
  have hi := (List.getElem?_eq_some_iff.mp e).1
  refine ⟨fun y hy => h.lt y (List.mem_of_mem_take hy), ?_, fun y ey => ?_, fun j a b e1 e2 => ?_⟩
  · rw [List.take_add_one, e]
    simp
  · rw [List.head?_take, if_neg (Nat.succ_ne_zero _)] at ey
    exact h.head y ey
  · rw [List.getElem?_take] at e1 e2
    split at e1
    · split at e2
      · exact h.nx j a b e1 e2
      · cases e2
    · cases e1
theorem ChainP.all {ds : List Deal} {f p x : Nat} {c : List Nat} (h : ChainP ds f c p) (hx : x ∈ c) : Falls ds f x := by
  obtain ⟨i, hi, e⟩ := List.getElem_of_mem hx
  exact ⟨_, h.pre (List.getElem?_eq_some_iff.mpr ⟨hi, e⟩)⟩
theorem Falls.lt {ds : List Deal} {f p : Nat} (h : Falls ds f p) : p < ds.length := by
  obtain ⟨c, h⟩ := h
  exact h.lt p (List.mem_of_getLast? h.last)
theorem Falls.of_mvs {ds : List Deal} {f p : Nat} (h : mvs ds p f = true) : Falls ds f p := ⟨_, .one h⟩
theorem Falls.of_lean {ds : List Deal} {f p q : Nat} (h : Falls ds f q) (l : Leans ds q p) : Falls ds f p := let ⟨_, h⟩ := h; ⟨_, h.snoc l⟩
theorem Falls.cases {ds : List Deal} {f p : Nat} (h : Falls ds f p) : mvs ds p f = true ∨ ∃ q, Leans ds q p ∧ Falls ds f q := by
  obtain ⟨c, h⟩ := h
  have hl := h.last
  rw [List.getLast?_eq_getElem?] at hl
  have hne := h.ne
  by_cases h1 : c.length = 1
  · left
    refine h.head p ?_
    rw [h1] at hl
    rw [List.head?_eq_getElem?]
    exact hl
  · right
    have h0 : c.length ≠ 0 := fun z => hne (List.length_eq_zero_iff.mp z)
    obtain ⟨k, hk⟩ : ∃ k, c.length = k + 2 := ⟨c.length - 2, by omega⟩
    have hk1 : k < c.length := by omega
    have ek : c[k]? = some c[k] := List.getElem?_eq_getElem hk1
    rw [hk] at hl
    exact ⟨c[k], h.nx k _ _ ek hl, _, h.pre ek⟩
/-- a chain rises -/
theorem ChainP.rises {ds : List Deal} {f p : Nat} {c : List Nat} (h : ChainP ds f c p) : ∀ (j i a b : Nat), c[i]? = some a → c[i + j + 1]? = some b → a < b
  | 0, i, a, b, e1, e2 => (h.nx i a b e1 e2).lt
  | j + 1, i, a, b, e1, e2 => by
    have hl := (List.getElem?_eq_some_iff.mp e2).1
    have e3 : c[i + j + 1]? = some c[i + j + 1] := List.getElem?_eq_getElem (by omega)
    exact Nat.lt_trans (h.rises j i a _ e1 e3) (h.nx (i + j + 1) _ b e3 e2).lt
theorem ChainP.pairwise {ds : List Deal} {f p : Nat} {c : List Nat} (h : ChainP ds f c p) : c.Pairwise (· < ·) := by
  rw [List.pairwise_iff_getElem]
  intro i j hi hj hij
  have e1 : c[i]? = some c[i] := List.getElem?_eq_getElem hi
  have e2 : c[i + (j - i - 1) + 1]? = some c[j] := by
    rw [show i + (j - i - 1) + 1 = j by omega]
    exact List.getElem?_eq_getElem hj
  exact h.rises (j - i - 1) i _ _ e1 e2
theorem ChainP.init_not {ds : List Deal} {f p : Nat} {c : List Nat} (h : ChainP ds f c p) : ¬ ChainP ds f c.dropLast p := fun g => by
  have e1 := h.last
  have e2 := g.last
  rw [List.getLast?_eq_getElem?, List.length_dropLast, List.getElem?_dropLast] at e2
  split at e2
  · rename_i hl
    rw [List.getLast?_eq_getElem?] at e1
    have e3 : c[c.length - 1 - 1 + 0 + 1]? = some p := by
      rw [show c.length - 1 - 1 + 0 + 1 = c.length - 1 by omega]
      exact e1
    exact Nat.lt_irrefl _ (h.rises 0 _ _ _ e2 e3)
  · cases e2

/-! ### the fallen deals -/
open Classical in
noncomputable def fb (ds : List Deal) (f p : Nat) : Bool := decide (Falls ds f p)
theorem fb_iff {ds : List Deal} {f p : Nat} : fb ds f p = true ↔ Falls ds f p := by
  unfold fb
  exact @decide_eq_true_iff _ (Classical.propDecidable _)
noncomputable def goneL (ds : List Deal) (f : Nat) : List Nat := (List.range ds.length).filter (fb ds f)
theorem mem_gone {ds : List Deal} {f p : Nat} : p ∈ goneL ds f ↔ Falls ds f p := by
  unfold goneL
  rw [List.mem_filter, List.mem_range, fb_iff]
  exact ⟨fun h => h.2, fun h => ⟨h.lt, h⟩⟩
theorem gone_lt {ds : List Deal} {f p : Nat} (h : p ∈ goneL ds f) : p < ds.length := (mem_gone.mp h).lt
theorem gone_len (ds : List Deal) (f : Nat) : (goneL ds f).length ≤ ds.length := by
  refine Nat.le_trans (List.length_filter_le _ _) ?_
  rw [List.length_range]
  exact Nat.le_refl _
/-- all later deals that move a stamp of a fallen one fall -/
def Closed (ds : List Deal) (g : Nat → Bool) : Prop := ∀ q i s, q < i → g q = true → mvs ds q s = true → mvs ds i s = true → g i = true
theorem closed_fb (ds : List Deal) (f : Nat) : Closed ds (fb ds f) := by
  intro q i s hq gq mq mi
  induction i using Nat.strongRecOn with
  | ind i ih =>
    obtain ⟨r, e, hr⟩ := lastOf_of hq mq
    obtain ⟨h1, h2⟩ := lastOf_lt e
    rw [fb_iff]
    have hF : Falls ds f r := by
      by_cases z : r = q
      · rw [z]
        exact fb_iff.mp gq
      · exact fb_iff.mp (ih r h1 (by omega) h2)
    exact hF.of_lean ⟨s, mi, e⟩

/-- what is kept of the first i -/
def keepN {α : Type} (xs : List α) (g : Nat → Bool) : Nat → List α
  | 0 => []
  | i + 1 => keepN xs g i ++ (match xs[i]? with | some x => if g i = true then [] else [x] | none => [])
theorem keepN_mem {α : Type} {xs : List α} {g : Nat → Bool} {x : α} : ∀ {i : Nat}, x ∈ keepN xs g i → ∃ j, j < i ∧ xs[j]? = some x ∧ g j = false
  | 0, h => by simp [keepN] at h
  | i + 1, h => by
    unfold keepN at h
    rcases List.mem_append.mp h with h | h
    · obtain ⟨j, h1, h2, h3⟩ := keepN_mem h
      exact ⟨j, by omega, h2, h3⟩
    · cases e : xs[i]? with
      | none => rw [e] at h; simp at h
      | some y =>
        rw [e] at h
        cases c : g i with
        | true => rw [c] at h; simp at h
        | false =>
          rw [c] at h
          simp at h
          subst h
          exact ⟨i, Nat.lt_succ_self _, e, c⟩
theorem keepN_len {α : Type} (xs : List α) (g : Nat → Bool) : ∀ i : Nat, (keepN xs g i).length ≤ i
  | 0 => Nat.le_refl _
  | i + 1 => by
    unfold keepN
    rw [List.length_append]
    have := keepN_len xs g i
    split
    · split
      · simp
        omega
      · simp
        omega
    · simp
      omega
theorem keepN_false {α : Type} (xs : List α) {g : Nat → Bool} (hg : ∀ i, g i = false) : ∀ i : Nat, keepN xs g i = xs.take i
  | 0 => by simp [keepN]
  | i + 1 => by
    unfold keepN
    rw [keepN_false xs hg i, List.take_add_one]
    congr 1
    cases e : xs[i]? with
    | none => rfl
    | some x => simp [hg i]
theorem keepN_congr {α : Type} (xs : List α) {g g' : Nat → Bool} : ∀ i : Nat, (∀ j, j < i → g j = g' j) → keepN xs g i = keepN xs g' i
  | 0, _ => rfl
  | i + 1, h => by
    unfold keepN
    rw [keepN_congr xs i fun j hj => h j (by omega), h i (by omega)]

/-- the first fallen deal of the first i that moves s, else i -/
def firstG (ds : List Deal) (g : Nat → Bool) (s : Nat) : Nat → Nat
  | 0 => 0
  | i + 1 => if firstG ds g s i < i then firstG ds g s i else if (g i && mvs ds i s) = true then i else i + 1
theorem firstG_le (ds : List Deal) (g : Nat → Bool) (s : Nat) : ∀ i, firstG ds g s i ≤ i
  | 0 => Nat.le_refl _
  | i + 1 => by
    have := firstG_le ds g s i
    unfold firstG
    split
    · omega
    · split <;> omega
theorem firstG_hit {ds : List Deal} {g : Nat → Bool} {s : Nat} : ∀ {i}, firstG ds g s i < i → g (firstG ds g s i) = true ∧ mvs ds (firstG ds g s i) s = true
  | 0, h => absurd h (Nat.not_lt_zero _)
  | i + 1, h => by
    unfold firstG at h ⊢
    by_cases c : firstG ds g s i < i
    · rw [if_pos c]
      exact firstG_hit c
    · rw [if_neg c] at h ⊢
      by_cases c2 : (g i && mvs ds i s) = true
      · rw [if_pos c2]
        rw [Bool.and_eq_true] at c2
        exact c2
      · rw [if_neg c2] at h
        omega
theorem firstG_before {ds : List Deal} {g : Nat → Bool} {s j : Nat} : ∀ {i}, j < firstG ds g s i → ¬ (g j = true ∧ mvs ds j s = true)
  | 0, h => absurd h (Nat.not_lt_zero _)
  | i + 1, h => by
    unfold firstG at h
    by_cases c : firstG ds g s i < i
    · rw [if_pos c] at h
      exact firstG_before h
    · have e : firstG ds g s i = i := by
        have := firstG_le ds g s i
        omega
      rw [if_neg c] at h
      by_cases c2 : (g i && mvs ds i s) = true
      · rw [if_pos c2] at h
        exact firstG_before (i := i) (by omega)
      · rw [if_neg c2] at h
        by_cases hj : j = i
        · subst hj
          rw [Bool.and_eq_true] at c2
          exact c2
        · exact firstG_before (i := i) (by omega)
theorem firstG_head (ds : List Deal) (g : Nat → Bool) (s : Nat) : ∀ i, ((((List.range i).filter g).filter fun p => mvs ds p s) ++ [i])[0]? = some (firstG ds g s i)
  | 0 => rfl
  | i + 1 => by
    have ih := firstG_head ds g s i
    have hle := firstG_le ds g s i
    rw [List.range_succ, List.filter_append, List.filter_append]
    unfold firstG
    cases hL : ((List.range i).filter g).filter fun p => mvs ds p s with
    | nil =>
      rw [hL] at ih
      have e : i = firstG ds g s i := Option.some.inj ih
      rw [if_neg (by omega)]
      cases c1 : g i with
      | false => simp [c1]
      | true =>
        cases c2 : mvs ds i s with
        | false => simp [c1, c2]
        | true => simp [c1, c2]
    | cons x xs =>
      rw [hL] at ih
      have e : x = firstG ds g s i := Option.some.inj ih
      have hx : x ∈ ((List.range i).filter g).filter fun p => mvs ds p s := by rw [hL]; exact List.mem_cons_self
      have hxi : x < i := List.mem_range.mp (List.mem_filter.mp (List.mem_filter.mp hx).1).1
      rw [if_pos (by omega)]
      rw [← e]
      rfl

/-- THE REST CAN BE DONE, and who then has what -/
theorem rest_owns {o : List Int} {ds : List Deal} (G : Good o ds) {g : Nat → Bool} (hc : Closed ds g) : ∀ i, i ≤ ds.length →
    Valid o (keepN ds g i) ∧ ∀ s, s < o.length → (behind o (keepN ds g i))[s]? = (behind o (ds.take (firstG ds g s i)))[s]?
  | 0, _ => ⟨trivial, fun s _ => rfl⟩
  | i + 1, hi => by
    obtain ⟨h1, h2⟩ := rest_owns G hc i (by omega)
    have ei : ds[i]? = some ds[i] := List.getElem?_eq_getElem (by omega)
    have hmv : ∀ s, mvs ds i s = decide (s ∈ sts ds[i]) := fun s => mvs_some ei
    have htk : ds.take (i + 1) = ds.take i ++ [ds[i]] := by rw [List.take_add_one, ei]; rfl
    have still : ∀ s, mvs ds i s = false → (behind o (ds.take (i + 1)))[s]? = (behind o (ds.take i))[s]? := fun s h => by
      rw [htk, behind_snoc]
      refine step_other _ _ ?_
      rw [hmv] at h
      exact of_decide_eq_false h
    cases c : g i with
    | true =>
      have ek : keepN ds g (i + 1) = keepN ds g i := by
        show keepN ds g i ++ _ = _
        rw [ei]
        simp [c]
      rw [ek]
      refine ⟨h1, fun s hs => ?_⟩
      rw [h2 s hs]
      show _ = (behind o (ds.take (if firstG ds g s i < i then firstG ds g s i else if (g i && mvs ds i s) = true then i else i + 1)))[s]?
      by_cases c1 : firstG ds g s i < i
      · rw [if_pos c1]
      · have e : firstG ds g s i = i := by
          have := firstG_le ds g s i
          omega
        rw [if_neg c1, e]
        cases c2 : mvs ds i s with
        | true =>
          rw [if_pos (by simp [c])]
        | false =>
          rw [if_neg (by simp), still s c2]
    | false =>
      have ek : keepN ds g (i + 1) = keepN ds g i ++ [ds[i]] := by
        show keepN ds g i ++ _ = _
        rw [ei]
        simp [c]
      have clean : ∀ s, mvs ds i s = true → firstG ds g s i = i := fun s hm => by
        rcases Nat.lt_or_ge (firstG ds g s i) i with z | z
        · obtain ⟨z1, z2⟩ := firstG_hit z
          have := hc _ i s z z1 z2 hm
          rw [c] at this
          cases this
        · have := firstG_le ds g s i
          omega
      have ok := G.ok ds[i] (List.getElem_mem (by omega))
      have can0 := valid_at G.can ei
      rw [ek]
      refine ⟨(valid_snoc _ _ _).mpr ⟨h1, fun m hm => ?_⟩, fun s hs => ?_⟩
      · have hs : m.1 < o.length := (ok.mv m hm).1
        have hmm : mvs ds i m.1 = true := by
          rw [hmv]
          exact decide_eq_true (List.mem_map.mpr ⟨m, hm, rfl⟩)
        rw [h2 m.1 hs, clean _ hmm]
        exact can0 m hm
      · rw [behind_snoc]
        show _ = (behind o (ds.take (if firstG ds g s i < i then firstG ds g s i else if (g i && mvs ds i s) = true then i else i + 1)))[s]?
        cases c2 : mvs ds i s with
        | true =>
          have e := clean s c2
          rw [if_neg (by omega), if_neg (by simp [c]), htk, behind_snoc]
          rw [hmv] at c2
          exact step_moved _ _ _ (of_decide_eq_true c2) (by rw [behind_length]; exact hs) (by rw [behind_length]; exact hs)
        | false =>
          have c3 := c2
          rw [hmv] at c3
          rw [step_other _ _ (of_decide_eq_false c3), h2 s hs]
          by_cases c1 : firstG ds g s i < i
          · rw [if_pos c1]
          · have e : firstG ds g s i = i := by
              have := firstG_le ds g s i
              omega
            rw [if_neg c1, if_neg (by simp), e, still s c2]

theorem still_of {o : List Int} {ds : List Deal} {s : Nat} : ∀ i, (∀ j, j < i → mvs ds j s = false) → (behind o (ds.take i))[s]? = o[s]?
  | 0, _ => rfl
  | i + 1, h => by
    cases e : ds[i]? with
    | none =>
      rw [List.take_add_one, e]
      simp only [Option.toList, List.append_nil]
      exact still_of i fun j hj => h j (by omega)
    | some d =>
      rw [List.take_add_one, e]
      show (behind o (ds.take i ++ [d]))[s]? = _
      rw [behind_snoc, step_other]
      · exact still_of i fun j hj => h j (by omega)
      · have := h i (by omega)
        rw [mvs_some e] at this
        exact of_decide_eq_false this

noncomputable def rest (ds : List Deal) (f : Nat) : List Deal := keepN ds (fb ds f) ds.length
theorem rest_good {o : List Int} {ds : List Deal} (G : Good o ds) (f : Nat) : Good o (rest ds f) := by
  refine ⟨G.own, Nat.le_trans (keepN_len _ _ _) G.len, fun d hd => ?_, (rest_owns G (closed_fb ds f) ds.length (Nat.le_refl _)).1⟩
  obtain ⟨j, _, e, _⟩ := keepN_mem hd
  exact G.ok d (List.mem_of_getElem? e)
/-- none of the rest falls -/
theorem rest_none {ds : List Deal} {f p : Nat} : ¬ Falls (rest ds f) f p := fun ⟨c, h⟩ => by
  cases c with
  | nil => exact h.ne rfl
  | cons x c =>
    have hm := h.head x rfl
    have hl := mvs_lt hm
    have e : (rest ds f)[x]? = some (rest ds f)[x] := List.getElem?_eq_getElem hl
    rw [mvs_some e] at hm
    obtain ⟨j, _, ej, gj⟩ := keepN_mem (List.getElem_mem hl)
    have : mvs ds j f = true := by
      rw [mvs_some ej]
      exact hm
    have hF : fb ds f j = true := fb_iff.mpr (.of_mvs this)
    rw [gj] at hF
    cases hF
theorem rest_gone (ds : List Deal) (f : Nat) : goneL (rest ds f) f = [] := by
  apply List.eq_nil_iff_forall_not_mem.mpr
  intro p h
  exact rest_none (mem_gone.mp h)
theorem fb_rest (ds : List Deal) (f p : Nat) : fb (rest ds f) f p = false := by
  cases c : fb (rest ds f) f p with
  | false => rfl
  | true => exact absurd (fb_iff.mp c) rest_none
theorem rest_rest (ds : List Deal) (f : Nat) : rest (rest ds f) f = rest ds f := by
  show keepN (rest ds f) (fb (rest ds f) f) (rest ds f).length = rest ds f
  rw [keepN_false _ (fb_rest ds f), List.take_length]
/-- the false stamp stays with its first owner -/
theorem rest_false {o : List Int} {ds : List Deal} (G : Good o ds) {f : Nat} (hf : f < o.length) : (behind o (rest ds f))[f]? = o[f]? := by
  have e := (rest_owns G (closed_fb ds f) ds.length (Nat.le_refl _)).2 f hf
  refine Eq.trans e ?_
  refine still_of _ fun j hj => ?_
  have := firstG_before hj
  cases c : mvs ds j f with
  | false => rfl
  | true => exact absurd ⟨fb_iff.mpr (.of_mvs c), c⟩ this
/-- each stamp is whose it was ahead of the first fallen deal that moves it -/
theorem rest_due {o : List Int} {ds : List Deal} (G : Good o ds) {f s : Nat} (hs : s < o.length) {q : Nat} (hq : ((goneL ds f).filter (fun p => mvs ds p s) ++ [ds.length])[0]? = some q) :
    q ≤ ds.length ∧ (behind o (rest ds f))[s]? = (behind o (ds.take q))[s]? := by
  have e := firstG_head ds (fb ds f) s ds.length
  have e2 : some q = some (firstG ds (fb ds f) s ds.length) := hq.symm.trans e
  cases e2
  exact ⟨firstG_le _ _ _ _, (rest_owns G (closed_fb ds f) ds.length (Nat.le_refl _)).2 s hs⟩

/-! ### the deals but the last one -/
theorem mvs_take {ds : List Deal} {k q s : Nat} (h : q < k) : mvs (ds.take k) q s = mvs ds q s := by
  unfold mvs
  rw [List.getElem?_take, if_pos h]
theorem lastOf_take {ds : List Deal} {k s : Nat} : ∀ {i}, i ≤ k → lastOf (ds.take k) i s = lastOf ds i s
  | 0, _ => rfl
  | i + 1, h => by
    unfold lastOf
    rw [mvs_take (by omega), lastOf_take (i := i) (by omega)]
theorem leans_take {ds : List Deal} {k q p : Nat} (h : p < k) : Leans (ds.take k) q p ↔ Leans ds q p := by
  unfold Leans
  constructor
  · rintro ⟨s, h1, h2⟩
    exact ⟨s, by rw [mvs_take h] at h1; exact h1, by rw [lastOf_take (by omega)] at h2; exact h2⟩
  · rintro ⟨s, h1, h2⟩
    exact ⟨s, by rw [mvs_take h]; exact h1, by rw [lastOf_take (by omega)]; exact h2⟩
theorem falls_take {ds : List Deal} {k f : Nat} : ∀ {p : Nat}, p < k → (Falls (ds.take k) f p ↔ Falls ds f p) := by
  intro p
  induction p using Nat.strongRecOn with
  | ind p ih =>
    intro hp
    constructor
    · intro h
      rcases h.cases with h | ⟨q, l, h⟩
      · rw [mvs_take hp] at h
        exact .of_mvs h
      · exact ((ih q l.lt (Nat.lt_trans l.lt hp)).mp h).of_lean ((leans_take hp).mp l)
    · intro h
      rcases h.cases with h | ⟨q, l, h⟩
      · exact .of_mvs (by rw [mvs_take hp]; exact h)
      · exact ((ih q l.lt (Nat.lt_trans l.lt hp)).mpr h).of_lean ((leans_take hp).mpr l)
theorem filter_range_lt (g : Nat → Bool) (k : Nat) : ∀ n, ((List.range n).filter g).filter (fun p => decide (p < k)) = (List.range (min n k)).filter g
  | 0 => by simp
  | n + 1 => by
    have ih := filter_range_lt g k n
    rw [List.range_succ, List.filter_append, List.filter_append, ih]
    by_cases h : n < k
    · rw [show min (n + 1) k = min n k + 1 by omega, List.range_succ, List.filter_append, show min n k = n by omega]
      congr 1
      cases c : g n with
      | true => simp [c, h]
      | false => simp [c]
    · rw [show min (n + 1) k = min n k by omega]
      cases c : g n with
      | true => simp [c, h]
      | false => simp [c]
theorem gone_take (ds : List Deal) (f k : Nat) : goneL (ds.take k) f = (goneL ds f).filter (fun p => decide (p < k)) := by
  unfold goneL
  rw [filter_range_lt, List.length_take, show min k ds.length = min ds.length k by omega]
  apply List.filter_congr
  intro p hp
  have hpk : p < k := by
    have := List.mem_range.mp hp
    omega
  cases c : fb ds f p with
  | true => exact fb_iff.mpr ((falls_take hpk).mpr (fb_iff.mp c))
  | false =>
    cases c2 : fb (ds.take k) f p with
    | false => rfl
    | true =>
      have := fb_iff.mpr ((falls_take hpk).mp (fb_iff.mp c2))
      rw [c] at this
      cases this
end K45
end Mth
section R1
namespace K45
open PySem PySem.Spec PyProof.Rows L2

section
variable {prog : Program} {w : World} {A : Around} {E : Value → Shared → Prop} {s : Shared}
theorem enumT_new (l : Addr) (its : Array Value) (n : Nat) (dd : Option Addr) (sl : Array (Option Value)) :
    Meets (Builtin.«enumerate.__new__» ⟨[.type "enumerate", .ref l], []⟩) (fun _ R s => s.heap.get? l = some { cls := .type "tuple", dict := dd, data := .seq its n, slots := sl } ∧
      R (.ok (.ret (.ref (s.heap.push { cls := .type "tuple_iterator", data := .fields #[.ref l, .int 0 0] }).objs.size)))
        { s with heap := (s.heap.push { cls := .type "tuple_iterator", data := .fields #[.ref l, .int 0 0] }).push { cls := .type "enumerate", data := .fields #[.none, .bool false, .ref s.heap.objs.size, rawInt 0, .none, .none] } }) :=
  .of_wp fun prog w A R s h => by
    obtain ⟨hp, g, d, tk, os⟩ := s
    obtain ⟨hl, h⟩ := h
    have sub_e := sub_enumerate
    have isT : Heap.IsTuple (Shared.heap ⟨hp, g, d, tk, os⟩) l its := ⟨_, hl, rfl, n, rfl⟩
    wp_walk using AutoSeq1.wpAny_loadPart' hl
    refine wpAny_stack_any fun _ => wpAny_pure ?_
    split
    · rename_i c _ _ _ _ _
      cases (c == Value.type "enumerate") <;>
        (wp_walk using AutoSeq1.wpAny_loadPart' hl, wpAny_pyIter_tuple isT
         exact ⟨_, rfl, h⟩)
    · wp_walk using AutoSeq1.wpAny_loadPart' hl, wpAny_pyIter_tuple isT
      exact ⟨_, rfl, h⟩

theorem call_enumT {l : Addr} {its : Array Value} {Q : Value → Shared → Prop} (hT : s.heap.IsTuple l its)
    (h : ∀ h', IsEnum h' (s.heap.objs.size + 1) s.heap.objs.size 0 .none → h'.IsTupleIter s.heap.objs.size l 0 → (∀ b o, s.heap.get? b = some o → h'.get? b = some o) → Q (.ref (s.heap.objs.size + 1)) { s with heap := h' }) :
    wpAny (model prog w) A (call (.type "enumerate") [.ref l]) Q E s := by
  obtain ⟨⟨c, dd, dt, sl⟩, hl, hc, n, hd⟩ := hT
  obtain rfl : c = .type "tuple" := hc
  obtain rfl : dt = .seq its n := hd
  refine callType_new F.called_enumerate (by decide) (F.typeCall_enumerate_1 _) (F.newCall_enumerate_1 _) (fun obj => F.args_object_init_2 obj _) F.entry_enumerate_new (enumT_new l its n dd sl) ⟨hl, ?_⟩
  have hz : (s.heap.push { cls := .type "tuple_iterator", data := .fields #[.ref l, .int 0 0] }).objs.size = s.heap.objs.size + 1 := Heap.size_push ..
  show _ ∧ _
  rw [hz]
  have he := Heap.get?_push_size (s.heap.push { cls := .type "tuple_iterator", data := .fields #[.ref l, .int 0 0] }) (o := { cls := .type "enumerate", data := .fields #[.none, .bool false, .ref s.heap.objs.size, rawInt 0, .none, .none] }) rfl
  rw [hz] at he
  exact ⟨⟨_, he, rfl⟩, h _ he ⟨_, Heap.get?_push_of_some _ (Heap.get?_push_size _ rfl), rfl, rfl⟩ fun b o x => Heap.get?_push_of_some _ (Heap.get?_push_of_some _ x)⟩
end

/-- the tuple at a, each item in a new pair with its place -/
def IteT (K : PySem.W.Frag) (a : Addr) : It :=
  ⟨fun i H => ∃ (xs : List V) (x : V), SqT K H a xs ∧ xs[i]? = some x,
   fun i H v H' => ∃ T x, v = .ref T ∧ H T = none ∧ H' = upd H T (.tup [.int (i : Nat), x]) ∧ ∀ xs, SqT K H a xs → xs[i]? = some x,
   fun i H => ∃ xs : List V, SqT K H a xs ∧ xs.length = i⟩
theorem turn_enumT {P : Program} {w : World} {K : PySem.W.Frag} {elts : List Expr} {kk : Nat} {tpos : Pos} (a e it : Addr) :
    Turn P w K (.Tuple elts kk tpos) (IteT K a) [e, it] e (fun i h => (∃ old, IsEnum h e it ((i : Nat) : Int) old) ∧ h.IsTupleIter it a i ∧ e ≠ it ∧ a ≠ it ∧ a ≠ e) where
  mem := by simp
  obj := fun i h st b hb => by
    obtain ⟨⟨old, he⟩, ⟨o, ho, hc, hd⟩, _⟩ := st
    have z : b = e ∨ b = it := by simpa using hb
    rcases z with rfl | rfl
    · exact ⟨_, he, fun v q => nomatch q⟩
    · exact ⟨o, ho, fun v q => by rw [hd] at q; cases q⟩
  keep := fun i h h' st k => by
    obtain ⟨⟨old, he⟩, hi, hn⟩ := st
    exact ⟨⟨old, k e (by simp) _ he⟩, hi.at fun o q => k it (by simp) o q, hn⟩
  item := by
    intro X hP hw hK hc i pins s σ H E I hf st hg
    subst hP hw hK
    obtain ⟨⟨old, he⟩, hit, hne, hai, hae⟩ := st
    obtain ⟨xs, x, hq, hx⟩ := hg
    obtain ⟨its, rv, p, hz⟩ := I.tuple hq
    obtain ⟨u, hu, ru⟩ := rv.get hx
    have hlt : i < its.toArray.size := by
      rw [List.size_toArray]
      exact (List.getElem?_eq_some_iff.mp hu).1
    have hel : e < s.heap.objs.size := Heap.lt_size he
    have hil : it < s.heap.objs.size := by obtain ⟨_, q, _⟩ := hit; exact Heap.lt_size q
    have D := Draws.tuple (prog := X.prog) (w := X.w) (A := X.A.in1) (I.ok.hd hc) it a hai its.toArray
    refine wpAny_pyNext_enum_itemD D he ⟨hit, p⟩ hlt hne (by simp [hne, Ne.symm hae]) fun y h' tk hP ho hs' hT hsz hk => ?_
    have ey : y = u := by
      have q : its[i]? = some y := by simpa using hP
      rw [hu] at q
      exact (Option.some.inj q).symm
    subst ey
    refine ⟨_, rfl, wpAny_letOwnedTupleGo_enum (s := { s with heap := h', toks := tk + 1 }) ho fun h'' he' sb => ?_⟩
    have hT2 := (sb.2 _ (Nat.ne_of_gt hel)).trans hT
    have new : ObjOk X.prog X.w (upd H s.heap.objs.size (.tup [.int (i : Nat), x])) h'' s.heap.objs.size (.tup [.int (i : Nat), x]) :=
      ⟨by show 2 ≤ sizeLine; decide, [.int i tk, y], .cons ⟨_, rfl⟩ (.cons ru .nil), ⟨_, hT2, rfl, _, rfl⟩⟩
    have I1 : Inv X pins σ (upd H s.heap.objs.size (.tup [.int (i : Nat), x])) { s with heap := h'', toks := tk + 1 } :=
      I.turnedNew (ch := [e, it]) (fun b ob hb q => (sb.2 b (fun z => hb (by simp [z]))).trans (hk b ob (fun z => hb (by simp [z])) (fun z => hb (by simp [z])) q)) hf (Nat.le_refl _) new
    refine ⟨.ref s.heap.objs.size, _, I1, rfl, ⟨_, x, rfl, I.hok.fresh (Nat.le_refl _), rfl, fun ys hy => by rw [I.tuple_inj hy hq]; exact hx⟩, ⟨⟨y, ?_⟩, hs'.1.at fun o q => (sb.2 it (Ne.symm hne)).trans q, hne, hai, hae⟩, fun b hb => ?_⟩
    · have e1 : ((i + 1 : Nat) : Int) = (i : Int) + 1 := by omega
      rw [e1]
      exact he'
    · have z : b = e ∨ b = it := by simpa using hb
      have hb' : b < s.heap.objs.size := by
        rcases z with rfl | rfl
        · exact hel
        · exact hil
      rw [upd_ne (Nat.ne_of_lt hb')]
      exact (hf b hb).1
  done := by
    intro X hP hw hK hc i pins s σ H E I hf st hg
    subst hP hw hK
    obtain ⟨⟨old, he⟩, hit, hne, hai, hae⟩ := st
    obtain ⟨xs, hq, hx⟩ := hg
    obtain ⟨its, rv, p, hz⟩ := I.tuple hq
    obtain ⟨f0, f1, f2, f3, f4, f5⟩ := hf it (by simp)
    have hl := rv.length
    have D := Draws.tuple (prog := X.prog) (w := X.w) (A := X.A.in1) (I.ok.hd hc) it a hai its.toArray
    have ei : i = its.toArray.size := by
      rw [List.size_toArray]
      omega
    refine wpAny_pyNext_enum_endD D he ⟨by rw [← ei]; exact hit, p⟩ fun h' eb => ⟨rfl, I.turned (t' := s.toks) (fun b o hb q => eb b o hb q) f0 f1 f3 f4 f5⟩
  self := fun A i s Q E st h => by
    obtain ⟨⟨_, he⟩, _⟩ := st
    exact wpAny_pyIter_enum he h
def iEnumT (K : PySem.W.Frag) (ta : TA) : TI := fun σ H R => ta σ H fun vs H1 => ∃ a xs, vs = [.ref a] ∧ SqT K H1 a xs ∧ R (IteT K a) H1
theorem pi_enumT {X : Cx} {e : Expr} {ta : TA} {p pos tpos : Pos} {elts : List Expr} {kk : Nat} (hg : Gl X "enumerate") (hm : X.mg "enumerate" = none) (ha : PA X [e] ta) (hs : starEach [e] X.env = [(false, eval e X.env)] := by rfl) :
    PI X (.Tuple elts kk tpos) (.Call (.Name "enumerate" p) [e] [] pos) (iEnumT X.K ta) := by
  refine ⟨fun pins s σ H R I h => ?_⟩
  refine Call_ (ld_blt I hg hm boot_enumerate (PyProof.Rows.callWith_type1 (thn (ha.run pos pins s σ H _ I h) fun us s1 ⟨vs, H1, I1, r1, q1⟩ => ?_) hs rfl))
  obtain ⟨a, xs, ex, hq, q⟩ := q1
  subst ex
  obtain ⟨u, rfl, ru⟩ := vals1 r1
  cases ru
  obtain ⟨its, rv, p', hz⟩ := I1.tuple hq
  have hal : a < s1.heap.objs.size := p'.lt
  refine call_enumT p' fun h' he hit hk => wpAny_pyIter_enum he ?_
  have I2 : Inv X pins σ H1 { s1 with heap := h' } := I1.kept (t' := s1.toks) hk
  refine ⟨s1.heap.objs.size + 1, [s1.heap.objs.size + 1, s1.heap.objs.size], _, _, H1, rfl, I2, turn_enumT a (s1.heap.objs.size + 1) s1.heap.objs.size,
    ⟨⟨.none, he⟩, hit, Nat.succ_ne_self _, Nat.ne_of_lt hal, Nat.ne_of_lt (Nat.lt_succ_of_lt hal)⟩, fun b hb => ?_, q⟩
  have z : b = s1.heap.objs.size + 1 ∨ b = s1.heap.objs.size := by simpa using hb
  rcases z with rfl | rfl
  · exact I1.fpOk (Nat.le_succ _) (I1.hok.fresh (Nat.le_succ _))
  · exact I1.fpOk (Nat.le_refl _) (I1.hok.fresh (Nat.le_refl _))

/-- one of two walks -/
theorem pi_or {X : Cx} {tg l : Expr} {w1 w2 : TI} (h1 : PI X tg l w1) (h2 : PI X tg l w2) : PI X tg l (fun σ H R => w1 σ H R ∨ w2 σ H R) :=
  ⟨fun pins s σ H R I h => h.elim (h1.run pins s σ H R I) (h2.run pins s σ H R I)⟩
end K45
end R1
section R2
namespace K45
open PySem PySem.Spec PyProof.Rows L2
/-- the empty set as set() lays it -/
abbrev set0 (w : World) : Obj := { cls := .type "set", dict := none, data := .set #[] 0 (.fresh 0 0 (!w.params.followText "set-order")) }
section
variable {P : Program} {w : World} {A : Around} {E : Value → Shared → Prop} {s : Shared}
/-- set(l) of a list of ints, with what its order hangs on -/
theorem call_set_lst {l : Addr} {its : Array Value} (ns : List Int) {Q : Value → Shared → Prop} (hh : A.handled = none) (hl : s.heap.IsList l its) (hit : IntsAre its.toList ns) (hb : ns.length + 1 < scanBound)
    (h : ∀ (h' : Heap) (tk c : Nat), SetR w h' s.heap.objs.size (fun j => decide (j ∈ ns)) c → c ≤ ns.length → (∀ b o, s.heap.get? b = some o → h'.get? b = some o) → Q (.ref s.heap.objs.size) { s with heap := h', toks := tk }) :
    wpAny (model P w) A (call (.type "set") [.ref l]) Q E s := by
  have len_its : its.size = ns.length := by
    have q := IntsAre.length hit
    rwa [Array.length_toList] at q
  obtain ⟨_, _, mro_s⟩ := F.called_set.mro
  have made_s := F.called_set.made
  have sub_s := F.called_set.sub
  refine wpAny_call (codeAny_of_tree ?_)
  show wpAny _ _ (callAny (.type "set") _) _ _ _
  refine wpAny_pure ⟨Code.quiet_builtin _ (by decide +kernel), codeAny_builtin F.entry_type_call ?_⟩
  rw [Around.under_plain (weight_type_call_type "set" [.ref l] []) rfl]
  have g1 := F.called_set.notType
  have g2 := F.called_set.canCreate
  have g3 := F.typeCall_set_1 (.ref l)
  repeat (any_goals (first | assumption | wp_step))
  refine codeAny_mono (code_set_led1 (.ref l) (E := E) (Q₁ := fun v s₁ => v = .ref s.heap.objs.size ∧ s₁ = { s with heap := s.heap.push (set0 w) }) ⟨rfl, rfl⟩) fun r s₁ hr => ?_
  match r, hr with
  | .error e, hr => exact hr
  | .ok .next, hr => exact hr.elim
  | .ok .brk, hr => exact hr.elim
  | .ok .cont, hr => exact hr.elim
  | .ok (.ret v), hr =>
    obtain ⟨rfl, rfl⟩ := hr
    have at_S : (s.heap.push (set0 w)).get? s.heap.objs.size = some (set0 w) := Heap.get?_push_size _ rfl
    have ty_S : Shared.TypeIs { s with heap := s.heap.push (set0 w) } (.ref s.heap.objs.size) "set" := ⟨_, at_S, rfl⟩
    have look_i := F.called_set.init.lookup
    have bind_i := F.called_set.init.bind (.ref s.heap.objs.size)
    repeat (any_goals (first | assumption | wp_step))
    refine codeAny_mono (codeAny_call_builtin (R := wants (fun r s₂ => r = .none ∧ ∃ h' tk c, s₂ = { s with heap := h', toks := tk } ∧ SetR w h' s.heap.objs.size (fun j => decide (j ∈ ns)) c ∧ c ≤ ns.length ∧
        (∀ b o, s.heap.get? b = some o → h'.get? b = some o)) E) F.called_set.init.plain F.entry_set_init (check_set_init_1 ty_S ?_)) fun r₂ s₂ hr₂ => ?_
    · obtain ⟨⟨oc, od, dt, sl⟩, hol, hcl, nl, hdl⟩ := hl
      obtain rfl : oc = .type "list" := hcl
      obtain rfl : dt = .seq its nl := hdl
      have at_l : (s.heap.push (set0 w)).get? l = some { cls := .type "list", dict := od, data := .seq its nl, slots := sl } := Heap.get?_push_of_some _ hol
      have s1 := F.sub_list_set
      have s2 := F.sub_list_frozenset
      have s3 : (Value.type "list" == Value.type "dict") = false := by decide
      have isL : (s.heap.push (set0 w)).IsList l its := ⟨_, at_l, rfl, nl, rfl⟩
      unfold Builtin.«set.__init__» noKeywords Builtin.Frozenset.updateFrom
      generalize gPI : pyIter = PI
      wp_walk
      subst gPI
      refine wpAny_pyIter_list isL ?_
      refine wpAny_bind (wpAny_runValue ?_)
      have l_lt : l < s.heap.objs.size := Heap.lt_size hol
      have z1 : (s.heap.push (set0 w)).objs.size = s.heap.objs.size + 1 := Heap.size_push ..
      have ne_I : l ≠ (s.heap.push (set0 w)).objs.size := by rw [z1]; exact Nat.ne_of_lt (Nat.lt_succ_of_lt l_lt)
      have S_fp : s.heap.objs.size ∉ [(s.heap.push (set0 w)).objs.size, l] := by
        rw [z1]
        intro hm
        rcases List.mem_cons.mp hm with e | hm
        · exact absurd e (Nat.ne_of_lt (Nat.lt_succ_self _))
        · exact absurd (List.mem_singleton.mp hm) (Nat.ne_of_gt l_lt)
      have vals : ∀ (i : Nat) (v : Value), its[i]? = some v → ∃ k t, ns[i]? = some k ∧ v = .int k t := fun i v hv => by
        have hi : i < ns.length := by rw [← len_its]; exact (Array.getElem?_eq_some_iff.mp hv).1
        obtain ⟨t, e⟩ := PyProof.Rows.IntsAre.int_at hit i v (by rw [Array.getElem?_toList]; exact hv)
        exact ⟨ns[i], t, List.getElem?_eq_getElem hi, by rw [e, List.getD_eq_getElem?_getD, List.getElem?_eq_getElem hi] <;> rfl⟩
      refine set_update_ints ((Walks.list (by simp [hh]) _ l ne_I its).toS) s.heap.objs.size S_fp ns len_its hb vals (its.size - 0) 0 _ (by omega) (Nat.zero_le _)
        ⟨⟨_, Heap.get?_push_size _ rfl, rfl, rfl⟩, isL.push _⟩ ⟨0, Nat.le_refl 0, setR_new_at (Heap.get?_push_of_some _ at_S)⟩ ?_
      intro s' c' hm hc' hS'
      obtain ⟨h', g', d', tk', os'⟩ := s'
      obtain rfl : g' = s.gens := hm.gens
      obtain rfl : d' = s.drawn := hm.drawn
      obtain rfl : os' = s.os := hm.os
      rw [len_its] at hc'
      refine wpAny_pure (wpAny_pure ⟨rfl, h', tk', c', rfl, hS', hc', fun b o e => ?_⟩)
      have hb0 : b < s.heap.objs.size := Heap.lt_size e
      refine hm.heap b o (fun z => ?_) (Heap.get?_push_of_some _ (Heap.get?_push_of_some _ e))
      rcases List.mem_cons.mp z with e1 | z
      · exact Nat.ne_of_lt hb0 e1
      · rw [z1] at z
        exact Nat.ne_of_lt (Nat.lt_succ_of_lt hb0) (List.mem_singleton.mp z)
    · match r₂, hr₂ with
      | .error e, hr₂ => exact hr₂
      | .ok .next, hr₂ => exact hr₂.elim
      | .ok .brk, hr₂ => exact hr₂.elim
      | .ok .cont, hr₂ => exact hr₂.elim
      | .ok (.ret r), hr₂ =>
        obtain ⟨rfl, h', tk, c', rfl, hS', hc', hk'⟩ := hr₂
        repeat (any_goals (first | assumption | wp_step))
        exact h _ _ _ hS' hc' hk'
end
section
variable {X : Cx}
/-- set(xs) of a list or a tuple of ints -/
def rSetOf (K : PySem.W.Frag) (w : World) : List V → Hp → VK → Prop := fun vs H Q => ∃ (a : Addr) (ns : List Int), vs = [V.ref a] ∧ (SqL K H a (ns.map V.int) ∨ SqT K H a (ns.map V.int)) ∧ ns.length ≤ 1000 ∧
  ∀ (p : Addr) (n : Nat), H p = none → n ≤ ns.length → Q (.ref p) (upd H p (SetO w p (fun k => decide (k ∈ ns)) n))
theorem cr_setOf (hc : X.calm = true) : CallR X (.type "set") (rSetOf X.K X.w) := by
  intro pins s σ H vs us Q I r h
  obtain ⟨a, ns, rfl, hs, hl, q⟩ := h
  rw [Vals.ref1 r]
  have hb : ns.length + 1 < scanBound := by unfold scanBound; omega
  have hk : ∀ (h' : Heap) (tk c : Nat), SetR X.w h' s.heap.objs.size (fun j => decide (j ∈ ns)) c → c ≤ ns.length → (∀ b o, s.heap.get? b = some o → h'.get? b = some o) →
      EP X pins σ Q (.ref s.heap.objs.size) { s with heap := h', toks := tk } := fun h' tk c R hc' k =>
    ⟨.ref _, upd H s.heap.objs.size (SetO X.w s.heap.objs.size (fun k => decide (k ∈ ns)) c), I.laid (t' := tk) k (Nat.le_refl _) (setO_new R), rfl, q _ c (I.hok.fresh (Nat.le_refl _)) hc'⟩
  rcases hs with hs | hs
  · obtain ⟨its, rv, pl, _⟩ := I.list hs
    exact call_set_lst ns (I.ok.hd hc) pl.isList (by simpa using rv.ints) hb hk
  · obtain ⟨its, rv, pt, _⟩ := I.tuple hs
    exact call_set_tupI ns (I.ok.hd hc) (show s.heap.IsTuple a its.toArray from pt) (by simpa using rv.ints) hb hk
end
end K45
end R2
section R3
namespace K45
open PySem PySem.Spec PyProof.Rows L2
/-- all that stood stands -/
def Kp (h h' : Heap) : Prop := ∀ b o, h.get? b = some o → h'.get? b = some o
theorem Kp.to {h h1 h2 : Heap} {wr : List Addr} (k : Kp h h1) (n : ∀ b ∈ wr, h.get? b = none) (m : ∀ b o, b ∉ wr → h1.get? b = some o → h2.get? b = some o) : Kp h h2 := fun b o e =>
  m b o (fun z => by rw [n b z] at e; cases e) (k b o e)
abbrev dfl (d : Value) : List (Str × Value) := [(Str.ofString "default", d)]
abbrev lstO (xs : Array Value) (c : Nat) : Obj := { cls := .type "list", dict := none, data := .seq xs c, slots := #[] }
section
variable {prog : Program} {w : World} {A : Around} {E : Value → Shared → Prop} {s : Shared} {R : Result → Shared → Prop} {l I S : Addr} {vs : List Value} {d : Value} {h₀ : Heap}
theorem args_min_dfl (a d : Value) : argsOk "min" ⟨[a], dfl d⟩ := by unfold argsOk; kernel_rfl
/-- every two of vs can be compared, wherever what stood stands -/
def CmpAll (prog : Program) (w : World) (A : Around) (s : Shared) (h₀ : Heap) (vs : List Value) : Prop :=
  ∀ (h : Heap) (tk : Nat) (u v : Value) (Q : Value → Shared → Prop) (E : Value → Shared → Prop), Kp h₀ h → u ∈ vs → v ∈ vs →
    (∀ b : Bool, Q (.bool b) { s with heap := h, toks := tk }) → wpAny (model prog w) A (richCompare .Lt u v) Q E { s with heap := h, toks := tk }
theorem minD_loop (hh : A.handled = none) (hl : h₀.IsList l vs.toArray) (hI : h₀.get? I = none) (hS : h₀.get? S = none) (hIS : S ≠ I) (hc : CmpAll prog w A.in1 s h₀ vs)
    (hR : ∀ v h' tk, v ∈ vs → Kp h₀ h' → R (.ok (.ret v)) { s with heap := h', toks := tk }) :
    ∀ (k j : Nat) (h : Heap) (tk : Nat) (vb : Value) (c : Nat), vs.length - (j + 1) = k → j + 1 ≤ vs.length → Kp h₀ h → h.IsListIter I l (j + 1) → vb ∈ vs → h.get? S = some (lstO #[vb, vb] c) →
      codeAny (model prog w) A (.builtin "min.loop" ⟨[.ref I, .none, .ref S], dfl d⟩) R { s with heap := h, toks := tk } := by
  have nm : (toString "min" ++ toString ".loop" : String) = "min.loop" := by decide
  have hlI : l ≠ I := fun e => by
    obtain ⟨o, ho, _⟩ := hl
    rw [e, hI] at ho
    cases ho
  have W := Walks.list (prog := prog) (w := w) (A := A.in1) hh I l hlI vs.toArray
  have nI : ∀ b ∈ [I], h₀.get? b = none := fun b hb => by rw [List.mem_singleton.mp hb]; exact hI
  have nS : ∀ b ∈ [S], h₀.get? b = none := fun b hb => by rw [List.mem_singleton.mp hb]; exact hS
  have sz : vs.toArray.size = vs.length := List.size_toArray ..
  intro k
  induction k with
  | zero =>
    intro j h tk vb c hk hj kp hit hvb at_S
    have ej : j + 1 = vs.length := by omega
    refine codeAny_builtin PySem.F.entry_min_loop ?_
    rw [Around.under_plainId PySem.F.plain_min_loop _]
    show wpAny _ A.in1 (seqItems? (.ref S) >>= _) _ _ _
    refine wpAny_bind (wpAny_seqItems at_S rfl ?_)
    show wpAny _ A.in1 (tryCatch (pyNext (.ref I)) _ >>= _) _ _ _
    refine wpAny_bind (wpAny_tryCatch (W.done _ _ _ ⟨by rw [sz, ← ej]; exact hit, hl.at fun o => kp l o⟩ fun h1 tk1 m1 => ?_))
    have at_S1 := m1 S _ (by simpa using hIS) at_S
    show wpAny _ A.in1 (updateSeq S (fun _ => #[]) >>= _) _ _ _
    refine wpAny_bind (wpAny_updateSeq at_S1 rfl (wpAny_bind (wpAny_letGo (wpAny_pure ?_))))
    exact hR vb _ _ hvb ((kp.to nI m1).to nS fun b o nb e => (Heap.get?_update_other _ _ (fun z => nb (by simp [z]))).trans e)
  | succ k ih =>
    intro j h tk vb c hk hj kp hit hvb at_S
    refine codeAny_builtin PySem.F.entry_min_loop ?_
    rw [Around.under_plainId PySem.F.plain_min_loop _]
    show wpAny _ A.in1 (seqItems? (.ref S) >>= _) _ _ _
    refine wpAny_bind (wpAny_seqItems at_S rfl ?_)
    show wpAny _ A.in1 (tryCatch (pyNext (.ref I)) _ >>= _) _ _ _
    refine wpAny_bind (wpAny_tryCatch (W.item (j + 1) _ _ _ (by rw [sz]; omega) ⟨hit, hl.at fun o => kp l o⟩ fun v h1 tk1 hP st1 m1 => ?_))
    have hv : v ∈ vs := List.mem_of_getElem? (by simpa using hP)
    have kp1 : Kp h₀ h1 := kp.to nI m1
    have at_S1 := m1 S _ (by simpa using hIS) at_S
    show wpAny _ A.in1 (tryCatch (holding [v, v] (richCompare .Lt v vb >>= _)) _ >>= _) _ _ _
    refine wpAny_bind (wpAny_tryCatch (wpAny_holding (wpAny_bind (hc h1 tk1 v vb _ _ kp1 hv hvb fun bt => ?_))))
    refine wpAny_bind (wpAny_holding (wpAny_truthy_bool ?_))
    refine wpAny_bind (wpAny_letGo (wpAny_pure ?_))
    cases bt with
    | true =>
      simp only [if_true]
      refine wpAny_bind (wpAny_updateSeq at_S1 rfl (wpAny_bind (wpAny_letGo ?_)))
      rw [nm]
      refine wpAny_pure ⟨plainId_quiet PySem.F.plain_min_loop _, ih (j + 1) _ tk1 v _ (by omega) (by omega) (kp1.to nS fun b o nb e => (Heap.get?_update_other _ _ (fun z => nb (by simp [z]))).trans e) ?_ hv (Heap.get?_update_self _ at_S1 rfl)⟩
      exact st1.1.at fun o e => (Heap.get?_update_other _ _ hIS).trans e
    | false =>
      simp only [Bool.false_eq_true, if_false]
      refine wpAny_bind (wpAny_letGo ?_)
      rw [nm]
      exact wpAny_pure ⟨plainId_quiet PySem.F.plain_min_loop _, ih (j + 1) h1 tk1 vb c (by omega) (by omega) kp1 st1.1 hvb at_S1⟩

theorem call_minD {Q : Value → Shared → Prop} (hh : A.handled = none) (hl : s.heap.IsList l vs.toArray) (hc : CmpAll prog w A.in1 s s.heap vs)
    (h0 : vs = [] → ∀ h' tk, Kp s.heap h' → Q d { s with heap := h', toks := tk }) (h1 : ∀ v h' tk, v ∈ vs → Kp s.heap h' → Q v { s with heap := h', toks := tk }) :
    wpAny (model prog w) A (call (.builtin "min") [.ref l] (dfl d)) Q E s := by
  have nm : (toString "min" ++ toString ".loop" : String) = "min.loop" := by decide
  refine kmk_tree PySem.F.kind_min PySem.F.plain_min PySem.F.entry_min (args_min_dfl _ _) ?_
  show wpAny _ A.in1 (Builtin.Builtins.bindParams "min" ["key", "default"] 0 ⟨[], dfl d⟩ >>= _) _ _ s
  refine wpAny_bind (wpAny_of_eq (show Builtin.Builtins.bindParams "min" ["key", "default"] 0 ⟨[], dfl d⟩ = pure [none, some d] from rfl) ?_)
  refine wpAny_bind (wpAny_pure (wpAny_bind (wpAny_pyIter_list hl (wpAny_bind (wpAny_newList ?_ (Nat.zero_le _))))))
  rw [nm]
  refine wpAny_pure ⟨plainId_quiet PySem.F.plain_min_loop _, ?_⟩
  have fr_it : ({ cls := .type "list_iterator", data := .fields #[.ref l, .int 0 0] } : Obj).isFreed = false := rfl
  generalize hit : ({ cls := .type "list_iterator", data := .fields #[.ref l, .int 0 0] } : Obj) = itO at fr_it
  have zI : (s.heap.push itO).objs.size = s.heap.objs.size + 1 := Heap.size_push ..
  have at_I : ((s.heap.push itO).push (lstO #[] 0)).get? s.heap.objs.size = some itO := Heap.get?_push_of_some _ (Heap.get?_push_size _ fr_it)
  have at_S : ((s.heap.push itO).push (lstO #[] 0)).get? (s.heap.push itO).objs.size = some (lstO #[] 0) := Heap.get?_push_size _ rfl
  have kp : Kp s.heap ((s.heap.push itO).push (lstO #[] 0)) := fun b o e => Heap.get?_push_of_some _ (Heap.get?_push_of_some _ e)
  have nI : s.heap.get? s.heap.objs.size = none := Heap.get?_none_of_le (Nat.le_refl _)
  have nS : s.heap.get? (s.heap.push itO).objs.size = none := Heap.get?_none_of_le (by rw [zI]; exact Nat.le_succ _)
  have hSI : (s.heap.push itO).objs.size ≠ s.heap.objs.size := by rw [zI]; exact Nat.succ_ne_self _
  have hlI : l ≠ s.heap.objs.size := fun e => by
    obtain ⟨o, ho, _⟩ := hl
    rw [e, nI] at ho
    cases ho
  have isI : ((s.heap.push itO).push (lstO #[] 0)).IsListIter s.heap.objs.size l 0 := ⟨itO, at_I, by rw [← hit], by rw [← hit] <;> rfl⟩
  generalize hS : (s.heap.push itO).objs.size = S at at_S nS hSI ⊢
  generalize hHp : (s.heap.push itO).push (lstO #[] 0) = hp at at_S at_I kp isI
  have W := Walks.list (prog := prog) (w := w) (A := A.in1) hh s.heap.objs.size l hlI vs.toArray
  have sz : vs.toArray.size = vs.length := List.size_toArray ..
  have nIs : ∀ b ∈ [s.heap.objs.size], s.heap.get? b = none := fun b hb => by rw [List.mem_singleton.mp hb]; exact nI
  have nSs : ∀ b ∈ [S], s.heap.get? b = none := fun b hb => by rw [List.mem_singleton.mp hb]; exact nS
  have isl : hp.IsList l vs.toArray := hl.at fun o => kp l o
  show codeAny (model prog w) A (.builtin "min.loop" ⟨[.ref s.heap.objs.size, .none, .ref S], dfl d⟩) _ { s with heap := hp }
  by_cases hv : vs = []
  · have ez : vs.toArray.size = 0 := by rw [sz, hv] <;> rfl
    refine codeAny_builtin PySem.F.entry_min_loop ?_
    rw [Around.under_plainId PySem.F.plain_min_loop _]
    show wpAny _ A.in1 (seqItems? (.ref S) >>= _) _ _ _
    refine wpAny_bind (wpAny_seqItems at_S rfl ?_)
    show wpAny _ A.in1 (tryCatch (pyNext (.ref s.heap.objs.size)) _ >>= _) _ _ _
    refine wpAny_bind (wpAny_tryCatch (W.done _ _ _ ⟨by rw [ez]; exact isI, isl⟩ fun h1' tk1 m1 => ?_))
    refine wpAny_bind (wpAny_rule (wpAny_pure ?_))
    exact h0 hv h1' tk1 (kp.to nIs m1)
  · have hn : 0 < vs.length := List.length_pos_iff.mpr hv
    refine codeAny_builtin PySem.F.entry_min_loop ?_
    rw [Around.under_plainId PySem.F.plain_min_loop _]
    show wpAny _ A.in1 (seqItems? (.ref S) >>= _) _ _ _
    refine wpAny_bind (wpAny_seqItems at_S rfl ?_)
    show wpAny _ A.in1 (tryCatch (pyNext (.ref s.heap.objs.size)) _ >>= _) _ _ _
    refine wpAny_bind (wpAny_tryCatch (W.item 0 _ _ _ (by rw [sz]; exact hn) ⟨isI, isl⟩ fun v hp1 tk1 hP st1 m1 => ?_))
    have hvm : v ∈ vs := List.mem_of_getElem? (by simpa using hP)
    have at_S1 := m1 S _ (by simpa using hSI) at_S
    show wpAny _ A.in1 (updateSeq S (fun _ => #[v, v]) >>= _) _ _ _
    refine wpAny_bind (wpAny_updateSeq at_S1 rfl ?_)
    rw [nm]
    refine wpAny_pure ⟨plainId_quiet PySem.F.plain_min_loop _, minD_loop (s := s) hh hl nI nS hSI hc (fun u h' tk hu k' => h1 u h' tk hu k') _ 0 _ tk1 v _ rfl hn ((kp.to nIs m1).to nSs fun b o nb e => (Heap.get?_update_other _ _ (fun z => nb (by simp [z]))).trans e) ?_ hvm (Heap.get?_update_self _ at_S1 rfl)⟩
    exact st1.1.at fun o e => (Heap.get?_update_other _ _ hSI).trans e
end

/-! ### over the layer: min(l, default=d), l a list of pairs (an int, a tuple of ints) -/
/-- x is a pair of an int and a tuple of ints -/
def PairT (K : PySem.W.Frag) (H : Hp) (x : V) : Prop := ∃ (t q : Addr) (n : Int) (ns : List Int), x = .ref t ∧ SqT K H t [.int n, .ref q] ∧ SqT K H q (ns.map V.int)
theorem dpAll_ints {K : PySem.W.Frag} {H : Hp} : ∀ ns : List Int, DpAll K H (ns.map V.int) (ns.map PyData.int)
  | [] => .nil
  | n :: ns => .cons (.int n) (dpAll_ints ns)
theorem alike_ints : ∀ ns ms : List Int, PySem.W.alikeAll (ns.map PyData.int) (ms.map PyData.int) = true
  | [], _ => by simp [PySem.W.alikeAll]
  | _ :: _, [] => by simp [PySem.W.alikeAll]
  | n :: ns, m :: ms => by
    rw [List.map_cons, List.map_cons]
    unfold PySem.W.alikeAll
    rw [alike_ints ns ms]
    simp [PySem.W.alike]
theorem depth_ints : ∀ ns : List Int, PyData.depthAll (ns.map PyData.int) = 0
  | [] => rfl
  | n :: ns => by
    rw [List.map_cons]
    unfold PyData.depthAll
    rw [depth_ints ns] <;> rfl
theorem vals_mem : ∀ {xs : List V} {us : List Value} {u : Value}, Vals xs us → u ∈ us → ∃ x, x ∈ xs ∧ RelV x u
  | _, _, _, .nil, h => by cases h
  | _, _, u, .cons (a := x) r t, h => by
    rcases List.mem_cons.mp h with e | h
    · exact ⟨x, List.mem_cons_self, by rw [e]; exact r⟩
    · obtain ⟨y, hy, ry⟩ := vals_mem t h
      exact ⟨y, List.mem_cons_of_mem _ hy, ry⟩
theorem vals_mem2 : ∀ {xs : List V} {us : List Value} {x : V}, Vals xs us → x ∈ xs → ∃ u, u ∈ us ∧ RelV x u
  | _, _, _, .nil, h => by cases h
  | _, _, x, .cons (b := u) r t, h => by
    rcases List.mem_cons.mp h with e | h
    · exact ⟨u, List.mem_cons_self, by rw [e]; exact r⟩
    · obtain ⟨y, hy, ry⟩ := vals_mem2 t h
      exact ⟨y, List.mem_cons_of_mem _ hy, ry⟩
section
variable {X : Cx}
def rMinD (K : PySem.W.Frag) : List V → List V → Hp → VK → Prop := fun vs zs H Q => ∃ (a : Addr) (xs : List V) (d : V), vs = [.ref a] ∧ zs = [d] ∧ SqL K H a xs ∧ (∀ x ∈ xs, PairT K H x) ∧
  (xs = [] → Q d H) ∧ ∀ x ∈ xs, Q x H
theorem cr_minD (hc : X.calm = true) (hu : X.A.units + 64 < cLine) : CallRK X (.builtin "min") [Str.ofString "default"] (rMinD X.K) := by
  intro pins s σ H vs zs us ws Q I r rz h
  obtain ⟨a, xs, d, rfl, rfl, hs, hp, q0, q1⟩ := h
  obtain ⟨u, rfl, ru⟩ := vals1 r
  cases ru
  obtain ⟨dv, rfl, rd⟩ := vals1 rz
  obtain ⟨its, rv, pl, _⟩ := I.list hs
  have dat : ∀ x ∈ xs, ∃ (n : Int) (ns : List Int), Dp X.K H x (.tuple [.int n, .tuple (ns.map PyData.int)]) := fun x hx => by
    obtain ⟨t, q, n, ns, rfl, h1, h2⟩ := hp x hx
    exact ⟨n, ns, .tup h1 (.cons (.int n) (.cons (.tup h2 (dpAll_ints ns)) .nil))⟩
  refine call_minD (I.ok.hd hc) pl.isList (fun h' tk u v Q' E' kp hu' hv' hq => ?_) (fun e h' tk kp => ?_) fun v h' tk hv kp => ?_
  · have I' : Inv X pins σ H { s with heap := h', toks := tk } := I.kept kp
    obtain ⟨x, hx, rx⟩ := vals_mem rv hu'
    obtain ⟨y, hy, ry⟩ := vals_mem rv hv'
    obtain ⟨n, ns, dx⟩ := dat x hx
    obtain ⟨m, ms, dy⟩ := dat y hy
    obtain ⟨as, r1⟩ := Dp.reads I' _ x u dx rx
    obtain ⟨bs, r2⟩ := Dp.reads I' _ y v dy ry
    refine PySem.W.rcLt_alike _ _ X.A.in1 _ u v as bs r1 r2 ?_ (fun z => nomatch z) ?_ _ _ _ _ (hq _)
    · simp [PySem.W.alike, PySem.W.alikeAll, alike_ints]
    · have e1 : ∀ (n : Int) (ns : List Int), PyData.depth (.tuple [.int n, .tuple (ns.map PyData.int)]) = 2 := fun n ns => by
        simp [PyData.depth, PyData.depthAll, depth_ints]
      have e2 : X.A.in1.units = X.A.units + 1 := rfl
      rw [e1, e1, e2]
      omega
  · have ex : xs = [] := by
      have := rv.length
      rw [e] at this
      exact List.length_eq_zero_iff.mp this
    exact ⟨d, H, I.kept kp, rd, q0 ex⟩
  · obtain ⟨x, hx, rx⟩ := vals_mem rv hv
    exact ⟨x, H, I.kept kp, rx, q1 x hx⟩
end
end K45
end R3
section W0
namespace K45
open PySem PySem.Spec PyProof.Rows L2
/-! ### the text by places -/
def topS (i : Nat) : Stmt := PySem.Challenge.pw_hingemount_k45_whole_a_false_stamp_takes.main.body.getD i (.Pass ⟨0, 0, 0, 0⟩)
abbrev sIsWhole : Stmt := topS 7
abbrev sIsFrom : Stmt := topS 8
abbrev sAreOwners : Stmt := topS 14
abbrev sIsMove : Stmt := topS 15
abbrev sIsDeal : Stmt := topS 16
abbrev sDone : Stmt := topS 17
abbrev sAllDone : Stmt := topS 18
abbrev sNeedDeals : Stmt := topS 19
abbrev sNeedWithin : Stmt := topS 20
abbrev sOwnersBehind : Stmt := topS 21
abbrev sLeans : Stmt := topS 22
abbrev sChainsIn : Stmt := topS 23
abbrev sFallsIn : Stmt := topS 24
abbrev sFallen : Stmt := topS 25
abbrev sOwnersLeft : Stmt := topS 26
abbrev sChainOf : Stmt := topS 27
abbrev sIsChain : Stmt := topS 28
abbrev sPen : Stmt := topS 30
abbrev sCellAt : Stmt := topS 31
abbrev sDraw : Stmt := topS 32
abbrev sOwners : Stmt := topS 33
abbrev sMixed : Stmt := topS 34
abbrev sDeal : Stmt := topS 35
abbrev sBehind : Stmt := topS 36
abbrev sDeals : Stmt := topS 37
abbrev sShown : Stmt := topS 38
abbrev sLeftRight : Stmt := topS 39
abbrev sLaw : Stmt := topS 40

/-! ### heaps -/
theorem same_new {H : Hp} {p : Addr} {o : HO} (h : H p = none) : Same H (upd H p o) := fun b x e => by
  rw [upd_ne (ne_of_none e h)]
  exact e
theorem same_sqt {K : PySem.W.Frag} {H H' : Hp} {a : Addr} {xs : List V} (e : Same H H') (h : SqT K H a xs) : SqT K H' a xs := by
  rcases h with (h | ⟨o, h⟩) | h
  · exact .inl (.inl (e _ _ h))
  · exact .inl (.inr ⟨o, e _ _ h⟩)
  · exact .inr h
/-- all but what stands at a is as it was -/
def But (a : Addr) (H H' : Hp) : Prop := ∀ b o, b ≠ a → H b = some o → H' b = some o
theorem But.refl (a : Addr) (H : Hp) : But a H H := fun _ _ _ e => e
theorem But.trans {a : Addr} {H H1 H2 : Hp} (x : But a H H1) (y : But a H1 H2) : But a H H2 := fun b o n e => y b o n (x b o n e)
theorem But.of {a : Addr} {H H' : Hp} (s : Same H H') : But a H H' := fun b o _ e => s b o e
theorem but_upd {a : Addr} {H : Hp} {o : HO} : But a H (upd H a o) := fun b x n e => by
  rw [upd_ne n]
  exact e
/-- a list stands at a -/
def IsLs (H : Hp) (a : Addr) : Prop := ∃ xs, H a = some (.lst xs)
theorem But.sqt {K : PySem.W.Frag} {a t : Addr} {H H' : Hp} {xs : List V} (x : But a H H') (ha : IsLs H a) (h : SqT K H t xs) : SqT K H' t xs := by
  obtain ⟨ys, ha⟩ := ha
  rcases h with (h | ⟨o, h⟩) | h
  · exact .inl (.inl (x t _ (ne_of h ha (fun z => nomatch z)) h))
  · exact .inl (.inr ⟨o, x t _ (ne_of h ha (fun z => nomatch z)) h⟩)
  · exact .inr h

/-! ### data -/
abbrev iV (l : List Int) : List V := l.map V.int
abbrev nV (l : List Nat) : List V := l.map fun n : Nat => V.int (n : Int)
theorem nV_ints (l : List Nat) : nV l = iV (l.map fun n : Nat => (n : Int)) := by
  unfold nV iV
  rw [List.map_map]
  rfl
theorem nV_append (l m : List Nat) : nV (l ++ m) = nV l ++ nV m := List.map_append
theorem nV_len (l : List Nat) : (nV l).length = l.length := List.length_map ..
theorem iV_len (l : List Int) : (iV l).length = l.length := List.length_map ..
theorem nV_get {l : List Nat} {i n : Nat} (h : l[i]? = some n) : (nV l)[i]? = some (.int n) := by
  show (l.map _)[i]? = _
  rw [List.getElem?_map, h]
  rfl
theorem iV_get {l : List Int} {i : Nat} {n : Int} (h : l[i]? = some n) : (iV l)[i]? = some (.int n) := by
  show (l.map _)[i]? = _
  rw [List.getElem?_map, h]
  rfl
theorem nV_at {l : List Nat} {i : Nat} {x : V} (h : (nV l)[i]? = some x) : ∃ n, l[i]? = some n ∧ x = .int n := by
  have h : (l.map _)[i]? = some x := h
  rw [List.getElem?_map] at h
  cases e : l[i]? with
  | none => rw [e] at h; cases h
  | some n =>
    rw [e] at h
    exact ⟨n, rfl, (Option.some.inj h).symm⟩
theorem iV_at {l : List Int} {i : Nat} {x : V} (h : (iV l)[i]? = some x) : ∃ n, l[i]? = some n ∧ x = .int n := by
  have h : (l.map _)[i]? = some x := h
  rw [List.getElem?_map] at h
  cases e : l[i]? with
  | none => rw [e] at h; cases h
  | some n =>
    rw [e] at h
    exact ⟨n, rfl, (Option.some.inj h).symm⟩
theorem lt1000 {n : Nat} (h : n ≤ 1000) : n ≤ sizeLine := Nat.le_of_lt (small1000 h)

def mvV (m : Mv) : List V := [.int (m.1 : Int), .int m.2.1, .int m.2.2]
def MvAt (K : PySem.W.Frag) (H : Hp) (x : V) (m : Mv) : Prop := ∃ a, x = .ref a ∧ SqT K H a (mvV m)
def DealAt (K : PySem.W.Frag) (H : Hp) (x : V) (d : Deal) : Prop := ∃ a xs, x = .ref a ∧ SqT K H a xs ∧ Paired (MvAt K H) xs d
def DealsAt (K : PySem.W.Frag) (H : Hp) (b : Addr) (ds : List Deal) : Prop := ∃ xs, SqT K H b xs ∧ Paired (DealAt K H) xs ds
/-- tuples stand -/
def Tups (K : PySem.W.Frag) (H H' : Hp) : Prop := ∀ a xs, SqT K H a xs → SqT K H' a xs
theorem same_tups {K : PySem.W.Frag} {H H' : Hp} (s : Same H H') : Tups K H H' := fun _ _ => same_sqt s
theorem But.tups {K : PySem.W.Frag} {a : Addr} {H H' : Hp} (s : But a H H') (h : IsLs H a) : Tups K H H' := fun _ _ => s.sqt h
theorem MvAt.stay {K : PySem.W.Frag} {H H' : Hp} (s : Tups K H H') {x : V} {m : Mv} (h : MvAt K H x m) : MvAt K H' x m := let ⟨a, e, h⟩ := h; ⟨a, e, s _ _ h⟩
theorem DealAt.stay {K : PySem.W.Frag} {H H' : Hp} (s : Tups K H H') {x : V} {d : Deal} (h : DealAt K H x d) : DealAt K H' x d :=
  let ⟨a, xs, e, h, p⟩ := h; ⟨a, xs, e, s _ _ h, Paired.mapP p fun _ _ => MvAt.stay s⟩
theorem DealsAt.stay {K : PySem.W.Frag} {H H' : Hp} (s : Tups K H H') {b : Addr} {ds : List Deal} (h : DealsAt K H b ds) : DealsAt K H' b ds :=
  let ⟨xs, h, p⟩ := h; ⟨xs, s _ _ h, Paired.mapP p fun _ _ => DealAt.stay s⟩
theorem pr_at {α β : Type} {F : α → β → Prop} : ∀ {xs : List α} {ys : List β} {i : Nat} {x : α}, Paired F xs ys → xs[i]? = some x → ∃ y, ys[i]? = some y ∧ F x y
  | _, _, _, _, .nil, e => by simp at e
  | _, _, 0, _, .cons r _, e => by simp at e; subst e; exact ⟨_, rfl, r⟩
  | _, _, i + 1, x, .cons _ t, e => by
    obtain ⟨y, h1, h2⟩ := pr_at (i := i) (x := x) t (by simpa using e)
    exact ⟨y, by simpa using h1, h2⟩
theorem pr_at2 {α β : Type} {F : α → β → Prop} : ∀ {xs : List α} {ys : List β} {i : Nat} {y : β}, Paired F xs ys → ys[i]? = some y → ∃ x, xs[i]? = some x ∧ F x y
  | _, _, _, _, .nil, e => by simp at e
  | _, _, 0, _, .cons r _, e => by simp at e; subst e; exact ⟨_, rfl, r⟩
  | _, _, i + 1, x, .cons _ t, e => by
    obtain ⟨y, h1, h2⟩ := pr_at2 (i := i) (y := x) t (by simpa using e)
    exact ⟨y, by simpa using h1, h2⟩
theorem pr_snoc {α β : Type} {F : α → β → Prop} : ∀ {xs : List α} {ys : List β} {x : α} {y : β}, Paired F xs ys → F x y → Paired F (xs ++ [x]) (ys ++ [y])
  | _, _, _, _, .nil, h => .cons h .nil
  | _, _, _, _, .cons r t, h => .cons r (pr_snoc t h)
theorem pr_take {α β : Type} {F : α → β → Prop} : ∀ {xs : List α} {ys : List β} (n : Nat), Paired F xs ys → Paired F (xs.take n) (ys.take n)
  | _, _, 0, _ => .nil
  | _, _, _ + 1, .nil => .nil
  | _, _, n + 1, .cons r t => .cons r (pr_take n t)
theorem pr_len {α β : Type} {F : α → β → Prop} {xs : List α} {ys : List β} (p : Paired F xs ys) : xs.length = ys.length := Paired.length p

/-! ### what the top leaves -/
structure Txt (mg : Str → Option Value) : Prop where
  isi : mg "isinstance" = none
  int : mg "int" = none
  bool : mg "bool" = none
  len : mg "len" = none
  tuple : mg "tuple" = none
  all : mg "all" = none
  set : mg "set" = none
  list : mg "list" = none
  enum : mg "enumerate" = none
  sorted : mg "sorted" = none
  min : mg "min" = none
  max : mg "max" = none
  zip : mg "zip" = none
  range : mg "range" = none
  stamps : ∃ t, mg "MOST_STAMPS" = some (.int 12 t)
  owner : ∃ t, mg "MOST_OWNER" = some (.int 5 t)
  deals : ∃ t, mg "MOST_DEALS" = some (.int 10 t)
  moves : ∃ t, mg "MOST_MOVES" = some (.int 6 t)

/-! ### a def that is called -/
structure Cal (P : Program) (w : World) (K : PySem.W.Frag) (mg : Str → Option Value) (base : Heap) (k : Nat) (x : Str) (ps : List Str) (sp : Sp) (g : Addr) (gd : FuncData) : Prop where
  ok : FnOk P w K mg base CX0 k g gd ps sp
  kp : PySem.W.keepIn K (.ref g) = true
  b : Binds K gd ps []
  m : mg x = some (.ref g)
section
variable {X : Cx} {k j : Nat} {x : Str} {ps : List Str} {sp : Sp} {g : Addr} {gd : FuncData} {e : Expr} {es : List Expr} {p pos : Pos} {t : TA}
theorem pe_cal (C : Cal X.prog X.w X.K X.mg X.base k x ps sp g gd) (hr : Room j X.A) (hj : k ≤ j) (hg : Gl X x) (ha : PA X (e :: es) t) (hdb : (x == ("__debug__" : Str)) = false := by decide)
    (he : starEach (e :: es) X.env = (false, eval e X.env) :: starEach es X.env := by rfl) (hpl : (backTo pos (starEach es X.env)).any (·.1) = false := by rfl) :
    PE X (.Call (.Name x p) (e :: es) [] pos) (tCall sp [] E0 t) := pe_call C.ok (hr.mono hj) hg C.m C.kp C.b .nil pass0 ha hdb he hpl
end

/-! ### a walk over an enumerated tuple -/
theorem walk_enumT {K : PySem.W.Frag} {a : Addr} {xs : List V} : Walk (IteT K a) xs.length (fun H => SqT K H a xs) (YPair (fun i => some (.int (i : Nat))) (fun i => xs[i]?)) := by
  refine ⟨fun i _ hi q => ⟨xs, xs[i], q, List.getElem?_eq_getElem hi⟩, fun _ q => ⟨xs, q, rfl⟩, fun i H v H' _ q y => ?_⟩
  obtain ⟨T, x, h1, h2, h3, h4⟩ := y
  exact ⟨T, .int (i : Nat), x, h1, h2, h3, rfl, h4 xs q⟩
end K45
end W0
section W1
namespace K45
open PySem PySem.Spec PyProof.Rows L2
theorem sc_is_whole : FnScope ["thing"] ["thing"] (defScope sIsWhole) := ⟨rfl, rfl, rfl, by decide +kernel, rfl, by decide +kernel, by decide +kernel⟩
theorem sc_is_from : FnScope ["thing", "low", "high"] ["thing", "low", "high"] (defScope sIsFrom) := ⟨rfl, rfl, rfl, by decide +kernel, rfl, by decide +kernel, by decide +kernel⟩
theorem sc_are_owners : FnScope ["thing", "one"] ["thing"] (defScope sAreOwners) := ⟨rfl, rfl, rfl, by decide +kernel, rfl, by decide +kernel, by decide +kernel⟩
theorem sc_is_move : FnScope ["many", "thing"] ["many", "thing"] (defScope sIsMove) := ⟨rfl, rfl, rfl, by decide +kernel, rfl, by decide +kernel, by decide +kernel⟩
theorem sc_is_deal : FnScope ["many", "thing", "move"] ["many", "thing"] (defScope sIsDeal) := ⟨rfl, rfl, rfl, by decide +kernel, rfl, by decide +kernel, by decide +kernel⟩

/-! ### promises -/
def spIsWhole : Sp := fun vs H Q _ => ∃ i : Int, vs = [.int i] ∧ Q (.bl true) H
def spIsFrom : Sp := fun vs H Q _ => ∃ x lo hi : Int, vs = [.int x, .int lo, .int hi] ∧ Q (.bl (decide (lo ≤ x ∧ x ≤ hi))) H
def spAreOwners (K : PySem.W.Frag) : Sp := fun vs H Q _ => ∃ (a : Addr) (o : List Int), vs = [.ref a] ∧ SqT K H a (iV o) ∧ OwnOk o ∧ ∀ H', Same H H' → Q (.bl true) H'
def MvOk (n : Int) (m : Mv) : Prop := (m.1 : Int) < n ∧ 0 ≤ m.2.1 ∧ m.2.1 ≤ 5 ∧ 0 ≤ m.2.2 ∧ m.2.2 ≤ 5 ∧ m.2.1 ≠ m.2.2
def spIsMove (K : PySem.W.Frag) : Sp := fun vs H Q _ => ∃ (n : Int) (a : Addr) (m : Mv), vs = [.int n, .ref a] ∧ SqT K H a (mvV m) ∧ MvOk n m ∧ Q (.bl true) H
def spIsDeal (K : PySem.W.Frag) : Sp := fun vs H Q _ => ∃ (n : Nat) (a : Addr) (xs : List V) (d : Deal), vs = [.int n, .ref a] ∧ SqT K H a xs ∧ Paired (MvAt K H) xs d ∧ DealOk n d ∧ ∀ H', Same H H' → Q (.bl true) H'

/-- a tuple that is read is one by its type -/
theorem ty_tup {K : PySem.W.Frag} {H : Hp} {a : Addr} {xs : List V} (h : SqT K H a xs) : TyX K H (.ref a) (.type "tuple") := by
  rcases h with (h | ⟨o, h⟩) | ⟨o, its, n, hk, hc, _⟩
  · exact .base (.tup h)
  · exact .fTuple h
  · exact .kTuple hk hc
theorem kit_tt {K : PySem.W.Frag} : PySem.W.kitOne K (.type "tuple") (.type "tuple") = some true := kit_ty (by decide +kernel)
theorem kit_ii {K : PySem.W.Frag} : PySem.W.kitOne K (.type "int") (.type "int") = some true := kit_ty (by decide +kernel)
theorem kit_ib {K : PySem.W.Frag} : PySem.W.kitOne K (.type "int") (.type "bool") = some false := kit_ty (by decide +kernel)

section
variable {X : Cx} {e : Expr} {te : TE}
/-- isinstance(e, T) -/
theorem pe_isi {n : String} {x y : Str} {p p2 pos : Pos} (he : PE X e te) (h1 : Gl X x) (m1 : X.mg x = none) (b1 : bootBuiltins x = some (.builtin "isinstance")) (h2 : Gl X y) (m2 : X.mg y = none) (b2 : bootBuiltins y = some (.type n))
    (n1 : x ≠ "__name__" := by decide) (n2 : y ≠ "__name__" := by decide) (d1 : (x == ("__debug__" : Str)) = false := by decide) (d2 : (y == ("__debug__" : Str)) = false := by decide)
    (s1 : starEach (e :: [.Name y p2]) X.env = (false, eval e X.env) :: starEach [.Name y p2] X.env := by rfl) (s2 : starEach (.Name y p2 :: []) X.env = (false, eval (.Name y p2) X.env) :: starEach [] X.env := by rfl) :
    PE X (.Call (.Name x p) [e, .Name y p2] [] pos) (tCB (rIsi X.K) (tCons te (tCons (tC (.ty n)) tNil))) :=
  pe_callB call_isi h1 m1 b1 (pa_cons he (pa_cons (pe_bltn (v := .ty n) h2 m2 b2 rfl n2 d2) pa_nil s2) s1) n1 d1 s1
end

section
variable {P : Program} {w : World} {K : PySem.W.Frag} {mg : Str → Option Value} {base : Heap} {f : Addr} {fd : FuncData}
theorem ok_is_whole (T : Txt mg) (F : Fun K "is_whole" "is_whole" sIsWhole f fd) : FnOk P w K mg base CX0 1 f fd ["thing"] spIsWhole := by
  refine F.ok sc_is_whole (fun vs H Q E h => ?_) (fun cdv A outer s H vs Q E hr h => ?_)
  · obtain ⟨i, rfl, _⟩ := h
    rfl
  · obtain ⟨i, rfl, q⟩ := h
    refine ⟨_, pss_one (ps_ret (pe_and (pe_isi (pv 0) (by rfl) T.isi (by decide +kernel) (by rfl) T.int boot_int)
      (pe_one (pe_not (pe_isi (pv 0) (by rfl) T.isi (by decide +kernel) (by rfl) T.bool (show bootBuiltins _ = some (.type "bool") from by decide +kernel)))))), ?_⟩
    refine ⟨.int i, rfl, .int i, .ty "int", _, _, true, rfl, .ty _, .base (.int i), kit_ii, true, rfl, iteT ?_⟩
    exact ⟨.int i, rfl, .int i, .ty "bool", _, _, false, rfl, .ty _, .base (.int i), kit_ib, false, rfl, q⟩

theorem ok_is_from {g : Addr} {gd : FuncData} (F : Fun K "is_from" "is_from" sIsFrom f fd) (C : Cal P w K mg base 1 "is_whole" ["thing"] spIsWhole g gd) :
    FnOk P w K mg base CX0 2 f fd ["thing", "low", "high"] spIsFrom := by
  refine F.ok sc_is_from (fun vs H Q E h => ?_) (fun cdv A outer s H vs Q E hr h => ?_)
  · obtain ⟨x, lo, hi, rfl, _⟩ := h
    rfl
  · obtain ⟨x, lo, hi, rfl, q⟩ := h
    refine ⟨_, pss_one (ps_ret (pe_and (pe_cal C hr (by decide) (by rfl) (pa_cons (pv 0) pa_nil)) (pe_one (pe_chain op_le op_le (pv 1) (pv 0) (pv 2))))), ?_⟩
    refine ⟨.int x, rfl, x, rfl, true, rfl, iteT ?_⟩
    refine ⟨.int lo, rfl, .int x, rfl, lo, x, rfl, rfl, _, rfl, ?_⟩
    by_cases h1 : lo ≤ x
    · rw [decide_eq_true h1]
      refine iteT ⟨.int hi, rfl, x, hi, rfl, rfl, ?_⟩
      have e : decide (lo ≤ x ∧ x ≤ hi) = decide (x ≤ hi) := by simp [h1]
      rw [e] at q
      exact q
    · rw [decide_eq_false h1]
      have e : decide (lo ≤ x ∧ x ≤ hi) = false := by simp [h1]
      rw [e] at q
      exact iteF q

theorem ok_are_owners {g : Addr} {gd : FuncData} (T : Txt mg) (F : Fun K "are_owners" "are_owners" sAreOwners f fd) (C : Cal P w K mg base 2 "is_from" ["thing", "low", "high"] spIsFrom g gd) :
    FnOk P w K mg base CX0 3 f fd ["thing"] (spAreOwners K) := by
  refine F.ok sc_are_owners (fun vs H Q E h => ?_) (fun cdv A outer s H vs Q E hr h => ?_)
  · obtain ⟨a, o, rfl, _⟩ := h
    rfl
  · obtain ⟨a, o, rfl, hA, ok, q⟩ := h
    obtain ⟨t1, ms⟩ := T.stamps
    obtain ⟨t2, mo⟩ := T.owner
    refine ⟨_, pss_cons (ps_if (PW.pt (pw_or (pt_not (pt_val (pe_isi (pv 0) (by rfl) T.isi (by decide +kernel) (by rfl) T.tuple boot_tuple)))
        (pw_or1 (pt_not (pt_chain op_le op_le pe_int (pe_callB call_len_seq (by rfl) T.len PySem.boot_len (pa_cons (pv 0) pa_nil)) (pe_glob (v := .int 12) (by rfl) ms ⟨_, rfl⟩))))))
        (pss_one (ps_ret pe_bl)) pss_nil)
      (pss_one (ps_ret (pe_callB (cr_all rfl) (by rfl) T.all (by decide +kernel) (pa_cons (pe_lc (own := [("one", 1)]) (g := gName 1) (tt := tYes) rfl sc_are_owners.nd (pi_tup (pv 0))
        (blkOk_by (N := ["thing", "one"]) (sc := defScope sAreOwners) (by decide +kernel)) (fun _ _ _ _ _ => pg_name (i := 1) sc_are_owners.nd rfl (Or.inl rfl)) (fun _ _ _ _ _ => pts_nil)
        (fun _ _ _ _ _ => pe_cal C hr (by decide) (by rfl) (pa_cons (pv 1) (pa_cons pe_int (pa_cons (pe_glob (v := .int 5) (by rfl) mo ⟨_, rfl⟩) pa_nil))))) pa_nil)))), ?_⟩
    refine ⟨.ref a, rfl, .ref a, .ty "tuple", _, _, true, rfl, .ty _, ty_tup hA, kit_tt, true, rfl, iteF ?_⟩
    refine ⟨.ref a, rfl, a, _, rfl, .inr hA, _, _, rfl, rfl, _, rfl, ?_⟩
    have l1 := ok.ne
    have l2 := ok.le
    rw [decide_eq_true (show (1 : Int) ≤ ((iV o).length : Nat) by rw [iV_len]; omega)]
    refine iteT ⟨_, _, rfl, rfl, _, rfl, ?_⟩
    rw [decide_eq_true (show (((iV o).length : Nat) : Int) ≤ 12 by rw [iV_len]; omega)]
    refine iteF ?_
    refine ⟨.ref a, rfl, a, rfl, ⟨_, hA⟩, fun D nD => ?_⟩
    refine lc_it walk_tup (fun i H' => Same H H' ∧ H' D = some (.lst ((List.replicate i true).map V.bl))) ⟨same_new nD, upd_same⟩ (fun i H' _ p => same_sqt p.1 hA) (fun i x H1 H2 hi p y => ?_) (fun H' p => ?_)
    · obtain ⟨rfl, hx⟩ := y
      obtain ⟨n, hn, rfl⟩ := iV_at hx
      obtain ⟨b1, b2⟩ := ok.all n (List.mem_of_getElem? hn)
      refine ⟨rfl, .int n, rfl, n, 0, 5, rfl, _, p.2, ?_, fun b z e => ?_, ?_⟩
      · rw [List.length_map, List.length_replicate]
        rw [iV_len] at hi
        exact small1000 (by omega)
      · have nb : b ≠ D := ne_of_none e nD
        rw [upd_ne nb]
        exact p.1 b z e
      · rw [upd_same, decide_eq_true (show (0 : Int) ≤ n ∧ n ≤ 5 from ⟨b1, b2⟩), List.replicate_succ']
        simp
    · refine ⟨D, List.replicate (iV o).length true, rfl, .inl (.inl p.2), ?_⟩
      have e : (List.replicate (iV o).length true).all id = true := by simp
      rw [e]
      exact q H' p.1
end
end K45
end W1
section W2
namespace K45
open PySem PySem.Spec PyProof.Rows L2
section
variable {P : Program} {w : World} {K : PySem.W.Frag} {mg : Str → Option Value} {base : Heap} {f : Addr} {fd : FuncData}
theorem ok_is_move {g : Addr} {gd : FuncData} (T : Txt mg) (F : Fun K "is_move" "is_move" sIsMove f fd) (C : Cal P w K mg base 2 "is_from" ["thing", "low", "high"] spIsFrom g gd) :
    FnOk P w K mg base CX0 3 f fd ["many", "thing"] (spIsMove K) := by
  refine F.ok sc_is_move (fun vs H Q E h => ?_) (fun cdv A outer s H vs Q E hr h => ?_)
  · obtain ⟨n, a, m, rfl, _⟩ := h
    rfl
  · obtain ⟨n, a, ⟨st, gv, tk⟩, rfl, hA, ⟨o1, o2, o3, o4, o5, o6⟩, q⟩ := h
    simp only at o1 o2 o3 o4 o5 o6
    obtain ⟨t2, mo⟩ := T.owner
    refine ⟨_, pss_cons (ps_if (PW.pt (pw_or (pt_not (pt_val (pe_isi (pv 1) (by rfl) T.isi (by decide +kernel) (by rfl) T.tuple boot_tuple)))
        (pw_or (pt_cmpR op_ne (pe_callB call_len_seq (by rfl) T.len PySem.boot_len (pa_cons (pv 1) pa_nil)) pe_int (nomark _))
        (pw_or1 (pt_not (pt_val (pe_cal C hr (by decide) (by rfl) (pa_cons (pe_ix ix_tup (pv 1) pe_int (fun _ _ => rfl)) (pa_cons pe_int (pa_cons (pe_op op_sub (pv 0) pe_int) pa_nil))))))))))
        (pss_one (ps_ret pe_bl)) pss_nil)
      (pss_one (ps_ret (pe_and (pe_cal C hr (by decide) (by rfl) (pa_cons (pe_ix ix_tup (pv 1) pe_int (fun _ _ => rfl)) (pa_cons pe_int (pa_cons (pe_glob (v := .int 5) (by rfl) mo ⟨_, rfl⟩) pa_nil))))
        (pe_and (pe_cal C hr (by decide) (by rfl) (pa_cons (pe_ix ix_tup (pv 1) pe_int (fun _ _ => rfl)) (pa_cons pe_int (pa_cons (pe_glob (v := .int 5) (by rfl) mo ⟨_, rfl⟩) pa_nil))))
        (pe_one (pe_cmpR op_ne (pe_ix ix_tup (pv 1) pe_int (fun _ _ => rfl)) (pe_ix ix_tup (pv 1) pe_int (fun _ _ => rfl)) (nomark _))))))), ?_⟩
    refine ⟨.ref a, rfl, .ref a, .ty "tuple", _, _, true, rfl, .ty _, ty_tup hA, kit_tt, true, rfl, iteF ?_⟩
    refine ⟨.ref a, rfl, a, _, rfl, .inr hA, rfl, _, rfl, iteF ?_⟩
    refine ⟨.ref a, rfl, a, _, 0, .int (st : Int), rfl, rfl, hA, rfl, .int n, rfl, n, 1, rfl, rfl, (st : Int), 0, n - 1, rfl, _, rfl, ?_⟩
    rw [decide_eq_true (show (0 : Int) ≤ (st : Int) ∧ (st : Int) ≤ n - 1 by omega)]
    refine iteF ?_
    refine ⟨.ref a, rfl, a, _, 1, .int gv, rfl, rfl, hA, rfl, gv, 0, 5, rfl, _, rfl, ?_⟩
    rw [decide_eq_true (show (0 : Int) ≤ gv ∧ gv ≤ 5 from ⟨o2, o3⟩)]
    refine iteT ⟨.ref a, rfl, a, _, 2, .int tk, rfl, rfl, hA, rfl, tk, 0, 5, rfl, _, rfl, ?_⟩
    rw [decide_eq_true (show (0 : Int) ≤ tk ∧ tk ≤ 5 from ⟨o4, o5⟩)]
    refine iteT ⟨.ref a, rfl, a, _, 1, .int gv, rfl, rfl, hA, rfl, .ref a, rfl, a, _, 2, .int tk, rfl, rfl, hA, rfl, rfl, ?_⟩
    rw [decide_eq_false (show ¬ V.int gv = V.int tk from fun e => o6 (V.int.inj e))]
    exact q

theorem mv0 {K : PySem.W.Frag} {H : Hp} {x : V} {m : Mv} (h : MvAt K H x m) : ∃ a, x = .ref a ∧ SqT K H a (mvV m) := h
theorem ok_is_deal {g : Addr} {gd : FuncData} (T : Txt mg) (F : Fun K "is_deal" "is_deal" sIsDeal f fd) (C : Cal P w K mg base 3 "is_move" ["many", "thing"] (spIsMove K) g gd) :
    FnOk P w K mg base CX0 4 f fd ["many", "thing"] (spIsDeal K) := by
  refine F.ok sc_is_deal (fun vs H Q E h => ?_) (fun cdv A outer s H vs Q E hr h => ?_)
  · obtain ⟨n, a, xs, d, rfl, _⟩ := h
    rfl
  · obtain ⟨n, a, xs, d, rfl, hA, pd, ok, q⟩ := h
    obtain ⟨t2, mo⟩ := T.moves
    have hl : xs.length = d.length := pr_len pd
    have l1 := ok.ne
    have l2 := ok.le
    refine ⟨_, pss_cons (ps_if (PW.pt (pw_or (pt_not (pt_val (pe_isi (pv 1) (by rfl) T.isi (by decide +kernel) (by rfl) T.tuple boot_tuple)))
        (pw_or1 (pt_not (pt_chain op_le op_le pe_int (pe_callB call_len_seq (by rfl) T.len PySem.boot_len (pa_cons (pv 1) pa_nil)) (pe_glob (v := .int 6) (by rfl) mo ⟨_, rfl⟩))))))
        (pss_one (ps_ret pe_bl)) pss_nil)
      (pss_cons (ps_if (pt_not (pt_val (pe_callB (cr_all rfl) (by rfl) T.all (by decide +kernel) (pa_cons (pe_lc (own := [("move", 2)]) (g := gName 2) (tt := tYes) rfl sc_is_deal.nd (pi_tup (pv 1))
          (blkOk_by (N := ["many", "thing", "move"]) (sc := defScope sIsDeal) (by decide +kernel)) (fun _ _ _ _ _ => pg_name (i := 2) sc_is_deal.nd rfl (Or.inl rfl)) (fun _ _ _ _ _ => pts_nil)
          (fun _ _ _ _ _ => pe_cal C hr (by decide) (by rfl) (pa_cons (pv 0) (pa_cons (pv 2) pa_nil)))) pa_nil))))
        (pss_one (ps_ret pe_bl)) pss_nil)
      (pss_one (ps_ret (pe_cmpR op_eq (RZ.pe_lenSetI (by rfl) T.len (by rfl) T.set (pe_lc (own := [("move", 2)]) (g := gName 2) (tt := tYes) rfl sc_is_deal.nd (pi_tup (pv 1))
          (blkOk_by (N := ["many", "thing", "move"]) (sc := defScope sIsDeal) (by decide +kernel)) (fun _ _ _ _ _ => pg_name (i := 2) sc_is_deal.nd rfl (Or.inl rfl)) (fun _ _ _ _ _ => pts_nil)
          (fun _ _ _ _ _ => pe_ix (r := rIxT K) ix_tup (pv 2) pe_int (fun _ _ => rfl))))
        (pe_callB call_len_seq (by rfl) T.len PySem.boot_len (pa_cons (pv 1) pa_nil)) (nomark _))))), ?_⟩
    refine ⟨.ref a, rfl, .ref a, .ty "tuple", _, _, true, rfl, .ty _, ty_tup hA, kit_tt, true, rfl, iteF ?_⟩
    refine ⟨.ref a, rfl, a, _, rfl, .inr hA, _, _, rfl, rfl, _, rfl, ?_⟩
    rw [decide_eq_true (show (1 : Int) ≤ (xs.length : Nat) by omega)]
    refine iteT ⟨_, _, rfl, rfl, _, rfl, ?_⟩
    rw [decide_eq_true (show ((xs.length : Nat) : Int) ≤ 6 by omega)]
    refine iteF ?_
    -- all are moves
    refine ⟨.ref a, rfl, a, rfl, ⟨_, hA⟩, fun D nD => ?_⟩
    refine lc_it walk_tup (fun i H' => Same H H' ∧ H' D = some (.lst ((List.replicate i true).map V.bl))) ⟨same_new nD, upd_same⟩ (fun i H' _ p => same_sqt p.1 hA) (fun i x H1 H2 hi p y => ?_) (fun H' p => ?_)
    · obtain ⟨rfl, hx⟩ := y
      obtain ⟨m, hm, b, rfl, hb⟩ := pr_at pd hx
      have om := ok.mv m (List.mem_of_getElem? hm)
      refine ⟨rfl, .int n, rfl, .ref b, rfl, n, b, m, rfl, same_sqt p.1 hb, ⟨by omega, om.2⟩, _, p.2, ?_, fun c z e => ?_, ?_⟩
      · rw [List.length_map, List.length_replicate]
        exact small1000 (by omega)
      · rw [upd_ne (ne_of_none e nD)]
        exact p.1 c z e
      · rw [upd_same, List.replicate_succ']
        simp
    · refine ⟨D, List.replicate xs.length true, rfl, .inl (.inl p.2), ?_⟩
      have e : (List.replicate xs.length true).all id = true := by simp
      rw [e]
      refine ⟨true, rfl, iteF ?_⟩
      -- no stamp in two
      obtain ⟨s1, _⟩ := p
      have hA1 := same_sqt s1 hA
      refine ⟨.ref a, rfl, a, rfl, ⟨_, hA1⟩, fun D2 nD2 => ?_⟩
      refine lc_it walk_tup (fun i H2 => Same H' H2 ∧ H2 D2 = some (.lst (iV (((sts d).take i).map fun k : Nat => (k : Int))))) ⟨same_new nD2, upd_same⟩ (fun i H2 _ p => same_sqt p.1 hA1) (fun i x H1 H2 hi p y => ?_) (fun H2 p => ?_)
      · obtain ⟨rfl, hx⟩ := y
        obtain ⟨m, hm, b, rfl, hb⟩ := pr_at pd hx
        refine ⟨rfl, .ref b, rfl, b, _, 0, .int (m.1 : Int), rfl, rfl, same_sqt p.1 (same_sqt s1 hb), rfl, _, p.2, ?_, fun c z e => ?_, ?_⟩
        · rw [iV_len, List.length_map, List.length_take]
          exact small1000 (by omega)
        · rw [upd_ne (ne_of_none e nD2)]
          exact p.1 c z e
        · have e1 : (sts d)[i]? = some m.1 := by
            unfold sts
            rw [List.getElem?_map, hm]
            rfl
          rw [upd_same, List.take_add_one, e1]
          simp
      · have ls : (sts d).length = d.length := by
          unfold sts
          rw [List.length_map]
        have et : (sts d).take xs.length = sts d := List.take_of_length_le (by omega)
        rw [et] at p
        refine ⟨D2, (sts d).map fun k : Nat => (k : Int), rfl, .inl (.inl p.2), ?_, ?_, .ref a, rfl, a, _, rfl, .inr (same_sqt p.1 hA1), rfl, ?_⟩
        · exact List.Pairwise.map _ (fun x y hne e => hne (Int.ofNat.inj e)) ok.nd
        · rw [List.length_map]
          omega
        · rw [List.length_map, ls, hl, decide_eq_true rfl]
          exact q H2 (s1.trans p.1)
end
end K45
end W2
section W3
namespace K45
open PySem PySem.Spec PyProof.Rows L2
theorem sc_done : FnScope ["owners", "deal", "stamp", "giver", "taker", "found"] ["owners", "deal"] (defScope sDone) := ⟨rfl, rfl, rfl, by decide +kernel, rfl, by decide +kernel, by decide +kernel⟩
theorem sc_all_done : FnScope ["owners", "deals", "deal"] ["owners", "deals"] (defScope sAllDone) := ⟨rfl, rfl, rfl, by decide +kernel, rfl, by decide +kernel, by decide +kernel⟩
theorem sc_need_deals : FnScope ["owners", "deals", "deal"] ["owners", "deals"] (defScope sNeedDeals) := ⟨rfl, rfl, rfl, by decide +kernel, rfl, by decide +kernel, by decide +kernel⟩
theorem sc_need_within : FnScope ["thing", "most"] ["thing", "most"] (defScope sNeedWithin) := ⟨rfl, rfl, rfl, by decide +kernel, rfl, by decide +kernel, by decide +kernel⟩
theorem sc_owners_behind : FnScope ["owners", "deals", "many"] ["owners", "deals", "many"] (defScope sOwnersBehind) := ⟨rfl, rfl, rfl, by decide +kernel, rfl, by decide +kernel, by decide +kernel⟩

/-! ### promises -/
def spDone (K : PySem.W.Frag) : Sp := fun vs H Q _ => ∃ (a b : Addr) (o : List Int) (xs : List V) (d : Deal), vs = [.ref a, .ref b] ∧ SqT K H a (iV o) ∧ SqT K H b xs ∧ Paired (MvAt K H) xs d ∧
  o.length ≤ 12 ∧ DealOk o.length d ∧ Can o d ∧ ∀ H' p, Same H H' → SqT K H' p (iV (step o d)) → Q (.ref p) H'
def spAllDone (K : PySem.W.Frag) : Sp := fun vs H Q _ => ∃ (a b : Addr) (o : List Int) (xs : List V) (ds : List Deal), vs = [.ref a, .ref b] ∧ SqT K H a (iV o) ∧ (SqL K H b xs ∨ SqT K H b xs) ∧ Paired (DealAt K H) xs ds ∧
  o.length ≤ 12 ∧ (∀ d ∈ ds, DealOk o.length d) ∧ Valid o ds ∧ ∀ H' p, Same H H' → SqT K H' p (iV (behind o ds)) → Q (.ref p) H'
def In2 (K : PySem.W.Frag) (H : Hp) (a b : Addr) (o : List Int) (ds : List Deal) : Prop := SqT K H a (iV o) ∧ DealsAt K H b ds ∧ Good o ds
theorem In2.stay {K : PySem.W.Frag} {H H' : Hp} {a b : Addr} {o : List Int} {ds : List Deal} (s : Tups K H H') (h : In2 K H a b o ds) : In2 K H' a b o ds := ⟨s _ _ h.1, h.2.1.stay s, h.2.2⟩
def spNeedDeals (K : PySem.W.Frag) : Sp := fun vs H Q _ => ∃ (a b : Addr) (o : List Int) (ds : List Deal), vs = [.ref a, .ref b] ∧ In2 K H a b o ds ∧ ∀ H', Same H H' → Q .non H'
def spNeedWithin : Sp := fun vs H Q _ => ∃ x m : Int, vs = [.int x, .int m] ∧ 0 ≤ x ∧ x ≤ m ∧ Q .non H
def spOwnersBehind (K : PySem.W.Frag) : Sp := fun vs H Q _ => ∃ (a b : Addr) (o : List Int) (ds : List Deal) (k : Nat), vs = [.ref a, .ref b, .int k] ∧ In2 K H a b o ds ∧ k ≤ ds.length ∧
  ∀ H' p, Same H H' → SqT K H' p (iV (behind o (ds.take k))) → Q (.ref p) H'

/-! ### places, cuts -/
theorem ixN_nat {n k : Nat} (h : k < n) : ixN n (k : Int) = some k := by
  unfold ixN
  rw [if_pos (Int.natCast_nonneg k), if_pos (by omega), Int.toNat_natCast]
theorem cut_take (xs : List V) (k : Nat) : cutV xs none (some (k : Int)) = xs.take k := by
  unfold cutV
  rw [HT.sIx_none, HT.sIx_nat, List.drop_zero, Nat.sub_zero]
  by_cases h : k ≤ xs.length
  · rw [Nat.min_eq_left h]
  · rw [Nat.min_eq_right (by omega), List.take_of_length_le (Nat.le_refl _), List.take_of_length_le (by omega)]
theorem cut_last (xs : List V) : cutV xs none (some (-1)) = xs.take (xs.length - 1) := by
  unfold cutV
  have e : HT.sIx xs.length xs.length (some (-1)) = xs.length - 1 := by
    show _ = _
    simp [HT.sIx]
    omega
  rw [HT.sIx_none, e, List.drop_zero, Nat.sub_zero]
theorem cut_rest (xs : List V) : cutV xs (some 1) none = xs.drop 1 := by
  unfold cutV
  rw [show HT.sIx xs.length 0 (some 1) = min 1 xs.length from HT.sIx_nat xs.length 0 1, HT.sIx_none]
  cases xs with
  | nil => rfl
  | cons x r =>
    have e1 : min 1 (x :: r).length = 1 := by
      rw [List.length_cons]
      omega
    rw [e1, List.take_of_length_le]
    rw [List.length_drop]
    omega
/-- a tuple cut: the answer is that cut, wherever it stands -/
theorem cut_tup {K : PySem.W.Frag} {H : Hp} {a : Addr} {xs : List V} {lo hi : Option Int} {Q : VK} (h : SqT K H a xs) (q : ∀ H' p, Same H H' → SqT K H' p (cutV xs lo hi) → Q (.ref p) H') : rSlA K (.ref a) lo hi H Q := by
  refine ⟨a, xs, rfl, h, fun e => q H a (Same.refl H) ?_, fun _ p np => q _ p (same_new np) (.inl (.inl upd_same))⟩
  have ec : cutV xs lo hi = xs := by
    unfold cutV
    rw [e.1, e.2, List.drop_zero, Nat.sub_zero, List.take_length]
  rw [ec]
  exact h
def rLenS (K : PySem.W.Frag) : List V → Hp → VK → Prop := fun xs H Q => ∃ p ys, xs = [.ref p] ∧ (SqL K H p ys ∨ SqT K H p ys) ∧ Q (.int ys.length) H
theorem call_lenK {X : Cx} {K : PySem.W.Frag} (hK : X.K = K) : CallR X (.builtin "len") (rLenS K) := by
  subst hK
  exact call_len_seq

/-- the turns of all_done -/
def AdP (K : PySem.W.Frag) (H : Hp) (b : Addr) (o : List Int) (ds : List Deal) (i : Nat) (σ : L2.St) (H1 : Hp) : Prop :=
  ∃ (p : Addr) (y : Option V), σ = [some (V.ref p), some (V.ref b), y] ∧ Same H H1 ∧ SqT K H1 p (iV (behind o (ds.take i)))
section
variable {P : Program} {w : World} {K : PySem.W.Frag} {mg : Str → Option Value} {base : Heap} {f : Addr} {fd : FuncData}
theorem ok_done (T : Txt mg) (F : Fun K "done" "done" sDone f fd) : FnOk P w K mg base CX0 1 f fd ["owners", "deal"] (spDone K) := by
  refine F.ok sc_done (fun vs H Q E h => ?_) (fun cdv A outer s H vs Q E hr h => ?_)
  · obtain ⟨a, b, o, xs, d, rfl, _⟩ := h
    rfl
  · obtain ⟨a, b, o, xs, d, rfl, hA, hB, pd, ho, ok, can, q⟩ := h
    have hl : xs.length = d.length := pr_len pd
    have l2 := ok.le
    refine ⟨_, pss_cons (ps_if (pt_not (pt_val (pe_callB (cr_all rfl) (by rfl) T.all (by decide +kernel) (pa_cons (pe_lc (own := [("stamp", 2), ("giver", 3), ("taker", 4)]) (g := gTup K 3 (gCons (gName 2) (gCons (gName 3) (gCons (gName 4) gNil)))) (tt := tYes) rfl sc_done.nd (pi_tup (pv 1))
          (blkOk_by (N := ["owners", "deal", "stamp", "giver", "taker", "found"]) (sc := defScope sDone) (by decide +kernel))
          (fun _ _ _ _ _ => pg_tup rfl (pgs_cons (pg_name (i := 2) sc_done.nd rfl (Or.inl rfl)) (pgs_cons (pg_name (i := 3) sc_done.nd rfl (Or.inl rfl)) (pgs_cons (pg_name (i := 4) sc_done.nd rfl (Or.inl rfl)) pgs_nil)))) (fun _ _ _ _ _ => pts_nil)
          (fun _ _ _ _ _ => pe_cmpR op_eq (pe_ix (r := rIxT K) ix_tup (pv 0) (pv 2) (fun _ _ => rfl)) (pv 3) (nomark _))) pa_nil))))
        (pss_one (ps_ret pe_non)) pss_nil)
      (pss_cons (ps_set (i := 5) sc_done.nd rfl (.inl rfl) (pe_callTy call_list_of (by rfl) T.list boot_list (pa_cons (pv 0) pa_nil)))
      (pss_cons (ps_for PassesOwn.never rfl (pi_tup (pv 1)) (pg_tup rfl (pgs_cons (pg_name (i := 2) sc_done.nd rfl (Or.inl rfl)) (pgs_cons (pg_name (i := 3) sc_done.nd rfl (Or.inl rfl)) (pgs_cons (pg_name (i := 4) sc_done.nd rfl (Or.inl rfl)) pgs_nil))))
        (pss_one (ps_asg (pv 4) (pg_sub (pv 5) (pv 2) set_list))))
      (pss_one (ps_ret (pe_callTy call_tuple_of (by rfl) T.tuple boot_tuple (pa_cons (pv 5) pa_nil)))))), ?_⟩
    refine ⟨.ref b, rfl, b, rfl, ⟨_, hB⟩, fun D nD => ?_⟩
    refine lc_it walk_tup (fun i H' => Same H H' ∧ H' D = some (.lst ((List.replicate i true).map V.bl))) ⟨same_new nD, upd_same⟩ (fun i H' _ p => same_sqt p.1 hB) (fun i x H1 H2 hi p y => ?_) (fun H' p => ?_)
    · obtain ⟨rfl, hx⟩ := y
      obtain ⟨m, hm, c, rfl, hc⟩ := pr_at pd hx
      have cm := can m (List.mem_of_getElem? hm)
      refine ⟨c, _, rfl, same_sqt p.1 hc, rfl, _, _, rfl, _, _, rfl, _, _, rfl, rfl, rfl, ?_⟩
      refine ⟨.ref a, rfl, .int (m.1 : Int), rfl, a, _, _, .int m.2.1, rfl, rfl, same_sqt p.1 hA, atI_nat (iV_get cm), .int m.2.1, rfl, rfl, _, p.2, ?_, fun z o' e => ?_, ?_⟩
      · rw [List.length_map, List.length_replicate]
        exact small1000 (by omega)
      · rw [upd_ne (ne_of_none e nD)]
        exact p.1 z o' e
      · rw [upd_same, decide_eq_true rfl, List.replicate_succ']
        simp
    · obtain ⟨s1, hD⟩ := p
      refine ⟨D, List.replicate xs.length true, rfl, .inl (.inl hD), ?_⟩
      have e : (List.replicate xs.length true).all id = true := by simp
      rw [e]
      refine ⟨true, rfl, iteF ?_⟩
      refine ⟨.ref a, rfl, a, _, rfl, .inr (same_sqt s1 hA), fun l nl => ?_⟩
      have nl0 : H l = none := s1.free nl
      have s2 : Same H (upd H' l (.lst (iV o))) := s1.trans (same_new nl)
      refine ⟨.ref b, rfl, b, rfl, ⟨_, same_sqt s2 hB⟩, ?_⟩
      refine for_it walk_tup (fun i σ H2 => (∃ y2 y3 y4, σ = [some (.ref a), some (.ref b), y2, y3, y4, some (.ref l)]) ∧ Same H H2 ∧ H2 l = some (.lst (iV (step o (d.take i))))) ⟨⟨_, _, _, rfl⟩, s2, upd_same⟩
        (fun i σ H2 _ p => same_sqt p.2.1 hB) (fun i x σ H1 H2 hi p y => ?_) (fun σ H2 p => ?_)
      · obtain ⟨rfl, hx⟩ := y
        obtain ⟨⟨y2, y3, y4, rfl⟩, s3, hL⟩ := p
        obtain ⟨m, hm, c, rfl, hc⟩ := pr_at pd hx
        have om := ok.mv m (List.mem_of_getElem? hm)
        refine ⟨c, _, rfl, same_sqt s3 hc, rfl, _, _, rfl, _, _, rfl, _, _, rfl, rfl, ?_⟩
        refine ⟨.int m.2.2, rfl, .ref l, rfl, .int (m.1 : Int), rfl, l, _, _, m.1, rfl, rfl, hL, ixN_nat ?_, ⟨_, _, _, rfl⟩, fun z o' e => ?_, ?_⟩
        · rw [iV_len, step_length]
          exact om.1
        · have nz : z ≠ l := ne_of_none e nl0
          rw [upd_ne nz]
          exact s3 z o' e
        · rw [upd_same, List.take_add_one, hm]
          show some (HO.lst _) = some (HO.lst (iV (step o (d.take i ++ [m]))))
          rw [step_snoc, ← List.map_set]
      · obtain ⟨⟨y2, y3, y4, rfl⟩, s3, hL⟩ := p
        rw [hl, List.take_length] at hL
        exact ⟨.ref l, rfl, l, _, rfl, .inl ⟨.inl (.inl hL), fun p np => q _ p (s3.trans (same_new np)) (.inl (.inl upd_same))⟩⟩

theorem ok_all_done {g : Addr} {gd : FuncData} (F : Fun K "all_done" "all_done" sAllDone f fd) (C : Cal P w K mg base 1 "done" ["owners", "deal"] (spDone K) g gd) :
    FnOk P w K mg base CX0 2 f fd ["owners", "deals"] (spAllDone K) := by
  refine F.ok sc_all_done (fun vs H Q E h => ?_) (fun cdv A outer s H vs Q E hr h => ?_)
  · obtain ⟨a, b, o, xs, ds, rfl, _⟩ := h
    rfl
  · obtain ⟨a, b, o, xs, ds, rfl, hA, hB, pd, ho, ok, can, q⟩ := h
    have hl : xs.length = ds.length := pr_len pd
    refine ⟨_, pss_cons (ps_for PassesOwn.never rfl (pi_or (pi_list (pv 1)) (pi_tup (pv 1))) (pg_name (i := 2) sc_all_done.nd rfl (.inl rfl))
        (pss_cons (ps_set (i := 0) sc_all_done.nd rfl (.inl rfl) (pe_cal C hr (by decide) (by rfl) (pa_cons (pv 0) (pa_cons (pv 2) pa_nil))))
          (pss_one (ps_if (pt_cmp (pc_isN (pv 0)) rfl) (pss_one (ps_ret pe_non)) pss_nil))))
      (pss_one (ps_ret (pv 0))), ?_⟩
    have turn : ∀ i x σ H1, i < xs.length → AdP K H b o ds i σ H1 → xs[i]? = some x →
        ∃ (e : Addr) (z : Deal), x = .ref e ∧ ds[i]? = some z ∧ ∃ ys, SqT K H1 e ys ∧ Paired (MvAt K H1) ys z ∧ DealOk o.length z ∧ Can (behind o (ds.take i)) z := fun i x σ H1 hi p hx => by
      obtain ⟨p, y, _, s1, hP⟩ := p
      obtain ⟨d, hd, e, ys, rfl, he, pm⟩ := pr_at pd hx
      exact ⟨e, d, rfl, hd, ys, same_sqt s1 he, Paired.mapP pm fun _ _ => MvAt.stay (same_tups s1), ok d (List.mem_of_getElem? hd), valid_at can hd⟩
    have fin : ∀ σ H2, AdP K H b o ds xs.length σ H2 → tRet (tVar 0) { nx := fun _ H' => Q V.non H', rt := Q } σ H2 := fun σ H2 p => by
      obtain ⟨p, y, rfl, s1, hP⟩ := p
      rw [hl, List.take_length] at hP
      exact ⟨.ref p, rfl, q H2 p s1 hP⟩
    rcases hB with hB | hB
    · refine .inl ⟨.ref b, rfl, b, rfl, ⟨_, hB⟩, ?_⟩
      refine for_it walk_list (AdP K H b o ds) ⟨a, none, rfl, Same.refl H, hA⟩ (fun i σ H1 _ p => let ⟨_, _, _, s, _⟩ := p; s.seq hB) (fun i x σ H1 H2 hi p y => ?_) fin
      obtain ⟨rfl, hx⟩ := y
      obtain ⟨e, d, rfl, hd, ys, he, pm, okd, cd⟩ := turn i x σ H2 hi p hx
      obtain ⟨p, y, rfl, s1, hP⟩ := p
      refine ⟨.ref p, rfl, .ref e, rfl, p, e, _, ys, d, rfl, hP, he, pm, by rw [behind_length]; exact ho, by rw [behind_length]; exact okd, cd, fun H3 p3 s3 hP3 => ?_⟩
      refine ⟨.ref p3, rfl, false, by rw [decide_eq_false (fun z => nomatch z)], iteF ⟨p3, _, rfl, s1.trans s3, ?_⟩⟩
      rw [List.take_add_one, hd]
      show SqT K H3 p3 (iV (behind o (ds.take i ++ [d])))
      rw [behind_snoc]
      exact hP3
    · refine .inr ⟨.ref b, rfl, b, rfl, ⟨_, hB⟩, ?_⟩
      refine for_it walk_tup (AdP K H b o ds) ⟨a, none, rfl, Same.refl H, hA⟩ (fun i σ H1 _ p => let ⟨_, _, _, s, _⟩ := p; same_sqt s hB) (fun i x σ H1 H2 hi p y => ?_) fin
      obtain ⟨rfl, hx⟩ := y
      obtain ⟨e, d, rfl, hd, ys, he, pm, okd, cd⟩ := turn i x σ H2 hi p hx
      obtain ⟨p, y, rfl, s1, hP⟩ := p
      refine ⟨.ref p, rfl, .ref e, rfl, p, e, _, ys, d, rfl, hP, he, pm, by rw [behind_length]; exact ho, by rw [behind_length]; exact okd, cd, fun H3 p3 s3 hP3 => ?_⟩
      refine ⟨.ref p3, rfl, false, by rw [decide_eq_false (fun z => nomatch z)], iteF ⟨p3, _, rfl, s1.trans s3, ?_⟩⟩
      rw [List.take_add_one, hd]
      show SqT K H3 p3 (iV (behind o (ds.take i ++ [d])))
      rw [behind_snoc]
      exact hP3
end
end K45
end W3
section W4
namespace K45
open PySem PySem.Spec PyProof.Rows L2
section
variable {P : Program} {w : World} {K : PySem.W.Frag} {mg : Str → Option Value} {base : Heap} {f : Addr} {fd : FuncData}
theorem ok_need_deals {g1 g2 g3 : Addr} {d1 d2 d3 : FuncData} (T : Txt mg) (F : Fun K "need_deals" "need_deals" sNeedDeals f fd)
    (C1 : Cal P w K mg base 3 "are_owners" ["thing"] (spAreOwners K) g1 d1) (C2 : Cal P w K mg base 4 "is_deal" ["many", "thing"] (spIsDeal K) g2 d2) (C3 : Cal P w K mg base 2 "all_done" ["owners", "deals"] (spAllDone K) g3 d3) :
    FnOk P w K mg base CX0 5 f fd ["owners", "deals"] (spNeedDeals K) := by
  refine F.ok sc_need_deals (fun vs H Q E h => ?_) (fun cdv A outer s H vs Q E hr h => ?_)
  · obtain ⟨a, b, o, ds, rfl, _⟩ := h
    rfl
  · obtain ⟨a, b, o, ds, rfl, ⟨hA, ⟨xs, hB, pd⟩, G⟩, q⟩ := h
    have hl : xs.length = ds.length := pr_len pd
    have l2 := G.len
    have l3 := G.own.le
    obtain ⟨t2, md⟩ := T.deals
    refine ⟨_, pss_cons (ps_if (pt_not (pt_val (pe_cal C1 hr (by decide) (by rfl) (pa_cons (pv 0) pa_nil)))) pss_never pss_nil)
      (pss_cons (ps_if (PW.pt (pw_or (pt_not (pt_val (pe_isi (pv 1) (by rfl) T.isi (by decide +kernel) (by rfl) T.tuple boot_tuple)))
          (pw_or1 (pt_cmpR op_gt (pe_callB call_len_seq (by rfl) T.len PySem.boot_len (pa_cons (pv 1) pa_nil)) (pe_glob (v := .int 10) (by rfl) md ⟨_, rfl⟩) (nomark _))))) pss_never pss_nil)
      (pss_one (ps_if (PW.pt (pw_or (pt_not (pt_val (pe_callB (cr_all rfl) (by rfl) T.all (by decide +kernel) (pa_cons (pe_lc (own := [("deal", 2)]) (g := gName 2) (tt := tYes) rfl sc_need_deals.nd (pi_tup (pv 1))
          (blkOk_by (N := ["owners", "deals", "deal"]) (sc := defScope sNeedDeals) (by decide +kernel)) (fun _ _ _ _ _ => pg_name (i := 2) sc_need_deals.nd rfl (Or.inl rfl)) (fun _ _ _ _ _ => pts_nil)
          (fun _ _ _ _ _ => pe_cal C2 hr (by decide) (by rfl) (pa_cons (pe_callB (r := rLenS K) (call_lenK rfl) (by rfl) T.len PySem.boot_len (pa_cons (pv 0) pa_nil)) (pa_cons (pv 2) pa_nil)))) pa_nil))))
          (pw_or1 (pt_cmp (pc_isN (pe_cal C3 hr (by decide) (by rfl) (pa_cons (pv 0) (pa_cons (pv 1) pa_nil)))) rfl)))) pss_never pss_nil))), ?_⟩
    refine ⟨.ref a, rfl, a, o, rfl, hA, G.own, fun H1 s1 => ⟨true, rfl, iteF ?_⟩⟩
    have hB1 := same_sqt s1 hB
    refine ⟨.ref b, rfl, .ref b, .ty "tuple", _, _, true, rfl, .ty _, ty_tup hB1, kit_tt, true, rfl, iteF ?_⟩
    refine ⟨.ref b, rfl, b, _, rfl, .inr hB1, _, _, rfl, rfl, _, rfl, ?_⟩
    rw [decide_eq_false (show ¬ ((10 : Int) < (xs.length : Nat)) by omega)]
    refine iteF ?_
    refine ⟨.ref b, rfl, b, rfl, ⟨_, hB1⟩, fun D nD => ?_⟩
    refine lc_it walk_tup (fun i H' => Same H1 H' ∧ H' D = some (.lst ((List.replicate i true).map V.bl))) ⟨same_new nD, upd_same⟩ (fun i H' _ p => same_sqt p.1 hB1) (fun i x H2 H3 hi p y => ?_) (fun H' p => ?_)
    · obtain ⟨rfl, hx⟩ := y
      obtain ⟨d, hd, c, ys, rfl, hc, pm⟩ := pr_at pd hx
      have s3 := s1.trans p.1
      refine ⟨rfl, .ref a, rfl, a, _, rfl, .inr (same_sqt s3 hA), .ref c, rfl, o.length, c, ys, d, by rw [iV_len] <;> rfl, same_sqt s3 hc, Paired.mapP pm fun _ _ => MvAt.stay (same_tups s3), G.ok d (List.mem_of_getElem? hd), fun H4 s4 => ?_⟩
      have hD4 := s4 _ _ p.2
      refine ⟨_, hD4, ?_, fun z o' e => ?_, ?_⟩
      · rw [List.length_map, List.length_replicate]
        exact small1000 (by omega)
      · rw [upd_ne (ne_of_none e nD)]
        exact s4 _ _ (p.1 z o' e)
      · rw [upd_same, List.replicate_succ']
        simp
    · obtain ⟨s2, hD⟩ := p
      have s3 := s1.trans s2
      refine ⟨D, List.replicate xs.length true, rfl, .inl (.inl hD), ?_⟩
      have e : (List.replicate xs.length true).all id = true := by simp
      rw [e]
      refine ⟨true, rfl, iteF ?_⟩
      refine ⟨.ref a, rfl, .ref b, rfl, a, b, o, xs, ds, rfl, same_sqt s3 hA, .inr (same_sqt s3 hB), Paired.mapP pd fun _ _ => DealAt.stay (same_tups s3), G.own.le, G.ok, G.can, fun H4 p s4 _ => ?_⟩
      refine ⟨false, by rw [decide_eq_false (fun z => nomatch z)], iteF ?_⟩
      exact q H4 (s3.trans s4)

theorem ok_need_within {g : Addr} {gd : FuncData} (F : Fun K "need_within" "need_within" sNeedWithin f fd) (C : Cal P w K mg base 2 "is_from" ["thing", "low", "high"] spIsFrom g gd) :
    FnOk P w K mg base CX0 3 f fd ["thing", "most"] spNeedWithin := by
  refine F.ok sc_need_within (fun vs H Q E h => ?_) (fun cdv A outer s H vs Q E hr h => ?_)
  · obtain ⟨x, m, rfl, _⟩ := h
    rfl
  · obtain ⟨x, m, rfl, h1, h2, q⟩ := h
    refine ⟨_, pss_one (ps_if (pt_not (pt_val (pe_cal C hr (by decide) (by rfl) (pa_cons (pv 0) (pa_cons pe_int (pa_cons (pv 1) pa_nil)))))) pss_never pss_nil), ?_⟩
    refine ⟨.int x, rfl, .int m, rfl, x, 0, m, rfl, _, rfl, ?_⟩
    rw [decide_eq_true (show (0 : Int) ≤ x ∧ x ≤ m from ⟨h1, h2⟩)]
    exact iteF q

theorem ok_owners_behind {g1 g2 g3 : Addr} {d1 d2 d3 : FuncData} (T : Txt mg) (F : Fun K "owners_behind" "owners_behind" sOwnersBehind f fd)
    (C1 : Cal P w K mg base 5 "need_deals" ["owners", "deals"] (spNeedDeals K) g1 d1) (C2 : Cal P w K mg base 3 "need_within" ["thing", "most"] spNeedWithin g2 d2) (C3 : Cal P w K mg base 2 "all_done" ["owners", "deals"] (spAllDone K) g3 d3) :
    FnOk P w K mg base CX0 6 f fd ["owners", "deals", "many"] (spOwnersBehind K) := by
  refine F.ok sc_owners_behind (fun vs H Q E h => ?_) (fun cdv A outer s H vs Q E hr h => ?_)
  · obtain ⟨a, b, o, ds, k, rfl, _⟩ := h
    rfl
  · obtain ⟨a, b, o, ds, k, rfl, I2, hk, q⟩ := h
    refine ⟨_, pss_cons (ps_expr (pe_cal C1 hr (by decide) (by rfl) (pa_cons (pv 0) (pa_cons (pv 1) pa_nil))))
      (pss_cons (ps_expr (pe_cal C2 hr (by decide) (by rfl) (pa_cons (pv 2) (pa_cons (pe_callB call_len_seq (by rfl) T.len PySem.boot_len (pa_cons (pv 1) pa_nil)) pa_nil))))
      (pss_one (ps_ret (pe_cal C3 hr (by decide) (by rfl) (pa_cons (pv 0) (pa_cons (pe_slice sl_tupA (pv 1) po_none (po_some (pv 2))) pa_nil)))))), ?_⟩
    refine ⟨.ref a, rfl, .ref b, rfl, a, b, o, ds, rfl, I2, fun H1 s1 => ?_⟩
    obtain ⟨hA, ⟨xs, hB, pd⟩, G⟩ := I2.stay (same_tups s1)
    have hl : xs.length = ds.length := pr_len pd
    refine ⟨.int k, rfl, .ref b, rfl, b, xs, rfl, .inr hB, k, _, rfl, by omega, by omega, ?_⟩
    refine ⟨.ref a, rfl, .ref b, rfl, .int k, rfl, k, rfl, cut_tup hB fun H2 p s2 hP => ?_⟩
    rw [cut_take] at hP
    refine ⟨a, p, o, _, ds.take k, rfl, same_sqt s2 hA, .inr hP, Paired.mapP (pr_take k pd) fun _ _ => DealAt.stay (same_tups s2), G.own.le, (G.take k).ok, (G.take k).can, fun H3 p3 s3 h3 => ?_⟩
    exact q H3 p3 (s1.trans (s2.trans s3)) h3
end
end K45
end W4
section W5
namespace K45
open PySem PySem.Spec PyProof.Rows L2
theorem sc_leans : FnScope ["deals", "found", "last", "place", "deal", "stamps", "stamp", "move"] ["deals"] (defScope sLeans) := ⟨rfl, rfl, rfl, by decide +kernel, rfl, by decide +kernel, by decide +kernel⟩
/-- x is the row of the deal j: the stamps that it moves, the deals that it leans on (lists other than l, new since H0) -/
def RowAt (H0 H : Hp) (l : Addr) (ds : List Deal) (j : Nat) (x : V) : Prop := ∃ (t l1 l2 : Addr) (ah : List Nat), x = .ref t ∧ H t = some (.tup [.ref l1, .ref l2]) ∧ (l1 ≠ l ∧ H0 l1 = none) ∧ (l2 ≠ l ∧ H0 l2 = none) ∧
  (∀ d, ds[j]? = some d → H l1 = some (.lst (nV (sts d)))) ∧ H l2 = some (.lst (nV ah)) ∧ ah.length ≤ 6 ∧ ∀ q, q ∈ ah ↔ Leans ds q j
theorem RowAt.same {H0 H H' : Hp} {l : Addr} {ds : List Deal} {j : Nat} {x : V} (s : Same H H') (h : RowAt H0 H l ds j x) : RowAt H0 H' l ds j x := by
  obtain ⟨t, l1, l2, ah, e, h1, h2, h3, h4, h5, h6, h7⟩ := h
  exact ⟨t, l1, l2, ah, e, s _ _ h1, h2, h3, fun d hd => s _ _ (h4 d hd), s _ _ h5, h6, h7⟩
theorem RowAt.but {H0 H H' : Hp} {l c : Addr} {ds : List Deal} {j : Nat} {x : V} (hj : j < ds.length) (s : But c H H') (hc : c = l ∨ ∃ kvs, H c = some (.dK kvs)) (hl : ∃ xs, H l = some (.lst xs)) (h : RowAt H0 H l ds j x) : RowAt H0 H' l ds j x := by
  obtain ⟨t, l1, l2, ah, e, h1, h2, h3, h4, h5, h6, h7⟩ := h
  obtain ⟨xs, hl⟩ := hl
  have h4' := h4 _ (List.getElem?_eq_getElem hj)
  have nt : t ≠ c := by
    rcases hc with rfl | ⟨kvs, hc⟩
    · exact ne_of h1 hl (fun z => nomatch z)
    · exact ne_of h1 hc (fun z => nomatch z)
  have n1 : l1 ≠ c := by
    rcases hc with rfl | ⟨kvs, hc⟩
    · exact h2.1
    · exact ne_of h4' hc (fun z => nomatch z)
  have n2 : l2 ≠ c := by
    rcases hc with rfl | ⟨kvs, hc⟩
    · exact h3.1
    · exact ne_of h5 hc (fun z => nomatch z)
  exact ⟨t, l1, l2, ah, e, s _ _ nt h1, h2, h3, fun d hd => s _ _ n1 (h4 d hd), s _ _ n2 h5, h6, h7⟩
/-- what leans tells -/
def RowsAt (H0 H : Hp) (p : Addr) (ds : List Deal) : Prop := ∃ xs, H p = some (.lst xs) ∧ xs.length = ds.length ∧ ∀ j x, xs[j]? = some x → RowAt H0 H p ds j x
def spLeans (K : PySem.W.Frag) : Sp := fun vs H Q _ => ∃ (b : Addr) (ds : List Deal), vs = [.ref b] ∧ DealsAt K H b ds ∧ ds.length ≤ 10 ∧ (∀ d ∈ ds, d.length ≤ 6) ∧ ∀ H' p, Same H H' → H p = none → RowsAt H H' p ds → Q (.ref p) H'

theorem sorted_nats {acc : List Nat} {ns : List Int} (h : ∀ k : Int, k ∈ ns ↔ decide (k ∈ acc.map fun q : Nat => (q : Int)) = true) : ∃ ah : List Nat, iV ns = nV ah ∧ ah.length = ns.length ∧ ∀ q, q ∈ ah ↔ q ∈ acc := by
  have hn : ∀ k ∈ ns, ∃ q : Nat, q ∈ acc ∧ (q : Int) = k := fun k hk => by
    have := of_decide_eq_true ((h k).mp hk)
    obtain ⟨q, hq, e⟩ := List.mem_map.mp this
    exact ⟨q, hq, e⟩
  refine ⟨ns.map Int.toNat, ?_, List.length_map .., fun q => ?_⟩
  · show ns.map V.int = (ns.map Int.toNat).map _
    rw [List.map_map]
    refine List.map_congr_left fun k hk => ?_
    obtain ⟨q, _, rfl⟩ := hn k hk
    rfl
  · rw [List.mem_map]
    constructor
    · rintro ⟨k, hk, rfl⟩
      obtain ⟨q, hq, rfl⟩ := hn k hk
      exact hq
    · intro hq
      exact ⟨(q : Int), (h _).mpr (decide_eq_true (List.mem_map.mpr ⟨q, hq, rfl⟩)), rfl⟩

/-- the dict of the last deals -/
def LastAt (ds : List Deal) (i : Nat) (kvs : List (L2.Key × V)) : Prop := ∀ s : Nat, valV kvs (Sum.inl (s : Int)) = (lastOf ds i s).map fun q : Nat => V.int (q : Int)
/-- the turns of leans -/
def LnP (K : PySem.W.Frag) (H : Hp) (b l dd : Addr) (ds : List Deal) (i : Nat) (σ : L2.St) (H1 : Hp) : Prop :=
  ∃ (y3 y4 y5 y6 y7 : Option V) (xs : List V) (kvs : List (L2.Key × V)), σ = [some (V.ref b), some (V.ref l), some (V.ref dd), y3, y4, y5, y6, y7] ∧ Same H H1 ∧ H1 l = some (.lst xs) ∧ H1 dd = some (.dK kvs) ∧
    xs.length = i ∧ kvs.length ≤ 6 * i ∧ LastAt ds i kvs ∧ ∀ j x, xs[j]? = some x → RowAt H H1 l ds j x
section
variable {P : Program} {w : World} {K : PySem.W.Frag} {mg : Str → Option Value} {base : Heap} {f : Addr} {fd : FuncData}
theorem ok_leans (T : Txt mg) (F : Fun K "leans" "leans" sLeans f fd) : FnOk P w K mg base CX0 1 f fd ["deals"] (spLeans K) := by
  refine F.ok sc_leans (fun vs H Q E h => ?_) (fun cdv A outer s H vs Q E hr h => ?_)
  · obtain ⟨b, ds, rfl, _⟩ := h
    rfl
  · obtain ⟨b, ds, rfl, ⟨ws, hB, pd⟩, hlen, hsix, q⟩ := h
    have hl : ws.length = ds.length := pr_len pd
    have hu := hu_of hr
    refine ⟨_, pss_cons (ps_asg (pe_tup (pa_cons (pe_lst pa_nil) (pa_cons pe_dnewK pa_nil))) (pg_tup rfl (pgs_cons (pg_name (i := 1) sc_leans.nd rfl (.inl rfl)) (pgs_cons (pg_name (i := 2) sc_leans.nd rfl (.inr rfl)) pgs_nil))))
      (pss_cons (ps_for PassesOwn.never rfl (pi_enumT (by rfl) T.enum (pa_cons (pv 0) pa_nil)) (pg_tup rfl (pgs_cons (pg_name (i := 3) sc_leans.nd rfl (.inl rfl)) (pgs_cons (pg_name (i := 4) sc_leans.nd rfl (.inl rfl)) pgs_nil)))
        (pss_cons (ps_setLc (i := 5) (own := [("move", 7)]) (g := gName 7) (tt := tYes) (by rfl) sc_leans.nd rfl rfl (sw_true rfl rfl rfl (by decide +kernel)) (pi_tup (pv 4))
            (blkOk_by (N := ["deals", "found", "last", "place", "deal", "stamps", "stamp", "move"]) (sc := defScope sLeans) (by decide +kernel)) (fun _ _ _ _ _ => pg_name (i := 7) sc_leans.nd rfl (Or.inl rfl)) (fun _ _ _ _ _ => pts_nil)
            (fun _ _ _ _ _ => pe_ix (r := rIxT K) ix_tup (pv 7) pe_int (fun _ _ => rfl)))
        (pss_cons (ps_expr (pe_bm PySem.F.plainAttrs_list PySem.F.slot_list_append PySem.F.type_list_append mt_append (pv 1) (pa_cons (pe_tup (pa_cons (pv 5) (pa_cons
            (pe_callB (r := rSortedSet w) (cr_sortedSet rfl) (by rfl) T.sorted boot_sorted (pa_cons (pe_callTy (r := rSetOf K w) (cr_setOf rfl) (by rfl) T.set boot_set (pa_cons
              (pe_lc (own := [("stamp", 6)]) (g := gName 6) (by rfl) sc_leans.nd (pi_list (pv 5))
                (blkOk_by (N := ["deals", "found", "last", "place", "deal", "stamps", "stamp", "move"]) (sc := defScope sLeans) (by decide +kernel)) (fun _ _ _ _ _ => pg_name (i := 6) sc_leans.nd rfl (Or.inl rfl))
                (fun _ _ _ _ _ => pts_one (pt_cmp (pc_din hu (pv 6) (pv 2)) rfl)) (fun _ _ _ _ _ => pe_dget hu (pv 2) (pv 6) (fun _ _ => rfl))) pa_nil)) pa_nil)) pa_nil))) pa_nil)))
        (pss_one (ps_for PassesOwn.never rfl (pi_list (pv 5)) (pg_name (i := 6) sc_leans.nd rfl (.inl rfl)) (pss_one (ps_dput hu (pv 2) (pv 6) (pv 3) rfl)))))))
      (pss_one (ps_ret (pv 1)))), ?_⟩
    -- found, last = ([], {})
    refine ⟨Nat.zero_le _, fun l nl dd ndd => ⟨by show 2 ≤ sizeLine; decide, fun t0 nt0 => ?_⟩⟩
    have s1 : Same H (upd H l (.lst [])) := same_new nl
    have s2 := s1.trans (same_new (o := .dK []) ndd)
    have s3 := s2.trans (same_new (o := .tup [.ref l, .ref dd]) nt0)
    have ndd0 : H dd = none := s1.free ndd
    have nld : l ≠ dd := ne_of_none upd_same ndd
    have hl0 : (upd (upd (upd H l (.lst [])) dd (.dK [])) t0 (.tup [.ref l, .ref dd])) l = some (.lst []) := same_new nt0 _ _ (same_new ndd _ _ upd_same)
    have hd0 : (upd (upd (upd H l (.lst [])) dd (.dK [])) t0 (.tup [.ref l, .ref dd])) dd = some (.dK []) := same_new nt0 _ _ upd_same
    refine ⟨t0, _, rfl, .inl (.inl upd_same), rfl, .ref l, _, rfl, .ref dd, _, rfl, rfl, ?_⟩
    refine ⟨.ref b, rfl, b, _, rfl, same_sqt s3 hB, ?_⟩
    refine for_it walk_enumT (LnP K H b l dd ds) ⟨none, none, none, none, none, [], [], rfl, s3, hl0, hd0, rfl, Nat.le_refl _, fun s => rfl, fun j x e => by simp at e⟩
      (fun i σ H1 _ p => let ⟨_, _, _, _, _, _, _, _, s, _⟩ := p; same_sqt s hB) (fun i x σ H1 H2 hi p y => ?_) (fun σ H1 p => ?_)
    · obtain ⟨T0, x1, x2, rfl, nT, rfl, hx1, hx2⟩ := y
      obtain rfl : x1 = .int (i : Nat) := (Option.some.inj hx1).symm
      obtain ⟨y3, y4, y5, y6, y7, xs, kvs, rfl, s4, hL, hD, hxl, hkl, hla, rows⟩ := p
      obtain ⟨d, hd, c, ys, rfl, hc, pm⟩ := pr_at pd hx2
      have hd6 := hsix d (List.mem_of_getElem? hd)
      have lys : ys.length = d.length := pr_len pm
      have hsd : (sts d).length = d.length := by unfold sts; rw [List.length_map]
      have sT : Same H1 (upd H1 T0 (.tup [.int (i : Nat), .ref c])) := same_new nT
      have hcT := same_sqt (s4.trans sT) hc
      refine ⟨T0, _, rfl, .inl (.inl upd_same), rfl, .int (i : Nat), _, rfl, .ref c, _, rfl, rfl, ?_⟩
      -- stamps
      refine ⟨.ref c, rfl, c, rfl, ⟨_, hcT⟩, fun D1 nD1 => ?_⟩
      refine lc_it walk_tup (fun k H2 => Same (upd H1 T0 (.tup [.int (i : Nat), .ref c])) H2 ∧ H2 D1 = some (.lst (nV ((sts d).take k)))) ⟨same_new nD1, upd_same⟩ (fun k H2 _ p => same_sqt p.1 hcT) (fun k x H2 H3 hk p y => ?_) (fun H2 p => ?_)
      · obtain ⟨rfl, hx⟩ := y
        obtain ⟨m, hm, e, rfl, he⟩ := pr_at pm hx
        refine ⟨rfl, .ref e, rfl, e, _, 0, .int (m.1 : Int), rfl, rfl, same_sqt (s4.trans (sT.trans p.1)) he, rfl, _, p.2, ?_, fun z o e => ?_, ?_⟩
        · rw [nV_len, List.length_take]
          exact small1000 (by omega)
        · rw [upd_ne (ne_of_none e nD1)]
          exact p.1 z o e
        · have e1 : (sts d)[k]? = some m.1 := by
            unfold sts
            rw [List.getElem?_map, hm]
            rfl
          rw [upd_same, List.take_add_one, e1]
          simp
      · obtain ⟨s5, hD1⟩ := p
        rw [lys, ← hsd, List.take_length] at hD1
        have nD1l : D1 ≠ l := Ne.symm (ne_of_none (sT _ _ hL) nD1)
        have hD1' : SqL K H2 D1 (nV (sts d)) := .inl (.inl hD1)
        -- found.append
        refine ⟨.ref l, rfl, .inl ⟨rfl, _, .inl (.inl (s5 _ _ (sT _ _ hL)))⟩, .ref D1, rfl, ?_⟩
        refine ⟨.ref D1, rfl, D1, rfl, ⟨_, hD1'⟩, fun D2 nD2 => ?_⟩
        refine lc_it walk_list (fun k H3 => Same H2 H3 ∧ ∃ acc : List Nat, H3 D2 = some (.lst (nV acc)) ∧ acc.length ≤ k ∧ ∀ q, q ∈ acc ↔ ∃ s, s ∈ (sts d).take k ∧ lastOf ds i s = some q) ⟨same_new nD2, [], upd_same, Nat.le_refl _, fun q => by simp⟩
          (fun k H3 _ p => p.1.seq hD1') (fun k x H3 H4 hk p y => ?_) (fun H3 p => ?_)
        · obtain ⟨rfl, hx⟩ := y
          obtain ⟨st, hst, rfl⟩ := nV_at hx
          obtain ⟨s6, acc, ha, hal, hq⟩ := p
          have hD6 := s6 _ _ (s5 _ _ (sT _ _ hD))
          rw [nV_len] at hk
          have ht : ∀ z, z ∈ (sts d).take (k + 1) ↔ z ∈ (sts d).take k ∨ z = st := fun z => by
            rw [List.take_add_one, hst]
            simp
          refine ⟨rfl, .int (st : Int), rfl, .ref dd, rfl, dd, _, rfl, DGet.k (k := Sum.inl (st : Int)) hD6, _, rfl, ?_⟩
          rw [hla st]
          cases el : lastOf ds i st with
          | none =>
            refine iteF ⟨s6, acc, ha, by omega, fun q' => ?_⟩
            rw [hq q']
            constructor
            · rintro ⟨z, hz, e⟩
              exact ⟨z, (ht z).mpr (.inl hz), e⟩
            · rintro ⟨z, hz, e⟩
              rcases (ht z).mp hz with hz | rfl
              · exact ⟨z, hz, e⟩
              · rw [el] at e
                cases e
          | some r =>
            refine iteT ⟨.ref dd, rfl, .int (st : Int), rfl, dd, .int (r : Int), rfl, ?_, _, ha, ?_, fun z o e => ?_, acc ++ [r], ?_, ?_, fun q' => ?_⟩
            · have := DGet.k (k := Sum.inl (st : Int)) hD6
              rw [hla st, el] at this
              exact this
            · rw [nV_len]
              exact small1000 (by omega)
            · rw [upd_ne (ne_of_none e nD2)]
              exact s6 z o e
            · rw [upd_same, nV_append]
              rfl
            · rw [List.length_append]
              simp
              omega
            · rw [List.mem_append, hq q', List.mem_singleton]
              constructor
              · rintro (⟨z, hz, e⟩ | rfl)
                · exact ⟨z, (ht z).mpr (.inl hz), e⟩
                · exact ⟨st, (ht st).mpr (.inr rfl), el⟩
              · rintro ⟨z, hz, e⟩
                rcases (ht z).mp hz with hz | rfl
                · exact .inl ⟨z, hz, e⟩
                · rw [el] at e
                  exact .inr (Option.some.inj e).symm
        · obtain ⟨s6, acc, ha, hal, hq⟩ := p
          rw [nV_len] at hal hq
          rw [List.take_length] at hq
          have ha' : SqL K H3 D2 (iV (acc.map fun q : Nat => (q : Int))) := by
            rw [← nV_ints]
            exact .inl (.inl ha)
          refine ⟨D2, _, rfl, .inl ha', by rw [List.length_map]; omega, fun p1 n1 np1 hn1 => ?_⟩
          rw [List.length_map] at hn1
          refine ⟨p1, _, n1, rfl, upd_same, by omega, fun ns p2 _ hmem hnl np2 => ?_⟩
          obtain ⟨ah, eah, lah, hah⟩ := sorted_nats hmem
          have s7 : Same H2 (upd (upd H3 p1 (SetO w p1 (fun k => decide (k ∈ acc.map fun q : Nat => (q : Int))) n1)) p2 (.lst (iV ns))) := s6.trans ((same_new np1).trans (same_new np2))
          refine ⟨by show 2 ≤ sizeLine; decide, fun t nt => ?_⟩
          have s8 : Same H1 (upd (upd (upd H3 p1 (SetO w p1 (fun k => decide (k ∈ acc.map fun q : Nat => (q : Int))) n1)) p2 (.lst (iV ns))) t (.tup [.ref D1, .ref p2])) := sT.trans (s5.trans (s7.trans (same_new nt)))
          have hD1b := same_new (o := .tup [.ref D1, .ref p2]) nt _ _ (s7 _ _ hD1)
          have np2l : p2 ≠ l := Ne.symm (ne_of_none (same_new np1 _ _ (s6 _ _ (s5 _ _ (sT _ _ hL)))) np2)
          have np2H : H p2 = none := s4.free (sT.free (s5.free (s6.free ((same_new np1).free np2))))
          have hp2 : (upd (upd (upd H3 p1 (SetO w p1 (fun k => decide (k ∈ acc.map fun q : Nat => (q : Int))) n1)) p2 (.lst (iV ns))) t (.tup [.ref D1, .ref p2])) p2 = some (.lst (nV ah)) := by
            rw [← eah]
            exact same_new nt _ _ upd_same
          have ht : (upd (upd (upd H3 p1 (SetO w p1 (fun k => decide (k ∈ acc.map fun q : Nat => (q : Int))) n1)) p2 (.lst (iV ns))) t (.tup [.ref D1, .ref p2])) t = some (.tup [.ref D1, .ref p2]) := upd_same
          generalize (upd (upd (upd H3 p1 (SetO w p1 (fun k => decide (k ∈ acc.map fun q : Nat => (q : Int))) n1)) p2 (.lst (iV ns))) t (.tup [.ref D1, .ref p2])) = H6 at s8 hD1b hp2 ht ⊢
          have hL6 := s8 _ _ hL
          have hDD6 := s8 _ _ hD
          refine ⟨l, xs, .ref t, rfl, rfl, hL6, small1000 (by omega), ?_⟩
          have b7 : But l H6 (upd H6 l (.lst (xs ++ [V.ref t]))) := but_upd
          have hD1c := b7 _ _ nD1l hD1b
          have hDD7 := b7 _ _ (Ne.symm nld) hDD6
          have rows7 : ∀ j x, (xs ++ [V.ref t])[j]? = some x → RowAt H (upd H6 l (.lst (xs ++ [V.ref t]))) l ds j x := fun j x e => by
            have hj := (List.getElem?_eq_some_iff.mp e).1
            rw [List.length_append, List.length_singleton] at hj
            by_cases hji : j < xs.length
            · rw [List.getElem?_append_left hji] at e
              exact ((rows j x e).same s8).but (by omega) b7 (.inl rfl) ⟨_, hL6⟩
            · have ej : j = xs.length := by omega
              rw [ej, List.getElem?_append_right (Nat.le_refl _), Nat.sub_self] at e
              obtain rfl : V.ref t = x := Option.some.inj e
              have eji : j = i := by omega
              refine ⟨t, D1, p2, ah, rfl, b7 _ _ (ne_of ht hL6 (fun z => nomatch z)) ht, ⟨nD1l, s4.free (sT.free nD1)⟩, ⟨np2l, np2H⟩, fun d' hd' => ?_, b7 _ _ np2l hp2, by omega, fun q' => ?_⟩
              · rw [eji, hd] at hd'
                obtain rfl := Option.some.inj hd'
                exact hD1c
              · rw [hah q', hq q', eji]
                unfold Leans
                constructor
                · rintro ⟨z, hz, e⟩
                  exact ⟨z, by rw [mvs_some hd]; exact decide_eq_true hz, e⟩
                · rintro ⟨z, hz, e⟩
                  rw [mvs_some hd] at hz
                  exact ⟨z, of_decide_eq_true hz, e⟩
          have hL7 : (upd H6 l (.lst (xs ++ [V.ref t]))) l = some (.lst (xs ++ [V.ref t])) := upd_same
          have s7' : Same H (upd H6 l (.lst (xs ++ [V.ref t]))) := fun z o e => b7 z o (ne_of_none e nl) (s8 _ _ (s4 _ _ e))
          generalize upd H6 l (.lst (xs ++ [V.ref t])) = H7 at b7 hD1c hDD7 rows7 hL7 s7' ⊢
          -- last[stamp] = place
          refine ⟨.ref D1, rfl, D1, rfl, ⟨_, .inl (.inl hD1c)⟩, ?_⟩
          have nD1d : D1 ≠ dd := ne_of hD1c hDD7 (fun z => nomatch z)
          refine for_it walk_list (fun k σ H8 => (∃ y6, σ = [some (V.ref b), some (V.ref l), some (V.ref dd), some (V.int (i : Nat)), some (V.ref c), some (V.ref D1), y6, y7]) ∧ But dd H7 H8 ∧ ∃ kvs', H8 dd = some (.dK kvs') ∧ kvs'.length ≤ kvs.length + k ∧
              ∀ s : Nat, valV kvs' (Sum.inl (s : Int)) = if s ∈ (sts d).take k then some (V.int (i : Int)) else (lastOf ds i s).map fun q : Nat => V.int (q : Int))
            ⟨⟨_, rfl⟩, But.refl _ _, kvs, hDD7, by omega, fun s => by rw [List.take_zero, if_neg (by simp)]; exact hla s⟩ (fun k σ H8 _ p => .inl (.inl (p.2.1 _ _ nD1d hD1c))) (fun k x σ H8 H9 hk p y => ?_) (fun σ H8 p => ?_)
          · obtain ⟨rfl, hx⟩ := y
            obtain ⟨st, hst, rfl⟩ := nV_at hx
            obtain ⟨⟨y6', rfl⟩, b8, kvs', hk8, hkl', hv⟩ := p
            rw [nV_len] at hk
            refine ⟨.int (i : Nat), rfl, .ref dd, rfl, .int (st : Int), rfl, dd, _, rfl, DPut.k (k := Sum.inl (st : Int)) hk8 (small1000 (by omega)), ⟨_, rfl⟩, b8.trans but_upd, _, upd_same, ?_, fun z => ?_⟩
            · have := length_putK kvs' (Sum.inl (st : Int)) (V.int (i : Nat))
              omega
            · rw [valV_put, hv z, List.take_add_one, hst]
              by_cases e : z = st
              · subst e
                rw [if_pos rfl, if_pos (by simp)]
              · rw [if_neg (fun h => e (by injection h with h; omega))]
                by_cases e2 : z ∈ (sts d).take k
                · rw [if_pos e2, if_pos (by simp [e2])]
                · rw [if_neg e2, if_neg (by simp [e2, e])]
          · obtain ⟨⟨y6', rfl⟩, b8, kvs', hk8, hkl', hv⟩ := p
            rw [nV_len] at hv hkl'
            rw [List.take_length] at hv
            refine ⟨_, _, _, _, _, xs ++ [V.ref t], kvs', rfl, fun z o e => b8 z o (ne_of_none e ndd0) (s7' z o e), b8 _ _ nld hL7, hk8, by rw [List.length_append, hxl]; rfl, by omega, fun z => ?_, fun j x e => ?_⟩
            · show _ = (if mvs ds i z = true then some i else lastOf ds i z).map fun q : Nat => V.int (q : Int)
              rw [hv z, mvs_some hd]
              by_cases e : z ∈ sts d
              · rw [if_pos e, if_pos (decide_eq_true e)]
                rfl
              · rw [if_neg e, if_neg (by simp [e])]
            · have hj := (List.getElem?_eq_some_iff.mp e).1
              rw [List.length_append, List.length_singleton] at hj
              exact (rows7 j x e).but (by omega) b8 (.inr ⟨_, hDD7⟩) ⟨_, hL7⟩
    · obtain ⟨y3, y4, y5, y6, y7, xs, kvs, rfl, s4, hL, hD, hxl, hkl, hla, rows⟩ := p
      exact ⟨.ref l, rfl, q H1 l s4 nl ⟨xs, hL, by omega, rows⟩⟩
end
end K45
end W5
section W6
namespace K45
open PySem PySem.Spec PyProof.Rows L2
theorem sc_chains_in : FnScope ["deals", "false", "found", "place", "stamps", "ahead", "some", "one", "chain"] ["deals", "false"] (defScope sChainsIn) := ⟨rfl, rfl, rfl, by decide +kernel, rfl, by decide +kernel, by decide +kernel⟩
/-- a chain's length -/
theorem ChainP.ge {ds : List Deal} {f p : Nat} {c : List Nat} (h : ChainP ds f c p) : ∀ (j x : Nat), c[j]? = some x → j ≤ x
  | 0, _, _ => Nat.zero_le _
  | j + 1, x, e => by
    have hl := (List.getElem?_eq_some_iff.mp e).1
    have e2 : c[j]? = some c[j] := List.getElem?_eq_getElem (by omega)
    have h1 := h.ge j _ e2
    have h2 := (h.nx j _ _ e2 e).lt
    omega
theorem ChainP.len {ds : List Deal} {f p : Nat} {c : List Nat} (h : ChainP ds f c p) : c.length ≤ ds.length := by
  have h0 : c.length ≠ 0 := fun z => h.ne (List.length_eq_zero_iff.mp z)
  have e : c[c.length - 1]? = some c[c.length - 1] := List.getElem?_eq_getElem (by omega)
  have h1 := h.ge _ _ e
  have h2 := h.lt _ (List.mem_of_getElem? e)
  omega
/-- what chains_in tells of the deal j -/
def ChE (K : PySem.W.Frag) (H : Hp) (ds : List Deal) (f j : Nat) (x : V) : Prop := (x = .non ∧ ¬ Falls ds f j) ∨ ∃ (t : Addr) (c : List Nat), x = .ref t ∧ SqT K H t (nV c) ∧ ChainP ds f c j
theorem ChE.stay {K : PySem.W.Frag} {H H' : Hp} (s : Tups K H H') {ds : List Deal} {f j : Nat} {x : V} (h : ChE K H ds f j x) : ChE K H' ds f j x := by
  rcases h with h | ⟨t, c, e, h, p⟩
  · exact .inl h
  · exact .inr ⟨t, c, e, s _ _ h, p⟩
def ChainsAt (K : PySem.W.Frag) (H : Hp) (p : Addr) (ds : List Deal) (f : Nat) : Prop := ∃ xs, H p = some (.lst xs) ∧ xs.length = ds.length ∧ ∀ j x, xs[j]? = some x → ChE K H ds f j x
def spChainsIn (K : PySem.W.Frag) : Sp := fun vs H Q _ => ∃ (b : Addr) (ds : List Deal) (f : Nat), vs = [.ref b, .int (f : Int)] ∧ DealsAt K H b ds ∧ ds.length ≤ 10 ∧ (∀ d ∈ ds, d.length ≤ 6) ∧ ∀ H' p, Same H H' → ChainsAt K H' p ds f → Q (.ref p) H'

/-! ### in a list of numbers -/
theorem flat_nV : ∀ l : List Nat, (nV l).all flatV = true
  | [] => rfl
  | _ :: r => by
    show (true && (nV r).all flatV) = true
    rw [flat_nV r]
    rfl
theorem in_nV (f : Nat) : ∀ l : List Nat, inV (.int (f : Int)) (nV l) = decide (f ∈ l)
  | [] => rfl
  | x :: r => by
    have e1 : inV (.int (f : Int)) (nV (x :: r)) = (eqV (.int (x : Int)) (.int (f : Int)) || inV (.int (f : Int)) (nV r)) := rfl
    have e2 : eqV (.int (x : Int)) (.int (f : Int)) = decide (f = x) := by
      show decide ((x : Int) = (f : Int)) = decide (f = x)
      by_cases h : f = x
      · rw [decide_eq_true h, decide_eq_true (by omega)]
      · rw [decide_eq_false h, decide_eq_false (by omega)]
    rw [e1, e2, in_nV f r]
    by_cases h1 : f = x
    · simp [h1]
    · by_cases h2 : f ∈ r
      · simp [h2]
      · simp [h1, h2]
/-- a way that joins -/
theorem join_if {c : Bool} {A : Prop} {k : L2.St → Hp → Prop} {σ : L2.St} {H : Hp} (R : L2.St → Hp → Prop) (hk : ∀ σ H, R σ H → k σ H) (hy : (∀ σ H, R σ H → k σ H) → c = true → A) (hn : c = false → R σ H) : if c = true then A else k σ H := by
  cases c with
  | true => exact iteT (hy hk rfl)
  | false => exact iteF (hk _ _ (hn rfl))
def ChsL (K : PySem.W.Frag) (H : Hp) (ds : List Deal) (f i : Nat) (cs : List V) : Prop := ∀ x ∈ cs, ∃ (t : Addr) (c : List Nat), x = .ref t ∧ SqT K H t (nV c) ∧ ChainP ds f c i
theorem ChsL.stay {K : PySem.W.Frag} {H H' : Hp} (s : Tups K H H') {ds : List Deal} {f i : Nat} {cs : List V} (h : ChsL K H ds f i cs) : ChsL K H' ds f i cs := fun x hx => by
  obtain ⟨t, c, e, h1, h2⟩ := h x hx
  exact ⟨t, c, e, s _ _ h1, h2⟩
/-- the turns of chains_in, H1 the heap behind leans -/
def CiP (K : PySem.W.Frag) (H1 : Hp) (b l : Addr) (ds : List Deal) (f : Nat) (i : Nat) (σ : L2.St) (H' : Hp) : Prop :=
  ∃ (y3 y4 y5 y6 y7 y8 : Option V) (xs : List V), σ = [some (V.ref b), some (V.int (f : Int)), some (V.ref l), y3, y4, y5, y6, y7, y8] ∧ But l H1 H' ∧ H' l = some (.lst xs) ∧ xs.length = i ∧ ∀ j x, xs[j]? = some x → ChE K H' ds f j x
section
variable {P : Program} {w : World} {K : PySem.W.Frag} {mg : Str → Option Value} {base : Heap} {f : Addr} {fd : FuncData}
theorem ok_chains_in {g : Addr} {gd : FuncData} (T : Txt mg) (F : Fun K "chains_in" "chains_in" sChainsIn f fd) (C : Cal P w K mg base 1 "leans" ["deals"] (spLeans K) g gd) :
    FnOk P w K mg base CX0 2 f fd ["deals", "false"] (spChainsIn K) := by
  refine F.ok sc_chains_in (fun vs H Q E h => ?_) (fun cdv A outer s H vs Q E hr h => ?_)
  · obtain ⟨b, ds, fs, rfl, _⟩ := h
    rfl
  · obtain ⟨b, ds, fs, rfl, hB, hlen, hsix, q⟩ := h
    refine ⟨_, pss_cons (ps_set (i := 2) sc_chains_in.nd rfl (.inr rfl) (pe_lst pa_nil))
      (pss_cons (ps_for PassesOwn.never rfl (pi_enum (by rfl) T.enum (pa_cons (pe_cal C hr (by decide) (by rfl) (pa_cons (pv 0) pa_nil)) pa_nil))
          (pg_tup rfl (pgs_cons (pg_name (i := 3) sc_chains_in.nd rfl (.inr rfl)) (pgs_cons (pg_tup rfl (pgs_cons (pg_name (i := 4) sc_chains_in.nd rfl (.inl rfl)) (pgs_cons (pg_name (i := 5) sc_chains_in.nd rfl (.inl rfl)) pgs_nil))) pgs_nil)))
        (pss_cons (ps_setLc (i := 6) (own := [("one", 7)]) (g := gName 7) (by rfl) sc_chains_in.nd rfl rfl (sw_true rfl rfl rfl (by decide +kernel)) (pi_list (pv 5))
            (blkOk_by (N := ["deals", "false", "found", "place", "stamps", "ahead", "some", "one", "chain"]) (sc := defScope sChainsIn) (by decide +kernel)) (fun _ _ _ _ _ => pg_name (i := 7) sc_chains_in.nd rfl (Or.inl rfl))
            (fun _ _ _ _ _ => pts_one (pt_cmp (pc_notN (pe_ix (r := rIxL K) ix_list (pv 2) (pv 7) (fun _ _ => rfl))) rfl))
            (fun _ _ _ _ _ => pe_op (r := rCatA K) op_catA (pe_ix (r := rIxL K) ix_list (pv 2) (pv 7) (fun _ _ => rfl)) (pe_tup (pa_cons (pv 3) pa_nil))))
        (pss_cons (ps_if (pt_cmpR op_in_seq (pv 1) (pv 4) (by rfl))
            (pss_one (ps_expr (pe_bm PySem.F.plainAttrs_list PySem.F.slot_list_append PySem.F.type_list_append mt_append (pv 6) (pa_cons (pe_tup (pa_cons (pv 3) pa_nil)) pa_nil)))) pss_nil)
        (pss_one (ps_expr (pe_bm PySem.F.plainAttrs_list PySem.F.slot_list_append PySem.F.type_list_append mt_append (pv 2) (pa_cons
          (pe_ix ix_tup (pe_callBK (cr_minD rfl hr.units) (by rfl) T.min (by decide +kernel) (pa_cons
              (pe_lc (own := [("chain", 8)]) (g := gName 8) (tt := tYes) (by rfl) sc_chains_in.nd (pi_list (pv 6))
                (blkOk_by (N := ["deals", "false", "found", "place", "stamps", "ahead", "some", "one", "chain"]) (sc := defScope sChainsIn) (by decide +kernel)) (fun _ _ _ _ _ => pg_name (i := 8) sc_chains_in.nd rfl (Or.inl rfl)) (fun _ _ _ _ _ => pts_nil)
                (fun _ _ _ _ _ => pe_tup (pa_cons (pe_callB (r := rLenS K) (call_lenK rfl) (by rfl) T.len PySem.boot_len (pa_cons (pv 8) pa_nil)) (pa_cons (pv 8) pa_nil)))) pa_nil)
              (pk_cons (pe_tup (pa_cons pe_int (pa_cons pe_non pa_nil))) pk_nil)) pe_int (fun _ _ => rfl)) pa_nil)))))))
      (pss_one (ps_ret (pv 2)))), ?_⟩
    -- found = []
    refine ⟨Nat.zero_le _, fun l nl => ?_⟩
    have s0 : Same H (upd H l (.lst [])) := same_new nl
    refine ⟨.ref b, rfl, b, ds, rfl, hB.stay (same_tups s0), hlen, hsix, fun H1 p s1 np0 hR => ?_⟩
    obtain ⟨rs, hp, rl, rows⟩ := hR
    have npl : p ≠ l := fun e => by
      rw [e, upd_same] at np0
      cases np0
    have hl1 : H1 l = some (.lst []) := s1 _ _ upd_same
    have ls1 : IsLs H1 l := ⟨_, hl1⟩
    have hp1 : SqL K H1 p rs := .inl (.inl hp)
    refine ⟨p, rs, rfl, hp1, ?_⟩
    refine for_it walk_enum (CiP K H1 b l ds fs) ⟨none, none, none, none, none, none, [], rfl, But.refl _ _, hl1, rfl, fun j x e => by simp at e⟩
      (fun i σ H' _ p => let ⟨_, _, _, _, _, _, _, _, bt, _⟩ := p; .inl (.inl (bt _ _ npl hp))) (fun i x σ Ha Hb hi pP y => ?_) (fun σ H' pP => ?_)
    · obtain ⟨T0, x1, x2, rfl, nT, rfl, hx1, hx2⟩ := y
      obtain rfl : x1 = .int (i : Nat) := (Option.some.inj hx1).symm
      obtain ⟨y3, y4, y5, y6, y7, y8, xs, rfl, bt, hL, hxl, ent⟩ := pP
      obtain ⟨t, l1, l2, ah, rfl, ht, ⟨_, n1⟩, ⟨_, n2⟩, h1, h2, hah6, hah⟩ := rows i x2 hx2
      rw [rl] at hi
      have hd : ds[i]? = some ds[i] := List.getElem?_eq_getElem hi
      have h1 := h1 _ hd
      have e1 : l1 ≠ l := fun e => by
        rw [e, upd_same] at n1
        cases n1
      have e2 : l2 ≠ l := fun e => by
        rw [e, upd_same] at n2
        cases n2
      have e3 : t ≠ l := ne_of ht hl1 (fun z => nomatch z)
      have sT : Same Ha (upd Ha T0 (.tup [.int (i : Nat), .ref t])) := same_new nT
      have h1a := sT _ _ (bt _ _ e1 h1)
      have h2a := sT _ _ (bt _ _ e2 h2)
      have hta := sT _ _ (bt _ _ e3 ht)
      have hLa := sT _ _ hL
      have enta : ∀ j x, xs[j]? = some x → ChE K (upd Ha T0 (.tup [.int (i : Nat), .ref t])) ds fs j x := fun j x e => (ent j x e).stay (same_tups sT)
      refine ⟨T0, _, rfl, .inl (.inl upd_same), rfl, .int (i : Nat), _, rfl, .ref t, _, rfl, ⟨t, _, rfl, .inl (.inl hta), rfl, .ref l1, _, rfl, .ref l2, _, rfl, rfl, rfl, ?_⟩⟩
      have bta : But l H1 (upd Ha T0 (.tup [.int (i : Nat), .ref t])) := bt.trans (But.of sT)
      generalize upd Ha T0 (.tup [.int (i : Nat), .ref t]) = H2 at h1a h2a hta hLa enta bta ⊢
      have h2L : SqL K H2 l2 (nV ah) := .inl (.inl h2a)
      -- some
      refine ⟨.ref l2, rfl, l2, rfl, ⟨_, h2L⟩, fun D nD => ?_⟩
      refine lc_it walk_list (fun k H3 => Same H2 H3 ∧ ∃ cs : List V, H3 D = some (.lst cs) ∧ cs.length ≤ k ∧ ChsL K H3 ds fs i cs ∧ (cs = [] → ∀ q, q ∈ ah.take k → ¬ Falls ds fs q))
        ⟨same_new nD, [], upd_same, Nat.le_refl _, fun x hx => (by cases hx), fun _ q hq => by simp at hq⟩ (fun k H3 _ p => p.1.seq h2L) (fun k x H3 H4 hk p y => ?_) (fun H3 p => ?_)
      · obtain ⟨rfl, hx⟩ := y
        obtain ⟨r, hr', rfl⟩ := nV_at hx
        rw [nV_len] at hk
        obtain ⟨s3, cs, hcs, hcl, hch, hno⟩ := p
        have hlean : Leans ds r i := (hah r).mp (List.mem_of_getElem? hr')
        have hri : r < xs.length := by rw [hxl]; exact hlean.lt
        have hxr : xs[r]? = some xs[r] := List.getElem?_eq_getElem hri
        have hL4 := s3 _ _ hLa
        refine ⟨rfl, .ref l, rfl, .int (r : Int), rfl, l, xs, _, xs[r], rfl, rfl, .inl (.inl hL4), atI_nat hxr, ?_⟩
        rcases (enta r _ hxr).stay (same_tups s3) with ⟨e, hnf⟩ | ⟨tc, c, e, htc, cp⟩
        · rw [e]
          refine ⟨_, rfl, iteF ⟨s3, cs, hcs, by omega, hch, fun z q' hq' => ?_⟩⟩
          rw [List.take_add_one, hr'] at hq'
          rcases List.mem_append.mp hq' with hq' | hq'
          · exact hno z q' hq'
          · have : q' = r := by simpa using hq'
            rw [this]
            exact hnf
        · rw [e]
          refine ⟨true, by rw [decide_eq_false (fun z => nomatch z)] <;> rfl, iteT ?_⟩
          refine ⟨.ref l, rfl, .int (r : Int), rfl, l, xs, _, xs[r], rfl, rfl, .inl (.inl hL4), atI_nat hxr, ?_⟩
          rw [e]
          refine ⟨.int (i : Nat), rfl, by show 1 ≤ sizeLine; decide, fun t1 nt1 => ?_⟩
          have cl := cp.len
          refine ⟨tc, t1, nV c, [.int (i : Nat)], rfl, rfl, same_sqt (same_new nt1) htc, .inl (.inl upd_same), ?_, fun z => ?_, fun _ z => (by cases z), fun _ _ t2 nt2 => ?_⟩
          · rw [nV_len]
            exact lt1000 (by show c.length + 1 ≤ 1000; omega)
          · exact absurd (List.map_eq_nil_iff.mp z) cp.ne
          · have s5 := (same_new nt1).trans (same_new (o := .tup (nV c ++ [.int (i : Nat)])) nt2)
            refine ⟨cs, s5 _ _ hcs, small1000 (by omega), fun z o e => ?_, cs ++ [.ref t2], upd_same, by rw [List.length_append, List.length_singleton]; omega, fun x hx => ?_, fun z => absurd z (by simp)⟩
            · rw [upd_ne (ne_of_none e nD)]
              exact s5 _ _ (s3 _ _ e)
            · have b6 : But D (upd (upd H4 t1 (.tup [.int (i : Nat)])) t2 (.tup (nV c ++ [.int (i : Nat)]))) (upd (upd (upd H4 t1 (.tup [.int (i : Nat)])) t2 (.tup (nV c ++ [.int (i : Nat)]))) D (.lst (cs ++ [.ref t2]))) := but_upd
              have isD : IsLs (upd (upd H4 t1 (.tup [.int (i : Nat)])) t2 (.tup (nV c ++ [.int (i : Nat)]))) D := ⟨_, s5 _ _ hcs⟩
              rcases List.mem_append.mp hx with hx | hx
              · exact (hch.stay (same_tups s5)).stay (b6.tups isD) x hx
              · refine ⟨t2, c ++ [i], List.mem_singleton.mp hx, b6.sqt isD ?_, cp.snoc hlean⟩
                rw [nV_append]
                exact .inl (.inl upd_same)
      · obtain ⟨s3, cs, hcs, hcl, hch, hno⟩ := p
        rw [nV_len] at hcl hno
        rw [List.take_length] at hno
        have hL3 := s3 _ _ hLa
        have h1b := s3 _ _ h1a
        have ent3 : ∀ j x, xs[j]? = some x → ChE K H3 ds fs j x := fun j x e => (enta j x e).stay (same_tups s3)
        have bt3 : But l H1 H3 := bta.trans (But.of s3)
        have nDl : D ≠ l := Ne.symm (ne_of_none hLa nD)
        -- if false in stamps
        refine ⟨.int (fs : Int), rfl, .ref l1, rfl, l1, _, rfl, .inl (.inl (.inl h1b)), rfl, flat_nV _, _, rfl, ?_⟩
        show if (inV (V.int (fs : Int)) (nV (sts ds[i]))) = true then _ else _
        rw [in_nV]
        refine join_if (fun σ H4 => σ = [some (V.ref b), some (V.int (fs : Int)), some (V.ref l), some (V.int (i : Nat)), some (V.ref l1), some (V.ref l2), some (V.ref D), y7, y8] ∧ But l H1 H4 ∧ H4 l = some (.lst xs) ∧ (∀ j x, xs[j]? = some x → ChE K H4 ds fs j x) ∧
            ∃ cs : List V, H4 D = some (.lst cs) ∧ cs.length ≤ 7 ∧ ChsL K H4 ds fs i cs ∧ (cs = [] → ¬ Falls ds fs i)) (fun σ H4 pR => ?_) (fun hk hin => ?_) (fun hin => ?_)
        · obtain ⟨rfl, bt4, hL4, ent4, cs', hcs', hcl', hch', hno'⟩ := pR
          -- found.append(min(..)[1])
          refine ⟨.ref l, rfl, .inl ⟨rfl, _, .inl (.inl hL4)⟩, ?_⟩
          have hcsL : SqL K H4 D cs' := .inl (.inl hcs')
          refine ⟨.ref D, rfl, D, rfl, ⟨_, hcsL⟩, fun D3 nD3 => ?_⟩
          refine lc_it walk_list (fun k H5 => Same H4 H5 ∧ ∃ ps : List V, H5 D3 = some (.lst ps) ∧ ps.length = k ∧ ∀ x ∈ ps, ∃ (t q : Addr) (c : List Nat), x = .ref t ∧ SqT K H5 t [.int (c.length : Int), .ref q] ∧ SqT K H5 q (nV c) ∧ ChainP ds fs c i)
            ⟨same_new nD3, [], upd_same, rfl, fun x hx => by cases hx⟩ (fun k H5 _ p => p.1.seq hcsL) (fun k x H5 H6 hk p y => ?_) (fun H5 p => ?_)
          · obtain ⟨rfl, hx⟩ := y
            obtain ⟨s5, ps, hps, hpl, hpc⟩ := p
            obtain ⟨tc, c, rfl, htc, cp⟩ := hch' x (List.mem_of_getElem? hx)
            have htc5 := same_sqt s5 htc
            refine ⟨rfl, .ref tc, rfl, tc, _, rfl, .inr htc5, .ref tc, rfl, by show 2 ≤ sizeLine; decide, fun t3 nt3 => ?_⟩
            have s6 := same_new (o := .tup [.int ((nV c).length : Int), .ref tc]) nt3
            refine ⟨ps, s6 _ _ hps, small1000 (by omega), fun z o e => ?_, ps ++ [.ref t3], upd_same, by rw [List.length_append, hpl]; rfl, fun x hx => ?_⟩
            · rw [upd_ne (ne_of_none e nD3)]
              exact s6 _ _ (s5 _ _ e)
            · have b6 : But D3 (upd H6 t3 (.tup [.int ((nV c).length : Int), .ref tc])) (upd (upd H6 t3 (.tup [.int ((nV c).length : Int), .ref tc])) D3 (.lst (ps ++ [.ref t3]))) := but_upd
              have isD : IsLs (upd H6 t3 (.tup [.int ((nV c).length : Int), .ref tc])) D3 := ⟨_, s6 _ _ hps⟩
              rcases List.mem_append.mp hx with hx | hx
              · obtain ⟨t', q', c', e', a1, a2, a3⟩ := hpc x hx
                exact ⟨t', q', c', e', b6.sqt isD (same_sqt s6 a1), b6.sqt isD (same_sqt s6 a2), a3⟩
              · refine ⟨t3, tc, c, List.mem_singleton.mp hx, b6.sqt isD ?_, b6.sqt isD (same_sqt s6 htc5), cp⟩
                rw [nV_len]
                exact .inl (.inl upd_same)
          · obtain ⟨s5, ps, hps, hpl, hpc⟩ := p
            refine ⟨by show 2 ≤ sizeLine; decide, fun t9 nt9 => ?_⟩
            have s6 := same_new (o := .tup [.int 0, .non]) nt9
            have s46 := s5.trans s6
            have hL6 := s46 _ _ hL4
            have fin : ∀ v : V, ChE K (upd H5 t9 (.tup [.int 0, .non])) ds fs i v → CiP K H1 b l ds fs (i + 1) [some (V.ref b), some (V.int (fs : Int)), some (V.ref l), some (V.int (i : Nat)), some (V.ref l1), some (V.ref l2), some (V.ref D), y7, y8]
                (upd (upd H5 t9 (.tup [.int 0, .non])) l (.lst (xs ++ [v]))) := fun v hv => by
              have b7 : But l (upd H5 t9 (.tup [.int 0, .non])) (upd (upd H5 t9 (.tup [.int 0, .non])) l (.lst (xs ++ [v]))) := but_upd
              have isl : IsLs (upd H5 t9 (.tup [.int 0, .non])) l := ⟨_, hL6⟩
              refine ⟨_, _, _, _, _, _, xs ++ [v], rfl, (bt4.trans (But.of s46)).trans b7, upd_same, by rw [List.length_append, hxl]; rfl, fun j x e => ?_⟩
              have hj := (List.getElem?_eq_some_iff.mp e).1
              rw [List.length_append, List.length_singleton] at hj
              by_cases hji : j < xs.length
              · rw [List.getElem?_append_left hji] at e
                exact ((ent4 j x e).stay (same_tups s46)).stay (b7.tups isl)
              · have ej : j = xs.length := by omega
                rw [ej, List.getElem?_append_right (Nat.le_refl _), Nat.sub_self] at e
                obtain rfl : v = x := Option.some.inj e
                rw [ej, hxl]
                exact hv.stay (b7.tups isl)
            refine ⟨D3, ps, .ref t9, rfl, rfl, .inl (.inl (s6 _ _ hps)), fun x hx => ?_, fun z => ?_, fun x hx => ?_⟩
            · obtain ⟨t', q', c', e', a1, a2, a3⟩ := hpc x hx
              refine ⟨t', q', _, c'.map fun n : Nat => (n : Int), e', same_sqt s6 a1, ?_⟩
              have a4 := same_sqt s6 a2
              rw [nV_ints] at a4
              exact a4
            · have zc : cs' = [] := by
                rw [z] at hpl
                exact List.length_eq_zero_iff.mp hpl.symm
              refine ⟨t9, _, 1, .non, rfl, rfl, .inl (.inl upd_same), rfl, l, xs, .non, rfl, rfl, hL6, small1000 (by omega), ?_⟩
              exact fin .non (.inl ⟨rfl, hno' zc⟩)
            · obtain ⟨t', q', c', rfl, a1, a2, a3⟩ := hpc x hx
              refine ⟨t', _, 1, .ref q', rfl, rfl, same_sqt s6 a1, rfl, l, xs, .ref q', rfl, rfl, hL6, small1000 (by omega), ?_⟩
              exact fin (.ref q') (.inr ⟨q', c', rfl, same_sqt s6 a2, a3⟩)
        · have hin := of_decide_eq_true hin
          have hm : mvs ds i fs = true := by
            rw [mvs_some hd]
            exact decide_eq_true hin
          refine ⟨.ref D, rfl, .inl ⟨rfl, _, .inl (.inl hcs)⟩, .int (i : Nat), rfl, by show 1 ≤ sizeLine; decide, fun t1 nt1 => ?_⟩
          have s4 := same_new (o := .tup [.int (i : Nat)]) nt1
          have b5 : But D (upd H3 t1 (.tup [.int (i : Nat)])) (upd (upd H3 t1 (.tup [.int (i : Nat)])) D (.lst (cs ++ [.ref t1]))) := but_upd
          have isD : IsLs (upd H3 t1 (.tup [.int (i : Nat)])) D := ⟨_, s4 _ _ hcs⟩
          refine ⟨D, cs, .ref t1, rfl, rfl, s4 _ _ hcs, small1000 (by omega), hk _ _ ⟨rfl, fun z o hz e => ?_, b5 _ _ (Ne.symm nDl) (s4 _ _ hL3), fun j x e => ((ent3 j x e).stay (same_tups s4)).stay (b5.tups isD), cs ++ [.ref t1], upd_same, by rw [List.length_append, List.length_singleton]; omega, fun x hx => ?_, fun z => absurd z (by simp)⟩⟩
          · have e4 := bta z o hz e
            exact b5 _ _ (ne_of_none e4 nD) (s4 _ _ (s3 _ _ e4))
          · rcases List.mem_append.mp hx with hx | hx
            · exact (hch.stay (same_tups s4)).stay (b5.tups isD) x hx
            · exact ⟨t1, [i], List.mem_singleton.mp hx, b5.sqt isD (.inl (.inl upd_same)), .one hm⟩
        · have hin := of_decide_eq_false hin
          refine ⟨rfl, bt3, hL3, ent3, cs, hcs, by omega, hch, fun z hF => ?_⟩
          rcases hF.cases with hm | ⟨r, hr', hF⟩
          · rw [mvs_some hd] at hm
            exact hin (of_decide_eq_true hm)
          · exact hno z r ((hah r).mpr hr') hF
    · obtain ⟨y3, y4, y5, y6, y7, y8, xs, rfl, bt, hL, hxl, ent⟩ := pP
      refine ⟨.ref l, rfl, q H' l (fun z o e => bt _ _ (ne_of_none e nl) (s1 _ _ (s0 _ _ e))) ⟨xs, hL, by omega, ent⟩⟩
end
end K45
end W6
section W7
namespace K45
open PySem PySem.Spec PyProof.Rows L2
theorem sc_falls_in : FnScope ["deals", "false", "place", "chain"] ["deals", "false"] (defScope sFallsIn) := ⟨rfl, rfl, rfl, by decide +kernel, rfl, by decide +kernel, by decide +kernel⟩
theorem sc_fallen : FnScope ["owners", "deals", "stamp"] ["owners", "deals", "stamp"] (defScope sFallen) := ⟨rfl, rfl, rfl, by decide +kernel, rfl, by decide +kernel, by decide +kernel⟩
theorem sc_owners_left : FnScope ["owners", "deals", "stamp", "gone", "place", "deal"] ["owners", "deals", "stamp"] (defScope sOwnersLeft) := ⟨rfl, rfl, rfl, by decide +kernel, rfl, by decide +kernel, by decide +kernel⟩
theorem sc_chain_of : FnScope ["owners", "deals", "stamp", "place"] ["owners", "deals", "stamp", "place"] (defScope sChainOf) := ⟨rfl, rfl, rfl, by decide +kernel, rfl, by decide +kernel, by decide +kernel⟩
def spFallsIn (K : PySem.W.Frag) : Sp := fun vs H Q _ => ∃ (b : Addr) (ds : List Deal) (f : Nat), vs = [.ref b, .int (f : Int)] ∧ DealsAt K H b ds ∧ ds.length ≤ 10 ∧ (∀ d ∈ ds, d.length ≤ 6) ∧ ∀ H' p, Same H H' → SqT K H' p (nV (goneL ds f)) → Q (.ref p) H'
def spFallen (K : PySem.W.Frag) : Sp := fun vs H Q _ => ∃ (a b : Addr) (o : List Int) (ds : List Deal) (f : Nat), vs = [.ref a, .ref b, .int (f : Int)] ∧ In2 K H a b o ds ∧ f < o.length ∧ ∀ H' p, Same H H' → SqT K H' p (nV (goneL ds f)) → Q (.ref p) H'
def spOwnersLeft (K : PySem.W.Frag) : Sp := fun vs H Q _ => ∃ (a b : Addr) (o : List Int) (ds : List Deal) (f : Nat), vs = [.ref a, .ref b, .int (f : Int)] ∧ In2 K H a b o ds ∧ f < o.length ∧ ∀ H' p, Same H H' → SqT K H' p (iV (behind o (rest ds f))) → Q (.ref p) H'
def spChainOf (K : PySem.W.Frag) : Sp := fun vs H Q _ => ∃ (a b : Addr) (o : List Int) (ds : List Deal) (f p : Nat), vs = [.ref a, .ref b, .int (f : Int), .int (p : Int)] ∧ In2 K H a b o ds ∧ f < o.length ∧ p < ds.length ∧ ∀ H' x, Same H H' → ChE K H' ds f p x → Q x H'
theorem Good.six {o : List Int} {ds : List Deal} (g : Good o ds) : ∀ d ∈ ds, d.length ≤ 6 := fun d h => (g.ok d h).le
theorem ChE.fb {K : PySem.W.Frag} {H : Hp} {ds : List Deal} {f j : Nat} {x : V} (h : ChE K H ds f j x) : (!decide (x = .non)) = fb ds f j := by
  rcases h with ⟨e, hn⟩ | ⟨t, c, e, _, cp⟩
  · subst e
    cases h : K45.fb ds f j with
    | true => exact absurd (fb_iff.mp h) hn
    | false => rfl
  · subst e
    rw [fb_iff.mpr ⟨c, cp⟩, decide_eq_false (fun z => nomatch z)]
    rfl
theorem keepN_pair {α β : Type} {F : α → β → Prop} {xs : List α} {ys : List β} {g : Nat → Bool} (p : Paired F xs ys) : ∀ k, Paired F (keepN xs g k) (keepN ys g k)
  | 0 => .nil
  | k + 1 => by
    have ih := keepN_pair (g := g) p k
    unfold keepN
    cases e : xs[k]? with
    | none =>
      have e2 : ys[k]? = none := by
        rw [List.getElem?_eq_none_iff] at e ⊢
        rw [← pr_len p]
        exact e
      rw [e2]
      simpa using ih
    | some x =>
      obtain ⟨y, hy, hf⟩ := pr_at p e
      rw [hy]
      cases g k with
      | true => simpa using ih
      | false => exact pr_snoc ih hf
section
variable {P : Program} {w : World} {K : PySem.W.Frag} {mg : Str → Option Value} {base : Heap} {f : Addr} {fd : FuncData}
theorem ok_falls_in {g : Addr} {gd : FuncData} (T : Txt mg) (F : Fun K "falls_in" "falls_in" sFallsIn f fd) (C : Cal P w K mg base 2 "chains_in" ["deals", "false"] (spChainsIn K) g gd) :
    FnOk P w K mg base CX0 3 f fd ["deals", "false"] (spFallsIn K) := by
  refine F.ok sc_falls_in (fun vs H Q E h => ?_) (fun cdv A outer s H vs Q E hr h => ?_)
  · obtain ⟨b, ds, fs, rfl, _⟩ := h
    rfl
  · obtain ⟨b, ds, fs, rfl, hB, hlen, hsix, q⟩ := h
    refine ⟨_, pss_one (ps_ret (pe_callTy call_tuple_of (by rfl) T.tuple boot_tuple (pa_cons
      (pe_lc (own := [("place", 2), ("chain", 3)]) (g := gTup K 2 (gCons (gName 2) (gCons (gName 3) gNil))) (by rfl) sc_falls_in.nd (pi_enum (by rfl) T.enum (pa_cons (pe_cal C hr (by decide) (by rfl) (pa_cons (pv 0) (pa_cons (pv 1) pa_nil))) pa_nil))
        (blkOk_by (N := ["deals", "false", "place", "chain"]) (sc := defScope sFallsIn) (by decide +kernel))
        (fun _ _ _ _ _ => pg_tup rfl (pgs_cons (pg_name (i := 2) sc_falls_in.nd rfl (Or.inl rfl)) (pgs_cons (pg_name (i := 3) sc_falls_in.nd rfl (Or.inl rfl)) pgs_nil)))
        (fun _ _ _ _ _ => pts_one (pt_cmp (pc_notN (pv 3)) rfl)) (fun _ _ _ _ _ => pv 2)) pa_nil))), ?_⟩
    refine ⟨.ref b, rfl, .int (fs : Int), rfl, b, ds, fs, rfl, hB, hlen, hsix, fun H1 p s1 hC => ?_⟩
    obtain ⟨xs, hp, hxl, ent⟩ := hC
    refine ⟨p, xs, rfl, .inl (.inl hp), fun D nD => ?_⟩
    refine lc_it walk_enum (fun k H' => Same H1 H' ∧ H' D = some (.lst (nV ((List.range k).filter (fb ds fs))))) ⟨same_new nD, upd_same⟩ (fun k H' _ pp => .inl (.inl (pp.1 _ _ hp))) (fun k x H2 H3 hk pp y => ?_) (fun H' pp => ?_)
    · obtain ⟨T0, x1, x2, rfl, nT, rfl, hx1, hx2⟩ := y
      obtain rfl : x1 = .int (k : Nat) := (Option.some.inj hx1).symm
      have sT := same_new (o := .tup [.int (k : Nat), x2]) nT
      have hce := (ent k x2 hx2).fb
      refine ⟨T0, _, rfl, .inl (.inl upd_same), rfl, .int (k : Nat), _, rfl, x2, _, rfl, rfl, rfl, ?_⟩
      refine ⟨x2, rfl, _, rfl, ?_⟩
      rw [hce]
      cases hfb : fb ds fs k with
      | false =>
        refine iteF ⟨fun z o e => sT _ _ (pp.1 _ _ e), ?_⟩
        rw [List.range_succ, List.filter_append]
        simp only [List.filter_cons, hfb, List.filter_nil, Bool.false_eq_true, if_false, List.append_nil]
        exact sT _ _ pp.2
      | true =>
        refine iteT ⟨.int (k : Nat), rfl, _, sT _ _ pp.2, ?_, fun z o e => ?_, ?_⟩
        · rw [nV_len]
          have := List.length_filter_le (fb ds fs) (List.range k)
          rw [List.length_range] at this
          exact small1000 (by omega)
        · rw [upd_ne (ne_of_none e nD)]
          exact sT _ _ (pp.1 z o e)
        · rw [upd_same, List.range_succ, List.filter_append]
          simp only [List.filter_cons, hfb, List.filter_nil, if_true]
          rw [nV_append]
          rfl
    · rw [hxl] at pp
      exact ⟨D, _, rfl, .inl ⟨.inl (.inl pp.2), fun p2 np2 => q _ p2 (s1.trans (pp.1.trans (same_new np2))) (.inl (.inl upd_same))⟩⟩

theorem ok_fallen {g1 g2 g3 : Addr} {d1 d2 d3 : FuncData} (T : Txt mg) (F : Fun K "fallen" "fallen" sFallen f fd)
    (C1 : Cal P w K mg base 5 "need_deals" ["owners", "deals"] (spNeedDeals K) g1 d1) (C2 : Cal P w K mg base 3 "need_within" ["thing", "most"] spNeedWithin g2 d2) (C3 : Cal P w K mg base 3 "falls_in" ["deals", "false"] (spFallsIn K) g3 d3) :
    FnOk P w K mg base CX0 6 f fd ["owners", "deals", "stamp"] (spFallen K) := by
  refine F.ok sc_fallen (fun vs H Q E h => ?_) (fun cdv A outer s H vs Q E hr h => ?_)
  · obtain ⟨a, b, o, ds, fs, rfl, _⟩ := h
    rfl
  · obtain ⟨a, b, o, ds, fs, rfl, I2, hf, q⟩ := h
    refine ⟨_, pss_cons (ps_expr (pe_cal C1 hr (by decide) (by rfl) (pa_cons (pv 0) (pa_cons (pv 1) pa_nil))))
      (pss_cons (ps_expr (pe_cal C2 hr (by decide) (by rfl) (pa_cons (pv 2) (pa_cons (pe_op op_sub (pe_callB call_len_seq (by rfl) T.len PySem.boot_len (pa_cons (pv 0) pa_nil)) pe_int) pa_nil))))
      (pss_one (ps_ret (pe_cal C3 hr (by decide) (by rfl) (pa_cons (pv 1) (pa_cons (pv 2) pa_nil)))))), ?_⟩
    refine ⟨.ref a, rfl, .ref b, rfl, a, b, o, ds, rfl, I2, fun H1 s1 => ?_⟩
    obtain ⟨hA, hB, G⟩ := I2.stay (same_tups s1)
    refine ⟨.int fs, rfl, .ref a, rfl, a, _, rfl, .inr hA, _, 1, rfl, rfl, fs, _, rfl, by omega, by rw [iV_len]; omega, ?_⟩
    exact ⟨.ref b, rfl, .int fs, rfl, b, ds, fs, rfl, hB, G.len, G.six, fun H2 p s2 hp => q H2 p (s1.trans s2) hp⟩

theorem ok_owners_left {g1 g2 g3 g4 : Addr} {d1 d2 d3 d4 : FuncData} (T : Txt mg) (F : Fun K "owners_left" "owners_left" sOwnersLeft f fd)
    (C1 : Cal P w K mg base 5 "need_deals" ["owners", "deals"] (spNeedDeals K) g1 d1) (C2 : Cal P w K mg base 3 "need_within" ["thing", "most"] spNeedWithin g2 d2) (C3 : Cal P w K mg base 3 "falls_in" ["deals", "false"] (spFallsIn K) g3 d3)
    (C4 : Cal P w K mg base 2 "all_done" ["owners", "deals"] (spAllDone K) g4 d4) :
    FnOk P w K mg base CX0 6 f fd ["owners", "deals", "stamp"] (spOwnersLeft K) := by
  refine F.ok sc_owners_left (fun vs H Q E h => ?_) (fun cdv A outer s H vs Q E hr h => ?_)
  · obtain ⟨a, b, o, ds, fs, rfl, _⟩ := h
    rfl
  · obtain ⟨a, b, o, ds, fs, rfl, I2, hf, q⟩ := h
    refine ⟨_, pss_cons (ps_expr (pe_cal C1 hr (by decide) (by rfl) (pa_cons (pv 0) (pa_cons (pv 1) pa_nil))))
      (pss_cons (ps_expr (pe_cal C2 hr (by decide) (by rfl) (pa_cons (pv 2) (pa_cons (pe_op op_sub (pe_callB call_len_seq (by rfl) T.len PySem.boot_len (pa_cons (pv 0) pa_nil)) pe_int) pa_nil))))
      (pss_cons (ps_set (i := 3) sc_owners_left.nd rfl (.inr rfl) (pe_cal C3 hr (by decide) (by rfl) (pa_cons (pv 1) (pa_cons (pv 2) pa_nil))))
      (pss_one (ps_ret (pe_cal C4 hr (by decide) (by rfl) (pa_cons (pv 0) (pa_cons
        (pe_lc (own := [("place", 4), ("deal", 5)]) (g := gTup K 2 (gCons (gName 4) (gCons (gName 5) gNil))) (by rfl) sc_owners_left.nd (pi_enumT (by rfl) T.enum (pa_cons (pv 1) pa_nil))
          (blkOk_by (N := ["owners", "deals", "stamp", "gone", "place", "deal"]) (sc := defScope sOwnersLeft) (by decide +kernel))
          (fun _ _ _ _ _ => pg_tup rfl (pgs_cons (pg_name (i := 4) sc_owners_left.nd rfl (Or.inl rfl)) (pgs_cons (pg_name (i := 5) sc_owners_left.nd rfl (Or.inl rfl)) pgs_nil)))
          (fun _ _ _ _ _ => pts_one (pt_cmpR (r := rIn K true) op_notIn_seq (pv 4) (pv 3) (by rfl))) (fun _ _ _ _ _ => pv 5)) pa_nil))))))), ?_⟩
    refine ⟨.ref a, rfl, .ref b, rfl, a, b, o, ds, rfl, I2, fun H1 s1 => ?_⟩
    obtain ⟨hA, hB, G⟩ := I2.stay (same_tups s1)
    refine ⟨.int fs, rfl, .ref a, rfl, a, _, rfl, .inr hA, _, 1, rfl, rfl, fs, _, rfl, by omega, by rw [iV_len]; omega, ?_⟩
    refine ⟨.ref b, rfl, .int fs, rfl, b, ds, fs, rfl, hB, G.len, G.six, fun H2 p s2 hp => ?_⟩
    obtain ⟨ws, hW, pw⟩ := hB.stay (same_tups s2)
    have hA2 := same_sqt s2 hA
    have wl : ws.length = ds.length := pr_len pw
    refine ⟨.ref a, rfl, .ref b, rfl, b, ws, rfl, hW, fun D nD => ?_⟩
    refine lc_it walk_enumT (fun k H' => Same H2 H' ∧ H' D = some (.lst (keepN ws (fb ds fs) k))) ⟨same_new nD, upd_same⟩ (fun k H' _ pp => same_sqt pp.1 hW) (fun k x H3 H4 hk pp y => ?_) (fun H' pp => ?_)
    · obtain ⟨T0, x1, x2, rfl, nT, rfl, hx1, hx2⟩ := y
      obtain rfl : x1 = .int (k : Nat) := (Option.some.inj hx1).symm
      have hx2 : ws[k]? = some x2 := hx2
      have sT := same_new (o := .tup [.int (k : Nat), x2]) nT
      refine ⟨T0, _, rfl, .inl (.inl upd_same), rfl, .int (k : Nat), _, rfl, x2, _, rfl, rfl, rfl, ?_⟩
      refine ⟨.int (k : Nat), rfl, .ref p, rfl, p, _, rfl, .inr (same_sqt (pp.1.trans sT) hp), rfl, flat_nV _, _, rfl, ?_⟩
      show if (!inV (V.int (k : Int)) (nV (goneL ds fs))) = true then _ else _
      rw [in_nV]
      have ef : decide (k ∈ goneL ds fs) = fb ds fs k := by
        cases hfb : fb ds fs k with
        | true => exact decide_eq_true (mem_gone.mpr (fb_iff.mp hfb))
        | false => exact decide_eq_false fun z => by rw [fb_iff.mpr (mem_gone.mp z)] at hfb; cases hfb
      rw [ef]
      cases hfb : fb ds fs k with
      | true =>
        refine iteF ⟨pp.1.trans sT, ?_⟩
        have ek : keepN ws (fb ds fs) (k + 1) = keepN ws (fb ds fs) k := by
          show keepN ws (fb ds fs) k ++ _ = _
          rw [hx2]
          simp [hfb]
        rw [ek]
        exact sT _ _ pp.2
      | false =>
        refine iteT ⟨x2, rfl, _, sT _ _ pp.2, ?_, fun z o e => ?_, ?_⟩
        · have := keepN_len ws (fb ds fs) k
          have := G.len
          exact small1000 (by omega)
        · rw [upd_ne (ne_of_none e nD)]
          exact sT _ _ (pp.1 z o e)
        · have ek : keepN ws (fb ds fs) (k + 1) = keepN ws (fb ds fs) k ++ [x2] := by
            show keepN ws (fb ds fs) k ++ _ = _
            rw [hx2]
            simp [hfb]
          rw [ek, upd_same]
    · obtain ⟨s3, hD⟩ := pp
      rw [wl] at hD
      have gr := rest_good G fs
      exact ⟨a, D, o, _, rest ds fs, rfl, same_sqt s3 hA2, .inl (.inl (.inl hD)), Paired.mapP (keepN_pair pw ds.length) fun _ _ => DealAt.stay (same_tups s3), G.own.le, gr.ok, gr.can, fun H4 p4 s4 h4 => q H4 p4 (s1.trans (s2.trans (s3.trans s4))) h4⟩

theorem ok_chain_of {g1 g2 g3 : Addr} {d1 d2 d3 : FuncData} (T : Txt mg) (F : Fun K "chain_of" "chain_of" sChainOf f fd)
    (C1 : Cal P w K mg base 5 "need_deals" ["owners", "deals"] (spNeedDeals K) g1 d1) (C2 : Cal P w K mg base 3 "need_within" ["thing", "most"] spNeedWithin g2 d2) (C3 : Cal P w K mg base 2 "chains_in" ["deals", "false"] (spChainsIn K) g3 d3) :
    FnOk P w K mg base CX0 6 f fd ["owners", "deals", "stamp", "place"] (spChainOf K) := by
  refine F.ok sc_chain_of (fun vs H Q E h => ?_) (fun cdv A outer s H vs Q E hr h => ?_)
  · obtain ⟨a, b, o, ds, fs, pl, rfl, _⟩ := h
    rfl
  · obtain ⟨a, b, o, ds, fs, pl, rfl, I2, hf, hpl, q⟩ := h
    refine ⟨_, pss_cons (ps_expr (pe_cal C1 hr (by decide) (by rfl) (pa_cons (pv 0) (pa_cons (pv 1) pa_nil))))
      (pss_cons (ps_expr (pe_cal C2 hr (by decide) (by rfl) (pa_cons (pv 2) (pa_cons (pe_op op_sub (pe_callB call_len_seq (by rfl) T.len PySem.boot_len (pa_cons (pv 0) pa_nil)) pe_int) pa_nil))))
      (pss_cons (ps_expr (pe_cal C2 hr (by decide) (by rfl) (pa_cons (pv 3) (pa_cons (pe_op op_sub (pe_callB call_len_seq (by rfl) T.len PySem.boot_len (pa_cons (pv 1) pa_nil)) pe_int) pa_nil))))
      (pss_one (ps_ret (pe_ix ix_list (pe_cal C3 hr (by decide) (by rfl) (pa_cons (pv 1) (pa_cons (pv 2) pa_nil))) (pv 3) (fun _ _ => rfl)))))), ?_⟩
    refine ⟨.ref a, rfl, .ref b, rfl, a, b, o, ds, rfl, I2, fun H1 s1 => ?_⟩
    obtain ⟨hA, hB, G⟩ := I2.stay (same_tups s1)
    refine ⟨.int fs, rfl, .ref a, rfl, a, _, rfl, .inr hA, _, 1, rfl, rfl, fs, _, rfl, by omega, by rw [iV_len]; omega, ?_⟩
    have hB0 := hB
    obtain ⟨ws, hW, pw⟩ := hB
    have wl : ws.length = ds.length := pr_len pw
    refine ⟨.int pl, rfl, .ref b, rfl, b, _, rfl, .inr hW, _, 1, rfl, rfl, pl, _, rfl, by omega, by omega, ?_⟩
    refine ⟨.ref b, rfl, .int fs, rfl, b, ds, fs, rfl, hB0, G.len, G.six, fun H2 p s2 hC => ?_⟩
    obtain ⟨xs, hp, hxl, ent⟩ := hC
    have hx : xs[pl]? = some xs[pl] := List.getElem?_eq_getElem (by omega)
    exact ⟨.int pl, rfl, p, xs, _, xs[pl], rfl, rfl, .inl (.inl hp), atI_nat hx, q H2 _ (s1.trans s2) (ent pl _ hx)⟩
end
end K45
end W7
section W8
namespace K45
open PySem PySem.Spec PyProof.Rows L2
theorem sc_is_chain : FnScope ["owners", "deals", "stamp", "place", "thing", "rows", "one", "other"] ["owners", "deals", "stamp", "place", "thing"] (defScope sIsChain) := ⟨rfl, rfl, rfl, by decide +kernel, rfl, by decide +kernel, by decide +kernel⟩
def spIsChain (K : PySem.W.Frag) : Sp := fun vs H Q _ => ∃ (a b t : Addr) (o : List Int) (ds : List Deal) (f p : Nat) (c : List Nat), vs = [.ref a, .ref b, .int (f : Int), .int (p : Int), .ref t] ∧ In2 K H a b o ds ∧ f < o.length ∧ p < ds.length ∧
  SqT K H t (nV c) ∧ (∀ x ∈ c, x < ds.length) ∧ c.length ≤ 10 ∧ ∀ H' (r : Bool), Same H H' → (r = true ↔ ChainP ds f c p) → Q (.bl r) H'

/-! ### tuples of numbers that are compared -/
theorem lay_iV : ∀ l : List Int, PyData.canLayAll0 (l.map PyData.int) = true
  | [] => by simp [PyData.canLayAll0]
  | x :: r => by
    rw [List.map_cons]
    simp [PyData.canLayAll0, PyData.canLay0, lay_iV r]
theorem shaped_tup (l : List Int) : SeqAt.shaped (.tuple (l.map PyData.int)) = true := by
  unfold SeqAt.shaped
  simp [PyData.canLay0, lay_iV, PyData.depth, depth_ints]
theorem shaped_lst (l : List Int) : SeqAt.shaped (.list (l.map PyData.int)) = true := by
  unfold SeqAt.shaped
  simp [PyData.canLay0, lay_iV, PyData.depth, depth_ints]
theorem eqv_ints : ∀ l m : List Int, PyData.eqvAll (l.map PyData.int) (m.map PyData.int) = decide (l = m)
  | [], [] => by simp [PyData.eqvAll]
  | [], _ :: _ => by simp [PyData.eqvAll]
  | _ :: _, [] => by simp [PyData.eqvAll]
  | x :: l, y :: m => by
    rw [List.map_cons, List.map_cons, PyData.eqvAll, eqv_ints l m, PyData.eqv]
    by_cases h : x = y
    · simp [h]
    · simp [h]
theorem eqv_tups (l m : List Int) : PyData.eqv (.tuple (l.map PyData.int)) (.tuple (m.map PyData.int)) = decide (l = m) := by rw [PyData.eqv, eqv_ints]
theorem eqv_lsts (l m : List Int) : PyData.eqv (.list (l.map PyData.int)) (.list (m.map PyData.int)) = decide (l = m) := by rw [PyData.eqv, eqv_ints]
theorem dp_tup {K : PySem.W.Frag} {H : Hp} {a : Addr} {l : List Int} (h : SqT K H a (iV l)) : Dp K H (.ref a) (.tuple (l.map PyData.int)) := .tup h (dpAll_ints l)
theorem dp_lst {K : PySem.W.Frag} {H : Hp} {a : Addr} {l : List Int} (h : SqL K H a (iV l)) : Dp K H (.ref a) (.list (l.map PyData.int)) := .lst h (dpAll_ints l)
theorem dp_tupN {K : PySem.W.Frag} {H : Hp} {a : Addr} {l : List Nat} (h : SqT K H a (nV l)) : Dp K H (.ref a) (.tuple ((l.map fun n : Nat => (n : Int)).map PyData.int)) := dp_tup (by rw [← nV_ints]; exact h)
theorem cast_inj : ∀ {l m : List Nat}, (l.map fun n : Nat => (n : Int)) = (m.map fun n : Nat => (n : Int)) → l = m
  | [], [], _ => rfl
  | [], _ :: _, h => by simp at h
  | _ :: _, [], h => by simp at h
  | x :: l, y :: m, h => by
    rw [List.map_cons, List.map_cons] at h
    injection h with h1 h2
    rw [cast_inj h2, show x = y by omega]

theorem cut_tupR {K : PySem.W.Frag} {H : Hp} {a : Addr} {xs : List V} {lo : Option Int} {Q : VK} {σ : L2.St} (h : SqT K H a xs) (q : ∀ H' p, Same H H' → SqT K H' p (cutV xs lo none) → Q (.ref p) H') :
    tNoPart σ H (fun u H3 => rSlA K (.ref a) lo u H3 Q) := cut_tup h q
theorem walk_zipT {K : PySem.W.Frag} {a b : Addr} {xs ys : List V} {n : Nat} (hn : n = min xs.length ys.length) : Walk (RZ.ItzT K a b) n (fun H => SqT K H a xs ∧ SqT K H b ys) (YPair (fun i => xs[i]?) (fun i => ys[i]?)) := by
  subst hn
  refine ⟨fun i H hi q => ?_, fun H q => ⟨xs, ys, q.1, q.2, by omega⟩, fun i H v H' _ q y => ?_⟩
  · have h1 : i < xs.length := by omega
    have h2 : i < ys.length := by omega
    exact ⟨xs, ys, _, _, q.1, q.2, List.getElem?_eq_getElem h1, List.getElem?_eq_getElem h2⟩
  · obtain ⟨T, x, z, e1, e2, e3, e4, e5⟩ := y
    exact ⟨T, x, z, e1, e2, e3, e4 xs q.1, e5 ys q.2⟩
open Classical in
noncomputable def lb (ds : List Deal) (q p : Nat) : Bool := decide (Leans ds q p)
theorem lb_iff {ds : List Deal} {q p : Nat} : lb ds q p = true ↔ Leans ds q p := by
  unfold lb
  exact @decide_eq_true_iff _ (Classical.propDecidable _)
theorem nV_last {c : List Nat} (h : c ≠ []) : ∃ x, c.getLast? = some x ∧ atI (nV c) (-1) = some (.int (x : Int)) := by
  refine ⟨c.getLast h, List.getLast?_eq_getLast h, ?_⟩
  have e : nV c = nV c.dropLast ++ [V.int ((c.getLast h : Nat) : Int)] := by
    have := congrArg nV (List.dropLast_concat_getLast h)
    rw [nV_append] at this
    exact this.symm
  rw [e]
  exact atI_last _ _
section
variable {P : Program} {w : World} {K : PySem.W.Frag} {mg : Str → Option Value} {base : Heap} {f : Addr} {fd : FuncData}
theorem ok_is_chain {g1 g2 g3 g4 : Addr} {d1 d2 d3 d4 : FuncData} (T : Txt mg) (F : Fun K "is_chain" "is_chain" sIsChain f fd)
    (C1 : Cal P w K mg base 5 "need_deals" ["owners", "deals"] (spNeedDeals K) g1 d1) (C2 : Cal P w K mg base 3 "need_within" ["thing", "most"] spNeedWithin g2 d2) (C3 : Cal P w K mg base 1 "is_whole" ["thing"] spIsWhole g3 d3)
    (C4 : Cal P w K mg base 1 "leans" ["deals"] (spLeans K) g4 d4) : FnOk P w K mg base CX0 6 f fd ["owners", "deals", "stamp", "place", "thing"] (spIsChain K) := by
  refine F.ok sc_is_chain (fun vs H Q E h => ?_) (fun cdv A outer s H vs Q E hr h => ?_)
  · obtain ⟨a, b, t, o, ds, fs, pl, c, rfl, _⟩ := h
    rfl
  · obtain ⟨a, b, t, o, ds, fs, pl, c, rfl, I2, hf, hpl, hC, hlt, hcl, q⟩ := h
    refine ⟨_, pss_cons (ps_expr (pe_cal C1 hr (by decide) (by rfl) (pa_cons (pv 0) (pa_cons (pv 1) pa_nil))))
      (pss_cons (ps_expr (pe_cal C2 hr (by decide) (by rfl) (pa_cons (pv 2) (pa_cons (pe_op op_sub (pe_callB call_len_seq (by rfl) T.len PySem.boot_len (pa_cons (pv 0) pa_nil)) pe_int) pa_nil))))
      (pss_cons (ps_expr (pe_cal C2 hr (by decide) (by rfl) (pa_cons (pv 3) (pa_cons (pe_op op_sub (pe_callB call_len_seq (by rfl) T.len PySem.boot_len (pa_cons (pv 1) pa_nil)) pe_int) pa_nil))))
      (pss_cons (ps_if (PW.pt (pw_or (pt_not (pt_val (pe_isi (pv 4) (by rfl) T.isi (by decide +kernel) (by rfl) T.tuple boot_tuple)))
          (pw_or (pt_cmpR (op_eqD hr.units) (pv 4) (pe_tup pa_nil) (nomark _))
          (pw_or1 (pt_not (pt_val (pe_callB (cr_all rfl) (by rfl) T.all (by decide +kernel) (pa_cons (pe_lc (own := [("one", 6)]) (g := gName 6) (tt := tYes) rfl sc_is_chain.nd (pi_tup (pv 4))
            (blkOk_by (N := ["owners", "deals", "stamp", "place", "thing", "rows", "one", "other"]) (sc := defScope sIsChain) (by decide +kernel)) (fun _ _ _ _ _ => pg_name (i := 6) sc_is_chain.nd rfl (Or.inl rfl)) (fun _ _ _ _ _ => pts_nil)
            (fun _ _ _ _ _ => pe_cal C3 hr (by decide) (by rfl) (pa_cons (pv 6) pa_nil))) pa_nil)))))))) (pss_one (ps_ret pe_bl)) pss_nil)
      (pss_cons (ps_if (PW.pt (pw_or (pt_not (pt_val (pe_callB (cr_all rfl) (by rfl) T.all (by decide +kernel) (pa_cons (pe_lc (own := [("one", 6)]) (g := gName 6) (tt := tYes) rfl sc_is_chain.nd (pi_tup (pv 4))
            (blkOk_by (N := ["owners", "deals", "stamp", "place", "thing", "rows", "one", "other"]) (sc := defScope sIsChain) (by decide +kernel)) (fun _ _ _ _ _ => pg_name (i := 6) sc_is_chain.nd rfl (Or.inl rfl)) (fun _ _ _ _ _ => pts_nil)
            (fun _ _ _ _ _ => pe_chain op_le op_lt pe_int (pv 6) (pe_callB (r := rLenS K) (call_lenK rfl) (by rfl) T.len PySem.boot_len (pa_cons (pv 1) pa_nil)))) pa_nil))))
          (pw_or1 (pt_cmpR op_ne (pe_ix ix_tup (pv 4) (pe_un un_neg pe_int) (fun _ _ => rfl)) (pv 3) (nomark _))))) (pss_one (ps_ret pe_bl)) pss_nil)
      (pss_cons (ps_set (i := 5) sc_is_chain.nd rfl (.inr rfl) (pe_cal C4 hr (by decide) (by rfl) (pa_cons (pv 1) pa_nil)))
      (pss_cons (ps_if (pt_cmpR op_notIn_seq (pv 2) (pe_ix ix_tup (pe_ix ix_list (pv 5) (pe_ix ix_tup (pv 4) pe_int (fun _ _ => rfl)) (fun _ _ => rfl)) pe_int (fun _ _ => rfl)) (by rfl)) (pss_one (ps_ret pe_bl)) pss_nil)
      (pss_one (ps_ret (pe_callB (cr_all rfl) (by rfl) T.all (by decide +kernel) (pa_cons (pe_lc (own := [("one", 6), ("other", 7)]) (g := gTup K 2 (gCons (gName 6) (gCons (gName 7) gNil))) (tt := tYes) rfl sc_is_chain.nd
            (RZ.pi_zipA (by rfl) T.zip (pa_cons (pv 4) (pa_cons (pe_slice sl_tupA (pv 4) (po_some pe_int) po_none) pa_nil)))
            (blkOk_by (N := ["owners", "deals", "stamp", "place", "thing", "rows", "one", "other"]) (sc := defScope sIsChain) (by decide +kernel))
            (fun _ _ _ _ _ => pg_tup rfl (pgs_cons (pg_name (i := 6) sc_is_chain.nd rfl (Or.inl rfl)) (pgs_cons (pg_name (i := 7) sc_is_chain.nd rfl (Or.inl rfl)) pgs_nil))) (fun _ _ _ _ _ => pts_nil)
            (fun _ _ _ _ _ => pe_cmpR (r := rIn K false) op_in_seq (pv 6) (pe_ix (r := rIxT K) ix_tup (pe_ix (r := rIxL K) ix_list (pv 5) (pv 7) (fun _ _ => rfl)) pe_int (fun _ _ => rfl)) (by rfl))) pa_nil)))))))))), ?_⟩
    refine ⟨.ref a, rfl, .ref b, rfl, a, b, o, ds, rfl, I2, fun H1 s1 => ?_⟩
    obtain ⟨hA, hB, G⟩ := I2.stay (same_tups s1)
    have hC1 := same_sqt s1 hC
    refine ⟨.int fs, rfl, .ref a, rfl, a, _, rfl, .inr hA, _, 1, rfl, rfl, fs, _, rfl, by omega, by rw [iV_len]; omega, ?_⟩
    have hB0 := hB
    obtain ⟨ws, hW, pw⟩ := hB
    have wl : ws.length = ds.length := pr_len pw
    refine ⟨.int pl, rfl, .ref b, rfl, b, _, rfl, .inr hW, _, 1, rfl, rfl, pl, _, rfl, by omega, by omega, ?_⟩
    -- is it a tuple, not (), of whole numbers
    refine ⟨.ref t, rfl, .ref t, .ty "tuple", _, _, true, rfl, .ty _, ty_tup hC1, kit_tt, true, rfl, iteF ?_⟩
    refine ⟨.ref t, rfl, Nat.zero_le _, fun t0 nt0 => ?_⟩
    have s2 := s1.trans (same_new (o := .tup []) nt0)
    refine ⟨_, _, dp_tupN (same_sqt s2 hC), dp_tup (l := []) (.inl (.inl upd_same)), shaped_tup _, shaped_tup _, _, rfl, ?_⟩
    rw [eqv_tups]
    by_cases hc0 : c = []
    · subst hc0
      rw [decide_eq_true (by rfl)]
      exact iteT (q _ false s2 ⟨fun z => (by cases z), fun z => absurd rfl z.ne⟩)
    rw [decide_eq_false (fun z => hc0 (List.map_eq_nil_iff.mp z))]
    refine iteF ?_
    have sd : Same H1 (upd H1 t0 (.tup [])) := same_new nt0
    generalize upd H1 t0 (.tup []) = H2 at s2 sd ⊢
    have hC2 := same_sqt s2 hC
    refine ⟨.ref t, rfl, t, rfl, ⟨_, hC2⟩, fun D nD => ?_⟩
    refine lc_it walk_tup (fun i H' => Same H2 H' ∧ H' D = some (.lst ((List.replicate i true).map V.bl))) ⟨same_new nD, upd_same⟩ (fun i H' _ p => same_sqt p.1 hC2) (fun i x H3 H4 hi p y => ?_) (fun H3 p => ?_)
    · obtain ⟨rfl, hx⟩ := y
      obtain ⟨n, hn, rfl⟩ := nV_at hx
      refine ⟨rfl, .int n, rfl, n, rfl, _, p.2, ?_, fun z o' e => ?_, ?_⟩
      · rw [List.length_map, List.length_replicate]
        rw [nV_len] at hi
        exact small1000 (by omega)
      · rw [upd_ne (ne_of_none e nD)]
        exact p.1 z o' e
      · rw [upd_same, List.replicate_succ']
        simp
    · obtain ⟨s3, hD⟩ := p
      refine ⟨D, List.replicate (nV c).length true, rfl, .inl (.inl hD), ?_⟩
      have e : (List.replicate (nV c).length true).all id = true := by simp
      rw [e]
      refine ⟨true, rfl, iteF ?_⟩
      have s3' := s2.trans s3
      have hC3 := same_sqt s3' hC
      have hW3 := same_sqt (sd.trans s3) hW
      -- all are places, the last is this one
      refine ⟨.ref t, rfl, t, rfl, ⟨_, hC3⟩, fun D2 nD2 => ?_⟩
      refine lc_it walk_tup (fun i H' => Same H3 H' ∧ H' D2 = some (.lst ((List.replicate i true).map V.bl))) ⟨same_new nD2, upd_same⟩ (fun i H' _ p => same_sqt p.1 hC3) (fun i x H5 H4 hi p y => ?_) (fun H4 p => ?_)
      · obtain ⟨rfl, hx⟩ := y
        obtain ⟨n, hn, rfl⟩ := nV_at hx
        have hnl := hlt n (List.mem_of_getElem? hn)
        refine ⟨rfl, .int n, rfl, 0, n, rfl, rfl, _, rfl, ?_⟩
        rw [decide_eq_true (show (0 : Int) ≤ (n : Int) by omega)]
        refine iteT ⟨.ref b, rfl, b, _, rfl, .inr (same_sqt p.1 hW3), n, _, rfl, rfl, _, p.2, ?_, fun z o' e => ?_, ?_⟩
        · rw [List.length_map, List.length_replicate]
          rw [nV_len] at hi
          exact small1000 (by omega)
        · rw [upd_ne (ne_of_none e nD2)]
          exact p.1 z o' e
        · show _ = some (HO.lst ((List.replicate (i + 1) true).map V.bl))
          rw [upd_same]
          show some (HO.lst (_ ++ [V.bl (decide ((n : Int) < (ws.length : Nat)))])) = _
          rw [decide_eq_true (show (n : Int) < (ws.length : Nat) by omega), List.replicate_succ']
          simp
      · obtain ⟨s4, hD2⟩ := p
        refine ⟨D2, List.replicate (nV c).length true, rfl, .inl (.inl hD2), ?_⟩
        have e : (List.replicate (nV c).length true).all id = true := by simp
        rw [e]
        refine ⟨true, rfl, iteF ?_⟩
        have s4' := s3'.trans s4
        have hC4 := same_sqt s4' hC
        obtain ⟨la, hla, hat⟩ := nV_last hc0
        refine ⟨.ref t, rfl, 1, rfl, t, _, -1, _, rfl, rfl, hC4, hat, .int pl, rfl, rfl, _, rfl, ?_⟩
        by_cases hlp : la = pl
        · subst hlp
          rw [decide_eq_true rfl]
          refine iteF ?_
          -- rows
          refine ⟨.ref b, rfl, b, ds, rfl, (I2.stay (same_tups s4')).2.1, G.len, G.six, fun H5 p s5 np hR => ?_⟩
          obtain ⟨rs, hp, rl, rows⟩ := hR
          have s5' := s4'.trans s5
          have hC5 := same_sqt s5' hC
          obtain ⟨c0, hc0'⟩ : ∃ c0, c[0]? = some c0 := ⟨c[0]'(List.length_pos_iff.mpr hc0), List.getElem?_eq_getElem _⟩
          have hrow : ∀ n, n ∈ c → ∃ (t' l1 l2 : Addr) (ah : List Nat), rs[n]? = some (.ref t') ∧ H5 t' = some (.tup [.ref l1, .ref l2]) ∧ (∃ d, ds[n]? = some d ∧ H5 l1 = some (.lst (nV (sts d)))) ∧ H5 l2 = some (.lst (nV ah)) ∧ ∀ q', q' ∈ ah ↔ Leans ds q' n := fun n hn => by
            have hnl := hlt n hn
            have er : rs[n]? = some rs[n] := List.getElem?_eq_getElem (by omega)
            obtain ⟨t', l1, l2, ah, e1, e2, _, _, e3, e4, _, e5⟩ := rows n _ er
            rw [e1] at er
            exact ⟨t', l1, l2, ah, er, e2, ⟨ds[n], List.getElem?_eq_getElem hnl, e3 _ (List.getElem?_eq_getElem hnl)⟩, e4, e5⟩
          obtain ⟨t', l1, l2, ah, er, ht', ⟨d0, hd0, hl1⟩, _, _⟩ := hrow c0 (List.mem_of_getElem? hc0')
          refine ⟨.int fs, rfl, .ref p, rfl, .ref t, rfl, t, _, _, _, rfl, rfl, hC5, atI_nat (j := 0) (nV_get hc0'), p, rs, _, .ref t', rfl, rfl, .inl (.inl hp), atI_nat er, t', _, _, .ref l1, rfl, rfl, .inl (.inl ht'), atI_nat (j := 0) rfl, ?_⟩
          refine ⟨l1, _, rfl, .inl (.inl (.inl hl1)), rfl, flat_nV _, _, rfl, ?_⟩
          show if (!inV (V.int (fs : Int)) (nV (sts d0))) = true then _ else _
          rw [in_nV]
          by_cases hin : fs ∈ sts d0
          · rw [decide_eq_true hin]
            refine iteF ?_
            have hhead : ∀ x, c.head? = some x → mvs ds x fs = true := fun x e => by
              rw [List.head?_eq_getElem?, hc0'] at e
              obtain rfl := Option.some.inj e
              rw [mvs_some hd0]
              exact decide_eq_true hin
            refine ⟨.ref t, rfl, .ref t, rfl, 1, rfl, cut_tupR hC5 fun H6 t2 s6 hT2 => ?_⟩
            rw [cut_rest] at hT2
            have hC6 := same_sqt s6 hC5
            have hp6 := s6 _ _ hp
            refine ⟨t, t2, _, _, rfl, .inr ⟨hC6, hT2, fun D3 nD3 => ?_⟩⟩
            have hm : c.length - 1 = min (nV c).length ((nV c).drop 1).length := by
              rw [List.length_drop, nV_len]
              omega
            refine lc_it (walk_zipT hm) (fun i H' => Same H6 H' ∧ H' D3 = some (.lst (((List.range i).map fun j => lb ds (c.getD j 0) (c.getD (j + 1) 0)).map V.bl))) ⟨same_new nD3, upd_same⟩
              (fun i H' _ p => ⟨same_sqt p.1 hC6, same_sqt p.1 hT2⟩) (fun i x H7 H8 hi p' y => ?_) (fun H7 p' => ?_)
            · obtain ⟨T0, x1, x2, rfl, nT, rfl, hx1, hx2⟩ := y
              have hx1 : (nV c)[i]? = some x1 := hx1
              have hx2 : ((nV c).drop 1)[i]? = some x2 := hx2
              rw [List.getElem?_drop] at hx2
              obtain ⟨m, hm1, rfl⟩ := nV_at hx1
              obtain ⟨n, hn1, rfl⟩ := nV_at hx2
              have sT := same_new (o := .tup [.int (m : Int), .int (n : Int)]) nT
              have s8 := (s6.trans p'.1).trans sT
              obtain ⟨t', l1, l2, ah, er, ht', _, hl2, hah⟩ := hrow n (List.mem_of_getElem? hn1)
              refine ⟨T0, _, rfl, .inl (.inl upd_same), rfl, .int (m : Int), _, rfl, .int (n : Int), _, rfl, rfl, rfl, ?_⟩
              refine ⟨.int (m : Int), rfl, .ref p, rfl, .int (n : Int), rfl, p, rs, _, .ref t', rfl, rfl, .inl (.inl (s8 _ _ hp)), atI_nat er, t', _, _, .ref l2, rfl, rfl, .inl (.inl (s8 _ _ ht')), atI_nat (j := 1) rfl, ?_⟩
              refine ⟨l2, _, rfl, .inl (.inl (.inl (s8 _ _ hl2))), rfl, flat_nV _, _, sT _ _ p'.2, ?_, fun z o' e => ?_, ?_⟩
              · rw [List.length_map, List.length_map, List.length_range]
                exact small1000 (by omega)
              · rw [upd_ne (ne_of_none e nD3)]
                exact sT _ _ (p'.1 z o' e)
              · have e1 : c.getD i 0 = m := by rw [List.getD_eq_getElem?_getD, hm1] <;> rfl
                have e2 : c.getD (i + 1) 0 = n := by
                  rw [Nat.add_comm 1 i] at hn1
                  rw [List.getD_eq_getElem?_getD, hn1]
                  rfl
                have e3 : inV (V.int (m : Int)) (nV ah) = lb ds m n := by
                  rw [in_nV]
                  cases hl : lb ds m n with
                  | true => exact decide_eq_true ((hah m).mpr (lb_iff.mp hl))
                  | false => exact decide_eq_false fun z => by rw [lb_iff.mpr ((hah m).mp z)] at hl; cases hl
                rw [upd_same, List.range_succ, List.map_append, List.map_append]
                show some (HO.lst (_ ++ [V.bl (inV (V.int (m : Int)) (nV ah))])) = _
                rw [e3]
                simp only [List.map_cons, List.map_nil, e1, e2]
            · refine ⟨D3, _, rfl, .inl (.inl p'.2), q _ _ ((s5'.trans s6).trans p'.1) ?_⟩
              rw [List.all_map, List.all_eq_true]
              constructor
              · intro hall
                refine ⟨hlt, hla, hhead, fun i x y ex ey => ?_⟩
                have hi := (List.getElem?_eq_some_iff.mp ey).1
                have := hall i (List.mem_range.mpr (by omega))
                have h2 : lb ds (c.getD i 0) (c.getD (i + 1) 0) = true := this
                rw [List.getD_eq_getElem?_getD, List.getD_eq_getElem?_getD, ex, ey] at h2
                exact lb_iff.mp h2
              · intro cp i hi
                have hi' := List.mem_range.mp hi
                have ex : c[i]? = some c[i] := List.getElem?_eq_getElem (by omega)
                have ey : c[i + 1]? = some c[i + 1] := List.getElem?_eq_getElem (by omega)
                show lb ds (c.getD i 0) (c.getD (i + 1) 0) = true
                rw [List.getD_eq_getElem?_getD, List.getD_eq_getElem?_getD, ex, ey]
                exact lb_iff.mpr (cp.nx i _ _ ex ey)
          · rw [decide_eq_false hin]
            refine iteT (q _ false s5' ⟨fun z => (by cases z), fun cp => absurd ?_ hin⟩)
            have := cp.head c0 (by rw [List.head?_eq_getElem?]; exact hc0')
            rw [mvs_some hd0] at this
            exact of_decide_eq_true this
        · rw [decide_eq_false (fun z => hlp (by have := V.int.inj z; omega))]
          refine iteT (q _ false s4' ⟨fun z => (by cases z), fun cp => absurd (Option.some.inj (hla.symm.trans cp.last)) hlp⟩)
end
end K45
end W8
section W9
namespace K45
open PySem PySem.Spec PyProof.Rows L2
theorem sc_pen : FnScope ["_law_cell"] ["_law_cell"] (defScope sPen) := ⟨rfl, rfl, rfl, by decide +kernel, rfl, by decide +kernel, by decide +kernel⟩
theorem sc_cell_at : FnScope ["_law_script", "_law_k"] ["_law_script", "_law_k"] (defScope sCellAt) := ⟨rfl, rfl, rfl, by decide +kernel, rfl, by decide +kernel, by decide +kernel⟩
theorem sc_draw : FnScope ["_law_pen_here", "_law_bound", "_law_found", "_law_stir"] ["_law_pen_here", "_law_bound"] (defScope sDraw) := ⟨rfl, rfl, rfl, by decide +kernel, rfl, by decide +kernel, by decide +kernel⟩
theorem sc_owners : FnScope ["_law_pen_here", "_law_many", "_law_k"] ["_law_pen_here"] (defScope sOwners) := ⟨rfl, rfl, rfl, by decide +kernel, rfl, by decide +kernel, by decide +kernel⟩
/-- a pen: what is left of a great cell, whether it is one, the draws so far, the cell stirred -/
def PenAt (H : Hp) (a : Addr) : Prop := ∃ c f n m : Int, H a = some (.lst [.int c, .int f, .int n, .int m]) ∧ 0 ≤ m ∧ m < 1000000007
theorem PenAt.ls {H : Hp} {a : Addr} (h : PenAt H a) : IsLs H a := let ⟨_, _, _, _, h, _⟩ := h; ⟨_, h⟩
theorem PenAt.same {H H' : Hp} {a : Addr} (s : Same H H') (h : PenAt H a) : PenAt H' a := let ⟨c, f, n, m, h, b⟩ := h; ⟨c, f, n, m, s _ _ h, b⟩
def spPen : Sp := fun vs H Q _ => ∃ c : Int, vs = [.int c] ∧ ∀ H' p, Same H H' → H p = none → PenAt H' p → Q (.ref p) H'
def spCellAt (K : PySem.W.Frag) : Sp := fun vs H Q _ => ∃ (a : Addr) (ns : List Int) (k : Nat), vs = [.ref a, .int (k : Int)] ∧ SqL K H a (iV ns) ∧ ∀ i : Int, Q (.int i) H
def spDraw : Sp := fun vs H Q _ => ∃ (a : Addr) (b : Int), vs = [.ref a, .int b] ∧ PenAt H a ∧ 0 < b ∧ b < 1000 ∧ ∀ (d : Int) H', 0 ≤ d → d < b → PenAt H' a → But a H H' → Q (.int d) H'
def spOwners (K : PySem.W.Frag) : Sp := fun vs H Q _ => ∃ a : Addr, vs = [.ref a] ∧ PenAt H a ∧ ∀ H' p (o : List Int), But a H H' → PenAt H' a → SqT K H' p (iV o) → OwnOk o → Q (.ref p) H'
theorem mul_l {i j : Int} (h0 : 0 ≤ i) (h1 : i < 4294967296) : CMul i j := .inl ⟨by omega, by omega⟩
section
variable {P : Program} {w : World} {K : PySem.W.Frag} {mg : Str → Option Value} {base : Heap} {f : Addr} {fd : FuncData}
theorem ok_pen (T : Txt mg) (F : Fun K "_law_pen" "_law_pen" sPen f fd) : FnOk P w K mg base CX0 1 f fd ["_law_cell"] spPen := by
  refine F.ok sc_pen (fun vs H Q E h => ?_) (fun cdv A outer s H vs Q E hr h => ?_)
  · obtain ⟨c, rfl, _⟩ := h
    rfl
  · obtain ⟨c, rfl, q⟩ := h
    refine ⟨_, pss_one (ps_ret (pe_lst (pa_cons (pv 0) (pa_cons (pe_callTy call_int1 (by rfl) T.int boot_int (pa_cons (pe_cmpR op_ge (pv 0) (pe_op op_pow pe_int pe_int) (nomark _)) pa_nil))
      (pa_cons pe_int (pa_cons (pe_op op_mod (pv 0) pe_int) pa_nil)))))), ?_⟩
    refine ⟨.int c, rfl, .int c, rfl, 10, 18, rfl, rfl, ⟨by decide, by decide, by decide⟩, c, _, rfl, rfl, .inr ⟨_, rfl, .int c, rfl, c, 1000000007, rfl, rfl, (by show (0 : Int) < 1000000007; decide), by show 4 ≤ sizeLine; decide, fun p np => ?_⟩⟩
    exact q _ p (same_new np) np ⟨_, _, _, _, upd_same, Int.emod_nonneg _ (by decide), Int.emod_lt_of_pos _ (by decide)⟩

theorem ok_cell_at (T : Txt mg) (F : Fun K "_law_cell_at" "_law_cell_at" sCellAt f fd) : FnOk P w K mg base CX0 1 f fd ["_law_script", "_law_k"] (spCellAt K) := by
  refine F.ok sc_cell_at (fun vs H Q E h => ?_) (fun cdv A outer s H vs Q E hr h => ?_)
  · obtain ⟨a, ns, k, rfl, _⟩ := h
    rfl
  · obtain ⟨a, ns, k, rfl, hA, q⟩ := h
    refine ⟨_, pss_cons (ps_if (pt_cmpR op_lt (pv 1) (pe_callB call_len_seq (by rfl) T.len PySem.boot_len (pa_cons (pv 0) pa_nil)) (nomark _)) (pss_one (ps_ret (pe_ix ix_list (pv 0) (pv 1) (fun _ _ => rfl)))) pss_nil)
      (pss_one (ps_ret pe_int)), ?_⟩
    refine ⟨.int k, rfl, .ref a, rfl, a, _, rfl, .inl hA, k, _, rfl, rfl, _, rfl, ite2 (fun e => ?_) (fun _ => q 0)⟩
    have hk : k < ns.length := by
      have := of_decide_eq_true e
      rw [iV_len] at this
      omega
    exact ⟨.ref a, rfl, .int k, rfl, a, _, _, _, rfl, rfl, hA, atI_nat (iV_get (List.getElem?_eq_getElem hk)), q _⟩

theorem ok_draw (T : Txt mg) (F : Fun K "_law_draw" "_law_draw" sDraw f fd) : FnOk P w K mg base CX0 1 f fd ["_law_pen_here", "_law_bound"] spDraw := by
  refine F.ok sc_draw (fun vs H Q E h => ?_) (fun cdv A outer s H vs Q E hr h => ?_)
  · obtain ⟨a, b, rfl, _⟩ := h
    rfl
  · obtain ⟨a, b, rfl, ⟨c, g, n, m, hA, m0, m1⟩, b0, b1, q⟩ := h
    refine ⟨_, pss_cons (ps_if (PW.pt (pw_and (pt_cmpR op_eq (pe_ix ix_list (pv 0) pe_int (fun _ _ => rfl)) pe_int (nomark _)) (pw_and1 (pt_cmpR op_gt (pe_ix ix_list (pv 0) pe_int (fun _ _ => rfl)) pe_int (nomark _)))))
        (pss_cons (ps_set (i := 2) sc_draw.nd rfl (.inl rfl) (pe_op op_mod (pe_ix ix_list (pv 0) pe_int (fun _ _ => rfl)) (pv 1)))
        (pss_cons (ps_asg (pe_op op_fdiv (pe_ix ix_list (pv 0) pe_int (fun _ _ => rfl)) (pv 1)) (pg_sub (pv 0) pe_int set_list))
        (pss_one (ps_ret (pv 2))))) pss_nil)
      (pss_cons (ps_asg (pe_op op_add (pe_ix ix_list (pv 0) pe_int (fun _ _ => rfl)) pe_int) (pg_sub (pv 0) pe_int set_list))
      (pss_cons (ps_set (i := 3) sc_draw.nd rfl (.inl rfl) (pe_op op_mod (pe_op op_mul (pe_op op_add (pe_ix ix_list (pv 0) pe_int (fun _ _ => rfl)) pe_int) (pe_op op_add pe_int (pe_op op_mul pe_int (pe_ix ix_list (pv 0) pe_int (fun _ _ => rfl))))) pe_int))
      (pss_cons (ps_set (i := 3) sc_draw.nd rfl (.inl rfl) (pe_op op_mod (pe_op op_add (pe_op op_add (pe_op op_mul (pv 3) (pv 3)) (pe_op op_mul pe_int (pe_ix ix_list (pv 0) pe_int (fun _ _ => rfl)))) pe_int) pe_int))
      (pss_one (ps_ret (pe_op op_mod (pe_op op_fdiv (pe_op op_mod (pe_op op_mul (pv 3) pe_int) pe_int) pe_int) (pv 1))))))), ?_⟩
    have slow : tSeq (tAsg (tOp (rI0 fun i j => .int (i + j)) (tOp (rIxL K) (tVar 0) (tC (.int 2))) (tC (.int 1))) (gSub (tVar 0) (tC (.int 2)) rSetL)) (tSeq (tAsg (tOp (rI (fun _ j => 0 < j) fun i j => .int (i % j)) (tOp (rI CMul fun i j => .int (i * j)) (tOp (rI0 fun i j => .int (i + j)) (tOp (rIxL K) (tVar 0) (tC (.int 3))) (tC (.int 17))) (tOp (rI0 fun i j => .int (i + j)) (tC (.int 69621)) (tOp (rI CMul fun i j => .int (i * j)) (tC (.int 2)) (tOp (rIxL K) (tVar 0) (tC (.int 2)))))) (tC (.int 2147483647))) (gName 3))
        (tSeq (tAsg (tOp (rI (fun _ j => 0 < j) fun i j => .int (i % j)) (tOp (rI0 fun i j => .int (i + j)) (tOp (rI0 fun i j => .int (i + j)) (tOp (rI CMul fun i j => .int (i * j)) (tVar 3) (tVar 3)) (tOp (rI CMul fun i j => .int (i * j)) (tC (.int 40503)) (tOp (rIxL K) (tVar 0) (tC (.int 2))))) (tC (.int 5))) (tC (.int 2147483629))) (gName 3))
        (tRet (tOp (rI (fun _ j => 0 < j) fun i j => .int (i % j)) (tOp (rI CDiv fun i j => .int (i / j)) (tOp (rI (fun _ j => 0 < j) fun i j => .int (i % j)) (tOp (rI CMul fun i j => .int (i * j)) (tVar 3) (tC (.int 48271))) (tC (.int 2147483647))) (tC (.int 32))) (tVar 1))))) { nx := fun _ H' => Q V.non H', rt := Q } [some (.ref a), some (.int b), none, none] H := by
      refine ⟨.ref a, rfl, a, _, 2, .int n, rfl, rfl, .inl (.inl hA), rfl, n, 1, rfl, rfl, .ref a, rfl, a, _, 2, 2, rfl, rfl, hA, rfl, ?_⟩
      have hA1 : (upd H a (.lst [.int c, .int g, .int (n + 1), .int m])) a = some (.lst [.int c, .int g, .int (n + 1), .int m]) := upd_same
      have b1' : But a H (upd H a (.lst [.int c, .int g, .int (n + 1), .int m])) := but_upd
      show tSeq _ _ _ _ (upd H a (.lst [.int c, .int g, .int (n + 1), .int m]))
      generalize upd H a (.lst [.int c, .int g, .int (n + 1), .int m]) = H1 at hA1 b1' ⊢
      refine ⟨.ref a, rfl, a, _, 3, .int m, rfl, rfl, .inl (.inl hA1), rfl, m, 17, rfl, rfl, .ref a, rfl, a, _, 2, .int (n + 1), rfl, rfl, .inl (.inl hA1), rfl, 2, n + 1, rfl, rfl, mul_l (by decide) (by decide), 69621, _, rfl, rfl, _, _, rfl, rfl, mul_l (by omega) (by omega), _, 2147483647, rfl, rfl, (by show (0 : Int) < 2147483647; decide), ?_⟩
      show tSeq _ _ _ [some (V.ref a), some (V.int b), none, some (V.int ((m + 17) * (69621 + 2 * (n + 1)) % 2147483647))] H1
      have r0 := Int.emod_nonneg ((m + 17) * (69621 + 2 * (n + 1))) (show (2147483647 : Int) ≠ 0 by decide)
      have r1 := Int.emod_lt_of_pos ((m + 17) * (69621 + 2 * (n + 1))) (show (0 : Int) < 2147483647 by decide)
      generalize (m + 17) * (69621 + 2 * (n + 1)) % 2147483647 = r at r0 r1 ⊢
      refine ⟨.int r, rfl, .int r, rfl, r, r, rfl, rfl, mul_l r0 (by omega), .ref a, rfl, a, _, 2, .int (n + 1), rfl, rfl, .inl (.inl hA1), rfl, 40503, n + 1, rfl, rfl, mul_l (by decide) (by decide), _, _, rfl, rfl, _, 5, rfl, rfl, _, 2147483629, rfl, rfl, (by show (0 : Int) < 2147483629; decide), ?_⟩
      show gName 3 (V.int ((r * r + 40503 * (n + 1) + 5) % 2147483629)) _ H1 _
      have z0 := Int.emod_nonneg (r * r + 40503 * (n + 1) + 5) (show (2147483629 : Int) ≠ 0 by decide)
      have z1 := Int.emod_lt_of_pos (r * r + 40503 * (n + 1) + 5) (show (0 : Int) < 2147483629 by decide)
      generalize (r * r + 40503 * (n + 1) + 5) % 2147483629 = z at z0 z1 ⊢
      refine ⟨.int z, rfl, z, 48271, rfl, rfl, mul_l z0 (by omega), _, 2147483647, rfl, rfl, (by show (0 : Int) < 2147483647; decide), _, 32, rfl, rfl, ⟨by decide, by decide⟩, .int b, rfl, _, b, rfl, rfl, b0, ?_⟩
      exact q _ H1 (Int.emod_nonneg _ (by omega)) (Int.emod_lt_of_pos _ b0) ⟨c, g, n + 1, m, hA1, m0, m1⟩ b1'
    refine ⟨.ref a, rfl, a, _, 1, .int g, rfl, rfl, .inl (.inl hA), rfl, rfl, _, rfl, ?_⟩
    by_cases hg : V.int g = V.int 1
    · rw [decide_eq_true hg]
      refine iteT ⟨.ref a, rfl, a, _, 0, .int c, rfl, rfl, .inl (.inl hA), rfl, c, 0, rfl, rfl, _, rfl, ?_⟩
      by_cases hc : 0 < c
      · rw [decide_eq_true hc]
        refine iteT ⟨.ref a, rfl, a, _, 0, .int c, rfl, rfl, .inl (.inl hA), rfl, .int b, rfl, c, b, rfl, rfl, b0, ?_⟩
        refine ⟨.ref a, rfl, a, _, 0, .int c, rfl, rfl, .inl (.inl hA), rfl, .int b, rfl, c, b, rfl, rfl, ⟨b0, by omega⟩, .ref a, rfl, a, _, 0, 0, rfl, rfl, hA, rfl, ?_⟩
        exact ⟨.int (c % b), rfl, q _ _ (Int.emod_nonneg _ (by omega)) (Int.emod_lt_of_pos _ b0) ⟨_, _, _, _, upd_same, m0, m1⟩ but_upd⟩
      · rw [decide_eq_false hc]
        exact iteF slow
    · rw [decide_eq_false hg]
      exact iteF (iteF slow)

theorem ok_owners {g : Addr} {gd : FuncData} (T : Txt mg) (F : Fun K "_law_owners" "_law_owners" sOwners f fd) (C : Cal P w K mg base 1 "_law_draw" ["_law_pen_here", "_law_bound"] spDraw g gd) :
    FnOk P w K mg base CX0 2 f fd ["_law_pen_here"] (spOwners K) := by
  refine F.ok sc_owners (fun vs H Q E h => ?_) (fun cdv A outer s H vs Q E hr h => ?_)
  · obtain ⟨a, rfl, _⟩ := h
    rfl
  · obtain ⟨a, rfl, pa, q⟩ := h
    refine ⟨_, pss_cons (ps_set (i := 1) sc_owners.nd rfl (.inl rfl) (pe_ix ix_list (pe_lst (pa_cons (pe_op op_add pe_int (pe_cal C hr (by decide) (by rfl) (pa_cons (pv 0) (pa_cons pe_int pa_nil))))
          (pa_cons (pe_op op_add pe_int (pe_cal C hr (by decide) (by rfl) (pa_cons (pv 0) (pa_cons pe_int pa_nil)))) pa_nil))) (pe_cal C hr (by decide) (by rfl) (pa_cons (pv 0) (pa_cons pe_int pa_nil))) (fun _ _ => rfl)))
      (pss_one (ps_ret (pe_callTy call_tuple_of (by rfl) T.tuple boot_tuple (pa_cons (pe_lc (own := [("_law_k", 2)]) (g := gName 2) (tt := tYes) rfl sc_owners.nd (pi_range1 (by rfl) T.range (pa_cons (pv 1) pa_nil))
        (blkOk_by (N := ["_law_pen_here", "_law_many", "_law_k"]) (sc := defScope sOwners) (by decide +kernel)) (fun _ _ _ _ _ => pg_name (i := 2) sc_owners.nd rfl (Or.inl rfl)) (fun _ _ _ _ _ => pts_nil)
        (fun _ _ _ _ _ => pe_cal C hr (by decide) (by rfl) (pa_cons (pv 0) (pa_cons (pe_op op_add pe_int (pe_cal C hr (by decide) (by rfl) (pa_cons (pv 0) (pa_cons pe_int pa_nil)))) pa_nil)))) pa_nil)))), ?_⟩
    refine ⟨.ref a, rfl, a, 3, rfl, pa, by decide, by decide, fun x1 H1 l1 u1 p1 b1 => ?_⟩
    refine ⟨1, x1, rfl, rfl, .ref a, rfl, a, 12, rfl, p1, by decide, by decide, fun x2 H2 l2 u2 p2 b2 => ?_⟩
    refine ⟨1, x2, rfl, rfl, by show 2 ≤ sizeLine; decide, fun l nl => ?_⟩
    have nla : l ≠ a := fun e => by
      obtain ⟨_, _, _, _, z, _⟩ := p2
      rw [e, z] at nl
      cases nl
    have sl : Same H2 (upd H2 l (.lst [.int (1 + x1), .int (1 + x2)])) := same_new nl
    refine ⟨.ref a, rfl, a, 2, rfl, p2.same sl, by decide, by decide, fun x3 H3 l3 u3 p3 b3 => ?_⟩
    have hl3 : H3 l = some (.lst [.int (1 + x1), .int (1 + x2)]) := b3 _ _ nla upd_same
    have bb : But a H H3 := (b1.trans b2).trans ((But.of sl).trans b3)
    obtain ⟨mn, hat, mn1, mn2⟩ : ∃ mn : Int, atI [V.int (1 + x1), V.int (1 + x2)] x3 = some (.int mn) ∧ 1 ≤ mn ∧ mn ≤ 12 := by
      have hx : x3 = 0 ∨ x3 = 1 := by omega
      rcases hx with rfl | rfl
      · exact ⟨1 + x1, rfl, by omega, by omega⟩
      · exact ⟨1 + x2, rfl, by omega, by omega⟩
    refine ⟨l, _, x3, _, rfl, rfl, .inl (.inl hl3), hat, ?_⟩
    refine ⟨.int mn, rfl, mn, rfl, by omega, by omega, fun D nD => ?_⟩
    have nDa : D ≠ a := fun e => by
      obtain ⟨_, _, _, _, z, _⟩ := p3
      rw [e, z] at nD
      cases nD
    refine lc_it walk_range (fun i H' => But a H3 H' ∧ PenAt H' a ∧ ∃ o : List Int, H' D = some (.lst (iV o)) ∧ o.length = i ∧ ∀ x ∈ o, 0 ≤ x ∧ x ≤ 5) ⟨But.of (same_new nD), p3.same (same_new nD), [], upd_same, rfl, fun x hx => by cases hx⟩
      (fun _ _ _ _ => trivial) (fun i x H4 H5 hi p y => ?_) (fun H4 p => ?_)
    · obtain ⟨rfl, rfl⟩ := y
      obtain ⟨b4, p4, o, hD, ol, oa⟩ := p
      refine ⟨rfl, .ref a, rfl, .ref a, rfl, a, 5, rfl, p4, by decide, by decide, fun x5 H6 l5 u5 p5 b5 => ⟨2, x5, rfl, rfl, a, 2 + x5, rfl, p5, by omega, by omega, fun x6 H7 l6 u6 p6 b6 => ?_⟩⟩
      have hD7 := b6 _ _ nDa (b5 _ _ nDa hD)
      refine ⟨iV o, hD7, by rw [iV_len]; exact small1000 (by omega), fun z o' hz e => ?_, ?_, o ++ [x6], ?_, by rw [List.length_append, ol]; rfl, fun x hx => ?_⟩
      · rw [upd_ne (ne_of_none e nD)]
        exact b6 _ _ hz (b5 _ _ hz (b4 _ _ hz e))
      · obtain ⟨c', g', n', m', h', bd⟩ := p6
        exact ⟨c', g', n', m', by rw [upd_ne (Ne.symm nDa)]; exact h', bd⟩
      · rw [upd_same]
        simp
      · rcases List.mem_append.mp hx with hx | hx
        · exact oa x hx
        · rw [List.mem_singleton.mp hx]
          omega
    · obtain ⟨b4, p4, o, hD, ol, oa⟩ := p
      refine ⟨D, _, rfl, .inl ⟨.inl (.inl hD), fun t nt => ?_⟩⟩
      exact q _ t o (bb.trans (b4.trans (But.of (same_new nt)))) (p4.same (same_new nt)) (.inl (.inl upd_same)) ⟨by omega, by omega, oa⟩
end
end K45
end W9
section W10
namespace K45
open PySem PySem.Spec PyProof.Rows L2
theorem sc_mixed : FnScope ["_law_pen_here", "_law_some", "_law_left", "_law_k"] ["_law_pen_here", "_law_some"] (defScope sMixed) := ⟨rfl, rfl, rfl, by decide +kernel, rfl, by decide +kernel, by decide +kernel⟩
theorem sc_deal : FnScope ["_law_pen_here", "_law_owners_here", "_law_stamps", "_law_found", "_law_stamp"] ["_law_pen_here", "_law_owners_here"] (defScope sDeal) := ⟨rfl, rfl, rfl, by decide +kernel, rfl, by decide +kernel, by decide +kernel⟩
def spMixed (K : PySem.W.Frag) : Sp := fun vs H Q _ => ∃ (a l : Addr) (ns : List Nat), vs = [.ref a, .ref l] ∧ PenAt H a ∧ SqL K H l (nV ns) ∧ ns.length ≤ 100 ∧
  ∀ H' p (ms : List Nat), But a H H' → PenAt H' a → H p = none → H' p = some (.lst (nV ms)) → ms.Perm ns → Q (.ref p) H'
def spDeal (K : PySem.W.Frag) : Sp := fun vs H Q _ => ∃ (a b : Addr) (o : List Int), vs = [.ref a, .ref b] ∧ PenAt H a ∧ SqT K H b (iV o) ∧ OwnOk o ∧
  ∀ H' p (d : Deal), But a H H' → PenAt H' a → DealAt K H' (.ref p) d → DealOk o.length d → Can o d → Q (.ref p) H'
theorem nV_erase : ∀ (l : List Nat) (k : Nat), (nV l).eraseIdx k = nV (l.eraseIdx k)
  | [], _ => rfl
  | _ :: _, 0 => rfl
  | x :: r, k + 1 => by
    show V.int (x : Int) :: (nV r).eraseIdx k = V.int (x : Int) :: nV (r.eraseIdx k)
    rw [nV_erase r k]
theorem erase_perm : ∀ (l : List Nat) (k x : Nat), l[k]? = some x → (x :: l.eraseIdx k).Perm l
  | [], _, _, h => by simp at h
  | y :: r, 0, x, h => by
    have e : y = x := Option.some.inj h
    subst e
    exact List.Perm.refl _
  | y :: r, k + 1, x, h => by
    have ih := erase_perm r k x h
    exact (List.Perm.swap y x _).trans (ih.cons y)
theorem PenAt.at {H H' : Hp} {a : Addr} (h : PenAt H a) (e : H' a = H a) : PenAt H' a := let ⟨c, f, n, m, h, b⟩ := h; ⟨c, f, n, m, e.trans h, b⟩
theorem PenAt.ne {H : Hp} {a b : Addr} (h : PenAt H a) (e : H b = none) : b ≠ a := fun z => by
  obtain ⟨_, _, _, _, h, _⟩ := h
  rw [z, h] at e
  cases e
section
variable {P : Program} {w : World} {K : PySem.W.Frag} {mg : Str → Option Value} {base : Heap} {f : Addr} {fd : FuncData}
theorem ok_mixed {g : Addr} {gd : FuncData} (T : Txt mg) (F : Fun K "_law_mixed" "_law_mixed" sMixed f fd) (C : Cal P w K mg base 1 "_law_draw" ["_law_pen_here", "_law_bound"] spDraw g gd) :
    FnOk P w K mg base CX0 2 f fd ["_law_pen_here", "_law_some"] (spMixed K) := by
  refine F.ok sc_mixed (fun vs H Q E h => ?_) (fun cdv A outer s H vs Q E hr h => ?_)
  · obtain ⟨a, l, ns, rfl, _⟩ := h
    rfl
  · obtain ⟨a, l0, ns, rfl, pa, hL0, hn, q⟩ := h
    refine ⟨_, pss_cons (ps_set (i := 2) sc_mixed.nd rfl (.inr rfl) (pe_callTy call_list_of (by rfl) T.list boot_list (pa_cons (pv 1) pa_nil)))
      (pss_one (ps_ret (pe_lc (own := [("_law_k", 3)]) (g := gName 3) (tt := tYes) (te := tBM K "list" rPopAt (tVar 2) (tCons (tCall spDraw [] E0 (tCons (tVar 0) (tCons (tCB (rLenS K) (tCons (tVar 2) tNil)) tNil))) tNil)) rfl sc_mixed.nd
        (pi_range1 (by rfl) T.range (pa_cons (pe_callB call_len_seq (by rfl) T.len PySem.boot_len (pa_cons (pv 2) pa_nil)) pa_nil))
        (blkOk_by (N := ["_law_pen_here", "_law_some", "_law_left", "_law_k"]) (sc := defScope sMixed) (by decide +kernel)) (fun _ _ _ _ _ => pg_name (i := 3) sc_mixed.nd rfl (Or.inl rfl)) (fun _ _ _ _ _ => pts_nil)
        (fun _ _ _ _ _ => pe_bm PySem.F.plainAttrs_list PySem.F.slot_list_pop PySem.F.type_list_pop mt_popAt (pv 2) (pa_cons (pe_cal C hr (by decide) (by rfl) (pa_cons (pv 0) (pa_cons (pe_callB (r := rLenS K) (call_lenK rfl) (by rfl) T.len PySem.boot_len (pa_cons (pv 2) pa_nil)) pa_nil))) pa_nil))))), ?_⟩
    refine ⟨.ref l0, rfl, l0, _, rfl, .inl hL0, fun l nl => ?_⟩
    have sl : Same H (upd H l (.lst (nV ns))) := same_new nl
    have nla : l ≠ a := pa.ne nl
    have hl : (upd H l (.lst (nV ns))) l = some (.lst (nV ns)) := upd_same
    have pa1 := pa.same sl
    refine ⟨.ref l, rfl, l, _, rfl, .inl (.inl (.inl hl)), ((nV ns).length : Nat), rfl, by omega, by rw [nV_len]; omega, fun D nD => ?_⟩
    have nDa : D ≠ a := pa1.ne nD
    have nDl : D ≠ l := Ne.symm (ne_of_none hl nD)
    rw [nV_len, Int.toNat_natCast]
    refine lc_it walk_range (fun i H' => (∀ z o', z ≠ a → z ≠ l → (upd H l (.lst (nV ns))) z = some o' → H' z = some o') ∧ PenAt H' a ∧ ∃ acc left : List Nat, H' D = some (.lst (nV acc)) ∧ H' l = some (.lst (nV left)) ∧ (acc ++ left).Perm ns ∧ acc.length = i)
      ⟨fun z o' _ _ e => same_new nD _ _ e, pa1.same (same_new nD), [], ns, upd_same, same_new nD _ _ hl, List.Perm.refl _, rfl⟩ (fun _ _ _ _ => trivial) (fun i x H1 H2 hi p y => ?_) (fun H1 p => ?_)
    · obtain ⟨rfl, rfl⟩ := y
      obtain ⟨bt, p1, acc, left, hD, hL, pm, hal⟩ := p
      have hlen := pm.length_eq
      rw [List.length_append] at hlen
      refine ⟨rfl, .ref l, rfl, .inl ⟨rfl, _, .inl (.inl hL)⟩, .ref a, rfl, .ref l, rfl, l, _, rfl, .inl (.inl (.inl hL)), a, _, rfl, p1, ?_, ?_, fun d H3 d0 d1 p3 b3 => ?_⟩
      · rw [nV_len]
        omega
      · rw [nV_len]
        omega
      · rw [nV_len] at d1
        have hdl : d.toNat < left.length := by omega
        have hL3 := b3 _ _ nla hL
        have hD3 := b3 _ _ nDa hD
        have ex : left[d.toNat]? = some left[d.toNat] := List.getElem?_eq_getElem hdl
        refine ⟨l, nV left, d, d.toNat, _, rfl, rfl, hL3, by omega, by omega, ?_, nV_get ex, nV acc, ?_, ?_, fun z o' hz hzl e => ?_, ?_, acc ++ [left[d.toNat]], left.eraseIdx d.toNat, ?_, ?_, ?_, by rw [List.length_append, hal]; rfl⟩
        · exact seqIndex_of d0 (by rw [nV_len]; omega)
        · rw [upd_ne nDl]
          exact hD3
        · rw [nV_len]
          exact small1000 (by omega)
        · rw [upd_ne (ne_of_none e nD), upd_ne hzl]
          exact b3 _ _ hz (bt z o' hz hzl e)
        · exact p3.at (by rw [upd_ne (Ne.symm nDa), upd_ne (Ne.symm nla)])
        · rw [upd_same, nV_append]
          rfl
        · rw [upd_ne (Ne.symm nDl), upd_same, nV_erase]
        · rw [List.append_assoc]
          exact ((erase_perm left d.toNat _ ex).append_left acc).trans pm
    · obtain ⟨bt, p1, acc, left, hD, hL, pm, hal⟩ := p
      have hlen := pm.length_eq
      rw [List.length_append] at hlen
      have e0 : left = [] := List.length_eq_zero_iff.mp (by omega)
      rw [e0, List.append_nil] at pm
      exact q H1 D acc (fun z o' hz e => bt z o' hz (ne_of_none e nl) (sl _ _ e)) p1 (sl.free nD) hD pm

theorem rg_nV (n : Nat) : rgV 0 (n : Int) = nV (List.range n) := by
  unfold rgV
  rw [show ((n : Int) - 0).toNat = n by omega]
  refine List.map_congr_left fun j _ => ?_
  show V.int (0 + (j : Int)) = V.int (j : Int)
  rw [Int.zero_add]
theorem ok_deal {g1 g2 : Addr} {d1 d2 : FuncData} (T : Txt mg) (F : Fun K "_law_deal" "_law_deal" sDeal f fd) (C1 : Cal P w K mg base 1 "_law_draw" ["_law_pen_here", "_law_bound"] spDraw g1 d1)
    (C2 : Cal P w K mg base 2 "_law_mixed" ["_law_pen_here", "_law_some"] (spMixed K) g2 d2) : FnOk P w K mg base CX0 3 f fd ["_law_pen_here", "_law_owners_here"] (spDeal K) := by
  refine F.ok sc_deal (fun vs H Q E h => ?_) (fun cdv A outer s H vs Q E hr h => ?_)
  · obtain ⟨a, b, o, rfl, _⟩ := h
    rfl
  · obtain ⟨a, b, o, rfl, pa, hB, ok, q⟩ := h
    have lo1 := ok.ne
    have lo2 := ok.le
    refine ⟨_, pss_cons (ps_set (i := 2) sc_deal.nd rfl (.inl rfl) (pe_slice sl_list (pe_cal C2 hr (by decide) (by rfl) (pa_cons (pv 0) (pa_cons (pe_listRg rfl (by rfl) T.list (prg_1 (by rfl) T.range (pe_callB call_len_seq (by rfl) T.len PySem.boot_len (pa_cons (pv 1) pa_nil)))) pa_nil))) po_none
          (po_some (pe_op op_add pe_int (pe_cal C1 hr (by decide) (by rfl) (pa_cons (pv 0) (pa_cons (pe_ix ix_list (pe_lst (pa_cons pe_int (pa_cons pe_int pa_nil))) (pe_cal C1 hr (by decide) (by rfl) (pa_cons (pv 0) (pa_cons pe_int pa_nil))) (fun _ _ => rfl)) pa_nil)))))))
      (pss_cons (ps_set (i := 3) sc_deal.nd rfl (.inl rfl) (pe_lst pa_nil))
      (pss_cons (ps_for PassesOwn.never rfl (pi_list (pv 2)) (pg_name (i := 4) sc_deal.nd rfl (.inl rfl))
        (pss_one (ps_expr (pe_bm PySem.F.plainAttrs_list PySem.F.slot_list_append PySem.F.type_list_append mt_append (pv 3) (pa_cons (pe_tup (pa_cons (pv 4) (pa_cons (pe_ix ix_tup (pv 1) (pv 4) (fun _ _ => rfl))
          (pa_cons (pe_op op_mod (pe_op op_add (pe_op op_add (pe_ix ix_tup (pv 1) (pv 4) (fun _ _ => rfl)) pe_int) (pe_cal C1 hr (by decide) (by rfl) (pa_cons (pv 0) (pa_cons pe_int pa_nil)))) pe_int) pa_nil)))) pa_nil)))))
      (pss_one (ps_ret (pe_callTy call_tuple_of (by rfl) T.tuple boot_tuple (pa_cons (pv 3) pa_nil)))))), ?_⟩
    -- the stamps
    refine ⟨.ref a, rfl, .ref b, rfl, b, _, rfl, .inr hB, _, rfl, .of_le (Int.le_refl _) (by rw [iV_len]; omega) (by decide) (by omega), fun r nr => ?_⟩
    rw [iV_len, rg_nV]
    have sr : Same H (upd H r (.lst (nV (List.range o.length)))) := same_new nr
    refine ⟨a, r, _, rfl, pa.same sr, .inl (.inl upd_same), by rw [List.length_range]; omega, fun H1 p ms b1 p1 np hp pm => ?_⟩
    have bb1 : But a H H1 := (But.of sr).trans b1
    have npa : p ≠ a := (pa.same sr).ne np
    refine ⟨.ref a, rfl, by show 2 ≤ sizeLine; decide, fun l2 nl2 => ?_⟩
    have s2 : Same H1 (upd H1 l2 (.lst [.int 2, .int 6])) := same_new nl2
    have nl2a : l2 ≠ a := p1.ne nl2
    refine ⟨.ref a, rfl, a, 2, rfl, p1.same s2, by decide, by decide, fun x3 H3 l3 u3 p3 b3 => ?_⟩
    have hl3 : H3 l2 = some (.lst [.int 2, .int 6]) := b3 _ _ nl2a upd_same
    obtain ⟨mn, hat, mn1, mn2⟩ : ∃ mn : Int, atI [V.int 2, V.int 6] x3 = some (.int mn) ∧ 0 < mn ∧ mn ≤ 6 := by
      have hx : x3 = 0 ∨ x3 = 1 := by omega
      rcases hx with rfl | rfl
      · exact ⟨2, rfl, by omega, by omega⟩
      · exact ⟨6, rfl, by omega, by omega⟩
    refine ⟨l2, _, x3, _, rfl, rfl, .inl (.inl hl3), hat, a, mn, rfl, p3, mn1, by omega, fun x4 H4 l4 u4 p4 b4 => ⟨1, x4, rfl, rfl, 1 + x4, rfl, ?_⟩⟩
    have bb4 : But a H H4 := ((bb1.trans (But.of s2)).trans b3).trans b4
    have hp4 : H4 p = some (.lst (nV ms)) := b4 _ _ npa (b3 _ _ npa (s2 _ _ hp))
    refine ⟨p, _, rfl, .inl (.inl hp4), fun q2 nq2 => ?_⟩
    have ek : (1 + x4 : Int) = ((1 + x4.toNat : Nat) : Int) := by omega
    rw [ek, cut_take]
    have hms : ms.length = o.length := by
      have := pm.length_eq
      rw [List.length_range] at this
      exact this
    have hk : ∃ ks : List Nat, (nV ms).take (1 + x4.toNat) = nV ks ∧ 1 ≤ ks.length ∧ ks.length ≤ 6 ∧ ks.Nodup ∧ ∀ z ∈ ks, z < o.length := by
      refine ⟨ms.take (1 + x4.toNat), List.map_take.symm, ?_, ?_, (pm.nodup_iff.mpr List.nodup_range).sublist (List.take_sublist _ _), fun z hz => ?_⟩
      · rw [List.length_take]
        omega
      · rw [List.length_take]
        omega
      · exact List.mem_range.mp (pm.mem_iff.mp (List.mem_of_mem_take hz))
    obtain ⟨ks, ek2, k1, k6, knd, kall⟩ := hk
    rw [ek2]
    have s5 : Same H4 (upd H4 q2 (.lst (nV ks))) := same_new nq2
    have hq2 : (upd H4 q2 (.lst (nV ks))) q2 = some (.lst (nV ks)) := upd_same
    have nq2a : q2 ≠ a := p4.ne nq2
    have p5 := p4.same s5
    have bb5 : But a H (upd H4 q2 (.lst (nV ks))) := bb4.trans (But.of s5)
    refine ⟨Nat.zero_le _, fun fl nfl => ?_⟩
    have s6 : Same (upd H4 q2 (.lst (nV ks))) (upd (upd H4 q2 (.lst (nV ks))) fl (.lst [])) := same_new nfl
    have nfa : fl ≠ a := p5.ne nfl
    have nfq : fl ≠ q2 := Ne.symm (ne_of_none hq2 nfl)
    have nf0 : ∀ z o', z ≠ a → H z = some o' → z ≠ fl := fun z o' hz e => ne_of_none (bb5 z o' hz e) nfl
    have hB6 : ∀ H', But a H H' → SqT K H' b (iV o) := fun H' bt => bt.sqt pa.ls hB
    refine ⟨.ref q2, rfl, q2, rfl, ⟨_, .inl (.inl (s6 _ _ hq2))⟩, ?_⟩
    refine for_it walk_list (fun i σ H' => (∃ y4, σ = [some (V.ref a), some (V.ref b), some (V.ref q2), some (V.ref fl), y4]) ∧ But a H H' ∧ PenAt H' a ∧ H' q2 = some (.lst (nV ks)) ∧ ∃ (xs : List V) (d : Deal), H' fl = some (.lst xs) ∧ Paired (MvAt K H') xs d ∧ sts d = ks.take i ∧
        ∀ m ∈ d, o[m.1]? = some m.2.1 ∧ 0 ≤ m.2.2 ∧ m.2.2 ≤ 5 ∧ m.2.1 ≠ m.2.2)
      ⟨⟨_, rfl⟩, bb5.trans (But.of s6), p5.same s6, s6 _ _ hq2, [], [], upd_same, .nil, rfl, fun m hm => by cases hm⟩ (fun i σ H' _ p => .inl (.inl p.2.2.2.1)) (fun i x σ H6 H7 hi pP y => ?_) (fun σ H6 pP => ?_)
    · obtain ⟨rfl, hx⟩ := y
      obtain ⟨st, hst, rfl⟩ := nV_at hx
      obtain ⟨⟨y4, rfl⟩, bt, p6, hq6, xs, d, hf6, pd, hsd, hmv⟩ := pP
      have hsl := kall st (List.mem_of_getElem? hst)
      have ho : o[st]? = some o[st] := List.getElem?_eq_getElem hsl
      obtain ⟨g0, g1⟩ := ok.all _ (List.mem_of_getElem? ho)
      have hbt := hB6 _ bt
      refine ⟨.ref fl, rfl, .inl ⟨rfl, _, .inl (.inl hf6)⟩, .int st, rfl, .ref b, rfl, .int st, rfl, b, _, _, _, rfl, rfl, hbt, atI_nat (iV_get ho), ?_⟩
      refine ⟨.ref b, rfl, .int st, rfl, b, _, _, _, rfl, rfl, hbt, atI_nat (iV_get ho), o[st], 1, rfl, rfl, .ref a, rfl, a, 5, rfl, p6, by decide, by decide, fun x7 H8 l7 u7 p8 b8 => ⟨o[st] + 1, x7, rfl, rfl, _, 6, rfl, rfl, (by show (0 : Int) < 6; decide), ?_⟩⟩
      refine ⟨by show 3 ≤ sizeLine; decide, fun t nt => ?_⟩
      have hf8 := b8 _ _ nfa hf6
      have st8 := same_new (o := .tup [.int (st : Int), .int o[st], .int ((o[st] + 1 + x7) % 6)]) nt
      refine ⟨fl, xs, _, rfl, rfl, st8 _ _ hf8, ?_, ⟨_, rfl⟩, ?_, ?_, ?_, xs ++ [.ref t], d ++ [(st, o[st], (o[st] + 1 + x7) % 6)], upd_same, ?_, ?_, fun m hm => ?_⟩
      · have h1 : (sts d).length = d.length := by unfold sts; rw [List.length_map]
        have h2 := pr_len pd
        rw [hsd, List.length_take] at h1
        exact small1000 (by omega)
      · intro z o' hz e
        rw [upd_ne (nf0 z o' hz e)]
        exact st8 _ _ (b8 _ _ hz (bt z o' hz e))
      · exact (p8.same st8).at (by rw [upd_ne (Ne.symm nfa)])
      · rw [upd_ne (Ne.symm nfq)]
        exact st8 _ _ (b8 _ _ nq2a hq6)
      · have bfl : But fl (upd H8 t (.tup [.int (st : Int), .int o[st], .int ((o[st] + 1 + x7) % 6)])) (upd (upd H8 t (.tup [.int (st : Int), .int o[st], .int ((o[st] + 1 + x7) % 6)])) fl (.lst (xs ++ [.ref t]))) := but_upd
        have isf : IsLs (upd H8 t (.tup [.int (st : Int), .int o[st], .int ((o[st] + 1 + x7) % 6)])) fl := ⟨_, st8 _ _ hf8⟩
        refine pr_snoc (Paired.mapP pd fun _ _ h => ((h.stay (b8.tups p6.ls)).stay (same_tups st8)).stay (bfl.tups isf)) ⟨t, rfl, bfl.sqt isf (.inl (.inl upd_same))⟩
      · unfold sts at hsd ⊢
        rw [List.map_append, hsd, List.take_add_one, hst]
        rfl
      · rcases List.mem_append.mp hm with hm | hm
        · exact hmv m hm
        · rw [List.mem_singleton.mp hm]
          refine ⟨ho, ?_, ?_, ?_⟩
          · show 0 ≤ (o[st] + 1 + x7) % 6
            omega
          · show (o[st] + 1 + x7) % 6 ≤ 5
            omega
          · show o[st] ≠ (o[st] + 1 + x7) % 6
            omega
    · obtain ⟨⟨y4, rfl⟩, bt, p6, hq6, xs, d, hf6, pd, hsd, hmv⟩ := pP
      rw [nV_len, List.take_length] at hsd
      have hdl : d.length = ks.length := by
        rw [← hsd]
        unfold sts
        rw [List.length_map]
      refine ⟨.ref fl, rfl, fl, _, rfl, .inl ⟨.inl (.inl hf6), fun t nt => ?_⟩⟩
      have st := same_new (o := .tup xs) nt
      refine q _ t d (bt.trans (But.of st)) (p6.same st) ⟨t, xs, rfl, .inl (.inl upd_same), Paired.mapP pd fun _ _ h => h.stay (same_tups st)⟩ ⟨by omega, by omega, by rw [hsd]; exact knd, fun m hm => ?_⟩ (fun m hm => (hmv m hm).1)
      obtain ⟨h1, h2, h3, h4⟩ := hmv m hm
      obtain ⟨h5, h6⟩ := ok.all _ (List.mem_of_getElem? h1)
      exact ⟨(List.getElem?_eq_some_iff.mp h1).1, h5, h6, h2, h3, h4⟩
end
end K45
end W10
section W11
namespace K45
open PySem PySem.Spec PyProof.Rows L2
theorem sc_behind : FnScope ["_law_owners_here", "_law_deals_here", "_law_found", "_law_deal_here", "_law_stamp", "_law_giver", "_law_taker"] ["_law_owners_here", "_law_deals_here"] (defScope sBehind) := ⟨rfl, rfl, rfl, by decide +kernel, rfl, by decide +kernel, by decide +kernel⟩
theorem sc_deals : FnScope ["_law_pen_here", "_law_owners_here", "_law_most", "_law_found", "_law_k"] ["_law_pen_here", "_law_owners_here", "_law_most"] (defScope sDeals) := ⟨rfl, rfl, rfl, by decide +kernel, rfl, by decide +kernel, by decide +kernel⟩
def spBehind (K : PySem.W.Frag) : Sp := fun vs H Q _ => ∃ (a b : Addr) (o : List Int) (ds : List Deal), vs = [.ref a, .ref b] ∧ In2 K H a b o ds ∧ ∀ H' p, Same H H' → SqT K H' p (iV (behind o ds)) → Q (.ref p) H'
def spDeals (K : PySem.W.Frag) : Sp := fun vs H Q _ => ∃ (a b : Addr) (o : List Int), vs = [.ref a, .ref b, .int 10] ∧ PenAt H a ∧ SqT K H b (iV o) ∧ OwnOk o ∧
  ∀ H' p (ds : List Deal), But a H H' → PenAt H' a → DealsAt K H' p ds → Good o ds → Q (.ref p) H'
theorem step_own : ∀ (d : Deal) (o : List Int), (∀ x ∈ o, 0 ≤ x ∧ x ≤ 5) → (∀ m ∈ d, 0 ≤ m.2.2 ∧ m.2.2 ≤ 5) → ∀ x ∈ step o d, 0 ≤ x ∧ x ≤ 5
  | [], _, ho, _ => ho
  | m :: d, o, ho, hd => by
    rw [step_cons]
    refine step_own d _ (fun x hx => ?_) fun m' hm => hd m' (List.mem_cons_of_mem _ hm)
    rcases List.mem_or_eq_of_mem_set hx with hx | hx
    · exact ho x hx
    · rw [hx]
      exact hd m List.mem_cons_self
theorem behind_own : ∀ (ds : List Deal) (o : List Int), (∀ x ∈ o, 0 ≤ x ∧ x ≤ 5) → (∀ d ∈ ds, ∀ m ∈ d, 0 ≤ m.2.2 ∧ m.2.2 ≤ 5) → ∀ x ∈ behind o ds, 0 ≤ x ∧ x ≤ 5
  | [], _, ho, _ => ho
  | d :: ds, o, ho, hd => behind_own ds _ (step_own d o ho (hd d List.mem_cons_self)) fun d' h => hd d' (List.mem_cons_of_mem _ h)
theorem Good.behind {o : List Int} {ds : List Deal} (g : Good o ds) : OwnOk (behind o ds) := by
  refine ⟨?_, ?_, behind_own ds o g.own.all fun d hd m hm => ?_⟩
  · rw [behind_length]
    exact g.own.ne
  · rw [behind_length]
    exact g.own.le
  · have := (g.ok d hd).mv m hm
    exact ⟨this.2.2.2.1, this.2.2.2.2.1⟩
theorem Good.snoc {o : List Int} {ds : List Deal} {d : Deal} (g : Good o ds) (hl : ds.length < 10) (ok : DealOk o.length d) (can : Can (K45.behind o ds) d) : Good o (ds ++ [d]) :=
  ⟨g.own, by rw [List.length_append, List.length_singleton]; omega, fun e he => (List.mem_append.mp he).elim (g.ok e) fun h => by rw [List.mem_singleton.mp h]; exact ok, (valid_snoc _ _ _).mpr ⟨g.can, can⟩⟩
section
variable {P : Program} {w : World} {K : PySem.W.Frag} {mg : Str → Option Value} {base : Heap} {f : Addr} {fd : FuncData}
theorem ok_behind (T : Txt mg) (F : Fun K "_law_behind" "_law_behind" sBehind f fd) : FnOk P w K mg base CX0 1 f fd ["_law_owners_here", "_law_deals_here"] (spBehind K) := by
  refine F.ok sc_behind (fun vs H Q E h => ?_) (fun cdv A outer s H vs Q E hr h => ?_)
  · obtain ⟨a, b, o, ds, rfl, _⟩ := h
    rfl
  · obtain ⟨a, b, o, ds, rfl, ⟨hA, ⟨ws, hB, pw⟩, G⟩, q⟩ := h
    have wl : ws.length = ds.length := pr_len pw
    refine ⟨_, pss_cons (ps_set (i := 2) sc_behind.nd rfl (.inr rfl) (pe_callTy call_list_of (by rfl) T.list boot_list (pa_cons (pv 0) pa_nil)))
      (pss_cons (ps_for PassesOwn.never rfl (pi_tup (pv 1)) (pg_name (i := 3) sc_behind.nd rfl (.inl rfl))
        (pss_cons (ps_if (pt_cmpR (op_neD hr.units) (pe_lc (own := [("_law_stamp", 4), ("_law_giver", 5), ("_law_taker", 6)]) (g := gTup K 3 (gCons (gName 4) (gCons (gName 5) (gCons (gName 6) gNil)))) (by rfl) sc_behind.nd (pi_tup (pv 3))
              (blkOk_by (N := ["_law_owners_here", "_law_deals_here", "_law_found", "_law_deal_here", "_law_stamp", "_law_giver", "_law_taker"]) (sc := defScope sBehind) (by decide +kernel))
              (fun _ _ _ _ _ => pg_tup rfl (pgs_cons (pg_name (i := 4) sc_behind.nd rfl (Or.inl rfl)) (pgs_cons (pg_name (i := 5) sc_behind.nd rfl (Or.inl rfl)) (pgs_cons (pg_name (i := 6) sc_behind.nd rfl (Or.inl rfl)) pgs_nil))))
              (fun _ _ _ _ _ => pts_one (pt_cmpR op_ne (pe_ix (r := rIxL K) ix_list (pv 2) (pv 4) (fun _ _ => rfl)) (pv 5) (nomark _))) (fun _ _ _ _ _ => pe_int)) (pe_lst pa_nil) (nomark _))
            (pss_one (ps_ret pe_non)) pss_nil)
        (pss_one (ps_for PassesOwn.never rfl (pi_tup (pv 3)) (pg_tup rfl (pgs_cons (pg_name (i := 4) sc_behind.nd rfl (Or.inl rfl)) (pgs_cons (pg_name (i := 5) sc_behind.nd rfl (Or.inl rfl)) (pgs_cons (pg_name (i := 6) sc_behind.nd rfl (Or.inl rfl)) pgs_nil))))
          (pss_one (ps_asg (pv 6) (pg_sub (pv 2) (pv 4) set_list)))))))
      (pss_one (ps_ret (pe_callTy call_tuple_of (by rfl) T.tuple boot_tuple (pa_cons (pv 2) pa_nil))))), ?_⟩
    refine ⟨.ref a, rfl, a, _, rfl, .inr hA, fun l nl => ?_⟩
    have s1 : Same H (upd H l (.lst (iV o))) := same_new nl
    refine ⟨.ref b, rfl, b, rfl, ⟨_, same_sqt s1 hB⟩, ?_⟩
    refine for_it walk_tup (fun i σ H1 => (∃ y3 y4 y5 y6, σ = [some (V.ref a), some (V.ref b), some (V.ref l), y3, y4, y5, y6]) ∧ Same H H1 ∧ H1 l = some (.lst (iV (behind o (ds.take i))))) ⟨⟨_, _, _, _, rfl⟩, s1, upd_same⟩
      (fun i σ H1 _ p => same_sqt p.2.1 hB) (fun i x σ H1 H2 hi p y => ?_) (fun σ H1 p => ?_)
    · obtain ⟨rfl, hx⟩ := y
      obtain ⟨⟨y3, y4, y5, y6, rfl⟩, s2, hL⟩ := p
      obtain ⟨d, hd, c, ys, rfl, hc, pm⟩ := pr_at pw hx
      have okd := G.ok d (List.mem_of_getElem? hd)
      have cd := valid_at G.can hd
      have ly : ys.length = d.length := pr_len pm
      have hc2 := same_sqt s2 hc
      refine ⟨.ref c, rfl, c, rfl, ⟨_, hc2⟩, fun D nD => ?_⟩
      refine lc_it walk_tup (fun k H' => Same H2 H' ∧ H' D = some (.lst [])) ⟨same_new nD, upd_same⟩ (fun k H' _ p => same_sqt p.1 hc2) (fun k x H3 H4 hk p y => ?_) (fun H3 p => ?_)
      · obtain ⟨rfl, hx⟩ := y
        obtain ⟨m, hm, e, rfl, he⟩ := pr_at pm hx
        have cm := cd m (List.mem_of_getElem? hm)
        refine ⟨e, _, rfl, same_sqt (s2.trans p.1) he, rfl, _, _, rfl, _, _, rfl, _, _, rfl, rfl, rfl, ?_⟩
        refine ⟨.ref l, rfl, .int (m.1 : Int), rfl, l, _, _, .int m.2.1, rfl, rfl, .inl (.inl (p.1 _ _ hL)), atI_nat (iV_get cm), .int m.2.1, rfl, rfl, _, rfl, ?_⟩
        rw [decide_eq_true rfl]
        exact iteF p
      · obtain ⟨s3, hD⟩ := p
        refine ⟨Nat.zero_le _, fun D2 nD2 => ?_⟩
        have s4 := same_new (o := .lst []) nD2
        refine ⟨_, _, dp_lst (l := []) (.inl (.inl (s4 _ _ hD))), dp_lst (l := []) (.inl (.inl upd_same)), shaped_lst _, shaped_lst _, _, rfl, ?_⟩
        rw [eqv_lsts]
        refine iteF ?_
        have s5 := s3.trans s4
        have hL5 := s5 _ _ hL
        have s25 := s2.trans s5
        generalize upd H3 D2 (.lst []) = H5 at s5 hL5 s25 ⊢
        refine ⟨.ref c, rfl, c, rfl, ⟨_, same_sqt s25 hc⟩, ?_⟩
        refine for_it walk_tup (fun k σ H6 => (∃ y4 y5 y6, σ = [some (V.ref a), some (V.ref b), some (V.ref l), some (V.ref c), y4, y5, y6]) ∧ Same H H6 ∧ H6 l = some (.lst (iV (step (behind o (ds.take i)) (d.take k))))) ⟨⟨_, _, _, rfl⟩, s25, by rw [List.take_zero]; exact hL5⟩
          (fun k σ H6 _ p => same_sqt p.2.1 hc) (fun k x σ H6 H7 hk p y => ?_) (fun σ H6 p => ?_)
        · obtain ⟨rfl, hx⟩ := y
          obtain ⟨⟨z4, z5, z6, rfl⟩, s6, hL6⟩ := p
          obtain ⟨m, hm, e, rfl, he⟩ := pr_at pm hx
          have om := okd.mv m (List.mem_of_getElem? hm)
          refine ⟨e, _, rfl, same_sqt s6 he, rfl, _, _, rfl, _, _, rfl, _, _, rfl, rfl, ?_⟩
          refine ⟨.int m.2.2, rfl, .ref l, rfl, .int (m.1 : Int), rfl, l, _, _, m.1, rfl, rfl, hL6, ixN_nat ?_, ⟨_, _, _, rfl⟩, fun z o' e => ?_, ?_⟩
          · rw [iV_len, step_length, behind_length]
            exact om.1
          · rw [upd_ne (ne_of_none e nl)]
            exact s6 z o' e
          · rw [upd_same, List.take_add_one, hm]
            show some (HO.lst _) = some (HO.lst (iV (step (behind o (ds.take i)) (d.take k ++ [m]))))
            rw [step_snoc, ← List.map_set]
        · obtain ⟨⟨z4, z5, z6, rfl⟩, s6, hL6⟩ := p
          rw [ly, List.take_length] at hL6
          refine ⟨⟨_, _, _, _, rfl⟩, s6, ?_⟩
          rw [List.take_add_one, hd]
          show _ = some (HO.lst (iV (behind o (ds.take i ++ [d]))))
          rw [behind_snoc]
          exact hL6
    · obtain ⟨⟨y3, y4, y5, y6, rfl⟩, s2, hL⟩ := p
      rw [wl, List.take_length] at hL
      exact ⟨.ref l, rfl, l, _, rfl, .inl ⟨.inl (.inl hL), fun p np => q _ p (s2.trans (same_new np)) (.inl (.inl upd_same))⟩⟩

theorem ok_deals {g1 g2 g3 : Addr} {d1 d2 d3 : FuncData} (T : Txt mg) (F : Fun K "_law_deals" "_law_deals" sDeals f fd) (C1 : Cal P w K mg base 1 "_law_draw" ["_law_pen_here", "_law_bound"] spDraw g1 d1)
    (C2 : Cal P w K mg base 3 "_law_deal" ["_law_pen_here", "_law_owners_here"] (spDeal K) g2 d2) (C3 : Cal P w K mg base 1 "_law_behind" ["_law_owners_here", "_law_deals_here"] (spBehind K) g3 d3) :
    FnOk P w K mg base CX0 4 f fd ["_law_pen_here", "_law_owners_here", "_law_most"] (spDeals K) := by
  refine F.ok sc_deals (fun vs H Q E h => ?_) (fun cdv A outer s H vs Q E hr h => ?_)
  · obtain ⟨a, b, o, rfl, _⟩ := h
    rfl
  · obtain ⟨a, b, o, rfl, pa, hB, ok, q⟩ := h
    refine ⟨_, pss_cons (ps_set (i := 3) sc_deals.nd rfl (.inl rfl) (pe_tup pa_nil))
      (pss_cons (ps_for PassesOwn.never rfl (pi_range1 (by rfl) T.range (pa_cons (pe_cal C1 hr (by decide) (by rfl) (pa_cons (pv 0) (pa_cons (pe_op op_add (pv 2) pe_int) pa_nil))) pa_nil)) (pg_name (i := 4) sc_deals.nd rfl (.inl rfl))
        (pss_one (ps_set (i := 3) sc_deals.nd rfl (.inl rfl) (pe_op op_catA (pv 3) (pe_tup (pa_cons (pe_cal C2 hr (by decide) (by rfl) (pa_cons (pv 0) (pa_cons (pe_cal C3 hr (by decide) (by rfl) (pa_cons (pv 1) (pa_cons (pv 3) pa_nil))) pa_nil))) pa_nil))))))
      (pss_one (ps_ret (pv 3)))), ?_⟩
    refine ⟨Nat.zero_le _, fun t0 nt0 => ?_⟩
    have s0 := same_new (o := .tup []) nt0
    have ht0 : (upd H t0 (.tup [])) t0 = some (.tup []) := upd_same
    refine ⟨.ref a, rfl, .int 10, rfl, 10, 1, rfl, rfl, a, 11, rfl, pa.same s0, by decide, by decide, fun n H1 n0 n1 p1 b1 => ?_⟩
    have bb1 : But a H H1 := (But.of s0).trans b1
    refine ⟨n, rfl, by omega, by omega, ?_⟩
    refine for_it walk_range (fun i σ H' => ∃ (p : Addr) (y : Option V) (ds : List Deal), σ = [some (V.ref a), some (V.ref b), some (V.int 10), some (V.ref p), y] ∧ But a H H' ∧ PenAt H' a ∧ DealsAt K H' p ds ∧ Good o ds ∧ ds.length = i)
      ⟨t0, none, [], rfl, bb1, p1, ⟨[], b1.sqt (pa.same s0).ls (.inl (.inl ht0)), .nil⟩, ⟨ok, Nat.zero_le _, fun d hd => (by cases hd), trivial⟩, rfl⟩ (fun _ _ _ _ _ => trivial) (fun i x σ H2 H3 hi p y => ?_) (fun σ H2 p => ?_)
    · obtain ⟨rfl, rfl⟩ := y
      obtain ⟨p, y, ds, rfl, bt, p2, hD, G, hl⟩ := p
      have hB2 := bt.sqt pa.ls hB
      refine ⟨.ref p, rfl, .ref a, rfl, .ref b, rfl, .ref p, rfl, b, p, o, ds, rfl, ⟨hB2, hD, G⟩, fun H4 u s4 hu => ?_⟩
      refine ⟨a, u, _, rfl, p2.same s4, hu, G.behind, fun H5 e d b5 p5 hd okd cd => ?_⟩
      rw [behind_length] at okd
      refine ⟨by show 1 ≤ sizeLine; decide, fun t nt => ?_⟩
      have s6 := same_new (o := .tup [.ref e]) nt
      have bt5 : But a H H5 := (bt.trans (But.of s4)).trans b5
      have tp : Tups K H3 (upd H5 t (.tup [.ref e])) := fun z zs h => same_sqt s6 (b5.sqt (p2.same s4).ls (same_sqt s4 h))
      obtain ⟨xs, hX, px⟩ := hD.stay tp
      have hd6 := hd.stay (same_tups s6)
      have xl : xs.length = ds.length := pr_len px
      have Gs : Good o (ds ++ [d]) := G.snoc (by omega) okd cd
      have px' := pr_snoc px hd6
      refine ⟨p, t, xs, [.ref e], rfl, rfl, hX, .inl (.inl upd_same), lt1000 (by show xs.length + 1 ≤ 1000; omega), fun z => ?_, fun _ z => (by cases z), fun _ _ u2 nu2 => ?_⟩
      · rw [z] at px'
        refine ⟨t, _, ds ++ [d], rfl, bt5.trans (But.of s6), p5.same s6, ⟨_, .inl (.inl upd_same), px'⟩, Gs, by rw [List.length_append, hl]; rfl⟩
      · have s7 := same_new (o := .tup (xs ++ [.ref e])) nu2
        exact ⟨u2, _, ds ++ [d], rfl, bt5.trans (But.of (s6.trans s7)), p5.same (s6.trans s7), ⟨_, .inl (.inl upd_same), Paired.mapP px' fun _ _ h => h.stay (same_tups s7)⟩, Gs, by rw [List.length_append, hl]; rfl⟩
    · obtain ⟨p, y, ds, rfl, bt, p2, hD, G, hl⟩ := p
      exact ⟨.ref p, rfl, q H2 p ds bt p2 hD G⟩
end
end K45
end W11
section W12
namespace K45
open PySem PySem.Spec PyProof.Rows L2
theorem sc_shown : FnScope ["_law_owners_here", "_law_deals_here", "_law_false", "_law_gone", "_law_place", "_law_chain", "_law_one"] ["_law_owners_here", "_law_deals_here", "_law_false"] (defScope sShown) := ⟨rfl, rfl, rfl, by decide +kernel, rfl, by decide +kernel, by decide +kernel⟩
def spShown (K : PySem.W.Frag) : Sp := fun vs H Q _ => ∃ (a b : Addr) (o : List Int) (ds : List Deal) (f : Nat), vs = [.ref a, .ref b, .int (f : Int)] ∧ In2 K H a b o ds ∧ f < o.length ∧ ∀ H', Same H H' → Q (.bl true) H'
/-- two strictly rising lists of the same numbers are one -/
theorem rising_eq : ∀ (l m : List Int), l.Pairwise (· < ·) → m.Pairwise (· < ·) → (∀ x, x ∈ l ↔ x ∈ m) → l = m
  | [], [], _, _, _ => rfl
  | [], y :: m, _, _, h => absurd ((h y).mpr List.mem_cons_self) (by simp)
  | x :: l, [], _, _, h => absurd ((h x).mp List.mem_cons_self) (by simp)
  | x :: l, y :: m, hl, hm, h => by
    obtain ⟨l1, l2⟩ := List.pairwise_cons.mp hl
    obtain ⟨m1, m2⟩ := List.pairwise_cons.mp hm
    have e : x = y := by
      rcases List.mem_cons.mp ((h x).mp List.mem_cons_self) with e | hx
      · exact e
      · rcases List.mem_cons.mp ((h y).mpr List.mem_cons_self) with e | hy
        · exact e.symm
        · have a1 := m1 x hx
          have a2 := l1 y hy
          omega
    subst e
    rw [rising_eq l m l2 m2 fun z => ?_]
    constructor
    · intro hz
      rcases List.mem_cons.mp ((h z).mp (List.mem_cons_of_mem _ hz)) with e | hz'
      · have := l1 z hz
        omega
      · exact hz'
    · intro hz
      rcases List.mem_cons.mp ((h z).mpr (List.mem_cons_of_mem _ hz)) with e | hz'
      · have := m1 z hz
        omega
      · exact hz'
theorem walk_rg {n : Nat} : Walk (Itr 0 n) n (fun _ => True) (YFn fun i => .int ((i : Nat) : Int)) :=
  walk_range.mono (fun _ h => h) fun i H x H' _ _ y => ⟨y.1, by
    have e : x = V.int (0 + (i : Int)) := y.2
    rw [e, Int.zero_add]⟩
theorem cut_init (c : List Nat) : cutV (nV c) none (some (-1)) = nV c.dropLast := by
  rw [cut_last, nV_len, List.dropLast_eq_take]
  exact List.map_take.symm
section
variable {P : Program} {w : World} {K : PySem.W.Frag} {mg : Str → Option Value} {base : Heap} {f : Addr} {fd : FuncData}
theorem ok_shown {g1 g2 g3 : Addr} {d1 d2 d3 : FuncData} (T : Txt mg) (F : Fun K "_law_shown" "_law_shown" sShown f fd) (C1 : Cal P w K mg base 6 "fallen" ["owners", "deals", "stamp"] (spFallen K) g1 d1)
    (C2 : Cal P w K mg base 6 "chain_of" ["owners", "deals", "stamp", "place"] (spChainOf K) g2 d2) (C3 : Cal P w K mg base 6 "is_chain" ["owners", "deals", "stamp", "place", "thing"] (spIsChain K) g3 d3) :
    FnOk P w K mg base CX0 7 f fd ["_law_owners_here", "_law_deals_here", "_law_false"] (spShown K) := by
  refine F.ok sc_shown (fun vs H Q E h => ?_) (fun cdv A outer s H vs Q E hr h => ?_)
  · obtain ⟨a, b, o, ds, fs, rfl, _⟩ := h
    rfl
  · obtain ⟨a, b, o, ds, fs, rfl, I2, hf, q⟩ := h
    refine ⟨_, pss_cons (ps_set (i := 3) sc_shown.nd rfl (.inr rfl) (pe_cal C1 hr (by decide) (by rfl) (pa_cons (pv 0) (pa_cons (pv 1) (pa_cons (pv 2) pa_nil)))))
      (pss_cons (ps_for PassesOwn.never rfl (pi_range1 (by rfl) T.range (pa_cons (pe_callB call_len_seq (by rfl) T.len PySem.boot_len (pa_cons (pv 1) pa_nil)) pa_nil)) (pg_name (i := 4) sc_shown.nd rfl (.inl rfl))
        (pss_cons (ps_set (i := 5) sc_shown.nd rfl (.inl rfl) (pe_cal C2 hr (by decide) (by rfl) (pa_cons (pv 0) (pa_cons (pv 1) (pa_cons (pv 2) (pa_cons (pv 4) pa_nil))))))
        (pss_cons (ps_if (pt_cmpR op_eq (pe_cmp (pc_isN (pv 5)) rfl) (pe_cmpR op_in_seq (pv 4) (pv 3) (by rfl)) (nomark _)) (pss_one (ps_ret pe_bl)) pss_nil)
        (pss_one (ps_if (pt_cmp (pc_notN (pv 5)) rfl)
          (pss_cons (ps_if (pt_not (pt_val (pe_cal C3 hr (by decide) (by rfl) (pa_cons (pv 0) (pa_cons (pv 1) (pa_cons (pv 2) (pa_cons (pv 4) (pa_cons (pv 5) pa_nil)))))))) (pss_one (ps_ret pe_bl)) pss_nil)
          (pss_cons (ps_if (pt_cmpR (op_neD hr.units) (pe_lc (own := [("_law_one", 6)]) (g := gName 6) (by rfl) sc_shown.nd (pi_tup (pv 5))
              (blkOk_by (N := ["_law_owners_here", "_law_deals_here", "_law_false", "_law_gone", "_law_place", "_law_chain", "_law_one"]) (sc := defScope sShown) (by decide +kernel)) (fun _ _ _ _ _ => pg_name (i := 6) sc_shown.nd rfl (Or.inl rfl))
              (fun _ _ _ _ _ => pts_one (pt_cmpR (r := rIn K true) op_notIn_seq (pv 6) (pv 3) (by rfl))) (fun _ _ _ _ _ => pv 6)) (pe_lst pa_nil) (nomark _)) (pss_one (ps_ret pe_bl)) pss_nil)
          (pss_one (ps_if (PW.pt (pw_or (pt_cmpR (op_neD hr.units) (pe_callTy call_list_of (by rfl) T.list boot_list (pa_cons (pv 5) pa_nil))
                (pe_callB (r := rSortedSet w) (cr_sortedSet rfl) (by rfl) T.sorted boot_sorted (pa_cons (pe_callTy (r := rSetOf K w) (cr_setOf rfl) (by rfl) T.set boot_set (pa_cons (pv 5) pa_nil)) pa_nil)) (nomark _))
              (pw_or1 (pt_val (pe_cal C3 hr (by decide) (by rfl) (pa_cons (pv 0) (pa_cons (pv 1) (pa_cons (pv 2) (pa_cons (pv 4) (pa_cons (pe_slice sl_tupA (pv 5) po_none (po_some (pe_un un_neg pe_int))) pa_nil)))))))))) (pss_one (ps_ret pe_bl)) pss_nil)))) pss_nil)))))
      (pss_one (ps_ret pe_bl))), ?_⟩
    refine ⟨.ref a, rfl, .ref b, rfl, .int fs, rfl, a, b, o, ds, fs, rfl, I2, hf, fun H1 p s1 hp => ?_⟩
    obtain ⟨ws, hW, pw⟩ := (I2.stay (same_tups s1)).2.1
    have wl : ws.length = ds.length := pr_len pw
    have hlen := I2.2.2.len
    refine ⟨.ref b, rfl, b, _, rfl, .inr hW, _, rfl, by omega, by omega, ?_⟩
    rw [Int.toNat_natCast]
    refine for_it walk_rg (fun i σ H' => (∃ y4 y5 y6, σ = [some (V.ref a), some (V.ref b), some (V.int (fs : Int)), some (V.ref p), y4, y5, y6]) ∧ Same H H' ∧ SqT K H' p (nV (goneL ds fs))) ⟨⟨_, _, _, rfl⟩, s1, hp⟩ (fun _ _ _ _ _ => trivial) (fun i x σ H2 H3 hi pP y => ?_) (fun σ H2 pP => ?_)
    · obtain ⟨rfl, rfl⟩ := y
      obtain ⟨⟨y4, y5, y6, rfl⟩, s2, hp2⟩ := pP
      have I22 := I2.stay (same_tups s2)
      refine ⟨.ref a, rfl, .ref b, rfl, .int fs, rfl, .int (i : Nat), rfl, a, b, o, ds, fs, i, rfl, I22, hf, by omega, fun H4 x s4 hx => ?_⟩
      have s24 := s2.trans s4
      have hp4 := same_sqt s4 hp2
      refine ⟨x, rfl, .int (i : Nat), rfl, .ref p, rfl, p, _, rfl, .inr hp4, rfl, flat_nV _, rfl, _, rfl, ?_⟩
      show if decide (V.bl (decide (x = V.non)) = V.bl (inV (V.int (i : Int)) (nV (goneL ds fs)))) = true then _ else _
      rw [in_nV]
      have hfb := hx.fb
      have eg : decide (i ∈ goneL ds fs) = fb ds fs i := by
        cases h : fb ds fs i with
        | true => exact decide_eq_true (mem_gone.mpr (fb_iff.mp h))
        | false => exact decide_eq_false fun z => by rw [fb_iff.mpr (mem_gone.mp z)] at h; cases h
      rw [eg, ← hfb]
      have en : decide (V.bl (decide (x = V.non)) = V.bl (!decide (x = V.non))) = false := by
        cases decide (x = V.non) <;> rfl
      rw [en]
      refine iteF ?_
      rcases hx with ⟨rfl, hnf⟩ | ⟨t, c, rfl, ht, cp⟩
      · exact ⟨.non, rfl, _, rfl, iteF ⟨⟨_, _, _, rfl⟩, s24, hp4⟩⟩
      · refine ⟨.ref t, rfl, true, by rw [decide_eq_false (fun z => nomatch z)] <;> rfl, iteT ?_⟩
        have I24 := I2.stay (same_tups s24)
        have hcl := cp.len
        refine ⟨.ref a, rfl, .ref b, rfl, .int fs, rfl, .int (i : Nat), rfl, .ref t, rfl, a, b, t, o, ds, fs, i, c, rfl, I24, hf, by omega, ht, cp.lt, by omega, fun H5 r s5 hr5 => ?_⟩
        rw [hr5.mpr cp]
        refine ⟨true, rfl, iteF ?_⟩
        have ht5 := same_sqt s5 ht
        have hp5 := same_sqt s5 hp4
        refine ⟨.ref t, rfl, t, rfl, ⟨_, ht5⟩, fun D nD => ?_⟩
        refine lc_it walk_tup (fun k H' => Same H5 H' ∧ H' D = some (.lst [])) ⟨same_new nD, upd_same⟩ (fun k H' _ pp => same_sqt pp.1 ht5) (fun k x H6 H7 hk pp y => ?_) (fun H6 pp => ?_)
        · obtain ⟨rfl, hx⟩ := y
          obtain ⟨n, hn, rfl⟩ := nV_at hx
          have hng := mem_gone.mpr (cp.all (List.mem_of_getElem? hn))
          refine ⟨rfl, .int n, rfl, .ref p, rfl, p, _, rfl, .inr (same_sqt pp.1 hp5), rfl, flat_nV _, _, rfl, ?_⟩
          show if (!inV (V.int (n : Int)) (nV (goneL ds fs))) = true then _ else _
          rw [in_nV, decide_eq_true hng]
          exact iteF pp
        · obtain ⟨s6, hD⟩ := pp
          refine ⟨Nat.zero_le _, fun D2 nD2 => ?_⟩
          have s7 := same_new (o := .lst []) nD2
          refine ⟨_, _, dp_lst (l := []) (.inl (.inl (s7 _ _ hD))), dp_lst (l := []) (.inl (.inl upd_same)), shaped_lst _, shaped_lst _, _, rfl, ?_⟩
          rw [eqv_lsts]
          refine iteF ?_
          have s57 := s6.trans s7
          generalize upd H6 D2 (.lst []) = H7 at s7 s57 ⊢
          have ht7 := same_sqt s57 ht5
          -- list(chain) != sorted(set(chain))
          refine ⟨.ref t, rfl, t, _, rfl, .inr ht7, fun l nl => ?_⟩
          have s8 := same_new (o := .lst (nV c)) nl
          have ht8 := same_sqt s8 ht7
          have ht8' : SqT K (upd H7 l (.lst (nV c))) t (iV (c.map fun n : Nat => (n : Int))) := nV_ints c ▸ ht8
          refine ⟨.ref t, rfl, t, _, rfl, .inr ht8', by rw [List.length_map]; omega, fun p1 n1 np1 hn1 => ?_⟩
          rw [List.length_map] at hn1
          refine ⟨p1, _, n1, rfl, upd_same, by omega, fun ns p2 hrise hmem hnl np2 => ?_⟩
          have es : ns = c.map fun n : Nat => (n : Int) := by
            refine rising_eq _ _ hrise (List.Pairwise.map _ (fun x y h => by omega) cp.pairwise) fun z => ?_
            rw [hmem z]
            exact decide_eq_true_iff
          subst es
          have s9 := (same_new (o := SetO w p1 (fun k => decide (k ∈ c.map fun n : Nat => (n : Int))) n1) np1).trans (same_new (o := .lst (iV (c.map fun n : Nat => (n : Int)))) np2)
          have hl9 := (s9 _ _ (show (upd H7 l (.lst (nV c))) l = some (.lst (nV c)) from upd_same)).trans (congrArg (fun z => some (HO.lst z)) (nV_ints c))
          refine ⟨_, _, dp_lst (.inl (.inl hl9)), dp_lst (.inl (.inl upd_same)), shaped_lst _, shaped_lst _, _, rfl, ?_⟩
          rw [eqv_lsts, decide_eq_true rfl]
          refine iteF ?_
          have s49 := (s5.trans s57).trans (s8.trans s9)
          generalize upd (upd (upd H7 l (.lst (nV c))) p1 (SetO w p1 (fun k => decide (k ∈ c.map fun n : Nat => (n : Int))) n1)) p2 (.lst (iV (c.map fun n : Nat => (n : Int)))) = H9 at s49 ⊢
          have ht9 := same_sqt s49 ht
          refine ⟨.ref a, rfl, .ref b, rfl, .int fs, rfl, .int (i : Nat), rfl, .ref t, rfl, 1, rfl, -1, rfl, cut_tup ht9 fun H10 t2 s10 ht2 => ?_⟩
          rw [cut_init] at ht2
          have s210 := s24.trans (s49.trans s10)
          refine ⟨a, b, t2, o, ds, fs, i, c.dropLast, rfl, I2.stay (same_tups s210), hf, by omega, ht2, fun x hx => cp.lt x ((List.dropLast_sublist c).subset hx), by rw [List.length_dropLast]; omega, fun H11 r2 s11 hr11 => ?_⟩
          have er : r2 = false := by
            cases r2 with
            | false => rfl
            | true => exact absurd (hr11.mp rfl) cp.init_not
          subst er
          exact ⟨false, rfl, iteF ⟨⟨_, _, _, rfl⟩, s210.trans s11, same_sqt (s49.trans (s10.trans s11)) hp4⟩⟩
    · obtain ⟨⟨y4, y5, y6, rfl⟩, s2, hp2⟩ := pP
      exact q H2 s2
end
end K45
end W12
section W13
namespace K45
open PySem PySem.Spec PyProof.Rows L2
theorem sc_left_right : FnScope ["_law_owners_here", "_law_deals_here", "_law_false", "_law_gone", "_law_last", "_law_rest", "_law_stamp", "_law_moved", "_law_due", "_law_place", "_law_deal_here", "_law_move"] ["_law_owners_here", "_law_deals_here", "_law_false"] (defScope sLeftRight) := ⟨rfl, rfl, rfl, by decide +kernel, rfl, by decide +kernel, by decide +kernel⟩
def spLeftRight (K : PySem.W.Frag) : Sp := fun vs H Q _ => ∃ (a b : Addr) (o : List Int) (ds : List Deal) (f : Nat), vs = [.ref a, .ref b, .int (f : Int)] ∧ In2 K H a b o ds ∧ f < o.length ∧ ∀ H', Same H H' → Q (.bl true) H'
/-- the block of the places that move a stamp -/
def scMoved : Scope := { kind := .function, names := [(Str.ofString ".0", .local), (Str.ofString "_law_place", .local), (Str.ofString "_law_deals_here", .free), (Str.ofString "_law_stamp", .free)], isGenerator := false, isCoroutine := false, more := [] }
theorem mvs_dec {ds : List Deal} {q s : Nat} {d : Deal} (e : ds[q]? = some d) : decide (s ∈ sts d) = mvs ds q s := (mvs_some e).symm
section
variable {P : Program} {w : World} {K : PySem.W.Frag} {mg : Str → Option Value} {base : Heap} {f : Addr} {fd : FuncData}
theorem ok_left_right {g1 g2 g3 : Addr} {d1 d2 d3 : FuncData} (T : Txt mg) (F : Fun K "_law_left_right" "_law_left_right" sLeftRight f fd) (C1 : Cal P w K mg base 6 "fallen" ["owners", "deals", "stamp"] (spFallen K) g1 d1)
    (C2 : Cal P w K mg base 6 "owners_left" ["owners", "deals", "stamp"] (spOwnersLeft K) g2 d2) (C3 : Cal P w K mg base 6 "owners_behind" ["owners", "deals", "many"] (spOwnersBehind K) g3 d3) :
    FnOk P w K mg base CX0 7 f fd ["_law_owners_here", "_law_deals_here", "_law_false"] (spLeftRight K) := by
  refine F.ok sc_left_right (fun vs H Q E h => ?_) (fun cdv A outer s H vs Q E hr h => ?_)
  · obtain ⟨a, b, o, ds, fs, rfl, _⟩ := h
    rfl
  · obtain ⟨a, b, o, ds, fs, rfl, I2, hf, q⟩ := h
    have nd := sc_left_right.nd
    refine ⟨_, pss_cons (ps_asg (pe_tup (pa_cons (pe_cal C1 hr (by decide) (by rfl) (pa_cons (pv 0) (pa_cons (pv 1) (pa_cons (pv 2) pa_nil)))) (pa_cons (pe_cal C2 hr (by decide) (by rfl) (pa_cons (pv 0) (pa_cons (pv 1) (pa_cons (pv 2) pa_nil)))) pa_nil)))
          (pg_tup rfl (pgs_cons (pg_name (i := 3) nd rfl (.inr rfl)) (pgs_cons (pg_name (i := 4) nd rfl (.inl rfl)) pgs_nil))))
      (pss_cons (ps_set (i := 5) nd rfl (.inl rfl) (pe_callTy call_tuple_of (by rfl) T.tuple boot_tuple (pa_cons (pe_lc (own := [("_law_place", 9), ("_law_deal_here", 10)]) (g := gTup K 2 (gCons (gName 9) (gCons (gName 10) gNil))) (by rfl) nd
          (pi_enumT (by rfl) T.enum (pa_cons (pv 1) pa_nil))
          (blkOk_by (N := ["_law_owners_here", "_law_deals_here", "_law_false", "_law_gone", "_law_last", "_law_rest", "_law_stamp", "_law_moved", "_law_due", "_law_place", "_law_deal_here", "_law_move"]) (sc := defScope sLeftRight) (by decide +kernel))
          (fun _ _ _ _ _ => pg_tup rfl (pgs_cons (pg_name (i := 9) nd rfl (Or.inl rfl)) (pgs_cons (pg_name (i := 10) nd rfl (Or.inl rfl)) pgs_nil)))
          (fun _ _ _ _ _ => pts_one (pt_cmpR (r := rIn K true) op_notIn_seq (pv 9) (pv 3) (by rfl))) (fun _ _ _ _ _ => pv 10)) pa_nil)))
      (pss_cons (ps_if (PW.pt (pw_or (pt_cmpR (op_neD hr.units) (pe_cal C3 hr (by decide) (by rfl) (pa_cons (pv 0) (pa_cons (pv 5) (pa_cons (pe_callB call_len_seq (by rfl) T.len PySem.boot_len (pa_cons (pv 5) pa_nil)) pa_nil)))) (pv 4) (nomark _))
          (pw_or1 (pt_cmpR (op_neD hr.units) (pe_cal C1 hr (by decide) (by rfl) (pa_cons (pv 0) (pa_cons (pv 5) (pa_cons (pv 2) pa_nil)))) (pe_tup pa_nil) (nomark _))))) (pss_one (ps_ret pe_bl)) pss_nil)
      (pss_cons (ps_if (PW.pt (pw_or (pt_cmpR (op_neD hr.units) (pe_cal C2 hr (by decide) (by rfl) (pa_cons (pv 0) (pa_cons (pv 5) (pa_cons (pv 2) pa_nil)))) (pv 4) (nomark _))
          (pw_or1 (pt_cmpR op_ne (pe_ix ix_tup (pv 4) (pv 2) (fun _ _ => rfl)) (pe_ix ix_tup (pv 0) (pv 2) (fun _ _ => rfl)) (nomark _))))) (pss_one (ps_ret pe_bl)) pss_nil)
      (pss_cons (ps_for PassesOwn.never rfl (pi_range1 (by rfl) T.range (pa_cons (pe_callB call_len_seq (by rfl) T.len PySem.boot_len (pa_cons (pv 0) pa_nil)) pa_nil)) (pg_name (i := 6) nd rfl (.inr rfl))
        (pss_cons (ps_setLc (i := 7) (own := [("_law_place", 9)]) (g := gName 9) (by rfl) nd rfl rfl (sw_true rfl rfl rfl (by decide +kernel)) (pi_tup (pv 3))
            (blkOk_by (N := ["_law_owners_here", "_law_deals_here", "_law_false", "_law_gone", "_law_last", "_law_rest", "_law_stamp", "_law_moved", "_law_due", "_law_place", "_law_deal_here", "_law_move"]) (sc := defScope sLeftRight) (by decide +kernel))
            (fun _ _ _ _ _ => pg_name (i := 9) nd rfl (Or.inl rfl))
            (fun _ _ _ _ _ => pts_one (pt_cmpR (r := rIn K false) op_in_seq (pv 6)
              (pe_lc (own := [("_law_move", 11)]) (wi := iTup K (tOp (rIxT K) (tVar 1) (tVar 9))) (g := gName 11) (tt := tYes) (te := tOp (rIxT K) (tVar 11) (tC (.int 0))) rfl nd (pi_tup (pe_ix (r := rIxT K) ix_tup (pv 1) (pv 9) (fun _ _ => rfl)))
                (blkOk_by (N := ["_law_owners_here", "_law_deals_here", "_law_false", "_law_gone", "_law_last", "_law_rest", "_law_stamp", "_law_moved", "_law_due", "_law_place", "_law_deal_here", "_law_move"]) (sc := relS scMoved (defScope sLeftRight)) (by decide +kernel))
                (fun _ _ _ _ _ => pg_name (i := 11) nd rfl (Or.inl rfl)) (fun _ _ _ _ _ => pts_nil) (fun _ _ _ _ _ => pe_ix (r := rIxT K) ix_tup (pv 11) pe_int (fun _ _ => rfl))) (by rfl)))
            (fun _ _ _ _ _ => pv 9))
        (pss_cons (ps_set (i := 8) nd rfl (.inl rfl) (pe_ix ix_tup (pe_cal C3 hr (by decide) (by rfl) (pa_cons (pv 0) (pa_cons (pv 1) (pa_cons (pe_ix ix_list (pe_op op_cat (pv 7) (pe_lst (pa_cons (pe_callB call_len_seq (by rfl) T.len PySem.boot_len (pa_cons (pv 1) pa_nil)) pa_nil))) pe_int (fun _ _ => rfl)) pa_nil)))) (pv 6) (fun _ _ => rfl)))
        (pss_one (ps_if (pt_cmpR op_ne (pe_ix ix_tup (pv 4) (pv 6) (fun _ _ => rfl)) (pv 8) (nomark _)) (pss_one (ps_ret pe_bl)) pss_nil)))))
      (pss_one (ps_ret pe_bl)))))), ?_⟩
    have G := I2.2.2
    have hlen := G.len
    have gr := rest_good G fs
    -- gone, last
    refine ⟨.ref a, rfl, .ref b, rfl, .int fs, rfl, a, b, o, ds, fs, rfl, I2, hf, fun H1 p s1 hp => ?_⟩
    refine ⟨.ref a, rfl, .ref b, rfl, .int fs, rfl, a, b, o, ds, fs, rfl, I2.stay (same_tups s1), hf, fun H2 la s2 hla => ?_⟩
    refine ⟨by show 2 ≤ sizeLine; decide, fun t0 nt0 => ?_⟩
    have s3 := same_new (o := .tup [.ref p, .ref la]) nt0
    have sH3 := (s1.trans s2).trans s3
    have hp3 := same_sqt (s2.trans s3) hp
    have hla3 := same_sqt s3 hla
    refine ⟨t0, _, rfl, .inl (.inl upd_same), rfl, .ref p, _, rfl, .ref la, _, rfl, rfl, ?_⟩
    generalize upd H2 t0 (.tup [.ref p, .ref la]) = H3 at s3 sH3 hp3 hla3 ⊢
    obtain ⟨hA3, ⟨ws, hW3, pw⟩, _⟩ := I2.stay (same_tups sH3)
    have wl : ws.length = ds.length := pr_len pw
    -- the rest
    refine ⟨.ref b, rfl, b, ws, rfl, hW3, fun D nD => ?_⟩
    refine lc_it walk_enumT (fun k H' => Same H3 H' ∧ H' D = some (.lst (keepN ws (fb ds fs) k))) ⟨same_new nD, upd_same⟩ (fun k H' _ pp => same_sqt pp.1 hW3) (fun k x Ha Hb hk pp y => ?_) (fun H4 pp => ?_)
    · obtain ⟨T0, x1, x2, rfl, nT, rfl, hx1, hx2⟩ := y
      obtain rfl : x1 = .int (k : Nat) := (Option.some.inj hx1).symm
      have hx2 : ws[k]? = some x2 := hx2
      have sT := same_new (o := .tup [.int (k : Nat), x2]) nT
      refine ⟨T0, _, rfl, .inl (.inl upd_same), rfl, .int (k : Nat), _, rfl, x2, _, rfl, rfl, rfl, ?_⟩
      refine ⟨.int (k : Nat), rfl, .ref p, rfl, p, _, rfl, .inr (same_sqt (pp.1.trans sT) hp3), rfl, flat_nV _, _, rfl, ?_⟩
      show if (!inV (V.int (k : Int)) (nV (goneL ds fs))) = true then _ else _
      rw [in_nV]
      have ef : decide (k ∈ goneL ds fs) = fb ds fs k := by
        cases hfb : fb ds fs k with
        | true => exact decide_eq_true (mem_gone.mpr (fb_iff.mp hfb))
        | false => exact decide_eq_false fun z => by rw [fb_iff.mpr (mem_gone.mp z)] at hfb; cases hfb
      rw [ef]
      cases hfb : fb ds fs k with
      | true =>
        refine iteF ⟨pp.1.trans sT, ?_⟩
        have ek : keepN ws (fb ds fs) (k + 1) = keepN ws (fb ds fs) k := by
          show keepN ws (fb ds fs) k ++ _ = _
          rw [hx2]
          simp [hfb]
        rw [ek]
        exact sT _ _ pp.2
      | false =>
        refine iteT ⟨x2, rfl, _, sT _ _ pp.2, ?_, fun z o e => ?_, ?_⟩
        · have := keepN_len ws (fb ds fs) k
          exact small1000 (by omega)
        · rw [upd_ne (ne_of_none e nD)]
          exact sT _ _ (pp.1 z o e)
        · have ek : keepN ws (fb ds fs) (k + 1) = keepN ws (fb ds fs) k ++ [x2] := by
            show keepN ws (fb ds fs) k ++ _ = _
            rw [hx2]
            simp [hfb]
          rw [ek, upd_same]
    obtain ⟨s4, hD⟩ := pp
    rw [wl] at hD
    refine ⟨D, _, rfl, .inl ⟨.inl (.inl hD), fun r nr => ?_⟩⟩
    have s5 := s4.trans (same_new (o := .tup (keepN ws (fb ds fs) ds.length)) nr)
    have hr5 : SqT K (upd H4 r (.tup (keepN ws (fb ds fs) ds.length))) r (keepN ws (fb ds fs) ds.length) := .inl (.inl upd_same)
    have pr : Paired (DealAt K H3) (keepN ws (fb ds fs) ds.length) (rest ds fs) := keepN_pair pw ds.length
    have I2r : In2 K (upd H4 r (.tup (keepN ws (fb ds fs) ds.length))) a r o (rest ds fs) := ⟨same_sqt s5 hA3, ⟨_, hr5, Paired.mapP pr fun _ _ h => h.stay (same_tups s5)⟩, gr⟩
    have lr : (keepN ws (fb ds fs) ds.length).length = (rest ds fs).length := pr_len pr
    have hla5 := same_sqt s5 hla3
    have hp5 := same_sqt s5 hp3
    have sH5 := sH3.trans s5
    show tSeq _ _ _ _ (upd H4 r (.tup (keepN ws (fb ds fs) ds.length)))
    generalize upd H4 r (.tup (keepN ws (fb ds fs) ds.length)) = H5 at s5 hr5 I2r hla5 hp5 sH5 ⊢
    -- what stands can be done, and then none falls
    refine ⟨.ref a, rfl, .ref r, rfl, .ref r, rfl, r, _, rfl, .inr hr5, a, r, o, rest ds fs, (rest ds fs).length, by rw [lr] <;> rfl, I2r, Nat.le_refl _, fun H6 u s6 hu => ?_⟩
    rw [List.take_length] at hu
    refine ⟨.ref la, rfl, _, _, dp_tup hu, dp_tup (same_sqt s6 hla5), shaped_tup _, shaped_tup _, _, rfl, ?_⟩
    rw [eqv_tups, decide_eq_true rfl]
    refine iteF ?_
    refine ⟨.ref a, rfl, .ref r, rfl, .int fs, rfl, a, r, o, rest ds fs, fs, rfl, I2r.stay (same_tups s6), hf, fun H7 v s7 hv => ⟨Nat.zero_le _, fun t1 nt1 => ?_⟩⟩
    rw [rest_gone] at hv
    have s8 := same_new (o := .tup []) nt1
    refine ⟨_, _, dp_tup (l := []) (same_sqt s8 hv), dp_tup (l := []) (.inl (.inl upd_same)), shaped_tup _, shaped_tup _, _, rfl, ?_⟩
    rw [eqv_tups]
    refine iteF ?_
    have s58 := s6.trans (s7.trans s8)
    generalize upd H7 t1 (.tup []) = H8 at s8 s58 ⊢
    refine ⟨.ref a, rfl, .ref r, rfl, .int fs, rfl, a, r, o, rest ds fs, fs, rfl, I2r.stay (same_tups s58), hf, fun H9 u2 s9 hu2 => ?_⟩
    rw [rest_rest] at hu2
    have s59 := s58.trans s9
    have hla9 := same_sqt s59 hla5
    have hp9 := same_sqt s59 hp5
    have sH9 := sH5.trans s59
    obtain ⟨hA9, hB9, _⟩ := I2.stay (same_tups sH9)
    refine ⟨.ref la, rfl, _, _, dp_tup hu2, dp_tup hla9, shaped_tup _, shaped_tup _, _, rfl, ?_⟩
    rw [eqv_tups, decide_eq_true rfl]
    refine iteF ?_
    have eo : o[fs]? = some o[fs] := List.getElem?_eq_getElem hf
    have el := (rest_false G hf).trans eo
    refine ⟨.ref la, rfl, .int fs, rfl, la, _, _, _, rfl, rfl, hla9, atI_nat (iV_get el), .ref a, rfl, .int fs, rfl, a, _, _, _, rfl, rfl, hA9, atI_nat (iV_get eo), rfl, _, rfl, ?_⟩
    rw [decide_eq_true rfl]
    refine iteF ?_
    -- each stamp
    refine ⟨.ref a, rfl, a, _, rfl, .inr hA9, _, rfl, by omega, by rw [iV_len]; have := G.own.le; omega, ?_⟩
    rw [iV_len, Int.toNat_natCast]
    refine for_it walk_rg (fun i σ H' => (∃ y6 y7 y8 y9 y10 y11, σ = [some (V.ref a), some (V.ref b), some (V.int (fs : Int)), some (V.ref p), some (V.ref la), some (V.ref r), y6, y7, y8, y9, y10, y11]) ∧ Same H9 H') ⟨⟨_, _, _, _, _, _, rfl⟩, Same.refl _⟩ (fun _ _ _ _ _ => trivial) (fun i x σ Ha Hb hi pP y => ?_) (fun σ Ha pP => ?_)
    · obtain ⟨rfl, rfl⟩ := y
      obtain ⟨⟨y6, y7, y8, y9, y10, y11, rfl⟩, sa⟩ := pP
      have hpa := same_sqt sa hp9
      have hlaa := same_sqt sa hla9
      obtain ⟨ws', hWa, pw'⟩ := hB9.stay (same_tups sa)
      have wl' : ws'.length = ds.length := pr_len pw'
      have gl := gone_len ds fs
      refine ⟨.ref p, rfl, p, rfl, ⟨_, hpa⟩, fun D1 nD1 => ?_⟩
      refine lc_it walk_tup (fun k H' => Same Hb H' ∧ H' D1 = some (.lst (nV (((goneL ds fs).take k).filter fun q' => mvs ds q' i)))) ⟨same_new nD1, upd_same⟩ (fun k H' _ pp => same_sqt pp.1 hpa) (fun k x Hc Hd hk pp y => ?_) (fun Hc pp => ?_)
      · obtain ⟨rfl, hx⟩ := y
        obtain ⟨q', hq', rfl⟩ := nV_at hx
        rw [nV_len] at hk
        have hql := gone_lt (List.mem_of_getElem? hq')
        have hwq : ws'[q']? = some ws'[q'] := List.getElem?_eq_getElem (by omega)
        obtain ⟨d, hd, c, ys, ec, hc, pm⟩ := pr_at pw' hwq
        rw [ec] at hwq
        have ly : ys.length = d.length := pr_len pm
        have hsd : (sts d).length = d.length := by unfold sts; rw [List.length_map]
        have hd6 := G.six d (List.mem_of_getElem? hd)
        have hcd := same_sqt pp.1 hc
        refine ⟨rfl, .int (i : Nat), rfl, .ref b, rfl, .int (q' : Int), rfl, b, ws', _, .ref c, rfl, rfl, same_sqt pp.1 hWa, atI_nat hwq, c, rfl, ⟨_, hcd⟩, fun D2 nD2 => ?_⟩
        refine lc_it walk_tup (fun j H' => Same Hd H' ∧ H' D2 = some (.lst (nV ((sts d).take j)))) ⟨same_new nD2, upd_same⟩ (fun j H' _ p2 => same_sqt p2.1 hcd) (fun j x He Hf hj p2 y => ?_) (fun He p2 => ?_)
        · obtain ⟨rfl, hx⟩ := y
          obtain ⟨m, hm, e, rfl, he⟩ := pr_at pm hx
          refine ⟨rfl, .ref e, rfl, e, _, 0, .int (m.1 : Int), rfl, rfl, same_sqt (pp.1.trans p2.1) he, rfl, _, p2.2, ?_, fun z o' e' => ?_, ?_⟩
          · rw [nV_len, List.length_take]
            exact small1000 (by omega)
          · rw [upd_ne (ne_of_none e' nD2)]
            exact p2.1 z o' e'
          · have e1 : (sts d)[j]? = some m.1 := by
              unfold sts
              rw [List.getElem?_map, hm]
              rfl
            rw [upd_same, List.take_add_one, e1]
            simp
        · obtain ⟨se, hD2⟩ := p2
          rw [ly, ← hsd, List.take_length] at hD2
          refine ⟨D2, _, rfl, .inl (.inl (.inl hD2)), rfl, flat_nV _, _, rfl, ?_⟩
          show if inV (V.int (i : Int)) (nV (sts d)) = true then _ else _
          rw [in_nV, mvs_dec hd]
          have et : (goneL ds fs).take (k + 1) = (goneL ds fs).take k ++ [q'] := by
            rw [List.take_add_one, hq']
            rfl
          cases hm : mvs ds q' i with
          | true =>
            refine iteT ⟨.int (q' : Int), rfl, _, se _ _ pp.2, ?_, fun z o' e' => ?_, ?_⟩
            · rw [nV_len]
              have h1 := List.length_filter_le (fun q'' => mvs ds q'' i) ((goneL ds fs).take k)
              rw [List.length_take] at h1
              exact small1000 (by omega)
            · rw [upd_ne (ne_of_none e' nD1)]
              exact se _ _ (pp.1 z o' e')
            · rw [upd_same, et, List.filter_append]
              simp only [List.filter_cons, hm, List.filter_nil, if_true]
              rw [nV_append]
              rfl
          | false =>
            refine iteF ⟨pp.1.trans se, ?_⟩
            rw [et, List.filter_append]
            simp only [List.filter_cons, hm, List.filter_nil, Bool.false_eq_true, if_false, List.append_nil]
            exact se _ _ pp.2
      · obtain ⟨sc, hD1⟩ := pp
        rw [nV_len, List.take_length] at hD1
        have hWc := same_sqt sc hWa
        refine ⟨.ref a, rfl, .ref b, rfl, .ref D1, rfl, .ref b, rfl, b, _, rfl, .inr hWc, by show 1 ≤ sizeLine; decide, fun l1 nl1 => ?_⟩
        have sd := same_new (o := .lst [.int (ws'.length : Int)]) nl1
        have hfl := List.length_filter_le (fun q' => mvs ds q' i) (goneL ds fs)
        refine ⟨D1, l1, _, _, rfl, rfl, sd _ _ hD1, upd_same, by rw [nV_len]; exact lt1000 (by show _ + 1 ≤ 1000; omega), fun l2 nl2 => ?_⟩
        have sce := sc.trans (sd.trans (same_new (o := .lst (nV ((goneL ds fs).filter fun q' => mvs ds q' i) ++ [.int (ws'.length : Int)])) nl2))
        have ew : nV ((goneL ds fs).filter fun q' => mvs ds q' i) ++ [.int (ws'.length : Int)] = nV ((goneL ds fs).filter (fun q' => mvs ds q' i) ++ [ds.length]) := by
          rw [nV_append, wl']
          rfl
        obtain ⟨q0, hq0⟩ : ∃ q0, ((goneL ds fs).filter (fun q' => mvs ds q' i) ++ [ds.length])[0]? = some q0 := by
          cases (goneL ds fs).filter (fun q' => mvs ds q' i) with
          | nil => exact ⟨_, rfl⟩
          | cons z zs => exact ⟨z, rfl⟩
        obtain ⟨hql, hqd⟩ := rest_due G hi hq0
        have hat : atI (nV ((goneL ds fs).filter fun q' => mvs ds q' i) ++ [.int (ws'.length : Int)]) 0 = some (.int (q0 : Int)) := by
          rw [ew]
          exact atI_nat (j := 0) (nV_get hq0)
        refine ⟨l2, _, 0, _, rfl, rfl, .inl (.inl upd_same), hat, a, b, o, ds, q0, rfl, I2.stay (same_tups (sH9.trans (sa.trans sce))), hql, fun Hg u3 sg hu3 => ?_⟩
        obtain ⟨v0, hz⟩ : ∃ v0, (behind o (ds.take q0))[i]? = some v0 := ⟨_, List.getElem?_eq_getElem (by rw [behind_length]; exact hi)⟩
        have hz2 := hqd.trans hz
        refine ⟨.int (i : Nat), rfl, u3, _, _, _, rfl, rfl, hu3, atI_nat (iV_get hz), ?_⟩
        refine ⟨.ref la, rfl, .int (i : Nat), rfl, la, _, _, _, rfl, rfl, same_sqt (sce.trans sg) hlaa, atI_nat (iV_get hz2), _, rfl, rfl, _, rfl, ?_⟩
        rw [decide_eq_true rfl]
        exact iteF ⟨⟨_, _, _, _, _, _, rfl⟩, sa.trans (sce.trans sg)⟩
    · obtain ⟨⟨y6, y7, y8, y9, y10, y11, rfl⟩, sa⟩ := pP
      exact q Ha (sH9.trans sa)
end
end K45
end W13
section W14
namespace K45
open PySem PySem.Spec PyProof.Rows L2
theorem sc_law : FnScope ["_law_script", "_law_k", "_law_pen_here", "_law_owners_here", "_law_deals_here", "_law_stamp", "_law_gone", "_law_one"] ["_law_script"] (defScope sLaw) := ⟨rfl, rfl, rfl, by decide +kernel, rfl, by decide +kernel, by decide +kernel⟩
def spLaw (K : PySem.W.Frag) : Sp := fun vs H Q _ => ∃ (a : Addr) (ns : List Int), vs = [.ref a] ∧ SqL K H a (iV ns) ∧ ns.length ≤ 63 ∧ ∀ H', Q (.bl true) H'
theorem some_turns (n : Nat) : ∃ m : Int, m = (if (if (3 : Int) < (n : Int) then (3 : Int) else (n : Int)) > 1 then (if (3 : Int) < (n : Int) then (3 : Int) else (n : Int)) else 1) ∧ 1 ≤ m ∧ m ≤ 3 := by
  refine ⟨_, rfl, ?_, ?_⟩
  · split <;> omega
  · split
    · split <;> omega
    · omega
section
variable {P : Program} {w : World} {K : PySem.W.Frag} {mg : Str → Option Value} {base : Heap} {f : Addr} {fd : FuncData}
theorem ok_law {g1 g2 g3 g4 g5 g6 g7 : Addr} {d1 d2 d3 d4 d5 d6 d7 : FuncData} (T : Txt mg) (F : Fun K "law" "law" sLaw f fd) (C1 : Cal P w K mg base 1 "_law_pen" ["_law_cell"] spPen g1 d1)
    (C2 : Cal P w K mg base 1 "_law_cell_at" ["_law_script", "_law_k"] (spCellAt K) g2 d2) (C3 : Cal P w K mg base 2 "_law_owners" ["_law_pen_here"] (spOwners K) g3 d3)
    (C4 : Cal P w K mg base 4 "_law_deals" ["_law_pen_here", "_law_owners_here", "_law_most"] (spDeals K) g4 d4) (C5 : Cal P w K mg base 7 "_law_shown" ["_law_owners_here", "_law_deals_here", "_law_false"] (spShown K) g5 d5)
    (C6 : Cal P w K mg base 7 "_law_left_right" ["_law_owners_here", "_law_deals_here", "_law_false"] (spLeftRight K) g6 d6) (C7 : Cal P w K mg base 6 "fallen" ["owners", "deals", "stamp"] (spFallen K) g7 d7) :
    FnOk P w K mg base CX0 8 f fd ["_law_script"] (spLaw K) := by
  refine F.ok sc_law (fun vs H Q E h => ?_) (fun cdv A outer s H vs Q E hr h => ?_)
  · obtain ⟨a, ns, rfl, _⟩ := h
    rfl
  · obtain ⟨a, ns, rfl, hA, hns, q⟩ := h
    have nd := sc_law.nd
    refine ⟨_, pss_cons (ps_for PassesOwn.never rfl (pi_range1 (by rfl) T.range (pa_cons (pe_callB (call_max2 rfl) (by rfl) T.max (by decide +kernel) (pa_cons pe_int (pa_cons (pe_callB (call_min2 rfl) (by rfl) T.min (by decide +kernel)
            (pa_cons (pe_callB call_len_seq (by rfl) T.len PySem.boot_len (pa_cons (pv 0) pa_nil)) (pa_cons pe_int pa_nil))) pa_nil))) pa_nil)) (pg_name (i := 1) nd rfl (.inl rfl))
        (pss_cons (ps_set (i := 2) nd rfl (.inl rfl) (pe_cal C1 hr (by decide) (by rfl) (pa_cons (pe_cal C2 hr (by decide) (by rfl) (pa_cons (pv 0) (pa_cons (pv 1) pa_nil))) pa_nil)))
        (pss_cons (ps_set (i := 3) nd rfl (.inl rfl) (pe_cal C3 hr (by decide) (by rfl) (pa_cons (pv 2) pa_nil)))
        (pss_cons (ps_set (i := 4) nd rfl (.inr rfl) (pe_cal C4 hr (by decide) (by rfl) (pa_cons (pv 2) (pa_cons (pv 3) (pa_cons pe_int pa_nil)))))
        (pss_one (ps_for PassesOwn.never rfl (pi_range1 (by rfl) T.range (pa_cons (pe_callB call_len_seq (by rfl) T.len PySem.boot_len (pa_cons (pv 3) pa_nil)) pa_nil)) (pg_name (i := 5) nd rfl (.inl rfl))
          (pss_cons (ps_if (PW.pt (pw_or (pt_not (pt_val (pe_cal C5 hr (by decide) (by rfl) (pa_cons (pv 3) (pa_cons (pv 4) (pa_cons (pv 5) pa_nil))))))
              (pw_or1 (pt_not (pt_val (pe_cal C6 hr (by decide) (by rfl) (pa_cons (pv 3) (pa_cons (pv 4) (pa_cons (pv 5) pa_nil))))))))) (pss_one (ps_ret pe_bl)) pss_nil)
          (pss_cons (ps_set (i := 6) nd rfl (.inl rfl) (pe_cal C7 hr (by decide) (by rfl) (pa_cons (pv 3) (pa_cons (pv 4) (pa_cons (pv 5) pa_nil)))))
          (pss_one (ps_if (pt_cmpR (op_neD hr.units) (pe_cal C7 hr (by decide) (by rfl) (pa_cons (pv 3) (pa_cons (pe_slice sl_tupA (pv 4) po_none (po_some (pe_un un_neg pe_int))) (pa_cons (pv 5) pa_nil))))
              (pe_callTy call_tuple_of (by rfl) T.tuple boot_tuple (pa_cons (pe_lc (own := [("_law_one", 7)]) (g := gName 7) (by rfl) nd (pi_tup (pv 6))
                (blkOk_by (N := ["_law_script", "_law_k", "_law_pen_here", "_law_owners_here", "_law_deals_here", "_law_stamp", "_law_gone", "_law_one"]) (sc := defScope sLaw) (by decide +kernel)) (fun _ _ _ _ _ => pg_name (i := 7) nd rfl (Or.inl rfl))
                (fun _ _ _ _ _ => pts_one (pt_cmpR op_lt (pv 7) (pe_op op_sub (pe_callB (r := rLenS K) (call_lenK rfl) (by rfl) T.len PySem.boot_len (pa_cons (pv 4) pa_nil)) pe_int) (nomark _))) (fun _ _ _ _ _ => pv 7)) pa_nil)) (nomark _)) (pss_one (ps_ret pe_bl)) pss_nil))))))))))
      (pss_one (ps_ret pe_bl)), ?_⟩
    obtain ⟨m, em, m1, m3⟩ := some_turns (iV ns).length
    refine ⟨.ref a, rfl, a, _, rfl, .inl hA, _, _, rfl, 1, _, rfl, ?_⟩
    rw [← em]
    refine ⟨m, rfl, by omega, by omega, ?_⟩
    refine for_it walk_rg (fun i σ H' => (∃ y1 y2 y3 y4 y5 y6 y7, σ = [some (V.ref a), y1, y2, y3, y4, y5, y6, y7]) ∧ Same H H') ⟨⟨_, _, _, _, _, _, _, rfl⟩, Same.refl _⟩ (fun _ _ _ _ _ => trivial) (fun i x σ H1 H2 hi pP y => ?_) (fun σ H1 pP => ?_)
    · obtain ⟨rfl, rfl⟩ := y
      obtain ⟨⟨y1, y2, y3, y4, y5, y6, y7, rfl⟩, s1⟩ := pP
      refine ⟨.ref a, rfl, .int (i : Nat), rfl, a, ns, i, rfl, s1.seq hA, fun c => ⟨c, rfl, fun H3 pn s3 np hp => ?_⟩⟩
      refine ⟨.ref pn, rfl, pn, rfl, hp, fun H4 ow o b4 p4 ho ok => ?_⟩
      refine ⟨.ref pn, rfl, .ref ow, rfl, pn, ow, o, rfl, p4, ho, ok, fun H5 de ds b5 p5 hd G => ?_⟩
      have I5 : In2 K H5 ow de o ds := ⟨b5.sqt p4.ls ho, hd, G⟩
      have sH5 : Same H H5 := fun z o' e => by
        have e1 := s1 _ _ e
        have nz := ne_of_none e1 np
        exact b5 _ _ nz (b4 _ _ nz (s3 _ _ e1))
      have lo := ok.le
      refine ⟨.ref ow, rfl, ow, _, rfl, .inr I5.1, _, rfl, by omega, by rw [iV_len]; omega, ?_⟩
      rw [iV_len, Int.toNat_natCast]
      refine for_it walk_rg (fun j σ H' => (∃ z5 z6 z7, σ = [some (V.ref a), some (V.int (i : Nat)), some (V.ref pn), some (V.ref ow), some (V.ref de), z5, z6, z7]) ∧ Same H5 H') ⟨⟨_, _, _, rfl⟩, Same.refl _⟩ (fun _ _ _ _ _ => trivial) (fun j x σ Ha Hb hj pP y => ?_) (fun σ Ha pP => ?_)
      · obtain ⟨rfl, rfl⟩ := y
        obtain ⟨⟨z5, z6, z7, rfl⟩, sa⟩ := pP
        have Ia := I5.stay (same_tups sa)
        refine ⟨.ref ow, rfl, .ref de, rfl, .int (j : Nat), rfl, ow, de, o, ds, j, rfl, Ia, hj, fun H6 s6 => ⟨true, rfl, iteF ?_⟩⟩
        refine ⟨.ref ow, rfl, .ref de, rfl, .int (j : Nat), rfl, ow, de, o, ds, j, rfl, Ia.stay (same_tups s6), hj, fun H7 s7 => ⟨true, rfl, iteF ?_⟩⟩
        have s67 := s6.trans s7
        refine ⟨.ref ow, rfl, .ref de, rfl, .int (j : Nat), rfl, ow, de, o, ds, j, rfl, Ia.stay (same_tups s67), hj, fun H8 go s8 hgo => ?_⟩
        have s68 := s67.trans s8
        obtain ⟨hO8, ⟨ws, hW8, pw⟩, _⟩ := Ia.stay (same_tups s68)
        have wl : ws.length = ds.length := pr_len pw
        refine ⟨.ref ow, rfl, .ref de, rfl, 1, rfl, -1, rfl, cut_tup hW8 fun H9 p2 s9 hp2 => ?_⟩
        rw [cut_last, wl] at hp2
        refine ⟨.int (j : Nat), rfl, ow, p2, o, ds.take (ds.length - 1), j, rfl, ⟨same_sqt s9 hO8, ⟨_, hp2, Paired.mapP (pr_take _ pw) fun _ _ h => h.stay (same_tups s9)⟩, G.take _⟩, hj, fun H10 u s10 hu => ?_⟩
        rw [gone_take] at hu
        have s910 := s9.trans s10
        have hgo10 := same_sqt s910 hgo
        have hW10 := same_sqt s910 hW8
        refine ⟨.ref go, rfl, go, rfl, ⟨_, hgo10⟩, fun D nD => ?_⟩
        have gl := gone_len ds j
        have hlen := G.len
        refine lc_it walk_tup (fun k H' => Same H10 H' ∧ H' D = some (.lst (nV (((goneL ds j).take k).filter fun q' => decide (q' < ds.length - 1))))) ⟨same_new nD, upd_same⟩ (fun k H' _ pp => same_sqt pp.1 hgo10) (fun k x Hc Hd hk pp y => ?_) (fun Hc pp => ?_)
        · obtain ⟨rfl, hx⟩ := y
          obtain ⟨q', hq', rfl⟩ := nV_at hx
          rw [nV_len] at hk
          have et : (goneL ds j).take (k + 1) = (goneL ds j).take k ++ [q'] := by
            rw [List.take_add_one, hq']
            rfl
          refine ⟨rfl, .int (q' : Int), rfl, .ref de, rfl, de, ws, rfl, .inr (same_sqt pp.1 hW10), _, 1, rfl, rfl, (q' : Int), _, rfl, rfl, _, rfl, ?_⟩
          have ed : decide ((q' : Int) < (ws.length : Int) - 1) = decide (q' < ds.length - 1) := by
            by_cases h : q' < ds.length - 1
            · rw [decide_eq_true h, decide_eq_true (by omega)]
            · rw [decide_eq_false h, decide_eq_false (by omega)]
          rw [ed]
          cases hm : decide (q' < ds.length - 1) with
          | true =>
            refine iteT ⟨.int (q' : Int), rfl, _, pp.2, ?_, fun z o' e' => ?_, ?_⟩
            · rw [nV_len]
              have h1 := List.length_filter_le (fun q'' => decide (q'' < ds.length - 1)) ((goneL ds j).take k)
              rw [List.length_take] at h1
              exact small1000 (by omega)
            · rw [upd_ne (ne_of_none e' nD)]
              exact pp.1 z o' e'
            · rw [upd_same, et, List.filter_append]
              simp only [List.filter_cons, hm, List.filter_nil, if_true]
              rw [nV_append]
              rfl
          | false =>
            refine iteF ⟨pp.1, ?_⟩
            rw [et, List.filter_append]
            simp only [List.filter_cons, hm, List.filter_nil, Bool.false_eq_true, if_false, List.append_nil]
            exact pp.2
        · obtain ⟨sc, hD⟩ := pp
          rw [nV_len, List.take_length] at hD
          refine ⟨D, _, rfl, .inl ⟨.inl (.inl hD), fun t nt => ?_⟩⟩
          have st := sc.trans (same_new (o := .tup (nV ((goneL ds j).filter fun q' => decide (q' < ds.length - 1)))) nt)
          refine ⟨_, _, dp_tupN (same_sqt st hu), dp_tupN (.inl (.inl upd_same)), shaped_tup _, shaped_tup _, _, rfl, ?_⟩
          rw [eqv_tups, decide_eq_true rfl]
          exact iteF ⟨⟨_, _, _, rfl⟩, sa.trans (s68.trans (s910.trans st))⟩
      · obtain ⟨⟨z5, z6, z7, rfl⟩, sa⟩ := pP
        exact ⟨⟨_, _, _, _, _, _, _, rfl⟩, sH5.trans sa⟩
    · exact q H1
end
end K45
end W14
section W15
namespace K45
open PySem PySem.Spec PyProof.Rows L2
/-! ### what the top has written -/
theorem all_mk {l : PySem.W.OpenLaw} {w : World} {K : PySem.W.Frag} {h : Heap} {mg : Str → Option Value} {fa : Addr} (X : K.In h) (G : h.Ns mainGlobals mg) (hfa : mg "law" = some (.ref fa))
    {f1 : Addr} {od1 an1 : Option Addr} {sl1 : Array (Option Value)} {oc1 kV1 dc1 pm1 cd1 ct1 : Value}
    (a1 : PySem.W.nsIn K mainGlobals "is_whole" = some (some (.ref f1)))
    (l1 : K.lookup f1 = some ⟨oc1, od1, .func (PySem.W.fnOf "is_whole" "is_whole" (defArgs sIsWhole) (defBody sIsWhole) (defScope sIsWhole) .none kV1 dc1 pm1 an1 cd1 ct1), sl1⟩)
    (c1 : PySem.W.codeIn K cd1 "is_whole" = true) (k1 : PySem.W.keepIn K (.ref f1) = true)
    {f2 : Addr} {od2 an2 : Option Addr} {sl2 : Array (Option Value)} {oc2 kV2 dc2 pm2 cd2 ct2 : Value}
    (a2 : PySem.W.nsIn K mainGlobals "is_from" = some (some (.ref f2)))
    (l2 : K.lookup f2 = some ⟨oc2, od2, .func (PySem.W.fnOf "is_from" "is_from" (defArgs sIsFrom) (defBody sIsFrom) (defScope sIsFrom) .none kV2 dc2 pm2 an2 cd2 ct2), sl2⟩)
    (c2 : PySem.W.codeIn K cd2 "is_from" = true) (k2 : PySem.W.keepIn K (.ref f2) = true)
    {f3 : Addr} {od3 an3 : Option Addr} {sl3 : Array (Option Value)} {oc3 kV3 dc3 pm3 cd3 ct3 : Value}
    (a3 : PySem.W.nsIn K mainGlobals "are_owners" = some (some (.ref f3)))
    (l3 : K.lookup f3 = some ⟨oc3, od3, .func (PySem.W.fnOf "are_owners" "are_owners" (defArgs sAreOwners) (defBody sAreOwners) (defScope sAreOwners) .none kV3 dc3 pm3 an3 cd3 ct3), sl3⟩)
    (c3 : PySem.W.codeIn K cd3 "are_owners" = true) (k3 : PySem.W.keepIn K (.ref f3) = true)
    {f4 : Addr} {od4 an4 : Option Addr} {sl4 : Array (Option Value)} {oc4 kV4 dc4 pm4 cd4 ct4 : Value}
    (a4 : PySem.W.nsIn K mainGlobals "is_move" = some (some (.ref f4)))
    (l4 : K.lookup f4 = some ⟨oc4, od4, .func (PySem.W.fnOf "is_move" "is_move" (defArgs sIsMove) (defBody sIsMove) (defScope sIsMove) .none kV4 dc4 pm4 an4 cd4 ct4), sl4⟩)
    (c4 : PySem.W.codeIn K cd4 "is_move" = true) (k4 : PySem.W.keepIn K (.ref f4) = true)
    {f5 : Addr} {od5 an5 : Option Addr} {sl5 : Array (Option Value)} {oc5 kV5 dc5 pm5 cd5 ct5 : Value}
    (a5 : PySem.W.nsIn K mainGlobals "is_deal" = some (some (.ref f5)))
    (l5 : K.lookup f5 = some ⟨oc5, od5, .func (PySem.W.fnOf "is_deal" "is_deal" (defArgs sIsDeal) (defBody sIsDeal) (defScope sIsDeal) .none kV5 dc5 pm5 an5 cd5 ct5), sl5⟩)
    (c5 : PySem.W.codeIn K cd5 "is_deal" = true) (k5 : PySem.W.keepIn K (.ref f5) = true)
    {f6 : Addr} {od6 an6 : Option Addr} {sl6 : Array (Option Value)} {oc6 kV6 dc6 pm6 cd6 ct6 : Value}
    (a6 : PySem.W.nsIn K mainGlobals "done" = some (some (.ref f6)))
    (l6 : K.lookup f6 = some ⟨oc6, od6, .func (PySem.W.fnOf "done" "done" (defArgs sDone) (defBody sDone) (defScope sDone) .none kV6 dc6 pm6 an6 cd6 ct6), sl6⟩)
    (c6 : PySem.W.codeIn K cd6 "done" = true) (k6 : PySem.W.keepIn K (.ref f6) = true)
    {f7 : Addr} {od7 an7 : Option Addr} {sl7 : Array (Option Value)} {oc7 kV7 dc7 pm7 cd7 ct7 : Value}
    (a7 : PySem.W.nsIn K mainGlobals "all_done" = some (some (.ref f7)))
    (l7 : K.lookup f7 = some ⟨oc7, od7, .func (PySem.W.fnOf "all_done" "all_done" (defArgs sAllDone) (defBody sAllDone) (defScope sAllDone) .none kV7 dc7 pm7 an7 cd7 ct7), sl7⟩)
    (c7 : PySem.W.codeIn K cd7 "all_done" = true) (k7 : PySem.W.keepIn K (.ref f7) = true)
    {f8 : Addr} {od8 an8 : Option Addr} {sl8 : Array (Option Value)} {oc8 kV8 dc8 pm8 cd8 ct8 : Value}
    (a8 : PySem.W.nsIn K mainGlobals "need_deals" = some (some (.ref f8)))
    (l8 : K.lookup f8 = some ⟨oc8, od8, .func (PySem.W.fnOf "need_deals" "need_deals" (defArgs sNeedDeals) (defBody sNeedDeals) (defScope sNeedDeals) .none kV8 dc8 pm8 an8 cd8 ct8), sl8⟩)
    (c8 : PySem.W.codeIn K cd8 "need_deals" = true) (k8 : PySem.W.keepIn K (.ref f8) = true)
    {f9 : Addr} {od9 an9 : Option Addr} {sl9 : Array (Option Value)} {oc9 kV9 dc9 pm9 cd9 ct9 : Value}
    (a9 : PySem.W.nsIn K mainGlobals "need_within" = some (some (.ref f9)))
    (l9 : K.lookup f9 = some ⟨oc9, od9, .func (PySem.W.fnOf "need_within" "need_within" (defArgs sNeedWithin) (defBody sNeedWithin) (defScope sNeedWithin) .none kV9 dc9 pm9 an9 cd9 ct9), sl9⟩)
    (c9 : PySem.W.codeIn K cd9 "need_within" = true) (k9 : PySem.W.keepIn K (.ref f9) = true)
    {f10 : Addr} {od10 an10 : Option Addr} {sl10 : Array (Option Value)} {oc10 kV10 dc10 pm10 cd10 ct10 : Value}
    (a10 : PySem.W.nsIn K mainGlobals "owners_behind" = some (some (.ref f10)))
    (l10 : K.lookup f10 = some ⟨oc10, od10, .func (PySem.W.fnOf "owners_behind" "owners_behind" (defArgs sOwnersBehind) (defBody sOwnersBehind) (defScope sOwnersBehind) .none kV10 dc10 pm10 an10 cd10 ct10), sl10⟩)
    (c10 : PySem.W.codeIn K cd10 "owners_behind" = true) (k10 : PySem.W.keepIn K (.ref f10) = true)
    {f11 : Addr} {od11 an11 : Option Addr} {sl11 : Array (Option Value)} {oc11 kV11 dc11 pm11 cd11 ct11 : Value}
    (a11 : PySem.W.nsIn K mainGlobals "leans" = some (some (.ref f11)))
    (l11 : K.lookup f11 = some ⟨oc11, od11, .func (PySem.W.fnOf "leans" "leans" (defArgs sLeans) (defBody sLeans) (defScope sLeans) .none kV11 dc11 pm11 an11 cd11 ct11), sl11⟩)
    (c11 : PySem.W.codeIn K cd11 "leans" = true) (k11 : PySem.W.keepIn K (.ref f11) = true)
    {f12 : Addr} {od12 an12 : Option Addr} {sl12 : Array (Option Value)} {oc12 kV12 dc12 pm12 cd12 ct12 : Value}
    (a12 : PySem.W.nsIn K mainGlobals "chains_in" = some (some (.ref f12)))
    (l12 : K.lookup f12 = some ⟨oc12, od12, .func (PySem.W.fnOf "chains_in" "chains_in" (defArgs sChainsIn) (defBody sChainsIn) (defScope sChainsIn) .none kV12 dc12 pm12 an12 cd12 ct12), sl12⟩)
    (c12 : PySem.W.codeIn K cd12 "chains_in" = true) (k12 : PySem.W.keepIn K (.ref f12) = true)
    {f13 : Addr} {od13 an13 : Option Addr} {sl13 : Array (Option Value)} {oc13 kV13 dc13 pm13 cd13 ct13 : Value}
    (a13 : PySem.W.nsIn K mainGlobals "falls_in" = some (some (.ref f13)))
    (l13 : K.lookup f13 = some ⟨oc13, od13, .func (PySem.W.fnOf "falls_in" "falls_in" (defArgs sFallsIn) (defBody sFallsIn) (defScope sFallsIn) .none kV13 dc13 pm13 an13 cd13 ct13), sl13⟩)
    (c13 : PySem.W.codeIn K cd13 "falls_in" = true) (k13 : PySem.W.keepIn K (.ref f13) = true)
    {f14 : Addr} {od14 an14 : Option Addr} {sl14 : Array (Option Value)} {oc14 kV14 dc14 pm14 cd14 ct14 : Value}
    (a14 : PySem.W.nsIn K mainGlobals "fallen" = some (some (.ref f14)))
    (l14 : K.lookup f14 = some ⟨oc14, od14, .func (PySem.W.fnOf "fallen" "fallen" (defArgs sFallen) (defBody sFallen) (defScope sFallen) .none kV14 dc14 pm14 an14 cd14 ct14), sl14⟩)
    (c14 : PySem.W.codeIn K cd14 "fallen" = true) (k14 : PySem.W.keepIn K (.ref f14) = true)
    {f15 : Addr} {od15 an15 : Option Addr} {sl15 : Array (Option Value)} {oc15 kV15 dc15 pm15 cd15 ct15 : Value}
    (a15 : PySem.W.nsIn K mainGlobals "owners_left" = some (some (.ref f15)))
    (l15 : K.lookup f15 = some ⟨oc15, od15, .func (PySem.W.fnOf "owners_left" "owners_left" (defArgs sOwnersLeft) (defBody sOwnersLeft) (defScope sOwnersLeft) .none kV15 dc15 pm15 an15 cd15 ct15), sl15⟩)
    (c15 : PySem.W.codeIn K cd15 "owners_left" = true) (k15 : PySem.W.keepIn K (.ref f15) = true)
    {f16 : Addr} {od16 an16 : Option Addr} {sl16 : Array (Option Value)} {oc16 kV16 dc16 pm16 cd16 ct16 : Value}
    (a16 : PySem.W.nsIn K mainGlobals "chain_of" = some (some (.ref f16)))
    (l16 : K.lookup f16 = some ⟨oc16, od16, .func (PySem.W.fnOf "chain_of" "chain_of" (defArgs sChainOf) (defBody sChainOf) (defScope sChainOf) .none kV16 dc16 pm16 an16 cd16 ct16), sl16⟩)
    (c16 : PySem.W.codeIn K cd16 "chain_of" = true) (k16 : PySem.W.keepIn K (.ref f16) = true)
    {f17 : Addr} {od17 an17 : Option Addr} {sl17 : Array (Option Value)} {oc17 kV17 dc17 pm17 cd17 ct17 : Value}
    (a17 : PySem.W.nsIn K mainGlobals "is_chain" = some (some (.ref f17)))
    (l17 : K.lookup f17 = some ⟨oc17, od17, .func (PySem.W.fnOf "is_chain" "is_chain" (defArgs sIsChain) (defBody sIsChain) (defScope sIsChain) .none kV17 dc17 pm17 an17 cd17 ct17), sl17⟩)
    (c17 : PySem.W.codeIn K cd17 "is_chain" = true) (k17 : PySem.W.keepIn K (.ref f17) = true)
    {f18 : Addr} {od18 an18 : Option Addr} {sl18 : Array (Option Value)} {oc18 kV18 dc18 pm18 cd18 ct18 : Value}
    (a18 : PySem.W.nsIn K mainGlobals "_law_pen" = some (some (.ref f18)))
    (l18 : K.lookup f18 = some ⟨oc18, od18, .func (PySem.W.fnOf "_law_pen" "_law_pen" (defArgs sPen) (defBody sPen) (defScope sPen) .none kV18 dc18 pm18 an18 cd18 ct18), sl18⟩)
    (c18 : PySem.W.codeIn K cd18 "_law_pen" = true) (k18 : PySem.W.keepIn K (.ref f18) = true)
    {f19 : Addr} {od19 an19 : Option Addr} {sl19 : Array (Option Value)} {oc19 kV19 dc19 pm19 cd19 ct19 : Value}
    (a19 : PySem.W.nsIn K mainGlobals "_law_cell_at" = some (some (.ref f19)))
    (l19 : K.lookup f19 = some ⟨oc19, od19, .func (PySem.W.fnOf "_law_cell_at" "_law_cell_at" (defArgs sCellAt) (defBody sCellAt) (defScope sCellAt) .none kV19 dc19 pm19 an19 cd19 ct19), sl19⟩)
    (c19 : PySem.W.codeIn K cd19 "_law_cell_at" = true) (k19 : PySem.W.keepIn K (.ref f19) = true)
    {f20 : Addr} {od20 an20 : Option Addr} {sl20 : Array (Option Value)} {oc20 kV20 dc20 pm20 cd20 ct20 : Value}
    (a20 : PySem.W.nsIn K mainGlobals "_law_draw" = some (some (.ref f20)))
    (l20 : K.lookup f20 = some ⟨oc20, od20, .func (PySem.W.fnOf "_law_draw" "_law_draw" (defArgs sDraw) (defBody sDraw) (defScope sDraw) .none kV20 dc20 pm20 an20 cd20 ct20), sl20⟩)
    (c20 : PySem.W.codeIn K cd20 "_law_draw" = true) (k20 : PySem.W.keepIn K (.ref f20) = true)
    {f21 : Addr} {od21 an21 : Option Addr} {sl21 : Array (Option Value)} {oc21 kV21 dc21 pm21 cd21 ct21 : Value}
    (a21 : PySem.W.nsIn K mainGlobals "_law_owners" = some (some (.ref f21)))
    (l21 : K.lookup f21 = some ⟨oc21, od21, .func (PySem.W.fnOf "_law_owners" "_law_owners" (defArgs sOwners) (defBody sOwners) (defScope sOwners) .none kV21 dc21 pm21 an21 cd21 ct21), sl21⟩)
    (c21 : PySem.W.codeIn K cd21 "_law_owners" = true) (k21 : PySem.W.keepIn K (.ref f21) = true)
    {f22 : Addr} {od22 an22 : Option Addr} {sl22 : Array (Option Value)} {oc22 kV22 dc22 pm22 cd22 ct22 : Value}
    (a22 : PySem.W.nsIn K mainGlobals "_law_mixed" = some (some (.ref f22)))
    (l22 : K.lookup f22 = some ⟨oc22, od22, .func (PySem.W.fnOf "_law_mixed" "_law_mixed" (defArgs sMixed) (defBody sMixed) (defScope sMixed) .none kV22 dc22 pm22 an22 cd22 ct22), sl22⟩)
    (c22 : PySem.W.codeIn K cd22 "_law_mixed" = true) (k22 : PySem.W.keepIn K (.ref f22) = true)
    {f23 : Addr} {od23 an23 : Option Addr} {sl23 : Array (Option Value)} {oc23 kV23 dc23 pm23 cd23 ct23 : Value}
    (a23 : PySem.W.nsIn K mainGlobals "_law_deal" = some (some (.ref f23)))
    (l23 : K.lookup f23 = some ⟨oc23, od23, .func (PySem.W.fnOf "_law_deal" "_law_deal" (defArgs sDeal) (defBody sDeal) (defScope sDeal) .none kV23 dc23 pm23 an23 cd23 ct23), sl23⟩)
    (c23 : PySem.W.codeIn K cd23 "_law_deal" = true) (k23 : PySem.W.keepIn K (.ref f23) = true)
    {f24 : Addr} {od24 an24 : Option Addr} {sl24 : Array (Option Value)} {oc24 kV24 dc24 pm24 cd24 ct24 : Value}
    (a24 : PySem.W.nsIn K mainGlobals "_law_behind" = some (some (.ref f24)))
    (l24 : K.lookup f24 = some ⟨oc24, od24, .func (PySem.W.fnOf "_law_behind" "_law_behind" (defArgs sBehind) (defBody sBehind) (defScope sBehind) .none kV24 dc24 pm24 an24 cd24 ct24), sl24⟩)
    (c24 : PySem.W.codeIn K cd24 "_law_behind" = true) (k24 : PySem.W.keepIn K (.ref f24) = true)
    {f25 : Addr} {od25 an25 : Option Addr} {sl25 : Array (Option Value)} {oc25 kV25 dc25 pm25 cd25 ct25 : Value}
    (a25 : PySem.W.nsIn K mainGlobals "_law_deals" = some (some (.ref f25)))
    (l25 : K.lookup f25 = some ⟨oc25, od25, .func (PySem.W.fnOf "_law_deals" "_law_deals" (defArgs sDeals) (defBody sDeals) (defScope sDeals) .none kV25 dc25 pm25 an25 cd25 ct25), sl25⟩)
    (c25 : PySem.W.codeIn K cd25 "_law_deals" = true) (k25 : PySem.W.keepIn K (.ref f25) = true)
    {f26 : Addr} {od26 an26 : Option Addr} {sl26 : Array (Option Value)} {oc26 kV26 dc26 pm26 cd26 ct26 : Value}
    (a26 : PySem.W.nsIn K mainGlobals "_law_shown" = some (some (.ref f26)))
    (l26 : K.lookup f26 = some ⟨oc26, od26, .func (PySem.W.fnOf "_law_shown" "_law_shown" (defArgs sShown) (defBody sShown) (defScope sShown) .none kV26 dc26 pm26 an26 cd26 ct26), sl26⟩)
    (c26 : PySem.W.codeIn K cd26 "_law_shown" = true) (k26 : PySem.W.keepIn K (.ref f26) = true)
    {f27 : Addr} {od27 an27 : Option Addr} {sl27 : Array (Option Value)} {oc27 kV27 dc27 pm27 cd27 ct27 : Value}
    (a27 : PySem.W.nsIn K mainGlobals "_law_left_right" = some (some (.ref f27)))
    (l27 : K.lookup f27 = some ⟨oc27, od27, .func (PySem.W.fnOf "_law_left_right" "_law_left_right" (defArgs sLeftRight) (defBody sLeftRight) (defScope sLeftRight) .none kV27 dc27 pm27 an27 cd27 ct27), sl27⟩)
    (c27 : PySem.W.codeIn K cd27 "_law_left_right" = true) (k27 : PySem.W.keepIn K (.ref f27) = true)
    {f28 : Addr} {od28 an28 : Option Addr} {sl28 : Array (Option Value)} {oc28 kV28 dc28 pm28 cd28 ct28 : Value}
    (a28 : PySem.W.nsIn K mainGlobals "law" = some (some (.ref f28)))
    (l28 : K.lookup f28 = some ⟨oc28, od28, .func (PySem.W.fnOf "law" "law" (defArgs sLaw) (defBody sLaw) (defScope sLaw) .none kV28 dc28 pm28 an28 cd28 ct28), sl28⟩)
    (c28 : PySem.W.codeIn K cd28 "law" = true) (k28 : PySem.W.keepIn K (.ref f28) = true)
    (z_isi : PySem.W.nsIn K mainGlobals "isinstance" = some none)
    (z_int : PySem.W.nsIn K mainGlobals "int" = some none)
    (z_bool : PySem.W.nsIn K mainGlobals "bool" = some none)
    (z_len : PySem.W.nsIn K mainGlobals "len" = some none)
    (z_tuple : PySem.W.nsIn K mainGlobals "tuple" = some none)
    (z_all : PySem.W.nsIn K mainGlobals "all" = some none)
    (z_set : PySem.W.nsIn K mainGlobals "set" = some none)
    (z_list : PySem.W.nsIn K mainGlobals "list" = some none)
    (z_enum : PySem.W.nsIn K mainGlobals "enumerate" = some none)
    (z_sorted : PySem.W.nsIn K mainGlobals "sorted" = some none)
    (z_min : PySem.W.nsIn K mainGlobals "min" = some none)
    (z_max : PySem.W.nsIn K mainGlobals "max" = some none)
    (z_zip : PySem.W.nsIn K mainGlobals "zip" = some none)
    (z_range : PySem.W.nsIn K mainGlobals "range" = some none)
    {t_stamps : Tok} (m_stamps : PySem.W.nsIn K mainGlobals "MOST_STAMPS" = some (some (.int 12 t_stamps)))
    {t_owner : Tok} (m_owner : PySem.W.nsIn K mainGlobals "MOST_OWNER" = some (some (.int 5 t_owner)))
    {t_deals : Tok} (m_deals : PySem.W.nsIn K mainGlobals "MOST_DEALS" = some (some (.int 10 t_deals)))
    {t_moves : Tok} (m_moves : PySem.W.nsIn K mainGlobals "MOST_MOVES" = some (some (.int 6 t_moves)))
    : ∃ fd : FuncData, (∀ (s : Shared) (v : Value), BindsTo s fd ⟨[v], []⟩ [("_law_script", v)]) ∧ ∀ base : Heap, K.In base → base.Ns mainGlobals mg → FnOk l.prog w K mg base CX0 8 fa fd ["_law_script"] (spLaw K) := by
  have e := hfa.symm.trans (PySem.W.mg_of X G a28)
  cases e
  have F1 := fun_mk (st := sIsWhole) l1 c1 k1
  have b1 := F1.binds (ps := ["thing"]) fun _ _ _ _ _ _ us hl => match us, hl with | [_], _ => rfl
  have F2 := fun_mk (st := sIsFrom) l2 c2 k2
  have b2 := F2.binds (ps := ["thing", "low", "high"]) fun _ _ _ _ _ _ us hl => match us, hl with | [_, _, _], _ => rfl
  have F3 := fun_mk (st := sAreOwners) l3 c3 k3
  have b3 := F3.binds (ps := ["thing"]) fun _ _ _ _ _ _ us hl => match us, hl with | [_], _ => rfl
  have F4 := fun_mk (st := sIsMove) l4 c4 k4
  have b4 := F4.binds (ps := ["many", "thing"]) fun _ _ _ _ _ _ us hl => match us, hl with | [_, _], _ => rfl
  have F5 := fun_mk (st := sIsDeal) l5 c5 k5
  have b5 := F5.binds (ps := ["many", "thing"]) fun _ _ _ _ _ _ us hl => match us, hl with | [_, _], _ => rfl
  have F6 := fun_mk (st := sDone) l6 c6 k6
  have b6 := F6.binds (ps := ["owners", "deal"]) fun _ _ _ _ _ _ us hl => match us, hl with | [_, _], _ => rfl
  have F7 := fun_mk (st := sAllDone) l7 c7 k7
  have b7 := F7.binds (ps := ["owners", "deals"]) fun _ _ _ _ _ _ us hl => match us, hl with | [_, _], _ => rfl
  have F8 := fun_mk (st := sNeedDeals) l8 c8 k8
  have b8 := F8.binds (ps := ["owners", "deals"]) fun _ _ _ _ _ _ us hl => match us, hl with | [_, _], _ => rfl
  have F9 := fun_mk (st := sNeedWithin) l9 c9 k9
  have b9 := F9.binds (ps := ["thing", "most"]) fun _ _ _ _ _ _ us hl => match us, hl with | [_, _], _ => rfl
  have F10 := fun_mk (st := sOwnersBehind) l10 c10 k10
  have b10 := F10.binds (ps := ["owners", "deals", "many"]) fun _ _ _ _ _ _ us hl => match us, hl with | [_, _, _], _ => rfl
  have F11 := fun_mk (st := sLeans) l11 c11 k11
  have b11 := F11.binds (ps := ["deals"]) fun _ _ _ _ _ _ us hl => match us, hl with | [_], _ => rfl
  have F12 := fun_mk (st := sChainsIn) l12 c12 k12
  have b12 := F12.binds (ps := ["deals", "false"]) fun _ _ _ _ _ _ us hl => match us, hl with | [_, _], _ => rfl
  have F13 := fun_mk (st := sFallsIn) l13 c13 k13
  have b13 := F13.binds (ps := ["deals", "false"]) fun _ _ _ _ _ _ us hl => match us, hl with | [_, _], _ => rfl
  have F14 := fun_mk (st := sFallen) l14 c14 k14
  have b14 := F14.binds (ps := ["owners", "deals", "stamp"]) fun _ _ _ _ _ _ us hl => match us, hl with | [_, _, _], _ => rfl
  have F15 := fun_mk (st := sOwnersLeft) l15 c15 k15
  have b15 := F15.binds (ps := ["owners", "deals", "stamp"]) fun _ _ _ _ _ _ us hl => match us, hl with | [_, _, _], _ => rfl
  have F16 := fun_mk (st := sChainOf) l16 c16 k16
  have b16 := F16.binds (ps := ["owners", "deals", "stamp", "place"]) fun _ _ _ _ _ _ us hl => match us, hl with | [_, _, _, _], _ => rfl
  have F17 := fun_mk (st := sIsChain) l17 c17 k17
  have b17 := F17.binds (ps := ["owners", "deals", "stamp", "place", "thing"]) fun _ _ _ _ _ _ us hl => match us, hl with | [_, _, _, _, _], _ => rfl
  have F18 := fun_mk (st := sPen) l18 c18 k18
  have b18 := F18.binds (ps := ["_law_cell"]) fun _ _ _ _ _ _ us hl => match us, hl with | [_], _ => rfl
  have F19 := fun_mk (st := sCellAt) l19 c19 k19
  have b19 := F19.binds (ps := ["_law_script", "_law_k"]) fun _ _ _ _ _ _ us hl => match us, hl with | [_, _], _ => rfl
  have F20 := fun_mk (st := sDraw) l20 c20 k20
  have b20 := F20.binds (ps := ["_law_pen_here", "_law_bound"]) fun _ _ _ _ _ _ us hl => match us, hl with | [_, _], _ => rfl
  have F21 := fun_mk (st := sOwners) l21 c21 k21
  have b21 := F21.binds (ps := ["_law_pen_here"]) fun _ _ _ _ _ _ us hl => match us, hl with | [_], _ => rfl
  have F22 := fun_mk (st := sMixed) l22 c22 k22
  have b22 := F22.binds (ps := ["_law_pen_here", "_law_some"]) fun _ _ _ _ _ _ us hl => match us, hl with | [_, _], _ => rfl
  have F23 := fun_mk (st := sDeal) l23 c23 k23
  have b23 := F23.binds (ps := ["_law_pen_here", "_law_owners_here"]) fun _ _ _ _ _ _ us hl => match us, hl with | [_, _], _ => rfl
  have F24 := fun_mk (st := sBehind) l24 c24 k24
  have b24 := F24.binds (ps := ["_law_owners_here", "_law_deals_here"]) fun _ _ _ _ _ _ us hl => match us, hl with | [_, _], _ => rfl
  have F25 := fun_mk (st := sDeals) l25 c25 k25
  have b25 := F25.binds (ps := ["_law_pen_here", "_law_owners_here", "_law_most"]) fun _ _ _ _ _ _ us hl => match us, hl with | [_, _, _], _ => rfl
  have F26 := fun_mk (st := sShown) l26 c26 k26
  have b26 := F26.binds (ps := ["_law_owners_here", "_law_deals_here", "_law_false"]) fun _ _ _ _ _ _ us hl => match us, hl with | [_, _, _], _ => rfl
  have F27 := fun_mk (st := sLeftRight) l27 c27 k27
  have b27 := F27.binds (ps := ["_law_owners_here", "_law_deals_here", "_law_false"]) fun _ _ _ _ _ _ us hl => match us, hl with | [_, _, _], _ => rfl
  have F28 := fun_mk (st := sLaw) l28 c28 k28
  have T : Txt mg := ⟨PySem.W.mg_none_of X G z_isi, PySem.W.mg_none_of X G z_int, PySem.W.mg_none_of X G z_bool, PySem.W.mg_none_of X G z_len, PySem.W.mg_none_of X G z_tuple, PySem.W.mg_none_of X G z_all, PySem.W.mg_none_of X G z_set, PySem.W.mg_none_of X G z_list, PySem.W.mg_none_of X G z_enum, PySem.W.mg_none_of X G z_sorted, PySem.W.mg_none_of X G z_min, PySem.W.mg_none_of X G z_max, PySem.W.mg_none_of X G z_zip, PySem.W.mg_none_of X G z_range, ⟨_, PySem.W.mg_of X G m_stamps⟩, ⟨_, PySem.W.mg_of X G m_owner⟩, ⟨_, PySem.W.mg_of X G m_deals⟩, ⟨_, PySem.W.mg_of X G m_moves⟩⟩
  refine ⟨PySem.W.fnOf "law" "law" (defArgs sLaw) (defBody sLaw) (defScope sLaw) .none kV28 dc28 pm28 an28 cd28 ct28, fun s v => .of_eq rfl, fun base _ _ => ?_⟩
  have C_IsWhole : Cal l.prog w K mg base 1 "is_whole" ["thing"] spIsWhole f1 _ := ⟨ok_is_whole T F1, F1.kp, b1, PySem.W.mg_of X G a1⟩
  have C_IsFrom : Cal l.prog w K mg base 2 "is_from" ["thing", "low", "high"] spIsFrom f2 _ := ⟨ok_is_from F2 C_IsWhole, F2.kp, b2, PySem.W.mg_of X G a2⟩
  have C_AreOwners : Cal l.prog w K mg base 3 "are_owners" ["thing"] (spAreOwners K) f3 _ := ⟨ok_are_owners T F3 C_IsFrom, F3.kp, b3, PySem.W.mg_of X G a3⟩
  have C_IsMove : Cal l.prog w K mg base 3 "is_move" ["many", "thing"] (spIsMove K) f4 _ := ⟨ok_is_move T F4 C_IsFrom, F4.kp, b4, PySem.W.mg_of X G a4⟩
  have C_IsDeal : Cal l.prog w K mg base 4 "is_deal" ["many", "thing"] (spIsDeal K) f5 _ := ⟨ok_is_deal T F5 C_IsMove, F5.kp, b5, PySem.W.mg_of X G a5⟩
  have C_Done : Cal l.prog w K mg base 1 "done" ["owners", "deal"] (spDone K) f6 _ := ⟨ok_done T F6, F6.kp, b6, PySem.W.mg_of X G a6⟩
  have C_AllDone : Cal l.prog w K mg base 2 "all_done" ["owners", "deals"] (spAllDone K) f7 _ := ⟨ok_all_done F7 C_Done, F7.kp, b7, PySem.W.mg_of X G a7⟩
  have C_NeedDeals : Cal l.prog w K mg base 5 "need_deals" ["owners", "deals"] (spNeedDeals K) f8 _ := ⟨ok_need_deals T F8 C_AreOwners C_IsDeal C_AllDone, F8.kp, b8, PySem.W.mg_of X G a8⟩
  have C_NeedWithin : Cal l.prog w K mg base 3 "need_within" ["thing", "most"] spNeedWithin f9 _ := ⟨ok_need_within F9 C_IsFrom, F9.kp, b9, PySem.W.mg_of X G a9⟩
  have C_OwnersBehind : Cal l.prog w K mg base 6 "owners_behind" ["owners", "deals", "many"] (spOwnersBehind K) f10 _ := ⟨ok_owners_behind T F10 C_NeedDeals C_NeedWithin C_AllDone, F10.kp, b10, PySem.W.mg_of X G a10⟩
  have C_Leans : Cal l.prog w K mg base 1 "leans" ["deals"] (spLeans K) f11 _ := ⟨ok_leans T F11, F11.kp, b11, PySem.W.mg_of X G a11⟩
  have C_ChainsIn : Cal l.prog w K mg base 2 "chains_in" ["deals", "false"] (spChainsIn K) f12 _ := ⟨ok_chains_in T F12 C_Leans, F12.kp, b12, PySem.W.mg_of X G a12⟩
  have C_FallsIn : Cal l.prog w K mg base 3 "falls_in" ["deals", "false"] (spFallsIn K) f13 _ := ⟨ok_falls_in T F13 C_ChainsIn, F13.kp, b13, PySem.W.mg_of X G a13⟩
  have C_Fallen : Cal l.prog w K mg base 6 "fallen" ["owners", "deals", "stamp"] (spFallen K) f14 _ := ⟨ok_fallen T F14 C_NeedDeals C_NeedWithin C_FallsIn, F14.kp, b14, PySem.W.mg_of X G a14⟩
  have C_OwnersLeft : Cal l.prog w K mg base 6 "owners_left" ["owners", "deals", "stamp"] (spOwnersLeft K) f15 _ := ⟨ok_owners_left T F15 C_NeedDeals C_NeedWithin C_FallsIn C_AllDone, F15.kp, b15, PySem.W.mg_of X G a15⟩
  have C_ChainOf : Cal l.prog w K mg base 6 "chain_of" ["owners", "deals", "stamp", "place"] (spChainOf K) f16 _ := ⟨ok_chain_of T F16 C_NeedDeals C_NeedWithin C_ChainsIn, F16.kp, b16, PySem.W.mg_of X G a16⟩
  have C_IsChain : Cal l.prog w K mg base 6 "is_chain" ["owners", "deals", "stamp", "place", "thing"] (spIsChain K) f17 _ := ⟨ok_is_chain T F17 C_NeedDeals C_NeedWithin C_IsWhole C_Leans, F17.kp, b17, PySem.W.mg_of X G a17⟩
  have C_Pen : Cal l.prog w K mg base 1 "_law_pen" ["_law_cell"] spPen f18 _ := ⟨ok_pen T F18, F18.kp, b18, PySem.W.mg_of X G a18⟩
  have C_CellAt : Cal l.prog w K mg base 1 "_law_cell_at" ["_law_script", "_law_k"] (spCellAt K) f19 _ := ⟨ok_cell_at T F19, F19.kp, b19, PySem.W.mg_of X G a19⟩
  have C_Draw : Cal l.prog w K mg base 1 "_law_draw" ["_law_pen_here", "_law_bound"] spDraw f20 _ := ⟨ok_draw T F20, F20.kp, b20, PySem.W.mg_of X G a20⟩
  have C_Owners : Cal l.prog w K mg base 2 "_law_owners" ["_law_pen_here"] (spOwners K) f21 _ := ⟨ok_owners T F21 C_Draw, F21.kp, b21, PySem.W.mg_of X G a21⟩
  have C_Mixed : Cal l.prog w K mg base 2 "_law_mixed" ["_law_pen_here", "_law_some"] (spMixed K) f22 _ := ⟨ok_mixed T F22 C_Draw, F22.kp, b22, PySem.W.mg_of X G a22⟩
  have C_Deal : Cal l.prog w K mg base 3 "_law_deal" ["_law_pen_here", "_law_owners_here"] (spDeal K) f23 _ := ⟨ok_deal T F23 C_Draw C_Mixed, F23.kp, b23, PySem.W.mg_of X G a23⟩
  have C_Behind : Cal l.prog w K mg base 1 "_law_behind" ["_law_owners_here", "_law_deals_here"] (spBehind K) f24 _ := ⟨ok_behind T F24, F24.kp, b24, PySem.W.mg_of X G a24⟩
  have C_Deals : Cal l.prog w K mg base 4 "_law_deals" ["_law_pen_here", "_law_owners_here", "_law_most"] (spDeals K) f25 _ := ⟨ok_deals T F25 C_Draw C_Deal C_Behind, F25.kp, b25, PySem.W.mg_of X G a25⟩
  have C_Shown : Cal l.prog w K mg base 7 "_law_shown" ["_law_owners_here", "_law_deals_here", "_law_false"] (spShown K) f26 _ := ⟨ok_shown T F26 C_Fallen C_ChainOf C_IsChain, F26.kp, b26, PySem.W.mg_of X G a26⟩
  have C_LeftRight : Cal l.prog w K mg base 7 "_law_left_right" ["_law_owners_here", "_law_deals_here", "_law_false"] (spLeftRight K) f27 _ := ⟨ok_left_right T F27 C_Fallen C_OwnersLeft C_OwnersBehind, F27.kp, b27, PySem.W.mg_of X G a27⟩
  exact ok_law T F28 C_Pen C_CellAt C_Owners C_Deals C_Shown C_LeftRight C_Fallen
end K45
end W15
open PySem PySem.W PyProof.Rows
set_option maxRecDepth 100000 in
set_option maxHeartbeats 0 in
theorem PySem.Challenge.cw_hingemount_k45_whole_a_false_stamp_takes_holds : PySem.Challenge.rw_hingemount_k45_whole_a_false_stamp_takes.Holds := by
  w_on; o_law; k_head; (case hw => w_witness2)
  k_fill
  refine L2.walk_of (l := PySem.Challenge.rw_hingemount_k45_whole_a_false_stamp_takes) (n := 63) (k := 8) (x := "_law_script") (CX := fun _ => L2.CX0) (sp := fun w => K45.spLaw _) rfl (by decide) rfl ⟨rfl, by decide, by decide⟩ (fun w h Y => PySem.W.kIn_of Y) ?F (fun _ _ a ns hl _ hS => ⟨a, ns, rfl, hS, hl, fun _ => rfl⟩) (fun _ _ _ _ _ h => h)
  case F =>
    intro w mg fa h KX G hmg
    refine' K45.all_mk KX G hmg ?a1 ?l1 ?c1 ?k1 ?a2 ?l2 ?c2 ?k2 ?a3 ?l3 ?c3 ?k3 ?a4 ?l4 ?c4 ?k4 ?a5 ?l5 ?c5 ?k5 ?a6 ?l6 ?c6 ?k6 ?a7 ?l7 ?c7 ?k7 ?a8 ?l8 ?c8 ?k8 ?a9 ?l9 ?c9 ?k9 ?a10 ?l10 ?c10 ?k10 ?a11 ?l11 ?c11 ?k11 ?a12 ?l12 ?c12 ?k12 ?a13 ?l13 ?c13 ?k13 ?a14 ?l14 ?c14 ?k14 ?a15 ?l15 ?c15 ?k15 ?a16 ?l16 ?c16 ?k16 ?a17 ?l17 ?c17 ?k17 ?a18 ?l18 ?c18 ?k18 ?a19 ?l19 ?c19 ?k19 ?a20 ?l20 ?c20 ?k20 ?a21 ?l21 ?c21 ?k21 ?a22 ?l22 ?c22 ?k22 ?a23 ?l23 ?c23 ?k23 ?a24 ?l24 ?c24 ?k24 ?a25 ?l25 ?c25 ?k25 ?a26 ?l26 ?c26 ?k26 ?a27 ?l27 ?c27 ?k27 ?a28 ?l28 ?c28 ?k28 ?z_isi ?z_int ?z_bool ?z_len ?z_tuple ?z_all ?z_set ?z_list ?z_enum ?z_sorted ?z_min ?z_max ?z_zip ?z_range ?m_stamps ?m_owner ?m_deals ?m_moves
    (case a1 => k_is)
    (case l1 => k_is)
    (case c1 => k_is)
    (case k1 => k_is)
    (case a2 => k_is)
    (case l2 => k_is)
    (case c2 => k_is)
    (case k2 => k_is)
    (case a3 => k_is)
    (case l3 => k_is)
    (case c3 => k_is)
    (case k3 => k_is)
    (case a4 => k_is)
    (case l4 => k_is)
    (case c4 => k_is)
    (case k4 => k_is)
    (case a5 => k_is)
    (case l5 => k_is)
    (case c5 => k_is)
    (case k5 => k_is)
    (case a6 => k_is)
    (case l6 => k_is)
    (case c6 => k_is)
    (case k6 => k_is)
    (case a7 => k_is)
    (case l7 => k_is)
    (case c7 => k_is)
    (case k7 => k_is)
    (case a8 => k_is)
    (case l8 => k_is)
    (case c8 => k_is)
    (case k8 => k_is)
    (case a9 => k_is)
    (case l9 => k_is)
    (case c9 => k_is)
    (case k9 => k_is)
    (case a10 => k_is)
    (case l10 => k_is)
    (case c10 => k_is)
    (case k10 => k_is)
    (case a11 => k_is)
    (case l11 => k_is)
    (case c11 => k_is)
    (case k11 => k_is)
    (case a12 => k_is)
    (case l12 => k_is)
    (case c12 => k_is)
    (case k12 => k_is)
    (case a13 => k_is)
    (case l13 => k_is)
    (case c13 => k_is)
    (case k13 => k_is)
    (case a14 => k_is)
    (case l14 => k_is)
    (case c14 => k_is)
    (case k14 => k_is)
    (case a15 => k_is)
    (case l15 => k_is)
    (case c15 => k_is)
    (case k15 => k_is)
    (case a16 => k_is)
    (case l16 => k_is)
    (case c16 => k_is)
    (case k16 => k_is)
    (case a17 => k_is)
    (case l17 => k_is)
    (case c17 => k_is)
    (case k17 => k_is)
    (case a18 => k_is)
    (case l18 => k_is)
    (case c18 => k_is)
    (case k18 => k_is)
    (case a19 => k_is)
    (case l19 => k_is)
    (case c19 => k_is)
    (case k19 => k_is)
    (case a20 => k_is)
    (case l20 => k_is)
    (case c20 => k_is)
    (case k20 => k_is)
    (case a21 => k_is)
    (case l21 => k_is)
    (case c21 => k_is)
    (case k21 => k_is)
    (case a22 => k_is)
    (case l22 => k_is)
    (case c22 => k_is)
    (case k22 => k_is)
    (case a23 => k_is)
    (case l23 => k_is)
    (case c23 => k_is)
    (case k23 => k_is)
    (case a24 => k_is)
    (case l24 => k_is)
    (case c24 => k_is)
    (case k24 => k_is)
    (case a25 => k_is)
    (case l25 => k_is)
    (case c25 => k_is)
    (case k25 => k_is)
    (case a26 => k_is)
    (case l26 => k_is)
    (case c26 => k_is)
    (case k26 => k_is)
    (case a27 => k_is)
    (case l27 => k_is)
    (case c27 => k_is)
    (case k27 => k_is)
    (case a28 => k_is)
    (case l28 => k_is)
    (case c28 => k_is)
    (case k28 => k_is)
    (case z_isi => k_is)
    (case z_int => k_is)
    (case z_bool => k_is)
    (case z_len => k_is)
    (case z_tuple => k_is)
    (case z_all => k_is)
    (case z_set => k_is)
    (case z_list => k_is)
    (case z_enum => k_is)
    (case z_sorted => k_is)
    (case z_min => k_is)
    (case z_max => k_is)
    (case z_zip => k_is)
    (case z_range => k_is)
    (case m_stamps => k_is)
    (case m_owner => k_is)
    (case m_deals => k_is)
    (case m_moves => k_is)
