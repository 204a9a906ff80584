import PyProof.Rows.All
import Wide.All
import OpenK.AllK
import Wide.FinOn
import PySem.Challenge.RW_sandreckoner_k07_whole_texts
import KE.KeyNested
import PyProof.NeKinds
import HandS.ForMost
import HandS.Evl
import HandS.Conv
import HandS.Exc
import HandS.TryOnly
import HandS.ExcOwn
import HandS.WordsExc
import HandS.Style
import HandS.Zip
import HandS.More
import HandS.Text
import HandS.SuiteRaise
import HandS.ExcIs
import HandS.IsInst
set_option Elab.async false
set_option linter.all false
set_option maxRecDepth 100000
/-! Numbers as data: a number is a list of terms (sign, exponent); neg = true is the sign -1. -/
namespace SR
inductive Num where
  | nil
  | cons (neg : Bool) (e r : Num)
  deriving DecidableEq
namespace Num
def beq : Num → Num → Bool
  | nil, nil => true
  | nil, cons _ _ _ => false
  | cons _ _ _, nil => false
  | cons s e r, cons t f q => (s == t) && (beq e f && beq r q)
theorem beq_self : ∀ a : Num, beq a a = true
  | nil => rfl
  | cons s e r => by simp [beq, beq_self e, beq_self r]
theorem eq_of_beq : ∀ {a b : Num}, beq a b = true → a = b
  | nil, nil, _ => rfl
  | nil, cons _ _ _, h => by simp [beq] at h
  | cons _ _ _, nil, h => by simp [beq] at h
  | cons s e r, cons t f q, h => by
    simp only [beq, Bool.and_eq_true, beq_iff_eq] at h
    obtain ⟨h1, h2, h3⟩ := h
    rw [h1, eq_of_beq h2, eq_of_beq h3]
theorem beq_iff {a b : Num} : beq a b = true ↔ a = b := ⟨eq_of_beq, fun h => h ▸ beq_self a⟩
theorem beq_dec (a b : Num) : beq a b = decide (a = b) := by
  by_cases h : a = b
  · subst h; simp [beq_self]
  · rw [decide_eq_false h]
    cases q : beq a b with
    | false => rfl
    | true => exact absurd (eq_of_beq q) h
def size : Num → Nat
  | nil => 1
  | cons _ e r => size e + size r
def height : Num → Nat
  | nil => 0
  | cons _ e r => max (1 + height e) (height r)
def len : Num → Nat
  | nil => 0
  | cons _ _ r => len r + 1
def terms : Num → List (Bool × Num)
  | nil => []
  | cons s e r => (s, e) :: terms r
def ofTerms : List (Bool × Num) → Num
  | [] => nil
  | (s, e) :: r => cons s e (ofTerms r)
def exps : Num → List Num
  | nil => []
  | cons _ e r => e :: exps r
theorem ofTerms_terms : ∀ n : Num, ofTerms (terms n) = n
  | nil => rfl
  | cons s e r => by rw [terms, ofTerms, ofTerms_terms r]
theorem terms_ofTerms : ∀ l : List (Bool × Num), terms (ofTerms l) = l
  | [] => rfl
  | (s, e) :: r => by rw [ofTerms, terms, terms_ofTerms r]
theorem exps_eq : ∀ n : Num, exps n = (terms n).map (·.2)
  | nil => rfl
  | cons s e r => by rw [exps, terms, List.map_cons, exps_eq r]
theorem terms_len : ∀ n : Num, (terms n).length = len n
  | nil => rfl
  | cons s e r => by rw [terms, List.length_cons, len, terms_len r]
theorem size_pos : ∀ n : Num, 1 ≤ size n
  | nil => Nat.le_refl 1
  | cons _ e r => Nat.le_trans (size_pos e) (Nat.le_add_right _ _)
def app : Num → Num → Num
  | nil, m => m
  | cons s e r, m => cons s e (app r m)
end Num
open Num
/-- the sign as an int -/
def sg (b : Bool) : Int := if b then -1 else 1
theorem sg_t : sg true = -1 := rfl
theorem sg_f : sg false = 1 := rfl
theorem sg_ne (b : Bool) : sg b ≠ 0 := by cases b <;> decide
/-- the order -/
def cmp : Num → Num → Int
  | nil, nil => 0
  | nil, cons t _ _ => - sg t
  | cons s _ _, nil => sg s
  | cons s e r, cons t f q => if s = t then (if cmp e f = 0 then cmp r q else cmp e f * sg s) else sg s
theorem cmp_self : ∀ a : Num, cmp a a = 0
  | nil => rfl
  | cons s e r => by rw [cmp, if_pos rfl, if_pos (cmp_self e), cmp_self r]
theorem cmp_zero : ∀ {a b : Num}, cmp a b = 0 → a = b
  | nil, nil, _ => rfl
  | nil, cons t f q, h => by cases t <;> simp [cmp, sg] at h
  | cons s e r, nil, h => by cases s <;> simp [cmp, sg] at h
  | cons s e r, cons t f q, h => by
    rw [cmp] at h
    by_cases hs : s = t
    · rw [if_pos hs] at h
      by_cases h0 : cmp e f = 0
      · rw [if_pos h0] at h
        rw [hs, cmp_zero h0, cmp_zero h]
      · rw [if_neg h0] at h
        exact absurd h (Int.mul_ne_zero h0 (sg_ne s))
    · rw [if_neg hs] at h
      exact absurd h (sg_ne s)
theorem cmp_ne {a b : Num} (h : a ≠ b) : cmp a b ≠ 0 := fun q => h (cmp_zero q)
theorem mul_sg_pos {x : Int} {s : Bool} : 0 < x * sg s ↔ (s = false ∧ 0 < x) ∨ (s = true ∧ x < 0) := by
  cases s <;> simp [sg] <;> omega
theorem mul_sg_neg {x : Int} {s : Bool} : x * sg s < 0 ↔ (s = false ∧ x < 0) ∨ (s = true ∧ 0 < x) := by
  cases s <;> simp [sg] <;> omega
theorem cmp_trans : ∀ (a b c : Num), (0 < cmp a b → 0 < cmp b c → 0 < cmp a c) ∧ (cmp a b < 0 → cmp b c < 0 → cmp a c < 0)
  | nil, nil, c => by simp [cmp]
  | nil, cons t f q, nil => by cases t <;> simp [cmp, sg]
  | nil, cons t f q, cons u g p => by
    cases t <;> cases u <;> simp [cmp, sg]
  | cons s e r, nil, nil => by cases s <;> simp [cmp, sg]
  | cons s e r, nil, cons u g p => by
    cases s <;> cases u <;> simp [cmp, sg]
  | cons s e r, cons t f q, nil => by
    cases s <;> cases t <;> simp [cmp, sg]
  | cons s e r, cons t f q, cons u g p => by
    have he := cmp_trans e f g
    have hr := cmp_trans r q p
    by_cases h1 : s = t
    · by_cases h2 : t = u
      · subst h1 h2
        simp only [cmp, if_true]
        by_cases a1 : cmp e f = 0
        · have e1 := cmp_zero a1
          subst e1
          by_cases a2 : cmp e g = 0
          · simp only [if_pos a1, if_pos a2]
            exact hr
          · simp only [if_pos a1, if_neg a2]
            exact ⟨fun _ h => h, fun _ h => h⟩
        · by_cases a2 : cmp f g = 0
          · have e2 := cmp_zero a2
            subst e2
            simp only [if_neg a1, if_pos a2]
            exact ⟨fun h _ => h, fun h _ => h⟩
          · simp only [if_neg a1, if_neg a2]
            constructor
            · intro x y
              rcases mul_sg_pos.mp x with ⟨hs, x⟩ | ⟨hs, x⟩
              · rcases mul_sg_pos.mp y with ⟨_, y⟩ | ⟨ht, y⟩
                · have z := he.1 x y
                  rw [if_neg (by omega)]
                  exact mul_sg_pos.mpr (.inl ⟨hs, z⟩)
                · rw [hs] at ht; cases ht
              · rcases mul_sg_pos.mp y with ⟨ht, y⟩ | ⟨_, y⟩
                · rw [hs] at ht; cases ht
                · have z := he.2 x y
                  rw [if_neg (by omega)]
                  exact mul_sg_pos.mpr (.inr ⟨hs, z⟩)
            · intro x y
              rcases mul_sg_neg.mp x with ⟨hs, x⟩ | ⟨hs, x⟩
              · rcases mul_sg_neg.mp y with ⟨_, y⟩ | ⟨ht, y⟩
                · have z := he.2 x y
                  rw [if_neg (by omega)]
                  exact mul_sg_neg.mpr (.inl ⟨hs, z⟩)
                · rw [hs] at ht; cases ht
              · rcases mul_sg_neg.mp y with ⟨ht, y⟩ | ⟨_, y⟩
                · rw [hs] at ht; cases ht
                · have z := he.1 x y
                  rw [if_neg (by omega)]
                  exact mul_sg_neg.mpr (.inr ⟨hs, z⟩)
      · subst h1
        by_cases a1 : cmp e f = 0
        · cases s <;> cases u <;> simp [cmp, sg, a1] at h2 ⊢
        · cases s <;> cases u <;> simp [cmp, sg, a1] at h2 ⊢
    · by_cases h2 : t = u
      · subst h2
        cases s <;> cases t <;> simp [cmp, sg] at h1 ⊢
      · cases s <;> cases t <;> cases u <;> simp [cmp, sg] at h1 h2 ⊢
def nonneg : Num → Bool
  | nil => true
  | cons s _ _ => !s
/-! ### the sum of counts: what a dict of exponents holds, the order, the loop -/
def cput : List (Num × Int) → Num → Int → List (Num × Int)
  | [], k, c => [(k, c)]
  | (k', c') :: r, k, c => if beq k' k then (k', c' + c) :: r else (k', c') :: cput r k c
def cget : List (Num × Int) → Num → Int
  | [], _ => 0
  | (k', c') :: r, k => if beq k' k then c' else cget r k
def cputAll : List (Num × Int) → List (Bool × Num) → List (Num × Int)
  | cs, [] => cs
  | cs, (s, e) :: r => cputAll (cput cs e (sg s)) r
/-- where x goes in found: between low and high -/
def bis (found : List Num) (x : Num) : Nat → Nat → Nat → Nat
  | 0, lo, _ => lo
  | f + 1, lo, hi => if lo < hi then (if cmp (found.getD ((lo + hi) / 2) nil) x < 0 then bis found x f ((lo + hi) / 2 + 1) hi else bis found x f lo ((lo + hi) / 2)) else lo
def insAt (l : List Num) (i : Nat) (x : Num) : List Num := l.take i ++ x :: l.drop i
def ordIn : List Num → List Num → List Num
  | found, [] => found
  | found, x :: r => ordIn (insAt found (bis found x found.length 0 found.length) x) r
/-- one turn of the loop, from the next number's function; the state: what waits (the next one first), count, exponent, terms (the last first) -/
structure LSt where
  wl : List Num
  c : Int
  x : Num
  ts : List (Bool × Num)
def popS (cs : List (Num × Int)) (s : LSt) : LSt := match s.wl with
  | [] => s
  | w :: r => if s.c = 0 ∨ beq w s.x = true then { s with wl := r, c := s.c + cget cs w, x := w } else s
/-- the sign of the term at x: true is -1 -/
def signOf (nx : Num → Option Num) (cs : List (Num × Int)) (s : LSt) : Option Bool := match s.wl with
  | [] => some (decide (s.c % 4 ≠ 1))
  | w :: _ => match nx s.x with
    | none => none
    | some y => if beq w y then some (decide ((s.c + 2 * cget cs w) % 4 ≠ 1)) else some (decide (s.c % 4 ≠ 1))
def oddS (nx : Num → Option Num) (cs : List (Num × Int)) (s : LSt) : Option LSt :=
  if s.c % 2 = 1 then match signOf nx cs s with
    | none => none
    | some b => some { s with c := s.c - sg b, ts := (b, s.x) :: s.ts }
  else some s
def halfS (nx : Num → Option Num) (s : LSt) : Option LSt :=
  if s.c = 0 then some s else match nx s.x with
    | none => none
    | some y => some { s with c := s.c / 2, x := y }
def turnS (nx : Num → Option Num) (cs : List (Num × Int)) (s : LSt) : Option LSt := match oddS nx cs (popS cs s) with
  | none => none
  | some s' => halfS nx s'
def loopS (nx : Num → Option Num) (cs : List (Num × Int)) : Nat → LSt → Option (List (Bool × Num))
  | 0, _ => none
  | f + 1, s => if s.wl = [] ∧ s.c = 0 then some s.ts else match turnS nx cs s with
    | none => none
    | some s' => loopS nx cs f s'
end SR
set_option Elab.async false
set_option linter.all false
set_option maxRecDepth 100000
/-! The next number as a function with fuel: what a dict's keys must be, the loop ends. -/
namespace SR
open Num
/-- a number as a key of a dict -/
def hashL : Num → List Int
  | nil => []
  | cons s e r => PySem.reduceHash (PySem.Builtin.Tuple.tupleHashOf [PySem.hashInt (sg s), PySem.reduceHash (PySem.Builtin.Tuple.tupleHashOf (hashL e))]) :: hashL r
def hashN (n : Num) : Int := PySem.reduceHash (PySem.Builtin.Tuple.tupleHashOf (hashL n))
/-- two keys with one hash are one key -/
def okKeys (ks : List Num) : Bool := decide (ks.length ≤ 1000) && ks.all fun k => decide (height k ≤ 40) && ks.all fun j => !(hashN j == hashN k) || beq j k
def nextF : Nat → Num → Option Num
  | 0, _ => none
  | f + 1, n => if okKeys (nil :: exps n) = true then
      match loopS (nextF f) (cputAll [] (terms n ++ [(false, nil)])) (5 * len n + 10) ⟨ordIn [] ((cputAll [] (terms n ++ [(false, nil)])).map (·.1)), 0, nil, []⟩ with
      | none => none
      | some ts => some (ofTerms ts)
    else none
/-! ### counts -/
theorem cget_put (k : Num) (c : Int) (j : Num) : ∀ cs : List (Num × Int), cget (cput cs k c) j = if k = j then cget cs j + c else cget cs j
  | [] => by
    by_cases h : k = j
    · subst h; simp [cput, cget, beq_self]
    · have q : beq k j = false := by rw [beq_dec]; exact decide_eq_false h
      simp [cput, cget, q, h]
  | (k', c') :: r => by
    have ih := cget_put k c j r
    rw [cput]
    by_cases h1 : k' = k
    · subst h1
      rw [beq_self, if_pos rfl, cget, cget]
      by_cases h : k' = j
      · subst h; simp [beq_self]
      · have q : beq k' j = false := by rw [beq_dec]; exact decide_eq_false h
        simp [q, h]
    · have q1 : beq k' k = false := by rw [beq_dec]; exact decide_eq_false h1
      rw [q1, if_neg Bool.false_ne_true, cget, cget]
      by_cases h2 : k' = j
      · subst h2
        have q2 : ¬ k = k' := fun e => h1 e.symm
        simp [beq_self, q2]
      · have q2 : beq k' j = false := by rw [beq_dec]; exact decide_eq_false h2
        simp [q2, ih]
theorem keys_put (k : Num) (c : Int) : ∀ cs : List (Num × Int), (cput cs k c).map (·.1) = if k ∈ cs.map (·.1) then cs.map (·.1) else cs.map (·.1) ++ [k]
  | [] => by simp [cput]
  | (k', c') :: r => by
    have ih := keys_put k c r
    rw [cput]
    by_cases h1 : k' = k
    · subst h1; simp [beq_self]
    · have q1 : beq k' k = false := by rw [beq_dec]; exact decide_eq_false h1
      rw [q1, if_neg Bool.false_ne_true, List.map_cons, ih]
      have h2 : ¬ k = k' := fun e => h1 e.symm
      by_cases h3 : k ∈ r.map (·.1)
      · rw [if_pos h3, if_pos (by rw [List.map_cons]; exact List.mem_cons_of_mem _ h3), List.map_cons]
      · rw [if_neg h3, if_neg (by rw [List.map_cons, List.mem_cons]; rintro (e | e); exact h2 e; exact h3 e), List.map_cons]; rfl
theorem keys_all : ∀ (l : List (Bool × Num)) (cs : List (Num × Int)) (k : Num), k ∈ (cputAll cs l).map (·.1) → k ∈ cs.map (·.1) ∨ k ∈ l.map (·.2)
  | [], cs, k, h => .inl h
  | (s, e) :: r, cs, k, h => by
    rcases keys_all r (cput cs e (sg s)) k h with q | q
    · rw [keys_put] at q
      split at q
      · exact .inl q
      · rcases List.mem_append.mp q with q | q
        · exact .inl q
        · rw [List.mem_singleton.mp q]
          exact .inr (by simp)
    · exact .inr (List.mem_cons_of_mem _ q)
theorem len_put (k : Num) (c : Int) (cs : List (Num × Int)) : (cput cs k c).length ≤ cs.length + 1 := by
  have e := congrArg List.length (keys_put k c cs)
  rw [List.length_map] at e
  rw [e]
  split
  · rw [List.length_map]; omega
  · rw [List.length_append, List.length_map]; simp
theorem len_all : ∀ (l : List (Bool × Num)) (cs : List (Num × Int)), (cputAll cs l).length ≤ cs.length + l.length
  | [], cs => Nat.le_refl _
  | (s, e) :: r, cs => by
    have h1 := len_all r (cput cs e (sg s))
    have h2 := len_put e (sg s) cs
    show (cputAll (cput cs e (sg s)) r).length ≤ _
    rw [List.length_cons]; omega
theorem cget_all_out : ∀ (l : List (Bool × Num)) (cs : List (Num × Int)) (k : Num), k ∉ l.map (·.2) → cget (cputAll cs l) k = cget cs k
  | [], _, _, _ => rfl
  | (s, e) :: r, cs, k, h => by
    rw [List.map_cons, List.mem_cons, not_or] at h
    show cget (cputAll (cput cs e (sg s)) r) k = _
    rw [cget_all_out r _ k h.2, cget_put, if_neg fun q => h.1 q.symm]
theorem cget_all_in : ∀ (l : List (Bool × Num)) (cs : List (Num × Int)) (k : Num), (l.map (·.2)).Nodup → k ∈ l.map (·.2) → ∃ b, cget (cputAll cs l) k = cget cs k + sg b
  | [], _, _, _, h => by simp at h
  | (s, e) :: r, cs, k, hn, h => by
    rw [List.map_cons, List.nodup_cons] at hn
    show ∃ b, cget (cputAll (cput cs e (sg s)) r) k = _
    by_cases q : e = k
    · subst q
      exact ⟨s, by rw [cget_all_out r _ _ hn.1, cget_put, if_pos rfl]⟩
    · have h' : k ∈ r.map (·.2) := by
        rw [List.map_cons, List.mem_cons] at h
        rcases h with h | h
        · exact absurd h.symm q
        · exact h
      obtain ⟨b, e'⟩ := cget_all_in r (cput cs e (sg s)) k hn.2 h'
      exact ⟨b, by rw [e', cget_put, if_neg q]⟩
theorem cputAll_app : ∀ (l m : List (Bool × Num)) (cs : List (Num × Int)), cputAll cs (l ++ m) = cputAll (cputAll cs l) m
  | [], _, _ => rfl
  | (s, e) :: r, m, cs => cputAll_app r m (cput cs e (sg s))
theorem cget_small {n : Num} (hn : (exps n).Nodup) (k : Num) : -2 ≤ cget (cputAll [] (terms n ++ [(false, nil)])) k ∧ cget (cputAll [] (terms n ++ [(false, nil)])) k ≤ 2 := by
  rw [cputAll_app]
  show _ ≤ cget (cput (cputAll [] (terms n)) nil (sg false)) k ∧ cget (cput (cputAll [] (terms n)) nil (sg false)) k ≤ _
  have hz : ∃ z : Int, cget (cputAll [] (terms n)) k = z ∧ -1 ≤ z ∧ z ≤ 1 := by
    by_cases h : k ∈ (terms n).map (·.2)
    · obtain ⟨b, e⟩ := cget_all_in (terms n) [] k (by rw [← exps_eq]; exact hn) h
      refine ⟨_, e, ?_⟩
      cases b <;> simp [cget, sg]
    · rw [cget_all_out _ _ _ h]
      exact ⟨0, rfl, by decide, by decide⟩
  obtain ⟨z, e, h1, h2⟩ := hz
  rw [cget_put]
  split
  · rw [e, sg_f]; omega
  · rw [e]; omega
theorem mem_insAt {l : List Num} {i : Nat} {x y : Num} (h : y ∈ insAt l i x) : y = x ∨ y ∈ l := by
  unfold insAt at h
  rcases List.mem_append.mp h with h | h
  · exact .inr (List.mem_of_mem_take h)
  · rcases List.mem_cons.mp h with h | h
    · exact .inl h
    · exact .inr (List.mem_of_mem_drop h)
theorem len_insAt (l : List Num) (i : Nat) (x : Num) : (insAt l i x).length = l.length + 1 := by
  unfold insAt
  rw [List.length_append, List.length_cons, List.length_take, List.length_drop]
  omega
theorem mem_ordIn : ∀ (ks found : List Num) (y : Num), y ∈ ordIn found ks → y ∈ found ∨ y ∈ ks
  | [], _, _, h => .inl h
  | x :: r, found, y, h => by
    rcases mem_ordIn r _ y h with h | h
    · rcases mem_insAt h with h | h
      · exact .inr (by rw [h]; exact List.mem_cons_self)
      · exact .inl h
    · exact .inr (List.mem_cons_of_mem _ h)
theorem len_ordIn : ∀ (ks found : List Num), (ordIn found ks).length = found.length + ks.length
  | [], _ => rfl
  | x :: r, found => by
    show (ordIn (insAt found (bis found x found.length 0 found.length) x) r).length = _
    rw [len_ordIn r, len_insAt, List.length_cons]
    omega
/-! ### the loop ends -/
/-- P j x: from x on there are j more next numbers -/
structure Steps (nx : Num → Option Num) (P : Nat → Num → Prop) : Prop where
  dn : ∀ j x, P (j + 1) x → P j x
  nx : ∀ j x, P (j + 1) x → ∃ y, nx x = some y ∧ P j y
theorem Steps.le {nx : Num → Option Num} {P : Nat → Num → Prop} (h : Steps nx P) {j k : Nat} (hjk : j ≤ k) {x : Num} (p : P k x) : P j x := by
  induction hjk with
  | refl => exact p
  | step _ ih => exact ih (h.dn _ _ p)
inductive Lv (P : Nat → Num → Prop) (J : Nat) (s : LSt) : Nat → Prop
  | a : s.c = 0 → Lv P J s (4 * s.wl.length)
  | b : -2 ≤ s.c → s.c ≤ 2 → P (J + 2) s.x → Lv P J s (4 * s.wl.length + 3)
  | c : -1 ≤ s.c → s.c ≤ 1 → P (J + 1) s.x → Lv P J s (4 * s.wl.length + 2)
  | d : -1 ≤ s.c → s.c ≤ 1 → (∃ r, s.wl = s.x :: r) → Lv P J s (4 * s.wl.length + 1)
structure LInv (P : Nat → Num → Prop) (J : Nat) (s : LSt) (m : Nat) : Prop where
  lv : Lv P J s m
  ks : ∀ w ∈ s.wl, P (J + 3) w
  ts : ∀ t ∈ s.ts, P (J + 1) t.2
section
variable {nx : Num → Option Num} {P : Nat → Num → Prop} {cs : List (Num × Int)} {J : Nat}
/-- behind the pop: the level of x (3: a key, 2, 1), the count within bounds -/
theorem rest_ok (S : Steps nx P) {s : LSt} {j : Nat} (hx : P (J + j + 1) s.x) (hj : j ≤ 2) (hc : -4 ≤ s.c ∧ s.c ≤ 4) (hb : j = 1 → -2 ≤ s.c ∧ s.c ≤ 2) (hb0 : j = 0 → -1 ≤ s.c ∧ s.c ≤ 1)
    (hk : ∀ w ∈ s.wl, P (J + 3) w) (ht : ∀ t ∈ s.ts, P (J + 1) t.2) :
    ∃ s' m, (match oddS nx cs s with | none => none | some s' => halfS nx s') = some s' ∧ LInv P J s' m ∧ m ≤ 4 * s.wl.length + j + 1 := by
  obtain ⟨y, ey, py⟩ := S.nx _ _ hx
  have hx1 : P (J + 1) s.x := S.le (by omega) hx
  -- the sign, and what it can be
  have hs : ∃ b, signOf nx cs s = some b ∧ (b = decide (s.c % 4 ≠ 1) ∨ ∃ r, s.wl = y :: r) := by
    unfold signOf
    cases hw : s.wl with
    | nil => exact ⟨_, rfl, .inl rfl⟩
    | cons w r =>
      show ∃ b, (match nx s.x with | none => none | some y => if beq w y then some (decide ((s.c + 2 * cget cs w) % 4 ≠ 1)) else some (decide (s.c % 4 ≠ 1))) = some b ∧ _
      rw [ey]
      by_cases h : w = y
      · subst h
        exact ⟨decide ((s.c + 2 * cget cs w) % 4 ≠ 1), by show (if beq w w = true then _ else _) = _; rw [beq_self, if_pos rfl], .inr ⟨r, rfl⟩⟩
      · have q : beq w y = false := by rw [beq_dec]; exact decide_eq_false h
        exact ⟨decide (s.c % 4 ≠ 1), by show (if beq w y = true then _ else _) = _; rw [q, if_neg Bool.false_ne_true], .inl rfl⟩
  obtain ⟨b, eb, hbb⟩ := hs
  -- behind the odd step
  by_cases ho : s.c % 2 = 1
  · have e1 : oddS nx cs s = some { s with c := s.c - sg b, ts := (b, s.x) :: s.ts } := by
      unfold oddS; rw [if_pos ho, eb]
    have ht' : ∀ t ∈ (b, s.x) :: s.ts, P (J + 1) t.2 := fun t h => by
      rcases List.mem_cons.mp h with h | h
      · rw [h]; exact hx1
      · exact ht t h
    rw [e1]
    by_cases h0 : s.c - sg b = 0
    · refine ⟨{ s with c := s.c - sg b, ts := (b, s.x) :: s.ts }, 4 * s.wl.length, ?_, ⟨.a h0, hk, ht'⟩, by omega⟩
      show halfS nx _ = _
      unfold halfS
      rw [if_pos h0]
    · have e2 : halfS nx { s with c := s.c - sg b, ts := (b, s.x) :: s.ts } = some { s with c := (s.c - sg b) / 2, x := y, ts := (b, s.x) :: s.ts } := by
        unfold halfS
        rw [if_neg h0]
        show (match nx s.x with | none => none | some y => _) = _
        rw [ey]
      refine ⟨{ s with c := (s.c - sg b) / 2, x := y, ts := (b, s.x) :: s.ts }, ?_⟩
      have hj3 : j = 2 ∨ j = 1 ∨ j = 0 := by omega
      have sb : sg b = 1 ∨ sg b = -1 := by cases b <;> simp [sg]
      rcases hj3 with rfl | rfl | rfl
      · refine ⟨4 * s.wl.length + 3, e2, ⟨.b ?_ ?_ py, hk, ht'⟩, by omega⟩
        · show -2 ≤ (s.c - sg b) / 2; omega
        · show (s.c - sg b) / 2 ≤ 2; omega
      · have hb1 := hb rfl
        refine ⟨4 * s.wl.length + 2, e2, ⟨.c ?_ ?_ py, hk, ht'⟩, by omega⟩
        · show -1 ≤ (s.c - sg b) / 2; omega
        · show (s.c - sg b) / 2 ≤ 1; omega
      · have hb1 := hb0 rfl
        rcases hbb with e | ⟨r, hw⟩
        · exfalso
          have hc1 : s.c = 1 ∨ s.c = -1 := by omega
          rcases hc1 with q | q <;> rw [q] at e h0 <;> rw [e] at h0 <;> exact absurd h0 (by decide)
        · refine ⟨4 * s.wl.length + 1, e2, ⟨.d ?_ ?_ ⟨r, hw⟩, hk, ht'⟩, by omega⟩
          · show -1 ≤ (s.c - sg b) / 2; omega
          · show (s.c - sg b) / 2 ≤ 1; omega
  · have e1 : oddS nx cs s = some s := by unfold oddS; rw [if_neg ho]
    rw [e1]
    by_cases h0 : s.c = 0
    · refine ⟨s, 4 * s.wl.length, ?_, ⟨.a h0, hk, ht⟩, by omega⟩
      show halfS nx _ = _
      unfold halfS
      rw [if_pos h0]
    · have e2 : halfS nx s = some { s with c := s.c / 2, x := y } := by
        unfold halfS
        rw [if_neg h0, ey]
      refine ⟨{ s with c := s.c / 2, x := y }, ?_⟩
      have hj3 : j = 2 ∨ j = 1 ∨ j = 0 := by omega
      rcases hj3 with rfl | rfl | rfl
      · refine ⟨4 * s.wl.length + 3, e2, ⟨.b ?_ ?_ py, hk, ht⟩, by omega⟩
        · show -2 ≤ s.c / 2; omega
        · show s.c / 2 ≤ 2; omega
      · have hb1 := hb rfl
        refine ⟨4 * s.wl.length + 2, e2, ⟨.c ?_ ?_ py, hk, ht⟩, by omega⟩
        · show -1 ≤ s.c / 2; omega
        · show s.c / 2 ≤ 1; omega
      · have hb1 := hb0 rfl
        omega
theorem turn_ok (S : Steps nx P) (hcs : ∀ k, -2 ≤ cget cs k ∧ cget cs k ≤ 2) {s : LSt} {m : Nat} (I : LInv P J s m) (hne : ¬ (s.wl = [] ∧ s.c = 0)) :
    ∃ s' m', turnS nx cs s = some s' ∧ LInv P J s' m' ∧ m' < m := by
  unfold turnS
  -- a pop
  have pop : ∀ w r, s.wl = w :: r → popS cs s = { s with wl := r, c := s.c + cget cs w, x := w } → -2 ≤ s.c → s.c ≤ 2 → 4 * s.wl.length ≤ m →
      ∃ s' m', (match oddS nx cs (popS cs s) with | none => none | some s' => halfS nx s') = some s' ∧ LInv P J s' m' ∧ m' < m := fun w r hw e h1 h2 hm => by
    rw [e]
    have hc := hcs w
    obtain ⟨s', m', e', I', hm'⟩ := rest_ok (cs := cs) (s := { s with wl := r, c := s.c + cget cs w, x := w }) (j := 2) S (I.ks w (by rw [hw]; exact List.mem_cons_self)) (by omega) ⟨by show -4 ≤ s.c + cget cs w; omega, by show s.c + cget cs w ≤ 4; omega⟩ (by omega) (by omega)
      (fun v hv => I.ks v (by rw [hw]; exact List.mem_cons_of_mem _ hv)) I.ts
    refine ⟨s', m', e', I', ?_⟩
    have : m' ≤ 4 * r.length + 3 := hm'
    rw [hw, List.length_cons] at hm
    omega
  have popc : s.c = 0 → ∀ w r, s.wl = w :: r → popS cs s = { s with wl := r, c := s.c + cget cs w, x := w } := fun h0 w r hw => by
    unfold popS
    rw [hw]
    exact if_pos (.inl h0)
  have popx : ∀ w r, s.wl = w :: r → w = s.x → popS cs s = { s with wl := r, c := s.c + cget cs w, x := w } := fun w r hw hx => by
    unfold popS
    rw [hw]
    exact if_pos (.inr (by rw [hx]; exact beq_self _))
  have nopop : s.c ≠ 0 → (∀ w r, s.wl = w :: r → w ≠ s.x) → popS cs s = s := fun h0 hx => by
    unfold popS
    cases hw : s.wl with
    | nil => rfl
    | cons w r =>
      refine if_neg ?_
      rintro (q | q)
      · exact h0 q
      · exact hx w r hw (eq_of_beq q)
  by_cases h0 : s.c = 0
  · cases hw : s.wl with
    | nil => exact absurd ⟨hw, h0⟩ hne
    | cons w r =>
      refine pop w r hw (popc h0 w r hw) (by omega) (by omega) ?_
      cases I.lv <;> omega
  · by_cases hx : ∃ r, s.wl = s.x :: r
    · obtain ⟨r, hw⟩ := hx
      have hb : (-2 ≤ s.c ∧ s.c ≤ 2) ∧ 4 * s.wl.length ≤ m := by
        cases I.lv <;> omega
      exact pop s.x r hw (popx _ r hw rfl) hb.1.1 hb.1.2 hb.2
    · rw [nopop h0 fun w r hw e => hx ⟨r, by rw [hw, e]⟩]
      cases I.lv with
      | a h => exact absurd h h0
      | b h1 h2 p =>
        obtain ⟨s', m', e', I', hm'⟩ := rest_ok (cs := cs) (j := 1) S p (by omega) ⟨by omega, by omega⟩ (fun _ => ⟨h1, h2⟩) (by omega) I.ks I.ts
        exact ⟨s', m', e', I', by omega⟩
      | c h1 h2 p =>
        obtain ⟨s', m', e', I', hm'⟩ := rest_ok (cs := cs) (j := 0) S p (by omega) ⟨by omega, by omega⟩ (by omega) (fun _ => ⟨h1, h2⟩) I.ks I.ts
        exact ⟨s', m', e', I', by omega⟩
      | d h1 h2 h => exact absurd h hx
theorem loop_ok (S : Steps nx P) (hcs : ∀ k, -2 ≤ cget cs k ∧ cget cs k ≤ 2) : ∀ (f m : Nat) (s : LSt), LInv P J s m → m < f → ∃ ts, loopS nx cs f s = some ts ∧ ∀ t ∈ ts, P (J + 1) t.2
  | 0, m, s, _, h => absurd h (Nat.not_lt_zero _)
  | f + 1, m, s, I, h => by
    rw [loopS]
    by_cases he : s.wl = [] ∧ s.c = 0
    · rw [if_pos he]
      exact ⟨_, rfl, I.ts⟩
    · rw [if_neg he]
      obtain ⟨s', m', e, I', hm⟩ := turn_ok S hcs I he
      rw [e]
      exact loop_ok S hcs f m' s' I' (by omega)
end
theorem next_ok {f J : Nat} {P : Nat → Num → Prop} (S : Steps (nextF f) P) {n : Num} (hk : okKeys (nil :: exps n) = true) (hn : (exps n).Nodup) (h0 : P (J + 3) nil) (he : ∀ e ∈ exps n, P (J + 3) e) :
    ∃ m, nextF (f + 1) n = some m ∧ ∀ e ∈ exps m, P (J + 1) e := by
  have hm : ∀ w, w ∈ ordIn [] ((cputAll [] (terms n ++ [(false, nil)])).map (·.1)) → P (J + 3) w := fun w hw => by
    rcases mem_ordIn _ _ _ hw with h | h
    · cases h
    · rcases keys_all _ _ _ h with h | h
      · cases h
      · rw [List.map_append, List.mem_append] at h
        rcases h with h | h
        · exact he w (by rw [exps_eq]; exact h)
        · rw [show w = nil by simpa using h]; exact h0
  obtain ⟨ts, e, hts⟩ := loop_ok (J := J) (cs := cputAll [] (terms n ++ [(false, nil)])) S (cget_small hn) (5 * len n + 10) _ ⟨ordIn [] ((cputAll [] (terms n ++ [(false, nil)])).map (·.1)), 0, nil, []⟩ ⟨.a rfl, hm, fun _ h => nomatch h⟩ (by
    show 4 * (ordIn [] ((cputAll [] (terms n ++ [(false, nil)])).map (·.1))).length < _
    rw [len_ordIn, List.length_map]
    have q := len_all (terms n ++ [(false, nil)]) []
    rw [List.length_append, terms_len] at q
    simp only [List.length_nil, List.length_cons] at q ⊢
    omega)
  refine ⟨ofTerms ts, ?_, fun x hx => ?_⟩
  · rw [nextF, if_pos hk, e]
  · rw [exps_eq, terms_ofTerms] at hx
    obtain ⟨t, ht, rfl⟩ := List.mem_map.mp hx
    exact hts t ht
end SR
set_option Elab.async false
set_option linter.all false
set_option maxRecDepth 100000
/-! The finite set of keys. -/
namespace SR
open Num
def nextT (n : Num) : Num := (nextF 12 n).getD nil
def apart (u l : Num) : Bool := decide (0 < cmp u l) && !beq u (nextT l)
def formN : Num → Bool
  | nil => true
  | cons _ e r => formN e && nonneg e && (match r with | nil => true | cons _ f _ => apart e f) && formN r
/-- the digits of an int with signs, the lowest place first -/
def digs : Nat → Nat → Int → List (Bool × Nat)
  | 0, _, _ => []
  | k + 1, p, v => if v = 0 then [] else if v % 2 = 1 then (decide (v % 4 = 3), p) :: digs k (p + 1) ((v - sg (decide (v % 4 = 3))) / 2) else digs k (p + 1) (v / 2)
def ofI : Nat → Int → Num
  | 0, _ => nil
  | d + 1, v => ofTerms ((digs 3100 0 v).map fun t => (t.1, ofI d t.2)).reverse
def flips : Num → List Num
  | nil => []
  | cons s e r => cons (!s) e r :: ((flips e).map fun e' => cons s e' r) ++ (flips r).map fun r' => cons s e r'
/-- all exponents at any depth are not below 0 -/
def hn : Num → Bool
  | nil => true
  | cons _ e r => hn e && nonneg e && hn r
def gen : Nat → Nat → List Num
  | 0, _ => []
  | f + 1, s => if s = 1 then [nil] else (List.range s).flatMap fun a => if a = 0 then [] else ((gen f a).filter nonneg).flatMap fun e => (gen f (s - a)).flatMap fun r => [cons false e r, cons true e r]
def good (n : Num) : Bool := hn n && nonneg n && formN n
def sFlip : List Num := (List.range 98).flatMap fun (k : Nat) => ofI 5 (k : Int) :: (flips (ofI 5 (k : Int))).filter good
def sSmall : List Num := (List.range 7).flatMap fun s => (gen 7 s).filter good
def sAll : List Num := sFlip ++ sSmall
def chain : Nat → Nat → Num → Bool
  | _, 0, _ => true
  | f, j + 1, x => match nextF f x with
    | none => false
    | some y => chain f j y
theorem chain_all : sAll.all (chain 11 3) = true := by decide +kernel
end SR
namespace SR
open Num
def inj1 (l : List (Int × Num)) : Bool := l.all fun p => decide (height p.2 ≤ 40) && l.all fun q => !(p.1 == q.1) || beq p.2 q.2
theorem inj_all : inj1 (sAll.map fun x => (hashN x, x)) = true := by decide +kernel
end SR
set_option Elab.async false
set_option linter.all false
set_option maxRecDepth 100000
/-! Which numbers the program asks the next one of: their exponents lie in the finite set. -/
namespace SR
open Num
/-! ### forms -/
theorem form_e {s : Bool} {e r : Num} (h : formN (cons s e r) = true) : formN e = true ∧ nonneg e = true ∧ formN r = true := by
  simp only [formN, Bool.and_eq_true] at h
  exact ⟨h.1.1.1, h.1.1.2, h.2⟩
theorem form_apart {s t : Bool} {e f q : Num} (h : formN (cons s e (cons t f q)) = true) : apart e f = true := by
  simp only [formN, Bool.and_eq_true] at h
  exact h.1.2
theorem form_hn : ∀ {n : Num}, formN n = true → hn n = true
  | nil, _ => rfl
  | cons s e r, h => by
    obtain ⟨h1, h2, h3⟩ := form_e h
    simp [hn, form_hn h1, h2, form_hn h3]
theorem form_exps : ∀ {n : Num}, formN n = true → ∀ e ∈ exps n, formN e = true ∧ nonneg e = true
  | nil, _, _, h => nomatch h
  | cons s e r, h, x, hx => by
    obtain ⟨h1, h2, h3⟩ := form_e h
    rcases List.mem_cons.mp hx with q | q
    · rw [q]; exact ⟨h1, h2⟩
    · exact form_exps h3 x q
theorem good_of {n : Num} (h : formN n = true) (h2 : nonneg n = true) : good n = true := by
  simp [good, form_hn h, h2, h]
theorem apart_cmp {e f : Num} (h : apart e f = true) : 0 < cmp e f := by
  simp only [apart, Bool.and_eq_true, decide_eq_true_eq] at h
  exact h.1
theorem form_down : ∀ {s : Bool} {e r : Num}, formN (cons s e r) = true → ∀ x ∈ exps r, 0 < cmp e x
  | s, e, nil, _, _, h => nomatch h
  | s, e, cons t f q, h, x, hx => by
    have h1 := apart_cmp (form_apart h)
    rcases List.mem_cons.mp hx with w | w
    · rw [w]; exact h1
    · exact (cmp_trans e f x).1 h1 (form_down (form_e h).2.2 x w)
theorem form_nodup : ∀ {n : Num}, formN n = true → (exps n).Nodup
  | nil, _ => List.nodup_nil
  | cons s e r, h => by
    rw [exps, List.nodup_cons]
    refine ⟨fun m => ?_, form_nodup (form_e h).2.2⟩
    have q := form_down h e m
    rw [cmp_self] at q
    exact absurd q (by decide)
/-! ### the set's facts -/
theorem nil_in : nil ∈ sAll := by
  refine List.mem_append_left _ ?_
  refine List.mem_flatMap.mpr ⟨0, by simp, ?_⟩
  have e : ofI 5 ((0 : Nat) : Int) = nil := by decide +kernel
  rw [e]
  exact List.mem_cons_self
theorem set_height {x : Num} (h : x ∈ sAll) : height x ≤ 40 := by
  have q := List.all_eq_true.mp inj_all (hashN x, x) (List.mem_map.mpr ⟨x, h, rfl⟩)
  simp only [Bool.and_eq_true, decide_eq_true_eq] at q
  exact q.1
theorem set_inj {x y : Num} (hx : x ∈ sAll) (hy : y ∈ sAll) (h : hashN x = hashN y) : x = y := by
  have q := List.all_eq_true.mp inj_all (hashN x, x) (List.mem_map.mpr ⟨x, hx, rfl⟩)
  simp only [Bool.and_eq_true, decide_eq_true_eq] at q
  have q2 := List.all_eq_true.mp q.2 (hashN y, y) (List.mem_map.mpr ⟨y, hy, rfl⟩)
  simp only [h, beq_self_eq_true, Bool.not_true, Bool.false_or] at q2
  exact eq_of_beq q2
theorem sAll_len : sAll.length ≤ 999 := by decide +kernel
theorem nodup_len : ∀ (l m : List Num), l.Nodup → (∀ x ∈ l, x ∈ m) → l.length ≤ m.length
  | [], _, _, _ => Nat.zero_le _
  | x :: r, m, h, hm => by
    have hx := hm x List.mem_cons_self
    rw [List.nodup_cons] at h
    have ih := nodup_len r (m.erase x) h.2 fun y hy => (List.mem_erase_of_ne (fun e => h.1 (by rw [← e]; exact hy))).mpr (hm y (List.mem_cons_of_mem _ hy))
    have hp := List.length_pos_of_mem hx
    rw [List.length_erase_of_mem hx] at ih
    rw [List.length_cons]; omega
theorem okKeys_of {ks : List Num} (h : ∀ k ∈ ks, k ∈ sAll) (hl : ks.length ≤ 1000) : okKeys ks = true := by
  unfold okKeys
  rw [Bool.and_eq_true]
  refine ⟨decide_eq_true hl, ?_⟩
  refine List.all_eq_true.mpr fun k hk => ?_
  rw [Bool.and_eq_true]
  refine ⟨decide_eq_true (set_height (h k hk)), List.all_eq_true.mpr fun j hj => ?_⟩
  by_cases e : hashN j = hashN k
  · rw [set_inj (h j hj) (h k hk) e]
    simp [beq_self]
  · have q : (hashN j == hashN k) = false := by simpa using e
    rw [q]; rfl
theorem chain_dn {f : Nat} : ∀ (j : Nat) (x : Num), chain f (j + 1) x = true → chain f j x = true
  | 0, _, _ => rfl
  | j + 1, x, h => by
    rw [chain] at h ⊢
    cases e : nextF f x with
    | none => rw [e] at h; exact absurd h Bool.false_ne_true
    | some y => rw [e] at h; exact chain_dn j y h
theorem chain_nx {f : Nat} (j : Nat) (x : Num) (h : chain f (j + 1) x = true) : ∃ y, nextF f x = some y ∧ chain f j y = true := by
  rw [chain] at h
  cases e : nextF f x with
  | none => rw [e] at h; exact absurd h Bool.false_ne_true
  | some y => rw [e] at h; exact ⟨y, rfl, h⟩
theorem next_def {n : Num} (hf : formN n = true) (hs : ∀ e ∈ exps n, e ∈ sAll) : ∃ m, nextF 12 n = some m := by
  obtain ⟨m, e, _⟩ := next_ok (f := 11) (J := 0) (P := fun j x => chain 11 j x = true) ⟨fun j x => chain_dn j x, fun j x => chain_nx j x⟩ (n := n)
    (okKeys_of (fun k hk => by
      rcases List.mem_cons.mp hk with q | q
      · rw [q]; exact nil_in
      · exact hs k q) (by
      have := nodup_len (exps n) sAll (form_nodup hf) hs
      have := sAll_len
      rw [List.length_cons]; omega)) (form_nodup hf) (List.all_eq_true.mp chain_all nil nil_in) fun e he => List.all_eq_true.mp chain_all e (hs e he)
  exact ⟨m, e⟩
/-! ### what is safe -/
def SafeP (u l : Num) : Prop := formN u = true → formN l = true → nonneg u = true → nonneg l = true → 0 < cmp u l → ∀ e ∈ exps l, e ∈ sAll
def Safe : Num → Prop
  | nil => True
  | cons _ e r => Safe e ∧ Safe r ∧ (match r with | nil => True | cons _ f _ => SafeP e f)
/-! ### numbers of ints, with one sign changed -/
def tw : Nat → Nat
  | 0 => 0
  | d + 1 => 2 ^ tw d
theorem digs_zero (k p : Nat) : digs k p 0 = [] := by
  cases k with
  | zero => rfl
  | succ k => rw [digs, if_pos rfl]
theorem digs_le : ∀ (k p : Nat) (v : Int) (m : Nat), v.natAbs ≤ 2 ^ m → ∀ t ∈ digs k p v, p ≤ t.2 ∧ t.2 ≤ p + m
  | 0, _, _, _, _, _, h => nomatch h
  | k + 1, p, v, m, hv, t, ht => by
    rw [digs] at ht
    by_cases h0 : v = 0
    · rw [if_pos h0] at ht; exact nomatch ht
    · rw [if_neg h0] at ht
      have hsg : ∀ b : Bool, sg b = 1 ∨ sg b = -1 := fun b => by cases b <;> simp [sg]
      by_cases h1 : v % 2 = 1
      · rw [if_pos h1] at ht
        rcases List.mem_cons.mp ht with e | e
        · rw [e]; exact ⟨Nat.le_refl _, Nat.le_add_right _ _⟩
        · cases m with
          | zero =>
            have hv1 : v = 1 ∨ v = -1 := by
              have : v.natAbs ≤ 1 := hv
              omega
            have ez : (v - sg (decide (v % 4 = 3))) / 2 = 0 := by
              rcases hv1 with q | q <;> rw [q] <;> decide
            rw [ez, digs_zero] at e
            exact nomatch e
          | succ m =>
            have hp : 2 ^ (m + 1) = 2 * 2 ^ m := by rw [Nat.pow_succ]; omega
            rw [hp] at hv
            have h2 := digs_le k (p + 1) ((v - sg (decide (v % 4 = 3))) / 2) m (by
              rcases hsg (decide (v % 4 = 3)) with q | q <;> rw [q] <;> omega) t e
            exact ⟨by omega, by omega⟩
      · rw [if_neg h1] at ht
        cases m with
        | zero =>
          have hv1 : v.natAbs ≤ 1 := hv
          omega
        | succ m =>
          have hp : 2 ^ (m + 1) = 2 * 2 ^ m := by rw [Nat.pow_succ]; omega
          rw [hp] at hv
          have h2 := digs_le k (p + 1) (v / 2) m (by omega) t ht
          exact ⟨by omega, by omega⟩
theorem ofI_zero (d : Nat) : ofI d 0 = nil := by
  cases d with
  | zero => rfl
  | succ d => rw [ofI, digs_zero]; rfl
theorem ofI_stable : ∀ (d : Nat) (v : Int) (d' : Nat), v.natAbs ≤ tw d → d ≤ d' → ofI d' v = ofI d v
  | 0, v, d', hv, _ => by
    have e : v = 0 := by
      have : v.natAbs ≤ 0 := hv
      omega
    rw [e, ofI_zero, ofI_zero]
  | d + 1, v, 0, _, h => absurd h (Nat.not_succ_le_zero _)
  | d + 1, v, d' + 1, hv, h => by
    rw [ofI, ofI]
    have e : (digs 3100 0 v).map (fun t => (t.1, ofI d' t.2)) = (digs 3100 0 v).map fun t => (t.1, ofI d t.2) := by
      refine List.map_congr_left fun t ht => ?_
      have q := digs_le 3100 0 v (tw d) hv t ht
      rw [ofI_stable d (t.2 : Int) d' (by omega) (by omega)]
    rw [e]
def naf (v : Int) : Num := ofI 6 v
theorem tw5 : 97 ≤ tw 5 := by decide
theorem naf_small {v : Int} (h : v.natAbs ≤ 97) : naf v = ofI 5 v := ofI_stable 5 v 6 (Nat.le_trans h tw5) (by decide)
def FlB (b : Nat) (n : Num) : Prop := ∃ p : Nat, p ≤ b ∧ (n = naf p ∨ n ∈ flips (naf p))
theorem naf_exps {v : Int} (h : v.natAbs ≤ 2 ^ 97) : ∀ e ∈ exps (naf v), ∃ p : Nat, p ≤ 97 ∧ e = naf p := by
  intro e he
  unfold naf at he
  rw [ofI, exps_eq, terms_ofTerms] at he
  obtain ⟨t, ht, rfl⟩ := List.mem_map.mp he
  obtain ⟨u, hu, rfl⟩ := List.mem_map.mp (List.mem_reverse.mp ht)
  have q := digs_le 3100 0 v 97 h u hu
  exact ⟨u.2, by omega, (naf_small (by omega)).symm⟩
theorem flips_exps : ∀ {n m : Num}, m ∈ flips n → ∀ e ∈ exps m, e ∈ exps n ∨ ∃ e' ∈ exps n, e ∈ flips e'
  | nil, _, h, _, _ => nomatch h
  | cons s x r, m, h, e, he => by
    rw [flips] at h
    rcases List.mem_append.mp h with h | h
    · rcases List.mem_cons.mp h with h | h
      · rw [h] at he
        exact .inl he
      · obtain ⟨x', hx, rfl⟩ := List.mem_map.mp h
        rcases List.mem_cons.mp he with q | q
        · exact .inr ⟨x, List.mem_cons_self, by rw [q]; exact hx⟩
        · exact .inl (List.mem_cons_of_mem _ q)
    · obtain ⟨r', hr, rfl⟩ := List.mem_map.mp h
      rcases List.mem_cons.mp he with q | q
      · exact .inl (by rw [q]; exact List.mem_cons_self)
      · rcases flips_exps hr e q with w | ⟨e', w, w2⟩
        · exact .inl (List.mem_cons_of_mem _ w)
        · exact .inr ⟨e', List.mem_cons_of_mem _ w, w2⟩
theorem FlB.exps {n : Num} (h : FlB (2 ^ 97) n) : ∀ e ∈ exps n, FlB 97 e := by
  intro e he
  obtain ⟨v, hv, h⟩ := h
  have done : ∀ e', e' ∈ Num.exps (naf v) → (e = e' ∨ e ∈ flips e') → FlB 97 e := fun e' h1 h2 => by
    obtain ⟨p, hp, q⟩ := naf_exps (v := (v : Int)) (by omega) e' h1
    rw [q] at h2
    exact ⟨p, hp, h2⟩
  rcases h with h | h
  · rw [h] at he
    exact done e he (.inl rfl)
  · rcases flips_exps h e he with q | ⟨e', q, q2⟩
    · exact done e q (.inl rfl)
    · exact done e' q (.inr q2)
theorem FlB.mono {a b : Nat} (h : a ≤ b) {n : Num} : FlB a n → FlB b n := fun ⟨v, hv, q⟩ => ⟨v, Nat.le_trans hv h, q⟩
theorem big97 : 97 ≤ 2 ^ 97 := by decide
/-- exponents of a number: a number of an int from 0 to 97, or one with a sign changed -/
theorem flip_in {n : Num} (h : FlB 97 n) (g : good n = true) : n ∈ sAll := by
  obtain ⟨v, hv, h⟩ := h
  refine List.mem_append_left _ (List.mem_flatMap.mpr ⟨v, by rw [List.mem_range]; omega, ?_⟩)
  rw [← naf_small (v := (v : Int)) (by omega)]
  rcases h with h | h
  · rw [h]; exact List.mem_cons_self
  · exact List.mem_cons_of_mem _ (List.mem_filter.mpr ⟨h, g⟩)
/-! ### small numbers -/
theorem gen_in : ∀ (f : Nat) (n : Num), hn n = true → size n ≤ f → n ∈ gen f (size n)
  | 0, n, _, h => absurd (Nat.le_trans (size_pos n) h) (by decide)
  | f + 1, nil, _, _ => by
    rw [gen, if_pos (show size nil = 1 from rfl)]
    exact List.mem_cons_self
  | f + 1, cons s e r, h, hs => by
    simp only [hn, Bool.and_eq_true] at h
    obtain ⟨⟨h1, h2⟩, h3⟩ := h
    have p1 := size_pos e
    have p2 := size_pos r
    rw [size] at hs
    rw [gen, size, if_neg (by omega)]
    refine List.mem_flatMap.mpr ⟨size e, by rw [List.mem_range]; omega, ?_⟩
    rw [if_neg (by omega)]
    refine List.mem_flatMap.mpr ⟨e, List.mem_filter.mpr ⟨gen_in f e h1 (by omega), h2⟩, ?_⟩
    refine List.mem_flatMap.mpr ⟨r, ?_, ?_⟩
    · rw [Nat.add_sub_cancel_left]
      exact gen_in f r h3 (by omega)
    · cases s <;> simp
theorem small_in {n : Num} (h : size n ≤ 6) (g : good n = true) : n ∈ sAll := by
  refine List.mem_append_right _ (List.mem_flatMap.mpr ⟨size n, by rw [List.mem_range]; omega, List.mem_filter.mpr ⟨gen_in 7 n ?_ (by omega), g⟩⟩)
  simp only [good, Bool.and_eq_true] at g
  exact g.1.1
theorem size_height : ∀ n : Num, height n + 1 ≤ size n
  | nil => Nat.le_refl 1
  | cons s e r => by
    have h1 := size_height e
    have h2 := size_height r
    rw [height, size]
    omega
theorem height_exps : ∀ (n : Num) (b : Nat), (∀ x ∈ exps n, 1 + height x ≤ b) → height n ≤ b
  | nil, b, _ => Nat.zero_le b
  | cons s e r, b, h => by
    have h1 := h e List.mem_cons_self
    have h2 := height_exps r b fun x hx => h x (List.mem_cons_of_mem _ hx)
    rw [height]
    omega
theorem exps_height : ∀ {n x : Num}, x ∈ exps n → 1 + height x ≤ height n
  | nil, _, h => nomatch h
  | cons s e r, x, h => by
    rw [height]
    rcases List.mem_cons.mp h with q | q
    · rw [q]; omega
    · have := exps_height q; omega
theorem exps_size : ∀ {n x : Num}, x ∈ exps n → size x + 1 ≤ size n
  | nil, _, h => nomatch h
  | cons s e r, x, h => by
    rw [size]
    have p1 := size_pos e
    have p2 := size_pos r
    rcases List.mem_cons.mp h with q | q
    · rw [q]; omega
    · have := exps_size q; omega
/-- a greater number is not lower -/
theorem mono_height : ∀ (k : Nat) (u l : Num), size u + size l ≤ k → formN u = true → formN l = true → nonneg u = true → nonneg l = true → 0 < cmp u l → height l ≤ height u
  | 0, u, l, hk, _, _, _, _, _ => by have := size_pos u; omega
  | k + 1, u, l, hk, fu, fl, nu, nl, hc => by
    cases l with
    | nil => exact Nat.zero_le _
    | cons t f q =>
      have ht : t = false := by simpa [nonneg] using nl
      subst ht
      cases u with
      | nil => exact absurd hc (by simp [cmp, sg])
      | cons s e r =>
        have hs : s = false := by simpa [nonneg] using nu
        subst hs
        simp only [size] at hk
        have p1 := size_pos r
        have p2 := size_pos q
        have p3 := size_pos e
        obtain ⟨fe, ne, _⟩ := form_e fu
        obtain ⟨ff, nf, _⟩ := form_e fl
        have lead : height (cons false f q) ≤ 1 + height f := height_exps _ _ fun x hx => by
          rcases List.mem_cons.mp hx with w | w
          · rw [w]; exact Nat.le_refl _
          · have sx := exps_size w
            have gx := form_exps fl x hx
            have := mono_height k f x (by omega) ff gx.1 nf gx.2 (form_down fl x w)
            omega
        have he : height f ≤ height e := by
          rw [cmp, if_pos rfl] at hc
          by_cases h0 : cmp e f = 0
          · rw [cmp_zero h0]; exact Nat.le_refl _
          · rw [if_neg h0, sg_f, Int.mul_one] at hc
            exact mono_height k e f (by omega) fe ff ne nf hc
        have hu := exps_height (n := cons false e r) (x := e) List.mem_cons_self
        omega
/-! forms that are low -/
theorem low0 {n : Num} (h : height n ≤ 0) : n = nil := by
  cases n with
  | nil => rfl
  | cons s e r => simp only [height] at h; omega
def one : Num := cons false nil nil
def two : Num := cons false one nil
theorem low1 {n : Num} (h : height n ≤ 1) (f : formN n = true) (g : nonneg n = true) : n = nil ∨ n = one := by
  cases n with
  | nil => exact .inl rfl
  | cons s e r =>
    have hs : s = false := by simpa [nonneg] using g
    subst hs
    simp only [height] at h
    have he := low0 (n := e) (by omega)
    subst he
    cases r with
    | nil => exact .inr rfl
    | cons t x q =>
      simp only [height] at h
      have hx := low0 (n := x) (by omega)
      subst hx
      exact absurd (form_apart f) (by decide +kernel)
theorem low2 {n : Num} (h : height n ≤ 2) (f : formN n = true) (g : nonneg n = true) : n = nil ∨ n = one ∨ n = two := by
  cases n with
  | nil => exact .inl rfl
  | cons s e r =>
    have hs : s = false := by simpa [nonneg] using g
    subst hs
    simp only [height] at h
    obtain ⟨fe, ne, fr⟩ := form_e f
    have he := low1 (n := e) (by omega) fe ne
    cases r with
    | nil =>
      rcases he with q | q
      · exact .inr (.inl (by rw [q]; rfl))
      · exact .inr (.inr (by rw [q]; rfl))
    | cons t x q =>
      simp only [height] at h
      obtain ⟨fx, nx, _⟩ := form_e fr
      have hx := low1 (n := x) (by omega) fx nx
      have ha := form_apart f
      rcases he with w | w <;> rcases hx with w2 | w2 <;> rw [w, w2] at ha <;> exact absurd ha (by decide +kernel)
theorem low3 {n : Num} (h : height n ≤ 3) (f : formN n = true) : size n ≤ 6 := by
  cases n with
  | nil => decide
  | cons s e r =>
    simp only [height] at h
    obtain ⟨fe, ne, fr⟩ := form_e f
    have he := low2 (n := e) (by omega) fe ne
    have se : size e ≤ 3 := by rcases he with q | q | q <;> rw [q] <;> decide
    cases r with
    | nil => rw [size, size]; omega
    | cons t x q =>
      simp only [height] at h
      obtain ⟨fx, nx, fq⟩ := form_e fr
      have hx := low2 (n := x) (by omega) fx nx
      have ha := form_apart f
      have hx0 : x = nil := by
        rcases he with w | w | w <;> rcases hx with w2 | w2 | w2
        all_goals first
          | exact w2
          | (rw [w, w2] at ha; exact absurd ha (by decide +kernel))
      subst hx0
      cases q with
      | nil => simp only [size]; omega
      | cons b y p =>
        simp only [height] at h
        obtain ⟨fy, ny, _⟩ := form_e fq
        have hy := low2 (n := y) (by omega) fy ny
        have hb := form_apart fr
        rcases hy with w | w | w <;> rw [w] at hb <;> exact absurd hb (by decide +kernel)
/-! ### the three reasons -/
theorem safe_flips : ∀ {n : Num}, (∀ e ∈ exps n, FlB (2 ^ 97) e) → Safe n
  | nil, _ => trivial
  | cons s e r, h => by
    have he := h e List.mem_cons_self
    refine ⟨safe_flips fun x hx => (he.exps x hx).mono big97, safe_flips fun x hx => h x (List.mem_cons_of_mem _ hx), ?_⟩
    cases r with
    | nil => trivial
    | cons t f q =>
      have hf := h f (List.mem_cons_of_mem _ List.mem_cons_self)
      intro _ fl _ _ _ x hx
      have g := form_exps fl x hx
      exact flip_in (hf.exps x hx) (good_of g.1 g.2)
theorem safe_small : ∀ {n : Num}, size n ≤ 14 → Safe n
  | nil, _ => trivial
  | cons s e r, h => by
    rw [size] at h
    have p1 := size_pos e
    have p2 := size_pos r
    refine ⟨safe_small (by omega), safe_small (by omega), ?_⟩
    cases r with
    | nil => trivial
    | cons t f q =>
      rw [size] at h
      have p3 := size_pos q
      intro fu fl nu nl hc x hx
      have g := form_exps fl x hx
      refine small_in ?_ (good_of g.1 g.2)
      have hm := mono_height _ e f (Nat.le_refl _) fu fl nu nl hc
      have s1 := size_height e
      have s2 := exps_size hx
      by_cases hh : height f ≤ 4
      · have := exps_height hx
        exact low3 (by omega) g.1
      · omega
/-- one term at most, all the way down -/
def thin : Num → Prop
  | nil => True
  | cons _ e r => thin e ∧ r = nil
theorem safe_thin : ∀ {n : Num}, thin n → Safe n
  | nil, _ => trivial
  | cons s e r, h => by
    obtain ⟨h1, h2⟩ := h
    subst h2
    exact ⟨safe_thin h1, trivial, trivial⟩
end SR
set_option Elab.async false
set_option linter.all false
set_option maxRecDepth 100000
/-! Texts of numbers: written, read in two ways; what a spoilt text can be. Texts are lists of codes. -/
namespace SR
open Num
def sc (b : Bool) : Nat := if b then 45 else 43
theorem sc_inj {a b : Bool} (h : sc a = sc b) : a = b := by cases a <;> cases b <;> first | rfl | exact absurd h (by decide)
theorem sc_or (b : Bool) : sc b = 43 ∨ sc b = 45 := by cases b <;> simp [sc]
def txz : List Nat → List Nat
  | [] => [48]
  | l => l
def tt : Num → List Nat
  | nil => []
  | cons s e r => sc s :: 91 :: (txz (tt e) ++ 93 :: tt r)
def txt (n : Num) : List Nat := txz (tt n)
/-- without noughts -/
def zt : Num → List Nat
  | nil => []
  | cons s e r => sc s :: 91 :: (zt e ++ 93 :: zt r)
def zf (l : List Nat) : List Nat := l.filter fun c => c != 48
theorem zf_app (a b : List Nat) : zf (a ++ b) = zf a ++ zf b := List.filter_append ..
theorem zf_txz (l : List Nat) : zf (txz l) = zf l := by cases l <;> rfl
theorem zf_cons {c : Nat} (h : c ≠ 48) (l : List Nat) : zf (c :: l) = c :: zf l := by
  unfold zf; rw [List.filter_cons, if_pos (by simpa using h)]
theorem zf_zero (l : List Nat) : zf (48 :: l) = zf l := rfl
theorem sc_ne (b : Bool) : sc b ≠ 48 := by cases b <;> decide
theorem zf_tt : ∀ n : Num, zf (tt n) = zt n
  | nil => rfl
  | cons s e r => by
    rw [tt, zt, zf_cons (sc_ne s), zf_cons (by decide), zf_app, zf_txz, zf_tt e, zf_cons (by decide), zf_tt r]
theorem zf_txt (n : Num) : zf (txt n) = zt n := by rw [txt, zf_txz, zf_tt]
theorem zt_len : ∀ n : Num, (zt n).length + 3 = 3 * size n
  | nil => rfl
  | cons s e r => by
    have h1 := zt_len e
    have h2 := zt_len r
    simp only [zt, size, List.length_cons, List.length_append]
    omega
theorem txz_len (l : List Nat) (k : Nat) (h : l.length ≤ 4 * k) : (txz l).length ≤ 4 * k + 1 := by
  cases l with
  | nil => exact Nat.succ_le_succ (Nat.zero_le _)
  | cons a b => exact Nat.le_succ_of_le h
theorem tt_len : ∀ n : Num, (tt n).length + 4 ≤ 4 * size n
  | nil => Nat.le_refl _
  | cons s e r => by
    have h1 := tt_len e
    have h2 := tt_len r
    have p1 := size_pos e
    have h3 := txz_len (tt e) (size e - 1) (by omega)
    simp only [tt, size, List.length_cons, List.length_append]
    omega
theorem txt_len (n : Num) : (txt n).length + 3 ≤ 4 * size n := by
  have h := tt_len n
  have p := size_pos n
  have := txz_len (tt n) (size n - 1) (by omega)
  unfold txt
  omega
theorem tt_ne {s : Bool} {e r : Num} : txt (cons s e r) = tt (cons s e r) := rfl
theorem len_size : ∀ n : Num, len n + 1 ≤ size n
  | nil => Nat.le_refl _
  | cons s e r => by
    have := len_size r
    have := size_pos e
    rw [len, size]; omega
/-! ### the law's reader -/
/-- the place of the closing bracket, from here; d: how many are open -/
def closeS : Int → List Nat → Option Nat
  | _, [] => none
  | d, c :: r =>
    if c = 91 then (closeS (d + 1) r).map (· + 1)
    else if c = 93 then (if d - 1 = 0 then some 0 else (closeS (d - 1) r).map (· + 1))
    else (closeS d r).map (· + 1)
def isHead (l : List Nat) : Bool := l == [43, 91] || l == [45, 91]
def rdLoop (rd : List Nat → Option Num) (shut : Bool) : Nat → List Nat → Option Num
  | 0, t => if t = [] then some nil else none
  | k + 1, t => if t = [] then some nil else match closeS 0 (t.drop 1) with
    | none => none
    | some j => if isHead (t.take 2) = true ∧ shut = false then match rd ((t.drop 2).take (j - 1)) with
        | none => none
        | some e => match rdLoop rd shut k (t.drop (j + 2)) with
          | none => none
          | some r => some (cons (t.headD 0 == 45) e r)
      else none
def rdL : Nat → List Nat → Option Num
  | 0, t => if t = [48] then some nil else none
  | d + 1, t => if t = [48] then some nil else match rdLoop (rdL d) false 400 t with
    | some (cons s e r) => some (cons s e r)
    | _ => none
theorem closeS_at : ∀ (t : List Nat) (d : Int) (j : Nat), closeS d t = some j → t[j]? = some 93
  | [], _, _, h => nomatch h
  | c :: r, d, j, h => by
    rw [closeS] at h
    split at h
    · obtain ⟨i, hi, rfl⟩ := Option.map_eq_some_iff.mp h
      exact closeS_at r _ i hi
    · split at h
      · rename_i h2
        split at h
        · cases h
          rw [h2]; rfl
        · obtain ⟨i, hi, rfl⟩ := Option.map_eq_some_iff.mp h
          exact closeS_at r _ i hi
      · obtain ⟨i, hi, rfl⟩ := Option.map_eq_some_iff.mp h
        exact closeS_at r _ i hi
theorem rdLoop_txt {rd : List Nat → Option Num} {shut : Bool} (hr : ∀ t e, rd t = some e → t = txt e) : ∀ (k : Nat) (t : List Nat) (n : Num), rdLoop rd shut k t = some n → t = tt n
  | 0, t, n, h => by
    rw [rdLoop] at h
    split at h
    · rename_i q
      cases h
      exact q
    · exact nomatch h
  | k + 1, t, n, h => by
    rw [rdLoop] at h
    split at h
    · rename_i q
      cases h
      exact q
    · rename_i hne
      cases hc : closeS 0 (t.drop 1) with
      | none => rw [hc] at h; exact nomatch h
      | some j =>
        rw [hc] at h
        simp only at h
        split at h
        · rename_i hh
          cases hi : rd ((t.drop 2).take (j - 1)) with
          | none => rw [hi] at h; exact nomatch h
          | some e =>
            rw [hi] at h
            simp only at h
            cases hl : rdLoop rd shut k (t.drop (j + 2)) with
            | none => rw [hl] at h; exact nomatch h
            | some r =>
              rw [hl] at h
              cases h
              have e1 := hr _ _ hi
              have e2 := rdLoop_txt hr k _ _ hl
              have e3 := closeS_at _ _ _ hc
              cases t with
              | nil => exact absurd rfl hne
              | cons a t =>
                cases t with
                | nil => simp [isHead] at hh
                | cons b t =>
                  have ab : (a = 43 ∨ a = 45) ∧ b = 91 := by
                    have := hh.1
                    simp only [isHead, List.take_succ_cons, List.take_zero, Bool.or_eq_true, beq_iff_eq, List.cons.injEq, and_true] at this
                    rcases this with q | q
                    · exact ⟨.inl q.1, q.2⟩
                    · exact ⟨.inr q.1, q.2⟩
                  obtain ⟨ha, rfl⟩ := ab
                  cases j with
                  | zero => simp at e3
                  | succ j =>
                    simp only [List.drop_succ_cons, List.drop_zero, Nat.add_sub_cancel] at e1 e2 e3 ⊢
                    have e4 : t[j]? = some 93 := by simpa using e3
                    have e5 : t = t.take j ++ 93 :: t.drop (j + 1) := by
                      have hj : j < t.length := (List.getElem?_eq_some_iff.mp e4).1
                      have hv : t[j] = 93 := (List.getElem?_eq_some_iff.mp e4).2
                      conv => lhs; rw [← List.take_append_drop j t, List.drop_eq_getElem_cons hj, hv]
                    have es : sc (a == 45) = a := by rcases ha with q | q <;> rw [q] <;> rfl
                    rw [tt]
                    show a :: 91 :: t = sc (a == 45) :: 91 :: (txt e ++ 93 :: tt r)
                    rw [es, ← e1, ← e2, ← e5]
        · exact nomatch h
theorem rdL_txt : ∀ (d : Nat) (t : List Nat) (n : Num), rdL d t = some n → t = txt n
  | 0, t, n, h => by
    rw [rdL] at h
    split at h
    · rename_i q
      cases h
      exact q
    · exact nomatch h
  | d + 1, t, n, h => by
    rw [rdL] at h
    split at h
    · rename_i q
      cases h
      exact q
    · cases hl : rdLoop (rdL d) false 400 t with
      | none => rw [hl] at h; exact nomatch h
      | some m =>
        rw [hl] at h
        cases m with
        | nil => exact nomatch h
        | cons s e r =>
          cases h
          rw [tt_ne]
          exact rdLoop_txt (fun t e => rdL_txt d t e) _ _ _ hl
theorem close_in : ∀ (n : Num) (d : Int) (rest : List Nat), 0 < d → closeS d (tt n ++ rest) = (closeS d rest).map (· + (tt n).length)
  | nil, d, rest, _ => by
    show closeS d rest = (closeS d rest).map (· + 0)
    cases closeS d rest <;> rfl
  | cons s e r, d, rest, hd => by
    have h1 : ∀ rest d, 0 < d → closeS d (txz (tt e) ++ rest) = (closeS d rest).map (· + (txz (tt e)).length) := fun rest d hd => by
      have ih := close_in e d rest hd
      cases he : tt e with
      | nil =>
        show closeS d (48 :: rest) = _
        rw [closeS, if_neg (by decide), if_neg (by decide)]
        rfl
      | cons a b =>
        rw [he] at ih
        exact ih
    have hsc : sc s ≠ 91 ∧ sc s ≠ 93 := by cases s <;> decide
    rw [tt]
    simp only [List.cons_append, List.append_assoc]
    rw [closeS, if_neg hsc.1, if_neg hsc.2, closeS, if_pos rfl, h1 _ _ (by omega), closeS, if_neg (by decide), if_pos rfl, if_neg (by omega), show d + 1 - 1 = d by omega, close_in r d rest hd]
    simp only [Option.map_map, List.length_cons, List.length_append]
    congr 1
    funext x
    simp only [Function.comp_apply]
    omega
theorem close_txt (e : Num) (rest : List Nat) : closeS 0 (91 :: (txz (tt e) ++ 93 :: rest)) = some ((txz (tt e)).length + 1) := by
  rw [closeS, if_pos rfl]
  have h1 : closeS (0 + 1) (txz (tt e) ++ 93 :: rest) = (closeS (0 + 1) (93 :: rest)).map (· + (txz (tt e)).length) := by
    have ih := close_in e (0 + 1) (93 :: rest) (by decide)
    cases he : tt e with
    | nil =>
      show closeS (0 + 1) (48 :: 93 :: rest) = _
      rw [closeS, if_neg (by decide), if_neg (by decide)]
      rfl
    | cons a b =>
      rw [he] at ih
      exact ih
  rw [h1, closeS, if_neg (by decide), if_pos rfl, if_pos (by decide)]
  simp
theorem rdLoop_of {rd : List Nat → Option Num} : ∀ (k : Nat) (n : Num), len n ≤ k → (∀ e ∈ exps n, rd (txt e) = some e) → rdLoop rd false k (tt n) = some n
  | k, nil, _, _ => by cases k <;> (rw [rdLoop]; exact if_pos rfl)
  | 0, cons s e r, h, _ => by rw [len] at h; omega
  | k + 1, cons s e r, h, hr => by
    rw [len] at h
    have he := hr e List.mem_cons_self
    have ih := rdLoop_of k r (by omega) fun x hx => hr x (List.mem_cons_of_mem _ hx)
    have hh : isHead [sc s, 91] = true := by cases s <;> rfl
    have hs : (sc s == 45) = s := by cases s <;> rfl
    rw [tt, rdLoop, if_neg (by simp)]
    simp only [List.drop_succ_cons, List.drop_zero, List.take_succ_cons, List.take_zero, close_txt, hh, and_self, if_true, Nat.add_sub_cancel, List.headD_cons, hs]
    rw [List.take_left, show rd (txz (tt e)) = some e from he]
    have e2 : (txz (tt e) ++ 93 :: tt r).drop ((txz (tt e)).length + 1) = tt r := by
      rw [List.drop_append, Nat.add_sub_cancel_left, List.drop_eq_nil_of_le (by omega)]
      rfl
    simp only [e2, ih]
theorem rdL_of : ∀ (d : Nat) (n : Num), height n ≤ d → size n ≤ 400 → rdL d (txt n) = some n
  | 0, n, h, _ => by rw [low0 h]; rfl
  | d + 1, nil, _, _ => rfl
  | d + 1, cons s e r, h, hs => by
    have l1 := len_size (cons s e r)
    rw [rdL, if_neg (by rw [tt_ne, tt]; simp), tt_ne, rdLoop_of 400 (cons s e r) (by omega) fun x hx => rdL_of d x (by have := exps_height hx; omega) (by have := exps_size hx; omega)]
/-! ### the program's reader -/
abbrev Tms := List (Bool × Num)
def popSt (cur : Tms) : List (Bool × Tms) → Option (Tms × List (Bool × Tms))
  | [] => none
  | (s, o) :: st => some (o ++ [(s, ofTerms cur)], st)
def rdP : List Nat → Tms → List (Bool × Tms) → Option Num
  | [], cur, st => if st = [] then some (ofTerms cur) else none
  | [c], cur, st =>
      if c = 93 then (popSt cur st).bind fun p => rdP [] p.1 p.2
      else if c = 48 ∧ cur = [] then rdP [] cur st
      else none
  | c :: d :: r', cur, st =>
      if (c = 43 ∨ c = 45) ∧ d = 91 then (if st.length + 2 ≤ 41 then rdP r' [] ((c == 45, cur) :: st) else none)
      else if c = 93 then (popSt cur st).bind fun p => rdP (d :: r') p.1 p.2
      else if c = 48 ∧ cur = [] ∧ d = 93 then rdP (d :: r') cur st
      else none
theorem ofTerms_app : ∀ (a b : Tms), ofTerms (a ++ b) = app (ofTerms a) (ofTerms b)
  | [], b => rfl
  | (s, e) :: a, b => by rw [List.cons_append, ofTerms, ofTerms, app, ofTerms_app a b]
theorem zt_app : ∀ (a b : Num), zt (app a b) = zt a ++ zt b
  | nil, b => rfl
  | cons s e r, b => by rw [app, zt, zt, zt_app r b]; simp
def ctx : List (Bool × Tms) → Tms → List Nat
  | [], cur => zt (ofTerms cur)
  | (s, o) :: st, cur => ctx st o ++ sc s :: 91 :: zt (ofTerms cur)
theorem ctx_app (st : List (Bool × Tms)) (o : Tms) (s : Bool) (n : Num) : ctx st (o ++ [(s, n)]) = ctx st o ++ sc s :: 91 :: (zt n ++ [93]) := by
  have e : zt (ofTerms (o ++ [(s, n)])) = zt (ofTerms o) ++ sc s :: 91 :: (zt n ++ [93]) := by
    rw [ofTerms_app, zt_app]
    rfl
  cases st with
  | nil => exact e
  | cons p st => rw [ctx, ctx, e]; simp
theorem rdP_zt : ∀ (t : List Nat) (cur : Tms) (st : List (Bool × Tms)) (n : Num), rdP t cur st = some n → ctx st cur ++ zf t = zt n
  | [], cur, st, n, h => by
    rw [rdP] at h
    split at h
    · rename_i q
      cases h
      rw [q]
      exact List.append_nil _
    · exact nomatch h
  | c :: [], cur, st, n, h => by
    rw [rdP] at h
    split at h
    · rename_i q
      subst q
      cases st with
      | nil => exact nomatch h
      | cons p st =>
        obtain ⟨s, o⟩ := p
        have ih := rdP_zt [] _ _ n h
        rw [ctx_app] at ih
        rw [← ih, ctx, zf_cons (by decide)]
        simp
    · split at h
      · rename_i q
        obtain ⟨rfl, _⟩ := q
        exact rdP_zt [] _ _ n h
      · exact nomatch h
  | c :: d :: r, cur, st, n, h => by
    rw [rdP] at h
    split at h
    · rename_i q
      obtain ⟨hc, rfl⟩ := q
      split at h
      · have ih := rdP_zt r _ _ n h
        have es : sc (c == 45) = c := by rcases hc with q | q <;> rw [q] <;> rfl
        rw [← ih, ctx, es, zf_cons (by omega), zf_cons (by decide)]
        show _ = ctx st cur ++ c :: 91 :: [] ++ _
        simp
      · exact nomatch h
    · split at h
      · rename_i q
        subst q
        cases st with
        | nil => exact nomatch h
        | cons p st =>
          obtain ⟨s, o⟩ := p
          have ih := rdP_zt (d :: r) _ _ n h
          rw [ctx_app] at ih
          rw [← ih, ctx, zf_cons (by decide : (93 : Nat) ≠ 48)]
          simp
      · split at h
        · rename_i q
          obtain ⟨rfl, _⟩ := q
          have ih := rdP_zt (d :: r) _ _ n h
          rw [← ih, zf_zero]
        · exact nomatch h
theorem rdP_push {s : Bool} {r : List Nat} {cur : Tms} {st : List (Bool × Tms)} (h : st.length + 2 ≤ 41) : rdP (sc s :: 91 :: r) cur st = rdP r [] ((s, cur) :: st) := by
  rw [rdP, if_pos ⟨sc_or s, rfl⟩, if_pos h]
  have : (sc s == 45) = s := by cases s <;> rfl
  rw [this]
theorem rdP_one (c : Nat) (cur : Tms) (st : List (Bool × Tms)) : rdP [c] cur st = if c = 93 then (popSt cur st).bind fun p => rdP [] p.1 p.2 else if c = 48 ∧ cur = [] then rdP [] cur st else none := by conv => lhs; rw [rdP]
theorem rdP_pop {r : List Nat} {cur o : Tms} {s : Bool} {st : List (Bool × Tms)} : rdP (93 :: r) cur ((s, o) :: st) = rdP r (o ++ [(s, ofTerms cur)]) st := by
  cases r with
  | nil => rw [rdP_one, if_pos rfl]; rfl
  | cons d r => rw [rdP, if_neg (by omega), if_pos rfl]; rfl
theorem rdP_nought {r : List Nat} {st : List (Bool × Tms)} : rdP (48 :: 93 :: r) [] st = rdP (93 :: r) [] st := by
  rw [rdP, if_neg (by decide), if_neg (by decide), if_pos ⟨rfl, rfl, rfl⟩]
theorem rdP_run : ∀ (n : Num) (rest : List Nat) (cur : Tms) (st : List (Bool × Tms)), st.length + height n ≤ 40 → rdP (tt n ++ rest) cur st = rdP rest (cur ++ terms n) st
  | nil, rest, cur, st, _ => by
    show rdP rest cur st = rdP rest (cur ++ []) st
    rw [List.append_nil]
  | cons s e r, rest, cur, st, h => by
    rw [height] at h
    have hin : ∀ u, rdP (txz (tt e) ++ 93 :: u) [] ((s, cur) :: st) = rdP (93 :: u) (terms e) ((s, cur) :: st) := fun u => by
      have ih := rdP_run e (93 :: u) [] ((s, cur) :: st) (by rw [List.length_cons]; omega)
      cases e with
      | nil => exact rdP_nought
      | cons a b c => exact ih
    rw [tt]
    simp only [List.cons_append, List.append_assoc]
    rw [rdP_push (by omega), hin, rdP_pop, ofTerms_terms, rdP_run r rest _ st (by omega)]
    simp [terms]
theorem rdP_of {n : Num} (h : height n ≤ 40) : rdP (txt n) [] [] = some n := by
  cases n with
  | nil =>
    show rdP [48] [] [] = some nil
    rw [rdP, if_neg (by decide), if_pos ⟨rfl, rfl⟩, rdP, if_pos rfl]
    rfl
  | cons s e r =>
    have q := rdP_run (cons s e r) [] [] [] (by rw [List.length_nil]; omega)
    rw [List.append_nil] at q
    rw [tt_ne, q, rdP, if_pos rfl, List.nil_append, ofTerms_terms]
/-! ### both -/
def checkN (n : Num) : Bool := decide (size n ≤ 300) && decide (height n ≤ 40) && formN n
def readP (t : List Nat) : Option Num := if t.length > 1200 then none else match rdP t [] [] with
  | none => none
  | some n => if checkN n = true ∧ txt n = t then some n else none
def dueL (t : List Nat) : Option Num := match rdL 60 t with
  | none => none
  | some n => if checkN n = true then some n else none
theorem check_of {n : Num} (h : checkN n = true) : size n ≤ 300 ∧ height n ≤ 40 := by
  simp only [checkN, Bool.and_eq_true, decide_eq_true_eq] at h
  exact h.1
theorem read_some {t : List Nat} {n : Num} (h : readP t = some n) : dueL t = some n := by
  unfold readP at h
  split at h
  · exact nomatch h
  · cases hr : rdP t [] [] with
    | none => rw [hr] at h; exact nomatch h
    | some m =>
      rw [hr] at h
      simp only at h
      split at h
      · rename_i q
        cases h
        obtain ⟨q1, q2⟩ := q
        obtain ⟨h1, h2⟩ := check_of q1
        unfold dueL
        rw [← q2, rdL_of 60 n (by omega) (by omega)]
        exact if_pos q1
      · exact nomatch h
theorem due_some {t : List Nat} {n : Num} (h : dueL t = some n) : readP t = some n := by
  unfold dueL at h
  cases hr : rdL 60 t with
  | none => rw [hr] at h; exact nomatch h
  | some m =>
    rw [hr] at h
    simp only at h
    split at h
    · rename_i q
      cases h
      obtain ⟨h1, h2⟩ := check_of q
      have e := rdL_txt _ _ _ hr
      have l := txt_len n
      subst e
      unfold readP
      rw [if_neg (by omega), rdP_of h2]
      exact if_pos ⟨q, rfl⟩
    · exact nomatch h
theorem read_due (t : List Nat) : readP t = dueL t := by
  cases h : readP t with
  | some n => exact (read_some h).symm
  | none =>
    cases h2 : dueL t with
    | none => rfl
    | some n => rw [due_some h2] at h; exact nomatch h
end SR
set_option Elab.async false
set_option linter.all false
set_option maxRecDepth 100000
/-! What a spoilt text can be read as. -/
namespace SR
open Num
def isS (c : Nat) : Prop := c = 43 ∨ c = 45
theorem isS_sc (b : Bool) : isS (sc b) := sc_or b
/-- reading is unique -/
theorem zt_inj : ∀ (e f : Num) (u v : List Nat), zt e ++ 93 :: u = zt f ++ 93 :: v → e = f ∧ u = v
  | nil, nil, u, v, h => by
    simp only [zt, List.nil_append, List.cons.injEq, true_and] at h
    exact ⟨rfl, h⟩
  | nil, cons t y q, u, v, h => by
    simp only [zt, List.nil_append, List.cons_append, List.cons.injEq] at h
    have := h.1
    cases t <;> simp [sc] at this
  | cons s x r, nil, u, v, h => by
    simp only [zt, List.nil_append, List.cons_append, List.cons.injEq] at h
    have := h.1
    cases s <;> simp [sc] at this
  | cons s x r, cons t y q, u, v, h => by
    simp only [zt, List.cons_append, List.append_assoc, List.cons.injEq, true_and] at h
    obtain ⟨h1, h2⟩ := h
    obtain ⟨e1, h3⟩ := zt_inj x y _ _ h2
    obtain ⟨e2, h4⟩ := zt_inj r q _ _ h3
    rw [sc_inj h1, e1, e2]
    exact ⟨rfl, h4⟩
theorem zt_eq {n m : Num} (h : zt n = zt m) : n = m := (zt_inj n m [] [] (by rw [h])).1
/-- one sign changed -/
theorem zt_flip : ∀ (n0 n : Num) (A u v B : List Nat) (x y : Nat), isS x → isS y → x ≠ y → zt n0 ++ 93 :: u = A ++ x :: B → zt n ++ 93 :: v = A ++ y :: B →
    (n ∈ flips n0 ∧ u = v) ∨ (n = n0 ∧ ∃ A', u = A' ++ x :: B ∧ v = A' ++ y :: B)
  | nil, n, A, u, v, B, x, y, hx, hy, hne, h0, h1 => by
    cases A with
    | nil =>
      simp only [zt, List.nil_append, List.cons.injEq] at h0
      rcases hx with q | q <;> omega
    | cons a A =>
      simp only [zt, List.nil_append, List.cons_append, List.cons.injEq] at h0
      obtain ⟨rfl, h0⟩ := h0
      cases n with
      | nil =>
        simp only [zt, List.nil_append, List.cons_append, List.cons.injEq, true_and] at h1
        exact .inr ⟨rfl, A, h0, h1⟩
      | cons t f q =>
        simp only [zt, List.cons_append, List.cons.injEq] at h1
        have := h1.1
        cases t <;> simp [sc] at this
  | cons s e r, n, A, u, v, B, x, y, hx, hy, hne, h0, h1 => by
    cases A with
    | nil =>
      simp only [zt, List.nil_append, List.cons_append, List.append_assoc, List.cons.injEq] at h0
      obtain ⟨h0, hB⟩ := h0
      cases n with
      | nil =>
        simp only [zt, List.nil_append, List.cons.injEq] at h1
        rcases hy with q | q <;> omega
      | cons t f q =>
        simp only [zt, List.nil_append, List.cons_append, List.append_assoc, List.cons.injEq] at h1
        obtain ⟨h1, hB1⟩ := h1
        rw [← hB] at hB1
        simp only [List.cons.injEq, true_and] at hB1
        obtain ⟨e1, h3⟩ := zt_inj _ _ _ _ hB1
        obtain ⟨e2, h4⟩ := zt_inj _ _ _ _ h3
        have ht : t = !s := by
          cases s <;> cases t
          · exact absurd (h0.symm.trans h1) hne
          · rfl
          · rfl
          · exact absurd (h0.symm.trans h1) hne
        rw [ht, e1, e2]
        exact .inl ⟨by rw [flips]; exact List.mem_append_left _ List.mem_cons_self, h4.symm⟩
    | cons a A =>
      simp only [zt, List.cons_append, List.append_assoc, List.cons.injEq] at h0
      obtain ⟨ha, h0⟩ := h0
      cases A with
      | nil =>
        simp only [List.nil_append, List.cons.injEq] at h0
        rcases hx with q | q <;> omega
      | cons b A =>
        simp only [List.cons_append, List.cons.injEq] at h0
        obtain ⟨hb, h0⟩ := h0
        subst ha hb
        cases n with
        | nil =>
          simp only [zt, List.nil_append, List.cons_append, List.cons.injEq] at h1
          have := h1.1
          cases s <;> simp [sc] at this
        | cons t f q =>
          simp only [zt, List.cons_append, List.append_assoc, List.cons.injEq, true_and] at h1
          obtain ⟨ht, h1⟩ := h1
          have ht := sc_inj ht
          subst ht
          rcases zt_flip e f A _ _ B x y hx hy hne h0 h1 with ⟨g1, g2⟩ | ⟨g1, A', g2, g3⟩
          · obtain ⟨e2, h4⟩ := zt_inj _ _ _ _ g2
            rw [← e2]
            refine .inl ⟨?_, h4⟩
            rw [flips]
            exact List.mem_append_left _ (List.mem_cons_of_mem _ (List.mem_map.mpr ⟨f, g1, rfl⟩))
          · subst g1
            rcases zt_flip r q A' _ _ B x y hx hy hne g2 g3 with ⟨k1, k2⟩ | ⟨k1, A'', k2, k3⟩
            · refine .inl ⟨?_, k2⟩
              rw [flips]
              exact List.mem_append_right _ (List.mem_map.mpr ⟨q, k1, rfl⟩)
            · subst k1
              exact .inr ⟨rfl, A'', k2, k3⟩
/-! ### counts of signs -/
def cS (l : List Nat) : Nat := l.countP fun c => c == 43 || c == 45
def cO (l : List Nat) : Nat := l.countP fun c => c == 91
def cC (l : List Nat) : Nat := l.countP fun c => c == 93
theorem cS_app (a b : List Nat) : cS (a ++ b) = cS a + cS b := List.countP_append ..
theorem cO_app (a b : List Nat) : cO (a ++ b) = cO a + cO b := List.countP_append ..
theorem cC_app (a b : List Nat) : cC (a ++ b) = cC a + cC b := List.countP_append ..
theorem cS_cons (c : Nat) (b : List Nat) : cS (c :: b) = (if c = 43 ∨ c = 45 then 1 else 0) + cS b := by
  unfold cS; rw [List.countP_cons]; by_cases h : c = 43 ∨ c = 45 <;> simp [h] <;> omega
theorem cO_cons (c : Nat) (b : List Nat) : cO (c :: b) = (if c = 91 then 1 else 0) + cO b := by
  unfold cO; rw [List.countP_cons]; by_cases h : c = 91 <;> simp [h] <;> omega
theorem cC_cons (c : Nat) (b : List Nat) : cC (c :: b) = (if c = 93 then 1 else 0) + cC b := by
  unfold cC; rw [List.countP_cons]; by_cases h : c = 93 <;> simp [h] <;> omega
def nTerms : Num → Nat
  | nil => 0
  | cons _ e r => nTerms e + nTerms r + 1
theorem zt_counts : ∀ n : Num, cS (zt n) = nTerms n ∧ cO (zt n) = nTerms n ∧ cC (zt n) = nTerms n
  | nil => ⟨rfl, rfl, rfl⟩
  | cons s e r => by
    obtain ⟨a1, a2, a3⟩ := zt_counts e
    obtain ⟨b1, b2, b3⟩ := zt_counts r
    have hs : sc s = 43 ∨ sc s = 45 := sc_or s
    have hs1 : ¬ sc s = 91 := by cases s <;> decide
    have hs2 : ¬ sc s = 93 := by cases s <;> decide
    simp only [zt, nTerms, cS_cons, cS_app, cO_cons, cO_app, cC_cons, cC_app, if_pos hs, if_neg hs1, if_neg hs2, a1, a2, a3, b1, b2, b3]
    simp
    omega
theorem zt_chars : ∀ (n : Num) (c : Nat), c ∈ zt n → isS c ∨ c = 91 ∨ c = 93
  | nil, _, h => nomatch h
  | cons s e r, c, h => by
    simp only [zt, List.mem_cons, List.mem_append] at h
    rcases h with h | h | h | h | h
    · rw [h]; exact .inl (isS_sc s)
    · exact .inr (.inl h)
    · exact zt_chars e c h
    · exact .inr (.inr h)
    · exact zt_chars r c h
/-! ### neighbours -/
/-- a sign is followed by an opening bracket, and nothing else is -/
def Adj : List Nat → Prop
  | [] => True
  | [c] => ¬ isS c
  | c :: d :: r => (isS c ↔ d = 91) ∧ Adj (d :: r)
theorem adj_app : ∀ (a : List Nat) (d : Nat) (b : List Nat), Adj a → d ≠ 91 → Adj (d :: b) → Adj (a ++ d :: b)
  | [], _, _, _, _, h => h
  | [c], d, b, h, hd, h2 => ⟨⟨fun q => absurd q h, fun q => absurd q hd⟩, h2⟩
  | c :: c' :: r, d, b, h, hd, h2 => ⟨h.1, adj_app (c' :: r) d b h.2 hd h2⟩
theorem zt_head {n : Num} {c : Nat} {r : List Nat} (h : zt n = c :: r) : isS c := by
  cases n with
  | nil => exact nomatch h
  | cons s e q =>
    rw [zt] at h
    rw [← (List.cons.inj h).1]
    exact isS_sc s
theorem adj_zt : ∀ n : Num, Adj (zt n)
  | nil => trivial
  | cons s e r => by
    have he := adj_zt e
    have hr := adj_zt r
    have n93 : ¬ isS 93 := by unfold isS; omega
    have n91 : ¬ isS 91 := by unfold isS; omega
    have h1 : Adj (93 :: zt r) := by
      cases hz : zt r with
      | nil => exact n93
      | cons a b =>
        have ha := zt_head hz
        rw [hz] at hr
        refine ⟨⟨fun q => absurd q n93, fun q => ?_⟩, hr⟩
        rw [q] at ha
        exact absurd ha n91
    have h2 := adj_app (zt e) 93 (zt r) he (by decide) h1
    rw [zt]
    refine ⟨⟨fun _ => rfl, fun _ => isS_sc s⟩, ?_⟩
    cases hz : zt e with
    | nil => exact ⟨⟨fun q => absurd q n91, fun q => absurd q (by decide)⟩, h1⟩
    | cons a b =>
      have ha := zt_head hz
      rw [hz] at h2
      refine ⟨⟨fun q => absurd q n91, fun q => ?_⟩, h2⟩
      rw [q] at ha
      exact absurd ha n91
theorem adj_mid : ∀ (A : List Nat) {c d : Nat} {r : List Nat}, Adj (A ++ c :: d :: r) → (isS c ↔ d = 91) ∧ Adj (c :: d :: r)
  | [], _, _, _, h => ⟨h.1, h⟩
  | [a], _, _, _, h => ⟨h.2.1, h.2⟩
  | a :: b :: A, c, d, r, h => adj_mid (b :: A) h.2
theorem adj_end : ∀ (A : List Nat) {c : Nat}, Adj (A ++ [c]) → ¬ isS c
  | [], _, h => h
  | [a], _, h => h.2
  | a :: b :: A, c, h => adj_end (b :: A) h.2
/-! ### the ways to spoil -/
/-- what a spoilt text is read as: the number, one with a sign changed, the number twice -/
def Near (n0 n : Num) : Prop := n = n0 ∨ n ∈ flips n0 ∨ n = app n0 n0
theorem near_same {n0 n : Num} (h : zt n = zt n0) : Near n0 n := .inl (zt_eq h)
theorem zf_one (c : Nat) : zf [c] = if c = 48 then [] else [c] := by
  by_cases h : c = 48
  · rw [h]; rfl
  · rw [zf_cons h, if_neg h]; rfl
def okc (c : Nat) : Prop := isS c ∨ c = 91 ∨ c = 93 ∨ c = 48
def kS (c : Nat) : Nat := if c = 43 ∨ c = 45 then 1 else 0
def kO (c : Nat) : Nat := if c = 91 then 1 else 0
def kC (c : Nat) : Nat := if c = 93 then 1 else 0
theorem count_one (y : Nat) : cS (zf [y]) = kS y ∧ cO (zf [y]) = kO y ∧ cC (zf [y]) = kC y := by
  by_cases h : y = 48
  · subst h; exact ⟨rfl, rfl, rfl⟩
  · rw [zf_one, if_neg h, cS_cons, cO_cons, cC_cons]
    exact ⟨rfl, rfl, rfl⟩
/-- one code in the place of another -/
theorem near_put {n0 n : Num} {a b : List Nat} {x c : Nat} (hx : okc x) (h0 : zt n0 = a ++ zf [x] ++ b) (h : zt n = a ++ zf [c] ++ b) : Near n0 n := by
  have k0 := zt_counts n0
  have k := zt_counts n
  by_cases e : x = c
  · exact near_same (by rw [h, h0, e])
  by_cases hc : okc c
  · rw [h0] at k0
    rw [h] at k
    simp only [cS_app, cO_app, cC_app, (count_one x).1, (count_one x).2.1, (count_one x).2.2, (count_one c).1, (count_one c).2.1, (count_one c).2.2] at k0 k
    have both : isS x ∧ isS c := by
      have a1 : kS 43 = 1 := rfl
      have a2 : kS 45 = 1 := rfl
      have a3 : kS 91 = 0 := rfl
      have a4 : kS 93 = 0 := rfl
      have a5 : kS 48 = 0 := rfl
      have b1 : kO 43 = 0 := rfl
      have b2 : kO 45 = 0 := rfl
      have b3 : kO 91 = 1 := rfl
      have b4 : kO 93 = 0 := rfl
      have b5 : kO 48 = 0 := rfl
      have c1 : kC 43 = 0 := rfl
      have c2 : kC 45 = 0 := rfl
      have c3 : kC 91 = 0 := rfl
      have c4 : kC 93 = 1 := rfl
      have c5 : kC 48 = 0 := rfl
      clear h0 h
      rcases hx with (q | q) | q | q | q <;> rcases hc with (w | w) | w | w | w <;> rw [q] at k0 e ⊢ <;> rw [w] at k e ⊢
      all_goals first
        | exact ⟨.inl rfl, .inl rfl⟩
        | exact ⟨.inl rfl, .inr rfl⟩
        | exact ⟨.inr rfl, .inl rfl⟩
        | exact ⟨.inr rfl, .inr rfl⟩
        | (exfalso; omega)
    obtain ⟨sx, s1⟩ := both
    have x48 : x ≠ 48 := by unfold isS at sx; omega
    have c48 : c ≠ 48 := by unfold isS at s1; omega
    rw [zf_one, if_neg x48] at h0
    rw [zf_one, if_neg c48] at h
    rcases zt_flip n0 n a [] [] (b ++ [93]) x c sx s1 e (by rw [h0]; simp) (by rw [h]; simp) with ⟨g, _⟩ | ⟨_, A', g, _⟩
    · exact .inr (.inl g)
    · exact absurd g (by simp)
  · have c48 : c ≠ 48 := fun q => hc (.inr (.inr (.inr q)))
    rw [zf_one, if_neg c48] at h
    have hm : c ∈ zt n := by rw [h]; simp
    rcases zt_chars n c hm with q | q | q
    · exact absurd (.inl q) hc
    · exact absurd (.inr (.inl q)) hc
    · exact absurd (.inr (.inr (.inl q))) hc
theorem near_drop {n0 n : Num} {a b : List Nat} {x : Nat} (hx : okc x) (h0 : zt n0 = a ++ zf [x] ++ b) (h : zt n = a ++ b) : Near n0 n :=
  near_put (c := 48) hx h0 (by rw [h]; simp [zf])
theorem near_more {n0 n : Num} {a b : List Nat} {c : Nat} (h0 : zt n0 = a ++ b) (h : zt n = a ++ zf [c] ++ b) : Near n0 n :=
  near_put (x := 48) (.inr (.inr (.inr rfl))) (by rw [h0]; simp [zf]) h
theorem near_swap {n0 n : Num} {a b : List Nat} {x y : Nat} (hx : okc x) (hy : okc y) (h0 : zt n0 = a ++ zf [x] ++ zf [y] ++ b) (h : zt n = a ++ zf [y] ++ zf [x] ++ b) : Near n0 n := by
  by_cases ex : x = 48
  · subst ex
    exact near_same (by rw [h, h0]; simp [zf])
  by_cases ey : y = 48
  · subst ey
    exact near_same (by rw [h, h0]; simp [zf])
  by_cases e : x = y
  · subst e
    exact near_same (by rw [h, h0])
  exfalso
  rw [zf_one, zf_one, if_neg ex, if_neg ey] at h0 h
  have h0 : zt n0 = a ++ x :: y :: b := by rw [h0]; simp
  have h : zt n = a ++ y :: x :: b := by rw [h]; simp
  have A0 := adj_zt n0
  have A1 := adj_zt n
  rw [h0] at A0
  rw [h] at A1
  obtain ⟨p0, q0⟩ := adj_mid a A0
  obtain ⟨p1, q1⟩ := adj_mid a A1
  have s93 : ¬ isS 93 := by unfold isS; omega
  have s91 : ¬ isS 91 := by unfold isS; omega
  rcases hy with hy | hy | hy | hy
  · -- y a sign
    have x91 : x = 91 := p1.mp hy
    have nx : ¬ isS x := by rw [x91]; exact s91
    cases b with
    | nil =>
      rw [show a ++ [x, y] = (a ++ [x]) ++ [y] by simp] at A0
      exact adj_end _ A0 hy
    | cons c b =>
      have c91 : c = 91 := q0.2.1.mp hy
      have := q1.2.1
      exact nx (this.mpr c91)
  · -- y opens
    have sx : isS x := p0.mpr hy
    rcases a.eq_nil_or_concat with ha | ⟨a', w, ha⟩
    · rw [ha] at h
      have := zt_head (n := n) (c := y) (r := x :: b) (by rw [h]; rfl)
      rw [hy] at this
      exact s91 this
    · rw [ha] at A0 A1
      have e0 : a' ++ [w] ++ x :: y :: b = a' ++ w :: x :: (y :: b) := by simp
      have e1 : a' ++ [w] ++ y :: x :: b = a' ++ w :: y :: (x :: b) := by simp
      first
        | rw [e0] at A0
        | (rw [List.concat_eq_append] at A0; rw [e0] at A0)
      first
        | rw [e1] at A1
        | (rw [List.concat_eq_append] at A1; rw [e1] at A1)
      have w0 := (adj_mid a' A0).1
      have w1 := (adj_mid a' A1).1
      have : isS w := w1.mpr hy
      have x91 : x = 91 := w0.mp this
      rw [x91] at sx
      exact s91 sx
  · -- y closes
    have nx : ¬ isS x := fun q => by
      have := p0.mp q
      omega
    have x91 : ¬ x = 91 := fun q => by
      have := p1.mpr q
      rw [hy] at this
      exact s93 this
    rcases hx with q | q | q | q
    · exact nx q
    · exact x91 q
    · omega
    · omega
  · omega
theorem near_twice {n0 n : Num} (h : zt n = zt n0 ++ zt n0) : Near n0 n := .inr (.inr (zt_eq (by rw [h, zt_app])))
theorem txz_chars {l : List Nat} {c : Nat} (h : c ∈ txz l) : c = 48 ∨ c ∈ l := by
  cases l with
  | nil => exact .inl (by simpa [txz] using h)
  | cons a b => exact .inr h
theorem tt_chars : ∀ (n : Num) (c : Nat), c ∈ tt n → okc c
  | nil, _, h => nomatch h
  | cons s e r, c, h => by
    simp only [tt, List.mem_cons, List.mem_append] at h
    rcases h with h | h | h | h | h
    · rw [h]; exact .inl (isS_sc s)
    · exact .inr (.inl h)
    · rcases txz_chars h with q | q
      · exact .inr (.inr (.inr q))
      · exact tt_chars e c q
    · exact .inr (.inr (.inl h))
    · exact tt_chars r c h
theorem txt_chars {n : Num} {c : Nat} (h : c ∈ txt n) : okc c := by
  rcases txz_chars h with q | q
  · exact .inr (.inr (.inr q))
  · exact tt_chars n c q
/-- the text with a change at p, by one of six ways -/
def spoil (t : List Nat) (p c way : Nat) : List Nat :=
  if way = 0 then t.take p ++ [c] ++ t.drop (p + 1)
  else if way = 1 then t.take p ++ t.drop (p + 1)
  else if way = 2 then t.take p ++ [c] ++ t.drop p
  else if way = 3 then t.take p ++ (t.drop p).take 1 ++ t.drop p
  else if way = 4 then t.take p ++ (t.drop (p + 1)).take 1 ++ (t.drop p).take 1 ++ t.drop (p + 2)
  else t ++ t
theorem near_spoil {n0 n : Num} {p c way : Nat} (h : zf (spoil (txt n0) p c way) = zt n) : Near n0 n := by
  have hz : zt n0 = zf (txt n0) := (zf_txt n0).symm
  by_cases hp : p < (txt n0).length
  · have hd : (txt n0).drop p = (txt n0)[p] :: (txt n0).drop (p + 1) := List.drop_eq_getElem_cons hp
    have ht : zt n0 = zf ((txt n0).take p) ++ zf [(txt n0)[p]] ++ zf ((txt n0).drop (p + 1)) := by
      rw [hz, ← zf_app, ← zf_app]
      congr 1
      conv => lhs; rw [← List.take_append_drop p (txt n0), hd]
      simp
    have hx : okc (txt n0)[p] := txt_chars (List.getElem_mem hp)
    have h2 : zt n0 = zf ((txt n0).take p) ++ zf ((txt n0).drop p) := by
      rw [hz, ← zf_app, List.take_append_drop]
    unfold spoil at h
    split at h
    · rw [zf_app, zf_app] at h
      exact near_put hx ht h.symm
    split at h
    · rw [zf_app] at h
      exact near_drop hx ht h.symm
    split at h
    · rw [zf_app, zf_app] at h
      exact near_more h2 h.symm
    split at h
    · rw [hd, List.take_succ_cons, List.take_zero, ← hd, zf_app, zf_app] at h
      exact near_more h2 h.symm
    split at h
    · by_cases hp1 : p + 1 < (txt n0).length
      · have hd1 : (txt n0).drop (p + 1) = (txt n0)[p + 1] :: (txt n0).drop (p + 2) := List.drop_eq_getElem_cons hp1
        rw [hd1, hd, List.take_succ_cons, List.take_zero, List.take_succ_cons, List.take_zero] at h
        simp only [zf_app] at h
        refine near_swap hx (txt_chars (List.getElem_mem hp1)) ?_ h.symm
        rw [ht, hd1]
        have : zf ((txt n0)[p + 1] :: (txt n0).drop (p + 2)) = zf [(txt n0)[p + 1]] ++ zf ((txt n0).drop (p + 2)) := by rw [← zf_app]; rfl
        rw [this]; simp
      · have z1 : (txt n0).drop (p + 1) = [] := List.drop_eq_nil_of_le (by omega)
        have z2 : (txt n0).drop (p + 2) = [] := List.drop_eq_nil_of_le (by omega)
        rw [z1, z2, hd, List.take_succ_cons, List.take_zero] at h
        refine near_same ?_
        rw [← h, ht, z1]
        simp only [zf_app, List.take_nil, List.append_nil]
        exact (List.append_nil _).symm
    · rw [zf_app, ← hz] at h
      exact near_twice h.symm
  · have t1 : (txt n0).take p = txt n0 := List.take_of_length_le (by omega)
    have d0 : (txt n0).drop p = [] := List.drop_eq_nil_of_le (by omega)
    have d1 : (txt n0).drop (p + 1) = [] := List.drop_eq_nil_of_le (by omega)
    have d2 : (txt n0).drop (p + 2) = [] := List.drop_eq_nil_of_le (by omega)
    unfold spoil at h
    rw [t1, d0, d1, d2] at h
    simp only [List.append_nil, List.take_nil] at h
    have more : zf (txt n0 ++ [c]) = zt n → Near n0 n := fun q => by
      rw [zf_app, ← hz] at q
      exact near_more (a := zt n0) (b := []) (c := c) (by simp) (by rw [← q]; simp)
    have same : zf (txt n0) = zt n → Near n0 n := fun q => near_same (by rw [← q, hz])
    split at h
    · exact more h
    split at h
    · exact same h
    split at h
    · exact more h
    split at h
    · exact same h
    split at h
    · exact same h
    · rw [zf_app, ← hz] at h
      exact near_twice h.symm
/-! ### texts whose numbers are safe -/
/-- exponents of the law's numbers -/
def Base (n : Num) : Prop := ∀ e ∈ exps n, ∃ p : Nat, p ≤ 2 ^ 97 ∧ e = naf p
theorem base_near {n0 n : Num} (b : Base n0) (h : Near n0 n) : Safe n := by
  refine safe_flips fun e he => ?_
  have done : ∀ e', e' ∈ exps n0 → (e = e' ∨ e ∈ flips e') → FlB (2 ^ 97) e := fun e' h1 h2 => by
    obtain ⟨p, hp, q⟩ := b e' h1
    rw [q] at h2
    exact ⟨p, hp, h2⟩
  rcases h with h | h | h
  · rw [h] at he
    exact done e he (.inl rfl)
  · rcases flips_exps h e he with q | ⟨e', q, q2⟩
    · exact done e q (.inl rfl)
    · exact done e' q (.inr q2)
  · have ea : ∀ a b : Num, exps (app a b) = exps a ++ exps b := fun a => by
      induction a with
      | nil => intro b; rfl
      | cons s x r _ ih => intro b; rw [app, exps, exps, ih]; rfl
    rw [h, ea, List.mem_append] at he
    rcases he with q | q <;> exact done e q (.inl rfl)
def SafeT (t : List Nat) : Prop := ∀ n, zf t = zt n → Safe n
theorem safe_txt {n : Num} (b : Base n) : SafeT (txt n) := fun m h => base_near b (near_same (by rw [← h, zf_txt]))
theorem safe_spoil {n : Num} (b : Base n) (p c way : Nat) : SafeT (spoil (txt n) p c way) := fun m h => base_near b (near_spoil h)
theorem safe_short {t : List Nat} (h : t.length ≤ 40) : SafeT t := fun n hn => by
  have h1 := zt_len n
  have h2 : (zf t).length ≤ t.length := List.length_filter_le ..
  rw [hn] at h2
  exact safe_small (by omega)
def tower : Nat → Num
  | 0 => nil
  | k + 1 => cons false (tower k) nil
theorem thin_tower : ∀ k : Nat, thin (tower k)
  | 0 => trivial
  | k + 1 => ⟨thin_tower k, rfl⟩
theorem zt_tower : ∀ k : Nat, zt (tower k) = (List.replicate k [43, 91]).flatten ++ List.replicate k 93
  | 0 => rfl
  | k + 1 => by
    rw [tower, zt, zt_tower k, List.replicate_succ, List.replicate_succ', List.flatten_cons]
    simp [zt, sc]
theorem zf_rep (k : Nat) : zf (List.replicate k [43, 91]).flatten = (List.replicate k [43, 91]).flatten := by
  induction k with
  | zero => rfl
  | succ k ih => rw [List.replicate_succ, List.flatten_cons, zf_app, ih]; rfl
theorem zf_rep1 (k : Nat) : zf (List.replicate k 93) = List.replicate k 93 := by
  induction k with
  | zero => rfl
  | succ k ih => rw [List.replicate_succ, zf_cons (by decide), ih]
theorem safe_tower (k : Nat) : SafeT ((List.replicate k [43, 91]).flatten ++ [48] ++ List.replicate k 93) := fun n hn => by
  have : zt n = zt (tower k) := by
    rw [← hn, zt_tower, zf_app, zf_app, zf_rep, zf_rep1]
    simp [zf]
  rw [zt_eq this]
  exact safe_thin (thin_tower k)
theorem SafeT.rdL {t : List Nat} (s : SafeT t) {d : Nat} {n : Num} (h : rdL d t = some n) : Safe n := s n (by rw [rdL_txt d t n h, zf_txt])
theorem SafeT.rdP {t : List Nat} (s : SafeT t) {n : Num} (h : rdP t [] [] = some n) : Safe n := s n (by
  have := rdP_zt t [] [] n h
  exact this)
end SR
set_option Elab.async false
set_option linter.all false
set_option maxRecDepth 100000
/-! A number as nested tuples on the heap: what it is, == and != of two such. -/
namespace SR
open PySem PySem.Spec PyProof.Rows L2
open SR.Num (size height exps terms)
/-- these are the terms of n -/
def NumL (H : Hp) : Num → List V → Prop
  | .nil, vs => vs = []
  | .cons s e r, vs => ∃ p q es vs', vs = .ref p :: vs' ∧ H p = some (.tup [.int (sg s), .ref q]) ∧ H q = some (.tup es) ∧ NumL H e es ∧ NumL H r vs'
/-- at a stands the number n -/
def NumAt (H : Hp) (a : Addr) (n : Num) : Prop := ∃ vs, H a = some (.tup vs) ∧ NumL H n vs
/-- the tuples stay -/
def Tups (H H' : Hp) : Prop := ∀ b xs, H b = some (.tup xs) → H' b = some (.tup xs)
theorem Tups.refl (H : Hp) : Tups H H := fun _ _ h => h
theorem Tups.trans {H H1 H2 : Hp} (a : Tups H H1) (b : Tups H1 H2) : Tups H H2 := fun c xs h => b c xs (a c xs h)
theorem Tups.of_same {H H' : Hp} (s : Same H H') : Tups H H' := fun b xs h => s b _ h
theorem Tups.upd {H : Hp} {d : Addr} {o : HO} (h : ∀ xs, H d ≠ some (.tup xs)) : Tups H (upd H d o) := fun b xs e => by
  rw [upd_ne (fun z => h xs (by rw [← z]; exact e))]
  exact e
theorem NumL.mono {H H' : Hp} (t : Tups H H') : ∀ {n : Num} {vs : List V}, NumL H n vs → NumL H' n vs
  | .nil, _, h => h
  | .cons s e r, _, h => by
    obtain ⟨p, q, es, vs', h1, h2, h3, h4, h5⟩ := h
    exact ⟨p, q, es, vs', h1, t _ _ h2, t _ _ h3, NumL.mono t h4, NumL.mono t h5⟩
theorem NumAt.mono {H H' : Hp} (t : Tups H H') {a : Addr} {n : Num} (h : NumAt H a n) : NumAt H' a n :=
  let ⟨vs, h1, h2⟩ := h; ⟨vs, t _ _ h1, h2.mono t⟩
theorem NumAt.same {H H' : Hp} (t : Same H H') {a : Addr} {n : Num} (h : NumAt H a n) : NumAt H' a n := h.mono (Tups.of_same t)
theorem NumL.len {H : Hp} : ∀ {n : Num} {vs : List V}, NumL H n vs → vs.length = Num.len n
  | .nil, _, h => by rw [show _ = [] from h]; rfl
  | .cons s e r, _, h => by
    obtain ⟨p, q, es, vs', h1, _, _, _, h5⟩ := h
    rw [h1, List.length_cons, h5.len, Num.len]
theorem sg_inj {a b : Bool} (h : sg a = sg b) : a = b := by cases a <;> cases b <;> first | rfl | exact absurd h (by decide)
theorem NumL.inj {H : Hp} : ∀ {n m : Num} {vs : List V}, NumL H n vs → NumL H m vs → n = m
  | .nil, .nil, _, _, _ => rfl
  | .nil, .cons s e r, vs, h, h' => by
    obtain ⟨_, _, _, _, h1, _⟩ := h'
    rw [show vs = [] from h] at h1
    cases h1
  | .cons s e r, .nil, vs, h, h' => by
    obtain ⟨_, _, _, _, h1, _⟩ := h
    rw [show vs = [] from h'] at h1
    cases h1
  | .cons s e r, .cons t f q, vs, h, h' => by
    obtain ⟨p1, q1, es1, vs1, a1, a2, a3, a4, a5⟩ := h
    obtain ⟨p2, q2, es2, vs2, b1, b2, b3, b4, b5⟩ := h'
    rw [a1] at b1
    cases b1
    rw [a2] at b2
    simp only [Option.some.injEq, HO.tup.injEq, List.cons.injEq, V.int.injEq, V.ref.injEq, and_true] at b2
    obtain ⟨c1, c2⟩ := b2
    subst c2
    rw [a3] at b3
    cases b3
    rw [sg_inj c1, a4.inj b4, a5.inj b5]
theorem NumAt.inj {H : Hp} {a : Addr} {n m : Num} (h : NumAt H a n) (h' : NumAt H a m) : n = m := by
  obtain ⟨vs, h1, h2⟩ := h
  obtain ⟨ws, k1, k2⟩ := h'
  rw [h1] at k1
  cases k1
  exact h2.inj k2
/-- the i-th term -/
theorem NumL.get {H : Hp} : ∀ {n : Num} {vs : List V} {i : Nat} {t : Bool × Num}, NumL H n vs → (terms n)[i]? = some t → ∃ p q, vs[i]? = some (.ref p) ∧ H p = some (.tup [.int (sg t.1), .ref q]) ∧ NumAt H q t.2
  | .nil, _, _, _, _, h => by simp [terms] at h
  | .cons s e r, _, 0, t, h, ht => by
    obtain ⟨p, q, es, vs', h1, h2, h3, h4, _⟩ := h
    simp only [terms, List.getElem?_cons_zero, Option.some.injEq] at ht
    subst ht
    rw [h1]
    exact ⟨p, q, rfl, h2, es, h3, h4⟩
  | .cons s e r, _, i + 1, t, h, ht => by
    obtain ⟨p, q, es, vs', h1, _, _, _, h5⟩ := h
    rw [terms, List.getElem?_cons_succ] at ht
    rw [h1, List.getElem?_cons_succ]
    exact NumL.get h5 ht
/-- terms one by one -/
theorem NumL.of {H : Hp} : ∀ {ts : List (Bool × Num)} {vs : List V}, vs.length = ts.length → (∀ (i : Nat) (t : Bool × Num), ts[i]? = some t → ∃ p q, vs[i]? = some (.ref p) ∧ H p = some (.tup [.int (sg t.1), .ref q]) ∧ NumAt H q t.2) → NumL H (Num.ofTerms ts) vs
  | [], vs, hl, _ => List.length_eq_zero_iff.mp hl
  | (s, e) :: ts, [], hl, _ => by simp at hl
  | (s, e) :: ts, v :: vs, hl, h => by
    obtain ⟨p, q, h1, h2, es, h3, h4⟩ := h 0 (s, e) rfl
    simp only [List.getElem?_cons_zero, Option.some.injEq] at h1
    subst h1
    refine ⟨p, q, es, vs, rfl, h2, h3, h4, NumL.of (by simpa using hl) fun i t ht => ?_⟩
    have := h (i + 1) t (by rw [List.getElem?_cons_succ]; exact ht)
    rwa [List.getElem?_cons_succ] at this
/-! ### the key -/
def keyL : Num → List NestedKey
  | .nil => []
  | .cons s e r => .tup [.num (sg s), .tup (keyL e)] :: keyL r
def keyN (n : Num) : NestedKey := .tup (keyL n)
theorem keyL_depth : ∀ n : Num, NestedKey.depthAll (keyL n) ≤ 2 * height n
  | .nil => Nat.le_refl _
  | .cons s e r => by
    have h1 := keyL_depth e
    have h2 := keyL_depth r
    simp only [keyL, NestedKey.depthAll, NestedKey.depth, height]
    omega
theorem keyN_depth (n : Num) : (keyN n).depth ≤ 2 * height n + 1 := by
  have := keyL_depth n
  simp only [keyN, NestedKey.depth]
  omega
theorem keyL_hash (w : World) : ∀ n : Num, NestedKey.hashes w (keyL n) = hashL n
  | .nil => rfl
  | .cons s e r => by
    simp only [keyL, NestedKey.hashes, NestedKey.hash, hashL, keyL_hash w e, keyL_hash w r]
theorem keyN_hash (w : World) (n : Num) : (keyN n).hash w = hashN n := by
  simp only [keyN, NestedKey.hash, keyL_hash, hashN]
theorem keyL_beq : ∀ n m : Num, NestedKey.beqAll (keyL n) (keyL m) = decide (n = m)
  | .nil, .nil => rfl
  | .nil, .cons _ _ _ => by simp [keyL, NestedKey.beqAll]
  | .cons _ _ _, .nil => by simp [keyL, NestedKey.beqAll]
  | .cons s e r, .cons t f q => by
    simp only [keyL, NestedKey.beqAll, NestedKey.beq, keyL_beq e f, keyL_beq r q, Bool.and_true]
    have hs : decide (sg s = sg t) = decide (s = t) := by cases s <;> cases t <;> rfl
    rw [hs]
    by_cases h1 : s = t <;> by_cases h2 : e = f <;> by_cases h3 : r = q <;> simp [h1, h2, h3]
section
variable {X : Cx} {pins : List (Addr × Obj)} {σ : L2.St} {H : Hp} {s : Shared}
theorem tup_at (I : Inv X pins σ H s) {a : Addr} {vs : List V} (h : H a = some (.tup vs)) : ∃ its : List Value, Vals vs its ∧ ∃ o n, s.heap.get? a = some o ∧ o.cls = .type "tuple" ∧ o.data = .seq its.toArray n := by
  obtain ⟨_, its, r, o, h1, h2, n, h3⟩ := I.hok a _ h
  exact ⟨its, r, o, n, h1, h2, h3⟩
theorem numL_is (I : Inv X pins σ H s) : ∀ {n : Num} {vs : List V} {its : List Value}, NumL H n vs → Vals vs its → NestedAll s.heap (keyL n) its
  | .nil, _, _, h, r => by
    rw [show _ = [] from h] at r
    cases r
    exact .nil
  | .cons s e rr, _, _, h, r => by
    obtain ⟨p, q, es, vs', h1, h2, h3, h4, h5⟩ := h
    subst h1
    cases r with
    | cons r1 r2 =>
      cases r1
      obtain ⟨its1, v1, o1, n1, g1, g2, g3⟩ := tup_at I h2
      cases v1 with
      | cons w1 w2 =>
        obtain ⟨t, rfl⟩ := w1
        cases w2 with
        | cons w3 w4 =>
          cases w3
          cases w4
          obtain ⟨its2, v2, o2, n2, k1, k2, k3⟩ := tup_at I h3
          exact .cons (.tup g1 g2 g3 (.cons (.int _ _) (.cons (.tup k1 k2 k3 (numL_is I h4 v2)) .nil))) (numL_is I h5 r2)
theorem num_is (I : Inv X pins σ H s) {a : Addr} {n : Num} (h : NumAt H a n) : NestedIs s.heap (keyN n) (.ref a) := by
  obtain ⟨vs, h1, h2⟩ := h
  obtain ⟨its, v, o, k, g1, g2, g3⟩ := tup_at I h1
  exact .tup g1 g2 g3 (numL_is I h2 v)
/-! ### == and != -/
theorem eq_items {A : Around} {n m : Num} {vs ws : Array Value} (h1 : NestedAll s.heap (keyL n) vs.toList) (h2 : NestedAll s.heap (keyL m) ws.toList) (hu : A.units + 2 * height n + 1 < cLine) :
    ∀ j (j1 : j < vs.size) (j2 : j < ws.size), SeqAt.EqAt A.in1 s vs[j] ws[j] (keyEqAt (keyL n) (keyL m) j) := fun j j1 j2 => by
  have d := keyL_depth n
  have e := eqAt_keys (keyL n) (keyL m) A.in1 s vs.toList ws.toList h1 h2 (by show A.units + 1 + _ < _; omega) j (by simpa using j1) (by simpa using j2)
  simpa using e
theorem eq_value {n m : Num} {vs ws : Array Value} (h1 : NestedAll s.heap (keyL n) vs.toList) (h2 : NestedAll s.heap (keyL m) ws.toList) :
    ((List.range (min vs.size ws.size)).all (keyEqAt (keyL n) (keyL m)) && vs.size == ws.size) = decide (n = m) := by
  have n1 : vs.size = (keyL n).length := by simpa using NestedAll.length _ _ h1
  have n2 : ws.size = (keyL m).length := by simpa using NestedAll.length _ _ h2
  rw [n1, n2, beqAll_eq, keyL_beq]
def rEqN : R2 := fun x y H Q => ∃ a b n m, x = .ref a ∧ y = .ref b ∧ NumAt H a n ∧ NumAt H b m ∧ height n ≤ 90 ∧ Q (.bl (decide (n = m))) H
def rNeN : R2 := fun x y H Q => ∃ a b n m, x = .ref a ∧ y = .ref b ∧ NumAt H a n ∧ NumAt H b m ∧ height n ≤ 90 ∧ Q (.bl (!decide (n = m))) H
theorem op_eqN (hu : X.A.units + 200 < cLine) : OpR X (compareOp .Eq) rEqN := by
  intro pins s σ H x y v u Q I rx ry h
  obtain ⟨a, b, n, m, rfl, rfl, h1, h2, hh, q⟩ := h
  cases rx
  cases ry
  have i1 := num_is I h1
  have i2 := num_is I h2
  cases i1 with
  | @tup _ o vs k _ a1 a2 a3 a4 =>
    cases i2 with
    | @tup _ o' ws k' _ b1 b2 b3 b4 =>
      have e := SeqAt.RcAt.tuples (A := X.A) (s := s) (e := keyEqAt (keyL n) (keyL m)) ⟨o, a1, a2, k, a3⟩ ⟨o', b1, b2, k', b3⟩ (by omega) (eq_items a4 b4 (by omega))
      rw [eq_value a4 b4] at e
      exact e X.prog X.w X.xe _ ⟨.bl _, H, I, rfl, q⟩
theorem op_neN (hu : X.A.units + 200 < cLine) : OpR X (compareOp .NotEq) rNeN := by
  intro pins s σ H x y v u Q I rx ry h
  obtain ⟨a, b, n, m, rfl, rfl, h1, h2, hh, q⟩ := h
  cases rx
  cases ry
  have i1 := num_is I h1
  have i2 := num_is I h2
  cases i1 with
  | @tup _ o vs k _ a1 a2 a3 a4 =>
    cases i2 with
    | @tup _ o' ws k' _ b1 b2 b3 b4 =>
      have e := SeqAt.RcNeAt.tuples (A := X.A) (s := s) (e := keyEqAt (keyL n) (keyL m)) ⟨o, a1, a2, k, a3⟩ ⟨o', b1, b2, k', b3⟩ (by omega) (eq_items a4 b4 (by omega))
      rw [eq_value a4 b4] at e
      exact e X.prog X.w X.xe _ ⟨.bl _, H, I, rfl, q⟩
end
theorem Room.u201 {k : Nat} {A : Around} (r : Room (k + 1) A) : A.units + 201 < cLine := by have := r.un; omega
theorem Room.u200 {k : Nat} {A : Around} (r : Room k A) : A.units + 200 < cLine := by have := r.un; omega
end SR
set_option Elab.async false
set_option linter.all false
set_option maxRecDepth 100000
set_option maxHeartbeats 1000000
/-! A dict whose keys are numbers as nested tuples, however deep: as long as keys of one hash are one key, nothing hangs on how == is asked. -/
namespace SR
open PySem PySem.Spec PyProof.Rows L2
open SR.Num (size height exps terms)
section
variable {prog : Program} {w : World} {E : Value → Shared → Prop}
/-- whether == of v may tell: some answer, the state as it was -/
theorem quiet_any : ∀ (n : Nat) (k : NestedKey) (v : Value) (s : Shared), NestedIs s.heap k v → ∀ (A : Around) (Q : Bool → Shared → Prop), (∀ b, Q b s) → wpAny (model prog w) A (eqIsQuiet n v) Q E s := by
  intro n
  induction n with
  | zero =>
    intro k v s x A Q hq
    cases x with
    | none => rw [eqIsQuiet_byValue 0 rfl]; exact wpAny_pure (hq true)
    | bool _ => rw [eqIsQuiet_byValue 0 rfl]; exact wpAny_pure (hq true)
    | int _ _ => rw [eqIsQuiet_byValue 0 rfl]; exact wpAny_pure (hq true)
    | text _ _ => rw [eqIsQuiet_byValue 0 rfl]; exact wpAny_pure (hq true)
    | @tup a o vs m ks h1 h2 h3 h4 =>
      have hT : s.TypeIs (.ref a) "tuple" := ⟨o, h1, h2⟩
      unfold eqIsQuiet
      refine wpAny_bind (wpAny_specialOf hT F.slot_tuple_eq.lookup ?_)
      show wpAny _ _ (isInstance (.ref a) (.type "tuple") >>= _) _ _ s
      refine wpAny_bind (wpAny_isInstance hT isSubtype_tuple_tuple ?_)
      simp only [Bool.not_true, Bool.false_eq_true, if_false]
      exact wpAny_pure (hq false)
  | succ n ih =>
    intro k v s x A Q hq
    cases x with
    | none => rw [eqIsQuiet_byValue _ rfl]; exact wpAny_pure (hq true)
    | bool _ => rw [eqIsQuiet_byValue _ rfl]; exact wpAny_pure (hq true)
    | int _ _ => rw [eqIsQuiet_byValue _ rfl]; exact wpAny_pure (hq true)
    | text _ _ => rw [eqIsQuiet_byValue _ rfl]; exact wpAny_pure (hq true)
    | @tup a o vs m ks h1 h2 h3 h4 =>
      have hT : s.TypeIs (.ref a) "tuple" := ⟨o, h1, h2⟩
      have each : ∀ (ks : List NestedKey) (us : List Value), NestedAll s.heap ks us → ∀ u ∈ us, ∃ k, NestedIs s.heap k u := by
        intro ks
        induction ks with
        | nil => intro us q; cases q; intro u hu; cases hu
        | cons c cs ihc =>
          intro us q
          cases q with
          | cons q1 q2 =>
            intro u hu
            rcases List.mem_cons.mp hu with e | e
            · exact ⟨c, by rw [e]; exact q1⟩
            · exact ihc _ q2 u e
      unfold eqIsQuiet
      refine wpAny_bind (wpAny_specialOf hT F.slot_tuple_eq.lookup ?_)
      show wpAny _ _ (isInstance (.ref a) (.type "tuple") >>= _) _ _ s
      refine wpAny_bind (wpAny_isInstance hT isSubtype_tuple_tuple ?_)
      simp only [Bool.not_true, Bool.false_eq_true, if_false]
      refine wpAny_bind (wpAny_seqItems h1 h3 ?_)
      refine wpAny_bind ?_
      show wpAny _ _ (forIn vs _ _) _ _ s
      rw [← Array.forIn_toList]
      refine wpAny_forIn_list _ (fun rest r s' => r.1 = none ∧ s' = s ∧ ∀ v ∈ rest, ∃ k, NestedIs s.heap k v) _ ?_ ?_ _ _ ⟨rfl, rfl, each _ _ h4⟩
      · rintro u rest r s' ⟨hr, rfl, hall⟩
        obtain ⟨k', hk'⟩ := hall u List.mem_cons_self
        refine wpAny_bind (ih k' u s' hk' _ _ fun b => ?_)
        cases b with
        | true =>
          simp only [Bool.not_true, Bool.false_eq_true, if_false]
          exact wpAny_pure ⟨rfl, rfl, fun u hu' => hall u (List.mem_cons_of_mem _ hu')⟩
        | false =>
          simp only [Bool.not_false, if_true]
          exact wpAny_pure (wpAny_pure (hq false))
      · rintro ⟨r1, r2⟩ s' ⟨hr, rfl, _⟩
        simp only at hr
        subst hr
        exact wpAny_pure (hq true)
theorem tells_any {s : Shared} {key : Value} {kk : NestedKey} {stored : List Value} {A : Around} {Q : Bool → Shared → Prop} (hk : NestedIs s.heap kk key) (hs : ∀ v ∈ stored, ∃ k, NestedIs s.heap k v) (hq : ∀ b, Q b s) :
    wpAny (model prog w) A (tableMayTell key stored) Q E s := by
  unfold tableMayTell
  split
  · exact wpAny_pure (hq false)
  · refine wpAny_bind (quiet_any 8 _ _ s hk _ _ fun b => ?_)
    cases b with
    | false =>
      simp only [Bool.not_false, if_true]
      exact wpAny_pure (hq true)
    | true =>
      simp only [Bool.not_true, Bool.false_eq_true, if_false]
      refine wpAny_bind ?_
      refine wpAny_forIn_list _ (fun rest r s' => s' = s ∧ r = (none, ()) ∧ ∀ v ∈ rest, ∃ k, NestedIs s.heap k v) _ ?_ ?_ _ _ ⟨rfl, rfl, hs⟩
      · rintro u rest r s' ⟨rfl, rfl, hall⟩
        obtain ⟨k', hk'⟩ := hall u List.mem_cons_self
        refine wpAny_bind (quiet_any 8 k' u s' hk' _ _ fun b => ?_)
        cases b with
        | true =>
          simp only [Bool.not_true, Bool.false_eq_true, if_false]
          exact wpAny_pure ⟨rfl, rfl, fun u hu' => hall u (List.mem_cons_of_mem _ hu')⟩
        | false =>
          simp only [Bool.not_false, if_true]
          exact wpAny_pure (wpAny_pure (hq true))
      · rintro r s' ⟨rfl, rfl, _⟩
        exact wpAny_pure (hq false)
/-- an entry: key, its tuple's address, the value -/
def entOf (x : Num × Addr × Value) : DictEntry := ⟨hashN x.1, .ref x.2.1, x.2.2⟩
theorem ent_at {es : Array DictEntry} {zs : List (Num × Addr × Value)} (he : es.toList = zs.map entOf) (j : Nat) : es[j]? = (zs[j]?).map entOf := by
  rw [← Array.getElem?_toList, he, List.getElem?_map]
theorem places_none (f : Nat → Option Int) (h : Int) : ∀ n : Nat, (∀ i, i < n → f i ≠ some h) → placesWithHash n f h = [] := fun n hn => by
  unfold placesWithHash
  rw [List.filter_eq_nil_iff]
  intro i hi
  simpa using hn i (List.mem_range.mp hi)
theorem places_one (f : Nat → Option Int) (h : Int) (j : Nat) : ∀ n : Nat, j < n → f j = some h → (∀ i, i < n → i ≠ j → f i ≠ some h) → placesWithHash n f h = [j]
  | 0, hj, _, _ => absurd hj (Nat.not_lt_zero _)
  | n + 1, hj, hf, hn => by
    have e : placesWithHash (n + 1) f h = placesWithHash n f h ++ (if f n == some h then [n] else []) := by
      unfold placesWithHash
      rw [List.range_succ, List.filter_append]
      congr 1
      by_cases q : (f n == some h) = true
      · rw [List.filter_cons, if_pos q, if_pos q]; rfl
      · rw [List.filter_cons, if_neg q, if_neg q]; rfl
    rw [e]
    by_cases hjn : j = n
    · subst hjn
      rw [places_none f h j fun i hi => hn i (by omega) (by omega), if_pos (by rw [hf]; simp)]
      rfl
    · rw [places_one f h j n (by omega) hf fun i hi hne => hn i (by omega) hne, if_neg (by simpa using hn n (by omega) (fun e => hjn e.symm))]
      rfl
/-- keys of one hash with k are k -/
def HashApart (k : Num) (zs : List (Num × Addr × Value)) : Prop := ∀ x ∈ zs, hashN x.1 = hashN k → x.1 = k
theorem find_num {d a : Addr} {o : Obj} {es : Array DictEntry} {ep : Nat} {zs : List (Num × Addr × Value)} {k : Num} {s : Shared} {A : Around} {Q : Option Nat → Shared → Prop} (hu : A.units + 200 < cLine) (hh : height k ≤ 90) (hkey : NestedIs s.heap (keyN k) (.ref a))
    (ho : s.heap.get? d = some o) (hd : o.data = .dict es ep) (he : es.toList = zs.map entOf) (his : ∀ x ∈ zs, NestedIs s.heap (keyN x.1) (.ref x.2.1)) (hn : (zs.map (·.1)).Nodup) (hap : HashApart k zs)
    (hnone : (∀ (j : Nat) (p : Addr × Value), zs[j]? ≠ some (k, p)) → Q none s) (hsome : ∀ (j : Nat) (p : Addr × Value), zs[j]? = some (k, p) → Q (some j) s) :
    wpAny (model prog w) A (dictFind d (.ref a) (hashN k)) Q E s := by
  have hsz : es.size = zs.length := by rw [← Array.length_toList, he, List.length_map]
  have hany : ¬ (es.any fun e => e.key == Value.ref a && e.hash != hashN k) = true := by
    rw [← Array.any_toList, List.any_eq_true]
    rintro ⟨e, hin, hc⟩
    rw [he] at hin
    obtain ⟨x, hx, rfl⟩ := List.mem_map.mp hin
    simp only [entOf, Bool.and_eq_true, beq_iff_eq, bne_iff_ne, ne_eq, Value.ref.injEq] at hc
    obtain ⟨hxa, hne⟩ := hc
    have := his x hx
    rw [hxa] at this
    have e2 := NestedIs.inj _ _ _ this hkey
    refine hne ?_
    rw [← keyN_hash w x.1, ← keyN_hash w k, e2]
  unfold dictFind
  try with_reducible refine wpAny_holding ?_
  refine wpAny_bind (wpAny_dictEntries ho hd ?_)
  dsimp only
  rw [if_neg (show ¬ ((Value.ref a :: (placesWithHash es.size (fun i => es[i]?.map (·.hash)) (hashN k)).filterMap (fun i => es[i]?.map (·.key))).all carriedByValue) = true by simp [carriedByValue])]
  rw [if_neg hany]
  by_cases hex : ∃ (j : Nat) (p : Addr × Value), zs[j]? = some (k, p)
  · obtain ⟨j, ⟨b, v⟩, hj⟩ := hex
    have hjl : j < zs.length := (List.getElem?_eq_some_iff.mp hj).1
    have hej : es[j]? = some ⟨hashN k, .ref b, v⟩ := by rw [ent_at he j, hj]; rfl
    have hp : placesWithHash es.size (fun i => es[i]?.map (·.hash)) (hashN k) = [j] := by
      refine places_one _ _ j _ (by rw [hsz]; exact hjl) (by simp only [hej]; rfl) fun i hi hne q => ?_
      obtain ⟨y, hy⟩ : ∃ y, zs[i]? = some y := ⟨_, List.getElem?_eq_getElem (by rw [← hsz]; exact hi)⟩
      rw [ent_at he i, hy] at q
      have q' : hashN y.1 = hashN k := by simpa [entOf] using q
      have e3 := hap y (List.mem_of_getElem? hy) q'
      have a1 : (zs.map (·.1))[i]? = some k := by rw [List.getElem?_map, hy, ← e3]; rfl
      have a2 : (zs.map (·.1))[j]? = some k := by rw [List.getElem?_map, hj]; rfl
      exact hne ((List.getElem?_inj (List.getElem?_eq_some_iff.mp a1).1 hn).mp (a1.trans a2.symm))
    rw [hp]
    have hst : ([j].filterMap fun i => es[i]?.map (·.key)) = [Value.ref b] := by
      simp [List.filterMap_cons, hej]
    rw [hst]
    have hb : NestedIs s.heap (keyN k) (.ref b) := his _ (List.mem_of_getElem? hj)
    have dk := keyN_depth k
    by_cases hone : ([Value.ref b] == [Value.ref a]) = true
    · rw [if_pos hone]
      refine wpAny_bind (wpAny_pure ?_)
      rw [if_neg (by simp)]
      refine wpAny_bind ?_
      rw [List.forIn_cons]
      refine wpAny_bind ?_
      rw [hej]
      dsimp only
      rw [if_pos (by simp)]
      refine wpAny_bind (wpAny_dictEpoch ho hd ?_)
      refine wpAny_bind (eqAt_key (keyN k) (keyN k) A s _ _ hb hkey (by omega) prog w _ _ ?_)
      rw [NestedKey.beq_self]
      refine wpAny_bind (wpAny_dictEpoch ho hd ?_)
      rw [if_neg (by simp)]
      simp only [if_true, Option.isSome_none, Bool.false_eq_true, if_false]
      refine wpAny_bind (wpAny_rule ?_)
      rw [if_pos (by simp)]
      exact wpAny_pure (wpAny_pure (wpAny_pure (hsome j _ hj)))
    · rw [if_neg hone]
      refine wpAny_bind (tells_any hkey (fun v hv => ⟨keyN k, by rw [List.mem_singleton.mp hv]; exact hb⟩) fun t => ?_)
      rw [if_neg (by simp)]
      refine wpAny_bind ?_
      rw [List.forIn_cons]
      refine wpAny_bind ?_
      rw [hej]
      dsimp only
      rw [if_pos (by simp)]
      refine wpAny_bind (wpAny_dictEpoch ho hd ?_)
      refine wpAny_bind (eqAt_key (keyN k) (keyN k) A s _ _ hb hkey (by omega) prog w _ _ ?_)
      rw [NestedKey.beq_self]
      refine wpAny_bind (wpAny_dictEpoch ho hd ?_)
      rw [if_neg (by simp)]
      simp only [if_true, Option.isSome_none, Bool.false_eq_true, if_false]
      refine wpAny_bind (wpAny_rule ?_)
      rw [if_pos (by simp)]
      exact wpAny_pure (wpAny_pure (wpAny_pure (hsome j _ hj)))
  · have hno : ∀ (j : Nat) (p : Addr × Value), zs[j]? ≠ some (k, p) := fun j p q => hex ⟨j, p, q⟩
    have hp : placesWithHash es.size (fun i => es[i]?.map (·.hash)) (hashN k) = [] := by
      refine places_none _ _ _ fun i hi q => ?_
      obtain ⟨y, hy⟩ : ∃ y, zs[i]? = some y := ⟨_, List.getElem?_eq_getElem (by rw [← hsz]; exact hi)⟩
      rw [ent_at he i, hy] at q
      have q' : hashN y.1 = hashN k := by simpa [entOf] using q
      have e3 := hap y (List.mem_of_getElem? hy) q'
      exact hno i y.2 (by rw [hy, ← e3])
    rw [hp]
    have hst : (([] : List Nat).filterMap fun i => es[i]?.map (·.key)) = ([] : List Value) := rfl
    rw [hst]
    rw [if_neg (show ¬ (([] : List Value) == [Value.ref a]) = true by simp)]
    refine wpAny_bind (tells_any hkey (fun v hv => nomatch hv) fun t => ?_)
    rw [if_neg (by simp)]
    refine wpAny_bind ?_
    rw [List.forIn_nil]
    exact wpAny_pure (wpAny_pure (hnone hno))
end
end SR
set_option Elab.async false
set_option linter.all false
set_option maxRecDepth 100000
set_option maxHeartbeats 1000000
/-! The dict's operations as rules: {}, d.get(k, 0), d[k], d[k] = c, list(d). -/
namespace SR
open PySem PySem.Spec PyProof.Rows L2
open SR.Num (size height exps terms)
abbrev NEnt := Num × Addr × Int
def EntR (p : NEnt) (q : Num × Addr × Value) : Prop := p.1 = q.1 ∧ p.2.1 = q.2.1 ∧ ∃ t, q.2.2 = .int p.2.2 t
def cs (xs : List NEnt) : List (Num × Int) := xs.map fun x => (x.1, x.2.2)
def putN (k : Num) (b : Addr) (c : Int) : List NEnt → List NEnt
  | [] => [(k, b, c)]
  | (k', b', c') :: r => if Num.beq k' k then (k', b', c) :: r else (k', b', c') :: putN k b c r
def putZ (k : Num) (b : Addr) (v : Value) : List (Num × Addr × Value) → List (Num × Addr × Value)
  | [] => [(k, b, v)]
  | (k', b', v') :: r => if Num.beq k' k then (k', b', v) :: r else (k', b', v') :: putZ k b v r
theorem beq_no {a b : Num} (h : a ≠ b) : Num.beq a b = false := by rw [Num.beq_dec]; exact decide_eq_false h
theorem keys_putN (k : Num) (b : Addr) (c : Int) : ∀ xs : List NEnt, (putN k b c xs).map (·.1) = if k ∈ xs.map (·.1) then xs.map (·.1) else xs.map (·.1) ++ [k]
  | [] => by simp [putN]
  | (k', b', c') :: r => by
    have ih := keys_putN k b c r
    rw [putN]
    by_cases h1 : k' = k
    · subst h1; simp [Num.beq_self]
    · rw [beq_no h1, if_neg Bool.false_ne_true, List.map_cons, ih]
      have h2 : ¬ k = k' := fun e => h1 e.symm
      by_cases h3 : k ∈ r.map (·.1)
      · rw [if_pos h3, if_pos (by rw [List.map_cons]; exact List.mem_cons_of_mem _ h3), List.map_cons]
      · rw [if_neg h3, if_neg (by rw [List.map_cons, List.mem_cons]; rintro (e | e); exact h2 e; exact h3 e), List.map_cons]; rfl
theorem nodup_putN {k : Num} {b : Addr} {c : Int} {xs : List NEnt} (h : (xs.map (·.1)).Nodup) : ((putN k b c xs).map (·.1)).Nodup := by
  rw [keys_putN]
  split
  · exact h
  · rename_i hk
    rw [List.nodup_append]
    refine ⟨h, by simp, fun x hx y hy => ?_⟩
    rw [List.mem_singleton.mp hy]
    exact fun e => hk (e ▸ hx)
theorem len_putN (k : Num) (b : Addr) (c : Int) (xs : List NEnt) : (putN k b c xs).length ≤ xs.length + 1 := by
  have e := congrArg List.length (keys_putN k b c xs)
  rw [List.length_map] at e
  rw [e]
  split
  · rw [List.length_map]; omega
  · rw [List.length_append, List.length_map]; simp
theorem mem_putN {k : Num} {b : Addr} {c : Int} : ∀ {xs : List NEnt} {x : NEnt}, x ∈ putN k b c xs → (x.1 = k ∧ x.2.1 = b) ∨ ∃ y ∈ xs, x.1 = y.1 ∧ x.2.1 = y.2.1
  | [], x, h => by
    rw [show x = (k, b, c) by simpa [putN] using h]
    exact .inl ⟨rfl, rfl⟩
  | (k', b', c') :: r, x, h => by
    rw [putN] at h
    split at h
    · rcases List.mem_cons.mp h with e | e
      · rw [e]; exact .inr ⟨(k', b', c'), List.mem_cons_self, rfl, rfl⟩
      · exact .inr ⟨x, List.mem_cons_of_mem _ e, rfl, rfl⟩
    · rcases List.mem_cons.mp h with e | e
      · rw [e]; exact .inr ⟨(k', b', c'), List.mem_cons_self, rfl, rfl⟩
      · rcases mem_putN e with q | ⟨y, hy, q⟩
        · exact .inl q
        · exact .inr ⟨y, List.mem_cons_of_mem _ hy, q⟩
theorem cs_putN (k : Num) (b : Addr) (c : Int) : ∀ xs : List NEnt, cs (putN k b (cget (cs xs) k + c) xs) = cput (cs xs) k c
  | [] => by simp [cs, putN, cput, cget]
  | (k', b', c') :: r => by
    have ih := cs_putN k b c r
    by_cases h1 : k' = k
    · subst h1
      simp [cs, putN, cput, cget, Num.beq_self]
    · simp only [cs, List.map_cons, cget, beq_no h1, putN, cput, if_neg Bool.false_ne_true, Bool.false_eq_true, if_false] at ih ⊢
      rw [ih]
theorem keys_cs (xs : List NEnt) : (cs xs).map (·.1) = xs.map (·.1) := by simp [cs, Function.comp_def]
theorem cget_at : ∀ {xs : List NEnt} {j : Nat} {k : Num} {b : Addr} {c : Int}, (xs.map (·.1)).Nodup → xs[j]? = some (k, b, c) → cget (cs xs) k = c
  | [], _, _, _, _, _, h => by simp at h
  | (k', b', c') :: r, 0, k, b, c, _, h => by
    simp only [List.getElem?_cons_zero, Option.some.injEq, Prod.mk.injEq] at h
    obtain ⟨rfl, rfl, rfl⟩ := h
    simp [cs, cget, Num.beq_self]
  | (k', b', c') :: r, j + 1, k, b, c, hn, h => by
    rw [List.map_cons, List.nodup_cons] at hn
    rw [List.getElem?_cons_succ] at h
    have hk : k' ≠ k := fun e => hn.1 (by rw [e]; exact List.mem_map.mpr ⟨_, List.mem_of_getElem? h, rfl⟩)
    have ih := cget_at hn.2 h
    simp only [cs, List.map_cons, cget, beq_no hk] at ih ⊢
    exact ih
theorem cget_no : ∀ {xs : List NEnt} {k : Num}, k ∉ xs.map (·.1) → cget (cs xs) k = 0
  | [], _, _ => rfl
  | (k', b', c') :: r, k, h => by
    rw [List.map_cons, List.mem_cons, not_or] at h
    have ih := cget_no h.2
    simp only [cs, List.map_cons, cget, beq_no (fun e => h.1 e.symm)] at ih ⊢
    exact ih
/-! ### what stands at d -/
def DRaw (d : Addr) (xs : List NEnt) (h : Heap) : Prop :=
  (d == sysModules) = false ∧ xs.length ≤ sizeLine ∧ (xs.map (·.1)).Nodup ∧ ∃ zs : List (Num × Addr × Value), Paired EntR xs zs ∧
    ∃ o es ep, h.get? d = some o ∧ o.ExactDict ∧ o.data = .dict es ep ∧ es.toList = zs.map entOf
def DD (d : Addr) (xs : List NEnt) : HO := .ext (DRaw d xs)
def KeysAt (H : Hp) (xs : List NEnt) : Prop := ∀ x ∈ xs, NumAt H x.2.1 x.1
/-- a key of the dict: keys of its hash are it -/
def KApart (k : Num) (xs : List NEnt) : Prop := ∀ x ∈ xs, hashN x.1 = hashN k → x.1 = k
theorem KeysAt.mono {H H' : Hp} (t : Tups H H') {xs : List NEnt} (h : KeysAt H xs) : KeysAt H' xs := fun x hx => (h x hx).mono t
theorem raw_ok {P : Program} {w : World} {H : Hp} {h : Heap} {d : Addr} {xs : List NEnt} (r : DRaw d xs h) : ObjOk P w H h d (DD d xs) := by
  refine ⟨r, ?_, fun h1 h2 q k => ?_⟩
  · obtain ⟨_, _, _, _, _, o, _, _, e, _⟩ := r
    exact ⟨o, e⟩
  · obtain ⟨a, b, c, zs, p, o, es, ep, e, rest⟩ := q
    exact ⟨a, b, c, zs, p, o, es, ep, k o e, rest⟩
theorem paired_of_mem {α β : Type} {F : α → β → Prop} : ∀ {xs : List α} {ys : List β}, Paired F xs ys → ∀ y ∈ ys, ∃ x ∈ xs, F x y
  | _, _, .nil, _, h => nomatch h
  | _, _, .cons r t, y, h => by
    rcases List.mem_cons.mp h with e | e
    · exact ⟨_, List.mem_cons_self, by rw [e]; exact r⟩
    · obtain ⟨x, hx, q⟩ := paired_of_mem t y e
      exact ⟨x, List.mem_cons_of_mem _ hx, q⟩
theorem paired_back {α β : Type} {F : α → β → Prop} : ∀ {xs : List α} {ys : List β} {j : Nat} {y : β}, Paired F xs ys → ys[j]? = some y → ∃ x, xs[j]? = some x ∧ F x y
  | _, _, _, _, .nil, h => by simp at h
  | _, _, 0, _, .cons r t, h => by
    simp only [List.getElem?_cons_zero, Option.some.injEq] at h
    subst h
    exact ⟨_, rfl, r⟩
  | _, _, j + 1, y, .cons r t, h => by
    obtain ⟨x, h1, h2⟩ := paired_back (j := j) (y := y) t (by simpa using h)
    exact ⟨x, by simpa using h1, h2⟩
theorem ent_keys : ∀ {xs : List NEnt} {zs : List (Num × Addr × Value)}, Paired EntR xs zs → zs.map (·.1) = xs.map (·.1)
  | _, _, .nil => rfl
  | _, _, .cons r t => by rw [List.map_cons, List.map_cons, ent_keys t, r.1]
theorem put_pair {k : Num} {b : Addr} {c : Int} {t : Tok} : ∀ {xs : List NEnt} {zs : List (Num × Addr × Value)}, Paired EntR xs zs → Paired EntR (putN k b c xs) (putZ k b (.int c t) zs)
  | _, _, .nil => .cons ⟨rfl, rfl, t, rfl⟩ .nil
  | (k', b', c') :: r, (k2, b2, v2) :: q, .cons h tl => by
    obtain ⟨h1, h2, h3⟩ := h
    rw [putN, putZ, show k2 = k' from h1.symm]
    by_cases e : k' = k
    · rw [e, Num.beq_self, if_pos rfl, if_pos rfl]
      exact .cons ⟨rfl, h2, t, rfl⟩ tl
    · rw [beq_no e, if_neg Bool.false_ne_true, if_neg Bool.false_ne_true]
      exact .cons ⟨rfl, h2, h3⟩ (put_pair tl)
theorem putZ_new {k : Num} {b : Addr} {v : Value} : ∀ {zs : List (Num × Addr × Value)}, k ∉ zs.map (·.1) → putZ k b v zs = zs ++ [(k, b, v)]
  | [], _ => rfl
  | (k', b', v') :: r, h => by
    rw [List.map_cons, List.mem_cons, not_or] at h
    rw [putZ, beq_no (fun e => h.1 e.symm), if_neg Bool.false_ne_true, putZ_new h.2]
    rfl
theorem putZ_old {k : Num} {b : Addr} {v : Value} : ∀ {zs : List (Num × Addr × Value)} {j : Nat} {p : Addr × Value}, (zs.map (·.1)).Nodup → zs[j]? = some (k, p) →
    (zs.map entOf).modify j (fun e => { e with val := v }) = (putZ k b v zs).map entOf
  | [], _, _, _, h => by simp at h
  | (k', b', v') :: r, 0, p, _, h => by
    simp only [List.getElem?_cons_zero, Option.some.injEq, Prod.mk.injEq] at h
    obtain ⟨rfl, rfl⟩ := h
    rw [putZ, Num.beq_self, if_pos rfl]
    rfl
  | (k', b', v') :: r, j + 1, p, hn, h => by
    rw [List.map_cons, List.nodup_cons] at hn
    rw [List.getElem?_cons_succ] at h
    have hk : k' ≠ k := fun e => hn.1 (by rw [e]; exact List.mem_map.mpr ⟨_, List.mem_of_getElem? h, rfl⟩)
    have ih := putZ_old (b := b) (v := v) hn.2 h
    rw [putZ, beq_no hk, if_neg Bool.false_ne_true, List.map_cons, List.map_cons, ← ih]
    rfl
section
variable {X : Cx} {pins : List (Addr × Obj)} {σ : L2.St} {H : Hp} {s : Shared} {d : Addr} {xs : List NEnt} {A : Around} {E : Value → Shared → Prop}
/-- all that is known of the dict in the state -/
theorem dd_at (I : L2.Inv X pins σ H s) (h : H d = some (DD d xs)) (hk : KeysAt H xs) : (d == sysModules) = false ∧ xs.length ≤ sizeLine ∧ (xs.map (·.1)).Nodup ∧ ∃ zs : List (Num × Addr × Value), Paired EntR xs zs ∧
    (∀ x ∈ zs, NestedIs s.heap (keyN x.1) (.ref x.2.1)) ∧ ∃ o es ep, s.heap.get? d = some o ∧ o.ExactDict ∧ o.data = .dict es ep ∧ es.toList = zs.map entOf := by
  obtain ⟨r, _, _⟩ := (show ObjOk X.prog X.w H s.heap d (DD d xs) from I.hok d _ h)
  obtain ⟨a, b, c, zs, p, rest⟩ := r
  refine ⟨a, b, c, zs, p, fun x hx => ?_, rest⟩
  obtain ⟨y, hy, e1, e2, _⟩ := paired_of_mem p x hx
  rw [← e1, ← e2]
  exact num_is I (hk y hy)
theorem apart_z {k : Num} {zs : List (Num × Addr × Value)} (p : Paired EntR xs zs) (h : KApart k xs) : HashApart k zs := fun x hx e => by
  obtain ⟨y, hy, e1, _⟩ := paired_of_mem p x hx
  rw [← e1] at e ⊢
  exact h y hy e
theorem dict_get_num {a : Addr} {k : Num} {Q : Option Value → Shared → Prop} (hu : A.units + 200 < cLine) (I : L2.Inv X pins σ H s) (h : H d = some (DD d xs)) (hk : KeysAt H xs) (ha : NumAt H a k) (hh : height k ≤ 90) (hap : KApart k xs)
    (q1 : k ∉ xs.map (·.1) → ∀ tk, Q none { s with toks := tk }) (q2 : k ∈ xs.map (·.1) → ∀ tk t, Q (some (.int (cget (cs xs) k) t)) { s with toks := tk }) : wpAny (model X.prog X.w) A (dictGet d (.ref a)) Q E s := by
  obtain ⟨hd, hz, hn, zs, p, his, o, es, ep, ho, hx, hdat, he⟩ := dd_at I h hk
  have hkey := num_is I ha
  have dk := keyN_depth k
  have hnz : (zs.map (·.1)).Nodup := by rw [ent_keys p]; exact hn
  unfold dictGet
  try with_reducible refine wpAny_holding ?_
  refine wpAny_bind (pyHash_key (keyN k) _ A s _ hkey (by omega) ?_)
  rw [keyN_hash]
  refine wpAny_bind (find_num (w := X.w) (s := { s with toks := s.toks + (keyN k).draws }) hu hh hkey ho hdat he his hnz (apart_z p hap) (fun hno => ?_) fun j p' hj => ?_)
  · refine wpAny_pure (q1 (fun hm => ?_) _)
    rw [← ent_keys p] at hm
    obtain ⟨y, hy, ey⟩ := List.mem_map.mp hm
    obtain ⟨i, hi⟩ := List.mem_iff_getElem?.mp hy
    exact hno i y.2 (by rw [hi, ← ey])
  · refine wpAny_bind (wpAny_dictEntries (s := { s with toks := s.toks + (keyN k).draws }) ho hdat ?_)
    rw [ent_at he j, hj]
    obtain ⟨⟨k', b', c'⟩, hxj, e1, e2, t, e3⟩ := paired_back p hj
    have ek : k' = k := e1
    subst ek
    have e3' : p'.2 = .int c' t := e3
    refine wpAny_pure ?_
    show Q (some p'.2) _
    rw [e3', ← cget_at hn hxj]
    exact q2 (List.mem_map.mpr ⟨_, List.mem_of_getElem? hxj, rfl⟩) _ _
theorem dict_set_num {a : Addr} {k : Num} {c : Int} {t : Tok} {Q : Unit → Shared → Prop} (hu : A.units + 200 < cLine) (I : L2.Inv X pins σ H s) (h : H d = some (DD d xs)) (hk : KeysAt H xs) (ha : NumAt H a k) (hh : height k ≤ 90) (hap : KApart k xs) (hl : xs.length < sizeLine)
    (q : ∀ s', L2.Inv X pins σ (upd H d (DD d (putN k a c xs))) s' → Q () s') : wpAny (model X.prog X.w) A (dictSet d (.ref a) (.int c t)) Q E s := by
  obtain ⟨hd, hz, hn, zs, p, his, o, es, ep, ho, hx, hdat, he⟩ := dd_at I h hk
  have hkey := num_is I ha
  have dk := keyN_depth k
  have hnz : (zs.map (·.1)).Nodup := by rw [ent_keys p]; exact hn
  have hsz : es.size = zs.length := by rw [← Array.length_toList, he, List.length_map]
  have hlz : xs.length = zs.length := Paired.length p
  have write : ∀ (h' : Heap) (tk : Nat), Heap.SameBut d s.heap h' → DRaw d (putN k a c xs) h' → L2.Inv X pins σ (upd H d (DD d (putN k a c xs))) { s with heap := h', toks := tk } := fun h' tk sb r => by
    refine I.write (x := d) (e := d) (by rw [h]; exact True.intro) (.inl rfl) (fun b u hb z => (sb.2 b hb).trans z) ?_ (raw_ok r)
    obtain ⟨_, _, _, _, _, o', _, _, e, _⟩ := r
    exact ⟨o', e⟩
  have hl' : (putN k a c xs).length ≤ sizeLine := by have := len_putN k a c xs; omega
  unfold dictSet
  try with_reducible refine wpAny_holding ?_
  refine wpAny_bind (pyHash_key (keyN k) _ A s _ hkey (by omega) ?_)
  rw [keyN_hash]
  unfold dictSetHashed
  try with_reducible refine wpAny_holding ?_
  refine wpAny_bind (find_num (w := X.w) (s := { s with toks := s.toks + (keyN k).draws }) hu hh hkey ho hdat he his hnz (apart_z p hap) (fun hno => ?_) fun j p' hj => ?_)
  · have hnot : k ∉ zs.map (·.1) := fun hm => by
      obtain ⟨y, hy, ey⟩ := List.mem_map.mp hm
      obtain ⟨i, hi⟩ := List.mem_iff_getElem?.mp hy
      exact hno i y.2 (by rw [hi, ← ey])
    refine wpAny_bind (wpAny_rule (wpAny_updateDictKeys (hz := by omega) (s := { s with toks := s.toks + (keyN k).draws }) ho hdat (q _ (write _ _ (Heap.SameBut.update ..) ?_))))
    refine ⟨hd, hl', nodup_putN hn, _, put_pair (t := t) p, _, _, ep + 1, Heap.get?_update_self _ ho (Obj.isFreed_of_dict (Obj.data_mapDictKeys hdat _)), hx.mapDictKeys _, Obj.data_mapDictKeys hdat _, ?_⟩
    rw [putZ_new hnot, List.map_append, ← he]
    simp [entOf]
  · refine wpAny_bind (wpAny_rule (wpAny_bind (wpAny_updateDict (s := { s with toks := s.toks + (keyN k).draws }) ho hdat (wpAny_point (q _ (write _ _ (Heap.SameBut.update ..) ?_))))))
    refine ⟨hd, hl', nodup_putN hn, _, put_pair (t := t) p, _, _, ep, Heap.get?_update_self _ ho (Obj.isFreed_of_dict (Obj.data_mapDict hdat _)), hx.mapDict _, Obj.data_mapDict hdat _, ?_⟩
    have e := putZ_old (b := a) (v := .int c t) hnz hj
    rw [← he] at e
    obtain ⟨l⟩ := es
    simpa using e
theorem dd_type (I : L2.Inv X pins σ H s) (h : H d = some (DD d xs)) : s.TypeIs (.ref d) "dict" ∧ (∀ b, Value.ref d = .ref b → ∃ ob, s.heap.get? b = some ob ∧ ob.dict = none) ∧ (d == sysModules) = false := by
  obtain ⟨r, _, _⟩ := (show ObjOk X.prog X.w H s.heap d (DD d xs) from I.hok d _ h)
  obtain ⟨hd, _, _, zs, p, o, es, ep, ho, hx, hdat, he⟩ := r
  refine ⟨⟨o, ho, hx.1⟩, fun b e => ?_, hd⟩
  cases e
  exact ⟨o, ho, hx.2.1⟩
end
end SR
set_option Elab.async false
set_option linter.all false
set_option maxRecDepth 100000
set_option maxHeartbeats 1000000
/-! The same as rules of the layer. -/
namespace SR
open PySem PySem.Spec PyProof.Rows L2
open SR.Num (size height exps terms)
/-- what a look at the dict asks: the dict, its keys, the key -/
structure Look (H : Hp) (d a : Addr) (xs : List NEnt) (k : Num) : Prop where
  dict : H d = some (DD d xs)
  keys : KeysAt H xs
  key : NumAt H a k
  low : height k ≤ 90
  apart : KApart k xs
def tDNewN : TE := fun _ H Q => ∀ p, H p = none → Q (.ref p) (upd H p (DD p []))
def tDGetN (td ty tx : TE) : TE := fun σ H Q => td σ H fun x H1 => ∃ d xs, x = .ref d ∧ H1 d = some (DD d xs) ∧ ty σ H1 fun y H2 => tx σ H2 fun z H3 => z = .int 0 ∧ ∃ a xs k, y = .ref a ∧ Look H3 d a xs k ∧ Q (.int (cget (cs xs) k)) H3
def rIxD : R2 := fun x y H Q => ∃ d a xs k, x = .ref d ∧ y = .ref a ∧ Look H d a xs k ∧ k ∈ xs.map (·.1) ∧ Q (.int (cget (cs xs) k)) H
def rSetD : V → V → V → Hp → (Hp → Prop) → Prop := fun o i v H Q => ∃ d a xs k c, o = .ref d ∧ i = .ref a ∧ v = .int c ∧ Look H d a xs k ∧ xs.length < sizeLine ∧ Q (upd H d (DD d (putN k a c xs)))
def rListN : List V → Hp → VK → Prop := fun vs H Q => ∃ d xs, vs = [.ref d] ∧ H d = some (DD d xs) ∧ ∀ p, H p = none → Q (.ref p) (upd H p (.lst (xs.map fun x => V.ref x.2.1)))
section
variable {X : Cx}
theorem pe_dnewN {pos : Pos} : PE X (.Dict [] [] pos) tDNewN := ⟨fun pins s σ H Q I h => by
  refine wpAny_Dict_empty ⟨.ref s.heap.objs.size, _, I.laid (a := s.heap.objs.size) (o := DD s.heap.objs.size []) (t' := s.toks) (fun _ _ q => Heap.get?_push_of_some _ q) (Nat.le_refl _) (raw_ok ?_), rfl, h _ (I.hok.fresh (Nat.le_refl _))⟩
  exact ⟨beq_eq_false_iff_ne.mpr (Ne.symm (Nat.ne_of_lt I.big)), Nat.zero_le _, List.nodup_nil, [], .nil, _, #[], 0, Heap.get?_push_size _ rfl, ⟨rfl, rfl, rfl⟩, rfl, rfl⟩⟩
theorem meets_get {P : Program} {w : World} (d a : Addr) (x : Value) (hd : (d == sysModules) = false) :
    MeetsIn P w (Builtin.«dict.get» ⟨[.ref d, .ref a, x], []⟩) (fun A R s => wpAny (model P w) A.in1 (dictGet d (.ref a)) (fun r s' => R (.ok (.ret (r.getD x))) s') (fun e s' => R (.error e) s') s) :=
  .of_wp fun A R s h => by
    show wpAny _ _ (dictGet d (.ref a) >>= _) _ _ s
    refine wpAny_bind (wpAny_mono h (fun r s' q => ?_) fun _ _ z => z)
    cases r with
    | some v => exact wpAny_pure ⟨v, rfl, q⟩
    | none =>
      show wpAny _ _ (Builtin.Dict.missed d (.ref a) >>= _) _ _ _
      exact wpAny_bind (wpAny_missed_other hd (wpAny_pure ⟨x, rfl, q⟩))
theorem pe_dgetN {o e f : Expr} {apos cpos : Pos} {td ty tx : TE} (hu : X.A.units + 201 < cLine) (ho : PE X o td) (he : PE X e ty) (hf : PE X f tx) (m : M2 X o "get" apos e f cpos) : PE X (.Call (.Attribute o "get" apos) [e, f] [] cpos) (tDGetN td ty tx) := by
  refine ⟨fun pins s σ H Q I h => ?_⟩
  refine wpAny_Call_method m.base m.few m.line PySem.F.plainAttrs_dict PySem.F.slot_dict_get PySem.F.type_dict_get (thn (ho.run pins s σ H _ I h) fun u s1 ⟨x, H1, I1, rx, d, xs, ex, hd, q1⟩ => ?_)
  subst ex
  obtain rfl : u = Value.ref d := rx
  obtain ⟨t1, t2, _⟩ := dd_type I1 hd
  refine ⟨t1, t2, ?_⟩
  rw [m.trees]
  refine Calls.callWith_builtin rfl (Calls.evalArgs_plain (Calls.spliced_cons (thn (he.run pins s1 σ H1 _ I1 q1) fun iv s2 ⟨y, H2, I2, ry, q2⟩ =>
    Calls.spliced_cons (thn (hf.run pins s2 σ H2 _ I2 q2) fun fv s3 ⟨z, H3, I3, rz, ez, a, xs', k, ey, L, q3⟩ => Calls.spliced_nil ?_))))
  subst ez ey
  obtain rfl : iv = Value.ref a := ry
  obtain ⟨t, rfl⟩ := rz
  obtain ⟨g1, _, g3⟩ := dd_type I3 L.dict
  refine call_meetsIn PySem.F.slot_dict_get g1 PySem.F.entry_dict_get (PySem.F.args_dict_get_3 _ _ _) (meets_get d a _ g3) ?_
  refine dict_get_num (A := X.A.in1) (by show X.A.units + 1 + 200 < _; omega) I3 L.dict L.keys L.key L.low L.apart (fun hn tk => ?_) fun hn tk t' => ?_
  · refine ⟨.int (cget (cs xs') k), H3, I3.tok tk, ?_, q3⟩
    rw [cget_no hn]
    exact ⟨t, rfl⟩
  · exact ⟨.int (cget (cs xs') k), H3, I3.tok tk, ⟨t', rfl⟩, q3⟩
theorem getItem_num {d a : Addr} {xs : List NEnt} {k : Num} {pins : List (Addr × Obj)} {σ : L2.St} {H : Hp} {s : Shared} {A : Around} {E : Value → Shared → Prop} {Q : Value → Shared → Prop} (hu : A.units + 201 < cLine) (I : L2.Inv X pins σ H s) (L : Look H d a xs k) (hm : k ∈ xs.map (·.1))
    (h : ∀ tk t, Q (.int (cget (cs xs) k) t) { s with toks := tk }) : wpAny (model X.prog X.w) A (getItem (.ref d) (.ref a)) Q E s := by
  obtain ⟨g1, _, g3⟩ := dd_type I L.dict
  unfold getItem
  try with_reducible refine wpAny_holding ?_
  refine wpAny_bind (wpAny_sequenceKey g1 (by decide) ?_)
  refine wpAny_bind (wpAny_callSpecial?_slot (name := Str.ofString "__getitem__") g1 slot_dict_getitem
    (wpAny_call_entry slot_dict_getitem g1 entry_dict_getitem ?_ (args_dict_getitem _ _)))
  show wpAny _ _ (dictGet d (.ref a) >>= _) _ _ s
  refine wpAny_bind (dict_get_num (A := A.in1) (by show A.units + 1 + 200 < _; omega) I L.dict L.keys L.key L.low L.apart (fun hn tk => absurd hm hn) fun hn tk t' => ?_)
  exact wpAny_pure ⟨_, rfl, wpAny_pure (h tk t')⟩
theorem ix_dN (hu : X.A.units + 201 < cLine) : IxR X rIxD := by
  intro value slice pins s σ H x y v u Q I rx ry h hs
  obtain ⟨d, a, xs, k, rfl, rfl, L, hm, q⟩ := h
  cases rx
  cases ry
  obtain ⟨g1, _, g3⟩ := dd_type I L.dict
  unfold subscriptTail
  refine wpAny_bind ?_
  rw [getitemInPython_of_ne g1.not_modules]
  refine wpAny_bind (wpAny_specialOf g1 PySem.F.slot_dict_getitem.lookup ?_)
  have fin : wpAny (model X.prog X.w) X.A (subscripted slice false (.ref d) (.ref a)) (fun r s₃ => wpAny (model X.prog X.w) X.A (letTemporaryGo value (.ref d) r >>= fun _ => pure r) (EP X pins σ Q) X.xe s₃) X.xe s := by
    rw [hs]
    refine wpAny_operating (getItem_num hu I L hm fun tk t => ?_)
    exact wpAny_bind (wpAny_letTemporaryGo (wpAny_pure ⟨.int (cget (cs xs) k), H, I.tok tk, ⟨t, rfl⟩, q⟩))
  first
    | exact wpAny_pure (wpAny_bind fin)
    | exact wpAny_bind (wpAny_pure (wpAny_bind fin))
    | exact wpAny_bind fin
theorem set_dN (hu : X.A.units + 201 < cLine) : PSet X rSetD := by
  intro pins s σ H o i v ov iv u Q I ro ri rv h
  obtain ⟨d, a, xs, k, c, rfl, rfl, rfl, L, hl, q⟩ := h
  cases ro
  cases ri
  obtain ⟨t, rfl⟩ := rv
  obtain ⟨g1, _, g3⟩ := dd_type I L.dict
  unfold setItem
  try with_reducible refine wpAny_holding ?_
  refine wpAny_bind (wpAny_sequenceKey g1 (by decide) ?_)
  refine wpAny_bind (wpAny_callSpecial?_slot (name := Str.ofString "__setitem__") g1 slot_dict_setitem
    (wpAny_call_entry slot_dict_setitem g1 entry_dict_setitem ?_ (args_dict_setitem _ _ _)))
  show wpAny _ _ (Builtin.Dict.notOrdered "__setitem__" ⟨[.ref d, .ref a, .int c t], []⟩ >>= _) _ _ s
  refine wpAny_bind (wpAny_notOrdered_dict g1 ?_)
  show wpAny _ _ (dictSet d (.ref a) (.int c t) >>= _) _ _ s
  exact wpAny_bind (dict_set_num (A := X.A.in1) (by show X.A.units + 1 + 200 < _; omega) I L.dict L.keys L.key L.low L.apart hl fun s' I' => wpAny_pure ⟨.none, rfl, wpAny_pure ⟨_, I', q⟩⟩)
theorem call_list_dN (hc : X.calm = true) : CallR X (.type "list") rListN := by
  intro pins s σ H vs us Q I r h
  obtain ⟨d, xs, rfl, hd, q⟩ := h
  obtain ⟨u, rfl, rx⟩ := r.one
  cases rx
  obtain ⟨⟨hs, hz, hn, zs, p, o, es, ep, ho, hx, hdt, he⟩, _, _⟩ := (show ObjOk X.prog X.w H s.heap d (DD d xs) from I.hok d _ hd)
  have l1 : es.size = zs.length := by rw [← Array.length_toList, he, List.length_map]
  have l2 : xs.length = zs.length := Paired.length p
  refine PySem.W.kdl_call (kdl_raw hs hx hdt) (I.ok.hd hc) ho (by omega) fun h' tk acc' c' kp e it => ?_
  have hl : acc'.toList.length = xs.length := by rw [Array.length_toList, it.1]; omega
  have rv : Vals (xs.map fun x => V.ref x.2.1) acc'.toList := by
    refine vals_of_at (by rw [List.length_map, hl]) fun j x u hxj hu => ?_
    rw [List.getElem?_map] at hxj
    cases hj : xs[j]? with
    | none => rw [hj] at hxj; cases hxj
    | some y =>
      rw [hj] at hxj
      have ex : V.ref y.2.1 = x := by simpa using hxj
      obtain ⟨en, hen, hv⟩ := it.2 j u (by rw [← Array.getElem?_toList]; exact hu)
      have qe := ent_at he j
      rw [hen] at qe
      cases hb : zs[j]? with
      | none => rw [hb] at qe; exact nomatch (show some en = none from qe)
      | some b =>
        rw [hb] at qe
        have e2 : en = entOf b := Option.some.inj qe
        obtain ⟨x', hx', r1, r2, _⟩ := paired_back p hb
        rw [hj] at hx'
        cases hx'
        rw [hv, e2, ← ex]
        show Value.ref b.2.1 = Value.ref y.2.1
        rw [r2]
  refine ⟨.ref s.heap.objs.size, _, I.laid (t' := tk) (o := .lst (xs.map fun x => V.ref x.2.1)) kp (Nat.le_refl _) ?_, rfl, q _ (I.hok.fresh (Nat.le_refl _))⟩
  exact ⟨by rw [List.length_map]; exact hz, acc'.toList, c', rv, by rw [Array.toArray_toList]; exact e⟩
end
end SR
set_option Elab.async false
set_option linter.all false
set_option maxRecDepth 100000
/-! The text by places: each def, its slots; what the top has left of it. -/
namespace SR
open PySem PySem.Spec PyProof.Rows L2
def topS (i : Nat) : Stmt := PySem.Challenge.pw_sandreckoner_k07_whole_texts.main.body.getD i (.Pass ⟨0, 0, 0, 0⟩)
/-- a def as it stands behind the top -/
structure DefOk (K : PySem.W.Frag) (mg : Str → Option Value) (x : Str) (st : Stmt) (f : Addr) (fd : FuncData) (ps : List Str) : Prop where
  F : Fun K x x st f fd
  g : mg x = some (.ref f)
  b : Binds K fd ps []
section
variable {X : Cx} {CX : CXT} {k : Nat} {x : Str} {st : Stmt} {f : Addr} {fd : FuncData} {ps : List Str} {sp : Sp} {e : Expr} {es : List Expr} {t : TA} {p pos : Pos}
theorem callD (D : DefOk X.K X.mg x st f fd ps) (G : FnOk X.prog X.w X.K X.mg X.base CX0 k f fd ps sp) (hr : Room k X.A) (ha : PA X (e :: es) t) (hg : Gl X x := by rfl)
    (hdb : (x == ("__debug__" : Str)) = false := by decide) (he : starEach (e :: es) X.env = (false, eval e X.env) :: starEach es X.env := by rfl) (hpl : (backTo pos (starEach es X.env)).any (·.1) = false := by rfl) : PE X (.Call (.Name x p) (e :: es) [] pos) (tCall sp [] E0 t) :=
  pe_call G hr hg D.g D.F.kp D.b .nil pass0 ha hdb he hpl
end
abbrev sSizeOf : Stmt := topS 8
theorem sSizeOf_sc : FnScope ["number", "_", "exponent"] ["number"] (defScope sSizeOf) := ⟨rfl, rfl, rfl, by decide +kernel, rfl, by decide +kernel, by decide +kernel⟩
abbrev sHeightOf : Stmt := topS 9
theorem sHeightOf_sc : FnScope ["number", "_", "exponent"] ["number"] (defScope sHeightOf) := ⟨rfl, rfl, rfl, by decide +kernel, rfl, by decide +kernel, by decide +kernel⟩
abbrev sCompare : Stmt := topS 10
theorem sCompare_sc : FnScope ["first", "second", "sign", "exponent", "other_sign", "other", "order"] ["first", "second"] (defScope sCompare) := ⟨rfl, rfl, rfl, by decide +kernel, rfl, by decide +kernel, by decide +kernel⟩
abbrev sSignOf : Stmt := topS 11
theorem sSignOf_sc : FnScope ["number"] ["number"] (defScope sSignOf) := ⟨rfl, rfl, rfl, by decide +kernel, rfl, by decide +kernel, by decide +kernel⟩
abbrev sInOrder : Stmt := topS 12
theorem sInOrder_sc : FnScope ["numbers", "found", "number", "low", "high", "middle"] ["numbers"] (defScope sInOrder) := ⟨rfl, rfl, rfl, by decide +kernel, rfl, by decide +kernel, by decide +kernel⟩
abbrev sGathered : Stmt := topS 13
theorem sGathered_sc : FnScope ["pairs", "counts", "count", "exponent", "waiting", "terms", "sign"] ["pairs"] (defScope sGathered) := ⟨rfl, rfl, rfl, by decide +kernel, rfl, by decide +kernel, by decide +kernel⟩
abbrev sSignAt : Stmt := topS 14
theorem sSignAt_sc : FnScope ["count", "exponent", "counts", "waiting"] ["count", "exponent", "counts", "waiting"] (defScope sSignAt) := ⟨rfl, rfl, rfl, by decide +kernel, rfl, by decide +kernel, by decide +kernel⟩
abbrev sNextOf : Stmt := topS 15
theorem sNextOf_sc : FnScope ["number"] ["number"] (defScope sNextOf) := ⟨rfl, rfl, rfl, by decide +kernel, rfl, by decide +kernel, by decide +kernel⟩
abbrev sIsAllowed : Stmt := topS 16
theorem sIsAllowed_sc : FnScope ["number"] ["number"] (defScope sIsAllowed) := ⟨rfl, rfl, rfl, by decide +kernel, rfl, by decide +kernel, by decide +kernel⟩
abbrev sIsApart : Stmt := topS 17
theorem sIsApart_sc : FnScope ["upper", "lower"] ["upper", "lower"] (defScope sIsApart) := ⟨rfl, rfl, rfl, by decide +kernel, rfl, by decide +kernel, by decide +kernel⟩
abbrev sIsForm : Stmt := topS 18
theorem sIsForm_sc : FnScope ["number", "sign", "exponent", "at"] ["number"] (defScope sIsForm) := ⟨rfl, rfl, rfl, by decide +kernel, rfl, by decide +kernel, by decide +kernel⟩
abbrev sCheckNumber : Stmt := topS 19
theorem sCheckNumber_sc : FnScope ["number"] ["number"] (defScope sCheckNumber) := ⟨rfl, rfl, rfl, by decide +kernel, rfl, by decide +kernel, by decide +kernel⟩
abbrev sNumberText : Stmt := topS 22
theorem sNumberText_sc : FnScope ["number", "parts", "sign", "exponent", "head"] ["number"] (defScope sNumberText) := ⟨rfl, rfl, rfl, by decide +kernel, rfl, by decide +kernel, by decide +kernel⟩
abbrev sReadTuple : Stmt := topS 23
theorem sReadTuple_sc : FnScope ["text", "levels", "signs", "at", "exponent"] ["text"] (defScope sReadTuple) := ⟨rfl, rfl, rfl, by decide +kernel, rfl, by decide +kernel, by decide +kernel⟩
abbrev sReadNumber : Stmt := topS 24
theorem sReadNumber_sc : FnScope ["text", "number"] ["text"] (defScope sReadNumber) := ⟨rfl, rfl, rfl, by decide +kernel, rfl, by decide +kernel, by decide +kernel⟩
abbrev lStream : Stmt := topS 26
theorem lStream_sc : FnScope ["_law_script", "_law_numbers", "_law_cell", "_law_rest", "_law_k", "_law_mixed"] ["_law_script"] (defScope lStream) := ⟨rfl, rfl, rfl, by decide +kernel, rfl, by decide +kernel, by decide +kernel⟩
abbrev lPick : Stmt := topS 27
theorem lPick_sc : FnScope ["_law_numbers", "_law_at", "_law_many"] ["_law_numbers", "_law_at", "_law_many"] (defScope lPick) := ⟨rfl, rfl, rfl, by decide +kernel, rfl, by decide +kernel, by decide +kernel⟩
abbrev lTwo : Stmt := topS 28
theorem lTwo_sc : FnScope ["_law_count", "_law_value", "_law_k"] ["_law_count"] (defScope lTwo) := ⟨rfl, rfl, rfl, by decide +kernel, rfl, by decide +kernel, by decide +kernel⟩
abbrev lOf : Stmt := topS 29
theorem lOf_sc : FnScope ["_law_value", "_law_terms", "_law_place", "_law_rest", "_law_k", "_law_sign"] ["_law_value"] (defScope lOf) := ⟨rfl, rfl, rfl, by decide +kernel, rfl, by decide +kernel, by decide +kernel⟩
abbrev lSize : Stmt := topS 30
theorem lSize_sc : FnScope ["_law_number_here", "_law_term"] ["_law_number_here"] (defScope lSize) := ⟨rfl, rfl, rfl, by decide +kernel, rfl, by decide +kernel, by decide +kernel⟩
abbrev lHeight : Stmt := topS 31
theorem lHeight_sc : FnScope ["_law_number_here", "_law_term"] ["_law_number_here"] (defScope lHeight) := ⟨rfl, rfl, rfl, by decide +kernel, rfl, by decide +kernel, by decide +kernel⟩
abbrev lFits : Stmt := topS 32
theorem lFits_sc : FnScope ["_law_number_here"] ["_law_number_here"] (defScope lFits) := ⟨rfl, rfl, rfl, by decide +kernel, rfl, by decide +kernel, by decide +kernel⟩
abbrev lExponent : Stmt := topS 33
theorem lExponent_sc : FnScope ["_law_numbers", "_law_at", "_law_way", "_law_low", "_law_high"] ["_law_numbers", "_law_at"] (defScope lExponent) := ⟨rfl, rfl, rfl, by decide +kernel, rfl, by decide +kernel, by decide +kernel⟩
abbrev lModel : Stmt := topS 34
theorem lModel_sc : FnScope ["_law_numbers", "_law_at", "_law_many", "_law_counts", "_law_k", "_law_exponent_here"] ["_law_numbers", "_law_at", "_law_many"] (defScope lModel) := ⟨rfl, rfl, rfl, by decide +kernel, rfl, by decide +kernel, by decide +kernel⟩
abbrev lRows : Stmt := topS 35
theorem lRows_sc : FnScope ["_law_counts", "_law_waiting", "_law_rows_here", "_law_count", "_law_exponent_here", "_law_at", "_law_k", "_law_more", "_law_sign"] ["_law_counts"] (defScope lRows) := ⟨rfl, rfl, rfl, by decide +kernel, rfl, by decide +kernel, by decide +kernel⟩
abbrev lNumber : Stmt := topS 36
theorem lNumber_sc : FnScope ["_law_counts", "_law_row"] ["_law_counts"] (defScope lNumber) := ⟨rfl, rfl, rfl, by decide +kernel, rfl, by decide +kernel, by decide +kernel⟩
abbrev lText : Stmt := topS 38
theorem lText_sc : FnScope ["_law_number_here", "_law_parts", "_law_sign", "_law_exponent_here"] ["_law_number_here"] (defScope lText) := ⟨rfl, rfl, rfl, by decide +kernel, rfl, by decide +kernel, by decide +kernel⟩
abbrev lClose : Stmt := topS 39
theorem lClose_sc : FnScope ["_law_text_here", "_law_at", "_law_depth", "_law_k"] ["_law_text_here", "_law_at"] (defScope lClose) := ⟨rfl, rfl, rfl, by decide +kernel, rfl, by decide +kernel, by decide +kernel⟩
abbrev lRead : Stmt := topS 40
theorem lRead_sc : FnScope ["_law_text_here", "_law_levels", "_law_terms", "_law_at", "_law_k", "_law_end", "_law_inner"] ["_law_text_here", "_law_levels"] (defScope lRead) := ⟨rfl, rfl, rfl, by decide +kernel, rfl, by decide +kernel, by decide +kernel⟩
abbrev lIsNumber : Stmt := topS 41
theorem lIsNumber_sc : FnScope ["_law_number_here"] ["_law_number_here"] (defScope lIsNumber) := ⟨rfl, rfl, rfl, by decide +kernel, rfl, by decide +kernel, by decide +kernel⟩
abbrev lTold : Stmt := topS 42
theorem lTold_sc : FnScope ["_law_text_here", "_law_due", "_law_told_here", "e"] ["_law_text_here"] (defScope lTold) := ⟨rfl, rfl, rfl, by decide +kernel, rfl, by decide +kernel, by decide +kernel⟩
abbrev lSpoilt : Stmt := topS 43
theorem lSpoilt_sc : FnScope ["_law_numbers", "_law_at", "_law_text_here", "_law_place", "_law_sign", "_law_way"] ["_law_numbers", "_law_at", "_law_text_here"] (defScope lSpoilt) := ⟨rfl, rfl, rfl, by decide +kernel, rfl, by decide +kernel, by decide +kernel⟩
abbrev sLaw : Stmt := topS 44
theorem sLaw_sc : FnScope ["_law_script", "_law_numbers", "_law_number_here", "_law_told_here", "_law_text_here", "_law_k", "_law_wide", "_law_tall", "_law_tower", "_law_one"] ["_law_script"] (defScope sLaw) := ⟨rfl, rfl, rfl, by decide +kernel, rfl, by decide +kernel, by decide +kernel⟩
/-- where each def stands -/
structure Ads where
  sSizeOf : Addr
  sSizeOfD : FuncData
  sHeightOf : Addr
  sHeightOfD : FuncData
  sCompare : Addr
  sCompareD : FuncData
  sSignOf : Addr
  sSignOfD : FuncData
  sInOrder : Addr
  sInOrderD : FuncData
  sGathered : Addr
  sGatheredD : FuncData
  sSignAt : Addr
  sSignAtD : FuncData
  sNextOf : Addr
  sNextOfD : FuncData
  sIsAllowed : Addr
  sIsAllowedD : FuncData
  sIsApart : Addr
  sIsApartD : FuncData
  sIsForm : Addr
  sIsFormD : FuncData
  sCheckNumber : Addr
  sCheckNumberD : FuncData
  sNumberText : Addr
  sNumberTextD : FuncData
  sReadTuple : Addr
  sReadTupleD : FuncData
  sReadNumber : Addr
  sReadNumberD : FuncData
  lStream : Addr
  lStreamD : FuncData
  lPick : Addr
  lPickD : FuncData
  lTwo : Addr
  lTwoD : FuncData
  lOf : Addr
  lOfD : FuncData
  lSize : Addr
  lSizeD : FuncData
  lHeight : Addr
  lHeightD : FuncData
  lFits : Addr
  lFitsD : FuncData
  lExponent : Addr
  lExponentD : FuncData
  lModel : Addr
  lModelD : FuncData
  lRows : Addr
  lRowsD : FuncData
  lNumber : Addr
  lNumberD : FuncData
  lText : Addr
  lTextD : FuncData
  lClose : Addr
  lCloseD : FuncData
  lRead : Addr
  lReadD : FuncData
  lIsNumber : Addr
  lIsNumberD : FuncData
  lTold : Addr
  lToldD : FuncData
  lSpoilt : Addr
  lSpoiltD : FuncData
  sLaw : Addr
  sLawD : FuncData
  xReckonError : Addr
  xNotAllowed : Addr
  xBadForm : Addr
  xTooLarge : Addr
  signs : Addr
/-- what is known of the top -/
structure Top (K : PySem.W.Frag) (mg : Str → Option Value) (a : Ads) : Prop where
  sSizeOf : DefOk K mg "size_of" SR.sSizeOf a.sSizeOf a.sSizeOfD ["number"]
  sHeightOf : DefOk K mg "height_of" SR.sHeightOf a.sHeightOf a.sHeightOfD ["number"]
  sCompare : DefOk K mg "compare" SR.sCompare a.sCompare a.sCompareD ["first", "second"]
  sSignOf : DefOk K mg "sign_of" SR.sSignOf a.sSignOf a.sSignOfD ["number"]
  sInOrder : DefOk K mg "in_order" SR.sInOrder a.sInOrder a.sInOrderD ["numbers"]
  sGathered : DefOk K mg "gathered" SR.sGathered a.sGathered a.sGatheredD ["pairs"]
  sSignAt : DefOk K mg "sign_at" SR.sSignAt a.sSignAt a.sSignAtD ["count", "exponent", "counts", "waiting"]
  sNextOf : DefOk K mg "next_of" SR.sNextOf a.sNextOf a.sNextOfD ["number"]
  sIsAllowed : DefOk K mg "is_allowed" SR.sIsAllowed a.sIsAllowed a.sIsAllowedD ["number"]
  sIsApart : DefOk K mg "is_apart" SR.sIsApart a.sIsApart a.sIsApartD ["upper", "lower"]
  sIsForm : DefOk K mg "is_form" SR.sIsForm a.sIsForm a.sIsFormD ["number"]
  sCheckNumber : DefOk K mg "check_number" SR.sCheckNumber a.sCheckNumber a.sCheckNumberD ["number"]
  sNumberText : DefOk K mg "number_text" SR.sNumberText a.sNumberText a.sNumberTextD ["number"]
  sReadTuple : DefOk K mg "read_tuple" SR.sReadTuple a.sReadTuple a.sReadTupleD ["text"]
  sReadNumber : DefOk K mg "read_number" SR.sReadNumber a.sReadNumber a.sReadNumberD ["text"]
  lStream : DefOk K mg "_law_stream" SR.lStream a.lStream a.lStreamD ["_law_script"]
  lPick : DefOk K mg "_law_pick" SR.lPick a.lPick a.lPickD ["_law_numbers", "_law_at", "_law_many"]
  lTwo : DefOk K mg "_law_two" SR.lTwo a.lTwo a.lTwoD ["_law_count"]
  lOf : DefOk K mg "_law_of" SR.lOf a.lOf a.lOfD ["_law_value"]
  lSize : DefOk K mg "_law_size" SR.lSize a.lSize a.lSizeD ["_law_number_here"]
  lHeight : DefOk K mg "_law_height" SR.lHeight a.lHeight a.lHeightD ["_law_number_here"]
  lFits : DefOk K mg "_law_fits" SR.lFits a.lFits a.lFitsD ["_law_number_here"]
  lExponent : DefOk K mg "_law_exponent" SR.lExponent a.lExponent a.lExponentD ["_law_numbers", "_law_at"]
  lModel : DefOk K mg "_law_model" SR.lModel a.lModel a.lModelD ["_law_numbers", "_law_at", "_law_many"]
  lRows : DefOk K mg "_law_rows" SR.lRows a.lRows a.lRowsD ["_law_counts"]
  lNumber : DefOk K mg "_law_number" SR.lNumber a.lNumber a.lNumberD ["_law_counts"]
  lText : DefOk K mg "_law_text" SR.lText a.lText a.lTextD ["_law_number_here"]
  lClose : DefOk K mg "_law_close" SR.lClose a.lClose a.lCloseD ["_law_text_here", "_law_at"]
  lRead : DefOk K mg "_law_read" SR.lRead a.lRead a.lReadD ["_law_text_here", "_law_levels"]
  lIsNumber : DefOk K mg "_law_is_number" SR.lIsNumber a.lIsNumber a.lIsNumberD ["_law_number_here"]
  lTold : DefOk K mg "_law_told" SR.lTold a.lTold a.lToldD ["_law_text_here"]
  lSpoilt : DefOk K mg "_law_spoilt" SR.lSpoilt a.lSpoilt a.lSpoiltD ["_law_numbers", "_law_at", "_law_text_here"]
  sLaw : DefOk K mg "law" SR.sLaw a.sLaw a.sLawD ["_law_script"]
  bLen : mg "len" = none
  bSum : mg "sum" = none
  bMax : mg "max" = none
  bZip : mg "zip" = none
  bList : mg "list" = none
  bTuple : mg "tuple" = none
  bAll : mg "all" = none
  bRange : mg "range" = none
  bInt : mg "int" = none
  bSorted : mg "sorted" = none
  bIsinstance : mg "isinstance" = none
  bStr : mg "str" = none
  mSize : ∃ t, mg "MAX_SIZE" = some (.int 300 t)
  mHeight : ∃ t, mg "MAX_HEIGHT" = some (.int 40 t)
end SR
set_option Elab.async false
set_option linter.all false
set_option maxRecDepth 100000
set_option maxHeartbeats 4000000
/-! Walks: sizes, heights, signs, texts. -/
namespace SR
open PySem PySem.Spec PyProof.Rows L2
open SR.Num (size height exps terms)
def big : Nat := 1000000
theorem big_line : big < sizeLine := by rw [sizeLine_eq]; decide
theorem size_line {n : Num} (h : size n ≤ big) : Num.len n < sizeLine := by
  have h1 := len_size n
  have := big_line
  omega
/-- a def that is not called at all -/
theorem fn_none {P : Program} {w : World} {K : PySem.W.Frag} {mg : Str → Option Value} {base : Heap} {CX : CXT} {k : Nat} {f : Addr} {fd : FuncData} {ps : List Str} {sp : Sp} (no : ∀ vs H Q E, ¬ sp vs H Q E) : FnOk P w K mg base CX k f fd ps sp :=
  ⟨fun vs H Q E h => absurd h (no vs H Q E), fun A outer s H args us vs Q E _ _ _ _ h => absurd h (no vs H Q E)⟩
theorem same_new {H : Hp} {p : Addr} (h : H p = none) (o : HO) : Same H (upd H p o) := fun b u q => by rw [upd_ne (ne_of_none q h)]; exact q
theorem terms_get {n : Num} {i : Nat} (h : i < Num.len n) : ∃ t, (terms n)[i]? = some t := ⟨_, List.getElem?_eq_getElem (by rw [Num.terms_len]; exact h)⟩
theorem terms_exps {n : Num} {i : Nat} {t : Bool × Num} (h : (terms n)[i]? = some t) : (exps n)[i]? = some t.2 := by
  rw [Num.exps_eq, List.getElem?_map, h]; rfl
theorem take_snoc {α : Type} {l : List α} {i : Nat} {x : α} (h : l[i]? = some x) : l.take (i + 1) = l.take i ++ [x] := by
  rw [List.take_add_one, h]; rfl
/-- over a number's terms: an invariant by the turn -/
theorem for_num {K : PySem.W.Frag} {a : Addr} {vs : List V} {n : Num} {g : TG} {tb : TS} {D : Ends} {σ : L2.St} {H H0 : Hp} (ha : H0 a = some (.tup vs)) (hv : NumL H0 n vs) (Pv : Nat → L2.St → Hp → Prop) (h0 : Pv 0 σ H) (hS : ∀ i σ' H', Pv i σ' H' → Tups H0 H')
    (hs : ∀ (i : Nat) (t : Bool × Num) p q σ' H', (terms n)[i]? = some t → Pv i σ' H' → H' p = some (.tup [.int (sg t.1), .ref q]) → NumAt H' q t.2 → g (.ref p) σ' H' fun σ2 H2 => tb { D with nx := Pv (i + 1), ct := Pv (i + 1), bk := D.nx } σ2 H2)
    (hd : ∀ σ' H', Pv (Num.len n) σ' H' → D.nx σ' H') :
    ∃ W : Nat → Nat → L2.St → Hp → Prop, (∃ m, W 0 m σ H) ∧ ∀ i m σ H, W i m σ H →
      ((Itt K a).stop i H ∧ D.nx σ H) ∨ ((Itt K a).go i H ∧ ∃ N : L2.St → Hp → Prop, (∀ σ' H', N σ' H' → ∃ m', m' < m ∧ W (i + 1) m' σ' H') ∧ ∀ x H', (Itt K a).yld i H x H' → g x σ H' fun σ2 H2 => tb { D with nx := N, ct := N, bk := D.nx } σ2 H2) := by
  refine for_tup (xs := vs) Pv h0 (fun i σ' H' _ p => SqT.of (hS i σ' H' p _ _ ha)) (fun i x σ' H' hx p => ?_) (fun σ' H' p => hd σ' H' (by rw [← hv.len]; exact p))
  have hi : i < Num.len n := by rw [← hv.len]; exact (List.getElem?_eq_some_iff.mp hx).1
  obtain ⟨t, ht⟩ := terms_get hi
  obtain ⟨p', q, e1, e2, e3⟩ := (hv.mono (hS i σ' H' p)).get ht
  rw [hx] at e1
  cases e1
  exact hs i t p' q σ' H' ht p e2 e3
theorem yes_go {σ : L2.St} {H : Hp} {te : TE} {Qt : VK} {Qf : Hp → Prop} (h : te σ H Qt) : tYes σ H fun b H3 => if b = true then te σ H3 Qt else Qf H3 := by
  show if true = true then te σ H Qt else Qf H
  rw [if_pos rfl]
  exact h
/-- a comprehension over a number's terms: one value a term -/
theorem lc_num {K : PySem.W.Frag} {a : Addr} {n : Num} {g : TG} {tl te : TE} {ws : List Nat} {σ : L2.St} {H H1 : Hp} {Q : VK} (f : Num → V) (hl : Num.len n ≤ big) (ha : NumAt H1 a n) (h0 : ∀ Q' : VK, Q' (.ref a) H1 → tl σ H Q')
    (hs : ∀ (i : Nat) (t : Bool × Num) p q H', (terms n)[i]? = some t → Same H1 H' → H' p = some (.tup [.int (sg t.1), .ref q]) → NumAt H' q t.2 → ∀ Qx : L2.St → Hp → Prop, (∀ σ2, wipe σ2 ws = wipe σ ws → (∀ Q' : VK, (∀ H3, Same H' H3 → Q' (f t.2) H3) → te σ2 H' Q') → Qx σ2 H') → g (.ref p) (wipe σ ws) H' Qx)
    (q : ∀ D H', H1 D = none → Same H1 H' → H' D = some (.lst ((exps n).map f)) → Q (.ref D) H') : tLc (iTup K tl) g tYes te ws σ H Q := by
  obtain ⟨vs, ha, hv⟩ := ha
  refine h0 _ ⟨a, rfl, ⟨vs, SqT.of ha⟩, fun D hD => ?_⟩
  refine lc_tup (xs := vs) (fun i H' => Same H1 H' ∧ H' D = some (.lst (((exps n).map f).take i))) ⟨same_new hD _, by rw [upd_same]; rfl⟩ (fun i H' _ p => SqT.of (p.1 _ _ ha)) (fun i x H' hx p => ?_) (fun H' p => ?_)
  · obtain ⟨sm, eD⟩ := p
    have hi : i < Num.len n := by rw [← hv.len]; exact (List.getElem?_eq_some_iff.mp hx).1
    obtain ⟨t, ht⟩ := terms_get hi
    obtain ⟨p', q', e1, e2, e3⟩ := (hv.mono (Tups.of_same sm)).get ht
    rw [hx] at e1
    cases e1
    refine hs i t p' q' H' ht sm e2 e3 _ fun σ2 hw hte => ⟨hw, ?_⟩
    refine yes_go (hte _ fun H3 s3 => ⟨_, s3 _ _ eD, ?_, fun b u e => ?_, ?_⟩)
    · have := big_line
      rw [List.length_take, List.length_map, Num.exps_eq, List.length_map, Num.terms_len]
      omega
    · rw [upd_ne (ne_of_none e hD)]
      exact s3 _ _ (sm _ _ e)
    · rw [upd_same, take_snoc (x := f t.2) (by rw [List.getElem?_map, terms_exps ht]; rfl)]
  · have e : ((exps n).map f).take vs.length = (exps n).map f := List.take_of_length_le (by rw [List.length_map, Num.exps_eq, List.length_map, Num.terms_len, hv.len]; exact Nat.le_refl _)
    rw [e] at p
    exact q D H' hD p.1 p.2
section
variable {X : Cx} {K : PySem.W.Frag}
/-! rules with the written part by name -/
theorem ix_tupK (h : X.K = K := by rfl) : IxR X (rIxT K) := h ▸ ix_tup
theorem ix_listK (h : X.K = K := by rfl) : IxR X (rIxL K) := h ▸ ix_list
def rLenQ (K : PySem.W.Frag) : List V → Hp → VK → Prop := fun xs H Q => ∃ p ys, xs = [.ref p] ∧ (SqL K H p ys ∨ SqT K H p ys) ∧ Q (.int (ys.length : Nat)) H
theorem call_lenK (h : X.K = K := by rfl) : CallR X (.builtin "len") (rLenQ K) := h ▸ call_len_seq
end
def spInt (h : Nat) (g : Num → Int) : Sp := fun vs H Q _ => ∃ a n, vs = [.ref a] ∧ NumAt H a n ∧ height n < h ∧ size n ≤ big ∧ ∀ H', Same H H' → Q (.int (g n)) H'
theorem exps_of_terms {n : Num} {i : Nat} {t : Bool × Num} (h : (terms n)[i]? = some t) : t.2 ∈ exps n := List.mem_of_getElem? (terms_exps h)
theorem size_sum : ∀ n : Num, 1 + ((exps n).map fun e => (size e : Int)).sum = (size n : Int)
  | .nil => rfl
  | .cons s e r => by
    have h := size_sum r
    rw [exps, List.map_cons, List.sum_cons, size]
    omega
theorem height_max {n : Num} {m : Int} (h1 : m ∈ (exps n).map fun e => (height e : Int)) (h2 : ∀ y ∈ (exps n).map fun e => (height e : Int), y ≤ m) : 1 + m = (height n : Int) := by
  obtain ⟨e, he, rfl⟩ := List.mem_map.mp h1
  have a := exps_height he
  have b := height_exps n (1 + height e) fun x hx => by
    have := h2 _ (List.mem_map.mpr ⟨x, hx, rfl⟩)
    omega
  omega
theorem height_max0 {n : Num} {m : Int} (h1 : m ∈ (0 : Int) :: (exps n).map fun e => 1 + (height e : Int)) (h2 : ∀ y ∈ (0 : Int) :: (exps n).map fun e => 1 + (height e : Int), y ≤ m) : m = (height n : Int) := by
  have h0 := h2 0 List.mem_cons_self
  have b := height_exps n m.toNat fun x hx => by
    have := h2 _ (List.mem_cons_of_mem _ (List.mem_map.mpr ⟨x, hx, rfl⟩))
    omega
  rcases List.mem_cons.mp h1 with e | e
  · omega
  · obtain ⟨x, hx, rfl⟩ := List.mem_map.mp e
    have a := exps_height hx
    omega
theorem len_exps (n : Num) : (exps n).length = Num.len n := by rw [Num.exps_eq, List.length_map, Num.terms_len]
theorem nil_of_len {n : Num} (h : Num.len n = 0) : n = .nil := by
  cases n with
  | nil => rfl
  | cons s e r => exact absurd h (Nat.succ_ne_zero _)
/-- len of a number -/
theorem NumAt.lenQ {K : PySem.W.Frag} {H : Hp} {b : Addr} {n : Num} (h : NumAt H b n) : ∃ ys : List V, SqT K H b ys ∧ ys.length = Num.len n := let ⟨vs, h1, h2⟩ := h; ⟨vs, SqT.of h1, h2.len⟩
section
variable {P : Program} {w : World} {K : PySem.W.Frag} {mg : Str → Option Value} {base : Heap} {a : Ads}
theorem ok_size (T : Top K mg a) : ∀ h : Nat, FnOk P w K mg base CX0 h a.sSizeOf a.sSizeOfD ["number"] (spInt h fun n => (size n : Int))
  | 0 => fn_none fun vs H Q E h => by obtain ⟨_, _, _, _, h, _⟩ := h; exact absurd h (Nat.not_lt_zero _)
  | h + 1 => by
    have GsSizeOf := ok_size T h
    refine T.sSizeOf.F.ok sSizeOf_sc (fun vs H Q E q => by obtain ⟨_, _, rfl, _⟩ := q; rfl) (fun cdv A outer s H vs Q E hr q => ?_)
    obtain ⟨b, n, rfl, hn, hh, hz, q⟩ := q
    refine ⟨_, (pss_one (ps_ret (pe_op op_add pe_int (pe_callB (cr_sum rfl) (by rfl) T.bSum (by decide +kernel) (pa_cons (pe_lc (own := [("_", 1), ("exponent", 2)]) (g := gTup K 2 (gCons (gName 1) (gCons (gName 2) gNil))) (tt := tYes) rfl sSizeOf_sc.nd (pi_tup (pv 0)) (blkOk_by (N := ["number", "_", "exponent"]) (sc := defScope sSizeOf) (by decide +kernel)) (fun _ _ _ _ _ => by exact (pg_tup rfl (pgs_cons (pg_name (i := 1) sSizeOf_sc.nd rfl (Or.inl rfl)) (pgs_cons (pg_name (i := 2) sSizeOf_sc.nd rfl (Or.inl rfl)) pgs_nil)))) (fun _ _ _ _ _ => pts_nil) (fun _ _ _ _ _ => by exact (callD T.sSizeOf GsSizeOf hr (pa_cons (pv 2) pa_nil)))) pa_nil))))), ?_⟩
    dsimp only [tRet, tOp, tC, tCB, tCons]
    refine lc_num (fun e => .int (size e : Int)) (by have := len_size n; omega) hn (fun Q' k => ⟨_, rfl, k⟩) (fun i t p q' H' ht sm e1 e2 Qx k => ?_) fun D H' hD sm eD => ?_
    · refine ⟨p, _, rfl, SqT.of e1, rfl, _, _, rfl, _, _, rfl, rfl, k _ rfl fun Q' k' => ?_⟩
      have hx := exps_of_terms ht
      have := exps_height hx
      have := exps_size hx
      exact ⟨_, rfl, q', t.2, rfl, e2, by omega, by omega, k'⟩
    · refine ⟨D, (exps n).map fun e => (size e : Int), rfl, ?_, _, _, rfl, rfl, ?_⟩
      · refine SqL.of ?_
        rw [eD, List.map_map]
        rfl
      · have e := size_sum n
        show Q (.int (1 + ((exps n).map fun e => (size e : Int)).sum)) H'
        rw [e]
        exact q H' sm
theorem ok_lsize (T : Top K mg a) : ∀ h : Nat, FnOk P w K mg base CX0 h a.lSize a.lSizeD ["_law_number_here"] (spInt h fun n => (size n : Int))
  | 0 => fn_none fun vs H Q E h => by obtain ⟨_, _, _, _, h, _⟩ := h; exact absurd h (Nat.not_lt_zero _)
  | h + 1 => by
    have GlSize := ok_lsize T h
    refine T.lSize.F.ok lSize_sc (fun vs H Q E q => by obtain ⟨_, _, rfl, _⟩ := q; rfl) (fun cdv A outer s H vs Q E hr q => ?_)
    obtain ⟨b, n, rfl, hn, hh, hz, q⟩ := q
    refine ⟨_, (pss_one (ps_ret (pe_op op_add pe_int (pe_callB (cr_sum rfl) (by rfl) T.bSum (by decide +kernel) (pa_cons (pe_lc (own := [("_law_term", 1)]) (g := gName 1) (tt := tYes) rfl lSize_sc.nd (pi_tup (pv 0)) (blkOk_by (N := ["_law_number_here", "_law_term"]) (sc := defScope lSize) (by decide +kernel)) (fun _ _ _ _ _ => by exact (pg_name (i := 1) lSize_sc.nd rfl (Or.inl rfl))) (fun _ _ _ _ _ => pts_nil) (fun _ _ _ _ _ => by exact (callD T.lSize GlSize hr (pa_cons (pe_ix (ix_tupK (K := K)) (pv 1) pe_int (fun _ _ => rfl)) pa_nil)))) pa_nil))))), ?_⟩
    dsimp only [tRet, tOp, tC, tCB, tCons]
    refine lc_num (fun e => .int (size e : Int)) (by have := len_size n; omega) hn (fun Q' k => ⟨_, rfl, k⟩) (fun i t p q' H' ht sm e1 e2 Qx k => ?_) fun D H' hD sm eD => ?_
    · refine k _ rfl fun Q' k' => ?_
      have hx := exps_of_terms ht
      have := exps_height hx
      have := exps_size hx
      exact ⟨_, rfl, p, _, 1, _, rfl, rfl, SqT.of e1, atI_nat (j := 1) rfl, q', t.2, rfl, e2, by omega, by omega, k'⟩
    · refine ⟨D, (exps n).map fun e => (size e : Int), rfl, ?_, _, _, rfl, rfl, ?_⟩
      · refine SqL.of ?_
        rw [eD, List.map_map]
        rfl
      · have e := size_sum n
        show Q (.int (1 + ((exps n).map fun e => (size e : Int)).sum)) H'
        rw [e]
        exact q H' sm
theorem ok_height (T : Top K mg a) : ∀ h : Nat, FnOk P w K mg base CX0 h a.sHeightOf a.sHeightOfD ["number"] (spInt h fun n => (height n : Int))
  | 0 => fn_none fun vs H Q E h => by obtain ⟨_, _, _, _, h, _⟩ := h; exact absurd h (Nat.not_lt_zero _)
  | h + 1 => by
    have GsHeightOf := ok_height T h
    refine T.sHeightOf.F.ok sHeightOf_sc (fun vs H Q E q => by obtain ⟨_, _, rfl, _⟩ := q; rfl) (fun cdv A outer s H vs Q E hr q => ?_)
    obtain ⟨b, n, rfl, hn, hh, hz, q⟩ := q
    refine ⟨_, (pss_cons (ps_if (pt_cmpR op_eq (pe_callB (call_lenK (K := K)) (by rfl) T.bLen PySem.boot_len (pa_cons (pv 0) pa_nil)) pe_int (nomark _))
        (pss_one (ps_ret pe_int))
        pss_nil)
      (pss_one (ps_ret (pe_op op_add pe_int (pe_callB (cr_max rfl) (by rfl) T.bMax (by decide +kernel) (pa_cons (pe_lc (own := [("_", 1), ("exponent", 2)]) (g := gTup K 2 (gCons (gName 1) (gCons (gName 2) gNil))) (tt := tYes) rfl sHeightOf_sc.nd (pi_tup (pv 0)) (blkOk_by (N := ["number", "_", "exponent"]) (sc := defScope sHeightOf) (by decide +kernel)) (fun _ _ _ _ _ => by exact (pg_tup rfl (pgs_cons (pg_name (i := 1) sHeightOf_sc.nd rfl (Or.inl rfl)) (pgs_cons (pg_name (i := 2) sHeightOf_sc.nd rfl (Or.inl rfl)) pgs_nil)))) (fun _ _ _ _ _ => pts_nil) (fun _ _ _ _ _ => by exact (callD T.sHeightOf GsHeightOf hr (pa_cons (pv 2) pa_nil)))) pa_nil)))))), ?_⟩
    obtain ⟨ys, hy, hl⟩ := hn.lenQ (K := K)
    refine ⟨_, rfl, b, ys, rfl, .inr hy, rfl, _, rfl, ite2 (fun e => ?_) (fun e => ?_)⟩
    · have e0 : (ys.length : Int) = 0 := V.int.inj (of_decide_eq_true e)
      have en := nil_of_len (n := n) (by omega)
      subst en
      exact q H (Same.refl H)
    · have e0 : ¬ (ys.length : Int) = 0 := fun z => e (decide_eq_true (by rw [z]))
      dsimp only [tNext, tRet, tOp, tC, tCB, tCons]
      refine lc_num (fun e => .int (height e : Int)) (by have := len_size n; omega) hn (fun Q' k => ⟨_, rfl, k⟩) (fun i t p q' H' ht sm e1 e2 Qx k => ?_) fun D H' hD sm eD => ?_
      · refine ⟨p, _, rfl, SqT.of e1, rfl, _, _, rfl, _, _, rfl, rfl, k _ rfl fun Q' k' => ?_⟩
        have hx := exps_of_terms ht
        have := exps_height hx
        have := exps_size hx
        exact ⟨_, rfl, q', t.2, rfl, e2, by omega, by omega, k'⟩
      · refine ⟨D, (exps n).map fun e => (height e : Int), rfl, ?_, ?_, fun m m1 m2 => ⟨_, _, rfl, rfl, ?_⟩⟩
        · refine SqL.of ?_
          rw [eD, List.map_map]
          rfl
        · rw [List.length_map, len_exps]
          omega
        · have e := height_max m1 m2
          show Q (.int (1 + m)) H'
          rw [e]
          exact q H' sm
theorem ok_lheight (T : Top K mg a) : ∀ h : Nat, FnOk P w K mg base CX0 h a.lHeight a.lHeightD ["_law_number_here"] (spInt h fun n => (height n : Int))
  | 0 => fn_none fun vs H Q E h => by obtain ⟨_, _, _, _, h, _⟩ := h; exact absurd h (Nat.not_lt_zero _)
  | h + 1 => by
    have GlHeight := ok_lheight T h
    refine T.lHeight.F.ok lHeight_sc (fun vs H Q E q => by obtain ⟨_, _, rfl, _⟩ := q; rfl) (fun cdv A outer s H vs Q E hr q => ?_)
    obtain ⟨b, n, rfl, hn, hh, hz, q⟩ := q
    refine ⟨_, (pss_one (ps_ret (pe_callB (cr_max rfl) (by rfl) T.bMax (by decide +kernel) (pa_cons (pe_op op_cat (pe_lst (pa_cons pe_int pa_nil)) (pe_lc (own := [("_law_term", 1)]) (g := gName 1) (tt := tYes) rfl lHeight_sc.nd (pi_tup (pv 0)) (blkOk_by (N := ["_law_number_here", "_law_term"]) (sc := defScope lHeight) (by decide +kernel)) (fun _ _ _ _ _ => by exact (pg_name (i := 1) lHeight_sc.nd rfl (Or.inl rfl))) (fun _ _ _ _ _ => pts_nil) (fun _ _ _ _ _ => by exact (pe_op op_add pe_int (callD T.lHeight GlHeight hr (pa_cons (pe_ix (ix_tupK (K := K)) (pv 1) pe_int (fun _ _ => rfl)) pa_nil)))))) pa_nil)))), ?_⟩
    dsimp only [tRet, tOp, tC, tCB, tCons, tLst, tNil]
    refine ⟨by show 1 ≤ sizeLine; decide, fun L hL => ?_⟩
    have s0 := same_new hL (.lst [.int 0])
    refine lc_num (fun e => .int (1 + (height e : Int))) (by have := len_size n; omega) (hn.same s0) (fun Q' k => ⟨_, rfl, k⟩) (fun i t p q' H' ht sm e1 e2 Qx k => ?_) fun D H' hD sm eD => ?_
    · refine k _ rfl fun Q' k' => ?_
      have hx := exps_of_terms ht
      have := exps_height hx
      have := exps_size hx
      exact ⟨_, rfl, p, _, 1, _, rfl, rfl, SqT.of e1, atI_nat (j := 1) rfl, q', t.2, rfl, e2, by omega, by omega, fun H3 s3 => ⟨_, _, rfl, rfl, k' H3 s3⟩⟩
    · refine ⟨L, D, _, _, rfl, rfl, sm _ _ upd_same, eD, ?_, fun p hp => ?_⟩
      · have := big_line
        have := len_size n
        rw [List.length_map, len_exps, List.length_singleton]
        omega
      · refine ⟨p, (0 : Int) :: (exps n).map fun e => 1 + (height e : Int), rfl, ?_, ?_, fun m m1 m2 => ?_⟩
        · refine SqL.of ?_
          rw [upd_same, List.map_cons, List.map_map]
          rfl
        · rw [List.length_cons]; omega
        · rw [height_max0 m1 m2]
          exact q _ ((s0.trans sm).trans (same_new hp _))
end
end SR
set_option Elab.async false
set_option linter.all false
set_option maxRecDepth 100000
set_option maxHeartbeats 4000000
/-! Walks: signs, limits, texts. -/
namespace SR
open PySem PySem.Spec PyProof.Rows L2
open SR.Num (size height exps terms)
/-- a text of codes -/
def S (l : List Nat) : Str := ⟨l.toArray⟩
theorem S_len (l : List Nat) : (S l).length = l.length := by simp [S, Str.length]
theorem S_app (a b : List Nat) : S a ++ S b = S (a ++ b) := by
  show Str.append _ _ = _
  simp [S, Str.append]
theorem S_tl (l : List Nat) : (S l).cps.toList = l := by simp [S]
theorem S_inj {a b : List Nat} (h : S a = S b) : a = b := by rw [← S_tl a, h, S_tl]
theorem S_of (z : Str) : S z.cps.toList = z := by cases z; simp [S]
theorem S_join : ∀ ls : List (List Nat), Txt.join Str.empty (ls.map S) = S ls.flatten := by
  intro ls
  rw [TL.join_eq]
  induction ls with
  | nil => rfl
  | cons a r ih =>
    cases r with
    | nil =>
      show S a = S (a ++ ([] : List Nat))
      rw [List.append_nil]
    | cons b r =>
      show S a ++ S [] ++ Str.join Str.empty ((b :: r).map S) = _
      rw [ih, S_app, S_app, List.append_nil]
      rfl
def piece (t : Bool × Num) : List Nat := sc t.1 :: 91 :: (txt t.2 ++ [93])
theorem tt_pieces : ∀ n : Num, ((terms n).map piece).flatten = tt n
  | .nil => rfl
  | .cons s e r => by
    rw [terms, List.map_cons, List.flatten_cons, tt_pieces r, tt, piece, txt]
    simp
theorem sum_take {l : List Nat} : ∀ i, (l.take i).sum ≤ l.sum
  | 0 => Nat.zero_le _
  | i + 1 => by
    cases l with
    | nil => exact Nat.le_refl _
    | cons a r =>
      have := sum_take (l := r) i
      simp only [List.take_succ_cons, List.sum_cons]; omega
theorem same_set {H0 H : Hp} {L : Addr} {o : HO} (sm : Same H0 H) (hL : H0 L = none) : Same H0 (upd H L o) := fun b x e => by
  rw [upd_ne (ne_of_none e hL)]
  exact sm _ _ e
theorem ifC {σ : L2.St} {H : Hp} {Q : VK} {c : Bool} {a b x : V} (h : (if c = true then a else b) = x) (q : Q x H) : if c = true then tC a σ H Q else tC b σ H Q := by
  cases c
  · rw [if_neg (by decide)] at h ⊢; rw [h]; exact q
  · rw [if_pos rfl] at h ⊢; rw [h]; exact q
def spTxt (h : Nat) : Sp := fun vs H Q _ => ∃ a n, vs = [.ref a] ∧ NumAt H a n ∧ height n < h ∧ size n ≤ big ∧ ∀ H', Same H H' → Q (.str (S (txt n))) H'
theorem mem_size {n : Num} {i : Nat} {t : Bool × Num} (h : (terms n)[i]? = some t) : height t.2 < height n ∧ size t.2 < size n := by
  have hx := exps_of_terms h
  have := exps_height hx
  have := exps_size hx
  omega
/-- parts of a text -/
def parts (n : Num) (i : Nat) : List V := (((terms n).take i).map piece).map fun l => V.str (S l)
theorem parts_snoc {n : Num} {i : Nat} {t : Bool × Num} (h : (terms n)[i]? = some t) : parts n i ++ [.str (S (piece t))] = parts n (i + 1) := by
  rw [parts, parts, take_snoc h, List.map_append, List.map_append]; rfl
theorem parts_len {n : Num} {i : Nat} : (parts n i).length ≤ size n := by
  have := len_size n
  rw [parts, List.length_map, List.length_map, List.length_take, Num.terms_len]; omega
theorem parts_all (n : Num) : parts n (Num.len n) = (((terms n).map piece).map S).map V.str := by
  rw [parts, List.take_of_length_le (by rw [Num.terms_len]; exact Nat.le_refl _), List.map_map (g := V.str)]; rfl
theorem pieces_sum (n : Num) (k : Nat) : ((((terms n).map piece).map S).map (·.length)).sum + (((terms n).map piece).map S).length * k ≤ 4 * size n + size n * k := by
  have e : (((terms n).map piece).map S).map (·.length) = ((terms n).map piece).map List.length := by
    rw [List.map_map]
    exact List.map_congr_left fun l _ => S_len l
  have e2 : (((terms n).map piece).map List.length).sum = (tt n).length := by
    rw [← tt_pieces, List.length_flatten]
  have := tt_len n
  have := len_size n
  rw [e, e2, List.length_map, List.length_map, Num.terms_len]
  have := Nat.mul_le_mul_right k (show Num.len n ≤ size n by omega)
  omega
theorem big_line4 : 4 * big + 10 ≤ sizeLine := by rw [sizeLine_eq]; decide
theorem tt_len0 {n : Num} (h : ¬ Num.len n = 0) : txt n = tt n := by
  cases n with
  | nil => exact absurd rfl h
  | cons s e r => rfl
def sgn : Num → Int
  | .nil => 0
  | .cons s _ _ => sg s
def spSign : Sp := fun vs H Q _ => ∃ a n, vs = [.ref a] ∧ NumAt H a n ∧ Q (.int (sgn n)) H
def spFit (h : Nat) : Sp := fun vs H Q _ => ∃ a n, vs = [.ref a] ∧ NumAt H a n ∧ height n < h ∧ size n ≤ big ∧ ∀ H', Same H H' → Q (.bl (decide (size n ≤ 300 ∧ height n ≤ 40))) H'
section
variable {P : Program} {w : World} {K : PySem.W.Frag} {mg : Str → Option Value} {base : Heap} {a : Ads}
theorem ok_sign (T : Top K mg a) (h : Nat) : FnOk P w K mg base CX0 (h + 1) a.sSignOf a.sSignOfD ["number"] spSign := by
    refine T.sSignOf.F.ok sSignOf_sc (fun vs H Q E q => by obtain ⟨_, _, rfl, _⟩ := q; rfl) (fun cdv A outer s H vs Q E hr q => ?_)
    obtain ⟨b, n, rfl, hn, q⟩ := q
    refine ⟨_, (pss_cons (ps_if (pt_cmpR op_eq (pe_callB (call_lenK (K := K)) (by rfl) T.bLen PySem.boot_len (pa_cons (pv 0) pa_nil)) pe_int (nomark _))
        (pss_one (ps_ret pe_int))
        pss_nil)
      (pss_one (ps_ret (pe_ix (ix_tupK (K := K)) (pe_ix (ix_tupK (K := K)) (pv 0) pe_int (fun _ _ => rfl)) pe_int (fun _ _ => rfl))))), ?_⟩
    obtain ⟨ys, hy, hl⟩ := hn.lenQ (K := K)
    refine ⟨_, rfl, b, ys, rfl, .inr hy, rfl, _, rfl, ite2 (fun e => ?_) (fun e => ?_)⟩
    · have e0 : (ys.length : Int) = 0 := V.int.inj (of_decide_eq_true e)
      have en := nil_of_len (n := n) (by omega)
      subst en
      exact q
    · have e0 : ¬ (ys.length : Int) = 0 := fun z => e (decide_eq_true (by rw [z]))
      cases n with
      | nil => exact absurd (by rw [hl]; rfl) e0
      | cons sb e r =>
        obtain ⟨vs, hv, hl⟩ := hn
        obtain ⟨p, c, es, vs', rfl, e1, e2, e3, e4⟩ := hl
        exact ⟨_, rfl, b, _, 0, _, rfl, rfl, SqT.of hv, atI_nat (j := 0) rfl, p, _, 0, _, rfl, rfl, SqT.of e1, atI_nat (j := 0) rfl, q⟩
theorem ok_ltext (T : Top K mg a) : ∀ h : Nat, FnOk P w K mg base CX0 h a.lText a.lTextD ["_law_number_here"] (spTxt h)
  | 0 => fn_none fun vs H Q E h => by obtain ⟨_, _, _, _, h, _⟩ := h; exact absurd h (Nat.not_lt_zero _)
  | h + 1 => by
    have GlText := ok_ltext T h
    refine T.lText.F.ok lText_sc (fun vs H Q E q => by obtain ⟨_, _, rfl, _⟩ := q; rfl) (fun cdv A outer s H vs Q E hr q => ?_)
    obtain ⟨b, n, rfl, hn, hh, hz, q⟩ := q
    refine ⟨_, (pss_cons (ps_if (pt_cmpR op_eq (pe_callB (call_lenK (K := K)) (by rfl) T.bLen PySem.boot_len (pa_cons (pv 0) pa_nil)) pe_int (nomark _))
        (pss_one (ps_ret pe_str))
        pss_nil)
      (pss_cons (ps_set (i := 1) lText_sc.nd rfl (Or.inl rfl) (pe_lst pa_nil))
      (pss_cons (ps_for PassesOwn.never rfl (pi_tup (pv 0)) (pg_tup rfl (pgs_cons (pg_name (i := 2) lText_sc.nd rfl (Or.inl rfl)) (pgs_cons (pg_name (i := 3) lText_sc.nd rfl (Or.inl rfl)) pgs_nil)))
        (pss_one (ps_expr (pe_bm PySem.F.plainAttrs_list PySem.F.slot_list_append PySem.F.type_list_append mt_append (pv 1) (pa_cons (pe_op op_add_str (pe_op op_add_str (pe_op op_add_str (pe_ix (ix_listK (K := K)) (pe_lst (pa_cons pe_str (pa_cons pe_str pa_nil))) (pe_callTy call_int1 (by rfl) T.bInt (by decide +kernel) (pa_cons (pe_cmpR op_lt (pv 2) pe_int (nomark _)) pa_nil)) (fun _ _ => rfl)) pe_str) (callD T.lText GlText hr (pa_cons (pv 3) pa_nil))) pe_str) pa_nil)))))
      (pss_one (ps_ret (pe_join pe_str (pv 1))))))), ?_⟩
    obtain ⟨ys, hy, hl⟩ := hn.lenQ (K := K)
    refine ⟨_, rfl, b, ys, rfl, .inr hy, rfl, _, rfl, ite2 (fun e => ?_) (fun e => ?_)⟩
    · have e0 : (ys.length : Int) = 0 := V.int.inj (of_decide_eq_true e)
      have en := nil_of_len (n := n) (by omega)
      subst en
      exact q H (Same.refl H)
    · have e0 : ¬ (ys.length : Int) = 0 := fun z => e (decide_eq_true (by rw [z]))
      dsimp only [tNext, tRet, tOp, tC, tCB, tCons, tLst, tNil]
      refine ⟨Nat.zero_le _, fun L hL => ?_⟩
      have s0 := same_new hL (.lst [])
      obtain ⟨vs, hv, hvl⟩ := hn
      refine ⟨_, rfl, b, rfl, ⟨vs, SqT.of (s0 _ _ hv)⟩, ?_⟩
      refine for_num (n := n) hv hvl (fun i σ' H' => Same H H' ∧ H' L = some (.lst (parts n i)) ∧ ∃ x y, σ' = [some (.ref b), some (.ref L), x, y]) ⟨s0, by rw [upd_same]; rfl, _, _, rfl⟩ ?_ ?_ ?_
      · exact fun i σ' H' p => Tups.of_same p.1
      · rintro i t p c σ' H' ht ⟨sm, eL, x, y, rfl⟩ e1 e2
        obtain ⟨z1, z2⟩ := mem_size ht
        refine ⟨p, _, rfl, SqT.of e1, rfl, _, _, rfl, _, _, rfl, rfl, ?_⟩
        dsimp only [tLst, tCons, tNil, tOp, tC, tCB]
        refine ⟨.ref L, rfl, .inl ⟨rfl, _, .inl (.inl eL)⟩, by show 2 ≤ sizeLine; rw [sizeLine_eq]; decide, fun M hM => ?_⟩
        have sM := same_new hM (.lst [.str (S [43]), .str (S [45])])
        have e1' := sM _ _ e1
        refine ⟨_, rfl, _, _, rfl, rfl, .inr ⟨_, rfl, M, [.str (S [43]), .str (S [45])], _, .str (S [sc t.1]), rfl, rfl, SqL.of (by rw [upd_same]; rfl), ?_, ?_⟩⟩
        · rw [show decide (sg t.1 < 0) = t.1 by cases t.1 <;> rfl]
          cases t.1 <;> rfl
        have bl := big_line4
        have tl := txt_len t.2
        refine ⟨S [sc t.1], S [91], rfl, rfl, by rw [S_len, S_len]; simp; omega, _, rfl, c, t.2, rfl, e2.same sM, by omega, by omega, fun H2 s2 => ?_⟩
        refine ⟨S [sc t.1] ++ S [91], S (txt t.2), rfl, rfl, by rw [S_app, S_len, S_len]; simp; omega, ?_⟩
        refine ⟨S [sc t.1] ++ S [91] ++ S (txt t.2), S [93], rfl, rfl, by rw [S_app, S_app, S_len, S_len]; simp; omega, ?_⟩
        refine ⟨L, _, _, rfl, rfl, s2 _ _ (sM _ _ eL), by have := parts_len (n := n) (i := i); omega, same_set ((sm.trans sM).trans s2) hL, ?_, _, _, rfl⟩
        rw [upd_same, ← parts_snoc ht, S_app, S_app, S_app]
        rfl
      · rintro σ' H' ⟨sm, eL, x, y, rfl⟩
        refine ⟨⟨_, rfl⟩, _, rfl, Str.empty, L, ((terms n).map piece).map S, rfl, rfl, .inl (SqL.of ?_), ?_, ?_⟩
        · rw [eL, parts_all]
        · have := pieces_sum n 0
          have bl : 4 * big + 10 ≤ 16777216 := by decide
          show _ + _ * (0 : Nat) ≤ _
          omega
        · rw [S_join, tt_pieces, ← tt_len0 (n := n) (by omega)]
          exact q _ sm
theorem ok_text (T : Top K mg a) : ∀ h : Nat, FnOk P w K mg base CX0 h a.sNumberText a.sNumberTextD ["number"] (spTxt h)
  | 0 => fn_none fun vs H Q E h => by obtain ⟨_, _, _, _, h, _⟩ := h; exact absurd h (Nat.not_lt_zero _)
  | h + 1 => by
    have GsNumberText := ok_text T h
    refine T.sNumberText.F.ok sNumberText_sc (fun vs H Q E q => by obtain ⟨_, _, rfl, _⟩ := q; rfl) (fun cdv A outer s H vs Q E hr q => ?_)
    obtain ⟨b, n, rfl, hn, hh, hz, q⟩ := q
    refine ⟨_, (pss_cons (ps_if (pt_cmpR op_eq (pe_callB (call_lenK (K := K)) (by rfl) T.bLen PySem.boot_len (pa_cons (pv 0) pa_nil)) pe_int (nomark _))
        (pss_one (ps_ret pe_str))
        pss_nil)
      (pss_cons (ps_set (i := 1) sNumberText_sc.nd rfl (Or.inl rfl) (pe_lst pa_nil))
      (pss_cons (ps_for PassesOwn.never rfl (pi_tup (pv 0)) (pg_tup rfl (pgs_cons (pg_name (i := 2) sNumberText_sc.nd rfl (Or.inl rfl)) (pgs_cons (pg_name (i := 3) sNumberText_sc.nd rfl (Or.inl rfl)) pgs_nil)))
        (pss_cons (ps_set (i := 4) sNumberText_sc.nd rfl (Or.inl rfl) (pe_ifExp (pt_cmpR op_gt (pv 2) pe_int (nomark _)) pe_str pe_str))
        (pss_one (ps_expr (pe_bm PySem.F.plainAttrs_list PySem.F.slot_list_append PySem.F.type_list_append mt_append (pv 1) (pa_cons (pe_op op_add_str (pe_op op_add_str (pe_op op_add_str (pv 4) pe_str) (callD T.sNumberText GsNumberText hr (pa_cons (pv 3) pa_nil))) pe_str) pa_nil))))))
      (pss_one (ps_ret (pe_join pe_str (pv 1))))))), ?_⟩
    obtain ⟨ys, hy, hl⟩ := hn.lenQ (K := K)
    refine ⟨_, rfl, b, ys, rfl, .inr hy, rfl, _, rfl, ite2 (fun e => ?_) (fun e => ?_)⟩
    · have e0 : (ys.length : Int) = 0 := V.int.inj (of_decide_eq_true e)
      have en := nil_of_len (n := n) (by omega)
      subst en
      exact q H (Same.refl H)
    · have e0 : ¬ (ys.length : Int) = 0 := fun z => e (decide_eq_true (by rw [z]))
      dsimp only [tNext, tRet, tOp, tC, tCB, tCons, tLst, tNil]
      refine ⟨Nat.zero_le _, fun L hL => ?_⟩
      have s0 := same_new hL (.lst [])
      obtain ⟨vs, hv, hvl⟩ := hn
      refine ⟨_, rfl, b, rfl, ⟨vs, SqT.of (s0 _ _ hv)⟩, ?_⟩
      refine for_num (n := n) hv hvl (fun i σ' H' => Same H H' ∧ H' L = some (.lst (parts n i)) ∧ ∃ x y z, σ' = [some (.ref b), some (.ref L), x, y, z]) ⟨s0, by rw [upd_same]; rfl, _, _, _, rfl⟩ ?_ ?_ ?_
      · exact fun i σ' H' p => Tups.of_same p.1
      · rintro i t p c σ' H' ht ⟨sm, eL, x, y, z, rfl⟩ e1 e2
        obtain ⟨z1, z2⟩ := mem_size ht
        refine ⟨p, _, rfl, SqT.of e1, rfl, _, _, rfl, _, _, rfl, rfl, ?_⟩
        have bl := big_line4
        have tl := txt_len t.2
        have hd : ∀ D : L2.TS, ∀ X : L2.St → Hp → Prop, True := fun _ _ => trivial
        refine ⟨_, rfl, _, _, rfl, rfl, _, rfl, ifC (x := .str (S [sc t.1])) (by cases t.1 <;> rfl) ?_⟩
        refine ⟨.ref L, rfl, .inl ⟨rfl, _, .inl (.inl eL)⟩, _, rfl, S [sc t.1], S [91], rfl, rfl, by rw [S_len, S_len]; simp; omega, _, rfl, c, t.2, rfl, e2, by omega, by omega, fun H2 s2 => ?_⟩
        refine ⟨S [sc t.1] ++ S [91], S (txt t.2), rfl, rfl, by rw [S_app, S_len, S_len]; simp; omega, ?_⟩
        refine ⟨S [sc t.1] ++ S [91] ++ S (txt t.2), S [93], rfl, rfl, by rw [S_app, S_app, S_len, S_len]; simp; omega, ?_⟩
        refine ⟨L, _, _, rfl, rfl, s2 _ _ eL, by have := parts_len (n := n) (i := i); omega, same_set (sm.trans s2) hL, ?_, _, _, _, rfl⟩
        rw [upd_same, ← parts_snoc ht, S_app, S_app, S_app]
        rfl
      · rintro σ' H' ⟨sm, eL, x, y, z, rfl⟩
        refine ⟨⟨_, rfl⟩, _, rfl, Str.empty, L, ((terms n).map piece).map S, rfl, rfl, .inl (SqL.of ?_), ?_, ?_⟩
        · rw [eL, parts_all]
        · have := pieces_sum n 0
          have bl : 4 * big + 10 ≤ 16777216 := by decide
          show _ + _ * (0 : Nat) ≤ _
          omega
        · rw [S_join, tt_pieces, ← tt_len0 (n := n) (by omega)]
          exact q _ sm
end
end SR
set_option Elab.async false
set_option linter.all false
set_option maxRecDepth 100000
set_option maxHeartbeats 4000000
/-! Walks: limits, the order. -/
namespace SR
open PySem PySem.Spec PyProof.Rows L2
open SR.Num (size height exps terms)
theorem tst {p A B : Prop} [Decidable p] (h1 : p → A) (h2 : ¬ p → B) : if decide p = true then A else B := ite2 (fun e => h1 (of_decide_eq_true e)) fun e => h2 fun z => e (decide_eq_true z)
theorem tstN {p A B : Prop} [Decidable p] (h1 : ¬ p → A) (h2 : p → B) : if (!decide p) = true then A else B := ite2 (fun e => h1 fun z => by rw [decide_eq_true z] at e; exact absurd e (by decide)) fun e => h2 (Classical.not_not.mp fun z => e (by rw [decide_eq_false z]; rfl))
theorem tstE {i j : Int} {A B : Prop} (h1 : i = j → A) (h2 : i ≠ j → B) : if decide (V.int i = V.int j) = true then A else B := tst (fun e => h1 (V.int.inj e)) fun e => h2 fun z => e (by rw [z])
theorem tstNE {i j : Int} {A B : Prop} (h1 : i ≠ j → A) (h2 : i = j → B) : if (!decide (V.int i = V.int j)) = true then A else B := tstN (fun e => h1 fun z => e (by rw [z])) fun e => h2 (V.int.inj e)
theorem cmul_sg (x : Int) (b : Bool) : CMul x (sg b) := .inr (by cases b <;> decide)
def cmpL : List (Bool × Num) → List (Bool × Num) → Int
  | [], [] => 0
  | [], t :: _ => - sg t.1
  | s :: _, [] => sg s.1
  | s :: r, t :: q => if s.1 = t.1 then (if cmp s.2 t.2 = 0 then cmpL r q else cmp s.2 t.2 * sg s.1) else sg s.1
theorem cmpL_eq : ∀ n m : Num, cmp n m = cmpL (terms n) (terms m)
  | .nil, .nil => rfl
  | .nil, .cons _ _ _ => rfl
  | .cons _ _ _, .nil => rfl
  | .cons s e r, .cons t f q => by rw [cmp, terms, terms, cmpL, cmpL_eq r q]
theorem drop_at {α : Type} {l : List α} {i : Nat} {x : α} (h : l[i]? = some x) : l.drop i = x :: l.drop (i + 1) := by
  obtain ⟨hi, e⟩ := List.getElem?_eq_some_iff.mp h
  rw [← e]
  exact List.drop_eq_getElem_cons hi
/-- over two tuples at once, to the end of the shorter one -/
theorem for_zipM {K : PySem.W.Frag} {a b : Addr} {xs ys : List V} {g : TG} {tb : TS} {D : Ends} {σ : L2.St} {H : Hp} (Pv : Nat → L2.St → Hp → Prop) (h0 : Pv 0 σ H) (hq : ∀ i σ H, Pv i σ H → SqT K H a xs ∧ SqT K H b ys)
    (hs : ∀ (i : Nat) (x y : V) (T : Addr) (σ : L2.St) (H : Hp), xs[i]? = some x → ys[i]? = some y → Pv i σ H → H T = none → g (.ref T) σ (upd H T (.tup [x, y])) fun σ2 H2 => tb { D with nx := Pv (i + 1), ct := Pv (i + 1), bk := D.nx } σ2 H2) (hd : ∀ i σ H, i ≤ xs.length → i ≤ ys.length → (xs.length ≤ i ∨ ys.length ≤ i) → Pv i σ H → D.nx σ H) :
    ∃ W : Nat → Nat → L2.St → Hp → Prop, (∃ m, W 0 m σ H) ∧ ∀ i m σ H, W i m σ H →
      ((RZ.ItzT K a b).stop i H ∧ D.nx σ H) ∨ ((RZ.ItzT K a b).go i H ∧ ∃ N : L2.St → Hp → Prop, (∀ σ' H', N σ' H' → ∃ m', m' < m ∧ W (i + 1) m' σ' H') ∧ ∀ v H', (RZ.ItzT K a b).yld i H v H' → g v σ H' fun σ2 H2 => tb { D with nx := N, ct := N, bk := D.nx } σ2 H2) := by
  refine ⟨fun i m σ H => m = xs.length - i ∧ i ≤ xs.length ∧ i ≤ ys.length ∧ Pv i σ H, ⟨xs.length, rfl, Nat.zero_le _, Nat.zero_le _, h0⟩, ?_⟩
  rintro i m σ H ⟨rfl, hi, hi2, p⟩
  obtain ⟨qx, qy⟩ := hq i σ H p
  by_cases hlt : i < xs.length ∧ i < ys.length
  · have hx : xs[i]? = some xs[i] := List.getElem?_eq_getElem hlt.1
    have hy : ys[i]? = some ys[i] := List.getElem?_eq_getElem hlt.2
    refine .inr ⟨⟨xs, ys, _, _, qx, qy, hx, hy⟩, Pv (i + 1), fun σ' H' p' => ⟨xs.length - (i + 1), by omega, rfl, hlt.1, hlt.2, p'⟩, fun v H' y => ?_⟩
    obtain ⟨T, x', y', rfl, hT, rfl, f1, f2⟩ := y
    exact hs i x' y' T σ H (f1 xs qx) (f2 ys qy) p hT
  · exact .inl ⟨⟨xs, ys, qx, qy, by omega⟩, hd i σ H hi hi2 (by omega) p⟩
/-- the sign of a term of a number -/
theorem NumAt.sign {K : PySem.W.Frag} {H : Hp} {b : Addr} {n : Num} {i : Nat} {t : Bool × Num} (h : NumAt H b n) (ht : (terms n)[i]? = some t) : ∃ vs p q, SqT K H b vs ∧ vs[i]? = some (.ref p) ∧ SqT K H p [.int (sg t.1), .ref q] ∧ NumAt H q t.2 := by
  obtain ⟨vs, h1, h2⟩ := h
  obtain ⟨p, q, e1, e2, e3⟩ := h2.get ht
  exact ⟨vs, p, q, SqT.of h1, e1, SqT.of e2, e3⟩
theorem fit_eq {m k : Nat} {i : Nat} (h : (m : Int) ≤ (i : Nat)) : decide (m ≤ i ∧ k ≤ 40) = decide ((k : Int) ≤ 40) := decide_eq_decide.mpr ⟨fun z => by omega, fun z => by omega⟩
theorem fit_no {m k : Nat} {i : Nat} (h : ¬ (m : Int) ≤ (i : Nat)) : decide (m ≤ i ∧ k ≤ 40) = false := decide_eq_false fun z => h (by omega)
def spCmp (h : Nat) : Sp := fun vs H Q _ => ∃ a b n m, vs = [.ref a, .ref b] ∧ NumAt H a n ∧ NumAt H b m ∧ height n < h ∧ height n ≤ 90 ∧ ∀ H', Same H H' → Q (.int (cmp n m)) H'
section
variable {P : Program} {w : World} {K : PySem.W.Frag} {mg : Str → Option Value} {base : Heap} {a : Ads}
theorem ok_lfits (T : Top K mg a) (h : Nat) : FnOk P w K mg base CX0 (h + 1) a.lFits a.lFitsD ["_law_number_here"] (spFit h) := by
  have GlSize := ok_lsize (P := P) (w := w) (base := base) T h
  have GlHeight := ok_lheight (P := P) (w := w) (base := base) T h
  refine T.lFits.F.ok lFits_sc (fun vs H Q E q => by obtain ⟨_, _, rfl, _⟩ := q; rfl) (fun cdv A outer s H vs Q E hr q => ?_)
  obtain ⟨b, n, rfl, hn, hh, hz, q⟩ := q
  refine ⟨_, (pss_one (ps_ret (pe_and (pe_cmpR op_le (callD T.lSize GlSize hr (pa_cons (pv 0) pa_nil)) pe_int (nomark _)) (pe_one (pe_cmpR op_le (callD T.lHeight GlHeight hr (pa_cons (pv 0) pa_nil)) pe_int (nomark _)))))), ?_⟩
  refine ⟨_, rfl, b, n, rfl, hn, hh, hz, fun H1 s1 => ⟨_, _, rfl, rfl, _, rfl, tst (fun e0 => ?_) (fun e0 => ?_)⟩⟩
  · refine ⟨_, rfl, b, n, rfl, hn.same s1, hh, hz, fun H2 s2 => ⟨_, _, rfl, rfl, ?_⟩⟩
    have := q H2 (s1.trans s2)
    rw [fit_eq (i := 300) e0] at this
    exact this
  · have := q H1 s1
    rw [fit_no (i := 300) e0] at this
    exact this
theorem ok_allowed (T : Top K mg a) (h : Nat) : FnOk P w K mg base CX0 (h + 1) a.sIsAllowed a.sIsAllowedD ["number"] (spFit h) := by
  have GsSizeOf := ok_size (P := P) (w := w) (base := base) T h
  have GsHeightOf := ok_height (P := P) (w := w) (base := base) T h
  refine T.sIsAllowed.F.ok sIsAllowed_sc (fun vs H Q E q => by obtain ⟨_, _, rfl, _⟩ := q; rfl) (fun cdv A outer s H vs Q E hr q => ?_)
  obtain ⟨b, n, rfl, hn, hh, hz, q⟩ := q
  refine ⟨_, (pss_one (ps_ret (pe_and (pe_cmpR op_le (callD T.sSizeOf GsSizeOf hr (pa_cons (pv 0) pa_nil)) (pe_glob (v := V.int _) rfl T.mSize.choose_spec ⟨_, rfl⟩) (nomark _)) (pe_one (pe_cmpR op_le (callD T.sHeightOf GsHeightOf hr (pa_cons (pv 0) pa_nil)) (pe_glob (v := V.int _) rfl T.mHeight.choose_spec ⟨_, rfl⟩) (nomark _)))))), ?_⟩
  refine ⟨_, rfl, b, n, rfl, hn, hh, hz, fun H1 s1 => ⟨_, _, rfl, rfl, _, rfl, tst (fun e0 => ?_) (fun e0 => ?_)⟩⟩
  · refine ⟨_, rfl, b, n, rfl, hn.same s1, hh, hz, fun H2 s2 => ⟨_, _, rfl, rfl, ?_⟩⟩
    have := q H2 (s1.trans s2)
    rw [fit_eq (i := 300) e0] at this
    exact this
  · have := q H1 s1
    rw [fit_no (i := 300) e0] at this
    exact this
theorem ok_compare (T : Top K mg a) : ∀ h : Nat, FnOk P w K mg base CX0 h a.sCompare a.sCompareD ["first", "second"] (spCmp h)
  | 0 => fn_none fun vs H Q E h => by obtain ⟨_, _, _, _, _, _, _, h, _⟩ := h; exact absurd h (Nat.not_lt_zero _)
  | h + 1 => by
    have GsCompare := ok_compare T h
    refine T.sCompare.F.ok sCompare_sc (fun vs H Q E q => by obtain ⟨_, _, _, _, rfl, _⟩ := q; rfl) (fun cdv A outer s H vs Q E hr q => ?_)
    obtain ⟨b, c, n, m, rfl, hn, hm, hh, h90, q⟩ := q
    have hu0 := SR.Room.u200 hr
    refine ⟨_, (pss_cons (ps_if (pt_cmpR (op_eqN hu0) (pv 0) (pv 1) (nomark _))
        (pss_one (ps_ret pe_int))
        pss_nil)
      (pss_cons (ps_for PassesOwn.never rfl (RZ.pi_zipA rfl T.bZip (pa_cons (pv 0) (pa_cons (pv 1) pa_nil))) (pg_tup rfl (pgs_cons (pg_tup rfl (pgs_cons (pg_name (i := 2) sCompare_sc.nd rfl (Or.inl rfl)) (pgs_cons (pg_name (i := 3) sCompare_sc.nd rfl (Or.inl rfl)) pgs_nil))) (pgs_cons (pg_tup rfl (pgs_cons (pg_name (i := 4) sCompare_sc.nd rfl (Or.inl rfl)) (pgs_cons (pg_name (i := 5) sCompare_sc.nd rfl (Or.inl rfl)) pgs_nil))) pgs_nil)))
        (pss_cons (ps_if (pt_cmpR op_ne (pv 2) (pv 4) (nomark _))
          (pss_one (ps_ret (pv 2)))
          pss_nil)
        (pss_cons (ps_set (i := 6) sCompare_sc.nd rfl (Or.inl rfl) (callD T.sCompare GsCompare hr (pa_cons (pv 3) (pa_cons (pv 5) pa_nil))))
        (pss_one (ps_if (pt_cmpR op_ne (pv 6) pe_int (nomark _))
          (pss_one (ps_ret (pe_op op_mul (pv 6) (pv 2))))
          pss_nil)))))
      (pss_cons (ps_if (pt_cmpR op_gt (pe_callB (call_lenK (K := K)) (by rfl) T.bLen PySem.boot_len (pa_cons (pv 0) pa_nil)) (pe_callB (call_lenK (K := K)) (by rfl) T.bLen PySem.boot_len (pa_cons (pv 1) pa_nil)) (nomark _))
        (pss_one (ps_ret (pe_ix (ix_tupK (K := K)) (pe_ix (ix_tupK (K := K)) (pv 0) (pe_callB (call_lenK (K := K)) (by rfl) T.bLen PySem.boot_len (pa_cons (pv 1) pa_nil)) (fun _ _ => rfl)) pe_int (fun _ _ => rfl))))
        pss_nil)
      (pss_one (ps_ret (pe_un un_neg (pe_ix (ix_tupK (K := K)) (pe_ix (ix_tupK (K := K)) (pv 1) (pe_callB (call_lenK (K := K)) (by rfl) T.bLen PySem.boot_len (pa_cons (pv 0) pa_nil)) (fun _ _ => rfl)) pe_int (fun _ _ => rfl)))))))), ?_⟩
    refine ⟨_, rfl, _, rfl, b, c, n, m, rfl, rfl, hn, hm, h90, _, rfl, ite2 (fun e => ?_) (fun e => ?_)⟩
    · have e0 := of_decide_eq_true e
      have := q H (Same.refl H)
      rw [e0, cmp_self] at this
      exact this
    · have e0 : ¬ n = m := fun z => e (decide_eq_true z)
      obtain ⟨xs, hx, hxl⟩ := hn
      obtain ⟨ys, hy, hyl⟩ := hm
      refine ⟨_, rfl, _, rfl, b, c, xs, ys, rfl, .inr ⟨SqT.of hx, SqT.of hy, ?_⟩⟩
      refine for_zipM (xs := xs) (ys := ys) (fun i σ' H' => Same H H' ∧ cmp n m = cmpL ((terms n).drop i) ((terms m).drop i) ∧ ∃ u1 u2 u3 u4 u5, σ' = [some (.ref b), some (.ref c), u1, u2, u3, u4, u5]) ⟨Same.refl H, cmpL_eq n m, _, _, _, _, _, rfl⟩ (fun i σ' H' p => ⟨SqT.of (p.1 _ _ hx), SqT.of (p.1 _ _ hy)⟩) ?_ ?_
      · rintro i x y TT σ' H' ex ey ⟨sm, ec, u1, u2, u3, u4, u5, rfl⟩ hT
        have hi : i < Num.len n := by rw [← hxl.len]; exact (List.getElem?_eq_some_iff.mp ex).1
        have hi2 : i < Num.len m := by rw [← hyl.len]; exact (List.getElem?_eq_some_iff.mp ey).1
        obtain ⟨t, ht⟩ := terms_get hi
        obtain ⟨t2, ht2⟩ := terms_get hi2
        have sT := same_new hT (.tup [x, y])
        have s2 := sm.trans sT
        obtain ⟨p, q1, f1, f2, f3⟩ := (hxl.mono (Tups.of_same s2)).get ht
        obtain ⟨p2, q2, g1, g2, g3⟩ := (hyl.mono (Tups.of_same s2)).get ht2
        rw [ex] at f1; cases f1
        rw [ey] at g1; cases g1
        rw [drop_at ht, drop_at ht2, cmpL] at ec
        refine ⟨TT, _, rfl, SqT.of upd_same, rfl, _, _, rfl, ⟨p, _, rfl, SqT.of f2, rfl, _, _, rfl, _, _, rfl, rfl, ?_⟩⟩
        refine ⟨_, _, rfl, ⟨p2, _, rfl, SqT.of g2, rfl, _, _, rfl, _, _, rfl, rfl, rfl, ?_⟩⟩
        refine ⟨_, rfl, _, rfl, rfl, _, rfl, tstNE (fun e => ?_) (fun e => ?_)⟩
        · have e0 : t.1 ≠ t2.1 := fun z => e (by rw [z])
          rw [if_neg e0] at ec
          have := q _ s2
          rw [ec] at this
          exact ⟨_, rfl, this⟩
        · have e0 : t.1 = t2.1 := sg_inj e
          rw [if_pos e0] at ec
          have hx1 := exps_height (exps_of_terms ht)
          refine ⟨_, rfl, _, rfl, q1, q2, t.2, t2.2, rfl, f3, g3, by omega, by omega, fun H2 s3 => ?_⟩
          have s4 := s2.trans s3
          refine ⟨_, rfl, rfl, _, rfl, tstNE (fun z0 => ?_) (fun z0 => ?_)⟩
          · rw [if_neg z0] at ec
            have := q _ s4
            rw [ec] at this
            exact ⟨_, rfl, _, rfl, _, _, rfl, rfl, cmul_sg _ _, this⟩
          · rw [if_pos z0] at ec
            exact ⟨s4, ec, _, _, _, _, _, rfl⟩
      · rintro i σ' H' i1 i2 i3 ⟨sm, ec, u1, u2, u3, u4, u5, rfl⟩
        have hx' := sm _ _ hx
        have hy' := sm _ _ hy
        have l1 := hxl.len
        have l2 := hyl.len
        refine ⟨_, rfl, b, xs, rfl, .inr (SqT.of hx'), _, rfl, c, ys, rfl, .inr (SqT.of hy'), _, _, rfl, rfl, _, rfl, tst (fun e1 => ?_) (fun e1 => ?_)⟩
        ·
          have ei : i = ys.length := by omega
          obtain ⟨t, ht⟩ := terms_get (n := n) (i := i) (by omega)
          have em : (terms m).drop i = [] := List.drop_eq_nil_of_le (by rw [Num.terms_len]; omega)
          rw [drop_at ht, em, cmpL] at ec
          obtain ⟨p, q1, f1, f2, f3⟩ := (hxl.mono (Tups.of_same sm)).get ht
          refine ⟨_, rfl, _, rfl, c, ys, rfl, .inr (SqT.of hy'), b, xs, _, _, rfl, rfl, SqT.of hx', atI_nat (j := ys.length) (by rw [← ei]; exact f1), p, _, 0, _, rfl, rfl, SqT.of f2, atI_nat (j := 0) rfl, ?_⟩
          have := q _ sm
          rw [ec] at this
          exact this
        · have ei : i = xs.length := by omega
          have en : (terms n).drop i = [] := List.drop_eq_nil_of_le (by rw [Num.terms_len]; omega)
          have hlt : i < Num.len m := by
            apply Classical.byContradiction
            intro z
            have em : (terms m).drop i = [] := List.drop_eq_nil_of_le (by rw [Num.terms_len]; omega)
            rw [en, em, cmpL] at ec
            exact e0 (cmp_zero ec)
          obtain ⟨t, ht⟩ := terms_get hlt
          rw [en, drop_at ht, cmpL] at ec
          obtain ⟨p, q1, f1, f2, f3⟩ := (hyl.mono (Tups.of_same sm)).get ht
          refine ⟨_, rfl, _, rfl, b, xs, rfl, .inr (SqT.of hx'), c, ys, _, _, rfl, rfl, SqT.of hy', atI_nat (j := xs.length) (by rw [← ei]; exact f1), p, _, 0, _, rfl, rfl, SqT.of f2, atI_nat (j := 0) rfl, _, rfl, ?_⟩
          have := q _ sm
          rw [ec] at this
          exact this
end
end SR
set_option Elab.async false
set_option linter.all false
set_option maxRecDepth 100000
set_option maxHeartbeats 4000000
/-! Walks: numbers in ascending order. -/
namespace SR
open PySem PySem.Spec PyProof.Rows L2
open SR.Num (size height exps terms)
set_option autoImplicit false
/-- numbers at references -/
structure Nums (H : Hp) (vs : List V) (ns : List Num) : Prop where
  len : vs.length = ns.length
  get : ∀ (i : Nat) (n : Num), ns[i]? = some n → ∃ p, vs[i]? = some (V.ref p) ∧ NumAt H p n
theorem Nums.mono {H H' : Hp} (t : Tups H H') {vs : List V} {ns : List Num} (h : Nums H vs ns) : Nums H' vs ns := ⟨h.len, fun i n e => let ⟨p, a, b⟩ := h.get i n e; ⟨p, a, b.mono t⟩⟩
theorem Nums.nil (H : Hp) : Nums H [] [] := ⟨rfl, fun i n e => by simp at e⟩
theorem Nums.back {H : Hp} {vs : List V} {ns : List Num} (h : Nums H vs ns) {i : Nat} {v : V} (e : vs[i]? = some v) : ∃ n p, ns[i]? = some n ∧ v = .ref p ∧ NumAt H p n := by
  have hi : i < ns.length := by rw [← h.len]; exact (List.getElem?_eq_some_iff.mp e).1
  obtain ⟨p, e1, e2⟩ := h.get i _ (List.getElem?_eq_getElem hi)
  rw [e] at e1
  cases e1
  exact ⟨_, p, List.getElem?_eq_getElem hi, rfl, e2⟩
theorem Nums.insAt {H : Hp} {vs : List V} {ns : List Num} (h : Nums H vs ns) {p : Addr} {n : Num} (hn : NumAt H p n) (j : Nat) : Nums H (vs.take j ++ [.ref p] ++ vs.drop j) (insAt ns j n) := by
  have l := h.len
  refine ⟨by simp [SR.insAt, l], fun i m e => ?_⟩
  rw [SR.insAt] at e
  rw [List.append_assoc]
  by_cases h1 : i < min j ns.length
  · rw [List.getElem?_append_left (by rw [List.length_take]; omega), List.getElem?_take_of_lt (by omega)] at e ⊢
    exact h.get i m e
  · rw [List.getElem?_append_right (by rw [List.length_take]; omega), List.length_take] at e ⊢
    rw [l]
    by_cases h2 : i - min j ns.length = 0
    · rw [h2] at e ⊢
      cases e
      exact ⟨p, rfl, hn⟩
    · obtain ⟨k, hk⟩ := Nat.exists_eq_succ_of_ne_zero h2
      rw [hk] at e ⊢
      rw [List.getElem?_cons_succ, List.getElem?_drop] at e
      rw [List.singleton_append, List.getElem?_cons_succ, List.getElem?_drop]
      exact h.get _ m e
theorem ordIn_snoc : ∀ (ks found : List Num) (x : Num), ordIn found (ks ++ [x]) = insAt (ordIn found ks) (bis (ordIn found ks) x (ordIn found ks).length 0 (ordIn found ks).length) x
  | [], _, _ => rfl
  | k :: r, found, x => by
    rw [List.cons_append, ordIn, ordIn, ordIn_snoc r]
theorem getD_of {α : Type} {l : List α} {i : Nat} {x d : α} (h : l[i]? = some x) : l.getD i d = x := by
  rw [List.getD_eq_getElem?_getD, h]; rfl
def spOrd (h : Nat) : Sp := fun vs H Q _ => ∃ l us ns, vs = [.ref l] ∧ H l = some (.lst us) ∧ Nums H us ns ∧ (∀ n ∈ ns, height n < h ∧ height n ≤ 90) ∧ ns.length ≤ 1000 ∧ ∀ H' D ws, Same H H' → H D = none → H' D = some (.lst ws) → Nums H' ws (ordIn [] ns) → Q (.ref D) H'
theorem small_line {n : Nat} (h : n ≤ 10000) : n < sizeLine := by rw [sizeLine_eq]; omega
section
variable {P : Program} {w : World} {K : PySem.W.Frag} {mg : Str → Option Value} {base : Heap} {a : Ads}
theorem ok_order (T : Top K mg a) (h : Nat) : FnOk P w K mg base CX0 (h + 1) a.sInOrder a.sInOrderD ["numbers"] (spOrd h) := by
  have GsCompare := ok_compare (P := P) (w := w) (base := base) T h
  refine T.sInOrder.F.ok sInOrder_sc (fun vs H Q E q => by obtain ⟨_, _, _, rfl, _⟩ := q; rfl) (fun cdv A outer s H vs Q E hr q => ?_)
  obtain ⟨b, us, ns, rfl, hb, hn, hh, hlen, q⟩ := q
  refine ⟨_, (pss_cons (ps_set (i := 1) sInOrder_sc.nd rfl (Or.inl rfl) (pe_lst pa_nil))
      (pss_cons (ps_for PassesOwn.never rfl (pi_list (pv 0)) (pg_name (i := 2) sInOrder_sc.nd rfl (Or.inl rfl))
        (pss_cons (ps_set (i := 3) sInOrder_sc.nd rfl (Or.inl rfl) pe_int)
        (pss_cons (ps_set (i := 4) sInOrder_sc.nd rfl (Or.inl rfl) (pe_callB (call_lenK (K := K)) (by rfl) T.bLen PySem.boot_len (pa_cons (pv 1) pa_nil)))
        (pss_cons (ps_while PassesOwn.never (pt_cmpR op_lt (pv 3) (pv 4) (nomark _))
          (pss_cons (ps_set (i := 5) sInOrder_sc.nd rfl (Or.inl rfl) (pe_op op_fdiv (pe_op op_add (pv 3) (pv 4)) pe_int))
          (pss_one (ps_if (pt_cmpR op_lt (callD T.sCompare GsCompare hr (pa_cons (pe_ix (ix_listK (K := K)) (pv 1) (pv 5) (fun _ _ => rfl)) (pa_cons (pv 2) pa_nil))) pe_int (nomark _))
            (pss_one (ps_set (i := 3) sInOrder_sc.nd rfl (Or.inl rfl) (pe_op op_add (pv 5) pe_int)))
            (pss_one (ps_set (i := 4) sInOrder_sc.nd rfl (Or.inl rfl) (pv 5)))))))
        (pss_one (ps_expr (pe_bm PySem.F.plainAttrs_list PySem.F.slot_list_insert PySem.F.type_list_insert mt_insert (pv 1) (pa_cons (pv 3) (pa_cons (pv 2) pa_nil)))))))))
      (pss_one (ps_ret (pv 1))))), ?_⟩
  refine ⟨Nat.zero_le _, fun L hL => ?_⟩
  have s0 := same_new hL (.lst [])
  refine ⟨_, rfl, b, rfl, ⟨us, SqL.of (s0 _ _ hb)⟩, ?_⟩
  refine for_list (xs := us) (fun i σ' H' => Same H H' ∧ (∃ ws, H' L = some (.lst ws) ∧ Nums H' ws (ordIn [] (ns.take i))) ∧ ∃ u1 u2 u3 u4, σ' = [some (.ref b), some (.ref L), u1, u2, u3, u4]) ⟨s0, ⟨[], upd_same, Nums.nil _⟩, _, _, _, _, rfl⟩ (fun i σ' H' _ p => SqL.of (p.1 _ _ hb)) ?_ ?_
  · rintro i x σ' H' ex ⟨sm, ⟨ws, eL, hw⟩, u1, u2, u3, u4, rfl⟩
    obtain ⟨n, p, en, rfl, hp⟩ := (hn.mono (Tups.of_same sm)).back ex
    have hnm := hh n (List.mem_of_getElem? en)
    refine ⟨_, rfl, L, ws, rfl, .inl (SqL.of eL), ?_⟩
    have hle : ∀ m ∈ ordIn [] (ns.take i), height m < h ∧ height m ≤ 90 := fun m hm => by
      rcases mem_ordIn _ _ _ hm with e | e
      · simp at e
      · exact hh m (List.mem_of_mem_take e)
    have hfl := len_ordIn (ns.take i) []
    rw [List.length_take, List.length_nil] at hfl
    have hsn : ordIn [] (ns.take (i + 1)) = insAt (ordIn [] (ns.take i)) (bis (ordIn [] (ns.take i)) n (ordIn [] (ns.take i)).length 0 (ordIn [] (ns.take i)).length) n := by
      rw [take_snoc en, ordIn_snoc]
    generalize hf : ordIn [] (ns.take i) = f at hw hle hfl hsn
    have hwl := hw.len
    refine ⟨fun m σ2 H2 => ∃ (lo hi : Nat) (u : Option V), Same H' H2 ∧ σ2 = [some (.ref b), some (.ref L), some (.ref p), some (.int lo), some (.int hi), u] ∧ lo ≤ hi ∧ hi ≤ f.length ∧ hi - lo ≤ m ∧ bis f n m lo hi = bis f n f.length 0 f.length,
      ⟨f.length, 0, f.length, _, Same.refl H', by rw [← hwl]; rfl, Nat.zero_le _, Nat.le_refl _, by omega, rfl⟩, ?_⟩
    rintro m σ2 H2 ⟨lo, hi, u, s2, rfl, h1, h2, h3, h4⟩
    have eL2 := s2 _ _ eL
    have hw2 := hw.mono (Tups.of_same s2)
    refine ⟨_, rfl, _, rfl, _, _, rfl, rfl, _, rfl, tst (fun e => ?_) (fun e => ?_)⟩
    · obtain ⟨m, rfl⟩ := Nat.exists_eq_succ_of_ne_zero (show m ≠ 0 by omega)
      rw [bis, if_pos (by omega)] at h4
      have hmid : (lo + hi) / 2 < f.length := by omega
      obtain ⟨pm, e1, e2⟩ := hw2.get _ _ (List.getElem?_eq_getElem hmid)
      rw [getD_of (List.getElem?_eq_getElem hmid)] at h4
      have hm1 := hle _ (List.getElem_mem hmid)
      have ecast : ((lo : Int) + (hi : Int)) / 2 = (((lo + hi) / 2 : Nat) : Int) := by omega
      refine ⟨fun σ3 H3 => ∃ (lo hi : Nat) (u : Option V), Same H' H3 ∧ σ3 = [some (.ref b), some (.ref L), some (.ref p), some (.int lo), some (.int hi), u] ∧ lo ≤ hi ∧ hi ≤ f.length ∧ hi - lo ≤ m ∧ bis f n m lo hi = bis f n f.length 0 f.length, fun σ3 H3 z => ⟨m, Nat.lt_succ_self m, z⟩, ?_⟩
      refine ⟨_, rfl, _, rfl, _, _, rfl, rfl, _, _, rfl, rfl, ⟨by decide, by decide⟩, ?_⟩
      dsimp only
      rw [ecast]
      refine ⟨_, rfl, _, rfl, L, ws, _, _, rfl, rfl, SqL.of eL2, atI_nat e1, _, rfl, pm, p, _, n, rfl, e2, hp.same s2, hm1.1, hm1.2, fun H3 s3 => ?_⟩
      refine ⟨_, _, rfl, rfl, _, rfl, tst (fun e => ?_) (fun e => ?_)⟩
      · rw [if_pos e] at h4
        refine ⟨_, rfl, _, _, rfl, rfl, ?_⟩
        exact ⟨(lo + hi) / 2 + 1, hi, _, s2.trans s3, rfl, by omega, h2, by omega, h4⟩
      · rw [if_neg e] at h4
        exact ⟨_, rfl, lo, (lo + hi) / 2, _, s2.trans s3, rfl, by omega, by omega, by omega, h4⟩
    · have e4 : lo = bis f n f.length 0 f.length := by
        rw [← h4]
        cases m with
        | zero => rfl
        | succ m => rw [bis, if_neg (by omega)]
      refine ⟨.ref L, rfl, .inl ⟨rfl, _, .inl (.inl eL2)⟩, _, rfl, _, rfl, L, ws, _, _, rfl, rfl, eL2, small_line (by omega), by omega, by omega, ?_⟩
      refine ⟨same_set (sm.trans s2) hL, ⟨_, upd_same, ?_⟩, _, _, _, _, rfl⟩
      rw [hsn, ← e4]
      exact ((hw2.insAt (hp.same s2) lo).mono (Tups.upd (fun xs e => by rw [eL2] at e; cases e)))
  · rintro σ' H' ⟨sm, ⟨ws, eL, hw⟩, u1, u2, u3, u4, rfl⟩
    rw [List.take_of_length_le (by rw [← hn.len]; exact Nat.le_refl _)] at hw
    exact ⟨_, rfl, q H' L ws sm hL eL hw⟩
end
end SR
set_option Elab.async false
set_option linter.all false
set_option maxRecDepth 100000
set_option maxHeartbeats 4000000
/-! Walks: the next number. -/
namespace SR
open PySem PySem.Spec PyProof.Rows L2
open SR.Num (size height exps terms)
set_option autoImplicit false
theorem seq_cut {A B : L2.TS} {D : Ends} {σ : L2.St} {H : Hp} (M : L2.St → Hp → Prop) (hk : ∀ σ' H', M σ' H' → B D σ' H') (h : ∀ X : L2.St → Hp → Prop, (∀ σ' H', M σ' H' → X σ' H') → A { D with nx := X } σ H) : tSeq A B D σ H := h _ hk
theorem Nums.last {H : Hp} {us : List V} {w : Num} {r : List Num} (h : Nums H us (w :: r).reverse) : ∃ us0 p, us = us0 ++ [.ref p] ∧ NumAt H p w ∧ Nums H us0 r.reverse := by
  have l := h.len
  rw [List.length_reverse, List.length_cons] at l
  rw [List.reverse_cons] at h
  obtain ⟨p, e1, e2⟩ := h.get r.length w (by rw [List.getElem?_append_right (by simp)]; simp)
  refine ⟨us.take r.length, p, ?_, e2, by simp; omega, fun i n e => ?_⟩
  · have := take_snoc e1
    rw [← this, List.take_of_length_le (by omega)]
  · have hi : i < r.reverse.length := (List.getElem?_eq_some_iff.mp e).1
    rw [List.length_reverse] at hi
    obtain ⟨p', f1, f2⟩ := h.get i n (by rw [List.getElem?_append_left (by simpa using hi)]; exact e)
    exact ⟨p', by rw [List.getElem?_take_of_lt hi]; exact f1, f2⟩
theorem Nums.empty {H : Hp} {us : List V} (h : Nums H us ([] : List Num).reverse) : us = [] := List.length_eq_zero_iff.mp h.len
/-- pairs of a sign and a number -/
structure Pairs (H : Hp) (vs : List V) (ts : List (Bool × Num)) : Prop where
  len : vs.length = ts.length
  get : ∀ (i : Nat) (t : Bool × Num), ts[i]? = some t → ∃ p q, vs[i]? = some (V.ref p) ∧ H p = some (.tup [.int (sg t.1), .ref q]) ∧ NumAt H q t.2
theorem Pairs.mono {H H' : Hp} (t : Tups H H') {vs : List V} {ts : List (Bool × Num)} (h : Pairs H vs ts) : Pairs H' vs ts := ⟨h.len, fun i n e => let ⟨p, q, a, b, c⟩ := h.get i n e; ⟨p, q, a, t _ _ b, c.mono t⟩⟩
theorem Pairs.nil (H : Hp) : Pairs H [] [] := ⟨rfl, fun i n e => by simp at e⟩
theorem Pairs.of {H : Hp} {n : Num} {vs : List V} (h : NumL H n vs) : Pairs H vs (terms n) := ⟨by rw [h.len, Num.terms_len], fun i t e => h.get e⟩
theorem Pairs.num {H : Hp} {ts : List (Bool × Num)} {vs : List V} (h : Pairs H vs ts) : NumL H (Num.ofTerms ts) vs := NumL.of h.len h.get
theorem Pairs.push {H : Hp} {vs : List V} {ts : List (Bool × Num)} (h : Pairs H vs ts) {p q : Addr} {t : Bool × Num} (e1 : H p = some (.tup [.int (sg t.1), .ref q])) (e2 : NumAt H q t.2) : Pairs H (vs ++ [.ref p]) (ts ++ [t]) := by
  have l := h.len
  refine ⟨by simp [l], fun i u e => ?_⟩
  by_cases hi : i < ts.length
  · rw [List.getElem?_append_left hi] at e
    rw [List.getElem?_append_left (by omega)]
    exact h.get i u e
  · rw [List.getElem?_append_right (by omega)] at e
    rw [List.getElem?_append_right (by omega), l]
    by_cases h0 : i - ts.length = 0
    · rw [h0] at e ⊢
      cases e
      exact ⟨p, q, rfl, e1, e2⟩
    · obtain ⟨k, hk⟩ := Nat.exists_eq_succ_of_ne_zero h0
      rw [hk] at e
      simp at e
theorem Pairs.back {H : Hp} {vs : List V} {ts : List (Bool × Num)} (h : Pairs H vs ts) {i : Nat} {v : V} (e : vs[i]? = some v) : ∃ t p q, ts[i]? = some t ∧ v = .ref p ∧ H p = some (.tup [.int (sg t.1), .ref q]) ∧ NumAt H q t.2 := by
  have hi : i < ts.length := by rw [← h.len]; exact (List.getElem?_eq_some_iff.mp e).1
  obtain ⟨p, q, e1, e2, e3⟩ := h.get i _ (List.getElem?_eq_getElem hi)
  rw [e] at e1
  cases e1
  exact ⟨_, p, q, List.getElem?_eq_getElem hi, rfl, e2, e3⟩
theorem apart_of {ks : List Num} (ok : okKeys ks = true) {xs : List NEnt} (h : ∀ x ∈ xs, x.1 ∈ ks) {k : Num} (hk : k ∈ ks) : KApart k xs ∧ height k ≤ 40 := by
  unfold okKeys at ok
  rw [Bool.and_eq_true] at ok
  have q := List.all_eq_true.mp ok.2 k hk
  rw [Bool.and_eq_true] at q
  refine ⟨fun x hx e => ?_, of_decide_eq_true q.1⟩
  have q2 := List.all_eq_true.mp q.2 x.1 (h x hx)
  rw [e] at q2
  simp only [beq_self_eq_true, Bool.not_true, Bool.false_or] at q2
  exact Num.eq_of_beq q2
theorem ok_len {ks : List Num} (ok : okKeys ks = true) : ks.length ≤ 1000 := by
  unfold okKeys at ok
  rw [Bool.and_eq_true] at ok
  exact of_decide_eq_true ok.1
structure GSt (H0 : Hp) (d wt : Addr) (xs : List NEnt) (ks : List Num) (s : LSt) (H : Hp) (ex : Addr) : Prop where
  same : Same H0 H
  dict : H d = some (DD d xs)
  keys : KeysAt H xs
  exn : NumAt H ex s.x
  wait : ∃ us, H wt = some (.lst us) ∧ Nums H us s.wl.reverse
  ok : okKeys ks = true
  sub : ∀ x ∈ xs, x.1 ∈ ks
  wsub : ∀ w ∈ s.wl, w ∈ xs.map (·.1)
  wl : s.wl.length ≤ 1000
theorem GSt.mono {H0 H H' : Hp} {d wt : Addr} {xs : List NEnt} {ks : List Num} {s : LSt} {ex : Addr} (g : GSt H0 d wt xs ks s H ex) (sm : Same H H') : GSt H0 d wt xs ks s H' ex :=
  ⟨g.same.trans sm, sm _ _ g.dict, g.keys.mono (Tups.of_same sm), g.exn.same sm, let ⟨us, a, b⟩ := g.wait; ⟨us, sm _ _ a, b.mono (Tups.of_same sm)⟩, g.ok, g.sub, g.wsub, g.wl⟩
theorem GSt.look {H0 H : Hp} {d wt : Addr} {xs : List NEnt} {ks : List Num} {s : LSt} {ex : Addr} (g : GSt H0 d wt xs ks s H ex) {k : Num} {p : Addr} (hk : k ∈ xs.map (·.1)) (hp : NumAt H p k) : Look H d p xs k := by
  obtain ⟨x, hx, rfl⟩ := List.mem_map.mp hk
  obtain ⟨a, b⟩ := apart_of g.ok g.sub (g.sub x hx)
  exact ⟨g.dict, g.keys, hp, by omega, a⟩
theorem GSt.low {H0 H : Hp} {d wt : Addr} {xs : List NEnt} {ks : List Num} {s : LSt} {ex : Addr} (g : GSt H0 d wt xs ks s H ex) {k : Num} (hk : k ∈ xs.map (·.1)) : height k ≤ 40 := by
  obtain ⟨x, hx, rfl⟩ := List.mem_map.mp hk
  exact (apart_of g.ok g.sub (g.sub x hx)).2
def spNext (f : Nat) : Sp := fun vs H Q _ => ∃ b n m, vs = [.ref b] ∧ NumAt H b n ∧ nextF f n = some m ∧ ∀ H' p, Same H H' → NumAt H' p m → Q (.ref p) H'
def spSignAt (f : Nat) : Sp := fun vs H Q _ => ∃ H0 d wt xs ks s ex b, vs = [.int s.c, .ref ex, .ref d, .ref wt] ∧ GSt H0 d wt xs ks s H ex ∧ signOf (nextF f) (cs xs) s = some b ∧ ∀ H', Same H H' → Q (.int (sg b)) H'
section
variable {P : Program} {w : World} {K : PySem.W.Frag} {mg : Str → Option Value} {base : Heap} {a : Ads}
theorem lt4 : (0 : Int) < 4 := by decide
theorem lt2 : (0 : Int) < 2 := by decide
theorem sgn_ret {H : Hp} {Q : VK} {c : Int} {b : Bool} (hb : some (decide (c % 4 ≠ 1)) = some b) (q : Q (.int (sg b)) H) : (c % 4 = 1 → Q (.int 1) H) ∧ (c % 4 ≠ 1 → Q (.int (-1)) H) := by
  cases hb
  refine ⟨fun e => ?_, fun e => ?_⟩
  · rw [decide_eq_false (fun z => z e)] at q; exact q
  · rw [decide_eq_true e] at q; exact q
theorem ok_signAt (T : Top K mg a) {f k : Nat} (GsNextOf : FnOk P w K mg base CX0 (k + 1) a.sNextOf a.sNextOfD ["number"] (spNext f)) : FnOk P w K mg base CX0 (k + 2) a.sSignAt a.sSignAtD ["count", "exponent", "counts", "waiting"] (spSignAt f) := by
  refine T.sSignAt.F.ok sSignAt_sc (fun vs H Q E q => by obtain ⟨_, _, _, _, _, _, _, _, rfl, _⟩ := q; rfl) (fun cdv A outer s H vs Q E hr q => ?_)
  obtain ⟨H0, d, wt, xs, ks, s, ex, b, rfl, g, hb, q⟩ := q
  have hu0 := SR.Room.u200 hr
  have hu := SR.Room.u201 hr
  refine ⟨_, (pss_cons (ps_if (PW.pt (pw_and (pt_cmpR op_gt (pe_callB (call_lenK (K := K)) (by rfl) T.bLen PySem.boot_len (pa_cons (pv 3) pa_nil)) pe_int (nomark _)) (pw_and1 (pt_cmpR (op_eqN hu0) (pe_ix (ix_listK (K := K)) (pv 3) (pe_un un_neg pe_int) (fun _ _ => rfl)) (callD T.sNextOf GsNextOf hr (pa_cons (pv 1) pa_nil)) (nomark _)))))
        (pss_one (ps_aug (i := 0) sSignAt_sc.nd rfl (.inl rfl) (pe_op op_mul pe_int (pe_ix (ix_dN hu) (pv 2) (pe_ix (ix_listK (K := K)) (pv 3) (pe_un un_neg pe_int) (fun _ _ => rfl)) (fun _ _ => rfl))) ip_add))
        pss_nil)
      (pss_cons (ps_if (pt_cmpR op_eq (pe_op op_mod (pv 0) pe_int) pe_int (nomark _))
        (pss_one (ps_ret pe_int))
        pss_nil)
      (pss_one (ps_ret (pe_un un_neg pe_int))))), ?_⟩
  obtain ⟨us, ew, hw⟩ := g.wait
  refine seq_cut (fun σ' H' => Same H H' ∧ ∃ c v1 v2 v3, σ' = [some (.int c), v1, v2, v3] ∧ some (decide (c % 4 ≠ 1)) = some b) ?_ fun X hX => ?_
  · rintro σ' H' ⟨sm, c, v1, v2, v3, rfl, hc⟩
    obtain ⟨q1, q2⟩ := sgn_ret hc (q H' sm)
    exact ⟨_, rfl, _, _, rfl, rfl, lt4, rfl, _, rfl, tstE (fun e => q1 e) fun e => ⟨_, rfl, q2 e⟩⟩
  · refine ⟨_, rfl, wt, us, rfl, .inl (SqL.of ew), _, _, rfl, rfl, _, rfl, tst (fun e => ?_) (fun e => ?_)⟩
    · cases hs : s.wl with
      | nil =>
        rw [hs] at hw
        rw [hw.empty] at e
        exact absurd e (by decide)
      | cons w0 r =>
        rw [hs] at hw
        obtain ⟨us0, p, rfl, hp, hw0⟩ := hw.last
        have hwm : w0 ∈ xs.map (·.1) := g.wsub w0 (by rw [hs]; exact List.mem_cons_self)
        unfold signOf at hb
        rw [hs] at hb
        simp only at hb
        cases hy : nextF f s.x with
        | none => rw [hy] at hb; exact nomatch hb
        | some y =>
          rw [hy] at hb
          simp only at hb
          refine ⟨_, rfl, _, rfl, wt, us0 ++ [.ref p], _, _, rfl, rfl, SqL.of ew, atI_last _ _, _, rfl, ex, s.x, y, rfl, g.exn, hy, fun H1 p1 s1 h1 => ?_⟩
          have g1 := g.mono s1
          have := g.low hwm
          refine ⟨p, p1, w0, y, rfl, rfl, hp.same s1, h1, by omega, _, rfl, ?_⟩
          refine tst (fun e => ?_) (fun e => ?_)
          · rw [Num.beq_dec, decide_eq_true e, if_pos rfl] at hb
            refine ⟨_, rfl, _, rfl, _, rfl, _, rfl, wt, us0 ++ [.ref p], _, _, rfl, rfl, SqL.of (s1 _ _ ew), atI_last _ _, d, p, xs, w0, rfl, rfl, g1.look hwm (hp.same s1), hwm, _, _, rfl, rfl, .inl (by decide), _, _, rfl, rfl, ?_⟩
            exact hX _ _ ⟨s1, _, _, _, _, rfl, hb⟩
          · rw [Num.beq_dec, decide_eq_false e, if_neg Bool.false_ne_true] at hb
            exact hX _ _ ⟨s1, _, _, _, _, rfl, hb⟩
    · cases hs : s.wl with
      | nil =>
        unfold signOf at hb
        rw [hs] at hb
        exact hX _ _ ⟨Same.refl H, _, _, _, _, rfl, hb⟩
      | cons w0 r =>
        rw [hs] at hw
        have := hw.len
        rw [List.length_reverse, List.length_cons] at this
        exact absurd (by omega) e
end
end SR
set_option Elab.async false
set_option linter.all false
set_option maxRecDepth 100000
set_option maxHeartbeats 4000000
/-! Walks: the sum of counts; the next number. -/
namespace SR
open PySem PySem.Spec PyProof.Rows L2
open SR.Num (size height exps terms ofTerms)
set_option autoImplicit false
theorem wh_cut {B R : Prop} (A : Prop) (h : (A → B) → R) (b : A → B) : R := h b
theorem none_back {H H' : Hp} {p : Addr} (s : Same H H') (h : H' p = none) : H p = none := by
  cases e : H p with
  | none => rfl
  | some o => rw [s _ _ e] at h; cases h
theorem rev_get {α : Type} {l : List α} {i : Nat} {x : α} (h : l.reverse[i]? = some x) : i < l.length ∧ l[l.length - 1 - i]? = some x := by
  have hi : i < l.reverse.length := (List.getElem?_eq_some_iff.mp h).1
  rw [List.length_reverse] at hi
  rw [List.getElem?_reverse hi] at h
  exact ⟨hi, h⟩
theorem Nums.rev {H : Hp} {us : List V} {ns : List Num} (h : Nums H us ns) : Nums H us.reverse ns.reverse := by
  refine ⟨by simp [h.len], fun i n e => ?_⟩
  obtain ⟨hi, e⟩ := rev_get e
  obtain ⟨p, e1, e2⟩ := h.get _ n e
  exact ⟨p, by rw [List.getElem?_reverse (by rw [h.len]; exact hi), h.len]; exact e1, e2⟩
theorem Pairs.rev {H : Hp} {us : List V} {ns : List (Bool × Num)} (h : Pairs H us ns) : Pairs H us.reverse ns.reverse := by
  refine ⟨by simp [h.len], fun i n e => ?_⟩
  obtain ⟨hi, e⟩ := rev_get e
  obtain ⟨p, q, e1, e2⟩ := h.get _ n e
  exact ⟨p, q, by rw [List.getElem?_reverse (by rw [h.len]; exact hi), h.len]; exact e1, e2⟩
theorem le2 : 2 ≤ sizeLine := by rw [sizeLine_eq]; decide
theorem next_split {f : Nat} {n m : Num} (h : nextF (f + 1) n = some m) : okKeys (.nil :: exps n) = true ∧ ∃ ts, loopS (nextF f) (cputAll [] (terms n ++ [(false, .nil)])) (5 * Num.len n + 10) ⟨ordIn [] ((cputAll [] (terms n ++ [(false, .nil)])).map (·.1)), 0, .nil, []⟩ = some ts ∧ m = ofTerms ts := by
  rw [nextF] at h
  split at h
  · rename_i ok
    refine ⟨ok, ?_⟩
    split at h
    · exact nomatch h
    · rename_i ts hts
      exact ⟨ts, hts, (Option.some.inj h).symm⟩
  · exact nomatch h
def spGath (f : Nat) : Sp := fun vs H Q _ => ∃ l us n m, vs = [.ref l] ∧ H l = some (.lst us) ∧ Pairs H us (terms n ++ [(false, .nil)]) ∧ nextF (f + 1) n = some m ∧ ∀ H' p, Same H H' → NumAt H' p m → Q (.ref p) H'
def Rp (l d wt tm : Addr) (H0 : Hp) (xs : List NEnt) (ks : List Num) (s : LSt) (σ' : L2.St) (H' : Hp) : Prop :=
  ∃ u6 ex, σ' = [some (.ref l), some (.ref d), some (.int s.c), some (.ref ex), some (.ref wt), some (.ref tm), u6] ∧ GSt H0 d wt xs ks s H' ex ∧ ∃ tv, H' tm = some (.lst tv) ∧ Pairs H' tv s.ts.reverse
theorem GSt.c {H0 H : Hp} {d wt : Addr} {xs : List NEnt} {ks : List Num} {s s' : LSt} {ex : Addr} (g : GSt H0 d wt xs ks s H ex) (h1 : s'.x = s.x) (h2 : s'.wl = s.wl) : GSt H0 d wt xs ks s' H ex :=
  ⟨g.same, g.dict, g.keys, by rw [h1]; exact g.exn, by rw [h2]; exact g.wait, g.ok, g.sub, by rw [h2]; exact g.wsub, by rw [h2]; exact g.wl⟩
theorem GSt.at {H0 H : Hp} {d wt : Addr} {xs : List NEnt} {ks : List Num} {s s' : LSt} {ex ex' : Addr} (g : GSt H0 d wt xs ks s H ex) (h1 : NumAt H ex' s'.x) (h2 : s'.wl = s.wl) : GSt H0 d wt xs ks s' H ex' :=
  ⟨g.same, g.dict, g.keys, h1, by rw [h2]; exact g.wait, g.ok, g.sub, by rw [h2]; exact g.wsub, by rw [h2]; exact g.wl⟩
theorem GSt.pop {H0 H : Hp} {d wt : Addr} {xs : List NEnt} {ks : List Num} {s s' : LSt} {ex p : Addr} {w0 : Num} {us0 us : List V} (g : GSt H0 d wt xs ks s H ex) (n0 : H0 wt = none) (e : s.wl = w0 :: s'.wl) (hx : s'.x = w0) (ew : H wt = some (.lst us)) (hp : NumAt H p w0) (h0 : Nums H us0 s'.wl.reverse) : GSt H0 d wt xs ks s' (upd H wt (.lst us0)) p := by
  have t : Tups H (upd H wt (.lst us0)) := Tups.upd fun xs e => by rw [ew] at e; cases e
  have hd : d ≠ wt := fun e => by
    have := g.dict
    rw [e, ew] at this
    cases this
  refine ⟨same_set g.same n0, by rw [upd_ne hd]; exact g.dict, g.keys.mono t, by rw [hx]; exact hp.mono t, ⟨us0, upd_same, h0.mono t⟩, g.ok, g.sub, fun w hw => g.wsub w (by rw [e]; exact List.mem_cons_of_mem _ hw), ?_⟩
  have := g.wl
  rw [e, List.length_cons] at this
  omega
theorem GSt.tm {H0 H : Hp} {d wt tm : Addr} {xs : List NEnt} {ks : List Num} {s : LSt} {ex : Addr} {tv tv' : List V} (g : GSt H0 d wt xs ks s H ex) (n0 : H0 tm = none) (hw : wt ≠ tm) (et : H tm = some (.lst tv)) : GSt H0 d wt xs ks s (upd H tm (.lst tv')) ex := by
  have t : Tups H (upd H tm (.lst tv')) := Tups.upd fun xs e => by rw [et] at e; cases e
  have hd : d ≠ tm := fun e => by
    have := g.dict
    rw [e, et] at this
    cases this
  obtain ⟨us, e1, e2⟩ := g.wait
  exact ⟨same_set g.same n0, by rw [upd_ne hd]; exact g.dict, g.keys.mono t, g.exn.mono t, ⟨us, by rw [upd_ne hw]; exact e1, e2.mono t⟩, g.ok, g.sub, g.wsub, g.wl⟩
theorem nums_keys {H : Hp} {xs : List NEnt} (h : KeysAt H xs) : Nums H (xs.map fun x => V.ref x.2.1) (xs.map (·.1)) := by
  refine ⟨by simp, fun i n e => ?_⟩
  rw [List.getElem?_map] at e
  cases hx : xs[i]? with
  | none => rw [hx] at e; cases e
  | some x =>
    rw [hx] at e
    cases e
    exact ⟨x.2.1, by rw [List.getElem?_map, hx]; rfl, h x (List.mem_of_getElem? hx)⟩
theorem tups_lst {H : Hp} {a : Addr} {xs : List V} {o : HO} (e : H a = some (.lst xs)) : Tups H (upd H a o) := Tups.upd fun ys z => by rw [e] at z; cases z
theorem keys_put_at {H : Hp} {xs : List NEnt} {k : Num} {q : Addr} {c : Int} (h : KeysAt H xs) (hq : NumAt H q k) : KeysAt H (putN k q c xs) := fun x hx => by
  rcases mem_putN hx with ⟨e1, e2⟩ | ⟨y, hy, e1, e2⟩
  · rw [e1, e2]; exact hq
  · rw [e1, e2]; exact h y hy
theorem sub_put {ks : List Num} {xs : List NEnt} {k : Num} {q : Addr} {c : Int} (h : ∀ x ∈ xs, x.1 ∈ ks) (hk : k ∈ ks) : ∀ x ∈ putN k q c xs, x.1 ∈ ks := fun x hx => by
  rcases mem_putN hx with ⟨e1, e2⟩ | ⟨y, hy, e1, e2⟩
  · rw [e1]; exact hk
  · rw [e1]; exact h y hy
section
variable {P : Program} {w : World} {K : PySem.W.Frag} {mg : Str → Option Value} {base : Heap} {a : Ads}
theorem ok_gath (T : Top K mg a) {f k : Nat} (GsInOrder : FnOk P w K mg base CX0 (k + 1) a.sInOrder a.sInOrderD ["numbers"] (spOrd 41)) (GsSignAt : FnOk P w K mg base CX0 (k + 1) a.sSignAt a.sSignAtD ["count", "exponent", "counts", "waiting"] (spSignAt f))
    (GsNextOf : FnOk P w K mg base CX0 (k + 1) a.sNextOf a.sNextOfD ["number"] (spNext f)) : FnOk P w K mg base CX0 (k + 2) a.sGathered a.sGatheredD ["pairs"] (spGath f) := by
  refine T.sGathered.F.ok sGathered_sc (fun vs H Q E q => by obtain ⟨_, _, _, _, rfl, _⟩ := q; rfl) (fun cdv A outer s H vs Q E hr q => ?_)
  obtain ⟨l, us, n, m, rfl, hl, hp, hm, q⟩ := q
  have hu0 := SR.Room.u200 hr
  have hu := SR.Room.u201 hr
  obtain ⟨ok, ts, hts, rfl⟩ := next_split hm
  have hks : ∀ t ∈ terms n ++ [(false, Num.nil)], t.2 ∈ (Num.nil :: exps n) := fun t ht => by
    rcases List.mem_append.mp ht with e | e
    · rw [Num.exps_eq]
      exact List.mem_cons_of_mem _ (List.mem_map.mpr ⟨t, e, rfl⟩)
    · rw [List.mem_singleton.mp e]; exact List.mem_cons_self
  have hlen := ok_len ok
  rw [List.length_cons, len_exps] at hlen
  have hpl := hp.len
  rw [List.length_append, Num.terms_len, List.length_singleton] at hpl
  generalize hks' : (Num.nil :: exps n) = ks at ok hks
  refine ⟨_, (pss_cons (ps_set (i := 1) sGathered_sc.nd rfl (Or.inl rfl) pe_dnewN)
      (pss_cons (ps_for PassesOwn.never rfl (pi_list (pv 0)) (pg_tup rfl (pgs_cons (pg_name (i := 2) sGathered_sc.nd rfl (Or.inl rfl)) (pgs_cons (pg_name (i := 3) sGathered_sc.nd rfl (Or.inl rfl)) pgs_nil)))
        (pss_one (ps_asg (pe_op op_add (pe_dgetN hu (pv 1) (pv 3) pe_int ⟨rfl, rfl, rfl, rfl⟩) (pv 2)) (pg_sub (pv 1) (pv 3) (set_dN hu)))))
      (pss_cons (ps_set (i := 4) sGathered_sc.nd rfl (Or.inl rfl) (pe_revL (callD T.sInOrder GsInOrder hr (pa_cons (pe_callTy (call_list_dN rfl) (by rfl) T.bList (by decide +kernel) (pa_cons (pv 1) pa_nil)) pa_nil))))
      (pss_cons (ps_set (i := 5) sGathered_sc.nd rfl (Or.inl rfl) (pe_lst pa_nil))
      (pss_cons (ps_set (i := 2) sGathered_sc.nd rfl (Or.inl rfl) pe_int)
      (pss_cons (ps_set (i := 3) sGathered_sc.nd rfl (Or.inl rfl) (pe_tup pa_nil))
      (pss_cons (ps_while PassesOwn.never (PW.pt (pw_or (pt_cmpR op_gt (pe_callB (call_lenK (K := K)) (by rfl) T.bLen PySem.boot_len (pa_cons (pv 4) pa_nil)) pe_int (nomark _)) (pw_or1 (pt_cmpR op_ne (pv 2) pe_int (nomark _)))))
        (pss_cons (ps_if (PW.pt (pw_and (pt_cmpR op_gt (pe_callB (call_lenK (K := K)) (by rfl) T.bLen PySem.boot_len (pa_cons (pv 4) pa_nil)) pe_int (nomark _)) (pw_and1 (PW.pt (pw_or (pt_cmpR op_eq (pv 2) pe_int (nomark _)) (pw_or1 (pt_cmpR (op_eqN hu0) (pe_ix (ix_listK (K := K)) (pv 4) (pe_un un_neg pe_int) (fun _ _ => rfl)) (pv 3) (nomark _))))))))
          (pss_cons (ps_set (i := 3) sGathered_sc.nd rfl (Or.inl rfl) (pe_bm0 PySem.F.plainAttrs_list PySem.F.slot_list_pop PySem.F.type_list_pop mt_pop (pv 4)))
          (pss_one (ps_aug (i := 2) sGathered_sc.nd rfl (.inl rfl) (pe_ix (ix_dN hu) (pv 1) (pv 3) (fun _ _ => rfl)) ip_add)))
          pss_nil)
        (pss_cons (ps_if (pt_cmpR op_eq (pe_op op_mod (pv 2) pe_int) pe_int (nomark _))
          (pss_cons (ps_set (i := 6) sGathered_sc.nd rfl (Or.inl rfl) (callD T.sSignAt GsSignAt hr (pa_cons (pv 2) (pa_cons (pv 3) (pa_cons (pv 1) (pa_cons (pv 4) pa_nil))))))
          (pss_cons (ps_expr (pe_bm PySem.F.plainAttrs_list PySem.F.slot_list_append PySem.F.type_list_append mt_append (pv 5) (pa_cons (pe_tup (pa_cons (pv 6) (pa_cons (pv 3) pa_nil))) pa_nil)))
          (pss_one (ps_aug (i := 2) sGathered_sc.nd rfl (.inl rfl) (pv 6) ip_sub))))
          pss_nil)
        (pss_one (ps_if (pt_cmpR op_ne (pv 2) pe_int (nomark _))
          (pss_cons (ps_aug (i := 2) sGathered_sc.nd rfl (.inl rfl) pe_int iop_fdiv)
          (pss_one (ps_set (i := 3) sGathered_sc.nd rfl (Or.inl rfl) (callD T.sNextOf GsNextOf hr (pa_cons (pv 3) pa_nil)))))
          pss_nil)))))
      (pss_one (ps_ret (pe_callTy call_tuple_of (by rfl) T.bTuple (by decide +kernel) (pa_cons (pe_revL (pv 5)) pa_nil))))))))))), ?_⟩
  refine seq_cut (fun σ' H' => ∃ d, H d = none ∧ H' = upd H d (DD d []) ∧ σ' = [some (.ref l), some (.ref d), none, none, none, none, none]) ?_ fun X hX d hd => hX _ _ ⟨d, hd, rfl, rfl⟩
  rintro _ _ ⟨d, hd, rfl, rfl⟩
  have s0 := same_new hd (DD d [])
  refine seq_cut (fun σ' H' => Same H H' ∧ ∃ xs, H' d = some (DD d xs) ∧ KeysAt H' xs ∧ cs xs = cputAll [] (terms n ++ [(false, .nil)]) ∧ (∀ x ∈ xs, x.1 ∈ ks) ∧ xs.length ≤ us.length ∧ ∃ v2 v3 v4 v5 v6, σ' = [some (.ref l), some (.ref d), v2, v3, v4, v5, v6]) ?_ fun X hX => ?_
  · rintro σ' H1 ⟨sm, xs, ed, hk, hcs, hsub, hxl, v2, v3, v4, v5, v6, rfl⟩
    refine ⟨_, rfl, d, xs, rfl, ed, fun L hL => ?_⟩
    have s1 := same_new hL (.lst (xs.map fun x => V.ref x.2.1))
    refine ⟨L, _, xs.map (·.1), rfl, upd_same, nums_keys (hk.mono (Tups.of_same s1)), fun k0 h0 => ?_, by rw [List.length_map]; omega, fun H2 D ws s2 hD eD hw => ⟨D, ws, rfl, SqL.of eD, fun wt hwt => ?_⟩⟩
    · obtain ⟨x, hx, rfl⟩ := List.mem_map.mp h0
      have := (apart_of ok hsub (hsub x hx)).2
      omega
    have s3 := same_new hwt (.lst ws.reverse)
    refine ⟨Nat.zero_le _, fun tm htm => ?_⟩
    have s4 := same_new htm (.lst [])
    refine ⟨Nat.zero_le _, fun ex hex => ?_⟩
    have s5 := same_new hex (.tup [])
    have sA := ((sm.trans s1).trans s2)
    have nwt : H wt = none := none_back sA hwt
    have ntm : H tm = none := none_back (sA.trans s3) htm
    have hwtm : wt ≠ tm := fun e => by rw [e, upd_same] at htm; cases htm
    have sB := (s1.trans s2).trans ((s3.trans s4).trans s5)
    have ekeys : xs.map (·.1) = (cputAll [] (terms n ++ [(false, .nil)])).map (·.1) := by rw [← hcs, keys_cs]
    have hwl : (ordIn [] (xs.map (·.1))).length ≤ 1000 := by rw [len_ordIn, List.length_map, List.length_nil]; omega
    have g0 : GSt H d wt xs ks ⟨ordIn [] (xs.map (·.1)), 0, .nil, []⟩ (upd (upd (upd H2 wt (.lst ws.reverse)) tm (.lst [])) ex (.tup [])) ex :=
      ⟨sm.trans sB, sB _ _ ed, hk.mono (Tups.of_same sB), ⟨[], upd_same, rfl⟩, ⟨ws.reverse, s5 _ _ (s4 _ _ upd_same), (hw.rev).mono (Tups.of_same ((s3.trans s4).trans s5))⟩, ok, hsub, fun w hw => by
        rcases mem_ordIn _ _ _ hw with e | e
        · simp at e
        · exact e, hwl⟩
    refine ⟨fun mf σ' H' => ∃ s, Rp l d wt tm H xs ks s σ' H' ∧ loopS (nextF f) (cs xs) mf s = some ts ∧ s.ts.length + mf ≤ 9000, ⟨5 * Num.len n + 10, ⟨ordIn [] (xs.map (·.1)), 0, .nil, []⟩, ⟨_, ex, rfl, g0, [], s5 _ _ upd_same, Pairs.nil _⟩, by rw [hcs, ekeys]; exact hts, by show 0 + _ ≤ _; omega⟩, ?_⟩
    rintro mf σ' H' ⟨s, ⟨u6, ex, rfl, g, tv, etm, htv⟩, hloop, hmf⟩
    obtain ⟨wu, ew, hw⟩ := g.wait
    have hwul := hw.len
    rw [List.length_reverse] at hwul
    apply wh_cut (¬ (s.wl = [] ∧ s.c = 0))
    case h =>
      intro body
      refine ⟨_, rfl, wt, wu, rfl, .inl (SqL.of ew), _, _, rfl, rfl, _, rfl, tst (fun e => iteT (body (by
        rintro ⟨z, _⟩
        rw [z] at hwul
        rw [hwul] at e
        exact absurd e (by decide)))) (fun e => ?_)⟩
      refine ⟨_, rfl, rfl, _, rfl, tstNE (fun e2 => body fun z => e2 z.2) (fun e2 => ?_)⟩
      have ewl : s.wl = [] := List.length_eq_zero_iff.mp (by omega)
      obtain ⟨mf, rfl⟩ := Nat.exists_eq_succ_of_ne_zero (show mf ≠ 0 from fun z => by rw [z, loopS] at hloop; exact nomatch hloop)
      rw [loopS, if_pos ⟨ewl, e2⟩] at hloop
      cases hloop
      refine ⟨_, rfl, tm, tv, rfl, SqL.of etm, fun L hL => ⟨L, tv.reverse, rfl, .inl ⟨SqL.of upd_same, fun p hp => ?_⟩⟩⟩
      have t1 := same_new hL (.lst tv.reverse)
      have t2 := same_new hp (.tup tv.reverse)
      refine q _ p ((g.same.trans t1).trans t2) ⟨_, upd_same, ?_⟩
      have := htv.rev
      rw [List.reverse_reverse] at this
      exact (this.mono (Tups.of_same (t1.trans t2))).num
    case b =>
      intro hne
      obtain ⟨mf, rfl⟩ := Nat.exists_eq_succ_of_ne_zero (show mf ≠ 0 from fun z => by rw [z, loopS] at hloop; exact nomatch hloop)
      rw [loopS, if_neg hne] at hloop
      cases hturn : turnS (nextF f) (cs xs) s with
      | none => rw [hturn] at hloop; exact nomatch hloop
      | some s3 =>
      rw [hturn] at hloop
      simp only at hloop
      rw [turnS] at hturn
      cases hodd : oddS (nextF f) (cs xs) (popS (cs xs) s) with
      | none => rw [hodd] at hturn; exact nomatch hturn
      | some s2 =>
      rw [hodd] at hturn
      simp only at hturn
      refine ⟨fun σ' H' => ∃ s, Rp l d wt tm H xs ks s σ' H' ∧ loopS (nextF f) (cs xs) mf s = some ts ∧ s.ts.length + mf ≤ 9000, fun σ' H' z => ⟨mf, Nat.lt_succ_self mf, z⟩, ?_⟩
      have htl2 : s2.ts.length + mf ≤ 9000 := by
        have e1 : (popS (cs xs) s).ts = s.ts := by
          unfold popS
          split
          · rfl
          · split <;> rfl
        rw [oddS] at hodd
        split at hodd
        · split at hodd
          · exact nomatch hodd
          · cases hodd
            show (popS (cs xs) s).ts.length + 1 + mf ≤ 9000
            rw [e1]; omega
        · cases hodd
          rw [e1]; omega
      refine seq_cut (fun σ' H' => Rp l d wt tm H xs ks (popS (cs xs) s) σ' H') ?_ fun X hX => ?_
      · rintro σ' H2 R
        generalize hs1 : popS (cs xs) s = s1 at hodd R
        obtain ⟨u6, ex, rfl, g, tv, etm, htv⟩ := R
        refine seq_cut (fun σ' H' => Rp l d wt tm H xs ks s2 σ' H') ?_ fun X hX => ?_
        · rintro σ' H3 ⟨u6, ex, rfl, g, tv, etm, htv⟩
          rw [halfS] at hturn
          refine ⟨_, rfl, rfl, _, rfl, tstNE (fun e => ?_) (fun e => ?_)⟩
          · rw [if_neg e] at hturn
            cases hy : nextF f s2.x with
            | none => rw [hy] at hturn; exact nomatch hturn
            | some y =>
              rw [hy] at hturn
              cases hturn
              refine ⟨_, rfl, _, _, rfl, rfl, ⟨by decide, by decide⟩, ?_⟩
              refine ⟨_, rfl, ex, s2.x, y, rfl, g.exn, hy, fun H4 p4 sm4 h4 => ?_⟩
              exact ⟨{ s2 with c := s2.c / 2, x := y }, ⟨_, p4, rfl, (g.mono sm4).at h4 rfl, tv, sm4 _ _ etm, htv.mono (Tups.of_same sm4)⟩, hloop, htl2⟩
          · rw [if_pos e] at hturn
            cases hturn
            exact ⟨_, ⟨_, ex, rfl, g, tv, etm, htv⟩, hloop, htl2⟩
        · rw [oddS] at hodd
          refine ⟨_, rfl, _, _, rfl, rfl, lt2, rfl, _, rfl, tstE (fun e => ?_) (fun e => ?_)⟩
          · rw [if_pos e] at hodd
            cases hb : signOf (nextF f) (cs xs) s1 with
            | none => rw [hb] at hodd; exact nomatch hodd
            | some b =>
              rw [hb] at hodd
              cases hodd
              refine ⟨_, rfl, _, rfl, _, rfl, _, rfl, H, d, wt, xs, ks, s1, ex, b, rfl, g, hb, fun H3 sm3 => ?_⟩
              have g3 := g.mono sm3
              have etm3 := sm3 _ _ etm
              refine ⟨.ref tm, rfl, .inl ⟨rfl, _, .inl (.inl etm3)⟩, _, rfl, _, rfl, le2, fun tp htp => ?_⟩
              have sm4 := same_new htp (.tup [.int (sg b), .ref ex])
              have etm4 := sm4 _ _ etm3
              have hl4 : tv.length < sizeLine := by
                have := htv.len
                rw [List.length_reverse] at this
                refine small_line ?_
                have : s1.ts.length + 1 + mf ≤ 9000 := htl2
                omega
              refine ⟨tm, _, _, rfl, rfl, etm4, hl4, _, rfl, _, rfl, _, _, rfl, rfl, ?_⟩
              refine hX _ _ ⟨_, ex, rfl, ((g3.mono sm4).tm ntm hwtm etm4).c rfl rfl, _, upd_same, ?_⟩
              show Pairs _ _ ((b, s1.x) :: s1.ts).reverse
              rw [List.reverse_cons]
              exact ((htv.mono (Tups.of_same (sm3.trans sm4))).push (t := (b, s1.x)) upd_same (g.exn.same (sm3.trans sm4))).mono (tups_lst etm4)
          · rw [if_neg e] at hodd
            cases hodd
            exact hX _ _ ⟨_, ex, rfl, g, tv, etm, htv⟩
      · cases hs : s.wl with
        | nil =>
          rw [hs] at hw
          obtain rfl := hw.empty
          refine ⟨_, rfl, wt, _, rfl, .inl (SqL.of ew), _, _, rfl, rfl, _, rfl, tst (fun e => absurd e (by decide)) (fun e => ?_)⟩
          have e1 : popS (cs xs) s = s := by
            unfold popS
            rw [hs]
          rw [e1] at hX
          exact hX _ _ ⟨_, ex, rfl, g, tv, etm, htv⟩
        | cons w0 r =>
          rw [hs] at hw
          obtain ⟨us0, p, rfl, hp0, hw0⟩ := hw.last
          have hwm : w0 ∈ xs.map (·.1) := g.wsub w0 (by rw [hs]; exact List.mem_cons_self)
          have hlow := g.low hwm
          apply wh_cut (s.c = 0 ∨ Num.beq w0 s.x = true)
          case h =>
            intro body
            refine ⟨_, rfl, wt, _, rfl, .inl (SqL.of ew), _, _, rfl, rfl, _, rfl, tst (fun e => ?_) (fun e => absurd (by rw [List.length_append]; simp) e)⟩
            refine ⟨_, rfl, rfl, _, rfl, tstE (fun e => body (.inl e)) (fun e => ?_)⟩
            refine ⟨_, rfl, _, rfl, wt, _, _, _, rfl, rfl, SqL.of ew, atI_last _ _, _, rfl, p, ex, w0, s.x, rfl, rfl, hp0, g.exn, by omega, _, rfl, tst (fun e => body (.inr (by rw [Num.beq_dec]; exact decide_eq_true e))) (fun e2 => ?_)⟩
            have e1 : popS (cs xs) s = s := by
              unfold popS
              rw [hs]
              simp only
              rw [if_neg]
              rintro (z | z)
              · exact e z
              · exact e2 (Num.eq_of_beq z)
            rw [e1] at hX
            exact hX _ _ ⟨_, ex, rfl, g, tv, etm, htv⟩
          case b =>
            intro hpop
            have e1 : popS (cs xs) s = { s with wl := r, c := s.c + cget (cs xs) w0, x := w0 } := by
              unfold popS
              rw [hs]
              simp only
              rw [if_pos hpop]
            rw [e1] at hX
            refine ⟨.ref wt, rfl, .inl ⟨rfl, _, .inl (.inl ew)⟩, wt, _, .ref p, rfl, rfl, ew, by simp, ?_⟩
            have g' := g.pop (s' := { s with wl := r, c := s.c + cget (cs xs) w0, x := w0 }) (us0 := us0) nwt hs rfl ew hp0 hw0
            rw [List.dropLast_concat]
            refine ⟨_, rfl, _, rfl, _, rfl, d, p, xs, w0, rfl, rfl, g'.look hwm g'.exn, hwm, _, _, rfl, rfl, ?_⟩
            exact hX _ _ ⟨_, p, rfl, g', tv, by rw [upd_ne hwtm.symm]; exact etm, htv.mono (tups_lst ew)⟩
  · refine ⟨_, rfl, l, rfl, ⟨us, SqL.of (s0 _ _ hl)⟩, ?_⟩
    refine for_list (xs := us) (fun i σ' H' => Same H H' ∧ ∃ xs, H' d = some (DD d xs) ∧ KeysAt H' xs ∧ cs xs = cputAll [] ((terms n ++ [(false, Num.nil)]).take i) ∧ (∀ x ∈ xs, x.1 ∈ ks) ∧ xs.length ≤ i ∧ ∃ v2 v3 v4 v5 v6, σ' = [some (.ref l), some (.ref d), v2, v3, v4, v5, v6])
      ⟨s0, [], upd_same, fun x hx => (nomatch hx), rfl, fun x hx => (nomatch hx), Nat.zero_le _, _, _, _, _, _, rfl⟩ (fun i σ' H' _ p => SqL.of (p.1 _ _ hl)) ?_ ?_
    · rintro i x σ' H1 hx ⟨sm, xs, ed, hk, hcs, hsub, hxl, v2, v3, v4, v5, v6, rfl⟩
      obtain ⟨t, p, c, et, rfl, e1, e2⟩ := (hp.mono (Tups.of_same sm)).back hx
      have htk := hks t (List.mem_of_getElem? et)
      obtain ⟨ap, lo⟩ := apart_of ok hsub htk
      have hi : i < us.length := (List.getElem?_eq_some_iff.mp hx).1
      have L : Look H1 d c xs t.2 := ⟨ed, hk, e2, by omega, ap⟩
      refine ⟨p, _, rfl, SqT.of e1, rfl, _, _, rfl, _, _, rfl, rfl, ?_⟩
      refine ⟨_, rfl, d, xs, rfl, ed, _, rfl, rfl, c, xs, t.2, rfl, L, _, rfl, _, _, rfl, rfl, _, rfl, _, rfl, d, c, xs, t.2, _, rfl, rfl, rfl, L, small_line (by omega), ?_⟩
      have tu : Tups H1 (upd H1 d (DD d (putN t.2 c (cget (cs xs) t.2 + sg t.1) xs))) := Tups.upd fun ys e => by rw [ed] at e; cases e
      refine ⟨same_set sm hd, _, upd_same, keys_put_at (hk.mono tu) (e2.mono tu), ?_, sub_put hsub htk, ?_, _, _, _, _, _, rfl⟩
      · rw [cs_putN, hcs, take_snoc et, cputAll_app]
        rfl
      · have := len_putN t.2 c (cget (cs xs) t.2 + sg t.1) xs
        omega
    · rintro σ' H1 ⟨sm, xs, ed, hk, hcs, hsub, hxl, v2, v3, v4, v5, v6, rfl⟩
      rw [List.take_of_length_le (by rw [← hp.len]; exact Nat.le_refl _)] at hcs
      exact hX _ _ ⟨sm, xs, ed, hk, hcs, hsub, hxl, _, _, _, _, _, rfl⟩
end
end SR
set_option Elab.async false
set_option linter.all false
set_option maxRecDepth 100000
set_option maxHeartbeats 4000000
/-! Walks: the next number, the form. -/
namespace SR
open PySem PySem.Spec PyProof.Rows L2
open SR.Num (size height exps terms ofTerms)
set_option autoImplicit false
/-- a comprehension over range(n): one value a place -/
theorem lc_rng {ta : TA} {g : TG} {te : TE} {ws : List Nat} {σ : L2.St} {H H1 : Hp} {Q : VK} (n : Nat) (f : Nat → V) (hl : n < sizeLine) (h0 : ∀ R : It → Hp → Prop, R (Itr 0 n) H1 → iRng1 ta σ H R)
    (hs : ∀ (i : Nat) (H' : Hp), i < n → Same H1 H' → ∀ Qx : L2.St → Hp → Prop, (∀ σ2, wipe σ2 ws = wipe σ ws → (∀ Q' : VK, (∀ H3, Same H' H3 → Q' (f i) H3) → te σ2 H' Q') → Qx σ2 H') → g (.int (0 + (i : Int))) (wipe σ ws) H' Qx)
    (q : ∀ D H', H1 D = none → Same H1 H' → H' D = some (.lst ((List.range n).map f)) → Q (.ref D) H') : tLc (iRng1 ta) g tYes te ws σ H Q := by
  refine h0 _ fun D hD => ?_
  refine lc_range (fun i H' => Same H1 H' ∧ H' D = some (.lst ((List.range i).map f))) ⟨same_new hD _, upd_same⟩ (fun i H' hi p => ?_) (fun H' p => ?_)
  · obtain ⟨sm, eD⟩ := p
    refine hs i H' hi sm _ fun σ2 hw hte => ⟨hw, ?_⟩
    refine yes_go (hte _ fun H3 s3 => ⟨_, s3 _ _ eD, ?_, fun b u e => ?_, ?_⟩)
    · rw [List.length_map, List.length_range]; omega
    · rw [upd_ne (ne_of_none e hD)]
      exact s3 _ _ (sm _ _ e)
    · rw [upd_same, List.range_succ, List.map_append]; rfl
  · exact q D H' hD p.1 p.2
def spApart : Sp := fun vs H Q _ => ∃ a b n m, vs = [.ref a, .ref b] ∧ NumAt H a n ∧ NumAt H b m ∧ height n ≤ 40 ∧ (0 < cmp n m → ∃ y, nextF 12 m = some y) ∧ ∀ H', Same H H' → Q (.bl (apart n m)) H'
def adj : List Num → List Bool
  | [] => []
  | [_] => []
  | e :: f :: r => apart e f :: adj (f :: r)
theorem adj_range : ∀ l : List Num, adj l = (List.range (l.length - 1)).map fun i => apart (l.getD i .nil) (l.getD (i + 1) .nil)
  | [] => rfl
  | [_] => rfl
  | e :: f :: r => by
    rw [adj, adj_range (f :: r), show (e :: f :: r).length - 1 = ((f :: r).length - 1) + 1 from rfl, List.range_succ_eq_map, List.map_cons, List.map_map]
    rfl
theorem form_adj : ∀ n : Num, formN n = (((exps n).all fun e => formN e && nonneg e) && (adj (exps n)).all id)
  | .nil => rfl
  | .cons s e .nil => by simp [formN, exps, adj]
  | .cons s e (.cons t f r) => by
    have ih := form_adj (.cons t f r)
    rw [formN, ih]
    simp only [exps, adj, List.all_cons, id]
    cases formN e <;> cases nonneg e <;> cases formN f <;> cases nonneg f <;> cases apart e f <;> simp
theorem form_bad {n : Num} {i : Nat} {t : Bool × Num} (h : (terms n)[i]? = some t) (b : (formN t.2 && nonneg t.2) = false) : formN n = false := by
  rw [form_adj, Bool.and_eq_false_iff]
  left
  rw [List.all_eq_false]
  exact ⟨t.2, exps_of_terms h, by rw [b]; decide⟩
theorem form_good {n : Num} (h : ∀ t ∈ terms n, (formN t.2 && nonneg t.2) = true) : formN n = (adj (exps n)).all id := by
  rw [form_adj, show ((exps n).all fun e => formN e && nonneg e) = true from List.all_eq_true.mpr fun e he => by
    rw [Num.exps_eq] at he
    obtain ⟨t, ht, rfl⟩ := List.mem_map.mp he
    exact h t ht]
  rfl
theorem safe_mem : ∀ {n : Num}, Safe n → ∀ e ∈ exps n, Safe e
  | .cons s e r, h, x, hx => by
    rcases List.mem_cons.mp hx with q | q
    · rw [q]; exact h.1
    · exact safe_mem h.2.1 x q
theorem safe_adj : ∀ {n : Num}, Safe n → ∀ i u l, (exps n)[i]? = some u → (exps n)[i + 1]? = some l → SafeP u l
  | .cons s e .nil, h, i, u, l, h1, h2 => by simp [exps] at h2
  | .cons s e (.cons t f r), h, 0, u, l, h1, h2 => by
    cases h1; cases h2; exact h.2.2
  | .cons s e (.cons t f r), h, i + 1, u, l, h1, h2 => safe_adj (n := .cons t f r) h.2.1 i u l h1 h2
theorem nonneg_sgn (n : Num) : nonneg n = !decide (sgn n < 0) := by
  cases n with
  | nil => rfl
  | cons s e r => cases s <;> rfl
def spForm (h : Nat) : Sp := fun vs H Q _ => ∃ b n, vs = [.ref b] ∧ NumAt H b n ∧ height n < h ∧ height n ≤ 41 ∧ size n ≤ big ∧ Safe n ∧ ∀ H', Same H H' → Q (.bl (formN n)) H'
theorem exps_terms {n : Num} {i : Nat} {e : Num} (h : (exps n)[i]? = some e) : ∃ t, (terms n)[i]? = some t ∧ t.2 = e := by
  rw [Num.exps_eq, List.getElem?_map] at h
  cases ht : (terms n)[i]? with
  | none => rw [ht] at h; cases h
  | some t => rw [ht] at h; cases h; exact ⟨t, rfl, rfl⟩
section
variable {P : Program} {w : World} {K : PySem.W.Frag} {mg : Str → Option Value} {base : Heap} {a : Ads}
theorem ok_next (T : Top K mg a) : ∀ f : Nat, FnOk P w K mg base CX0 (43 + 3 * f) a.sNextOf a.sNextOfD ["number"] (spNext f)
  | 0 => fn_none fun vs H Q E h => by obtain ⟨_, _, _, _, _, h, _⟩ := h; exact nomatch h
  | f + 1 => by
    have N := ok_next T f
    have GsGathered := ok_gath T (f := f) (k := 43 + 3 * f) ((ok_order (P := P) (w := w) (base := base) T 41).mono (by omega)) ((ok_signAt T (k := 42 + 3 * f) (N.mono (by omega))).mono (by omega)) (N.mono (by omega))
    show FnOk P w K mg base CX0 ((43 + 3 * f + 2) + 1) _ _ _ _
    refine T.sNextOf.F.ok sNextOf_sc (fun vs H Q E q => by obtain ⟨_, _, _, rfl, _⟩ := q; rfl) (fun cdv A outer s H vs Q E hr q => ?_)
    obtain ⟨b, n, m, rfl, hn, hm, q⟩ := q
    refine ⟨_, (pss_one (ps_ret (callD T.sGathered GsGathered hr (pa_cons (pe_op op_cat (pe_callTy call_list_of (by rfl) T.bList (by decide +kernel) (pa_cons (pv 0) pa_nil)) (pe_lst (pa_cons (pe_tup (pa_cons pe_int (pa_cons (pe_tup pa_nil) pa_nil))) pa_nil))) pa_nil)))), ?_⟩
    obtain ⟨vs, hv, hvl⟩ := hn
    have hvn := hvl.len
    have okl := ok_len (next_split hm).1
    rw [List.length_cons, len_exps] at okl
    refine ⟨_, rfl, b, vs, rfl, .inr (SqT.of hv), fun L hL => ?_⟩
    have s1 := same_new hL (.lst vs)
    refine ⟨Nat.zero_le _, fun e he => ?_⟩
    have s2 := same_new he (.tup [])
    refine ⟨le2, fun t ht => ?_⟩
    have s3 := same_new ht (.tup [.int 1, .ref e])
    refine ⟨small_line (n := 1) (by omega) |> Nat.le_of_lt, fun M hM => ?_⟩
    have s4 := same_new hM (.lst [.ref t])
    refine ⟨L, M, vs, [.ref t], rfl, rfl, s4 _ _ (s3 _ _ (s2 _ _ upd_same)), upd_same, Nat.le_of_lt (small_line (by rw [List.length_singleton]; omega)), fun R hR => ?_⟩
    have s5 := same_new hR (.lst (vs ++ [.ref t]))
    have sA := ((s1.trans s2).trans s3).trans (s4.trans s5)
    refine ⟨R, _, n, m, rfl, upd_same, ?_, hm, fun H' p s' h' => q H' p (sA.trans s') h'⟩
    have pn := (Pairs.of hvl).mono (Tups.of_same sA)
    exact pn.push (t := (false, .nil)) (p := t) (q := e) (s5 _ _ (s4 _ _ upd_same)) ⟨[], s5 _ _ (s4 _ _ (s3 _ _ upd_same)), rfl⟩
theorem ok_apart (T : Top K mg a) : FnOk P w K mg base CX0 80 a.sIsApart a.sIsApartD ["upper", "lower"] spApart := by
  have GsCompare := (ok_compare (P := P) (w := w) (base := base) T 41).mono (show 41 ≤ 79 by omega)
  have GsNextOf := (ok_next (P := P) (w := w) (base := base) T 12).mono (show 43 + 3 * 12 ≤ 79 by omega)
  refine T.sIsApart.F.ok (k := 79) sIsApart_sc (fun vs H Q E q => by obtain ⟨_, _, _, _, rfl, _⟩ := q; rfl) (fun cdv A outer s H vs Q E hr q => ?_)
  obtain ⟨b, c, n, m, rfl, hn, hm, hh, hy, q⟩ := q
  have hu0 := SR.Room.u200 hr
  refine ⟨_, (pss_one (ps_ret (pe_and (pe_cmpR op_gt (callD T.sCompare GsCompare hr (pa_cons (pv 0) (pa_cons (pv 1) pa_nil))) pe_int (nomark _)) (pe_one (pe_cmpR (op_neN hu0) (pv 0) (callD T.sNextOf GsNextOf hr (pa_cons (pv 1) pa_nil)) (nomark _)))))), ?_⟩
  refine ⟨_, rfl, _, rfl, b, c, n, m, rfl, hn, hm, by omega, by omega, fun H1 s1 => ⟨_, _, rfl, rfl, _, rfl, tst (fun e => ?_) (fun e => ?_)⟩⟩
  · obtain ⟨y, hy⟩ := hy e
    refine ⟨_, rfl, _, rfl, c, m, y, rfl, hm.same s1, hy, fun H2 p s2 h2 => ⟨b, p, n, y, rfl, rfl, hn.same (s1.trans s2), h2, by omega, ?_⟩⟩
    have := q H2 (s1.trans s2)
    rw [apart, decide_eq_true e, nextT, hy, Bool.true_and, Num.beq_dec] at this
    exact this
  · have := q H1 s1
    rw [apart, decide_eq_false e] at this
    exact this
theorem ok_form (T : Top K mg a) : ∀ h : Nat, FnOk P w K mg base CX0 (80 + h) a.sIsForm a.sIsFormD ["number"] (spForm h)
  | 0 => fn_none fun vs H Q E h => by obtain ⟨_, _, _, _, h, _⟩ := h; exact absurd h (Nat.not_lt_zero _)
  | h + 1 => by
    have GsIsForm := ok_form T h
    have GsIsApart := (ok_apart (P := P) (w := w) (base := base) T).mono (show 80 ≤ 80 + h by omega)
    have GsSignOf := (ok_sign (P := P) (w := w) (base := base) T 0).mono (show 0 + 1 ≤ 80 + h by omega)
    refine T.sIsForm.F.ok sIsForm_sc (fun vs H Q E q => by obtain ⟨_, _, rfl, _⟩ := q; rfl) (fun cdv A outer s H vs Q E hr q => ?_)
    obtain ⟨b, n, rfl, hn, hh, h41, hz, hsf, q⟩ := q
    refine ⟨_, (pss_cons (ps_for PassesOwn.never rfl (pi_tup (pv 0)) (pg_tup rfl (pgs_cons (pg_name (i := 1) sIsForm_sc.nd rfl (Or.inl rfl)) (pgs_cons (pg_name (i := 2) sIsForm_sc.nd rfl (Or.inl rfl)) pgs_nil)))
        (pss_one (ps_if (PW.pt (pw_or (pt_cmpR op_notIn_seq (pv 1) (pe_tup (pa_cons pe_int (pa_cons (pe_un un_neg pe_int) pa_nil))) rfl) (pw_or (pt_not (pt_val (callD T.sIsForm GsIsForm hr (pa_cons (pv 2) pa_nil)))) (pw_or1 (pt_cmpR op_lt (callD T.sSignOf GsSignOf hr (pa_cons (pv 2) pa_nil)) pe_int (nomark _))))))
          (pss_one (ps_ret pe_bl))
          pss_nil)))
      (pss_one (ps_ret (pe_callB (cr_all rfl) (by rfl) T.bAll (by decide +kernel) (pa_cons (pe_lc (own := [("at", 3)]) (g := gName 3) (tt := tYes) rfl sIsForm_sc.nd (pi_range1 rfl T.bRange (pa_cons (pe_op op_sub (pe_callB (call_lenK (K := K)) (by rfl) T.bLen PySem.boot_len (pa_cons (pv 0) pa_nil)) pe_int) pa_nil)) (blkOk_by (N := ["number", "sign", "exponent", "at"]) (sc := defScope sIsForm) (by decide +kernel)) (fun _ _ _ _ _ => by exact (pg_name (i := 3) sIsForm_sc.nd rfl (Or.inl rfl))) (fun _ _ _ _ _ => pts_nil) (fun _ _ _ _ _ => by exact (callD T.sIsApart GsIsApart hr (pa_cons (pe_ix (ix_tupK (K := K)) (pe_ix (ix_tupK (K := K)) (pv 0) (pv 3) (fun _ _ => rfl)) pe_int (fun _ _ => rfl)) (pa_cons (pe_ix (ix_tupK (K := K)) (pe_ix (ix_tupK (K := K)) (pv 0) (pe_op op_add (pv 3) pe_int) (fun _ _ => rfl)) pe_int (fun _ _ => rfl)) pa_nil))))) pa_nil))))), ?_⟩
    obtain ⟨vs, hv, hvl⟩ := hn
    have hvn := hvl.len
    have hls := len_size n
    refine ⟨_, rfl, b, rfl, ⟨vs, SqT.of hv⟩, ?_⟩
    refine for_num (n := n) hv hvl (fun i σ' H' => Same H H' ∧ (∀ t ∈ (terms n).take i, (formN t.2 && nonneg t.2) = true) ∧ ∃ x y z, σ' = [some (.ref b), x, y, z]) ⟨Same.refl H, fun t ht => (nomatch ht), _, _, _, rfl⟩ (fun i σ' H' p => Tups.of_same p.1) ?_ ?_
    · rintro i t p c σ' H' ht ⟨sm, hg, x, y, z, rfl⟩ e1 e2
      obtain ⟨z1, z2⟩ := mem_size ht
      refine ⟨p, _, rfl, SqT.of e1, rfl, _, _, rfl, _, _, rfl, rfl, ?_⟩
      refine ⟨_, rfl, _, rfl, le2, fun tp htp => ?_⟩
      have s1 := same_new htp (.tup [.int 1, .int (-1)])
      refine ⟨tp, _, rfl, .inr (SqT.of upd_same), rfl, rfl, _, rfl, ?_⟩
      refine ite2 (fun e => absurd e (by cases t.1 <;> decide)) fun _ => ?_
      refine ⟨_, rfl, c, t.2, rfl, e2.same s1, by omega, by omega, by omega, safe_mem hsf _ (exps_of_terms ht), fun H2 s2 => ⟨_, rfl, ?_⟩⟩
      have s3 := (sm.trans s1).trans s2
      cases hf : formN t.2 with
      | false =>
        have := q _ s3
        rw [form_bad ht (by rw [hf]; rfl)] at this
        exact this
      | true =>
        refine ⟨_, rfl, c, t.2, rfl, e2.same (s1.trans s2), _, _, rfl, rfl, _, rfl, tst (fun e => ?_) (fun e => ?_)⟩
        · have := q _ s3
          rw [form_bad ht (by rw [hf, nonneg_sgn, decide_eq_true e]; rfl)] at this
          exact this
        · refine ⟨s3, fun u hu => ?_, _, _, _, rfl⟩
          rw [take_snoc ht] at hu
          rcases List.mem_append.mp hu with q1 | q1
          · exact hg u q1
          · rw [List.mem_singleton.mp q1, hf, nonneg_sgn, decide_eq_false e]; rfl
    · rintro σ' H' ⟨sm, hg, x, y, z, rfl⟩
      have hv' := sm _ _ hv
      have hvl' := hvl.mono (Tups.of_same sm)
      have hg' : ∀ t ∈ terms n, (formN t.2 && nonneg t.2) = true := fun t ht => hg t (by rw [List.take_of_length_le (by rw [Num.terms_len]; exact Nat.le_refl _)]; exact ht)
      have eF := form_good hg'
      rw [adj_range, len_exps] at eF
      have bl := big_line4
      have bb : big = 1000000 := rfl
      dsimp only [tRet, tCB, tCons]
      refine lc_rng (H1 := H') (Num.len n - 1) (fun i => V.bl (apart ((exps n).getD i .nil) ((exps n).getD (i + 1) .nil))) (by omega) (fun R k => ?_) (fun i H2 hi s2 Qx k => ?_) fun D H2 hD s2 eD => ?_
      · refine ⟨_, rfl, b, vs, rfl, .inr (SqT.of hv'), _, _, rfl, rfl, _, rfl, by omega, by omega, ?_⟩
        rw [show ((vs.length : Int) - 1).toNat = Num.len n - 1 by omega]
        exact k
      · refine k _ rfl fun Q' k' => ?_
        have i1 : i < (exps n).length := by rw [len_exps]; omega
        have i2 : i + 1 < (exps n).length := by rw [len_exps]; omega
        have g1 := List.getElem?_eq_getElem i1
        have g2 := List.getElem?_eq_getElem i2
        rw [getD_of g1, getD_of g2] at k'
        obtain ⟨t, ht, et⟩ := exps_terms g1
        obtain ⟨u, hu, eu⟩ := exps_terms g2
        have hvl2 := hvl'.mono (Tups.of_same s2)
        obtain ⟨p1, q1, a1, a2, a3⟩ := hvl2.get ht
        obtain ⟨p2, q2, b1, b2, b3⟩ := hvl2.get hu
        have hv2 := s2 _ _ hv'
        have ft := hg' t (List.mem_of_getElem? ht)
        have fu := hg' u (List.mem_of_getElem? hu)
        rw [Bool.and_eq_true] at ft fu
        obtain ⟨z1, z2⟩ := mem_size ht
        refine ⟨_, rfl, _, rfl, b, vs, _, _, rfl, rfl, SqT.of hv2, atI_nat (j := i) a1 |> (by simpa using ·), p1, _, _, _, rfl, rfl, SqT.of a2, atI_nat (j := 1) rfl, ?_⟩
        refine ⟨_, rfl, _, rfl, _, _, rfl, rfl, b, vs, _, _, rfl, rfl, SqT.of hv2, atI_nat (j := i + 1) b1 |> (by simpa using ·), p2, _, _, _, rfl, rfl, SqT.of b2, atI_nat (j := 1) rfl, ?_⟩
        refine ⟨q1, q2, t.2, u.2, rfl, a3, b3, by omega, fun hc => ?_, fun H3 s3 => ?_⟩
        · refine next_def fu.1 ?_
          exact safe_adj hsf i t.2 u.2 (by rw [et]; exact g1) (by rw [eu]; exact g2) ft.1 fu.1 ft.2 fu.2 hc
        · rw [et, eu]
          exact k' H3 s3
      · refine ⟨D, (List.range (Num.len n - 1)).map fun i => apart ((exps n).getD i .nil) ((exps n).getD (i + 1) .nil), rfl, SqL.of ?_, ?_⟩
        · rw [eD, List.map_map]; rfl
        · rw [← eF]
          exact q _ (sm.trans s2)
end
end SR
set_option Elab.async false
set_option linter.all false
set_option maxRecDepth 100000
/-! What the top has left of the error classes and of the dict of signs; defs that raise. -/
namespace SR
open PySem PySem.Spec PyProof.Rows L2
set_option autoImplicit false
structure ExC (K : PySem.W.Frag) (mg : Str → Option Value) (x : Str) (C : Addr) : Prop where
  g : mg x = some (.ref C)
  x : PySem.W.excIn K C [.type "ValueError", .type "Exception", .type "BaseException", .type "object"] "ValueError.__new__" = true
  k : PySem.W.keepIn K (.ref C) = true
  b : PySem.W.subIn K (.ref C) (.type "BaseException") = some true
  t : PySem.W.typeIn K (.ref C) = some (.type "type")
structure TopX (K : PySem.W.Frag) (w : World) (mg : Str → Option Value) (a : Ads) : Prop where
  not : ExC K mg "NotAllowed" a.xNotAllowed
  bad : ExC K mg "BadForm" a.xBadForm
  gR : mg "ReckonError" = some (.ref a.xReckonError)
  gT : mg "TooLarge" = some (.ref a.xTooLarge)
  en : PySem.W.exmOne K (.ref a.xNotAllowed) (.ref a.xNotAllowed) = some true
  eb : PySem.W.exmOne K (.ref a.xBadForm) (.ref a.xBadForm) = some true
  isB : ExcC K a.xBadForm
  i1 : PySem.W.kitOne K (.ref a.xBadForm) (.ref a.xReckonError) = some true
  i2 : PySem.W.kitOne K (.ref a.xBadForm) (.ref a.xNotAllowed) = some false
  i3 : PySem.W.kitOne K (.ref a.xBadForm) (.ref a.xTooLarge) = some false
  gS : mg "SIGNS" = some (.ref a.signs)
  sP : KDct K w a.signs "+" (.int 1)
  sM : KDct K w a.signs "-" (.int (-1))
section
variable {P : Program} {w : World} {K : PySem.W.Frag} {mg : Str → Option Value} {base : Heap}
/-- as Fun.okX, for a def whose errors have no context -/
theorem Fun.okN {x qual : Str} {st : Stmt} {f : Addr} {fd : FuncData} {N ps : List Str} {k : Nat} {sp : Sp} (F : Fun K x qual st f fd) (S : FnScope N ps (defScope st)) (len : ∀ vs H Q E, sp vs H Q E → vs.length = ps.length)
    (hbody : ∀ (cdv : Value) (A : Around) (outer : List Env) (s : Shared) (H : Hp) (vs : List V) (Q : VK) (E : XK), Room k (A.deeper (envOfC qual (defScope st) s.heap.objs.size f cdv)) → sp vs H Q E →
      ∃ t, PSs (cxOf (L2N.CX P w) P w K mg base N qual (defScope st) f cdv A outer s H E) (defBody st) t ∧ t { nx := fun _ H' => Q .non H', rt := Q } (start N vs) H) : FnOk P w K mg base (L2N.CX P w) (k + 1) f fd ps sp := by
  obtain ⟨oc, od, kV, doc, pm, an, cdv, ct, osl, rfl, lk, hcd⟩ := F.ex
  exact fn_of lk hcd S len fun A outer s H vs Q E hr hsp => hbody cdv A outer s H vs Q E hr hsp
end
section
variable {X : Cx} {CX : CXT} {k : Nat} {x : Str} {st : Stmt} {f : Addr} {fd : FuncData} {ps : List Str} {sp : Sp} {e : Expr} {es : List Expr} {t : TA} {p pos : Pos} {E : L2.St → XK}
theorem callX (D : DefOk X.K X.mg x st f fd ps) (G : FnOk X.prog X.w X.K X.mg X.base CX k f fd ps sp) (hr : Room k X.A) (hx : ∀ σ, PassesAt CX X σ (E σ)) (ha : PA X (e :: es) t) (hg : Gl X x := by rfl)
    (hdb : (x == ("__debug__" : Str)) = false := by decide) (he : starEach (e :: es) X.env = (false, eval e X.env) :: starEach es X.env := by rfl) (hpl : (backTo pos (starEach es X.env)).any (·.1) = false := by rfl) : PE X (.Call (.Name x p) (e :: es) [] pos) (tCallS sp E t) :=
  pe_callS G hr hg D.g D.F.kp D.b hx ha hdb he hpl
end
end SR
set_option Elab.async false
set_option linter.all false
set_option maxRecDepth 100000
set_option maxHeartbeats 4000000
/-! Walks: what is allowed. -/
namespace SR
open PySem PySem.Spec PyProof.Rows L2
open SR.Num (size height exps terms ofTerms)
set_option autoImplicit false
def spCheck (C : Addr) : Sp := fun vs H Q E => ∃ b n, vs = [.ref b] ∧ NumAt H b n ∧ height n < 80 ∧ size n ≤ big ∧ Safe n ∧ ∀ H', Same H H' → (checkN n = true → Q .non H') ∧ (checkN n = false → E (.ref C) none H')
section
variable {P : Program} {w : World} {K : PySem.W.Frag} {mg : Str → Option Value} {base : Heap} {a : Ads}
theorem ok_check (T : Top K mg a) (TX : TopX K w mg a) : FnOk P w K mg base (L2N.CX P w) 122 a.sCheckNumber a.sCheckNumberD ["number"] (spCheck a.xNotAllowed) := by
  have GsIsAllowed := (ok_allowed (P := P) (w := w) (base := base) T 80).mono (show 81 ≤ 121 by omega)
  have GsIsForm := ok_form (P := P) (w := w) (base := base) T 41
  refine Fun.okN T.sCheckNumber.F (k := 121) sCheckNumber_sc (fun vs H Q E q => by obtain ⟨_, _, rfl, _⟩ := q; rfl) (fun cdv A outer s H vs Q E hr q => ?_)
  obtain ⟨b, n, rfl, hn, hh, hz, hsf, q⟩ := q
  refine ⟨_, (pss_one (ps_if (PW.pt (pw_or (pt_not (pt_val (callD T.sIsAllowed GsIsAllowed hr (pa_cons (pv 0) pa_nil)))) (pw_or1 (pt_not (pt_val (callD T.sIsForm GsIsForm hr (pa_cons (pv 0) pa_nil)))))))
        (pss_one (L2N.ps_raise rfl (L2N.takes_of rfl rfl rfl rfl) (L2N.pmk_own PySem.F.excBase_ValueError TX.not.x TX.not.g TX.not.k (raises_own TX.not.b TX.not.t) rfl)))
        pss_nil)), ?_⟩
  refine ⟨_, rfl, b, n, rfl, hn, hh, hz, fun H1 s1 => ⟨_, rfl, ?_⟩⟩
  by_cases e : size n ≤ 300 ∧ height n ≤ 40
  · rw [decide_eq_true e]
    refine ⟨_, rfl, b, n, rfl, hn.same s1, by omega, by omega, hz, hsf, fun H2 s2 => ⟨_, rfl, ?_⟩⟩
    obtain ⟨q1, q2⟩ := q H2 (s1.trans s2)
    rw [checkN, decide_eq_true e.1, decide_eq_true e.2, Bool.true_and, Bool.true_and] at q1 q2
    cases hf : formN n with
    | true => exact q1 hf
    | false => exact q2 hf
  · rw [decide_eq_false e]
    refine (q H1 s1).2 ?_
    rw [checkN, ← Bool.decide_and, decide_eq_false e, Bool.false_and]
end
end SR
set_option Elab.async false
set_option linter.all false
set_option maxRecDepth 100000
set_option maxHeartbeats 4000000
/-! Walks: the law's own look at a number; the program's reader. -/
namespace SR
open PySem PySem.Spec PyProof.Rows L2
open SR.Num (size height exps terms ofTerms)
set_option autoImplicit false
theorem cx_nl {P : Program} {w : World} {outer : List Env} {H : Hp} {s : Shared} {E : XK} {u : Value} {s' : Shared} (c : L2N.CX P w outer H s E u s') : L2.CX P w outer H s E u s' := by
  obtain ⟨a, B, H', cls, d, rfl, fl, hok, ub, na, os, ag, hE⟩ := c
  exact ⟨a, B, H', cls, d, rfl, L2H.flyingZ_imp (fun _ z => z.zc) fl, hok, ub, na, os, ag, hE⟩
theorem passLN {X : Cx} {W : WX} (tk : L2.Takes X W) (σ : L2.St) : PassesAt (L2N.CX X.prog X.w) X σ (WE W σ) := fun _ _ _ e s' I c => tk e s' (L2.XE.of_call I (fun _ _ _ h => h) (cx_nl c))
def spIsNum : Sp := fun vs H Q _ => ∃ b n, vs = [.ref b] ∧ NumAt H b n ∧ height n < 80 ∧ size n ≤ big ∧ Safe n ∧ ∀ H', Same H H' → Q (.bl (checkN n)) H'
section
variable {P : Program} {w : World} {K : PySem.W.Frag} {mg : Str → Option Value} {base : Heap} {a : Ads}
theorem ok_isNum (T : Top K mg a) (TX : TopX K w mg a) : FnOk P w K mg base CX0 123 a.lIsNumber a.lIsNumberD ["_law_number_here"] spIsNum := by
  have GsCheckNumber := ok_check (P := P) (w := w) (base := base) T TX
  refine T.lIsNumber.F.ok (k := 122) lIsNumber_sc (fun vs H Q E q => by obtain ⟨_, _, rfl, _⟩ := q; rfl) (fun cdv A outer s H vs Q E hr q => ?_)
  obtain ⟨b, n, rfl, hn, hh, hz, hsf, q⟩ := q
  refine ⟨_, (pss_cons (ps_try_only (tb := fun W => tDrop (tCallS (spCheck a.xNotAllowed) (WE W) (tCons (tVar 0) tNil))) (ts := fun _ _ _ => tRet (tC (.bl false))) (Wout := fun _ _ _ _ => False) rfl rfl ⟨rfl, by decide, .inl TX.not.g⟩ takes0
      (fun W pn xe tk _ => pss_one (ps_expr (callX T.sCheckNumber GsCheckNumber hr (fun σ => passLN tk σ) (pa_cons (pv 0) pa_nil)))) (fun a oe cls d pn _ _ => pss_one (ps_ret pe_bl)))
      (pss_one (ps_ret pe_bl))), ?_⟩
  refine ⟨_, rfl, b, n, rfl, hn, hh, hz, hsf, fun H1 s1 => ⟨fun e => ?_, fun e => ⟨true, TX.en, fun _ x hx => ?_, fun z => nomatch z⟩⟩⟩
  · have := q H1 s1
    rw [e] at this
    exact this
  · have := q H1 s1
    rw [e] at this
    exact this
end
end SR
set_option Elab.async false
set_option linter.all false
set_option maxRecDepth 100000
set_option maxHeartbeats 4000000
/-! Walks: the program's reader of texts. -/
namespace SR
open PySem PySem.Spec PyProof.Rows L2
open SR.Num (size height exps terms ofTerms)
set_option autoImplicit false
/-! ### texts -/
theorem take_min {t : List Nat} {i j : Nat} : (t.drop (min i t.length)).take (min j t.length - min i t.length) = (t.drop i).take (j - i) := by
  by_cases hi : i ≤ t.length
  · rw [Nat.min_eq_left hi]
    by_cases hj : j ≤ t.length
    · rw [Nat.min_eq_left hj]
    · rw [Nat.min_eq_right (by omega), List.take_of_length_le (by rw [List.length_drop]; omega), List.take_of_length_le (by rw [List.length_drop]; omega)]
  · have e : min i t.length = t.length := Nat.min_eq_right (by omega)
    rw [e, List.drop_of_length_le (Nat.le_refl _), List.drop_of_length_le (by omega), List.take_nil, List.take_nil]
theorem cut_mid (t : List Nat) (i j : Nat) : cutS (S t) (some (i : Int)) (some (j : Int)) = S ((t.drop i).take (j - i)) := by
  unfold cutS
  rw [HT.sIx_nat, HT.sIx_nat, S_tl, S_len, take_min]
  rfl
theorem cut_from (t : List Nat) (i : Nat) : cutS (S t) (some (i : Int)) none = S (t.drop i) := by
  unfold cutS
  rw [HT.sIx_nat, HT.sIx_none, S_tl, S_len]
  have := take_min (t := t) (i := i) (j := t.length)
  rw [Nat.min_self] at this
  rw [this, List.take_of_length_le (by rw [List.length_drop]; omega)]
  rfl
theorem cut_to (t : List Nat) (j : Nat) : cutS (S t) none (some (j : Int)) = S (t.take j) := by
  unfold cutS
  rw [HT.sIx_nat, HT.sIx_none, S_tl, S_len]
  have := take_min (t := t) (i := 0) (j := j)
  rw [Nat.zero_min] at this
  rw [this]
  rfl
theorem S_beq (a b : List Nat) : (S a == S b) = (a == b) := by
  rw [Bool.eq_iff_iff, beq_iff_eq, beq_iff_eq]
  exact ⟨S_inj, fun e => by rw [e]⟩
theorem inS {l a b : List Nat} : inV (.str (S l)) [.str (S a), .str (S b)] = (l == a || l == b) := by
  show ((S a == S l) || ((S b == S l) || false)) = _
  rw [S_beq, S_beq, Bool.or_false, show (a == l) = (l == a) from Bool.beq_comm, show (b == l) = (l == b) from Bool.beq_comm]
theorem tstC {c k : Nat} {A B : Prop} (h1 : c = k → A) (h2 : c ≠ k → B) : if decide (V.str ⟨#[c]⟩ = V.str (S [k])) = true then A else B :=
  tst (fun e => h1 (by
    have := congrArg (fun s : Str => s.cps.toList) (V.str.inj e)
    simpa [S] using this)) fun e => h2 fun z => e (by rw [z]; rfl)
theorem at_head {t : List Nat} {i c : Nat} {r : List Nat} (h : t.drop i = c :: r) : t[i]? = some c := by
  have := congrArg (fun l => l[0]?) h
  simpa [List.getElem?_drop] using this
theorem drop_next {t : List Nat} {i c : Nat} {r : List Nat} (h : t.drop i = c :: r) : t.drop (i + 1) = r := by
  rw [← List.drop_drop, h]; rfl
theorem rdP_step (c : Nat) (r : List Nat) (cur : Tms) (st : List (Bool × Tms)) : rdP (c :: r) cur st =
    if isHead ((c :: r).take 2) = true then (if st.length + 2 ≤ 41 then rdP (r.drop 1) [] ((c == 45, cur) :: st) else none)
    else if c = 93 then (popSt cur st).bind fun p => rdP r p.1 p.2
    else if c = 48 ∧ cur = [] ∧ (r.take 1 = [] ∨ r.take 1 = [93]) then rdP r cur st else none := by
  cases r with
  | nil =>
    have e : ¬ isHead (([c] : List Nat).take 2) = true := by simp [isHead]
    rw [rdP_one, if_neg e]
    simp
  | cons d r =>
    rw [rdP]
    have e : (isHead [c, d] = true) = ((c = 43 ∨ c = 45) ∧ d = 91) := by
      simp only [isHead, Bool.or_eq_true, beq_iff_eq, List.cons.injEq, and_true]
      refine propext ⟨?_, ?_⟩
      · rintro (⟨a, b⟩ | ⟨a, b⟩)
        · exact ⟨.inl a, b⟩
        · exact ⟨.inr a, b⟩
      · rintro ⟨a | a, b⟩
        · exact .inl ⟨a, b⟩
        · exact .inr ⟨a, b⟩
    simp only [List.drop_succ_cons, List.drop_zero, List.take_succ_cons, e, List.take_zero, List.cons.injEq, and_true, reduceCtorEq, false_or]
theorem head_at {c : Nat} {r : List Nat} (h : isHead ((c :: r).take 2) = true) : (c = 43 ∨ c = 45) ∧ ∃ r', r = 91 :: r' := by
  cases r with
  | nil => simp [isHead] at h
  | cons d r =>
    simp only [isHead, List.take_succ_cons, List.take_zero, Bool.or_eq_true, beq_iff_eq, List.cons.injEq, and_true] at h
    rcases h with ⟨a, b⟩ | ⟨a, b⟩
    · exact ⟨.inl a, r, by rw [b]⟩
    · exact ⟨.inr a, r, by rw [b]⟩
/-! ### lists of terms on a stack -/
def LvL (H : Hp) : List Addr → List Tms → Prop
  | [], [] => True
  | a :: as, tm :: ts => (∃ us, H a = some (.lst us) ∧ Pairs H us tm) ∧ LvL H as ts
  | _, _ => False
theorem LvL.keep {H H' : Hp} (t : Tups H H') : ∀ {as : List Addr} {ts : List Tms}, LvL H as ts → (∀ a ∈ as, H' a = H a) → LvL H' as ts
  | [], [], _, _ => trivial
  | a :: as, tm :: ts, h, e => ⟨let ⟨us, h1, h2⟩ := h.1; ⟨us, by rw [e a List.mem_cons_self]; exact h1, h2.mono t⟩, LvL.keep t h.2 fun b hb => e b (List.mem_cons_of_mem _ hb)⟩
theorem LvL.some {H : Hp} : ∀ {as : List Addr} {ts : List Tms}, LvL H as ts → ∀ a ∈ as, ∃ us, H a = some (.lst us)
  | a :: as, tm :: ts, h, b, hb => by
    rcases List.mem_cons.mp hb with q | q
    · obtain ⟨us, h1, _⟩ := h.1
      rw [q]; exact ⟨us, h1⟩
    · exact LvL.some h.2 b q
theorem LvL.len {H : Hp} : ∀ {as : List Addr} {ts : List Tms}, LvL H as ts → as.length = ts.length
  | [], [], _ => rfl
  | a :: as, tm :: ts, h => by rw [List.length_cons, List.length_cons, LvL.len h.2]
structure RT (H0 H : Hp) (lv sn : Addr) (as : List Addr) (ts : List Tms) (ss : List Bool) : Prop where
  same : Same H0 H
  lvl : H lv = some (.lst (as.map V.ref).reverse)
  sgn : H sn = some (.lst (ss.map fun b => V.int (sg b)).reverse)
  nd : as.Nodup
  new : ∀ a ∈ as, H0 a = none ∧ a ≠ lv ∧ a ≠ sn
  lists : LvL H as ts
theorem RT.mono {H0 H H' : Hp} {lv sn : Addr} {as : List Addr} {ts : List Tms} {ss : List Bool} (r : RT H0 H lv sn as ts ss) (s : Same H H') : RT H0 H' lv sn as ts ss :=
  ⟨r.same.trans s, s _ _ r.lvl, s _ _ r.sgn, r.nd, r.new, r.lists.keep (Tups.of_same s) fun a ha => by
    obtain ⟨us, h⟩ := r.lists.some a ha
    rw [h, s _ _ h]⟩
theorem RT.push {H0 H : Hp} {lv sn a' : Addr} {as : List Addr} {ts : List Tms} {ss : List Bool} {b : Bool} (r : RT H0 H lv sn as ts ss) (n1 : H0 lv = none) (n2 : H0 sn = none) (hls : lv ≠ sn)
    (ha : (upd H sn (.lst ((b :: ss).map fun b => V.int (sg b)).reverse)) a' = none) :
    RT H0 (upd (upd (upd H sn (.lst ((b :: ss).map fun b => V.int (sg b)).reverse)) a' (.lst [])) lv (.lst ((a' :: as).map V.ref).reverse)) lv sn (a' :: as) ([] :: ts) (b :: ss) := by
  have t1 := tups_lst (o := .lst ((b :: ss).map fun b => V.int (sg b)).reverse) r.sgn
  have s1 := same_set (o := .lst ((b :: ss).map fun b => V.int (sg b)).reverse) r.same n2
  have k1 : ∀ a ∈ as, (upd H sn (.lst ((b :: ss).map fun b => V.int (sg b)).reverse)) a = H a := fun a h => upd_ne (r.new a h).2.2
  have e1 : (upd H sn (.lst ((b :: ss).map fun b => V.int (sg b)).reverse)) lv = some (.lst (as.map V.ref).reverse) := by rw [upd_ne hls]; exact r.lvl
  have l1 := r.lists.keep t1 k1
  have s2 := same_new ha (.lst [])
  have hal : a' ≠ lv := fun e => by rw [e, e1] at ha; cases ha
  have has : a' ≠ sn := fun e => by rw [e, upd_same] at ha; cases ha
  have hna : a' ∉ as := fun h => by
    obtain ⟨us, z⟩ := l1.some a' h
    rw [z] at ha; cases ha
  have e2 := s2 _ _ e1
  have t3 := tups_lst (o := .lst ((a' :: as).map V.ref).reverse) e2
  refine ⟨same_set (s1.trans s2) n1, upd_same, by rw [upd_ne hls.symm, upd_ne has.symm, upd_same], List.nodup_cons.mpr ⟨hna, r.nd⟩, fun a h => ?_, ⟨⟨[], by rw [upd_ne hal, upd_same], Pairs.nil _⟩, l1.keep ((Tups.of_same s2).trans t3) fun a h => ?_⟩⟩
  · rcases List.mem_cons.mp h with q | q
    · rw [q]
      exact ⟨none_back s1 ha, hal, has⟩
    · exact r.new a q
  · rw [upd_ne (r.new a h).2.1, upd_ne (fun e => hna (by rw [← e]; exact h))]
theorem RT.pop {H0 H : Hp} {lv sn a0 a1 p0 p1 : Addr} {as : List Addr} {cur o : Tms} {ts : List Tms} {ss : List Bool} {b : Bool} {us0 us1 : List V} (r : RT H0 H lv sn (a0 :: a1 :: as) (cur :: o :: ts) (b :: ss)) (n1 : H0 lv = none) (n2 : H0 sn = none) (hls : lv ≠ sn)
    (h0 : H a0 = some (.lst us0)) (c0 : Pairs H us0 cur) (h1 : H a1 = some (.lst us1)) (c1 : Pairs H us1 o)
    (hp0 : (upd H lv (.lst ((a1 :: as).map V.ref).reverse)) p0 = none)
    (hp1 : (upd (upd (upd H lv (.lst ((a1 :: as).map V.ref).reverse)) p0 (.tup us0)) sn (.lst (ss.map fun b => V.int (sg b)).reverse)) p1 = none) :
    RT H0 (upd (upd (upd (upd (upd H lv (.lst ((a1 :: as).map V.ref).reverse)) p0 (.tup us0)) sn (.lst (ss.map fun b => V.int (sg b)).reverse)) p1 (.tup [.int (sg b), .ref p0])) a1 (.lst (us1 ++ [.ref p1]))) lv sn (a1 :: as) ((o ++ [(b, ofTerms cur)]) :: ts) ss := by
  have na := r.new a1 (List.mem_cons_of_mem _ List.mem_cons_self)
  have t1 := tups_lst (o := .lst ((a1 :: as).map V.ref).reverse) r.lvl
  have s1 := same_set (o := .lst ((a1 :: as).map V.ref).reverse) r.same n1
  have s2 := same_new hp0 (.tup us0)
  have g1 : (upd H lv (.lst ((a1 :: as).map V.ref).reverse)) sn = some (.lst ((b :: ss).map fun b => V.int (sg b)).reverse) := by rw [upd_ne hls.symm]; exact r.sgn
  have g2 := s2 _ _ g1
  have t3 := tups_lst (o := .lst (ss.map fun b => V.int (sg b)).reverse) g2
  have s3 := same_set (o := .lst (ss.map fun b => V.int (sg b)).reverse) (s1.trans s2) n2
  have s4 := same_new hp1 (.tup [.int (sg b), .ref p0])
  have k1 : ∀ a ∈ a1 :: as, ∀ u, H a = some (.lst u) → (upd (upd (upd (upd H lv (.lst ((a1 :: as).map V.ref).reverse)) p0 (.tup us0)) sn (.lst (ss.map fun b => V.int (sg b)).reverse)) p1 (.tup [.int (sg b), .ref p0])) a = some (.lst u) := fun a h u e => by
    have z := r.new a (List.mem_cons_of_mem _ h)
    refine s4 _ _ ?_
    rw [upd_ne z.2.2]
    refine s2 _ _ ?_
    rw [upd_ne z.2.1]
    exact e
  have e4 := k1 a1 List.mem_cons_self us1 h1
  have t5 := tups_lst (o := .lst (us1 ++ [.ref p1])) e4
  have tA : Tups H _ := ((t1.trans (Tups.of_same s2)).trans t3).trans ((Tups.of_same s4).trans t5)
  have hl4 : ∀ u, H lv = some (.lst u) → (upd (upd (upd (upd H lv (.lst ((a1 :: as).map V.ref).reverse)) p0 (.tup us0)) sn (.lst (ss.map fun b => V.int (sg b)).reverse)) p1 (.tup [.int (sg b), .ref p0])) lv = some (.lst ((a1 :: as).map V.ref).reverse) := fun u _ => by
    refine s4 _ _ ?_
    rw [upd_ne hls]
    exact s2 _ _ upd_same
  have hs4 : (upd (upd (upd (upd H lv (.lst ((a1 :: as).map V.ref).reverse)) p0 (.tup us0)) sn (.lst (ss.map fun b => V.int (sg b)).reverse)) p1 (.tup [.int (sg b), .ref p0])) sn = some (.lst (ss.map fun b => V.int (sg b)).reverse) := s4 _ _ upd_same
  refine ⟨same_set (s3.trans s4) na.1, by rw [upd_ne na.2.1.symm]; exact hl4 _ r.lvl, by rw [upd_ne na.2.2.symm]; exact hs4, (List.nodup_cons.mp r.nd).2, fun a h => r.new a (List.mem_cons_of_mem _ h), ⟨⟨_, upd_same, ?_⟩, r.lists.2.2.keep tA fun a h => ?_⟩⟩
  · refine (c1.mono tA).push (t := (b, ofTerms cur)) (p := p1) (q := p0) (t5 _ _ upd_same) ?_
    refine NumAt.mono t5 (NumAt.same s4 (NumAt.mono t3 ⟨us0, upd_same, ?_⟩))
    exact (c0.mono (t1.trans (Tups.of_same s2))).num
  · obtain ⟨u, hu⟩ := r.lists.2.2.some a h
    rw [upd_ne (fun e => (List.nodup_cons.mp (List.nodup_cons.mp r.nd).2).1 (by rw [← e]; exact h)), hu]
    exact k1 a (List.mem_cons_of_mem _ h) u hu
end SR
set_option Elab.async false
set_option linter.all false
set_option maxRecDepth 100000
set_option maxHeartbeats 4000000
/-! Walks: the program's reader of texts. -/
namespace SR
open PySem PySem.Spec PyProof.Rows L2
open SR.Num (size height exps terms ofTerms)
set_option autoImplicit false
def spRdT (C : Addr) : Sp := fun vs H Q E => ∃ t : List Nat, vs = [.str (S t)] ∧ t.length ≤ 1200 ∧ (∀ n H' p, rdP t [] [] = some n → Same H H' → NumAt H' p n → Q (.ref p) H') ∧ (rdP t [] [] = none → ∀ H', Same H H' → E (.ref C) none H')
/-- the reader's state -/
def RS (H0 : Hp) (t : List Nat) (lv sn : Addr) (at' : Nat) (cur : Tms) (st : List (Bool × Tms)) (σ' : L2.St) (H' : Hp) : Prop :=
  ∃ as u, σ' = [some (.str (S t)), some (.ref lv), some (.ref sn), some (.int (at' : Int)), u] ∧ RT H0 H' lv sn as (cur :: st.map (·.2)) (st.map (·.1))
theorem len_line {t : List Nat} (h : t.length ≤ 10000) : (S t).length ≤ sizeLine := by rw [S_len]; exact Nat.le_of_lt (small_line h)
section
variable {P : Program} {w : World} {K : PySem.W.Frag} {mg : Str → Option Value} {base : Heap} {a : Ads}
theorem ok_readT (T : Top K mg a) (TX : TopX K w mg a) : FnOk P w K mg base (L2.CX P w) 1 a.sReadTuple a.sReadTupleD ["text"] (spRdT a.xBadForm) := by
  refine T.sReadTuple.F.okX (k := 0) sReadTuple_sc (fun vs H Q E q => by obtain ⟨_, rfl, _⟩ := q; rfl) (fun cdv A outer s H vs Q E hr q => ?_)
  obtain ⟨t, rfl, hl, q1, q2⟩ := q
  refine ⟨_, (pss_cons (ps_set (i := 1) sReadTuple_sc.nd rfl (Or.inl rfl) (pe_lst (pa_cons (pe_lst pa_nil) pa_nil)))
      (pss_cons (ps_set (i := 2) sReadTuple_sc.nd rfl (Or.inl rfl) (pe_lst pa_nil))
      (pss_cons (ps_set (i := 3) sReadTuple_sc.nd rfl (Or.inl rfl) pe_int)
      (pss_cons (ps_while (passes_of rfl) (pt_cmpR op_lt (pv 3) (pe_callB call_len_str (by rfl) T.bLen PySem.boot_len (pa_cons (pv 0) pa_nil)) (nomark _))
        (pss_cons (ps_if (pt_cmpR op_in_seq (pe_slice sl_str (pv 0) (po_some (pv 3)) (po_some (pe_op op_add (pv 3) pe_int))) (pe_tup (pa_cons pe_str (pa_cons pe_str pa_nil))) rfl)
          (pss_cons (ps_expr (pe_bm PySem.F.plainAttrs_list PySem.F.slot_list_append PySem.F.type_list_append mt_append (pv 2) (pa_cons (pe_ix ix_kdict (pe_glob (v := V.ref _) rfl TX.gS rfl) (pe_ix ix_str (pv 0) (pv 3) (fun _ _ => rfl)) (fun _ _ => rfl)) pa_nil)))
          (pss_cons (ps_expr (pe_bm PySem.F.plainAttrs_list PySem.F.slot_list_append PySem.F.type_list_append mt_append (pv 1) (pa_cons (pe_lst pa_nil) pa_nil)))
          (pss_one (ps_aug (i := 3) sReadTuple_sc.nd rfl (.inl rfl) pe_int ip_add))))
          (pss_one (ps_if (PW.pt (pw_and (pt_cmpR op_eq (pe_ix ix_str (pv 0) (pv 3) (fun _ _ => rfl)) pe_str (nomark _)) (pw_and1 (pt_cmpR op_gt (pe_callB (call_lenK (K := K)) (by rfl) T.bLen PySem.boot_len (pa_cons (pv 2) pa_nil)) pe_int (nomark _)))))
            (pss_cons (ps_set (i := 4) sReadTuple_sc.nd rfl (Or.inl rfl) (pe_callTy call_tuple_of (by rfl) T.bTuple (by decide +kernel) (pa_cons (pe_bm0 PySem.F.plainAttrs_list PySem.F.slot_list_pop PySem.F.type_list_pop mt_pop (pv 1)) pa_nil)))
            (pss_cons (ps_expr (pe_bm PySem.F.plainAttrs_list PySem.F.slot_list_append PySem.F.type_list_append mt_append (pe_ix (ix_listK (K := K)) (pv 1) (pe_un un_neg pe_int) (fun _ _ => rfl)) (pa_cons (pe_tup (pa_cons (pe_bm0 PySem.F.plainAttrs_list PySem.F.slot_list_pop PySem.F.type_list_pop mt_pop (pv 2)) (pa_cons (pv 4) pa_nil))) pa_nil)))
            (pss_one (ps_aug (i := 3) sReadTuple_sc.nd rfl (.inl rfl) pe_int ip_add))))
            (pss_one (ps_if (PW.pt (pw_and (pt_cmpR op_eq (pe_ix ix_str (pv 0) (pv 3) (fun _ _ => rfl)) pe_str (nomark _)) (pw_and (pt_cmpR op_eq (pe_callB (call_lenK (K := K)) (by rfl) T.bLen PySem.boot_len (pa_cons (pe_ix (ix_listK (K := K)) (pv 1) (pe_un un_neg pe_int) (fun _ _ => rfl)) pa_nil)) pe_int (nomark _)) (pw_and1 (pt_cmpR op_in_seq (pe_slice sl_str (pv 0) (po_some (pe_op op_add (pv 3) pe_int)) (po_some (pe_op op_add (pv 3) pe_int))) (pe_tup (pa_cons pe_str (pa_cons pe_str pa_nil))) rfl)))))
              (pss_one (ps_aug (i := 3) sReadTuple_sc.nd rfl (.inl rfl) pe_int ip_add))
              (pss_one (L2.ps_raise rfl (L2.takes_of rfl rfl rfl rfl) (L2.pmk_own PySem.F.excBase_ValueError TX.bad.x TX.bad.g TX.bad.k (raises_own TX.bad.b TX.bad.t) rfl))))))))
        (pss_one (ps_if (pt_cmpR op_gt (pe_callB (call_lenK (K := K)) (by rfl) T.bLen PySem.boot_len (pa_cons (pv 1) pa_nil)) (pe_op op_add (pe_glob (v := V.int _) rfl T.mHeight.choose_spec ⟨_, rfl⟩) pe_int) (nomark _))
          (pss_one (L2.ps_raise rfl (L2.takes_of rfl rfl rfl rfl) (L2.pmk_own PySem.F.excBase_ValueError TX.bad.x TX.bad.g TX.bad.k (raises_own TX.bad.b TX.bad.t) rfl)))
          pss_nil))))
      (pss_cons (ps_if (pt_cmpR op_gt (pe_callB (call_lenK (K := K)) (by rfl) T.bLen PySem.boot_len (pa_cons (pv 2) pa_nil)) pe_int (nomark _))
        (pss_one (L2.ps_raise rfl (L2.takes_of rfl rfl rfl rfl) (L2.pmk_own PySem.F.excBase_ValueError TX.bad.x TX.bad.g TX.bad.k (raises_own TX.bad.b TX.bad.t) rfl)))
        pss_nil)
      (pss_one (ps_ret (pe_callTy call_tuple_of (by rfl) T.bTuple (by decide +kernel) (pa_cons (pe_ix (ix_listK (K := K)) (pv 1) pe_int (fun _ _ => rfl)) pa_nil))))))))), ?_⟩
  have hS : (S t).length ≤ sizeLine := len_line (by omega)
  refine ⟨Nat.zero_le _, fun a0 ha0 => ⟨small_line (n := 1) (by omega) |> Nat.le_of_lt, fun lv hlv => ?_⟩⟩
  have s1 := same_new ha0 (.lst [])
  have s2 := same_new hlv (.lst [.ref a0])
  refine ⟨Nat.zero_le _, fun sn hsn => ?_⟩
  have s3 := same_new hsn (.lst [])
  have nlv : H lv = none := none_back s1 hlv
  have nsn : H sn = none := none_back (s1.trans s2) hsn
  have hls : lv ≠ sn := fun e => by rw [← e, upd_same] at hsn; cases hsn
  have h0l : a0 ≠ lv := fun e => by rw [← e, upd_same] at hlv; cases hlv
  have h0s : a0 ≠ sn := fun e => by rw [← e, s2 _ _ upd_same] at hsn; cases hsn
  have r0 : RT H (upd (upd (upd H a0 (.lst [])) lv (.lst [.ref a0])) sn (.lst [])) lv sn [a0] [[]] [] :=
    ⟨(s1.trans s2).trans s3, s3 _ _ upd_same, upd_same, by simp, fun x hx => by rw [List.mem_singleton.mp hx]; exact ⟨ha0, h0l, h0s⟩, ⟨⟨[], s3 _ _ (s2 _ _ upd_same), Pairs.nil _⟩, trivial⟩⟩
  refine ⟨fun m σ' H' => ∃ at' cur st, RS H t lv sn at' cur st σ' H' ∧ at' ≤ t.length ∧ m = t.length - at' ∧ st.length + 1 ≤ 41 ∧ (∀ tm ∈ cur :: st.map (·.2), tm.length ≤ at') ∧ rdP (t.drop at') cur st = rdP t [] [], ⟨t.length, 0, [], [], ⟨[a0], _, rfl, r0⟩, Nat.zero_le _, rfl, by simp, by simp, rfl⟩, ?_⟩
  rintro m σ' H' ⟨at', cur, st, ⟨as, u, rfl, r⟩, hat, rfl, hst, hbd, hrd⟩
  have hSl := S_len t
  refine ⟨_, rfl, _, rfl, _, rfl, hS, _, _, rfl, rfl, _, rfl, tst (fun e => ?_) (fun e => ?_)⟩
  · rw [hSl] at e
    have hlt : at' < t.length := by omega
    obtain ⟨c, rr, hd⟩ : ∃ c rr, t.drop at' = c :: rr := ⟨_, _, List.drop_eq_getElem_cons hlt⟩
    rw [hd, rdP_step] at hrd
    refine ⟨fun σ' H' => ∃ at'' cur st, RS H t lv sn at'' cur st σ' H' ∧ at'' ≤ t.length ∧ at' < at'' ∧ st.length + 1 ≤ 41 ∧ (∀ tm ∈ cur :: st.map (·.2), tm.length ≤ at'') ∧ rdP (t.drop at'') cur st = rdP t [] [], fun σ2 H2 ⟨x, y, z, g1, g2, g3, g4, gb, g5⟩ => ⟨t.length - x, by omega, x, y, z, g1, g2, rfl, g4, gb, g5⟩, ?_⟩
    refine seq_cut (fun σ' H' => ∃ at'' cur st, RS H t lv sn at'' cur st σ' H' ∧ at'' ≤ t.length ∧ at' < at'' ∧ (∀ tm ∈ cur :: st.map (·.2), tm.length ≤ at'') ∧ ((st.length + 1 ≤ 41 ∧ rdP (t.drop at'') cur st = rdP t [] []) ∨ (¬ st.length + 1 ≤ 41 ∧ rdP t [] [] = none))) ?_ fun X hX => ?_
    · rintro σ2 H2 ⟨x, y, z, ⟨as2, u2, rfl, r2⟩, g2, g3, gb, g4⟩
      have hal := r2.lists.len
      rw [List.length_cons, List.length_map] at hal
      refine ⟨_, rfl, lv, _, rfl, .inl (SqL.of r2.lvl), _, _, rfl, rfl, _, _, rfl, rfl, _, rfl, tst (fun e => ?_) (fun e => ?_)⟩
      · rw [List.length_reverse, List.length_map, hal] at e
        rcases g4 with ⟨g4, _⟩ | ⟨_, g4⟩
        · exact absurd g4 (by omega)
        · exact q2 g4 H2 r2.same
      · rw [List.length_reverse, List.length_map, hal] at e
        rcases g4 with ⟨g4, g5⟩ | ⟨g4, _⟩
        · exact ⟨x, y, z, ⟨as2, u2, rfl, r2⟩, g2, g3, g4, gb, g5⟩
        · exact absurd e (by omega)
    · have hix : atI (S t).cps.toList (at' : Int) = some c := atI_nat (by rw [S_tl]; exact at_head hd)
      have hln : rr.length + 1 + at' = t.length := by
        have := congrArg List.length hd
        rw [List.length_drop, List.length_cons] at this
        omega
      have hal := r.lists.len
      rw [List.length_cons, List.length_map] at hal
      have hin : inV (.str (cutS (S t) (some (at' : Int)) (some ((at' : Int) + 2)))) [.str (S [43, 91]), .str (S [45, 91])] = isHead ((c :: rr).take 2) := by
        rw [show ((at' : Int) + 2) = ((at' + 2 : Nat) : Int) from rfl, cut_mid, hd, inS, Nat.add_sub_cancel_left]
        rfl
      refine ⟨_, rfl, _, rfl, _, rfl, _, rfl, _, _, rfl, rfl, _, rfl, S t, rfl, hS, le2, fun tp htp => ?_⟩
      have st1 := same_new htp (.tup [.str (S [43, 91]), .str (S [45, 91])])
      have r1 := r.mono st1
      refine ⟨tp, _, rfl, .inr (SqT.of upd_same), rfl, rfl, _, rfl, ite2 (fun e => ?_) (fun e => ?_)⟩
      · have e : isHead ((c :: rr).take 2) = true := by rw [← hin]; exact e
        rw [if_pos e] at hrd
        obtain ⟨hc, r', rfl⟩ := head_at e
        have hk : KDct K w a.signs ⟨#[c]⟩ (.int (sg (c == 45))) := by
          rcases hc with rfl | rfl
          · exact TX.sP
          · exact TX.sM
        refine ⟨.ref sn, rfl, .inl ⟨rfl, _, .inl (.inl r1.sgn)⟩, _, rfl, _, rfl, S t, _, c, rfl, rfl, hS, hix, a.signs, _, .int (sg (c == 45)), rfl, rfl, hk, sn, _, _, rfl, rfl, r1.sgn, ?_, ?_⟩
        · rw [List.length_reverse, List.length_map, List.length_map]
          exact small_line (by omega)
        have eq1 : ((st.map (·.1)).map fun b => V.int (sg b)).reverse ++ [V.int (sg (c == 45))] = (((c == 45) :: st.map (·.1)).map fun b => V.int (sg b)).reverse := by rw [List.map_cons, List.reverse_cons]
        rw [eq1]
        have elv : (upd (upd H' tp (.tup [.str (S [43, 91]), .str (S [45, 91])])) sn (.lst (((c == 45) :: st.map (·.1)).map fun b => V.int (sg b)).reverse)) lv = some (.lst (as.map V.ref).reverse) := by rw [upd_ne hls]; exact r1.lvl
        refine ⟨.ref lv, rfl, .inl ⟨rfl, _, .inl (.inl elv)⟩, Nat.zero_le _, fun a' ha' => ⟨lv, _, _, rfl, rfl, same_new ha' _ _ _ elv, ?_, ?_⟩⟩
        · rw [List.length_reverse, List.length_map]
          exact small_line (by omega)
        have eq2 : (as.map V.ref).reverse ++ [V.ref a'] = ((a' :: as).map V.ref).reverse := by rw [List.map_cons, List.reverse_cons]
        rw [eq2]
        have rp := r1.push (b := (c == 45)) nlv nsn hls ha'
        refine ⟨_, rfl, _, _, rfl, rfl, hX _ _ ⟨at' + 2, [], (c == 45, cur) :: st, ⟨a' :: as, _, rfl, rp⟩, ?_, by omega, ?_, ?_⟩⟩
        · rw [List.length_cons] at hln; omega
        · intro tm htm
          rcases List.mem_cons.mp htm with z | z
          · rw [z]; exact Nat.zero_le _
          · exact Nat.le_trans (hbd tm z) (by omega)
        · have ed : t.drop (at' + 2) = r' := by
            have := drop_next hd
            rw [show at' + 2 = (at' + 1) + 1 from rfl, ← List.drop_drop, this]
            rfl
          rw [ed]
          by_cases h41 : st.length + 2 ≤ 41
          · rw [if_pos h41] at hrd
            exact .inl ⟨h41, hrd⟩
          · rw [if_neg h41] at hrd
            exact .inr ⟨h41, hrd.symm⟩
      · have e : ¬ isHead ((c :: rr).take 2) = true := by rw [← hin]; exact e
        rw [if_neg e] at hrd
        have ed := drop_next hd
        apply wh_cut (c ≠ 93 ∨ st = [])
        case h =>
          intro rest
          refine ⟨_, rfl, _, rfl, S t, _, c, rfl, rfl, hS, hix, rfl, _, rfl, tstC (k := 93) (fun ec => ?_) (fun ec => rest (.inl ec))⟩
          refine ⟨_, rfl, sn, _, rfl, .inl (SqL.of r1.sgn), _, _, rfl, rfl, _, rfl, tst (fun e => ?_) (fun e => rest (.inr (List.length_eq_zero_iff.mp (by rw [List.length_reverse, List.length_map, List.length_map] at e; omega))))⟩
          subst ec
          cases st with
          | nil => exact absurd e (by simp)
          | cons so st =>
          obtain ⟨s, o⟩ := so
          cases as with
          | nil => cases hal
          | cons a0' as =>
          cases as with
          | nil => cases hal
          | cons a1 as =>
          obtain ⟨us0, g1, g2⟩ := r1.lists.1
          obtain ⟨us1, g3, g4⟩ := r1.lists.2.1
          have nv := r1.new a0' List.mem_cons_self
          have nv1 := r1.new a1 (List.mem_cons_of_mem _ List.mem_cons_self)
          have lvl' : (upd H' tp (.tup [.str (S [43, 91]), .str (S [45, 91])])) lv = some (.lst (((a1 :: as).map V.ref).reverse ++ [.ref a0'])) := by
            have := r1.lvl
            rw [List.map_cons, List.reverse_cons] at this
            exact this
          have sgn' : (upd H' tp (.tup [.str (S [43, 91]), .str (S [45, 91])])) sn = some (.lst (((st.map (·.1)).map fun b => V.int (sg b)).reverse ++ [.int (sg s)])) := by
            have := r1.sgn
            rw [List.map_cons, List.map_cons, List.reverse_cons] at this
            exact this
          refine ⟨.ref lv, rfl, .inl ⟨rfl, _, .inl (.inl lvl')⟩, lv, _, .ref a0', rfl, rfl, lvl', by simp, ?_⟩
          rw [List.dropLast_concat]
          refine ⟨a0', us0, rfl, .inl ⟨SqL.of (by rw [upd_ne nv.2.1]; exact g1), fun p0 hp0 => ?_⟩⟩
          have sp0 := same_new hp0 (.tup us0)
          have lv2 := sp0 _ _ (show (upd (upd H' tp (.tup [.str (S [43, 91]), .str (S [45, 91])])) lv (.lst ((a1 :: as).map V.ref).reverse)) lv = some (.lst ((a1 :: as).map V.ref).reverse) from upd_same)
          have a12 := sp0 _ _ (show (upd (upd H' tp (.tup [.str (S [43, 91]), .str (S [45, 91])])) lv (.lst ((a1 :: as).map V.ref).reverse)) a1 = some (.lst us1) by rw [upd_ne nv1.2.1]; exact g3)
          have sn2 := sp0 _ _ (show (upd (upd H' tp (.tup [.str (S [43, 91]), .str (S [45, 91])])) lv (.lst ((a1 :: as).map V.ref).reverse)) sn = some (.lst (((st.map (·.1)).map fun b => V.int (sg b)).reverse ++ [.int (sg s)])) by rw [upd_ne hls.symm]; exact sgn')
          refine ⟨_, rfl, _, rfl, lv, _, _, .ref a1, rfl, rfl, SqL.of lv2, ?_, .inl ⟨rfl, _, .inl (.inl a12)⟩, .ref sn, rfl, .inl ⟨rfl, _, .inl (.inl sn2)⟩, sn, _, .int (sg s), rfl, rfl, sn2, by simp, ?_⟩
          · rw [List.map_cons, List.reverse_cons]
            exact atI_last _ _
          rw [List.dropLast_concat]
          refine ⟨_, rfl, le2, fun p1 hp1 => ?_⟩
          have sp1 := same_new hp1 (.tup [.int (sg s), .ref p0])
          refine ⟨a1, us1, _, rfl, rfl, sp1 _ _ (by rw [upd_ne nv1.2.2]; exact a12), ?_, ?_⟩
          · have e4 : us1.length = o.length := g4.len
            rw [e4]
            have : o.length ≤ at' := hbd o (List.mem_cons_of_mem _ List.mem_cons_self)
            exact small_line (by omega)
          have rp := r1.pop nlv nsn hls g1 g2 g3 g4 hp0 hp1
          refine ⟨_, rfl, _, _, rfl, rfl, hX _ _ ⟨at' + 1, o ++ [(s, ofTerms cur)], st, ⟨a1 :: as, _, rfl, rp⟩, by omega, by omega, ?_, .inl ⟨?_, ?_⟩⟩⟩
          · intro tm htm
            rcases List.mem_cons.mp htm with z | z
            · rw [z, List.length_append, List.length_singleton]
              have : o.length ≤ at' := hbd o (List.mem_cons_of_mem _ List.mem_cons_self)
              omega
            · exact Nat.le_trans (hbd tm (List.mem_cons_of_mem _ (List.mem_cons_of_mem _ z))) (by omega)
          · rw [List.length_cons] at hst; omega
          · rw [ed]
            rw [if_pos rfl] at hrd
            exact hrd
        case b =>
          intro hno
          have hrd2 : (if c = 48 ∧ cur = [] ∧ (rr.take 1 = [] ∨ rr.take 1 = [93]) then rdP rr cur st else none) = rdP t [] [] := by
            rcases hno with z | z
            · rw [if_neg z] at hrd
              exact hrd
            · subst z
              by_cases h93 : c = 93
              · rw [if_pos h93] at hrd
                rw [if_neg (fun z => by rw [h93] at z; exact absurd z.1 (by decide))]
                exact hrd
              · rw [if_neg h93] at hrd
                exact hrd
          have hno2 : ¬ (c = 48 ∧ cur = [] ∧ (rr.take 1 = [] ∨ rr.take 1 = [93])) → rdP t [] [] = none := fun z => by rw [← hrd2, if_neg z]
          cases as with
          | nil => cases hal
          | cons a0' as =>
          obtain ⟨us0, g1, g2⟩ := r1.lists.1
          have lvl' : (upd H' tp (.tup [.str (S [43, 91]), .str (S [45, 91])])) lv = some (.lst ((as.map V.ref).reverse ++ [.ref a0'])) := by
            have := r1.lvl
            rw [List.map_cons, List.reverse_cons] at this
            exact this
          refine ⟨_, rfl, _, rfl, S t, _, c, rfl, rfl, hS, hix, rfl, _, rfl, tstC (k := 48) (fun ec => ?_) (fun ec => q2 (hno2 fun z => ec z.1) _ r1.same)⟩
          refine ⟨_, rfl, _, rfl, lv, _, _, .ref a0', rfl, rfl, SqL.of lvl', atI_last _ _, a0', us0, rfl, .inl (SqL.of g1), rfl, _, rfl, tstE (fun e0 => ?_) (fun e0 => q2 (hno2 fun z => e0 (by rw [g2.len, z.2.1]; rfl)) _ r1.same)⟩
          have ecur : cur = [] := List.length_eq_zero_iff.mp (by rw [← g2.len]; omega)
          have hin2 : inV (.str (cutS (S t) (some ((at' : Int) + 1)) (some ((at' : Int) + 2)))) [.str (S []), .str (S [93])] = (rr.take 1 == [] || rr.take 1 == [93]) := by
            rw [show ((at' : Int) + 2) = ((at' + 2 : Nat) : Int) from rfl, show ((at' : Int) + 1) = ((at' + 1 : Nat) : Int) from rfl, cut_mid, ed, inS, show at' + 2 - (at' + 1) = 1 by omega]
          refine ⟨_, rfl, _, rfl, _, _, rfl, rfl, _, rfl, _, rfl, _, _, rfl, rfl, _, rfl, S t, rfl, hS, le2, fun tq htq => ?_⟩
          have st2 := same_new htq (.tup [.str (S []), .str (S [93])])
          have r2 := r1.mono st2
          refine ⟨tq, _, rfl, .inr (SqT.of upd_same), rfl, rfl, _, rfl, ite2 (fun e => ?_) (fun e => ?_)⟩
          · have e : (rr.take 1 == [] || rr.take 1 == [93]) = true := by rw [← hin2]; exact e
            rw [Bool.or_eq_true, beq_iff_eq, beq_iff_eq] at e
            rw [if_pos ⟨ec, ecur, e⟩] at hrd2
            refine ⟨_, rfl, _, _, rfl, rfl, hX _ _ ⟨at' + 1, cur, st, ⟨a0' :: as, _, rfl, r2⟩, by omega, by omega, fun tm htm => Nat.le_trans (hbd tm htm) (by omega), .inl ⟨hst, ?_⟩⟩⟩
            rw [ed]
            exact hrd2
          · have e : ¬ (rr.take 1 == [] || rr.take 1 == [93]) = true := by rw [← hin2]; exact e
            rw [Bool.or_eq_true, beq_iff_eq, beq_iff_eq] at e
            exact q2 (hno2 fun z => e z.2.2) _ r2.same
  · rw [hSl] at e
    have hat' : at' = t.length := by omega
    rw [hat', List.drop_length, rdP] at hrd
    have hal := r.lists.len
    rw [List.length_cons, List.length_map] at hal
    refine ⟨_, rfl, sn, _, rfl, .inl (SqL.of r.sgn), _, _, rfl, rfl, _, rfl, tst (fun e => ?_) (fun e => ?_)⟩
    · rw [List.length_reverse, List.length_map, List.length_map] at e
      rw [if_neg (fun z => by rw [z] at e; exact absurd e (by decide))] at hrd
      exact q2 hrd.symm H' r.same
    · rw [List.length_reverse, List.length_map, List.length_map] at e
      have hz : st = [] := List.length_eq_zero_iff.mp (by omega)
      subst hz
      rw [if_pos rfl] at hrd
      cases as with
      | nil => cases hal
      | cons a1 as =>
        cases as with
        | cons a2 as => cases hal
        | nil =>
          obtain ⟨us, h1, h2⟩ := r.lists.1
          refine ⟨_, rfl, lv, _, _, _, rfl, rfl, SqL.of r.lvl, atI_nat (j := 0) rfl, a1, us, rfl, .inl ⟨SqL.of h1, fun p hp => ?_⟩⟩
          have s5 := same_new hp (.tup us)
          exact q1 _ _ p hrd.symm (r.same.trans s5) ⟨us, upd_same, (h2.mono (Tups.of_same s5)).num⟩
end
end SR
set_option Elab.async false
set_option linter.all false
set_option maxRecDepth 100000
set_option maxHeartbeats 4000000
/-! Walks: the program's reader of numbers. -/
namespace SR
open PySem PySem.Spec PyProof.Rows L2
open SR.Num (size height exps terms ofTerms)
set_option autoImplicit false
def StOk : List (Bool × Tms) → Prop
  | [] => True
  | (s, o) :: st => height (ofTerms o) + st.length ≤ 40 ∧ StOk st
theorem height_snoc (o : Tms) (s : Bool) (m : Num) : height (ofTerms (o ++ [(s, m)])) ≤ max (height (ofTerms o)) (1 + height m) := by
  refine height_exps _ _ fun x hx => ?_
  rw [Num.exps_eq, Num.terms_ofTerms, List.map_append] at hx
  rcases List.mem_append.mp hx with q | q
  · have : x ∈ exps (ofTerms o) := by rw [Num.exps_eq, Num.terms_ofTerms]; exact q
    have := exps_height this
    omega
  · rw [List.mem_singleton.mp q]
    show 1 + height m ≤ _
    omega
theorem rdP_height : ∀ (k : Nat) (t : List Nat) (cur : Tms) (st : List (Bool × Tms)) (n : Num), t.length ≤ k → rdP t cur st = some n → height (ofTerms cur) + st.length ≤ 40 → StOk st → height n ≤ 40
  | k, [], cur, st, n, _, h, h1, h2 => by
    rw [rdP] at h
    split at h
    · cases h; omega
    · exact nomatch h
  | 0, c :: r, cur, st, n, hk, _, _, _ => by rw [List.length_cons] at hk; omega
  | k + 1, c :: r, cur, st, n, hk, h, h1, h2 => by
    rw [List.length_cons] at hk
    rw [rdP_step] at h
    split at h
    · split at h
      · rename_i h41
        exact rdP_height k _ _ _ n (by rw [List.length_drop]; omega) h (by rw [List.length_cons]; show 0 + _ ≤ _; omega) ⟨h1, h2⟩
      · exact nomatch h
    · split at h
      · cases st with
        | nil => exact nomatch h
        | cons so st =>
          obtain ⟨s, o⟩ := so
          have hs := height_snoc o s (ofTerms cur)
          rw [List.length_cons] at h1
          have := h2.1
          exact rdP_height k r (o ++ [(s, ofTerms cur)]) st n (by omega) h (by omega) h2.2
      · split at h
        · exact rdP_height k _ _ _ n (by omega) h h1 h2
        · exact nomatch h
theorem rdP_size {t : List Nat} {n : Num} (h : rdP t [] [] = some n) (ht : t.length ≤ 1200) : size n ≤ 401 := by
  have e := rdP_zt t [] [] n h
  have e2 : zf t = zt n := e
  have h1 := zt_len n
  have h2 : (zf t).length ≤ t.length := List.length_filter_le ..
  rw [e2] at h2
  omega
def spRdN (C : Addr) : Sp := fun vs H Q E => ∃ t : List Nat, vs = [.str (S t)] ∧ t.length ≤ 10000000 ∧ SafeT t ∧ (∀ n H' p, readP t = some n → Same H H' → NumAt H' p n → Q (.ref p) H') ∧ (readP t = none → ∀ H', Same H H' → E (.ref C) none H')
theorem tstS {x y : List Nat} {A B : Prop} (h1 : x ≠ y → A) (h2 : x = y → B) : if (!decide (V.str (S x) = V.str (S y))) = true then A else B :=
  tstN (fun e => h1 fun z => e (by rw [z])) fun e => h2 (S_inj (V.str.inj e))
section
variable {P : Program} {w : World} {K : PySem.W.Frag} {mg : Str → Option Value} {base : Heap} {a : Ads}
theorem ok_readN (T : Top K mg a) (TX : TopX K w mg a) : FnOk P w K mg base (L2.CX P w) 123 a.sReadNumber a.sReadNumberD ["text"] (spRdN a.xBadForm) := by
  have GsCheckNumber := ok_check (P := P) (w := w) (base := base) T TX
  have GsReadTuple := (ok_readT (P := P) (w := w) (base := base) T TX).mono (show 1 ≤ 122 by omega)
  have GsNumberText := (ok_text (P := P) (w := w) (base := base) T 41).mono (show 41 ≤ 122 by omega)
  refine T.sReadNumber.F.okX (k := 122) sReadNumber_sc (fun vs H Q E q => by obtain ⟨_, rfl, _⟩ := q; rfl) (fun cdv A outer s H vs Q E hr q => ?_)
  obtain ⟨t, rfl, hl, hsf, q1, q2⟩ := q
  have tk := L2.takes_of (X := cxOf (L2.CX P w) P w K mg base ["text", "number"] "read_number" (defScope sReadNumber) a.sReadNumber cdv A outer s H E) rfl rfl rfl rfl
  refine ⟨_, (pss_cons (ps_if (pt_cmpR op_gt (pe_callB call_len_str (by rfl) T.bLen PySem.boot_len (pa_cons (pv 0) pa_nil)) (pe_op op_mul pe_int (pe_glob (v := V.int _) rfl T.mSize.choose_spec ⟨_, rfl⟩)) (nomark _))
        (pss_one (L2.ps_raise rfl tk (L2.pmk_own PySem.F.excBase_ValueError TX.bad.x TX.bad.g TX.bad.k (raises_own TX.bad.b TX.bad.t) rfl)))
        pss_nil)
      (pss_cons (ps_set (i := 1) sReadNumber_sc.nd rfl (Or.inl rfl) (callX T.sReadTuple GsReadTuple hr (fun σ => L2.passAt tk σ) (pa_cons (pv 0) pa_nil)))
      (pss_cons (L2H.ps_try_onlyX (tb := fun W => tDrop (tCallS (spCheck a.xNotAllowed) (WE W) (tCons (tVar 1) tNil))) (ts := fun _ _ _ => fun _ _ H' => E (.ref a.xBadForm) none H') rfl rfl ⟨rfl, by decide, .inl TX.not.g⟩ (fun hd => L2H.passesAt_of rfl hd) tk
          (fun W pn xe tk1 tk2 _ => pss_one (ps_expr (callX T.sCheckNumber GsCheckNumber hr (fun σ => L2N.passAt tk1 σ) (pa_cons (pv 1) pa_nil))))
          (fun a1 oe cls d pn hz hf tkS hot => pss_one (L2H.ps_raiseH hot tkS (L2N.pmk_own PySem.F.excBase_ValueError TX.bad.x TX.bad.g TX.bad.k (raises_own TX.bad.b TX.bad.t) rfl))))
      (pss_cons (ps_if (pt_cmpR op_ne (callD T.sNumberText GsNumberText hr (pa_cons (pv 1) pa_nil)) (pv 0) (nomark _))
        (pss_one (L2.ps_raise rfl tk (L2.pmk_own PySem.F.excBase_ValueError TX.bad.x TX.bad.g TX.bad.k (raises_own TX.bad.b TX.bad.t) rfl)))
        pss_nil)
      (pss_one (ps_ret (pv 1))))))), ?_⟩
  refine ⟨_, rfl, S t, rfl, by rw [S_len, sizeLine_eq]; omega, _, _, rfl, rfl, .inl (by decide), _, _, rfl, rfl, _, rfl, tst (fun e => ?_) (fun e => ?_)⟩
  · rw [S_len] at e
    refine q2 ?_ H (Same.refl H)
    rw [readP, if_pos (by omega)]
  · rw [S_len] at e
    have hl12 : t.length ≤ 1200 := by omega
    rw [readP, if_neg (by omega)] at q1 q2
    refine ⟨_, rfl, t, rfl, hl12, fun n H1 p e s1 h1 => ?_, fun e H1 s1 => ?_⟩
    · rw [e] at q1 q2
      simp only at q1 q2
      have hh := rdP_height t.length t [] [] n (Nat.le_refl _) e (by show 0 + 0 ≤ 40; omega) trivial
      have hz := rdP_size e hl12
      have bb : big = 1000000 := rfl
      refine ⟨_, rfl, p, n, rfl, h1, by omega, by omega, hsf.rdP e, fun H2 s2 => ⟨fun ec => ?_, fun ec => ⟨true, TX.en, fun _ x hx => ?_, fun z => nomatch z⟩⟩⟩
      · refine ⟨_, rfl, p, n, rfl, h1.same s2, by omega, by omega, fun H3 s3 => ⟨_, rfl, rfl, _, rfl, tstS (fun et => ?_) (fun et => ?_)⟩⟩
        · refine q2 ?_ _ ((s1.trans s2).trans s3)
          rw [if_neg fun z => et z.2]
        · exact ⟨_, rfl, q1 n _ p (by rw [if_pos ⟨ec, et⟩]) ((s1.trans s2).trans s3) (h1.same (s2.trans s3))⟩
      · refine q2 ?_ _ (s1.trans s2)
        rw [if_neg fun z => by rw [ec] at z; exact absurd z.1 (by decide)]
    · rw [e] at q2
      exact q2 rfl _ s1
end
end SR
set_option Elab.async false
set_option linter.all false
set_option maxRecDepth 100000
set_option maxHeartbeats 4000000
/-! Walks: the law's reader. -/
namespace SR
open PySem PySem.Spec PyProof.Rows L2
open SR.Num (size height exps terms ofTerms)
set_option autoImplicit false
def closeI (at' : Nat) : Option Nat → Int
  | some j => ((at' + j : Nat) : Int)
  | none => -1
def spClose : Sp := fun vs H Q _ => ∃ (t : List Nat) (at' : Nat), vs = [.str (S t), .int (at' : Int)] ∧ at' ≤ t.length ∧ t.length ≤ 10000000 ∧ Q (.int (closeI at' (closeS 0 (t.drop at')))) H
theorem long_line {t : List Nat} (h : t.length ≤ 10000000) : (S t).length ≤ sizeLine := by rw [S_len, sizeLine_eq]; omega
theorem close_step (d : Int) (c : Nat) (r : List Nat) : closeS d (c :: r) =
    if c = 93 ∧ d - 1 = 0 then some 0 else (closeS (if c = 91 then d + 1 else if c = 93 then d - 1 else d) r).map (· + 1) := by
  rw [closeS]
  by_cases h1 : c = 91
  · rw [if_pos h1, if_pos h1, if_neg (fun z => by rw [h1] at z; exact absurd z.1 (by decide))]
  · rw [if_neg h1, if_neg h1]
    by_cases h2 : c = 93
    · rw [if_pos h2, if_pos h2]
      by_cases h3 : d - 1 = 0
      · rw [if_pos h3, if_pos ⟨h2, h3⟩]
      · rw [if_neg h3, if_neg fun z => h3 z.2]
    · rw [if_neg h2, if_neg h2, if_neg fun z => h2 z.1]
def rdX : Nat → (List Nat → Option Num) × Bool
  | 0 => (fun _ => none, true)
  | d + 1 => (rdL d, false)
theorem loop_shut (rd : List Nat → Option Num) (k : Nat) (t : List Nat) : rdLoop rd true k t = if t = [] then some .nil else none := by
  cases k with
  | zero => rw [rdLoop]
  | succ k =>
    rw [rdLoop]
    by_cases h : t = []
    · rw [if_pos h, if_pos h]
    · rw [if_neg h, if_neg h]
      cases closeS 0 (t.drop 1) with
      | none => rfl
      | some j => exact if_neg fun z => absurd z.2 (by decide)
theorem rdL_eq (d : Nat) (t : List Nat) : rdL d t = if t = [48] then some .nil else match rdLoop (rdX d).1 (rdX d).2 400 t with
    | some (.cons s e r) => some (.cons s e r)
    | _ => none := by
  cases d with
  | zero =>
    rw [rdL]
    by_cases h : t = [48]
    · rw [if_pos h, if_pos h]
    · rw [if_neg h, if_neg h]
      have e0 : rdLoop (rdX 0).1 (rdX 0).2 400 t = _ := loop_shut (fun _ => none) 400 t
      rw [e0]
      by_cases h2 : t = []
      · rw [if_pos h2]
      · rw [if_neg h2]
  | succ d => rw [rdL]; rfl
def spRead (d : Nat) : Sp := fun vs H Q _ => ∃ t : List Nat, vs = [.str (S t), .int (d : Int)] ∧ t.length ≤ 10000000 ∧ (∀ n H' p, rdL d t = some n → Same H H' → NumAt H' p n → Q (.ref p) H') ∧ (rdL d t = none → ∀ H', Same H H' → Q .non H')
theorem tstSE {x y : List Nat} {A B : Prop} (h1 : x = y → A) (h2 : x ≠ y → B) : if decide (V.str (S x) = V.str (S y)) = true then A else B :=
  tst (fun e => h1 (S_inj (V.str.inj e))) fun e => h2 fun z => e (by rw [z])
section
variable {P : Program} {w : World} {K : PySem.W.Frag} {mg : Str → Option Value} {base : Heap} {a : Ads}
theorem ok_close (T : Top K mg a) (k : Nat) : FnOk P w K mg base CX0 (k + 1) a.lClose a.lCloseD ["_law_text_here", "_law_at"] spClose := by
  refine T.lClose.F.ok lClose_sc (fun vs H Q E q => by obtain ⟨_, _, rfl, _⟩ := q; rfl) (fun cdv A outer s H vs Q E hr q => ?_)
  obtain ⟨t, at', rfl, ha, hl, q⟩ := q
  refine ⟨_, (pss_cons (ps_set (i := 2) lClose_sc.nd rfl (Or.inl rfl) pe_int)
      (pss_cons (ps_for PassesOwn.never rfl (pi_range2 rfl T.bRange (pa_cons (pv 1) (pa_cons (pe_callB call_len_str (by rfl) T.bLen PySem.boot_len (pa_cons (pv 0) pa_nil)) pa_nil))) (pg_name (i := 3) lClose_sc.nd rfl (Or.inl rfl))
        (pss_cons (ps_if (pt_cmpR op_eq (pe_ix ix_str (pv 0) (pv 3) (fun _ _ => rfl)) pe_str (nomark _))
          (pss_one (ps_set (i := 2) lClose_sc.nd rfl (Or.inl rfl) (pe_op op_add (pv 2) pe_int)))
          pss_nil)
        (pss_one (ps_if (pt_cmpR op_eq (pe_ix ix_str (pv 0) (pv 3) (fun _ _ => rfl)) pe_str (nomark _))
          (pss_cons (ps_set (i := 2) lClose_sc.nd rfl (Or.inl rfl) (pe_op op_sub (pv 2) pe_int))
          (pss_one (ps_if (pt_cmpR op_eq (pv 2) pe_int (nomark _))
            (pss_one (ps_ret (pv 3)))
            pss_nil)))
          pss_nil))))
      (pss_one (ps_ret (pe_un un_neg pe_int))))), ?_⟩
  have hS := long_line hl
  have hSl := S_len t
  refine seq_cut (fun σ' H' => σ' = [some (.str (S t)), some (.int at'), some (.int 0), none] ∧ H = H') ?_ fun X hX => hX _ _ ⟨rfl, rfl⟩
  rintro _ _ ⟨rfl, rfl⟩
  refine ⟨_, rfl, _, rfl, S t, rfl, hS, _, _, rfl, ⟨by omega, by omega, by omega, by omega⟩, ?_⟩
  refine for_range (fun i σ' H' => H = H' ∧ ∃ (d : Int) (u : Option V), σ' = [some (.str (S t)), some (.int at'), some (.int d), u] ∧ closeS 0 (t.drop at') = (closeS d (t.drop (at' + i))).map (· + i)) ⟨rfl, 0, _, rfl, by simp⟩ ?_ ?_
  · rintro i σ' H' hi ⟨rfl, d, u, rfl, hc⟩
    rw [hSl] at hi
    have hlt : at' + i < t.length := by omega
    obtain ⟨c, rr, hd⟩ : ∃ c rr, t.drop (at' + i) = c :: rr := ⟨_, _, List.drop_eq_getElem_cons hlt⟩
    have hix : atI (S t).cps.toList ((at' : Int) + (i : Int)) = some c := atI_nat (j := at' + i) (by rw [S_tl]; exact at_head hd)
    rw [hd, close_step] at hc
    have hnx := drop_next hd
    refine seq_cut (fun σ' H' => H = H' ∧ σ' = [some (.str (S t)), some (.int at'), some (.int (if c = 91 then d + 1 else d)), some (.int ((at' : Int) + (i : Int)))]) ?_ fun X hX => ?_
    · rintro _ _ ⟨rfl, rfl⟩
      refine ⟨_, rfl, _, rfl, S t, _, c, rfl, rfl, hS, hix, rfl, _, rfl, tstC (k := 93) (fun e => ?_) (fun e => ?_)⟩
      · subst e
        refine ⟨_, rfl, _, _, rfl, rfl, _, rfl, rfl, _, rfl, tstE (fun e => ?_) (fun e => ?_)⟩
        · rw [if_neg (by decide)] at e
          rw [if_pos ⟨rfl, e⟩] at hc
          refine ⟨_, rfl, ?_⟩
          rw [hc] at q
          show Q (.int ((at' : Int) + (i : Int))) _
          have e2 : closeI at' (Option.map (· + i) (some 0)) = (at' : Int) + (i : Int) := by show ((at' + (0 + i) : Nat) : Int) = _; omega
          rw [e2] at q
          exact q
        · rw [if_neg (by decide)] at e
          rw [if_neg fun z => e z.2, if_neg (by decide), if_pos rfl] at hc
          refine ⟨rfl, d - 1, _, rfl, ?_⟩
          rw [hc, show at' + (i + 1) = at' + i + 1 by omega, hnx, Option.map_map]
          congr 1
          funext x
          show x + 1 + i = x + (i + 1)
          omega
      · rw [if_neg fun z => e z.1] at hc
        refine ⟨rfl, _, _, rfl, ?_⟩
        rw [hc, show at' + (i + 1) = at' + i + 1 by omega, hnx, Option.map_map]
        rw [show (if c = 91 then d + 1 else if c = 93 then d - 1 else d) = (if c = 91 then d + 1 else d) by rw [if_neg e]]
        congr 1
        funext x
        show x + 1 + i = x + (i + 1)
        omega
    · refine ⟨_, rfl, _, rfl, S t, _, c, rfl, rfl, hS, hix, rfl, _, rfl, tstC (k := 91) (fun e => ?_) (fun e => ?_)⟩
      · refine ⟨_, rfl, _, _, rfl, rfl, hX _ _ ⟨rfl, ?_⟩⟩
        rw [if_pos e]; rfl
      · refine hX _ _ ⟨rfl, ?_⟩
        rw [if_neg e]; rfl
  · rintro σ' H' ⟨rfl, d, u, rfl, hc⟩
    rw [hSl, show at' + ((t.length : Int) - (at' : Int)).toNat = t.length by omega, List.drop_length] at hc
    refine ⟨1, rfl, ?_⟩
    rw [hc] at q
    exact q
end
end SR
set_option Elab.async false
set_option linter.all false
set_option maxRecDepth 100000
set_option maxHeartbeats 4000000
/-! Walks: the law's reader, whole. -/
namespace SR
open PySem PySem.Spec PyProof.Rows L2
open SR.Num (size height exps terms ofTerms)
set_option autoImplicit false
theorem chr_dec (c : Nat) : decide (V.str ⟨#[c]⟩ = V.str (S [45])) = (c == 45) := by
  by_cases h : c = 45
  · rw [h]; rfl
  · rw [decide_eq_false (fun e => h (by
      have := congrArg (fun s : Str => s.cps.toList) (V.str.inj e)
      simpa [S] using this))]
    exact (beq_eq_false_iff_ne.mpr h).symm
section
variable {P : Program} {w : World} {K : PySem.W.Frag} {mg : Str → Option Value} {base : Heap} {a : Ads}
theorem ok_read1 (T : Top K mg a) (d : Nat) {k : Nat} {sp : Sp} (GlRead : FnOk P w K mg base CX0 (k + 1) a.lRead a.lReadD ["_law_text_here", "_law_levels"] sp) (hG : ∀ d', d = d' + 1 → sp = spRead d') :
    FnOk P w K mg base CX0 (k + 2) a.lRead a.lReadD ["_law_text_here", "_law_levels"] (spRead d) := by
  have GlClose := ok_close (P := P) (w := w) (base := base) T k
  refine T.lRead.F.ok (k := k + 1) lRead_sc (fun vs H Q E q => by obtain ⟨_, rfl, _⟩ := q; rfl) (fun cdv A outer s H vs Q E hr q => ?_)
  obtain ⟨t, rfl, hl, q1, q2⟩ := q
  refine ⟨_, (pss_cons (ps_if (pt_cmpR op_eq (pv 0) pe_str (nomark _))
        (pss_one (ps_ret (pe_tup pa_nil)))
        pss_nil)
      (pss_cons (ps_set (i := 2) lRead_sc.nd rfl (Or.inl rfl) (pe_lst pa_nil))
      (pss_cons (ps_set (i := 3) lRead_sc.nd rfl (Or.inl rfl) pe_int)
      (pss_cons (ps_for PassesOwn.never rfl (pi_range1 rfl T.bRange (pa_cons pe_int pa_nil)) (pg_name (i := 4) lRead_sc.nd rfl (Or.inl rfl))
        (pss_cons (ps_if (pt_cmpR op_eq (pv 3) (pe_callB call_len_str (by rfl) T.bLen PySem.boot_len (pa_cons (pv 0) pa_nil)) (nomark _))
          (pss_one ps_break)
          pss_nil)
        (pss_cons (ps_set (i := 5) lRead_sc.nd rfl (Or.inl rfl) (callD T.lClose GlClose hr (pa_cons (pv 0) (pa_cons (pe_op op_add (pv 3) pe_int) pa_nil))))
        (pss_cons (ps_if (PW.pt (pw_or (pt_cmpR op_notIn_seq (pe_slice sl_str (pv 0) (po_some (pv 3)) (po_some (pe_op op_add (pv 3) pe_int))) (pe_tup (pa_cons pe_str (pa_cons pe_str pa_nil))) rfl) (pw_or (pt_cmpR op_lt (pv 5) pe_int (nomark _)) (pw_or1 (pt_cmpR op_eq (pv 1) pe_int (nomark _))))))
          (pss_one (ps_ret pe_non))
          pss_nil)
        (pss_cons (ps_set (i := 6) lRead_sc.nd rfl (Or.inl rfl) (callD T.lRead GlRead hr (pa_cons (pe_slice sl_str (pv 0) (po_some (pe_op op_add (pv 3) pe_int)) (po_some (pv 5))) (pa_cons (pe_op op_sub (pv 1) pe_int) pa_nil))))
        (pss_cons (ps_if (pt_cmpR op_isN (pv 6) pe_non (nomark _))
          (pss_one (ps_ret pe_non))
          pss_nil)
        (pss_cons (ps_expr (pe_bm PySem.F.plainAttrs_list PySem.F.slot_list_append PySem.F.type_list_append mt_append (pv 2) (pa_cons (pe_tup (pa_cons (pe_ix (ix_listK (K := K)) (pe_lst (pa_cons pe_int (pa_cons (pe_un un_neg pe_int) pa_nil))) (pe_callTy call_int1 (by rfl) T.bInt (by decide +kernel) (pa_cons (pe_cmpR op_eq (pe_ix ix_str (pv 0) (pv 3) (fun _ _ => rfl)) pe_str (nomark _)) pa_nil)) (fun _ _ => rfl)) (pa_cons (pv 6) pa_nil))) pa_nil)))
        (pss_one (ps_set (i := 3) lRead_sc.nd rfl (Or.inl rfl) (pe_op op_add (pv 5) pe_int))))))))))
      (pss_cons (ps_if (PW.pt (pw_or (pt_cmpR op_eq (pe_callB (call_lenK (K := K)) (by rfl) T.bLen PySem.boot_len (pa_cons (pv 2) pa_nil)) pe_int (nomark _)) (pw_or1 (pt_cmpR op_ne (pv 3) (pe_callB call_len_str (by rfl) T.bLen PySem.boot_len (pa_cons (pv 0) pa_nil)) (nomark _)))))
        (pss_one (ps_ret pe_non))
        pss_nil)
      (pss_one (ps_ret (pe_callTy call_tuple_of (by rfl) T.bTuple (by decide +kernel) (pa_cons (pv 2) pa_nil))))))))), ?_⟩
  have hS := long_line hl
  have hSl := S_len t
  rw [rdL_eq] at q1 q2
  refine ⟨_, rfl, rfl, _, rfl, tstSE (x := t) (y := [48]) (fun e => ?_) (fun e => ?_)⟩
  · rw [if_pos e] at q1
    exact ⟨Nat.zero_le _, fun p hp => q1 .nil _ p rfl (same_new hp _) ⟨[], upd_same, rfl⟩⟩
  · rw [if_neg e] at q1 q2
    refine ⟨Nat.zero_le _, fun L hL => ?_⟩
    have s0 := same_new hL (.lst [])
    refine seq_cut (fun σ' H' => H' = upd H L (.lst []) ∧ σ' = [some (.str (S t)), some (.int d), some (.ref L), none, none, none, none]) ?_ fun X hX => hX _ _ ⟨rfl, rfl⟩
    rintro _ _ ⟨rfl, rfl⟩
    refine seq_cut (fun σ' H' => H' = upd H L (.lst []) ∧ σ' = [some (.str (S t)), some (.int d), some (.ref L), some (.int 0), none, none, none]) ?_ fun X hX => hX _ _ ⟨rfl, rfl⟩
    rintro _ _ ⟨rfl, rfl⟩
    generalize hrd : (rdX d).1 = rd at q1 q2
    generalize hsh : (rdX d).2 = sh at q1 q2
    generalize hR : rdLoop rd sh 400 t = R at q1 q2
    refine seq_cut (fun σ' H' => Same H H' ∧ ∃ (at' : Nat) (tms : Tms) (us : List V) (x y z : Option V), σ' = [some (.str (S t)), some (.int d), some (.ref L), some (.int (at' : Int)), x, y, z] ∧ at' ≤ t.length ∧ H' L = some (.lst us) ∧ Pairs H' us tms ∧
      R = if at' = t.length then some (ofTerms tms) else none) ?_ fun X hX => ?_
    · rintro σ' H' ⟨sm, at', tms, us, x, y, z, rfl, hat, eL, hp, hres⟩
      rw [hres] at q1 q2
      apply wh_cut (tms = [] ∨ at' ≠ t.length)
      case h =>
        intro bad
        refine ⟨_, rfl, L, us, rfl, .inl (SqL.of eL), rfl, _, rfl, tstE (fun e => bad (.inl (List.length_eq_zero_iff.mp (by rw [← hp.len]; omega)))) (fun e => ?_)⟩
        refine ⟨_, rfl, _, rfl, S t, rfl, hS, rfl, _, rfl, tstNE (fun e2 => bad (.inr fun z => e2 (by rw [hSl, z]))) (fun e2 => ?_)⟩
        rw [hSl] at e2
        rw [if_pos (show at' = t.length by omega)] at q1
        refine ⟨_, rfl, L, us, rfl, .inl ⟨SqL.of eL, fun p hpn => ?_⟩⟩
        have s1 := same_new hpn (.tup us)
        cases tms with
        | nil => exact absurd (by rw [hp.len]; rfl) e
        | cons u r =>
          obtain ⟨sb, eb⟩ := u
          exact q1 (ofTerms ((sb, eb) :: r)) _ p rfl (sm.trans s1) ⟨us, upd_same, (hp.mono (Tups.of_same s1)).num⟩
      case b =>
        intro hb
        refine q2 ?_ _ sm
        rcases hb with rfl | hb
        · by_cases h2 : at' = t.length
          · rw [if_pos h2]; rfl
          · rw [if_neg h2]
        · rw [if_neg hb]
    · refine ⟨400, rfl, by decide, by decide, ?_⟩
      refine for_range (fun i σ' H' => i ≤ 400 ∧ Same H H' ∧ ∃ (at' : Nat) (tms : Tms) (us : List V) (x y z : Option V), σ' = [some (.str (S t)), some (.int d), some (.ref L), some (.int (at' : Int)), x, y, z] ∧ at' ≤ t.length ∧ H' L = some (.lst us) ∧ Pairs H' us tms ∧ tms.length ≤ i ∧
        R = (rdLoop rd sh (400 - i) (t.drop at')).map fun r => ofTerms (tms ++ terms r)) ⟨by omega, s0, 0, [], [], _, _, _, rfl, Nat.zero_le _, upd_same, Pairs.nil _, Nat.zero_le _, ?_⟩ ?_ ?_
      · rw [← hR]
        show rdLoop rd sh 400 t = (rdLoop rd sh 400 t).map fun r => ofTerms ([] ++ terms r)
        cases rdLoop rd sh 400 t with
        | none => rfl
        | some r => show some r = some (ofTerms (terms r)); rw [Num.ofTerms_terms]
      · rintro i σ' H' hi ⟨_, sm, at', tms, us, x, y, z, rfl, hat, eL, hp, htl, hres⟩
        have hi : i < 400 := hi
        obtain ⟨k', hk'⟩ : ∃ k', 400 - i = k' + 1 := ⟨400 - i - 1, by omega⟩
        rw [hk', rdLoop] at hres
        have hk2 : 400 - (i + 1) = k' := by omega
        refine ⟨_, rfl, _, rfl, S t, rfl, hS, rfl, _, rfl, tstE (fun e => ?_) (fun e => ?_)⟩
        · rw [hSl] at e
          have e : at' = t.length := by omega
          rw [e, List.drop_length, if_pos rfl] at hres
          refine hX _ _ ⟨sm, at', tms, us, _, y, z, rfl, hat, eL, hp, ?_⟩
          rw [hres, if_pos e]
          show some (ofTerms (tms ++ [])) = _
          rw [List.append_nil]
        · rw [hSl] at e
          have hlt : at' < t.length := by omega
          obtain ⟨c, rr, hd⟩ : ∃ c rr, t.drop at' = c :: rr := ⟨_, _, List.drop_eq_getElem_cons hlt⟩
          have hix : atI (S t).cps.toList (at' : Int) = some c := atI_nat (by rw [S_tl]; exact at_head hd)
          rw [if_neg (by rw [hd]; exact fun z => nomatch z), List.drop_drop] at hres
          refine ⟨_, rfl, _, rfl, _, _, rfl, rfl, t, at' + 1, rfl, by omega, hl, ?_⟩
          have hin : inV (.str (cutS (S t) (some (at' : Int)) (some ((at' : Int) + 2)))) [.str (S [43, 91]), .str (S [45, 91])] = isHead ((t.drop at').take 2) := by
            rw [show ((at' : Int) + 2) = ((at' + 2 : Nat) : Int) from rfl, cut_mid, inS, Nat.add_sub_cancel_left]
            rfl
          have none_of : R = none → ∀ H2, Same H H2 → Q .non H2 := fun z H2 s2 => q2 (by rw [z]) H2 s2
          refine ⟨_, rfl, _, rfl, _, rfl, _, rfl, _, _, rfl, rfl, _, rfl, S t, rfl, hS, le2, fun tp htp => ?_⟩
          have st1 := same_new htp (.tup [.str (S [43, 91]), .str (S [45, 91])])
          have sm1 := sm.trans st1
          refine ⟨tp, _, rfl, .inr (SqT.of upd_same), rfl, rfl, _, rfl, ite2 (fun e => ?_) (fun e => ?_)⟩
          · have e : (!isHead ((t.drop at').take 2)) = true := by rw [← hin]; exact e
            refine none_of ?_ _ sm1
            rw [hres]
            cases closeS 0 (t.drop (at' + 1)) with
            | none => rfl
            | some j =>
              show Option.map _ (if _ then _ else _) = _
              rw [if_neg (fun z => by rw [z.1] at e; exact absurd e (by decide))]
              rfl
          · have eh : isHead ((t.drop at').take 2) = true := by
              have : ¬ (!isHead ((t.drop at').take 2)) = true := by rw [← hin]; exact e
              simpa using this
            cases hc : closeS 0 (t.drop (at' + 1)) with
            | none =>
              rw [hc] at hres
              refine ⟨_, rfl, _, _, rfl, rfl, _, rfl, tst (fun e => ?_) (fun e => absurd (by show (-1 : Int) < 0; decide) e)⟩
              exact none_of (by rw [hres]; rfl) _ sm1
            | some j =>
              rw [hc] at hres
              simp only at hres
              have hcj := closeS_at _ _ _ hc
              have hjl : at' + 1 + j < t.length := by
                have := (List.getElem?_eq_some_iff.mp hcj).1
                rw [List.length_drop] at this
                omega
              refine ⟨_, rfl, _, _, rfl, rfl, _, rfl, tst (fun e => ?_) (fun e => ?_)⟩
              · exact absurd e (by show ¬ (((at' + 1 + j : Nat) : Int) < 0); omega)
              · refine ⟨_, rfl, rfl, _, rfl, tstE (fun e0 => ?_) (fun e0 => ?_)⟩
                · have ed : d = 0 := by omega
                  subst ed
                  have : sh = true := hsh.symm
                  rw [if_neg (fun z => by rw [this] at z; exact absurd z.2 (by decide))] at hres
                  exact none_of (by rw [hres]; rfl) _ sm1
                · obtain ⟨d', rfl⟩ := Nat.exists_eq_succ_of_ne_zero (show d ≠ 0 from fun z => e0 (by rw [z]; rfl))
                  have esp := hG d' rfl
                  subst esp
                  have ersh : sh = false := hsh.symm
                  have errd : rd = rdL d' := hrd.symm
                  subst ersh errd
                  rw [if_pos ⟨eh, rfl⟩] at hres
                  have ecut : cutS (S t) (some ((at' : Int) + 2)) (some (closeI (at' + 1) (some j))) = S (((t.drop at').drop 2).take (j - 1)) := by
                    rw [show ((at' : Int) + 2) = ((at' + 2 : Nat) : Int) from rfl]
                    show cutS (S t) _ (some ((at' + 1 + j : Nat) : Int)) = _
                    rw [cut_mid, List.drop_drop, show at' + 1 + j - (at' + 2) = j - 1 by omega]
                  refine ⟨_, rfl, _, rfl, _, _, rfl, rfl, _, rfl, _, rfl, _, rfl, S t, rfl, hS, _, rfl, _, _, rfl, rfl, ?_⟩
                  rw [ecut]
                  refine ⟨((t.drop at').drop 2).take (j - 1), by show [V.str _, V.int (((Nat.succ d' : Nat) : Int) - 1)] = _; rw [show ((Nat.succ d' : Nat) : Int) - 1 = (d' : Int) by omega], by rw [List.length_take, List.length_drop, List.length_drop]; omega, fun e' H2 p hre s2 hpe => ?_, fun hre H2 s2 => ?_⟩
                  · rw [hre] at hres
                    simp only at hres
                    have sm2 := sm1.trans s2
                    have eL2 := (st1.trans s2) _ _ eL
                    refine ⟨_, rfl, rfl, _, rfl, tst (fun e => nomatch e) (fun _ => ?_)⟩
                    refine ⟨.ref L, rfl, .inl ⟨rfl, _, .inl (.inl eL2)⟩, 1, rfl, le2, fun M hM => ?_⟩
                    have sM := same_new hM (.lst [.int 1, .int (-1)])
                    refine ⟨_, rfl, _, rfl, S t, _, c, rfl, rfl, hS, hix, rfl, .inr ⟨_, rfl, M, _, _, .int (sg (c == 45)), rfl, rfl, SqL.of upd_same, ?_, _, rfl, le2, fun tq htq => ?_⟩⟩
                    · rw [show decide (V.str ⟨#[c]⟩ = V.str (Str.ofString "-")) = (c == 45) from chr_dec c]
                      cases (c == 45) <;> rfl
                    have sq := same_new htq (.tup [.int (sg (c == 45)), .ref p])
                    have eL4 := sq _ _ (sM _ _ eL2)
                    refine ⟨L, us, _, rfl, rfl, eL4, by rw [hp.len]; exact small_line (by omega), ?_⟩
                    refine ⟨_, rfl, _, _, rfl, rfl, ?_⟩
                    have sA := (st1.trans s2).trans (sM.trans sq)
                    refine ⟨by omega, same_set (sm.trans sA) hL, at' + j + 2, tms ++ [(c == 45, e')], us ++ [.ref tq], some (.int (0 + (i : Int))), some (.int (closeI (at' + 1) (some j))), some (.ref p), ?_, by omega, upd_same, ?_, by rw [List.length_append, List.length_singleton]; omega, ?_⟩
                    · show [_, _, _, some (V.int (((at' + 1 + j : Nat) : Int) + 1)), _, _, _] = _
                      rw [show ((at' + 1 + j : Nat) : Int) + 1 = ((at' + j + 2 : Nat) : Int) by omega]
                    · exact ((hp.mono (Tups.of_same sA)).push (t := (c == 45, e')) upd_same (hpe.same (sM.trans sq))).mono (tups_lst eL4)
                    · rw [hres, hk2, List.drop_drop, show at' + (j + 2) = at' + j + 2 by omega, hd]
                      cases rdLoop (rdL d') false k' (t.drop (at' + j + 2)) with
                      | none => rfl
                      | some r =>
                        show some (ofTerms (tms ++ terms (.cons (c == 45) e' r))) = some (ofTerms (tms ++ [(c == 45, e')] ++ terms r))
                        rw [terms, List.append_assoc]; rfl
                  · rw [hre] at hres
                    refine ⟨_, rfl, rfl, _, rfl, tst (fun _ => ?_) (fun e => absurd rfl e)⟩
                    exact none_of (by rw [hres]; rfl) _ (sm1.trans s2)
      · rintro σ' H' ⟨_, sm, at', tms, us, x, y, z, rfl, hat, eL, hp, htl, hres⟩
        refine hX _ _ ⟨sm, at', tms, us, x, y, z, rfl, hat, eL, hp, ?_⟩
        have hres : R = (rdLoop rd sh 0 (t.drop at')).map fun r => ofTerms (tms ++ terms r) := hres
        rw [hres, rdLoop]
        by_cases h : at' = t.length
        · rw [if_pos h, h, List.drop_length, if_pos rfl]
          show some (ofTerms (tms ++ [])) = _
          rw [List.append_nil]
        · rw [if_neg h, if_neg]
          · rfl
          · intro z
            have := congrArg List.length z
            rw [List.length_drop, List.length_nil] at this
            omega
theorem ok_read (T : Top K mg a) : ∀ d : Nat, FnOk P w K mg base CX0 (d + 2) a.lRead a.lReadD ["_law_text_here", "_law_levels"] (spRead d)
  | 0 => ok_read1 T 0 (k := 0) (sp := fun _ _ _ _ => False) (fn_none fun _ _ _ _ h => h) fun d' h => nomatch h
  | d + 1 => ok_read1 T (d + 1) (k := d + 1) (ok_read T d) fun d' h => by cases h; rfl
end
end SR
set_option Elab.async false
set_option linter.all false
set_option maxRecDepth 100000
set_option maxHeartbeats 4000000
/-! Walks: what the law asks of one text. -/
namespace SR
open PySem PySem.Spec PyProof.Rows L2
open SR.Num (size height exps terms ofTerms)
set_option autoImplicit false
section
variable {X : Cx} {a D : Addr} {oe : Obj} {pn : List (Addr × Obj)} {cls : Value} {d : Option Addr}
theorem call_isG (C : ExcC X.K D) (hz : Zc cls d oe) (hf : ∃ vs, oe.data = .fields vs) : CallR (X.suite a ((a, oe) :: pn)) (.builtin "isinstance") (fun xs H Q => cls = .ref D ∧ d = none ∧ rIsE X.K D a xs H Q) := by
  intro pins s σ H xs us Q I r h
  obtain ⟨rfl, rfl, h⟩ := h
  exact call_isE C hz hf pins s σ H xs us Q I r h
/-- isinstance(e, (c1, c2, ..)), e the exception that the suite holds -/
def rIsET (K : PySem.W.Frag) (D a : Addr) : List V → Hp → VK → Prop := fun xs H Q => ∃ (tp : Addr) (cs : List V) (us : List Value) (b : Bool), xs = [.ref a, .ref tp] ∧ H tp = some (.tup cs) ∧ Paired ClsV cs us ∧ PySem.W.kitAny K (.ref D) us = some b ∧ Q (.bl b) H
theorem call_isGT (C : ExcC X.K D) (hz : Zc cls d oe) (hf : ∃ vs, oe.data = .fields vs) : CallR (X.suite a ((a, oe) :: pn)) (.builtin "isinstance") (fun xs H Q => cls = .ref D ∧ d = none ∧ rIsET X.K D a xs H Q) := by
  intro pins s σ H xs us Q I r h
  obtain ⟨rfl, rfl, tp, cs, ws, b, rfl, hT, k, e, q⟩ := h
  obtain ⟨u1, u2, rfl, r1, r2⟩ := vals2 r
  cases (show u2 = Value.ref tp from r2)
  cases (show u1 = Value.ref a from r1)
  obtain ⟨hget, _⟩ := I.pin (a, oe) (List.mem_append.mpr (.inl List.mem_cons_self))
  obtain ⟨vs, hv⟩ := hf
  have J : PySem.W.InstAt s.heap a oe D none := by
    obtain ⟨oc, od, oda, osl⟩ := oe
    obtain ⟨h1, h2⟩ := hz
    dsimp only at h1 h2 hv
    subst h1 h2 hv
    exact ⟨hget, rfl, rfl, trivial⟩
  obtain ⟨_, its, rv, o, h1, h2, n, h3⟩ := (show ObjOk X.prog X.w H s.heap tp (.tup cs) from I.hok tp _ hT)
  have e3 := ClsV.all k rv
  subst e3
  obtain ⟨oc, od, dt, sl⟩ := o
  simp only at h2 h3
  subst h2 h3
  exact PySem.W.kia_tup (PySem.W.handS_kitx_exc C.hg C.hk C.hs C.hd C.ha C.hn C.ht C.hm) I.kIn J h1 e (fun z => nomatch z) fun tk => ⟨.bl b, H, I.kept (t' := tk) fun _ _ z => z, rfl, q⟩
end
theorem rdLoop_height {rd : List Nat → Option Num} {sh : Bool} {b : Nat} (hr : ∀ t e, rd t = some e → height e ≤ b) : ∀ (k : Nat) (t : List Nat) (n : Num), rdLoop rd sh k t = some n → height n ≤ b + 1
  | 0, t, n, h => by
    rw [rdLoop] at h
    split at h
    · cases h; exact Nat.zero_le _
    · exact nomatch h
  | k + 1, t, n, h => by
    rw [rdLoop] at h
    split at h
    · cases h; exact Nat.zero_le _
    · cases hc : closeS 0 (t.drop 1) with
      | none => rw [hc] at h; exact nomatch h
      | some j =>
        rw [hc] at h
        simp only at h
        split at h
        · cases hi : rd ((t.drop 2).take (j - 1)) with
          | none => rw [hi] at h; exact nomatch h
          | some e =>
            rw [hi] at h
            simp only at h
            cases hl : rdLoop rd sh k (t.drop (j + 2)) with
            | none => rw [hl] at h; exact nomatch h
            | some r =>
              rw [hl] at h
              cases h
              have h1 := hr _ _ hi
              have h2 := rdLoop_height hr k _ _ hl
              refine height_exps _ _ fun x hx => ?_
              rcases List.mem_cons.mp hx with q | q
              · rw [q]; omega
              · have := exps_height q
                omega
        · exact nomatch h
theorem rdL_height : ∀ (d : Nat) (t : List Nat) (n : Num), rdL d t = some n → height n ≤ d
  | 0, t, n, h => by
    rw [rdL] at h
    split at h
    · cases h; exact Nat.zero_le _
    · exact nomatch h
  | d + 1, t, n, h => by
    rw [rdL] at h
    split at h
    · cases h; exact Nat.zero_le _
    · cases hl : rdLoop (rdL d) false 400 t with
      | none => rw [hl] at h; exact nomatch h
      | some m =>
        rw [hl] at h
        have h2 := rdLoop_height (rdL_height d) 400 t m hl
        cases m with
        | nil => exact nomatch h
        | cons s e r => cases h; exact h2
theorem rdL_size {d : Nat} {t : List Nat} {n : Num} (h : rdL d t = some n) : 3 * size n ≤ t.length + 3 := by
  have e := rdL_txt d t n h
  have h1 := zt_len n
  have h2 : (zf t).length ≤ t.length := List.length_filter_le ..
  rw [e, zf_txt] at h2
  rw [← e] at h2
  omega
def spTold : Sp := fun vs H Q _ => ∃ t : List Nat, vs = [.str (S t)] ∧ t.length ≤ 2000000 ∧ SafeT t ∧ ∀ H', Same H H' → Q (.bl true) H'
section
variable {P : Program} {w : World} {K : PySem.W.Frag} {mg : Str → Option Value} {base : Heap} {a : Ads}
theorem ok_told (T : Top K mg a) (TX : TopX K w mg a) : FnOk P w K mg base CX0 124 a.lTold a.lToldD ["_law_text_here"] spTold := by
  have GlRead := (ok_read (P := P) (w := w) (base := base) T 60).mono (show 62 ≤ 123 by omega)
  have GlIsNumber := ok_isNum (P := P) (w := w) (base := base) T TX
  have GsReadNumber := ok_readN (P := P) (w := w) (base := base) T TX
  refine T.lTold.F.ok (k := 123) lTold_sc (fun vs H Q E q => by obtain ⟨_, rfl, _⟩ := q; rfl) (fun cdv A outer s H vs Q E hr q => ?_)
  obtain ⟨t, rfl, hl, hsf, q⟩ := q
  have hu0 := SR.Room.u200 hr
  refine ⟨_, (pss_cons (ps_set (i := 1) lTold_sc.nd rfl (Or.inl rfl) (callD T.lRead GlRead hr (pa_cons (pv 0) (pa_cons pe_int pa_nil))))
      (pss_cons (ps_if (PW.pt (pw_and (pt_cmpR op_notN (pv 1) pe_non (nomark _)) (pw_and1 (pt_not (pt_val (callD T.lIsNumber GlIsNumber hr (pa_cons (pv 1) pa_nil)))))))
        (pss_one (ps_set (i := 1) lTold_sc.nd rfl (Or.inl rfl) pe_non))
        pss_nil)
      (pss_cons (ps_try_as (i := 3) (tb := fun W => tAsg (tCallS (spRdN a.xBadForm) (WE W) (tCons (tVar 0) tNil)) (gName 2)) (Wout := fun _ _ _ _ => False)
          (ts := fun x cls d => tRet (tAndV (tOp (fun x y H Q => y = .non ∧ Q (.bl (decide (x = .non))) H) (tVar 1) (tC .non)) (tAndV (tCB (fun xs H Q => cls = .ref a.xBadForm ∧ d = none ∧ rIsE K a.xBadForm x xs H Q) (tCons (tVar 3) (tCons (tC (.ref a.xReckonError)) tNil))) (tNotV (tCB (fun xs H Q => cls = .ref a.xBadForm ∧ d = none ∧ rIsET K a.xBadForm x xs H Q) (tCons (tVar 3) (tCons (tTup (tCons (tC (.ref a.xNotAllowed)) (tCons (tC (.ref a.xTooLarge)) tNil))) tNil)))))))
          rfl rfl lTold_sc.nd rfl rfl ⟨rfl, by decide, .inl TX.bad.g⟩ takes0
          (fun W pn xe tk _ => pss_one (ps_set (i := 2) lTold_sc.nd rfl (Or.inl rfl) (callX T.sReadNumber GsReadNumber hr (fun σ => L2.passAt tk σ) (pa_cons (pv 0) pa_nil))))
          (fun x oe cls d pn hz hf => pss_one (ps_ret (pe_and (pe_cmpR op_isN (pv 1) pe_non (nomark _)) (pe_and (pe_callB (call_isG TX.isB hz hf) (by rfl) T.bIsinstance (by decide +kernel) (pa_cons (pv 3) (pa_cons (pe_glob (v := V.ref _) rfl TX.gR rfl) pa_nil)))
            (pe_one (pe_not (pe_callB (call_isGT TX.isB hz hf) (by rfl) T.bIsinstance (by decide +kernel) (pa_cons (pv 3) (pa_cons (pe_tup (pa_cons (pe_glob (v := V.ref _) rfl TX.not.g rfl) (pa_cons (pe_glob (v := V.ref _) rfl TX.gT rfl) pa_nil))) pa_nil))))))))))
      (pss_one (ps_ret (pe_and (pe_cmpR op_notN (pv 1) pe_non (nomark _)) (pe_and (pe_callB call_isi (by rfl) T.bIsinstance (by decide +kernel) (pa_cons (pv 2) (pa_cons (pe_bltn (v := V.ty "tuple") rfl T.bTuple (by decide +kernel) rfl) pa_nil))) (pe_one (pe_cmpR (op_eqN hu0) (pv 2) (pv 1) (nomark _)))))))))), ?_⟩
  refine seq_cut (fun σ' H' => Same H H' ∧ ∃ v, σ' = [some (.str (S t)), some v, none, none] ∧ ((v = .non ∧ rdL 60 t = none) ∨ ∃ p n, v = .ref p ∧ rdL 60 t = some n ∧ NumAt H' p n)) ?_ fun X hX => ?_
  · rintro σ' H1 ⟨s1, v, rfl, hv⟩
    refine seq_cut (fun σ' H' => Same H H' ∧ ∃ v, σ' = [some (.str (S t)), some v, none, none] ∧ ((v = .non ∧ readP t = none) ∨ ∃ p n, v = .ref p ∧ readP t = some n ∧ height n ≤ 40 ∧ NumAt H' p n)) ?_ fun X hX => ?_
    · rintro σ' H2 ⟨s2, v, rfl, hv⟩
      rcases hv with ⟨rfl, hd⟩ | ⟨p, n, rfl, hd, hk, h1⟩
      · refine ⟨_, rfl, t, rfl, by omega, hsf, fun m H3 p3 e3 _ _ => (by rw [hd] at e3; cases e3), fun _ H3 s3 => ⟨true, TX.eb, fun _ x hx => ?_, fun z => nomatch z⟩⟩
        refine ⟨_, rfl, rfl, _, rfl, iteT ⟨_, rfl, rfl, rfl, .ref a.xReckonError, .ref a.xReckonError, true, rfl, fun u r => r, TX.i1, _, rfl, iteT ⟨_, rfl, le2, fun tp htp => ⟨rfl, rfl, tp, _, [.ref a.xNotAllowed, .ref a.xTooLarge], false, rfl, upd_same, .cons (.own _) (.cons (.own _) .nil), ?_, _, rfl, ?_⟩⟩⟩⟩
        · exact kitAny_cons TX.i2 (fun _ => kitAny_cons TX.i3 (fun _ => kitAny_nil) (fun z => nomatch z)) (fun z => nomatch z)
        · exact q _ ((s2.trans s3).trans (same_new htp _))
      · refine ⟨_, rfl, t, rfl, by omega, hsf, fun m H3 p3 e3 s3 h3 => ?_, fun e3 => (by rw [hd] at e3; cases e3)⟩
        rw [hd] at e3
        cases e3
        obtain ⟨us, hu, _⟩ := id h3
        refine ⟨_, rfl, rfl, _, rfl, iteT ?_⟩
        refine ⟨_, rfl, .ref p3, .ty "tuple", _, _, true, rfl, .ty "tuple", .base (.tup hu), kit_ty (by decide +kernel), _, rfl, iteT ?_⟩
        refine ⟨_, rfl, _, rfl, p3, p, n, n, rfl, rfl, h3, h1.same s3, by omega, ?_⟩
        rw [decide_eq_true rfl]
        exact q _ (s2.trans s3)
    · rcases hv with ⟨rfl, e⟩ | ⟨p, n, rfl, e, h1⟩
      · exact ⟨_, rfl, rfl, _, rfl, hX _ _ ⟨s1, _, rfl, .inl ⟨rfl, by rw [read_due, dueL, e]⟩⟩⟩
      · have hh := rdL_height 60 t n e
        have hz := rdL_size e
        have bb : big = 1000000 := rfl
        have hs := hsf.rdL e
        refine ⟨_, rfl, rfl, _, rfl, iteT ?_⟩
        refine ⟨_, rfl, p, n, rfl, h1, by omega, by omega, hs, fun H2 s2 => ⟨_, rfl, ?_⟩⟩
        cases hc : checkN n with
        | true =>
          have hd : readP t = some n := by rw [read_due, dueL, e]; show (if checkN n = true then some n else none) = _; rw [if_pos hc]
          exact hX _ _ ⟨s1.trans s2, _, rfl, .inr ⟨p, n, rfl, hd, (check_of hc).2, h1.same s2⟩⟩
        | false =>
          have hd : readP t = none := by rw [read_due, dueL, e]; show (if checkN n = true then some n else none) = _; rw [if_neg (by rw [hc]; decide)]
          exact hX _ _ ⟨s1.trans s2, _, rfl, .inl ⟨rfl, hd⟩⟩
  · refine ⟨_, rfl, t, rfl, by omega, fun n H1 p e s1 h1 => ?_, fun e H1 s1 => ?_⟩
    · exact hX _ _ ⟨s1, _, rfl, .inr ⟨p, n, rfl, e, h1⟩⟩
    · exact hX _ _ ⟨s1, _, rfl, .inl ⟨rfl, e⟩⟩
end
end SR
set_option Elab.async false
set_option linter.all false
set_option maxRecDepth 100000
set_option maxHeartbeats 4000000
/-! Walks: the numbers drawn from a script, and what is made of them directly. -/
namespace SR
open PySem PySem.Spec PyProof.Rows L2
open SR.Num (size height exps terms ofTerms)
set_option autoImplicit false
/-- a list of ints, not empty -/
def Ints (H : Hp) (D : Addr) : Prop := ∃ ws : List Int, H D = some (.lst (ws.map V.int)) ∧ ws ≠ []
theorem Ints.same {H H' : Hp} {D : Addr} (h : Ints H D) (s : Same H H') : Ints H' D := let ⟨ws, a, b⟩ := h; ⟨ws, s _ _ a, b⟩
def spPick : Sp := fun vs H Q _ => ∃ (D : Addr) (at' many : Int), vs = [.ref D, .int at', .int many] ∧ Ints H D ∧ 0 < many ∧ ∀ r : Int, 0 ≤ r → r < many → Q (.int r) H
def spTwo : Sp := fun vs H Q _ => ∃ c : Nat, vs = [.int (c : Int)] ∧ c ≤ 1000 ∧ Q (.int ((2 : Int) ^ c)) H
def spSpoilt : Sp := fun vs H Q _ => ∃ (D : Addr) (at' : Int) (t : List Nat), vs = [.ref D, .int at', .str (S t)] ∧ Ints H D ∧ t.length ≤ 1000000 ∧ ∀ p c way : Nat, Q (.str (S (spoil t p c way))) H
def spStream (K : PySem.W.Frag) : Sp := fun vs H Q _ => ∃ (l : Addr) (ns : List Int), vs = [.ref l] ∧ SqL K H l (ns.map V.int) ∧ ∀ H' D, Same H H' → H D = none → Ints H' D → Q (.ref D) H'
theorem cut_ints (ns : List Int) (lo hi : Option Int) : ∃ ms : List Int, cutV (ns.map V.int) lo hi = ms.map V.int ∧ ms.length ≤ ns.length := by
  unfold cutV
  rw [← List.map_drop, ← List.map_take]
  exact ⟨_, rfl, by rw [List.length_take, List.length_drop]; omega⟩
theorem cut_63 (ns : List Int) : ∃ ms : List Int, cutV (ns.map V.int) none (some 63) = ms.map V.int ∧ ms.length ≤ 63 := by
  unfold cutV
  rw [← List.map_drop, ← List.map_take]
  refine ⟨_, rfl, ?_⟩
  rw [List.length_take]
  have : HT.sIx (ns.map V.int).length (ns.map V.int).length (some 63) = min 63 (ns.map V.int).length := HT.sIx_nat _ _ 63
  omega
theorem app_len (x y : List Nat) : (S x).length + (S y).length = x.length + y.length := by rw [S_len, S_len]
section
variable {P : Program} {w : World} {K : PySem.W.Frag} {mg : Str → Option Value} {base : Heap} {a : Ads}
theorem ok_pick (T : Top K mg a) (k : Nat) : FnOk P w K mg base CX0 (k + 1) a.lPick a.lPickD ["_law_numbers", "_law_at", "_law_many"] spPick := by
  refine T.lPick.F.ok lPick_sc (fun vs H Q E q => by obtain ⟨_, _, _, rfl, _⟩ := q; rfl) (fun cdv A outer s H vs Q E hr q => ?_)
  obtain ⟨D, at', many, rfl, ⟨ws, hD, hne⟩, hm, q⟩ := q
  refine ⟨_, (pss_one (ps_ret (pe_op op_mod (pe_callTy call_int1 (by rfl) T.bInt (by decide +kernel) (pa_cons (pe_ix (ix_listK (K := K)) (pv 0) (pe_op op_mod (pv 1) (pe_callB (call_lenK (K := K)) (by rfl) T.bLen PySem.boot_len (pa_cons (pv 0) pa_nil))) (fun _ _ => rfl)) pa_nil)) (pv 2)))), ?_⟩
  have hpos : 0 < ((ws.map V.int).length : Int) := by
    rw [List.length_map]
    have := List.length_pos_iff.mpr hne
    omega
  have h1 := Int.emod_nonneg at' (show ((ws.map V.int).length : Int) ≠ 0 by omega)
  have h2 := Int.emod_lt_of_pos at' hpos
  obtain ⟨j, hj⟩ := Int.eq_ofNat_of_zero_le h1
  have hjl : j < ws.length := by rw [List.length_map] at h2 hj; omega
  refine ⟨_, rfl, _, rfl, _, rfl, D, _, rfl, .inl (SqL.of hD), _, _, rfl, rfl, hpos, D, _, _, .int ws[j], rfl, rfl, SqL.of hD, ?_, .inl ⟨_, rfl, _, rfl, _, _, rfl, rfl, hm, ?_⟩⟩
  · rw [hj]
    exact atI_nat (by rw [List.getElem?_map, List.getElem?_eq_getElem hjl]; rfl)
  · exact q _ (Int.emod_nonneg _ (by omega)) (Int.emod_lt_of_pos _ hm)
theorem ok_two (T : Top K mg a) (k : Nat) : FnOk P w K mg base CX0 (k + 1) a.lTwo a.lTwoD ["_law_count"] spTwo := by
  refine T.lTwo.F.ok lTwo_sc (fun vs H Q E q => by obtain ⟨_, rfl, _⟩ := q; rfl) (fun cdv A outer s H vs Q E hr q => ?_)
  obtain ⟨c, rfl, hc, q⟩ := q
  refine ⟨_, (pss_cons (ps_set (i := 1) lTwo_sc.nd rfl (Or.inl rfl) pe_int)
      (pss_cons (ps_for PassesOwn.never rfl (pi_range1 rfl T.bRange (pa_cons (pv 0) pa_nil)) (pg_name (i := 2) lTwo_sc.nd rfl (Or.inl rfl))
        (pss_one (ps_set (i := 1) lTwo_sc.nd rfl (Or.inl rfl) (pe_op op_mul (pv 1) pe_int))))
      (pss_one (ps_ret (pv 1))))), ?_⟩
  refine seq_cut (fun σ' H' => H = H' ∧ σ' = [some (.int (c : Int)), some (.int 1), none]) ?_ fun X hX => hX _ _ ⟨rfl, rfl⟩
  rintro _ _ ⟨rfl, rfl⟩
  refine ⟨_, rfl, _, rfl, by omega, by omega, ?_⟩
  refine for_range (fun i σ' H' => H = H' ∧ ∃ u : Option V, σ' = [some (.int (c : Int)), some (.int ((2 : Int) ^ i)), u]) ⟨rfl, _, rfl⟩ ?_ ?_
  · rintro i σ' H' hi ⟨rfl, u, rfl⟩
    refine ⟨_, rfl, _, _, rfl, rfl, .inr (by decide), rfl, some (.int (0 + (i : Int))), ?_⟩
    rw [Int.pow_succ]
    rfl
  · rintro σ' H' ⟨rfl, u, rfl⟩
    rw [Int.toNat_natCast]
    exact ⟨_, rfl, q⟩
theorem ok_spoilt (T : Top K mg a) (k : Nat) : FnOk P w K mg base CX0 (k + 2) a.lSpoilt a.lSpoiltD ["_law_numbers", "_law_at", "_law_text_here"] spSpoilt := by
  have GlPick := ok_pick (P := P) (w := w) (base := base) T k
  refine T.lSpoilt.F.ok (k := k + 1) lSpoilt_sc (fun vs H Q E q => by obtain ⟨_, _, _, rfl, _⟩ := q; rfl) (fun cdv A outer s H vs Q E hr q => ?_)
  obtain ⟨D, at', t, rfl, hD, hl, q⟩ := q
  refine ⟨_, (pss_cons (ps_set (i := 3) lSpoilt_sc.nd rfl (Or.inl rfl) (callD T.lPick GlPick hr (pa_cons (pv 0) (pa_cons (pv 1) (pa_cons (pe_op op_add (pe_callB call_len_str (by rfl) T.bLen PySem.boot_len (pa_cons (pv 2) pa_nil)) pe_int) pa_nil)))))
      (pss_cons (ps_set (i := 4) lSpoilt_sc.nd rfl (Or.inl rfl) (pe_ix ix_str pe_str (callD T.lPick GlPick hr (pa_cons (pv 0) (pa_cons (pe_op op_add (pv 1) pe_int) (pa_cons pe_int pa_nil)))) (fun _ _ => rfl)))
      (pss_cons (ps_set (i := 5) lSpoilt_sc.nd rfl (Or.inl rfl) (callD T.lPick GlPick hr (pa_cons (pv 0) (pa_cons (pe_op op_add (pv 1) pe_int) (pa_cons pe_int pa_nil)))))
      (pss_cons (ps_if (pt_cmpR op_eq (pv 5) pe_int (nomark _))
        (pss_one (ps_ret (pe_op op_add_str (pe_op op_add_str (pe_slice sl_str (pv 2) po_none (po_some (pv 3))) (pv 4)) (pe_slice sl_str (pv 2) (po_some (pe_op op_add (pv 3) pe_int)) po_none))))
        pss_nil)
      (pss_cons (ps_if (pt_cmpR op_eq (pv 5) pe_int (nomark _))
        (pss_one (ps_ret (pe_op op_add_str (pe_slice sl_str (pv 2) po_none (po_some (pv 3))) (pe_slice sl_str (pv 2) (po_some (pe_op op_add (pv 3) pe_int)) po_none))))
        pss_nil)
      (pss_cons (ps_if (pt_cmpR op_eq (pv 5) pe_int (nomark _))
        (pss_one (ps_ret (pe_op op_add_str (pe_op op_add_str (pe_slice sl_str (pv 2) po_none (po_some (pv 3))) (pv 4)) (pe_slice sl_str (pv 2) (po_some (pv 3)) po_none))))
        pss_nil)
      (pss_cons (ps_if (pt_cmpR op_eq (pv 5) pe_int (nomark _))
        (pss_one (ps_ret (pe_op op_add_str (pe_op op_add_str (pe_slice sl_str (pv 2) po_none (po_some (pv 3))) (pe_slice sl_str (pv 2) (po_some (pv 3)) (po_some (pe_op op_add (pv 3) pe_int)))) (pe_slice sl_str (pv 2) (po_some (pv 3)) po_none))))
        pss_nil)
      (pss_cons (ps_if (pt_cmpR op_eq (pv 5) pe_int (nomark _))
        (pss_one (ps_ret (pe_op op_add_str (pe_op op_add_str (pe_op op_add_str (pe_slice sl_str (pv 2) po_none (po_some (pv 3))) (pe_slice sl_str (pv 2) (po_some (pe_op op_add (pv 3) pe_int)) (po_some (pe_op op_add (pv 3) pe_int)))) (pe_slice sl_str (pv 2) (po_some (pv 3)) (po_some (pe_op op_add (pv 3) pe_int)))) (pe_slice sl_str (pv 2) (po_some (pe_op op_add (pv 3) pe_int)) po_none))))
        pss_nil)
      (pss_one (ps_ret (pe_op op_add_str (pv 2) (pv 2)))))))))))), ?_⟩
  have hS : (S t).length ≤ sizeLine := long_line (by omega)
  have hSl := S_len t
  have hline : ∀ n : Nat, n ≤ 10000000 → n ≤ sizeLine := fun n h => by rw [sizeLine_eq]; omega
  refine ⟨_, rfl, _, rfl, _, rfl, S t, rfl, hS, _, _, rfl, rfl, D, at', _, rfl, hD, by omega, fun p hp0 hp1 => ?_⟩
  obtain ⟨p, rfl⟩ := Int.eq_ofNat_of_zero_le hp0
  refine ⟨_, rfl, _, rfl, _, _, rfl, rfl, D, _, 7, rfl, hD, by decide, fun r hr0 hr1 => ?_⟩
  obtain ⟨r, rfl⟩ := Int.eq_ofNat_of_zero_le hr0
  obtain ⟨c, hc⟩ : ∃ c, [43, 45, 91, 93, 48, 32, 49][r]? = some c := ⟨_, List.getElem?_eq_getElem (by show r < 7; omega)⟩
  refine ⟨S [43, 45, 91, 93, 48, 32, 49], _, c, rfl, rfl, hline _ (by rw [S_len]; decide), atI_nat (by rw [S_tl]; exact hc), ?_⟩
  refine ⟨_, rfl, _, rfl, _, _, rfl, rfl, D, _, 6, rfl, hD, by decide, fun y hy0 hy1 => ?_⟩
  obtain ⟨way, rfl⟩ := Int.eq_ofNat_of_zero_le hy0
  have e1 : ((p : Int) + 1) = ((p + 1 : Nat) : Int) := rfl
  have e2 : ((p : Int) + 2) = ((p + 2 : Nat) : Int) := rfl
  have l1 : (t.take p).length ≤ t.length := by rw [List.length_take]; omega
  have l2 : (t.drop p).length ≤ t.length := by rw [List.length_drop]; omega
  have l3 : (t.drop (p + 1)).length ≤ t.length := by rw [List.length_drop]; omega
  have l4 : (t.drop (p + 2)).length ≤ t.length := by rw [List.length_drop]; omega
  have l5 : ((t.drop p).take 1).length ≤ t.length := by rw [List.length_take, List.length_drop]; omega
  have l6 : ((t.drop (p + 1)).take 1).length ≤ t.length := by rw [List.length_take, List.length_drop]; omega
  have ec : (⟨#[c]⟩ : Str) = S [c] := rfl
  have sub1 : p + 1 - p = 1 := by omega
  have sub2 : p + 2 - (p + 1) = 1 := by omega
  have hq := q p c way
  unfold spoil at hq
  refine ⟨_, rfl, rfl, _, rfl, tstE (fun e => ?_) (fun ne0 => ?_)⟩
  · rw [if_pos (by omega)] at hq
    refine ⟨_, rfl, _, rfl, _, rfl, S t, rfl, hS, _, rfl, _, _, rfl, rfl, (by simp only [e1, e2, cut_to, cut_from, cut_mid, ec, S_app, S_len, sub1, sub2]; exact hline _ (by first | omega | (simp only [List.length_append, List.length_singleton]; omega))), _, rfl, _, rfl, _, _, rfl, rfl, _, rfl, S t, rfl, hS, _, _, rfl, rfl, (by simp only [e1, e2, cut_to, cut_from, cut_mid, ec, S_app, S_len, sub1, sub2]; exact hline _ (by first | omega | (simp only [List.length_append, List.length_singleton]; omega))), ?_⟩
    simp only [e1, e2, cut_to, cut_from, cut_mid, ec, S_app, sub1, sub2]
    exact hq
  refine ⟨_, rfl, rfl, _, rfl, tstE (fun e => ?_) (fun ne1 => ?_)⟩
  · rw [if_neg (by omega), if_pos (by omega)] at hq
    refine ⟨_, rfl, _, rfl, _, rfl, S t, rfl, hS, _, rfl, _, rfl, _, _, rfl, rfl, _, rfl, S t, rfl, hS, _, _, rfl, rfl, (by simp only [e1, e2, cut_to, cut_from, cut_mid, ec, S_app, S_len, sub1, sub2]; exact hline _ (by first | omega | (simp only [List.length_append, List.length_singleton]; omega))), ?_⟩
    simp only [e1, e2, cut_to, cut_from, cut_mid, ec, S_app, sub1, sub2]
    exact hq
  refine ⟨_, rfl, rfl, _, rfl, tstE (fun e => ?_) (fun ne2 => ?_)⟩
  · rw [if_neg (by omega), if_neg (by omega), if_pos (by omega)] at hq
    refine ⟨_, rfl, _, rfl, _, rfl, S t, rfl, hS, _, rfl, _, _, rfl, rfl, (by simp only [e1, e2, cut_to, cut_from, cut_mid, ec, S_app, S_len, sub1, sub2]; exact hline _ (by first | omega | (simp only [List.length_append, List.length_singleton]; omega))), _, rfl, _, rfl, _, rfl, S t, rfl, hS, _, _, rfl, rfl, (by simp only [e1, e2, cut_to, cut_from, cut_mid, ec, S_app, S_len, sub1, sub2]; exact hline _ (by first | omega | (simp only [List.length_append, List.length_singleton]; omega))), ?_⟩
    simp only [e1, e2, cut_to, cut_from, cut_mid, ec, S_app, sub1, sub2]
    exact hq
  refine ⟨_, rfl, rfl, _, rfl, tstE (fun e => ?_) (fun ne3 => ?_)⟩
  · rw [if_neg (by omega), if_neg (by omega), if_neg (by omega), if_pos (by omega)] at hq
    refine ⟨_, rfl, _, rfl, _, rfl, S t, rfl, hS, _, rfl, _, rfl, _, rfl, _, rfl, _, _, rfl, rfl, _, rfl, S t, rfl, hS, _, _, rfl, rfl, (by simp only [e1, e2, cut_to, cut_from, cut_mid, ec, S_app, S_len, sub1, sub2]; exact hline _ (by first | omega | (simp only [List.length_append, List.length_singleton]; omega))), _, rfl, _, rfl, _, rfl, S t, rfl, hS, _, _, rfl, rfl, (by simp only [e1, e2, cut_to, cut_from, cut_mid, ec, S_app, S_len, sub1, sub2]; exact hline _ (by first | omega | (simp only [List.length_append, List.length_singleton]; omega))), ?_⟩
    simp only [e1, e2, cut_to, cut_from, cut_mid, ec, S_app, sub1, sub2]
    exact hq
  refine ⟨_, rfl, rfl, _, rfl, tstE (fun e => ?_) (fun ne4 => ?_)⟩
  · rw [if_neg (by omega), if_neg (by omega), if_neg (by omega), if_neg (by omega), if_pos (by omega)] at hq
    refine ⟨_, rfl, _, rfl, _, rfl, S t, rfl, hS, _, rfl, _, rfl, _, _, rfl, rfl, _, rfl, _, rfl, _, _, rfl, rfl, _, rfl, S t, rfl, hS, _, _, rfl, rfl, (by simp only [e1, e2, cut_to, cut_from, cut_mid, ec, S_app, S_len, sub1, sub2]; exact hline _ (by first | omega | (simp only [List.length_append, List.length_singleton]; omega))), _, rfl, _, rfl, _, rfl, _, rfl, _, _, rfl, rfl, _, rfl, S t, rfl, hS, _, _, rfl, rfl, (by simp only [e1, e2, cut_to, cut_from, cut_mid, ec, S_app, S_len, sub1, sub2]; exact hline _ (by first | omega | (simp only [List.length_append, List.length_singleton]; omega))), _, rfl, _, rfl, _, _, rfl, rfl, _, rfl, S t, rfl, hS, _, _, rfl, rfl, (by simp only [e1, e2, cut_to, cut_from, cut_mid, ec, S_app, S_len, sub1, sub2]; exact hline _ (by first | omega | (simp only [List.length_append, List.length_singleton]; omega))), ?_⟩
    simp only [e1, e2, cut_to, cut_from, cut_mid, ec, S_app, sub1, sub2]
    exact hq
  rw [if_neg (by omega), if_neg (by omega), if_neg (by omega), if_neg (by omega), if_neg (by omega)] at hq
  refine ⟨_, rfl, _, rfl, _, _, rfl, rfl, by rw [app_len]; exact hline _ (by omega), ?_⟩
  rw [S_app]
  exact hq
end
end SR
set_option Elab.async false
set_option linter.all false
set_option maxRecDepth 100000
set_option maxHeartbeats 4000000
/-! Walks: the stream of a script. -/
namespace SR
open PySem PySem.Spec PyProof.Rows L2
open SR.Num (size height exps terms ofTerms)
set_option autoImplicit false
/-- what is made so far -/
def Got (H0 H' : Hp) (D : Addr) (k : Nat) : Prop := Same H0 H' ∧ ∃ ws : List Int, H' D = some (.lst (ws.map V.int)) ∧ ws.length ≤ k
theorem Got.push {H0 H' : Hp} {D : Addr} {k : Nat} (hD : H0 D = none) (g : Got H0 H' D k) (hk : k ≤ 9000) (x : Int) : ∃ xs : List V, H' D = some (.lst xs) ∧ xs.length < sizeLine ∧ Got H0 (upd H' D (.lst (xs ++ [.int x]))) D (k + 1) := by
  obtain ⟨sm, ws, e, hl⟩ := g
  refine ⟨_, e, by rw [List.length_map]; exact small_line (by omega), same_set sm hD, ws ++ [x], ?_, by rw [List.length_append, List.length_singleton]; omega⟩
  rw [upd_same, List.map_append]; rfl
section
variable {P : Program} {w : World} {K : PySem.W.Frag} {mg : Str → Option Value} {base : Heap} {a : Ads}
theorem ok_stream (T : Top K mg a) (k : Nat) : FnOk P w K mg base CX0 (k + 1) a.lStream a.lStreamD ["_law_script"] (spStream K) := by
  refine T.lStream.F.ok lStream_sc (fun vs H Q E q => by obtain ⟨_, _, rfl, _⟩ := q; rfl) (fun cdv A outer s H vs Q E hr q => ?_)
  obtain ⟨l, ns, rfl, hl, q⟩ := q
  refine ⟨_, (pss_cons (ps_set (i := 1) lStream_sc.nd rfl (Or.inl rfl) (pe_lst pa_nil))
      (pss_cons (ps_for PassesOwn.never rfl (pi_list (pe_slice sl_list (pv 0) po_none (po_some pe_int))) (pg_name (i := 2) lStream_sc.nd rfl (Or.inl rfl))
        (pss_cons (ps_set (i := 3) lStream_sc.nd rfl (Or.inl rfl) (pe_callTy call_int1 (by rfl) T.bInt (by decide +kernel) (pa_cons (pv 2) pa_nil)))
        (pss_one (ps_if (pt_cmpR op_ge (pv 3) (pe_op op_pow pe_int pe_int) (nomark _))
          (pss_one (ps_for PassesOwn.never rfl (pi_range1 rfl T.bRange (pa_cons pe_int pa_nil)) (pg_name (i := 4) lStream_sc.nd rfl (Or.inl rfl))
            (pss_cons (ps_expr (pe_bm PySem.F.plainAttrs_list PySem.F.slot_list_append PySem.F.type_list_append mt_append (pv 1) (pa_cons (pe_op op_mod (pe_callTy call_int1 (by rfl) T.bInt (by decide +kernel) (pa_cons (pv 3) pa_nil)) pe_int) pa_nil)))
            (pss_cons (ps_set (i := 3) lStream_sc.nd rfl (Or.inl rfl) (pe_op op_fdiv (pv 3) pe_int))
            (pss_one (ps_if (pt_cmpR op_eq (pv 3) pe_int (nomark _))
              (pss_one ps_break)
              pss_nil))))))
          (pss_cons (ps_set (i := 5) lStream_sc.nd rfl (Or.inl rfl) (pe_op op_mod (pe_callTy call_int1 (by rfl) T.bInt (by decide +kernel) (pa_cons (pv 3) pa_nil)) pe_int))
          (pss_one (ps_for PassesOwn.never rfl (pi_range1 rfl T.bRange (pa_cons pe_int pa_nil)) (pg_name (i := 4) lStream_sc.nd rfl (Or.inl rfl))
            (pss_cons (ps_set (i := 5) lStream_sc.nd rfl (Or.inl rfl) (pe_op op_mod (pe_callTy call_int1 (by rfl) T.bInt (by decide +kernel) (pa_cons (pe_op op_add (pe_op op_add (pe_op op_mul (pv 5) pe_int) (pe_op op_mul pe_int (pv 4))) pe_int) pa_nil)) pe_int))
            (pss_one (ps_expr (pe_bm PySem.F.plainAttrs_list PySem.F.slot_list_append PySem.F.type_list_append mt_append (pv 1) (pa_cons (pe_op op_mod (pe_op op_mod (pe_callTy call_int1 (by rfl) T.bInt (by decide +kernel) (pa_cons (pe_op op_add (pe_op op_mul (pv 5) pe_int) (pv 4)) pa_nil)) pe_int) pe_int) pa_nil))))))))))))
      (pss_cons (ps_if (pt_cmpR op_eq (pe_callB (call_lenK (K := K)) (by rfl) T.bLen PySem.boot_len (pa_cons (pv 1) pa_nil)) pe_int (nomark _))
        (pss_one (ps_expr (pe_bm PySem.F.plainAttrs_list PySem.F.slot_list_append PySem.F.type_list_append mt_append (pv 1) (pa_cons pe_int pa_nil))))
        pss_nil)
      (pss_one (ps_ret (pv 1)))))), ?_⟩
  refine seq_cut (fun σ' H' => ∃ D, H D = none ∧ H' = upd H D (.lst []) ∧ σ' = [some (.ref l), some (.ref D), none, none, none, none]) ?_ fun X hX => ⟨Nat.zero_le _, fun D hD => hX _ _ ⟨D, hD, rfl, rfl⟩⟩
  rintro _ _ ⟨D, hD, rfl, rfl⟩
  have s0 := same_new hD (.lst [])
  refine seq_cut (fun σ' H' => Got H H' D 3780 ∧ ∃ x y z u, σ' = [some (.ref l), some (.ref D), x, y, z, u]) ?_ fun X hX => ?_
  · rintro σ' H1 ⟨⟨sm, ws, eD, hwl⟩, x, y, z, u, rfl⟩
    refine seq_cut (fun σ' H' => Same H H' ∧ Ints H' D ∧ σ' = [some (.ref l), some (.ref D), x, y, z, u]) ?_ fun X hX => ?_
    · rintro σ' H2 ⟨s2, h2, rfl⟩
      exact ⟨_, rfl, q H2 D s2 hD h2⟩
    · refine ⟨_, rfl, D, _, rfl, .inl (SqL.of eD), rfl, _, rfl, tstE (fun e => ?_) (fun e => ?_)⟩
      · refine ⟨.ref D, rfl, .inl ⟨rfl, _, .inl (.inl eD)⟩, D, _, _, rfl, rfl, eD, by rw [List.length_map]; exact small_line (by omega), ?_⟩
        refine hX _ _ ⟨same_set sm hD, ⟨ws ++ [0], ?_, by simp⟩, rfl⟩
        rw [upd_same, List.map_append]; rfl
      · refine hX _ _ ⟨sm, ⟨ws, eD, fun z => e (by rw [z]; rfl)⟩, rfl⟩
  · refine ⟨_, rfl, 63, rfl, l, _, rfl, s0.seq hl, fun c hc => ?_⟩
    obtain ⟨ms, em, hml⟩ := cut_63 ns
    rw [em]
    have s1 := same_new hc (.lst (ms.map V.int))
    have hDc : D ≠ c := fun e => by rw [← e, upd_same] at hc; cases hc
    have c0 : H c = none := none_back s0 hc
    refine ⟨c, rfl, ⟨_, SqL.of upd_same⟩, ?_⟩
    refine for_list (xs := ms.map V.int) (fun i σ' H' => Got H H' D (60 * i) ∧ H' c = some (.lst (ms.map V.int)) ∧ ∃ x y z u, σ' = [some (.ref l), some (.ref D), x, y, z, u]) ⟨⟨s0.trans s1, [], s1 _ _ upd_same, Nat.zero_le _⟩, upd_same, _, _, _, _, rfl⟩ (fun i σ' H' _ p => SqL.of p.2.1) ?_ ?_
    · rintro i v σ' H' hv ⟨g, ec, x, y, z, u, rfl⟩
      have hi : i < ms.length := by
        have := (List.getElem?_eq_some_iff.mp hv).1
        rw [List.length_map] at this
        exact this
      rw [List.getElem?_map, List.getElem?_eq_getElem hi] at hv
      cases hv
      refine ⟨_, rfl, .inl ⟨_, rfl, ?_⟩⟩
      refine ⟨_, rfl, _, _, rfl, rfl, ⟨by decide, by decide, by decide⟩, _, _, rfl, rfl, _, rfl, tst (fun e => ?_) (fun e => ?_)⟩
      · refine ⟨60, rfl, by decide, by decide, ?_⟩
        refine for_range (fun j σ' H' => Got H H' D (60 * i + j) ∧ H' c = some (.lst (ms.map V.int)) ∧ ∃ x y z u, σ' = [some (.ref l), some (.ref D), x, some (.int y), z, u]) ⟨g, ec, _, _, _, _, rfl⟩ ?_ ?_
        · rintro j σ' H2 hj ⟨g2, ec2, x2, y2, z2, u2, rfl⟩
          obtain ⟨xs, ex, hxl, gp⟩ := g2.push hD (by omega) (y2 % 1009)
          refine ⟨.ref D, rfl, .inl ⟨rfl, _, .inl (.inl ex)⟩, _, rfl, .inl ⟨_, rfl, _, _, rfl, rfl, by show (0 : Int) < 1009; decide, D, xs, _, rfl, rfl, ex, hxl, ?_⟩⟩
          have ec3 : (upd H2 D (.lst (xs ++ [V.int (y2 % 1009)]))) c = some (.lst (ms.map V.int)) := by rw [upd_ne hDc.symm]; exact ec2
          refine ⟨_, rfl, _, _, rfl, rfl, ⟨by decide, by decide⟩, ?_⟩
          refine ⟨_, rfl, rfl, _, rfl, tstE (fun e => ?_) (fun e => ?_)⟩
          · exact ⟨⟨gp.1, let ⟨w1, w2, w3⟩ := gp.2; ⟨w1, w2, by have : j < 60 := hj; omega⟩⟩, ec3, _, _, _, _, rfl⟩
          · exact ⟨gp, ec3, _, _, _, _, rfl⟩
        · rintro σ' H2 ⟨g2, ec2, x2, y2, z2, u2, rfl⟩
          exact ⟨⟨g2.1, let ⟨w1, w2, w3⟩ := g2.2; ⟨w1, w2, by have : (60 : Int).toNat = 60 := rfl; omega⟩⟩, ec2, _, _, _, _, rfl⟩
      · refine ⟨_, rfl, .inl ⟨_, rfl, _, _, rfl, rfl, by show (0 : Int) < 2147483647; decide, ?_⟩⟩
        refine ⟨10, rfl, by decide, by decide, ?_⟩
        refine for_range (fun j σ' H' => Got H H' D (60 * i + j) ∧ H' c = some (.lst (ms.map V.int)) ∧ ∃ x y z u, σ' = [some (.ref l), some (.ref D), x, y, z, some (.int u)]) ⟨g, ec, _, _, _, _, rfl⟩ ?_ ?_
        · rintro j σ' H2 hj ⟨g2, ec2, x2, y2, z2, u2, rfl⟩
          refine ⟨_, rfl, _, _, rfl, rfl, .inr (by decide), _, rfl, _, _, rfl, rfl, .inl (by decide), _, _, rfl, rfl, _, _, rfl, rfl, .inl ⟨_, rfl, _, _, rfl, rfl, by show (0 : Int) < 2147483647; decide, ?_⟩⟩
          have hj10 : j < 10 := hj
          have e2 : H2 D = H2 D := rfl
          obtain ⟨⟨w0, w1, w2, w3⟩⟩ := (⟨g2⟩ : PLift (Got H H2 D (60 * i + j)))
          refine ⟨.ref D, rfl, .inl ⟨rfl, _, .inl (.inl w2)⟩, _, rfl, _, _, rfl, rfl, .inr (by decide), _, rfl, _, _, rfl, rfl, .inl ⟨_, rfl, _, _, rfl, rfl, by show (0 : Int) < 2147483629; decide, _, _, rfl, rfl, by show (0 : Int) < 1009; decide, D, _, _, rfl, rfl, w2, by rw [List.length_map]; exact small_line (by omega), ?_⟩⟩
          refine ⟨⟨same_set w0 hD, w1 ++ [_], by rw [upd_same, List.map_append]; rfl, by rw [List.length_append, List.length_singleton]; omega⟩, by rw [upd_ne hDc.symm]; exact ec2, _, _, _, _, rfl⟩
        · rintro σ' H2 ⟨g2, ec2, x2, y2, z2, u2, rfl⟩
          exact ⟨⟨g2.1, let ⟨w1, w2, w3⟩ := g2.2; ⟨w1, w2, by have : (10 : Int).toNat = 10 := rfl; omega⟩⟩, ec2, _, _, _, _, rfl⟩
    · rintro σ' H' ⟨g, ec, x, y, z, u, rfl⟩
      refine hX _ _ ⟨⟨g.1, let ⟨w1, w2, w3⟩ := g.2; ⟨w1, w2, by rw [List.length_map] at w3; omega⟩⟩, _, _, _, _, rfl⟩
end
end SR
set_option Elab.async false
set_option linter.all false
set_option maxRecDepth 100000
set_option maxHeartbeats 4000000
/-! Walks: the number of an int, by the law. -/
namespace SR
open PySem PySem.Spec PyProof.Rows L2
open SR.Num (size height exps terms ofTerms)
set_option autoImplicit false
theorem range_getD {α : Type} (d : α) : ∀ l : List α, (List.range l.length).map (fun i => l.getD i d) = l
  | [] => rfl
  | x :: r => by
    rw [List.length_cons, List.range_succ_eq_map, List.map_cons, List.map_map]
    have := range_getD d r
    conv => rhs; rw [← this]
    rfl
def gOf : Nat → Nat → Num
  | 0, _ => .nil
  | d + 1, p => ofI d (p : Int)
theorem ofI_g {d : Nat} {v : Int} (hv : v.natAbs ≤ tw d) : ofI d v = ofTerms ((digs 3100 0 v).map fun t => (t.1, gOf d t.2)).reverse := by
  cases d with
  | zero =>
    have : v.natAbs ≤ 0 := hv
    have : v = 0 := by omega
    rw [this, digs_zero]
    rfl
  | succ d => rfl
theorem sg_mod {v : Int} (h : v % 2 = 1) : 2 - v % 4 = sg (decide (v % 4 = 3)) := by
  by_cases h3 : v % 4 = 3
  · rw [decide_eq_true h3, h3]; rfl
  · rw [decide_eq_false h3, show v % 4 = 1 by omega]; rfl
def spOf (d : Nat) : Sp := fun vs H Q _ => ∃ v : Int, vs = [.int v] ∧ v.natAbs ≤ tw d ∧ ∀ H' p, Same H H' → NumAt H' p (ofI d v) → Q (.ref p) H'
section
variable {P : Program} {w : World} {K : PySem.W.Frag} {mg : Str → Option Value} {base : Heap} {a : Ads}
theorem ok_of1 (T : Top K mg a) (d : Nat) {k : Nat} {sp : Sp} (GlOf : FnOk P w K mg base CX0 k a.lOf a.lOfD ["_law_value"] sp) (hG : ∀ d', d = d' + 1 → sp = spOf d') :
    FnOk P w K mg base CX0 (k + 1) a.lOf a.lOfD ["_law_value"] (spOf d) := by
  refine T.lOf.F.ok lOf_sc (fun vs H Q E q => by obtain ⟨_, rfl, _⟩ := q; rfl) (fun cdv A outer s H vs Q E hr q => ?_)
  obtain ⟨v, rfl, hv, q⟩ := q
  refine ⟨_, (pss_cons (ps_set (i := 1) lOf_sc.nd rfl (Or.inr rfl) (pe_lst pa_nil))
      (pss_cons (ps_set (i := 2) lOf_sc.nd rfl (Or.inl rfl) pe_int)
      (pss_cons (ps_set (i := 3) lOf_sc.nd rfl (Or.inl rfl) (pv 0))
      (pss_cons (ps_for PassesOwn.never rfl (pi_range1 rfl T.bRange (pa_cons pe_int pa_nil)) (pg_name (i := 4) lOf_sc.nd rfl (Or.inl rfl))
        (pss_cons (ps_if (pt_cmpR op_eq (pv 3) pe_int (nomark _))
          (pss_one ps_break)
          pss_nil)
        (pss_cons (ps_if (pt_cmpR op_eq (pe_op op_mod (pe_callTy call_int1 (by rfl) T.bInt (by decide +kernel) (pa_cons (pv 3) pa_nil)) pe_int) pe_int (nomark _))
          (pss_cons (ps_set (i := 5) lOf_sc.nd rfl (Or.inl rfl) (pe_op op_sub pe_int (pe_op op_mod (pe_callTy call_int1 (by rfl) T.bInt (by decide +kernel) (pa_cons (pv 3) pa_nil)) pe_int)))
          (pss_cons (ps_expr (pe_bm PySem.F.plainAttrs_list PySem.F.slot_list_append PySem.F.type_list_append mt_append (pv 1) (pa_cons (pe_tup (pa_cons (pv 5) (pa_cons (callD T.lOf GlOf hr (pa_cons (pv 2) pa_nil)) pa_nil))) pa_nil)))
          (pss_one (ps_set (i := 3) lOf_sc.nd rfl (Or.inl rfl) (pe_op op_sub (pv 3) (pv 5))))))
          pss_nil)
        (pss_cons (ps_set (i := 3) lOf_sc.nd rfl (Or.inl rfl) (pe_op op_fdiv (pv 3) pe_int))
        (pss_one (ps_set (i := 2) lOf_sc.nd rfl (Or.inl rfl) (pe_op op_add (pv 2) pe_int)))))))
      (pss_one (ps_ret (pe_callTy call_tuple_of (by rfl) T.bTuple (by decide +kernel) (pa_cons (pe_lc (own := [("_law_k", 4)]) (g := gName 4) (tt := tYes) rfl lOf_sc.nd (pi_range1 rfl T.bRange (pa_cons (pe_callB (call_lenK (K := K)) (by rfl) T.bLen PySem.boot_len (pa_cons (pv 1) pa_nil)) pa_nil)) (blkOk_by (N := ["_law_value", "_law_terms", "_law_place", "_law_rest", "_law_k", "_law_sign"]) (sc := defScope lOf) (by decide +kernel)) (fun _ _ _ _ _ => by exact (pg_name (i := 4) lOf_sc.nd rfl (Or.inl rfl))) (fun _ _ _ _ _ => pts_nil) (fun _ _ _ _ _ => by exact (pe_ix (ix_listK (K := K)) (pv 1) (pe_op op_sub (pe_op op_sub (pe_callB (call_lenK (K := K)) (by rfl) T.bLen PySem.boot_len (pa_cons (pv 1) pa_nil)) pe_int) (pv 4)) (fun _ _ => rfl)))) pa_nil)))))))), ?_⟩
  rw [ofI_g hv] at q
  refine seq_cut (fun σ' H' => ∃ L, H L = none ∧ H' = upd H L (.lst []) ∧ σ' = [some (.int v), some (.ref L), none, none, none, none]) ?_ fun X hX => ⟨Nat.zero_le _, fun L hL => hX _ _ ⟨L, hL, rfl, rfl⟩⟩
  rintro _ _ ⟨L, hL, rfl, rfl⟩
  refine seq_cut (fun σ' H' => H' = upd H L (.lst []) ∧ σ' = [some (.int v), some (.ref L), some (.int 0), none, none, none]) ?_ fun X hX => hX _ _ ⟨rfl, rfl⟩
  rintro _ _ ⟨rfl, rfl⟩
  refine seq_cut (fun σ' H' => H' = upd H L (.lst []) ∧ σ' = [some (.int v), some (.ref L), some (.int 0), some (.int v), none, none]) ?_ fun X hX => ⟨_, rfl, hX _ _ ⟨rfl, rfl⟩⟩
  rintro _ _ ⟨rfl, rfl⟩
  have s0 := same_new hL (.lst [])
  refine seq_cut (fun σ' H' => Same H H' ∧ ∃ (us : List V) (x y z u : Option V), σ' = [some (.int v), some (.ref L), x, y, z, u] ∧ H' L = some (.lst us) ∧ Pairs H' us ((digs 3100 0 v).map fun t => (t.1, gOf d t.2)) ∧ us.length ≤ 3100) ?_ fun X hX => ?_
  · rintro σ' H1 ⟨sm, us, x, y, z, u, rfl, eL, hp, hul⟩
    dsimp only [tRet, tCB, tCons]
    refine lc_rng (H1 := H1) us.length (fun i => us.reverse.getD i .non) (small_line (by omega)) (fun R k => ?_) (fun i H2 hi s2 Qx k => ?_) fun D H2 hD s2 eD => ?_
    · exact ⟨_, rfl, L, us, rfl, .inl (SqL.of eL), _, rfl, by omega, by omega, by rw [Int.toNat_natCast]; exact k⟩
    · refine k _ rfl fun Q' k' => ?_
      have eL2 := s2 _ _ eL
      have hi2 : us.length - 1 - i < us.length := by omega
      refine ⟨_, rfl, _, rfl, L, us, rfl, .inl (SqL.of eL2), _, _, rfl, rfl, _, rfl, _, _, rfl, rfl, L, us, _, us[us.length - 1 - i], rfl, rfl, SqL.of eL2, ?_, ?_⟩
      · rw [show (us.length : Int) - 1 - (0 + (i : Int)) = ((us.length - 1 - i : Nat) : Int) by omega]
        exact atI_nat (List.getElem?_eq_getElem hi2)
      · rw [getD_of (x := us[us.length - 1 - i]) (by rw [List.getElem?_reverse hi]; exact List.getElem?_eq_getElem hi2)] at k'
        exact k' _ (Same.refl _)
    · refine ⟨D, us.reverse, rfl, .inl ⟨SqL.of ?_, fun p hpn => ?_⟩⟩
      · rw [eD]
        have := range_getD V.non us.reverse
        rw [List.length_reverse] at this
        rw [this]
      · have s3 := same_new hpn (.tup us.reverse)
        exact q _ p ((sm.trans s2).trans s3) ⟨_, upd_same, ((hp.mono (Tups.of_same (s2.trans s3))).rev).num⟩
  · refine ⟨3100, rfl, by decide, by decide, ?_⟩
    refine for_range (fun i σ' H' => i ≤ 3100 ∧ Same H H' ∧ ∃ (us : List V) (ds : List (Bool × Nat)) (r : Int) (z u : Option V), σ' = [some (.int v), some (.ref L), some (.int (i : Int)), some (.int r), z, u] ∧ H' L = some (.lst us) ∧ Pairs H' us (ds.map fun t => (t.1, gOf d t.2)) ∧ us.length ≤ i ∧ digs 3100 0 v = ds ++ digs (3100 - i) i r)
      ⟨by omega, s0, [], [], v, _, _, rfl, upd_same, Pairs.nil _, Nat.zero_le _, rfl⟩ ?_ ?_
    · rintro i σ' H1 hi ⟨_, sm, us, ds, r, z, u, rfl, eL, hp, hul, hd⟩
      have hi : i < 3100 := hi
      obtain ⟨k', hk'⟩ : ∃ k', 3100 - i = k' + 1 := ⟨3100 - i - 1, by omega⟩
      have hk2 : 3100 - (i + 1) = k' := by omega
      rw [hk'] at hd
      refine ⟨_, rfl, rfl, _, rfl, tstE (fun e => ?_) (fun e => ?_)⟩
      · rw [e, digs_zero, List.append_nil] at hd
        rw [hd] at hX
        exact hX _ _ ⟨sm, us, _, _, _, _, rfl, eL, hp, by omega⟩
      · have hdg : digs (k' + 1) i r = if r % 2 = 1 then (decide (r % 4 = 3), i) :: digs k' (i + 1) ((r - sg (decide (r % 4 = 3))) / 2) else digs k' (i + 1) (r / 2) := by rw [digs, if_neg e]
        rw [hdg] at hd
        refine seq_cut (fun σ' H' => H1 = H' ∧ σ' = [some (.int v), some (.ref L), some (.int (i : Int)), some (.int r), some (.int (0 + (i : Int))), u]) ?_ fun X2 hX2 => hX2 _ _ ⟨rfl, rfl⟩
        rintro _ _ ⟨rfl, rfl⟩
        refine seq_cut (fun σ' H' => Same H H' ∧ ∃ (us : List V) (ds : List (Bool × Nat)) (r : Int) (z u : Option V), σ' = [some (.int v), some (.ref L), some (.int (i : Int)), some (.int r), z, u] ∧ H' L = some (.lst us) ∧ Pairs H' us (ds.map fun t => (t.1, gOf d t.2)) ∧ us.length ≤ i + 1 ∧ digs 3100 0 v = ds ++ digs k' (i + 1) (r / 2)) ?_ fun X hX => ?_
        · rintro σ' H2 ⟨sm, us, ds, r, z, u, rfl, eL, hp, hul, hd⟩
          refine ⟨_, rfl, _, _, rfl, rfl, ⟨by decide, by decide⟩, _, rfl, _, _, rfl, rfl, ?_⟩
          exact ⟨by omega, sm, us, ds, r / 2, _, _, rfl, eL, hp, hul, by rw [hk2]; exact hd⟩
        · refine ⟨_, rfl, .inl ⟨_, rfl, _, _, rfl, rfl, lt2, rfl, _, rfl, tstE (fun e2 => ?_) (fun e2 => ?_)⟩⟩
          · rw [if_pos e2] at hd
            have hmem : (decide (r % 4 = 3), i) ∈ digs 3100 0 v := by rw [hd]; exact List.mem_append_right _ List.mem_cons_self
            cases d with
            | zero =>
              have : v.natAbs ≤ 0 := hv
              rw [show v = 0 by omega, digs_zero] at hmem
              exact nomatch hmem
            | succ d' =>
            have esp := hG d' rfl
            subst esp
            have hle := digs_le 3100 0 v (tw d') hv _ hmem
            refine ⟨_, rfl, .inl ⟨_, rfl, _, _, rfl, rfl, lt4, _, _, rfl, rfl, ?_⟩⟩
            refine ⟨.ref L, rfl, .inl ⟨rfl, _, .inl (.inl eL)⟩, _, rfl, _, rfl, (i : Int), rfl, by show (i : Int).natAbs ≤ _; have : i ≤ 0 + tw d' := hle.2; omega, fun H2 p s2 hp2 => ⟨le2, fun tp htp => ?_⟩⟩
            have s3 := same_new htp (.tup [.int (2 - r % 4), .ref p])
            have eL3 := (s2.trans s3) _ _ eL
            refine ⟨L, us, _, rfl, rfl, eL3, small_line (by omega), _, rfl, _, rfl, _, _, rfl, rfl, ?_⟩
            have e3 := sg_mod e2
            refine hX _ _ ⟨same_set (sm.trans (s2.trans s3)) hL, us ++ [.ref tp], ds ++ [(decide (r % 4 = 3), i)], r - (2 - r % 4), _, _, rfl, upd_same, ?_, by rw [List.length_append, List.length_singleton]; omega, ?_⟩
            · rw [List.map_append]
              refine ((hp.mono (Tups.of_same (s2.trans s3))).push (t := (decide (r % 4 = 3), gOf (d' + 1) i)) (q := p) ?_ (hp2.same s3)).mono (tups_lst eL3)
              rw [upd_same, e3]
            · rw [hd, e3, List.append_assoc]; rfl
          · rw [if_neg e2] at hd
            exact hX _ _ ⟨sm, us, ds, r, _, _, rfl, eL, hp, by omega, hd⟩
    · rintro σ' H1 ⟨_, sm, us, ds, r, z, u, rfl, eL, hp, hul, hd⟩
      have hd : digs 3100 0 v = ds ++ digs 0 3100 r := hd
      rw [digs, List.append_nil] at hd
      rw [hd] at hX
      exact hX _ _ ⟨sm, us, _, _, _, _, rfl, eL, hp, hul⟩
theorem ok_of (T : Top K mg a) : ∀ d : Nat, FnOk P w K mg base CX0 (d + 1) a.lOf a.lOfD ["_law_value"] (spOf d)
  | 0 => ok_of1 T 0 (k := 0) (sp := fun _ _ _ _ => False) (fn_none fun _ _ _ _ h => h) fun d' h => nomatch h
  | d + 1 => ok_of1 T (d + 1) (ok_of T d) fun d' h => by cases h; rfl
end
end SR
set_option Elab.async false
set_option linter.all false
set_option maxRecDepth 100000
set_option maxHeartbeats 4000000
/-! Walks: exponents, the dict of counts. -/
namespace SR
open PySem PySem.Spec PyProof.Rows L2
open SR.Num (size height exps terms ofTerms)
set_option autoImplicit false
def spExpo : Sp := fun vs H Q _ => ∃ (D : Addr) (at' : Int), vs = [.ref D, .int at'] ∧ Ints H D ∧ ∀ r : Int, 0 ≤ r → r ≤ 2 ^ 96 → Q (.int r) H
/-- a dict of counts of at most k exponents -/
structure Cnt (H : Hp) (D : Addr) (k : Nat) (kvs : List (Key × V)) (ks : List Int) : Prop where
  at' : H D = some (.dK kvs)
  keys : kvs.map (·.1) = ks.map Sum.inl
  nd : ks.Nodup
  len : ks.length ≤ k
  low : ∀ e ∈ ks, 0 ≤ e ∧ e ≤ 2 ^ 96
  vals : ∀ (e : Int) (v : V), valV kvs (Sum.inl e) = some v → ∃ c : Int, v = .int c ∧ c.natAbs ≤ 3 * k
theorem Cnt.there {H : Hp} {D : Addr} {k : Nat} {kvs : List (Key × V)} {ks : List Int} (c : Cnt H D k kvs ks) {e : Int} (he : e ∈ ks) : ∃ x : Int, valV kvs (Sum.inl e) = some (.int x) ∧ x.natAbs ≤ 3 * k := by
  have h1 : (valV kvs (Sum.inl e : Key)).isSome = true := by
    rw [← valV_any, List.any_eq_true]
    have : (Sum.inl e : Key) ∈ kvs.map (·.1) := by rw [c.keys]; exact List.mem_map.mpr ⟨e, he, rfl⟩
    obtain ⟨p, hp, hpe⟩ := List.mem_map.mp this
    exact ⟨p, hp, by simp [hpe]⟩
  obtain ⟨v, hv⟩ := Option.isSome_iff_exists.mp h1
  obtain ⟨x, rfl, hx⟩ := c.vals e v hv
  exact ⟨x, hv, hx⟩
theorem Cnt.put {H H' : Hp} {D : Addr} {k : Nat} {kvs : List (Key × V)} {ks : List Int} (c : Cnt H D k kvs ks) {e x : Int} (he : 0 ≤ e ∧ e ≤ 2 ^ 96) (hx : x.natAbs ≤ 3 * (k + 1)) (h' : H' D = some (.dK (putK kvs (Sum.inl e) (.int x)))) : ∃ kvs' ks', Cnt H' D (k + 1) kvs' ks' := by
  have hv : ∀ (e' : Int) (v : V), valV (putK kvs (Sum.inl e) (.int x)) (Sum.inl e' : Key) = some v → ∃ c : Int, v = .int c ∧ c.natAbs ≤ 3 * (k + 1) := fun e' v h => by
    rw [valV_put] at h
    split at h
    · cases h; exact ⟨x, rfl, hx⟩
    · obtain ⟨y, h1, h2⟩ := c.vals e' v h
      exact ⟨y, h1, by omega⟩
  by_cases hm : e ∈ ks
  · refine ⟨_, ks, h', ?_, c.nd, Nat.le_succ_of_le c.len, c.low, hv⟩
    obtain ⟨y, hy, _⟩ := c.there hm
    rw [← c.keys]
    unfold putK
    rw [valV_any, hy, if_pos (show (some (V.int y)).isSome = true from rfl), List.map_map]
    exact List.map_congr_left fun p _ => by
      show (if p.1 = _ then (p.1, _) else p).1 = p.1
      split <;> rfl
  · have hn : valV kvs (Sum.inl e : Key) = none := by
      cases h0 : valV kvs (Sum.inl e : Key) with
      | none => rfl
      | some v =>
        have h1 : (kvs.any fun kv => decide (kv.1 = (Sum.inl e : Key))) = true := by rw [valV_any, h0]; rfl
        obtain ⟨p, hp, hpe⟩ := List.any_eq_true.mp h1
        have : p.1 ∈ kvs.map (·.1) := List.mem_map.mpr ⟨p, hp, rfl⟩
        rw [c.keys, of_decide_eq_true hpe] at this
        obtain ⟨e2, h2, h3⟩ := List.mem_map.mp this
        cases h3
        exact absurd h2 hm
    refine ⟨_, ks ++ [e], h', ?_, ?_, by rw [List.length_append, List.length_singleton]; have := c.len; omega, fun y hy => ?_, hv⟩
    · rw [putK_new _ hn, List.map_append, c.keys, List.map_append]; rfl
    · rw [List.nodup_append]
      exact ⟨c.nd, by simp, fun a ha b hb => by rw [List.mem_singleton.mp hb]; exact fun z => hm (z ▸ ha)⟩
    · rcases List.mem_append.mp hy with q | q
      · exact c.low y q
      · rw [List.mem_singleton.mp q]; exact he
def spModel : Sp := fun vs H Q _ => ∃ (D : Addr) (at' : Int) (many : Nat), vs = [.ref D, .int at', .int (many : Int)] ∧ Ints H D ∧ many ≤ 5 ∧ ∀ H' p kvs ks, Same H H' → H p = none → Cnt H' p 5 kvs ks → Q (.ref p) H'
section
variable {P : Program} {w : World} {K : PySem.W.Frag} {mg : Str → Option Value} {base : Heap} {a : Ads}
theorem ok_expo (T : Top K mg a) (k : Nat) : FnOk P w K mg base CX0 (k + 2) a.lExponent a.lExponentD ["_law_numbers", "_law_at"] spExpo := by
  have GlPick := ok_pick (P := P) (w := w) (base := base) T k
  have GlTwo := ok_two (P := P) (w := w) (base := base) T k
  refine T.lExponent.F.ok (k := k + 1) lExponent_sc (fun vs H Q E q => by obtain ⟨_, _, rfl, _⟩ := q; rfl) (fun cdv A outer s H vs Q E hr q => ?_)
  obtain ⟨D, at', rfl, hD, q⟩ := q
  refine ⟨_, (pss_cons (ps_set (i := 2) lExponent_sc.nd rfl (Or.inl rfl) (callD T.lPick GlPick hr (pa_cons (pv 0) (pa_cons (pv 1) (pa_cons pe_int pa_nil)))))
      (pss_cons (ps_set (i := 3) lExponent_sc.nd rfl (Or.inl rfl) (callD T.lPick GlPick hr (pa_cons (pv 0) (pa_cons (pe_op op_add (pv 1) pe_int) (pa_cons pe_int pa_nil)))))
      (pss_cons (ps_if (pt_cmpR op_lt (pv 2) pe_int (nomark _))
        (pss_one (ps_ret (pv 3)))
        pss_nil)
      (pss_cons (ps_set (i := 4) lExponent_sc.nd rfl (Or.inl rfl) (callD T.lTwo GlTwo hr (pa_cons (pe_op op_add pe_int (callD T.lPick GlPick hr (pa_cons (pv 0) (pa_cons (pe_op op_add (pv 1) pe_int) (pa_cons pe_int pa_nil))))) pa_nil)))
      (pss_cons (ps_if (pt_cmpR op_eq (pv 2) pe_int (nomark _))
        (pss_one (ps_ret (pe_op op_add (pv 4) (pv 3))))
        pss_nil)
      (pss_cons (ps_if (pt_cmpR op_eq (pv 2) pe_int (nomark _))
        (pss_one (ps_ret (pe_op op_sub (pv 4) (pv 3))))
        pss_nil)
      (pss_one (ps_ret (pe_op op_sub (pe_op op_add (pv 4) (callD T.lTwo GlTwo hr (pa_cons (callD T.lPick GlPick hr (pa_cons (pv 0) (pa_cons (pe_op op_add (pv 1) pe_int) (pa_cons pe_int pa_nil)))) pa_nil))) (pe_op op_mod (pv 3) pe_int)))))))))), ?_⟩
  have p96 : (2 : Int) ^ 96 = 79228162514264337593543950336 := by decide
  refine ⟨_, rfl, _, rfl, D, at', 6, rfl, hD, by decide, fun way hw0 hw1 => ?_⟩
  refine ⟨_, rfl, _, rfl, _, _, rfl, rfl, D, _, 41, rfl, hD, by decide, fun lo hl0 hl1 => ?_⟩
  refine ⟨_, rfl, _, _, rfl, rfl, _, rfl, tst (fun e => ?_) (fun ne => ?_)⟩
  · exact ⟨_, rfl, q lo hl0 (by omega)⟩
  · refine ⟨_, rfl, _, rfl, _, _, rfl, rfl, D, _, 90, rfl, hD, by decide, fun hi hh0 hh1 => ?_⟩
    obtain ⟨hi, rfl⟩ := Int.eq_ofNat_of_zero_le hh0
    have hhi : hi < 90 := by omega
    refine ⟨_, _, rfl, rfl, 6 + hi, rfl, by omega, ?_⟩
    have b1 : (2 : Int) ^ 6 ≤ (2 : Int) ^ (6 + hi) := by
      have := Nat.pow_le_pow_right (n := 2) (by decide) (show 6 ≤ 6 + hi by omega)
      exact_mod_cast this
    have b2 : (2 : Int) ^ (6 + hi) ≤ (2 : Int) ^ 95 := by
      have := Nat.pow_le_pow_right (n := 2) (by decide) (show 6 + hi ≤ 95 by omega)
      exact_mod_cast this
    have p6 : (2 : Int) ^ 6 = 64 := by decide
    have p95 : (2 : Int) ^ 95 = 39614081257132168796771975168 := by decide
    generalize (2 : Int) ^ (6 + hi) = h at b1 b2
    refine ⟨_, rfl, rfl, _, rfl, tstE (fun e => ?_) (fun ne2 => ?_)⟩
    · exact ⟨_, rfl, _, rfl, _, _, rfl, rfl, q _ (by omega) (by omega)⟩
    · refine ⟨_, rfl, rfl, _, rfl, tstE (fun e => ?_) (fun ne3 => ?_)⟩
      · exact ⟨_, rfl, _, rfl, _, _, rfl, rfl, q _ (by omega) (by omega)⟩
      · refine ⟨_, rfl, _, rfl, _, rfl, _, _, rfl, rfl, D, _, 30, rfl, hD, by decide, fun t0 ht0 ht1 => ?_⟩
        obtain ⟨t0, rfl⟩ := Int.eq_ofNat_of_zero_le ht0
        refine ⟨t0, rfl, by omega, ?_⟩
        have c1 : (1 : Int) ≤ (2 : Int) ^ t0 := by
          have := Nat.one_le_two_pow (n := t0)
          exact_mod_cast this
        have c2 : (2 : Int) ^ t0 ≤ (2 : Int) ^ 30 := by
          have := Nat.pow_le_pow_right (n := 2) (by decide) (show t0 ≤ 30 by omega)
          exact_mod_cast this
        have p30 : (2 : Int) ^ 30 = 1073741824 := by decide
        refine ⟨_, _, rfl, rfl, _, rfl, _, _, rfl, rfl, by show (0 : Int) < 3; decide, _, _, rfl, rfl, q _ (by omega) (by omega)⟩
theorem ok_model (T : Top K mg a) (k : Nat) : FnOk P w K mg base CX0 (k + 3) a.lModel a.lModelD ["_law_numbers", "_law_at", "_law_many"] spModel := by
  have GlPick := (ok_pick (P := P) (w := w) (base := base) T k).mono (show k + 1 ≤ k + 2 by omega)
  have GlExponent := ok_expo (P := P) (w := w) (base := base) T k
  refine T.lModel.F.ok (k := k + 2) lModel_sc (fun vs H Q E q => by obtain ⟨_, _, _, rfl, _⟩ := q; rfl) (fun cdv A outer s H vs Q E hr q => ?_)
  obtain ⟨D, at', many, rfl, hD, hm, q⟩ := q
  have hu1 := hu_of hr
  refine ⟨_, (pss_cons (ps_set (i := 3) lModel_sc.nd rfl (Or.inl rfl) pe_dnewK)
      (pss_cons (ps_for PassesOwn.never rfl (pi_range1 rfl T.bRange (pa_cons (pv 2) pa_nil)) (pg_name (i := 4) lModel_sc.nd rfl (Or.inl rfl))
        (pss_cons (ps_set (i := 5) lModel_sc.nd rfl (Or.inl rfl) (pe_callB (call_max2 rfl) (by rfl) T.bMax (by decide +kernel) (pa_cons pe_int (pa_cons (callD T.lExponent GlExponent hr (pa_cons (pv 0) (pa_cons (pe_op op_add (pv 1) (pe_op op_mul pe_int (pv 4))) pa_nil))) pa_nil))))
        (pss_one (ps_dput hu1 (pv 3) (pv 5) (pe_op op_add (pe_dget2 hu1 (pv 3) (pv 5) pe_int ⟨rfl, rfl, rfl, rfl⟩) (pe_ix (ix_listK (K := K)) (pe_lst (pa_cons pe_int (pa_cons (pe_un un_neg pe_int) (pa_cons pe_int (pa_cons pe_int (pa_cons (pe_un un_neg pe_int) pa_nil)))))) (callD T.lPick GlPick hr (pa_cons (pv 0) (pa_cons (pe_op op_add (pe_op op_add (pv 1) (pe_op op_mul pe_int (pv 4))) pe_int) (pa_cons pe_int pa_nil)))) (fun _ _ => rfl))) rfl))))
      (pss_one (ps_ret (pv 3))))), ?_⟩
  refine seq_cut (fun σ' H' => ∃ p, H p = none ∧ H' = upd H p (.dK []) ∧ σ' = [some (.ref D), some (.int at'), some (.int (many : Int)), some (.ref p), none, none]) ?_ fun X hX p hp => hX _ _ ⟨p, hp, rfl, rfl⟩
  rintro _ _ ⟨p, hp, rfl, rfl⟩
  have s0 := same_new hp (.dK [])
  refine ⟨_, rfl, _, rfl, by omega, by omega, ?_⟩
  refine for_range (fun i σ' H' => Same H H' ∧ (∃ kvs ks, Cnt H' p i kvs ks) ∧ ∃ u v : Option V, σ' = [some (.ref D), some (.int at'), some (.int (many : Int)), some (.ref p), u, v]) ⟨s0, ⟨[], [], upd_same, rfl, List.nodup_nil, Nat.zero_le _, fun e h => (nomatch h), fun e v h => (by rw [valV_nil] at h; cases h)⟩, _, _, rfl⟩ ?_ ?_
  · rintro i σ' H1 hi ⟨sm, ⟨kvs, ks, c⟩, u, v, rfl⟩
    have hi : i < many := by rw [Int.toNat_natCast] at hi; exact hi
    refine ⟨_, rfl, _, rfl, _, rfl, _, _, rfl, rfl, .inl (by decide), _, _, rfl, rfl, D, _, rfl, hD.same sm, fun r hr0 hr1 => ⟨_, _, rfl, ?_⟩⟩
    have he : 0 ≤ (if r > 0 then r else 0 : Int) ∧ (if r > 0 then r else 0 : Int) ≤ 2 ^ 96 := by
      split
      · exact ⟨hr0, hr1⟩
      · exact ⟨Int.le_refl _, by decide⟩
    generalize (if r > 0 then r else 0 : Int) = e at he
    have hg : ∃ x : Int, (valV kvs (Sum.inl e : Key)).getD (.int 0) = .int x ∧ x.natAbs ≤ 3 * i := by
      cases h0 : valV kvs (Sum.inl e : Key) with
      | none => exact ⟨0, rfl, Nat.zero_le _⟩
      | some v =>
        obtain ⟨x, rfl, hx⟩ := c.vals e v h0
        exact ⟨x, rfl, hx⟩
    obtain ⟨x, hx, hxl⟩ := hg
    refine ⟨_, rfl, p, rfl, .inl ⟨kvs, .inl c.at'⟩, _, rfl, _, DGet.k (k := Sum.inl e) c.at', ?_⟩
    refine ⟨1, rfl, 3, rfl, Nat.le_of_lt (small_line (n := 5) (by omega)), fun M hM => ?_⟩
    have s1 := same_new hM (.lst [.int 1, .int (-1), .int 1, .int 2, .int (-3)])
    refine ⟨_, rfl, _, rfl, _, rfl, _, _, rfl, rfl, .inl (by decide), _, _, rfl, rfl, _, _, rfl, rfl, D, _, 5, rfl, hD.same (sm.trans s1), by decide, fun y hy0 hy1 => ?_⟩
    obtain ⟨y, rfl⟩ := Int.eq_ofNat_of_zero_le hy0
    have hy : y < 5 := by omega
    obtain ⟨z, hz, hzl⟩ : ∃ z : Int, ([.int 1, .int (-1), .int 1, .int 2, .int (-3)] : List V)[y]? = some (.int z) ∧ z.natAbs ≤ 3 := by
      match y, hy with
      | 0, _ => exact ⟨1, rfl, by decide⟩
      | 1, _ => exact ⟨-1, rfl, by decide⟩
      | 2, _ => exact ⟨1, rfl, by decide⟩
      | 3, _ => exact ⟨2, rfl, by decide⟩
      | 4, _ => exact ⟨-3, rfl, by decide⟩
    have c1 : (upd H1 M (.lst [.int 1, .int (-1), .int 1, .int 2, .int (-3)])) p = some (.dK kvs) := s1 _ _ c.at'
    refine ⟨M, _, _, .int z, rfl, rfl, SqL.of upd_same, atI_nat hz, x, z, hx, rfl, ?_⟩
    have hkl : kvs.length < sizeLine := by
      have := congrArg List.length c.keys
      rw [List.length_map, List.length_map] at this
      have := c.len
      exact small_line (by omega)
    refine ⟨_, rfl, _, rfl, p, _, rfl, DPut.k (k := Sum.inl e) c1 hkl, same_set (sm.trans s1) hp, ?_, _, _, rfl⟩
    exact c.put he (by omega) upd_same
  · rintro σ' H1 ⟨sm, ⟨kvs, ks, c⟩, u, v, rfl⟩
    rw [Int.toNat_natCast] at c
    exact ⟨_, rfl, q H1 p kvs ks sm hp ⟨c.at', c.keys, c.nd, Nat.le_trans c.len hm, c.low, fun e v h => let ⟨x, h1, h2⟩ := c.vals e v h; ⟨x, h1, by omega⟩⟩⟩
end
end SR
set_option Elab.async false
set_option linter.all false
set_option maxRecDepth 100000
set_option maxHeartbeats 4000000
/-! Walks: the rows of a number. -/
namespace SR
open PySem PySem.Spec PyProof.Rows L2
open SR.Num (size height exps terms ofTerms)
set_option autoImplicit false
structure Rws (H : Hp) (vs : List V) (rs : List (Bool × Int)) : Prop where
  len : vs.length = rs.length
  get : ∀ (i : Nat) (t : Bool × Int), rs[i]? = some t → ∃ p, vs[i]? = some (V.ref p) ∧ H p = some (.tup [.int (sg t.1), .int t.2])
theorem Rws.mono {H H' : Hp} (t : Tups H H') {vs : List V} {rs : List (Bool × Int)} (h : Rws H vs rs) : Rws H' vs rs := ⟨h.len, fun i n e => let ⟨p, a, b⟩ := h.get i n e; ⟨p, a, t _ _ b⟩⟩
theorem Rws.nil (H : Hp) : Rws H [] [] := ⟨rfl, fun i n e => by simp at e⟩
theorem Rws.push {H : Hp} {vs : List V} {rs : List (Bool × Int)} (h : Rws H vs rs) {p : Addr} {t : Bool × Int} (e1 : H p = some (.tup [.int (sg t.1), .int t.2])) : Rws H (vs ++ [.ref p]) (rs ++ [t]) := by
  have l := h.len
  refine ⟨by simp [l], fun i u e => ?_⟩
  by_cases hi : i < rs.length
  · rw [List.getElem?_append_left hi] at e
    rw [List.getElem?_append_left (by omega)]
    exact h.get i u e
  · rw [List.getElem?_append_right (by omega)] at e
    rw [List.getElem?_append_right (by omega), l]
    by_cases h0 : i - rs.length = 0
    · rw [h0] at e ⊢
      cases e
      exact ⟨p, rfl, e1⟩
    · obtain ⟨k, hk⟩ := Nat.exists_eq_succ_of_ne_zero h0
      rw [hk] at e
      simp at e
theorem Rws.rev {H : Hp} {us : List V} {rs : List (Bool × Int)} (h : Rws H us rs) : Rws H us.reverse rs.reverse := by
  refine ⟨by simp [h.len], fun i n e => ?_⟩
  obtain ⟨hi, e⟩ := rev_get e
  obtain ⟨p, e1, e2⟩ := h.get _ n e
  exact ⟨p, by rw [List.getElem?_reverse (by rw [h.len]; exact hi), h.len]; exact e1, e2⟩
theorem Rws.back {H : Hp} {vs : List V} {rs : List (Bool × Int)} (h : Rws H vs rs) {i : Nat} {v : V} (e : vs[i]? = some v) : ∃ t p, rs[i]? = some t ∧ v = .ref p ∧ H p = some (.tup [.int (sg t.1), .int t.2]) := by
  have hi : i < rs.length := by rw [← h.len]; exact (List.getElem?_eq_some_iff.mp e).1
  obtain ⟨p, e1, e2⟩ := h.get i _ (List.getElem?_eq_getElem hi)
  rw [e] at e1
  cases e1
  exact ⟨_, p, List.getElem?_eq_getElem hi, rfl, e2⟩
theorem sg_mod2 {v : Int} (h : v % 2 = 1) : ∃ b : Bool, 2 - v % 4 = sg b := ⟨_, sg_mod h⟩
def spRows : Sp := fun vs H Q _ => ∃ (D : Addr) (kvs : List (Key × V)) (ks : List Int), vs = [.ref D] ∧ Cnt H D 5 kvs ks ∧ ∀ H' p us rs, Same H H' → H p = none → H' p = some (.lst us) → Rws H' us rs → rs.length ≤ 101 → (∀ t ∈ rs, 0 ≤ t.2 ∧ t.2 ≤ 2 ^ 97) → Q (.ref p) H'
/-- 1 where the next exponent that waits is not this one -/
def adjN (ys : List Int) (at' : Nat) (e : Int) : Nat := if ys[at']? = some e then 0 else 1
theorem adjN_le (ys : List Int) (at' : Nat) (e : Int) : adjN ys at' e ≤ 1 := by unfold adjN; split <;> omega
/-- what is true between two turns; r: the rows made -/
structure RI (ys : List Int) (i at' : Nat) (c e : Int) (r : Nat) : Prop where
  le : at' ≤ ys.length
  low : 0 ≤ e ∧ e ≤ 2 ^ 96 + i
  few : r + (20 * (ys.length - at') + c.natAbs + adjN ys at' e) ≤ 101
structure RI1 (ys : List Int) (i at' : Nat) (c e : Int) (r : Nat) : Prop where
  le : at' ≤ ys.length
  low : 0 ≤ e ∧ e ≤ 2 ^ 96 + i
  few : r + (20 * (ys.length - at') + c.natAbs + 1) ≤ 101
  ne : ys[at']? ≠ some e
theorem RI.pop {ys : List Int} {i at' : Nat} {c e y x : Int} {r : Nat} (h : RI ys i at' c e r) (hy : ys[at']? = some y) (hlow : 0 ≤ y ∧ y ≤ 2 ^ 96) (hs : ys.Pairwise (· < ·)) (hx : x.natAbs ≤ 15) : RI1 ys i (at' + 1) (c + x) y r := by
  have hlt := (List.getElem?_eq_some_iff.mp hy).1
  have := h.few
  refine ⟨hlt, ⟨hlow.1, by omega⟩, by omega, fun z => ?_⟩
  obtain ⟨h1, e1⟩ := List.getElem?_eq_some_iff.mp hy
  obtain ⟨h2, e2⟩ := List.getElem?_eq_some_iff.mp z
  have := List.pairwise_iff_getElem.mp hs at' (at' + 1) h1 h2 (by omega)
  rw [e1, e2] at this
  omega
theorem RI.keep {ys : List Int} {i at' : Nat} {c e : Int} {r : Nat} (h : RI ys i at' c e r) (hn : ys[at']? ≠ some e) : RI1 ys i at' c e r := by
  have := h.few
  rw [adjN, if_neg hn] at this
  exact ⟨h.le, h.low, this, hn⟩
theorem RI1.odd {ys : List Int} {i at' : Nat} {c e more : Int} {r : Nat} (h : RI1 ys i at' c e r) (hc : c % 2 = 1) (hm : ys[at']? ≠ some (e + 1) → more = 0) : RI ys (i + 1) at' ((c - (2 - (c + 2 * more) % 4)) / 2) (e + 1) (r + 1) := by
  have hf := h.few
  have hl := h.low
  refine ⟨h.le, ⟨by omega, by omega⟩, ?_⟩
  by_cases ha : ys[at']? = some (e + 1)
  · rw [adjN, if_pos ha]
    have : ((c - (2 - (c + 2 * more) % 4)) / 2).natAbs ≤ c.natAbs := by omega
    omega
  · rw [adjN, if_neg ha, hm ha]
    have : ((c - (2 - (c + 2 * 0) % 4)) / 2).natAbs + 1 ≤ c.natAbs := by omega
    omega
theorem RI1.even {ys : List Int} {i at' : Nat} {c e : Int} {r : Nat} (h : RI1 ys i at' c e r) (hc : ¬ c % 2 = 1) : RI ys (i + 1) at' (c / 2) (e + 1) r := by
  have hf := h.few
  have hl := h.low
  refine ⟨h.le, ⟨by omega, by omega⟩, ?_⟩
  have := adjN_le ys at' (e + 1)
  have : (c / 2).natAbs ≤ c.natAbs := by omega
  omega
theorem sort_strict {ks ys : List Int} (p : ys.Perm ks) (nd : ks.Nodup) (s : ys.Pairwise (· ≤ ·)) : ys.Pairwise (· < ·) := by
  have n2 : ys.Nodup := p.nodup_iff.mpr nd
  exact (s.and n2).imp fun {a b} h => by omega
section
variable {P : Program} {w : World} {K : PySem.W.Frag} {mg : Str → Option Value} {base : Heap} {a : Ads}
theorem ok_rows (T : Top K mg a) (k : Nat) : FnOk P w K mg base CX0 (k + 1) a.lRows a.lRowsD ["_law_counts"] spRows := by
  refine T.lRows.F.ok lRows_sc (fun vs H Q E q => by obtain ⟨_, _, _, rfl, _⟩ := q; rfl) (fun cdv A outer s H vs Q E hr q => ?_)
  obtain ⟨D, kvs, ks, rfl, cn, q⟩ := q
  have hu1 := hu_of hr
  refine ⟨_, (pss_cons (ps_set (i := 1) lRows_sc.nd rfl (Or.inl rfl) (pe_callB (call_sortedDI rfl) (by rfl) T.bSorted (by decide +kernel) (pa_cons (pv 0) pa_nil)))
      (pss_cons (ps_set (i := 2) lRows_sc.nd rfl (Or.inr rfl) (pe_lst pa_nil))
      (pss_cons (ps_set (i := 3) lRows_sc.nd rfl (Or.inl rfl) pe_int)
      (pss_cons (ps_set (i := 4) lRows_sc.nd rfl (Or.inl rfl) pe_int)
      (pss_cons (ps_set (i := 5) lRows_sc.nd rfl (Or.inl rfl) pe_int)
      (pss_cons (ps_for PassesOwn.never rfl (pi_range1 rfl T.bRange (pa_cons pe_int pa_nil)) (pg_name (i := 6) lRows_sc.nd rfl (Or.inl rfl))
        (pss_cons (ps_if (PW.pt (pw_and (pt_cmpR op_eq (pv 5) (pe_callB (call_lenK (K := K)) (by rfl) T.bLen PySem.boot_len (pa_cons (pv 1) pa_nil)) (nomark _)) (pw_and1 (pt_cmpR op_eq (pv 3) pe_int (nomark _)))))
          (pss_one ps_break)
          pss_nil)
        (pss_cons (ps_if (PW.pt (pw_and (pt_cmpR op_lt (pv 5) (pe_callB (call_lenK (K := K)) (by rfl) T.bLen PySem.boot_len (pa_cons (pv 1) pa_nil)) (nomark _)) (pw_and1 (PW.pt (pw_or (pt_cmpR op_eq (pv 3) pe_int (nomark _)) (pw_or1 (pt_cmpR op_eq (pe_ix (ix_listK (K := K)) (pv 1) (pv 5) (fun _ _ => rfl)) (pv 4) (nomark _))))))))
          (pss_cons (ps_set (i := 4) lRows_sc.nd rfl (Or.inl rfl) (pe_ix (ix_listK (K := K)) (pv 1) (pv 5) (fun _ _ => rfl)))
          (pss_cons (ps_set (i := 3) lRows_sc.nd rfl (Or.inl rfl) (pe_op op_add (pv 3) (pe_dget hu1 (pv 0) (pv 4) (fun _ _ => rfl))))
          (pss_one (ps_set (i := 5) lRows_sc.nd rfl (Or.inl rfl) (pe_op op_add (pv 5) pe_int)))))
          pss_nil)
        (pss_cons (ps_if (pt_cmpR op_eq (pe_op op_mod (pe_callTy call_int1 (by rfl) T.bInt (by decide +kernel) (pa_cons (pv 3) pa_nil)) pe_int) pe_int (nomark _))
          (pss_cons (ps_set (i := 7) lRows_sc.nd rfl (Or.inl rfl) pe_int)
          (pss_cons (ps_if (PW.pt (pw_and (pt_cmpR op_lt (pv 5) (pe_callB (call_lenK (K := K)) (by rfl) T.bLen PySem.boot_len (pa_cons (pv 1) pa_nil)) (nomark _)) (pw_and1 (pt_cmpR op_eq (pe_ix (ix_listK (K := K)) (pv 1) (pv 5) (fun _ _ => rfl)) (pe_op op_add (pv 4) pe_int) (nomark _)))))
            (pss_one (ps_set (i := 7) lRows_sc.nd rfl (Or.inl rfl) (pe_dget hu1 (pv 0) (pe_op op_add (pv 4) pe_int) (fun _ _ => rfl))))
            pss_nil)
          (pss_cons (ps_set (i := 8) lRows_sc.nd rfl (Or.inl rfl) (pe_op op_sub pe_int (pe_op op_mod (pe_callTy call_int1 (by rfl) T.bInt (by decide +kernel) (pa_cons (pe_op op_add (pv 3) (pe_op op_mul pe_int (pv 7))) pa_nil)) pe_int)))
          (pss_cons (ps_expr (pe_bm PySem.F.plainAttrs_list PySem.F.slot_list_append PySem.F.type_list_append mt_append (pv 2) (pa_cons (pe_tup (pa_cons (pv 8) (pa_cons (pv 4) pa_nil))) pa_nil)))
          (pss_one (ps_set (i := 3) lRows_sc.nd rfl (Or.inl rfl) (pe_op op_sub (pv 3) (pv 8))))))))
          pss_nil)
        (pss_cons (ps_set (i := 3) lRows_sc.nd rfl (Or.inl rfl) (pe_op op_fdiv (pv 3) pe_int))
        (pss_one (ps_set (i := 4) lRows_sc.nd rfl (Or.inl rfl) (pe_op op_add (pv 4) pe_int))))))))
      (pss_one (ps_ret (pe_lc (own := [("_law_k", 6)]) (g := gName 6) (tt := tYes) rfl lRows_sc.nd (pi_range1 rfl T.bRange (pa_cons (pe_callB (call_lenK (K := K)) (by rfl) T.bLen PySem.boot_len (pa_cons (pv 2) pa_nil)) pa_nil)) (blkOk_by (N := ["_law_counts", "_law_waiting", "_law_rows_here", "_law_count", "_law_exponent_here", "_law_at", "_law_k", "_law_more", "_law_sign"]) (sc := defScope lRows) (by decide +kernel)) (fun _ _ _ _ _ => by exact (pg_name (i := 6) lRows_sc.nd rfl (Or.inl rfl))) (fun _ _ _ _ _ => pts_nil) (fun _ _ _ _ _ => by exact (pe_ix (ix_listK (K := K)) (pv 2) (pe_op op_sub (pe_op op_sub (pe_callB (call_lenK (K := K)) (by rfl) T.bLen PySem.boot_len (pa_cons (pv 2) pa_nil)) pe_int) (pv 6)) (fun _ _ => rfl)))))))))))), ?_⟩
  have hkl := cn.len
  refine seq_cut (fun σ' H' => ∃ ys wt, ys.Perm ks ∧ ys.Pairwise (· ≤ ·) ∧ H wt = none ∧ H' = upd H wt (.lst (ys.map V.int)) ∧ σ' = [some (.ref D), some (.ref wt), none, none, none, none, none, none, none]) ?_ fun X hX =>
    ⟨_, rfl, D, kvs, ks, rfl, .inl cn.at', cn.keys, by omega, fun ys wt h1 h2 h3 => hX _ _ ⟨ys, wt, h1, h2, h3, rfl, rfl⟩⟩
  rintro _ _ ⟨ys, wt, hperm, hle, hwt, rfl, rfl⟩
  have hst := sort_strict hperm cn.nd hle
  have hyl : ys.length ≤ 5 := by rw [hperm.length_eq]; exact hkl
  have hmem : ∀ y ∈ ys, y ∈ ks := fun y h => hperm.mem_iff.mp h
  have s1 := same_new hwt (.lst (ys.map V.int))
  refine seq_cut (fun σ' H' => ∃ L, (upd H wt (.lst (ys.map V.int))) L = none ∧ H' = upd (upd H wt (.lst (ys.map V.int))) L (.lst []) ∧ σ' = [some (.ref D), some (.ref wt), some (.ref L), none, none, none, none, none, none]) ?_ fun X hX => ⟨Nat.zero_le _, fun L hL => hX _ _ ⟨L, hL, rfl, rfl⟩⟩
  rintro _ _ ⟨L, hL, rfl, rfl⟩
  have s2 := same_new hL (.lst [])
  refine seq_cut (fun σ' H' => H' = upd (upd H wt (.lst (ys.map V.int))) L (.lst []) ∧ σ' = [some (.ref D), some (.ref wt), some (.ref L), some (.int 0), none, none, none, none, none]) ?_ fun X hX => hX _ _ ⟨rfl, rfl⟩
  rintro _ _ ⟨rfl, rfl⟩
  refine seq_cut (fun σ' H' => H' = upd (upd H wt (.lst (ys.map V.int))) L (.lst []) ∧ σ' = [some (.ref D), some (.ref wt), some (.ref L), some (.int 0), some (.int 0), none, none, none, none]) ?_ fun X hX => hX _ _ ⟨rfl, rfl⟩
  rintro _ _ ⟨rfl, rfl⟩
  refine seq_cut (fun σ' H' => H' = upd (upd H wt (.lst (ys.map V.int))) L (.lst []) ∧ σ' = [some (.ref D), some (.ref wt), some (.ref L), some (.int 0), some (.int 0), some (.int ((0 : Nat) : Int)), none, none, none]) ?_ fun X hX => hX _ _ ⟨rfl, rfl⟩
  rintro _ _ ⟨rfl, rfl⟩
  generalize hH1 : upd H wt (.lst (ys.map V.int)) = H1 at s1 s2 hL
  have ewt : H1 wt = some (.lst (ys.map V.int)) := by rw [← hH1, upd_same]
  have eD : H1 D = some (.dK kvs) := s1 _ _ cn.at'
  refine seq_cut (fun σ' H' => Same H1 H' ∧ ∃ (us : List V) (rs : List (Bool × Int)) (v3 v4 v5 v6 v7 v8 : Option V), σ' = [some (.ref D), some (.ref wt), some (.ref L), v3, v4, v5, v6, v7, v8] ∧ H' L = some (.lst us) ∧ Rws H' us rs ∧ rs.length ≤ 101 ∧ ∀ t ∈ rs, 0 ≤ t.2 ∧ t.2 ≤ 2 ^ 97) ?_ fun X hX => ?_
  · rintro σ' H2 ⟨sm, us, rs, v3, v4, v5, v6, v7, v8, rfl, eL, hrw, hrl, hrb⟩
    have hul := hrw.len
    dsimp only [tRet]
    refine lc_rng (H1 := H2) us.length (fun i => us.reverse.getD i .non) (small_line (by omega)) (fun R k => ?_) (fun i H3 hi s3 Qx k => ?_) fun D2 H3 hD2 s3 eD2 => ?_
    · exact ⟨_, rfl, L, us, rfl, .inl (SqL.of eL), _, rfl, by omega, by omega, by rw [Int.toNat_natCast]; exact k⟩
    · refine k _ rfl fun Q' k' => ?_
      have eL2 := s3 _ _ eL
      have hi2 : us.length - 1 - i < us.length := by omega
      refine ⟨_, rfl, _, rfl, L, us, rfl, .inl (SqL.of eL2), _, _, rfl, rfl, _, rfl, _, _, rfl, rfl, L, us, _, us[us.length - 1 - i], rfl, rfl, SqL.of eL2, ?_, ?_⟩
      · rw [show (us.length : Int) - 1 - (0 + (i : Int)) = ((us.length - 1 - i : Nat) : Int) by omega]
        exact atI_nat (List.getElem?_eq_getElem hi2)
      · rw [getD_of (x := us[us.length - 1 - i]) (by rw [List.getElem?_reverse hi]; exact List.getElem?_eq_getElem hi2)] at k'
        exact k' _ (Same.refl _)
    · have := range_getD V.non us.reverse
      rw [List.length_reverse] at this
      rw [this] at eD2
      exact q H3 D2 us.reverse rs.reverse ((s1.trans sm).trans s3) (none_back (s1.trans sm) hD2) eD2 ((hrw.mono (Tups.of_same s3)).rev) (by rw [List.length_reverse]; exact hrl) fun t ht => hrb t (List.mem_reverse.mp ht)
  · refine ⟨9000, rfl, by decide, by decide, ?_⟩
    refine for_range (fun i σ' H' => Same H1 H' ∧ ∃ (us : List V) (rs : List (Bool × Int)) (at' : Nat) (c e : Int) (v6 v7 v8 : Option V), σ' = [some (.ref D), some (.ref wt), some (.ref L), some (.int c), some (.int e), some (.int (at' : Int)), v6, v7, v8] ∧ H' L = some (.lst us) ∧ Rws H' us rs ∧ (∀ t ∈ rs, 0 ≤ t.2 ∧ t.2 ≤ 2 ^ 97) ∧ RI ys i at' c e rs.length)
      ⟨s2, [], [], 0, 0, 0, _, _, _, rfl, upd_same, Rws.nil _, fun t h => (nomatch h), Nat.zero_le _, ⟨by decide, by decide⟩, by have := adjN_le ys 0 0; show 0 + (20 * (ys.length - 0) + 0 + _) ≤ 101; omega⟩ ?_ ?_
    · rintro i σ' H2 hi ⟨sm, us, rs, at', c, e, v6, v7, v8, rfl, eL, hrw, hrb, ri⟩
      have hi : i < 9000 := hi
      have ewt2 := sm _ _ ewt
      have eD2 := sm _ _ eD
      have hyv : (ys.map V.int).length = ys.length := List.length_map _
      have hat := ri.le
      have hrl : rs.length ≤ 101 := by have := ri.few; omega
      apply wh_cut True
      case h =>
        intro body
        refine ⟨_, rfl, _, rfl, wt, _, rfl, .inl (SqL.of ewt2), rfl, _, rfl, tstE (fun e1 => ?_) (fun _ => body trivial)⟩
        refine ⟨_, rfl, rfl, _, rfl, tstE (fun e2 => ?_) (fun _ => body trivial)⟩
        exact hX _ _ ⟨sm, us, rs, _, _, _, _, _, _, rfl, eL, hrw, hrl, hrb⟩
      case b =>
        intro _
        refine iteF ?_
        refine seq_cut (fun σ' H' => H2 = H' ∧ σ' = [some (.ref D), some (.ref wt), some (.ref L), some (.int c), some (.int e), some (.int (at' : Int)), some (.int (0 + (i : Int))), v7, v8]) ?_ fun X2 hX2 => hX2 _ _ ⟨rfl, rfl⟩
        rintro _ _ ⟨rfl, rfl⟩
        refine seq_cut (fun σ' H' => H2 = H' ∧ ∃ (at1 : Nat) (c1 e1 : Int), σ' = [some (.ref D), some (.ref wt), some (.ref L), some (.int c1), some (.int e1), some (.int (at1 : Int)), some (.int (0 + (i : Int))), v7, v8] ∧ RI1 ys i at1 c1 e1 rs.length) ?_ fun X2 hX2 => ?_
        · rintro _ _ ⟨rfl, at1, c1, e1, rfl, r1⟩
          have hat1 := r1.le
          refine seq_cut (fun σ' H' => Same H1 H' ∧ ∃ (us : List V) (rs : List (Bool × Int)) (c2 : Int) (v7 v8 : Option V), σ' = [some (.ref D), some (.ref wt), some (.ref L), some (.int c2), some (.int e1), some (.int (at1 : Int)), some (.int (0 + (i : Int))), v7, v8] ∧ H' L = some (.lst us) ∧ Rws H' us rs ∧ (∀ t ∈ rs, 0 ≤ t.2 ∧ t.2 ≤ 2 ^ 97) ∧ RI ys (i + 1) at1 (c2 / 2) (e1 + 1) rs.length) ?_ fun X3 hX3 => ?_
          · rintro σ' H3 ⟨sm, us, rs, c2, v7, v8, rfl, eL, hrw, hrb, ri2⟩
            exact ⟨_, rfl, _, _, rfl, rfl, ⟨by decide, by decide⟩, _, rfl, _, _, rfl, rfl, sm, us, rs, at1, c2 / 2, e1 + 1, _, _, _, rfl, eL, hrw, hrb, ri2⟩
          · refine ⟨_, rfl, .inl ⟨_, rfl, _, _, rfl, rfl, lt2, rfl, _, rfl, tstE (fun eo => ?_) (fun eo => ?_)⟩⟩
            · refine seq_cut (fun σ' H' => H2 = H' ∧ σ' = [some (.ref D), some (.ref wt), some (.ref L), some (.int c1), some (.int e1), some (.int (at1 : Int)), some (.int (0 + (i : Int))), some (.int 0), v8]) ?_ fun X4 hX4 => hX4 _ _ ⟨rfl, rfl⟩
              rintro _ _ ⟨rfl, rfl⟩
              refine seq_cut (fun σ' H' => H2 = H' ∧ ∃ more : Int, σ' = [some (.ref D), some (.ref wt), some (.ref L), some (.int c1), some (.int e1), some (.int (at1 : Int)), some (.int (0 + (i : Int))), some (.int more), v8] ∧ (ys[at1]? ≠ some (e1 + 1) → more = 0)) ?_ fun X4 hX4 => ?_
              · rintro _ _ ⟨rfl, more, rfl, hmore⟩
                have hodd : (c1 + 2 * more) % 2 = 1 := by omega
                obtain ⟨b, hb⟩ := sg_mod2 hodd
                refine ⟨_, rfl, _, rfl, _, _, rfl, rfl, .inl (by decide), _, _, rfl, rfl, .inl ⟨_, rfl, _, _, rfl, rfl, lt4, _, _, rfl, rfl, ?_⟩⟩
                refine ⟨.ref L, rfl, .inl ⟨rfl, _, .inl (.inl eL)⟩, _, rfl, _, rfl, le2, fun tp htp => ?_⟩
                have s4 := same_new htp (.tup [.int (2 - (c1 + 2 * more) % 4), .int e1])
                have eL4 := s4 _ _ eL
                refine ⟨L, us, _, rfl, rfl, eL4, by rw [hrw.len]; exact small_line (by omega), _, rfl, _, rfl, _, _, rfl, rfl, ?_⟩
                have p97 : (2 : Int) ^ 97 = 2 ^ 96 + 2 ^ 96 := by decide
                have p96 : (9000 : Int) ≤ 2 ^ 96 := by decide
                have hlow := r1.low
                refine hX3 _ _ ⟨same_set (sm.trans s4) hL, us ++ [.ref tp], rs ++ [(b, e1)], _, _, _, rfl, upd_same, ?_, fun t ht => ?_, ?_⟩
                · refine ((hrw.mono (Tups.of_same s4)).push (t := (b, e1)) ?_).mono (tups_lst eL4)
                  rw [upd_same, hb]
                · rcases List.mem_append.mp ht with q1 | q1
                  · exact hrb t q1
                  · rw [List.mem_singleton.mp q1]
                    exact ⟨hlow.1, by show e1 ≤ _; omega⟩
                · rw [List.length_append, List.length_singleton]
                  exact r1.odd eo hmore
              · refine ⟨_, rfl, _, rfl, wt, _, rfl, .inl (SqL.of ewt2), _, _, rfl, rfl, _, rfl, tst (fun elt => ?_) (fun elt => ?_)⟩
                · rw [hyv] at elt
                  have hlt : at1 < ys.length := by omega
                  obtain ⟨y, hy⟩ : ∃ y, ys[at1]? = some y := ⟨_, List.getElem?_eq_getElem hlt⟩
                  have hyV : (ys.map V.int)[at1]? = some (.int y) := by rw [List.getElem?_map, hy]; rfl
                  refine ⟨_, rfl, _, rfl, wt, _, _, .int y, rfl, rfl, SqL.of ewt2, atI_nat hyV, _, rfl, _, _, rfl, rfl, rfl, _, rfl, tstE (fun ey => ?_) (fun ey => ?_)⟩
                  · obtain ⟨x, hx, _⟩ := cn.there (hmem y (List.mem_of_getElem? hy))
                    refine ⟨_, rfl, _, rfl, _, _, rfl, rfl, D, .int x, rfl, ?_, ?_⟩
                    · have := DGet.k (k := Sum.inl y) eD2
                      rw [hx, ey] at this
                      exact this
                    · exact hX4 _ _ ⟨rfl, x, rfl, fun z => absurd (by rw [hy, ey]) z⟩
                  · exact hX4 _ _ ⟨rfl, 0, rfl, fun _ => rfl⟩
                · exact hX4 _ _ ⟨rfl, 0, rfl, fun _ => rfl⟩
            · exact hX3 _ _ ⟨sm, us, rs, c1, _, _, rfl, eL, hrw, hrb, r1.even eo⟩
        · refine ⟨_, rfl, _, rfl, wt, _, rfl, .inl (SqL.of ewt2), _, _, rfl, rfl, _, rfl, tst (fun elt => ?_) (fun elt => ?_)⟩
          · rw [hyv] at elt
            have hlt : at' < ys.length := by omega
            obtain ⟨y, hy⟩ : ∃ y, ys[at']? = some y := ⟨_, List.getElem?_eq_getElem hlt⟩
            have hyV : (ys.map V.int)[at']? = some (.int y) := by rw [List.getElem?_map, hy]; rfl
            have hym := hmem y (List.mem_of_getElem? hy)
            apply wh_cut True
            case h =>
              intro pop
              refine ⟨_, rfl, rfl, _, rfl, tstE (fun e2 => pop trivial) (fun e2 => ?_)⟩
              refine ⟨_, rfl, _, rfl, wt, _, _, .int y, rfl, rfl, SqL.of ewt2, atI_nat hyV, _, rfl, rfl, _, rfl, tstE (fun ey => pop trivial) (fun ey => ?_)⟩
              exact hX2 _ _ ⟨rfl, at', c, e, rfl, ri.keep fun z => ey (by rw [hy] at z; exact Option.some.inj z)⟩
            case b =>
              intro _
              obtain ⟨x, hx, hxl⟩ := cn.there hym
              refine ⟨_, rfl, _, rfl, wt, _, _, .int y, rfl, rfl, SqL.of ewt2, atI_nat hyV, ?_⟩
              refine ⟨_, rfl, _, rfl, _, rfl, D, .int x, rfl, ?_, _, _, rfl, rfl, _, rfl, _, _, rfl, rfl, ?_⟩
              · have := DGet.k (k := Sum.inl y) eD2
                rw [hx] at this
                exact this
              · exact hX2 _ _ ⟨rfl, at' + 1, c + x, y, rfl, ri.pop hy (cn.low y hym) hst (by omega)⟩
          · rw [hyv] at elt
            exact hX2 _ _ ⟨rfl, at', c, e, rfl, ri.keep fun z => by
              have := (List.getElem?_eq_some_iff.mp z).1
              omega⟩
    · rintro σ' H2 ⟨sm, us, rs, at', c, e, v6, v7, v8, rfl, eL, hrw, hrb, ri⟩
      have := ri.few
      exact hX _ _ ⟨sm, us, rs, _, _, _, _, _, _, rfl, eL, hrw, by omega, hrb⟩
end
end SR
set_option Elab.async false
set_option linter.all false
set_option maxRecDepth 100000
set_option maxHeartbeats 4000000
/-! Sizes of the law's numbers; the walk that makes one of its rows. -/
namespace SR
open PySem PySem.Spec PyProof.Rows L2
open SR.Num (size height exps terms ofTerms)
set_option autoImplicit false
theorem digs_len : ∀ (k p : Nat) (v : Int) (m : Nat), v.natAbs ≤ 2 ^ m → (digs k p v).length ≤ m + 1
  | 0, _, _, _, _ => Nat.zero_le _
  | k + 1, p, v, m, hv => by
    rw [digs]
    by_cases h0 : v = 0
    · rw [if_pos h0]; exact Nat.zero_le _
    · rw [if_neg h0]
      have hsg : ∀ b : Bool, sg b = 1 ∨ sg b = -1 := fun b => by cases b <;> simp [sg]
      by_cases h1 : v % 2 = 1
      · rw [if_pos h1, List.length_cons]
        cases m with
        | zero =>
          have hv1 : v = 1 ∨ v = -1 := by
            have : v.natAbs ≤ 1 := hv
            omega
          have ez : (v - sg (decide (v % 4 = 3))) / 2 = 0 := by
            rcases hv1 with q | q <;> rw [q] <;> decide
          rw [ez, digs_zero]
          exact Nat.le_refl _
        | succ m =>
          have hp : 2 ^ (m + 1) = 2 * 2 ^ m := by rw [Nat.pow_succ]; omega
          rw [hp] at hv
          have h2 := digs_len k (p + 1) ((v - sg (decide (v % 4 = 3))) / 2) m (by
            rcases hsg (decide (v % 4 = 3)) with q | q <;> rw [q] <;> omega)
          omega
      · rw [if_neg h1]
        cases m with
        | zero =>
          have hv1 : v.natAbs ≤ 1 := hv
          omega
        | succ m =>
          have hp : 2 ^ (m + 1) = 2 * 2 ^ m := by rw [Nat.pow_succ]; omega
          rw [hp] at hv
          have h2 := digs_len k (p + 1) (v / 2) m (by omega)
          omega
theorem small_sizes : ((List.range 98).all fun k => decide (size (ofI 5 ((k : Nat) : Int)) ≤ 20)) = true := by decide +kernel
theorem naf_low {p : Nat} (h : p ≤ 97) : size (naf (p : Int)) ≤ 20 := by
  rw [naf_small (by omega)]
  exact of_decide_eq_true (List.all_eq_true.mp small_sizes p (List.mem_range.mpr (by omega)))
theorem size_le : ∀ (n : Num) (b : Nat), (∀ e ∈ exps n, size e ≤ b) → size n ≤ 1 + Num.len n * b
  | .nil, b, _ => Nat.le_add_right _ _
  | .cons s e r, b, h => by
    have h1 := h e List.mem_cons_self
    have h2 := size_le r b fun x hx => h x (List.mem_cons_of_mem _ hx)
    rw [size, Num.len, Nat.add_mul, Nat.one_mul]
    omega
theorem naf_len {v : Int} (h : v.natAbs ≤ 2 ^ 97) : Num.len (naf v) ≤ 98 := by
  rw [← Num.terms_len, naf, ofI, Num.terms_ofTerms, List.length_reverse, List.length_map]
  exact digs_len 3100 0 v 97 h
theorem naf_size {v : Int} (h : v.natAbs ≤ 2 ^ 97) : size (naf v) ≤ 1961 := by
  have h1 := size_le (naf v) 20 fun e he => by
    obtain ⟨p, hp, q⟩ := naf_exps h e he
    rw [q]
    exact naf_low hp
  have h2 := naf_len h
  have := Nat.mul_le_mul_right 20 h2
  omega
theorem ofI_height : ∀ (d : Nat) (v : Int), height (ofI d v) ≤ d
  | 0, _ => Nat.le_refl _
  | d + 1, v => by
    refine height_exps _ _ fun x hx => ?_
    rw [ofI, Num.exps_eq, Num.terms_ofTerms] at hx
    obtain ⟨t, ht, rfl⟩ := List.mem_map.mp hx
    obtain ⟨u, _, rfl⟩ := List.mem_map.mp (List.mem_reverse.mp ht)
    have := ofI_height d (u.2 : Int)
    show 1 + height (ofI d (u.2 : Int)) ≤ d + 1
    omega
/-- a number of the law's -/
structure Ours (n : Num) : Prop where
  base : Base n
  len : Num.len n ≤ 101
theorem Ours.size {n : Num} (o : Ours n) : size n ≤ 200000 := by
  have h1 := size_le n 1961 fun e he => by
    obtain ⟨p, hp, q⟩ := o.base e he
    rw [q]
    exact naf_size (by omega)
  have := Nat.mul_le_mul_right 1961 o.len
  omega
theorem Ours.height {n : Num} (o : Ours n) : height n ≤ 7 := by
  refine height_exps _ _ fun x hx => ?_
  obtain ⟨p, _, q⟩ := o.base x hx
  rw [q]
  have := ofI_height 6 (p : Int)
  unfold naf
  omega
theorem tw6 {v : Int} (h : v.natAbs ≤ 2 ^ 97) : v.natAbs ≤ tw 6 := by
  refine Nat.le_trans h ?_
  show 2 ^ 97 ≤ 2 ^ tw 5
  exact Nat.pow_le_pow_right (by decide) tw5
theorem ours_naf {v : Int} (h : v.natAbs ≤ 2 ^ 97) : Ours (naf v) := ⟨fun e he => let ⟨p, hp, q⟩ := naf_exps h e he; ⟨p, Nat.le_trans hp (by decide), q⟩, by have := naf_len h; omega⟩
def rowT (rs : List (Bool × Int)) : List (Bool × Num) := rs.map fun t => (t.1, naf t.2)
theorem ours_rows {rs : List (Bool × Int)} (h1 : rs.length ≤ 101) (h2 : ∀ t ∈ rs, 0 ≤ t.2 ∧ t.2 ≤ 2 ^ 97) : Ours (ofTerms (rowT rs)) := by
  refine ⟨fun e he => ?_, by rw [← Num.terms_len, Num.terms_ofTerms, rowT, List.length_map]; exact h1⟩
  rw [Num.exps_eq, Num.terms_ofTerms] at he
  obtain ⟨u, hu, rfl⟩ := List.mem_map.mp he
  obtain ⟨t, ht, rfl⟩ := List.mem_map.mp hu
  obtain ⟨a1, a2⟩ := h2 t ht
  obtain ⟨p, hp⟩ := Int.eq_ofNat_of_zero_le a1
  refine ⟨p, ?_, by show naf t.2 = _; rw [hp]⟩
  rw [hp] at a2
  exact_mod_cast a2
def spNumber : Sp := fun vs H Q _ => ∃ (D : Addr) (kvs : List (Key × V)) (ks : List Int), vs = [.ref D] ∧ Cnt H D 5 kvs ks ∧ ∀ H' p n, Same H H' → NumAt H' p n → Ours n → Q (.ref p) H'
section
variable {P : Program} {w : World} {K : PySem.W.Frag} {mg : Str → Option Value} {base : Heap} {a : Ads}
theorem ok_number (T : Top K mg a) : FnOk P w K mg base CX0 8 a.lNumber a.lNumberD ["_law_counts"] spNumber := by
  have GlRows := (ok_rows (P := P) (w := w) (base := base) T 0).mono (show 1 ≤ 7 by omega)
  have GlOf := ok_of (P := P) (w := w) (base := base) T 6
  refine T.lNumber.F.ok (k := 7) lNumber_sc (fun vs H Q E q => by obtain ⟨_, _, _, rfl, _⟩ := q; rfl) (fun cdv A outer s H vs Q E hr q => ?_)
  obtain ⟨D, kvs, ks, rfl, cn, q⟩ := q
  refine ⟨_, (pss_one (ps_ret (pe_callTy call_tuple_of (by rfl) T.bTuple (by decide +kernel) (pa_cons (pe_lc (own := [("_law_row", 1)]) (g := gName 1) (tt := tYes) rfl lNumber_sc.nd (pi_list (callD T.lRows GlRows hr (pa_cons (pv 0) pa_nil))) (blkOk_by (N := ["_law_counts", "_law_row"]) (sc := defScope lNumber) (by decide +kernel)) (fun _ _ _ _ _ => by exact (pg_name (i := 1) lNumber_sc.nd rfl (Or.inl rfl))) (fun _ _ _ _ _ => pts_nil) (fun _ _ _ _ _ => by exact (pe_tup (pa_cons (pe_ix (ix_tupK (K := K)) (pv 1) pe_int (fun _ _ => rfl)) (pa_cons (callD T.lOf GlOf hr (pa_cons (pe_ix (ix_tupK (K := K)) (pv 1) pe_int (fun _ _ => rfl)) pa_nil)) pa_nil))))) pa_nil)))), ?_⟩
  dsimp only [tRet, tCB, tCons, tLc]
  refine ⟨_, rfl, D, kvs, ks, rfl, cn, fun H1 L us rs s1 hL eL hrw hrl hrb => ⟨L, rfl, ⟨us, SqL.of eL⟩, fun C hC => ?_⟩⟩
  have hul := hrw.len
  refine lc_list (xs := us) (fun i H' => Same H1 H' ∧ ∃ vs, H' C = some (.lst vs) ∧ Pairs H' vs (rowT (rs.take i))) ⟨same_new hC _, [], upd_same, Pairs.nil _⟩ (fun i H' _ p => SqL.of (p.1 _ _ eL)) (fun i x H' hx p => ?_) (fun H' p => ?_)
  · obtain ⟨sm, vs, eC, hp⟩ := p
    obtain ⟨t, p, ht, rfl, e1⟩ := (hrw.mono (Tups.of_same sm)).back hx
    have hb := hrb t (List.mem_of_getElem? ht)
    have hi : i < rs.length := (List.getElem?_eq_some_iff.mp ht).1
    have hnat : t.2.natAbs ≤ 2 ^ 97 := by
      have : t.2 ≤ ((2 ^ 97 : Nat) : Int) := by exact_mod_cast hb.2
      omega
    refine ⟨rfl, yes_go ?_⟩
    refine ⟨_, rfl, p, _, 0, _, rfl, rfl, SqT.of e1, atI_nat (j := 0) rfl, _, rfl, p, _, 1, _, rfl, rfl, SqT.of e1, atI_nat (j := 1) rfl, t.2, rfl, tw6 hnat, fun H2 c s2 hc => ⟨le2, fun tp htp => ?_⟩⟩
    have s3 := same_new htp (.tup [.int (sg t.1), .ref c])
    have eC3 := (s2.trans s3) _ _ eC
    have hpl := hp.len
    rw [rowT, List.length_map, List.length_take] at hpl
    refine ⟨vs, eC3, small_line (by omega), same_set (sm.trans (s2.trans s3)) hC, vs ++ [.ref tp], upd_same, ?_⟩
    rw [take_snoc ht, rowT, List.map_append]
    exact ((hp.mono (Tups.of_same (s2.trans s3))).push (t := (t.1, naf t.2)) upd_same (hc.same s3)).mono (tups_lst eC3)
  · obtain ⟨sm, vs, eC, hp⟩ := p
    rw [List.take_of_length_le (by omega)] at hp
    refine ⟨C, vs, rfl, .inl ⟨SqL.of eC, fun z hz => ?_⟩⟩
    have s3 := same_new hz (.tup vs)
    exact q _ z _ ((s1.trans sm).trans s3) ⟨vs, upd_same, (hp.mono (Tups.of_same s3)).num⟩ (ours_rows hrl hrb)
end
end SR
set_option Elab.async false
set_option linter.all false
set_option maxRecDepth 100000
set_option maxHeartbeats 8000000
/-! Walks: the law. -/
namespace SR
open PySem PySem.Spec PyProof.Rows L2
open SR.Num (size height exps terms ofTerms)
set_option autoImplicit false
theorem S_mul (l : List Nat) (k : Nat) (h2 : 2 ≤ k) (hl : 1 ≤ l.length) : Txt.mul (S l) (k : Int) = S (List.replicate k l).flatten := by
  unfold Txt.mul
  have e2 : ((k : Int) == 1 || (S l).length == 0) = false := by
    rw [S_len, Bool.or_eq_false_iff]
    exact ⟨beq_eq_false_iff_ne.mpr (by omega), beq_eq_false_iff_ne.mpr (by omega)⟩
  rw [if_neg (by omega), if_neg (by rw [e2]; decide), Int.toNat_natCast]
  have f : ∀ (k : Nat) (acc : List Nat), List.foldl (fun x1 x2 => x1 ++ x2) acc.toArray (List.replicate k l.toArray) = (acc ++ (List.replicate k l).flatten).toArray := by
    intro k
    induction k with
    | zero => intro acc; simp
    | succ k ih =>
      intro acc
      rw [List.replicate_succ, List.foldl_cons, List.append_toArray, ih, List.replicate_succ, List.flatten_cons, List.append_assoc]
  have := f k []
  rw [List.nil_append] at this
  show (⟨_⟩ : Str) = ⟨_⟩
  rw [← this]
  rfl
theorem op_repS {X : Cx} : OpR X (binaryOp .Mult) (fun x y H Q => ∃ (l : List Nat) (k : Nat), x = .str (S l) ∧ y = .int (k : Int) ∧ 2 ≤ k ∧ k ≤ 100 ∧ 1 ≤ l.length ∧ l.length ≤ 10 ∧ Q (.str (S (List.replicate k l).flatten)) H) := by
  intro pins s σ H x y v u Q I rx ry h
  obtain ⟨l, k, rfl, rfl, h2, hk, h1, hl, q⟩ := h
  obtain ⟨t, rfl⟩ := rx
  obtain ⟨t', rfl⟩ := ry
  refine PySem.SB.mul ⟨?_, fun _ _ => ?_, fun _ _ => ?_⟩ fun t2 k2 => ⟨.str (Txt.mul (S l) (k : Int)), H, I.tok k2, ⟨t2, rfl⟩, ?_⟩
  · rw [Bool.or_eq_false_iff]
    exact ⟨decide_eq_false (by omega), decide_eq_false (by omega)⟩
  · rw [S_len]
    have : (l.length : Int) ≤ (2 ^ 63 - 1) / (k : Int) := by
      refine (Int.le_ediv_iff_mul_le (by omega)).mpr ?_
      have := Nat.mul_le_mul hl hk
      have : ((l.length * k : Nat) : Int) ≤ 1000 := by omega
      rw [Int.natCast_mul] at this
      omega
    omega
  · rw [S_len, Int.toNat_natCast]
    have := Nat.mul_le_mul hl hk
    unfold PySem.Builtin.Str.tooLong
    exact decide_eq_false (by rw [sizeLine_eq]; omega)
  · rw [S_mul l k h2 h1]
    exact q
theorem spoil_len (t : List Nat) (p c way : Nat) : (spoil t p c way).length ≤ 2 * t.length + 1 := by
  unfold spoil
  repeat' split
  all_goals simp only [List.length_append, List.length_take, List.length_drop, List.length_singleton]
  all_goals omega
/-- a text that may be asked -/
def Ask (x : V) : Prop := ∃ t : List Nat, x = .str (S t) ∧ t.length ≤ 2000000 ∧ SafeT t
theorem ask_short {t : List Nat} (h : t.length ≤ 40) : Ask (.str (S t)) := ⟨t, rfl, by omega, safe_short h⟩
theorem Ours.txt {n : Num} (o : Ours n) : (txt n).length ≤ 800000 := by
  have := txt_len n
  have := o.size
  omega
def towerT (k : Nat) : List Nat := (List.replicate k [43, 91]).flatten ++ [48] ++ (List.replicate k [93]).flatten
theorem flat1 (k : Nat) : (List.replicate k [93]).flatten = List.replicate k 93 := by
  induction k with
  | zero => rfl
  | succ k ih => rw [List.replicate_succ, List.flatten_cons, ih]; rfl
theorem flat_len (k : Nat) (l : List Nat) : (List.replicate k l).flatten.length = k * l.length := by
  induction k with
  | zero => simp
  | succ k ih => rw [List.replicate_succ, List.flatten_cons, List.length_append, ih, Nat.succ_mul]; omega
theorem ask_tower {k : Nat} (h : k ≤ 100) : Ask (.str (S (towerT k))) := by
  refine ⟨_, rfl, ?_, ?_⟩
  · unfold towerT
    rw [List.length_append, List.length_append, flat_len, flat_len]
    simp only [List.length_cons, List.length_nil]
    omega
  · have := safe_tower k
    unfold towerT
    rw [flat1]
    exact this
def texts (cs : List Nat) (k : Nat) : List V := [.str (S cs), .str (S (towerT k)), .str (S []), .str (S [48]), .str (S [48, 48]), .str (S [43, 91, 93]), .str (S [43, 91, 48, 93, 43, 91, 48, 93]), .str (S [91, 48, 93]), .str (S [43, 91, 48, 93, 45]),
  .str (S [43, 91, 43, 91, 48, 93, 93, 43, 91, 48, 93]), .str (S [43, 91, 45, 91, 48, 93, 93]), .str (S [43, 91, 48, 93, 32])]
theorem ask_all {cs : List Nat} {k : Nat} (h : cs.length ≤ 40) (hk : k ≤ 100) : ∀ x ∈ texts cs k, Ask x := by
  unfold texts
  simp only [List.forall_mem_cons, List.not_mem_nil, false_implies, implies_true, and_true]
  exact ⟨ask_short h, ask_tower hk, ask_short (by decide), ask_short (by decide), ask_short (by decide), ask_short (by decide), ask_short (by decide), ask_short (by decide), ask_short (by decide), ask_short (by decide), ask_short (by decide), ask_short (by decide)⟩
theorem flat_ones : ∀ cs : List Nat, (cs.map fun c => [c]).flatten = cs
  | [] => rfl
  | c :: r => by rw [List.map_cons, List.flatten_cons, flat_ones r]; rfl
theorem ones_sum : ∀ cs : List Nat, (((cs.map fun c => [c]).map S).map (·.length)).sum = cs.length
  | [] => rfl
  | c :: r => by
    rw [List.map_cons, List.map_cons, List.map_cons, List.sum_cons, ones_sum r, S_len, List.length_cons, List.length_cons]
    simp only [List.length_nil]; omega
def spLaw (K : PySem.W.Frag) : Sp := fun vs H Q _ => ∃ (a : Addr) (ns : List Int), vs = [.ref a] ∧ SqL K H a (ns.map V.int) ∧ ns.length ≤ 63 ∧ ∀ H', Q (.bl true) H'
section
variable {P : Program} {w : World} {K : PySem.W.Frag} {mg : Str → Option Value} {base : Heap} {a : Ads}
theorem ok_law (T : Top K mg a) (TX : TopX K w mg a) : FnOk P w K mg base CX0 125 a.sLaw a.sLawD ["_law_script"] (spLaw K) := by
  have GlStream := (ok_stream (P := P) (w := w) (base := base) T 0).mono (show 1 ≤ 124 by omega)
  have GlPick := (ok_pick (P := P) (w := w) (base := base) T 0).mono (show 1 ≤ 124 by omega)
  have GlModel := (ok_model (P := P) (w := w) (base := base) T 0).mono (show 3 ≤ 124 by omega)
  have GlNumber := (ok_number (P := P) (w := w) (base := base) T).mono (show 8 ≤ 124 by omega)
  have GlOf := (ok_of (P := P) (w := w) (base := base) T 6).mono (show 7 ≤ 124 by omega)
  have GlFits := (ok_lfits (P := P) (w := w) (base := base) T 10).mono (show 11 ≤ 124 by omega)
  have GsNumberText := (ok_text (P := P) (w := w) (base := base) T 10).mono (show 10 ≤ 124 by omega)
  have GlText := (ok_ltext (P := P) (w := w) (base := base) T 10).mono (show 10 ≤ 124 by omega)
  have GlTold := ok_told (P := P) (w := w) (base := base) T TX
  have GlSpoilt := (ok_spoilt (P := P) (w := w) (base := base) T 0).mono (show 2 ≤ 124 by omega)
  refine T.sLaw.F.ok (k := 124) sLaw_sc (fun vs H Q E q => by obtain ⟨_, _, rfl, _⟩ := q; rfl) (fun cdv A outer s H vs Q E hr q => ?_)
  obtain ⟨b, ns, rfl, hS, hlen, q⟩ := q
  refine ⟨_, (pss_cons (ps_set (i := 1) sLaw_sc.nd rfl (Or.inr rfl) (callD T.lStream GlStream hr (pa_cons (pv 0) pa_nil)))
      (pss_cons (ps_set (i := 2) sLaw_sc.nd rfl (Or.inl rfl) (callD T.lNumber GlNumber hr (pa_cons (callD T.lModel GlModel hr (pa_cons (pv 1) (pa_cons pe_int (pa_cons (callD T.lPick GlPick hr (pa_cons (pv 1) (pa_cons pe_int (pa_cons pe_int pa_nil)))) pa_nil)))) pa_nil)))
      (pss_cons (ps_if (pt_cmpR op_eq (callD T.lPick GlPick hr (pa_cons (pv 1) (pa_cons pe_int (pa_cons pe_int pa_nil)))) pe_int (nomark _))
        (pss_one (ps_set (i := 2) sLaw_sc.nd rfl (Or.inl rfl) (callD T.lOf GlOf hr (pa_cons (pe_op op_sub (pe_op op_mul (callD T.lPick GlPick hr (pa_cons (pv 1) (pa_cons pe_int (pa_cons pe_int pa_nil)))) (callD T.lPick GlPick hr (pa_cons (pv 1) (pa_cons pe_int (pa_cons pe_int pa_nil))))) pe_int) pa_nil))))
        pss_nil)
      (pss_cons (ps_if (pt_val (callD T.lFits GlFits hr (pa_cons (pv 2) pa_nil)))
        (pss_cons (ps_set (i := 3) sLaw_sc.nd rfl (Or.inl rfl) (callD T.sNumberText GsNumberText hr (pa_cons (pv 2) pa_nil)))
        (pss_one (ps_if (PW.pt (pw_or (pt_not (pt_val (pe_callB call_isi (by rfl) T.bIsinstance (by decide +kernel) (pa_cons (pv 3) (pa_cons (pe_bltn (v := V.ty "str") rfl T.bStr (by decide +kernel) rfl) pa_nil))))) (pw_or (pt_cmpR op_ne (pv 3) (callD T.lText GlText hr (pa_cons (pv 2) pa_nil)) (nomark _)) (pw_or1 (pt_not (pt_val (callD T.lTold GlTold hr (pa_cons (pv 3) pa_nil))))))))
          (pss_one (ps_ret pe_bl))
          pss_nil)))
        pss_nil)
      (pss_cons (ps_set (i := 4) sLaw_sc.nd rfl (Or.inl rfl) (callD T.lText GlText hr (pa_cons (pv 2) pa_nil)))
      (pss_cons (ps_for PassesOwn.never rfl (pi_range1 rfl T.bRange (pa_cons pe_int pa_nil)) (pg_name (i := 5) sLaw_sc.nd rfl (Or.inl rfl))
        (pss_one (ps_if (pt_not (pt_val (callD T.lTold GlTold hr (pa_cons (callD T.lSpoilt GlSpoilt hr (pa_cons (pv 1) (pa_cons (pe_op op_add pe_int (pe_op op_mul pe_int (pv 5))) (pa_cons (pv 4) pa_nil)))) pa_nil))))
          (pss_one (ps_ret pe_bl))
          pss_nil)))
      (pss_cons (ps_set (i := 6) sLaw_sc.nd rfl (Or.inl rfl) (pe_join pe_str (pe_lc (own := [("_law_k", 5)]) (g := gName 5) (tt := tYes) rfl sLaw_sc.nd (pi_range1 rfl T.bRange (pa_cons (callD T.lPick GlPick hr (pa_cons (pv 1) (pa_cons pe_int (pa_cons pe_int pa_nil)))) pa_nil)) (blkOk_by (N := ["_law_script", "_law_numbers", "_law_number_here", "_law_told_here", "_law_text_here", "_law_k", "_law_wide", "_law_tall", "_law_tower", "_law_one"]) (sc := defScope sLaw) (by decide +kernel)) (fun _ _ _ _ _ => by exact (pg_name (i := 5) sLaw_sc.nd rfl (Or.inl rfl))) (fun _ _ _ _ _ => pts_nil) (fun _ _ _ _ _ => by exact (pe_ix ix_str pe_str (callD T.lPick GlPick hr (pa_cons (pv 1) (pa_cons (pe_op op_add pe_int (pv 5)) (pa_cons pe_int pa_nil)))) (fun _ _ => rfl))))))
      (pss_cons (ps_set (i := 7) sLaw_sc.nd rfl (Or.inl rfl) (pe_op op_add (callD T.lPick GlPick hr (pa_cons (pv 1) (pa_cons pe_int (pa_cons pe_int pa_nil)))) pe_int))
      (pss_cons (ps_set (i := 8) sLaw_sc.nd rfl (Or.inl rfl) (pe_op op_add_str (pe_op op_add_str (pe_op op_repS pe_str (pv 7)) pe_str) (pe_op op_repS pe_str (pv 7))))
      (pss_cons (ps_for PassesOwn.never rfl (pi_list (pe_lst (pa_cons (pv 6) (pa_cons (pv 8) (pa_cons pe_str (pa_cons pe_str (pa_cons pe_str (pa_cons pe_str (pa_cons pe_str (pa_cons pe_str (pa_cons pe_str (pa_cons pe_str (pa_cons pe_str (pa_cons pe_str pa_nil)))))))))))))) (pg_name (i := 9) sLaw_sc.nd rfl (Or.inl rfl))
        (pss_one (ps_if (pt_not (pt_val (callD T.lTold GlTold hr (pa_cons (pv 9) pa_nil))))
          (pss_one (ps_ret pe_bl))
          pss_nil)))
      (pss_one (ps_ret pe_bl)))))))))))), ?_⟩
  refine seq_cut (fun σ' H' => ∃ D, Ints H' D ∧ σ' = [some (.ref b), some (.ref D), none, none, none, none, none, none, none, none]) ?_ fun X hX => ⟨_, rfl, b, ns, rfl, hS, fun H1 D s1 hD hI => hX _ _ ⟨D, hI, rfl⟩⟩
  rintro _ H1 ⟨D, hI, rfl⟩
  have bb : big = 1000000 := rfl
  refine seq_cut (fun σ' H' => ∃ p n, Same H1 H' ∧ NumAt H' p n ∧ Ours n ∧ σ' = [some (.ref b), some (.ref D), some (.ref p), none, none, none, none, none, none, none]) ?_ fun X hX => ?_
  · rintro σ' H2 ⟨p, n, s2, hn, ho, rfl⟩
    refine seq_cut (fun σ' H' => ∃ p n, Same H1 H' ∧ NumAt H' p n ∧ Ours n ∧ σ' = [some (.ref b), some (.ref D), some (.ref p), none, none, none, none, none, none, none]) ?_ fun X hX => ?_
    · rintro σ' H3 ⟨p, n, s3, hn, ho, rfl⟩
      have hsz := ho.size
      have hht := ho.height
      have htx := ho.txt
      refine seq_cut (fun σ' H' => ∃ u, Same H1 H' ∧ NumAt H' p n ∧ σ' = [some (.ref b), some (.ref D), some (.ref p), u, none, none, none, none, none, none]) ?_ fun X hX => ?_
      · rintro σ' H4 ⟨u, s4, hn4, rfl⟩
        refine seq_cut (fun σ' H' => Same H1 H' ∧ σ' = [some (.ref b), some (.ref D), some (.ref p), u, some (.str (S (txt n))), none, none, none, none, none]) ?_ fun X hX => ⟨_, rfl, p, n, rfl, hn4, by omega, by omega, fun H5 s5 => hX _ _ ⟨s4.trans s5, rfl⟩⟩
        rintro _ H5 ⟨s5, rfl⟩
        refine seq_cut (fun σ' H' => Same H1 H' ∧ ∃ x, σ' = [some (.ref b), some (.ref D), some (.ref p), u, some (.str (S (txt n))), x, none, none, none, none]) ?_ fun X hX => ?_
        · rintro σ' H6 ⟨s6, x, rfl⟩
          refine seq_cut (fun σ' H' => Same H1 H' ∧ ∃ (cs : List Nat) (x : Option V), cs.length ≤ 40 ∧ σ' = [some (.ref b), some (.ref D), some (.ref p), u, some (.str (S (txt n))), x, some (.str (S cs)), none, none, none]) ?_ fun X hX => ?_
          · rintro σ' H7 ⟨s7, cs, x, hcs, rfl⟩
            refine seq_cut (fun σ' H' => Same H1 H' ∧ ∃ k : Nat, 37 ≤ k ∧ k ≤ 42 ∧ σ' = [some (.ref b), some (.ref D), some (.ref p), u, some (.str (S (txt n))), x, some (.str (S cs)), some (.int (k : Int)), none, none]) ?_ fun X hX => ?_
            · rintro σ' H8 ⟨s8, k, hk1, hk2, rfl⟩
              refine seq_cut (fun σ' H' => H8 = H' ∧ σ' = [some (.ref b), some (.ref D), some (.ref p), u, some (.str (S (txt n))), x, some (.str (S cs)), some (.int (k : Int)), some (.str (S (towerT k))), none]) ?_ fun X hX => ?_
              · rintro _ _ ⟨rfl, rfl⟩
                refine seq_cut (fun σ' H' => ∃ y, σ' = [some (.ref b), some (.ref D), some (.ref p), u, some (.str (S (txt n))), x, some (.str (S cs)), some (.int (k : Int)), some (.str (S (towerT k))), y]) ?_ fun X hX => ?_
                · rintro σ' H9 ⟨y, rfl⟩
                  exact q H9
                · refine ⟨_, rfl, _, rfl, Nat.le_of_lt (small_line (n := 12) (by omega)), fun l hl => ⟨l, rfl, ⟨texts cs k, SqL.of upd_same⟩, ?_⟩⟩
                  refine for_list (xs := texts cs k) (fun i σ' H' => Same (upd H8 l (.lst (texts cs k))) H' ∧ ∃ y, σ' = [some (.ref b), some (.ref D), some (.ref p), u, some (.str (S (txt n))), x, some (.str (S cs)), some (.int (k : Int)), some (.str (S (towerT k))), y]) ⟨Same.refl _, _, rfl⟩ (fun i σ' H' _ p => SqL.of (p.1 _ _ upd_same)) ?_ ?_
                  · rintro i z σ' H9 hz ⟨s9, y, rfl⟩
                    obtain ⟨t, rfl, ht, hsf⟩ := ask_all (k := k) hcs (by omega) z (List.mem_of_getElem? hz)
                    refine ⟨_, rfl, t, rfl, ht, hsf, fun H10 s10 => ⟨_, rfl, ?_⟩⟩
                    exact ⟨s9.trans s10, _, rfl⟩
                  · rintro σ' H9 ⟨s9, y, rfl⟩
                    exact hX _ _ ⟨y, rfl⟩
              · have hline : ∀ m : Nat, m ≤ 10000000 → m ≤ sizeLine := fun m h => by rw [sizeLine_eq]; omega
                have e1 : (List.replicate k [43, 91]).flatten.length = k * 2 := flat_len k [43, 91]
                have e2 : (List.replicate k [93]).flatten.length = k * 1 := flat_len k [93]
                refine ⟨_, rfl, [43, 91], k, rfl, rfl, by omega, by omega, by decide, by decide, S (List.replicate k [43, 91]).flatten, S [48], rfl, rfl, ?_, _, rfl, [93], k, rfl, rfl, by omega, by omega, by decide, by decide, S (List.replicate k [43, 91]).flatten ++ S [48], S (List.replicate k [93]).flatten, rfl, rfl, ?_, ?_⟩
                · rw [app_len, e1]
                  exact hline _ (by rw [List.length_singleton]; omega)
                · rw [S_app, app_len, List.length_append, e1, e2]
                  exact hline _ (by rw [List.length_singleton]; omega)
                · rw [S_app, S_app]
                  exact hX _ _ ⟨rfl, rfl⟩
            · refine ⟨_, rfl, D, 5, 6, rfl, hI.same s7, by decide, fun y hy0 hy1 => ?_⟩
              obtain ⟨y, rfl⟩ := Int.eq_ofNat_of_zero_le hy0
              exact ⟨_, _, rfl, rfl, hX _ _ ⟨s7, y + 37, by omega, by omega, rfl⟩⟩
          · refine ⟨⟨_, rfl⟩, ?_⟩
            refine ⟨_, rfl, D, 4, 41, rfl, hI.same s6, by decide, fun r hr0 hr1 => ⟨r, rfl, by omega, by omega, fun C hC => ?_⟩⟩
            refine lc_range (lo := 0) (n := r.toNat) (fun i H' => Same H6 H' ∧ ∃ cs : List Nat, cs.length = i ∧ H' C = some (.lst (cs.map fun c => V.str (S [c])))) ⟨same_new hC _, [], rfl, upd_same⟩ ?_ ?_
            · rintro i H' hi ⟨sm, cs, hcl, eC⟩
              refine ⟨rfl, yes_go ?_⟩
              refine ⟨_, rfl, _, rfl, _, _, rfl, rfl, D, _, 8, rfl, hI.same (s6.trans sm), by decide, fun y hy0 hy1 => ?_⟩
              obtain ⟨y, rfl⟩ := Int.eq_ofNat_of_zero_le hy0
              obtain ⟨c, hc⟩ : ∃ c, [43, 45, 91, 93, 48, 91, 93, 43][y]? = some c := ⟨_, List.getElem?_eq_getElem (by show y < 8; omega)⟩
              refine ⟨S [43, 45, 91, 93, 48, 91, 93, 43], _, c, rfl, rfl, len_line (by decide), atI_nat (by rw [S_tl]; exact hc), ?_⟩
              refine ⟨_, eC, by rw [List.length_map]; exact small_line (by omega), same_set sm hC, cs ++ [c], by rw [List.length_append, List.length_singleton, hcl], ?_⟩
              rw [upd_same, List.map_append]
              rfl
            · rintro H' ⟨sm, cs, hcl, eC⟩
              refine ⟨Str.empty, C, (cs.map fun c => [c]).map S, rfl, rfl, .inl (SqL.of ?_), ?_, ?_⟩
              · rw [eC, List.map_map, List.map_map]; rfl
              · rw [ones_sum]
                show cs.length + _ * (0 : Nat) ≤ _
                omega
              · rw [S_join, flat_ones]
                exact hX _ _ ⟨s6.trans sm, cs, _, by omega, rfl⟩
        · refine ⟨4, rfl, by decide, by decide, ?_⟩
          refine for_range (fun i σ' H' => Same H1 H' ∧ ∃ x, σ' = [some (.ref b), some (.ref D), some (.ref p), u, some (.str (S (txt n))), x, none, none, none, none]) ⟨s5, _, rfl⟩ ?_ ?_
          · rintro i σ' H6 hi ⟨s6, x, rfl⟩
            refine ⟨_, rfl, _, rfl, _, _, rfl, rfl, .inl (by decide), _, _, rfl, rfl, _, rfl, D, _, txt n, rfl, hI.same s6, by omega, fun pl c way => ?_⟩
            refine ⟨spoil (txt n) pl c way, rfl, ?_, safe_spoil ho.base pl c way, fun H7 s7 => ⟨_, rfl, ?_⟩⟩
            · have := spoil_len (txt n) pl c way
              omega
            · exact ⟨s6.trans s7, _, rfl⟩
          · rintro σ' H6 ⟨s6, x, rfl⟩
            exact hX _ _ ⟨s6, x, rfl⟩
      · refine ⟨_, rfl, p, n, rfl, hn, by omega, by omega, fun H4 s4 => ⟨_, rfl, tst (fun e => ?_) (fun e => hX _ _ ⟨_, s3.trans s4, hn.same s4, rfl⟩)⟩⟩
        refine ⟨_, rfl, p, n, rfl, hn.same s4, by omega, by omega, fun H5 s5 => ?_⟩
        refine ⟨_, rfl, .str (S (txt n)), .ty "str", _, _, true, rfl, .ty "str", .base (.str _), kit_ty (by decide +kernel), _, rfl, ?_⟩
        refine ⟨_, rfl, _, rfl, p, n, rfl, hn.same (s4.trans s5), by omega, by omega, fun H6 s6 => ⟨rfl, _, rfl, tstS (fun e => absurd rfl e) (fun _ => ?_)⟩⟩
        refine ⟨_, rfl, txt n, rfl, by omega, safe_txt ho.base, fun H7 s7 => ⟨_, rfl, ?_⟩⟩
        have sA := ((s4.trans s5).trans s6).trans s7
        exact hX _ _ ⟨_, s3.trans sA, hn.same sA, rfl⟩
    · refine ⟨_, rfl, D, 1, 2, rfl, hI.same s2, by decide, fun r hr0 hr1 => ⟨rfl, _, rfl, tstE (fun e => ?_) (fun e => hX _ _ ⟨p, n, s2, hn, ho, rfl⟩)⟩⟩
      refine ⟨_, rfl, D, 2, 1009, rfl, hI.same s2, by decide, fun r1 h10 h11 => ⟨_, rfl, D, 3, 1009, rfl, hI.same s2, by decide, fun r2 h20 h21 => ?_⟩⟩
      have hb : 0 ≤ r1 * r2 ∧ r1 * r2 ≤ 1008 * 1008 := ⟨Int.mul_nonneg h10 h20, Int.mul_le_mul (by omega) (by omega) h20 (by decide)⟩
      have hv : (r1 * r2 - 1009).natAbs ≤ 2 ^ 97 := by
        have : (2 : Nat) ^ 97 = 158456325028528675187087900672 := by decide
        omega
      refine ⟨_, _, rfl, rfl, .inl ⟨by omega, by omega⟩, _, _, rfl, rfl, r1 * r2 - 1009, rfl, tw6 hv, fun H3 p3 s3 h3 => ?_⟩
      exact hX _ _ ⟨p3, _, s2.trans s3, h3, ours_naf hv, rfl⟩
  · refine ⟨_, rfl, _, rfl, D, 0, 6, rfl, hI, by decide, fun r hr0 hr1 => ?_⟩
    obtain ⟨r, rfl⟩ := Int.eq_ofNat_of_zero_le hr0
    refine ⟨D, 9, r, rfl, hI, by omega, fun H2 c kvs ks s2 _ hc => ⟨c, kvs, ks, rfl, hc, fun H3 p n s3 hn ho => ?_⟩⟩
    exact hX _ _ ⟨p, n, s2.trans s3, hn, ho, rfl⟩
end
end SR
set_option Elab.async false
set_option linter.all false
set_option maxRecDepth 100000
set_option maxHeartbeats 0
/-! What the top has left, put together. -/
namespace SR
open PySem PySem.Spec PyProof.Rows L2
theorem def_mk {K : PySem.W.Frag} {h : Heap} {mg : Str → Option Value} {x : Str} {st : Stmt} {f : Addr} {ps : List Str} {od an : Option Addr} {sl : Array (Option Value)} {oc kV dc pm cd ct : Value} (X : K.In h) (G : h.Ns mainGlobals mg)
    (a : PySem.W.nsIn K mainGlobals x = some (some (.ref f))) (l : K.lookup f = some ⟨oc, od, .func (PySem.W.fnOf x x (defArgs st) (defBody st) (defScope st) .none kV dc pm an cd ct), sl⟩) (c : PySem.W.codeIn K cd x = true) (k : PySem.W.keepIn K (.ref f) = true)
    (b : Fun K x x st f (PySem.W.fnOf x x (defArgs st) (defBody st) (defScope st) .none kV dc pm an cd ct) → Binds K (PySem.W.fnOf x x (defArgs st) (defBody st) (defScope st) .none kV dc pm an cd ct) ps []) : DefOk K mg x st f (PySem.W.fnOf x x (defArgs st) (defBody st) (defScope st) .none kV dc pm an cd ct) ps :=
  have F := fun_mk (st := st) l c k
  ⟨F, PySem.W.mg_of X G a, b F⟩
theorem all_mk {P : Program} {w : World} {K : PySem.W.Frag} {h : Heap} {mg : Str → Option Value} {fa f0 f1 f2 f3 f4 f5 f6 f7 f8 f9 f10 f11 f12 f13 f14 f15 f16 f17 f18 f19 f20 f21 f22 f23 f24 f25 f26 f27 f28 f29 f30 f31 f32 : Addr} {xReckonError xNotAllowed xBadForm xTooLarge : Addr} {signs : Addr} (X : K.In h) (G : h.Ns mainGlobals mg) (hfa : mg "law" = some (.ref fa))
    {od0 od1 od2 od3 od4 od5 od6 od7 od8 od9 od10 od11 od12 od13 od14 od15 od16 od17 od18 od19 od20 od21 od22 od23 od24 od25 od26 od27 od28 od29 od30 od31 od32 an0 an1 an2 an3 an4 an5 an6 an7 an8 an9 an10 an11 an12 an13 an14 an15 an16 an17 an18 an19 an20 an21 an22 an23 an24 an25 an26 an27 an28 an29 an30 an31 an32 : Option Addr} {sl0 sl1 sl2 sl3 sl4 sl5 sl6 sl7 sl8 sl9 sl10 sl11 sl12 sl13 sl14 sl15 sl16 sl17 sl18 sl19 sl20 sl21 sl22 sl23 sl24 sl25 sl26 sl27 sl28 sl29 sl30 sl31 sl32 : Array (Option Value)} {oc0 oc1 oc2 oc3 oc4 oc5 oc6 oc7 oc8 oc9 oc10 oc11 oc12 oc13 oc14 oc15 oc16 oc17 oc18 oc19 oc20 oc21 oc22 oc23 oc24 oc25 oc26 oc27 oc28 oc29 oc30 oc31 oc32 kV0 kV1 kV2 kV3 kV4 kV5 kV6 kV7 kV8 kV9 kV10 kV11 kV12 kV13 kV14 kV15 kV16 kV17 kV18 kV19 kV20 kV21 kV22 kV23 kV24 kV25 kV26 kV27 kV28 kV29 kV30 kV31 kV32 dc0 dc1 dc2 dc3 dc4 dc5 dc6 dc7 dc8 dc9 dc10 dc11 dc12 dc13 dc14 dc15 dc16 dc17 dc18 dc19 dc20 dc21 dc22 dc23 dc24 dc25 dc26 dc27 dc28 dc29 dc30 dc31 dc32 pm0 pm1 pm2 pm3 pm4 pm5 pm6 pm7 pm8 pm9 pm10 pm11 pm12 pm13 pm14 pm15 pm16 pm17 pm18 pm19 pm20 pm21 pm22 pm23 pm24 pm25 pm26 pm27 pm28 pm29 pm30 pm31 pm32 cd0 cd1 cd2 cd3 cd4 cd5 cd6 cd7 cd8 cd9 cd10 cd11 cd12 cd13 cd14 cd15 cd16 cd17 cd18 cd19 cd20 cd21 cd22 cd23 cd24 cd25 cd26 cd27 cd28 cd29 cd30 cd31 cd32 ct0 ct1 ct2 ct3 ct4 ct5 ct6 ct7 ct8 ct9 ct10 ct11 ct12 ct13 ct14 ct15 ct16 ct17 ct18 ct19 ct20 ct21 ct22 ct23 ct24 ct25 ct26 ct27 ct28 ct29 ct30 ct31 ct32 : Value} {tMAX_SIZE tMAX_HEIGHT tP tM : Tok} {es : Array DictEntry} {nS : Nat}
    (a0 : PySem.W.nsIn K mainGlobals "size_of" = some (some (.ref f0)))
    (l0 : K.lookup f0 = some ⟨oc0, od0, .func (PySem.W.fnOf "size_of" "size_of" (defArgs sSizeOf) (defBody sSizeOf) (defScope sSizeOf) .none kV0 dc0 pm0 an0 cd0 ct0), sl0⟩)
    (c0 : PySem.W.codeIn K cd0 "size_of" = true)
    (k0 : PySem.W.keepIn K (.ref f0) = true)
    (a1 : PySem.W.nsIn K mainGlobals "height_of" = some (some (.ref f1)))
    (l1 : K.lookup f1 = some ⟨oc1, od1, .func (PySem.W.fnOf "height_of" "height_of" (defArgs sHeightOf) (defBody sHeightOf) (defScope sHeightOf) .none kV1 dc1 pm1 an1 cd1 ct1), sl1⟩)
    (c1 : PySem.W.codeIn K cd1 "height_of" = true)
    (k1 : PySem.W.keepIn K (.ref f1) = true)
    (a2 : PySem.W.nsIn K mainGlobals "compare" = some (some (.ref f2)))
    (l2 : K.lookup f2 = some ⟨oc2, od2, .func (PySem.W.fnOf "compare" "compare" (defArgs sCompare) (defBody sCompare) (defScope sCompare) .none kV2 dc2 pm2 an2 cd2 ct2), sl2⟩)
    (c2 : PySem.W.codeIn K cd2 "compare" = true)
    (k2 : PySem.W.keepIn K (.ref f2) = true)
    (a3 : PySem.W.nsIn K mainGlobals "sign_of" = some (some (.ref f3)))
    (l3 : K.lookup f3 = some ⟨oc3, od3, .func (PySem.W.fnOf "sign_of" "sign_of" (defArgs sSignOf) (defBody sSignOf) (defScope sSignOf) .none kV3 dc3 pm3 an3 cd3 ct3), sl3⟩)
    (c3 : PySem.W.codeIn K cd3 "sign_of" = true)
    (k3 : PySem.W.keepIn K (.ref f3) = true)
    (a4 : PySem.W.nsIn K mainGlobals "in_order" = some (some (.ref f4)))
    (l4 : K.lookup f4 = some ⟨oc4, od4, .func (PySem.W.fnOf "in_order" "in_order" (defArgs sInOrder) (defBody sInOrder) (defScope sInOrder) .none kV4 dc4 pm4 an4 cd4 ct4), sl4⟩)
    (c4 : PySem.W.codeIn K cd4 "in_order" = true)
    (k4 : PySem.W.keepIn K (.ref f4) = true)
    (a5 : PySem.W.nsIn K mainGlobals "gathered" = some (some (.ref f5)))
    (l5 : K.lookup f5 = some ⟨oc5, od5, .func (PySem.W.fnOf "gathered" "gathered" (defArgs sGathered) (defBody sGathered) (defScope sGathered) .none kV5 dc5 pm5 an5 cd5 ct5), sl5⟩)
    (c5 : PySem.W.codeIn K cd5 "gathered" = true)
    (k5 : PySem.W.keepIn K (.ref f5) = true)
    (a6 : PySem.W.nsIn K mainGlobals "sign_at" = some (some (.ref f6)))
    (l6 : K.lookup f6 = some ⟨oc6, od6, .func (PySem.W.fnOf "sign_at" "sign_at" (defArgs sSignAt) (defBody sSignAt) (defScope sSignAt) .none kV6 dc6 pm6 an6 cd6 ct6), sl6⟩)
    (c6 : PySem.W.codeIn K cd6 "sign_at" = true)
    (k6 : PySem.W.keepIn K (.ref f6) = true)
    (a7 : PySem.W.nsIn K mainGlobals "next_of" = some (some (.ref f7)))
    (l7 : K.lookup f7 = some ⟨oc7, od7, .func (PySem.W.fnOf "next_of" "next_of" (defArgs sNextOf) (defBody sNextOf) (defScope sNextOf) .none kV7 dc7 pm7 an7 cd7 ct7), sl7⟩)
    (c7 : PySem.W.codeIn K cd7 "next_of" = true)
    (k7 : PySem.W.keepIn K (.ref f7) = true)
    (a8 : PySem.W.nsIn K mainGlobals "is_allowed" = some (some (.ref f8)))
    (l8 : K.lookup f8 = some ⟨oc8, od8, .func (PySem.W.fnOf "is_allowed" "is_allowed" (defArgs sIsAllowed) (defBody sIsAllowed) (defScope sIsAllowed) .none kV8 dc8 pm8 an8 cd8 ct8), sl8⟩)
    (c8 : PySem.W.codeIn K cd8 "is_allowed" = true)
    (k8 : PySem.W.keepIn K (.ref f8) = true)
    (a9 : PySem.W.nsIn K mainGlobals "is_apart" = some (some (.ref f9)))
    (l9 : K.lookup f9 = some ⟨oc9, od9, .func (PySem.W.fnOf "is_apart" "is_apart" (defArgs sIsApart) (defBody sIsApart) (defScope sIsApart) .none kV9 dc9 pm9 an9 cd9 ct9), sl9⟩)
    (c9 : PySem.W.codeIn K cd9 "is_apart" = true)
    (k9 : PySem.W.keepIn K (.ref f9) = true)
    (a10 : PySem.W.nsIn K mainGlobals "is_form" = some (some (.ref f10)))
    (l10 : K.lookup f10 = some ⟨oc10, od10, .func (PySem.W.fnOf "is_form" "is_form" (defArgs sIsForm) (defBody sIsForm) (defScope sIsForm) .none kV10 dc10 pm10 an10 cd10 ct10), sl10⟩)
    (c10 : PySem.W.codeIn K cd10 "is_form" = true)
    (k10 : PySem.W.keepIn K (.ref f10) = true)
    (a11 : PySem.W.nsIn K mainGlobals "check_number" = some (some (.ref f11)))
    (l11 : K.lookup f11 = some ⟨oc11, od11, .func (PySem.W.fnOf "check_number" "check_number" (defArgs sCheckNumber) (defBody sCheckNumber) (defScope sCheckNumber) .none kV11 dc11 pm11 an11 cd11 ct11), sl11⟩)
    (c11 : PySem.W.codeIn K cd11 "check_number" = true)
    (k11 : PySem.W.keepIn K (.ref f11) = true)
    (a12 : PySem.W.nsIn K mainGlobals "number_text" = some (some (.ref f12)))
    (l12 : K.lookup f12 = some ⟨oc12, od12, .func (PySem.W.fnOf "number_text" "number_text" (defArgs sNumberText) (defBody sNumberText) (defScope sNumberText) .none kV12 dc12 pm12 an12 cd12 ct12), sl12⟩)
    (c12 : PySem.W.codeIn K cd12 "number_text" = true)
    (k12 : PySem.W.keepIn K (.ref f12) = true)
    (a13 : PySem.W.nsIn K mainGlobals "read_tuple" = some (some (.ref f13)))
    (l13 : K.lookup f13 = some ⟨oc13, od13, .func (PySem.W.fnOf "read_tuple" "read_tuple" (defArgs sReadTuple) (defBody sReadTuple) (defScope sReadTuple) .none kV13 dc13 pm13 an13 cd13 ct13), sl13⟩)
    (c13 : PySem.W.codeIn K cd13 "read_tuple" = true)
    (k13 : PySem.W.keepIn K (.ref f13) = true)
    (a14 : PySem.W.nsIn K mainGlobals "read_number" = some (some (.ref f14)))
    (l14 : K.lookup f14 = some ⟨oc14, od14, .func (PySem.W.fnOf "read_number" "read_number" (defArgs sReadNumber) (defBody sReadNumber) (defScope sReadNumber) .none kV14 dc14 pm14 an14 cd14 ct14), sl14⟩)
    (c14 : PySem.W.codeIn K cd14 "read_number" = true)
    (k14 : PySem.W.keepIn K (.ref f14) = true)
    (a15 : PySem.W.nsIn K mainGlobals "_law_stream" = some (some (.ref f15)))
    (l15 : K.lookup f15 = some ⟨oc15, od15, .func (PySem.W.fnOf "_law_stream" "_law_stream" (defArgs lStream) (defBody lStream) (defScope lStream) .none kV15 dc15 pm15 an15 cd15 ct15), sl15⟩)
    (c15 : PySem.W.codeIn K cd15 "_law_stream" = true)
    (k15 : PySem.W.keepIn K (.ref f15) = true)
    (a16 : PySem.W.nsIn K mainGlobals "_law_pick" = some (some (.ref f16)))
    (l16 : K.lookup f16 = some ⟨oc16, od16, .func (PySem.W.fnOf "_law_pick" "_law_pick" (defArgs lPick) (defBody lPick) (defScope lPick) .none kV16 dc16 pm16 an16 cd16 ct16), sl16⟩)
    (c16 : PySem.W.codeIn K cd16 "_law_pick" = true)
    (k16 : PySem.W.keepIn K (.ref f16) = true)
    (a17 : PySem.W.nsIn K mainGlobals "_law_two" = some (some (.ref f17)))
    (l17 : K.lookup f17 = some ⟨oc17, od17, .func (PySem.W.fnOf "_law_two" "_law_two" (defArgs lTwo) (defBody lTwo) (defScope lTwo) .none kV17 dc17 pm17 an17 cd17 ct17), sl17⟩)
    (c17 : PySem.W.codeIn K cd17 "_law_two" = true)
    (k17 : PySem.W.keepIn K (.ref f17) = true)
    (a18 : PySem.W.nsIn K mainGlobals "_law_of" = some (some (.ref f18)))
    (l18 : K.lookup f18 = some ⟨oc18, od18, .func (PySem.W.fnOf "_law_of" "_law_of" (defArgs lOf) (defBody lOf) (defScope lOf) .none kV18 dc18 pm18 an18 cd18 ct18), sl18⟩)
    (c18 : PySem.W.codeIn K cd18 "_law_of" = true)
    (k18 : PySem.W.keepIn K (.ref f18) = true)
    (a19 : PySem.W.nsIn K mainGlobals "_law_size" = some (some (.ref f19)))
    (l19 : K.lookup f19 = some ⟨oc19, od19, .func (PySem.W.fnOf "_law_size" "_law_size" (defArgs lSize) (defBody lSize) (defScope lSize) .none kV19 dc19 pm19 an19 cd19 ct19), sl19⟩)
    (c19 : PySem.W.codeIn K cd19 "_law_size" = true)
    (k19 : PySem.W.keepIn K (.ref f19) = true)
    (a20 : PySem.W.nsIn K mainGlobals "_law_height" = some (some (.ref f20)))
    (l20 : K.lookup f20 = some ⟨oc20, od20, .func (PySem.W.fnOf "_law_height" "_law_height" (defArgs lHeight) (defBody lHeight) (defScope lHeight) .none kV20 dc20 pm20 an20 cd20 ct20), sl20⟩)
    (c20 : PySem.W.codeIn K cd20 "_law_height" = true)
    (k20 : PySem.W.keepIn K (.ref f20) = true)
    (a21 : PySem.W.nsIn K mainGlobals "_law_fits" = some (some (.ref f21)))
    (l21 : K.lookup f21 = some ⟨oc21, od21, .func (PySem.W.fnOf "_law_fits" "_law_fits" (defArgs lFits) (defBody lFits) (defScope lFits) .none kV21 dc21 pm21 an21 cd21 ct21), sl21⟩)
    (c21 : PySem.W.codeIn K cd21 "_law_fits" = true)
    (k21 : PySem.W.keepIn K (.ref f21) = true)
    (a22 : PySem.W.nsIn K mainGlobals "_law_exponent" = some (some (.ref f22)))
    (l22 : K.lookup f22 = some ⟨oc22, od22, .func (PySem.W.fnOf "_law_exponent" "_law_exponent" (defArgs lExponent) (defBody lExponent) (defScope lExponent) .none kV22 dc22 pm22 an22 cd22 ct22), sl22⟩)
    (c22 : PySem.W.codeIn K cd22 "_law_exponent" = true)
    (k22 : PySem.W.keepIn K (.ref f22) = true)
    (a23 : PySem.W.nsIn K mainGlobals "_law_model" = some (some (.ref f23)))
    (l23 : K.lookup f23 = some ⟨oc23, od23, .func (PySem.W.fnOf "_law_model" "_law_model" (defArgs lModel) (defBody lModel) (defScope lModel) .none kV23 dc23 pm23 an23 cd23 ct23), sl23⟩)
    (c23 : PySem.W.codeIn K cd23 "_law_model" = true)
    (k23 : PySem.W.keepIn K (.ref f23) = true)
    (a24 : PySem.W.nsIn K mainGlobals "_law_rows" = some (some (.ref f24)))
    (l24 : K.lookup f24 = some ⟨oc24, od24, .func (PySem.W.fnOf "_law_rows" "_law_rows" (defArgs lRows) (defBody lRows) (defScope lRows) .none kV24 dc24 pm24 an24 cd24 ct24), sl24⟩)
    (c24 : PySem.W.codeIn K cd24 "_law_rows" = true)
    (k24 : PySem.W.keepIn K (.ref f24) = true)
    (a25 : PySem.W.nsIn K mainGlobals "_law_number" = some (some (.ref f25)))
    (l25 : K.lookup f25 = some ⟨oc25, od25, .func (PySem.W.fnOf "_law_number" "_law_number" (defArgs lNumber) (defBody lNumber) (defScope lNumber) .none kV25 dc25 pm25 an25 cd25 ct25), sl25⟩)
    (c25 : PySem.W.codeIn K cd25 "_law_number" = true)
    (k25 : PySem.W.keepIn K (.ref f25) = true)
    (a26 : PySem.W.nsIn K mainGlobals "_law_text" = some (some (.ref f26)))
    (l26 : K.lookup f26 = some ⟨oc26, od26, .func (PySem.W.fnOf "_law_text" "_law_text" (defArgs lText) (defBody lText) (defScope lText) .none kV26 dc26 pm26 an26 cd26 ct26), sl26⟩)
    (c26 : PySem.W.codeIn K cd26 "_law_text" = true)
    (k26 : PySem.W.keepIn K (.ref f26) = true)
    (a27 : PySem.W.nsIn K mainGlobals "_law_close" = some (some (.ref f27)))
    (l27 : K.lookup f27 = some ⟨oc27, od27, .func (PySem.W.fnOf "_law_close" "_law_close" (defArgs lClose) (defBody lClose) (defScope lClose) .none kV27 dc27 pm27 an27 cd27 ct27), sl27⟩)
    (c27 : PySem.W.codeIn K cd27 "_law_close" = true)
    (k27 : PySem.W.keepIn K (.ref f27) = true)
    (a28 : PySem.W.nsIn K mainGlobals "_law_read" = some (some (.ref f28)))
    (l28 : K.lookup f28 = some ⟨oc28, od28, .func (PySem.W.fnOf "_law_read" "_law_read" (defArgs lRead) (defBody lRead) (defScope lRead) .none kV28 dc28 pm28 an28 cd28 ct28), sl28⟩)
    (c28 : PySem.W.codeIn K cd28 "_law_read" = true)
    (k28 : PySem.W.keepIn K (.ref f28) = true)
    (a29 : PySem.W.nsIn K mainGlobals "_law_is_number" = some (some (.ref f29)))
    (l29 : K.lookup f29 = some ⟨oc29, od29, .func (PySem.W.fnOf "_law_is_number" "_law_is_number" (defArgs lIsNumber) (defBody lIsNumber) (defScope lIsNumber) .none kV29 dc29 pm29 an29 cd29 ct29), sl29⟩)
    (c29 : PySem.W.codeIn K cd29 "_law_is_number" = true)
    (k29 : PySem.W.keepIn K (.ref f29) = true)
    (a30 : PySem.W.nsIn K mainGlobals "_law_told" = some (some (.ref f30)))
    (l30 : K.lookup f30 = some ⟨oc30, od30, .func (PySem.W.fnOf "_law_told" "_law_told" (defArgs lTold) (defBody lTold) (defScope lTold) .none kV30 dc30 pm30 an30 cd30 ct30), sl30⟩)
    (c30 : PySem.W.codeIn K cd30 "_law_told" = true)
    (k30 : PySem.W.keepIn K (.ref f30) = true)
    (a31 : PySem.W.nsIn K mainGlobals "_law_spoilt" = some (some (.ref f31)))
    (l31 : K.lookup f31 = some ⟨oc31, od31, .func (PySem.W.fnOf "_law_spoilt" "_law_spoilt" (defArgs lSpoilt) (defBody lSpoilt) (defScope lSpoilt) .none kV31 dc31 pm31 an31 cd31 ct31), sl31⟩)
    (c31 : PySem.W.codeIn K cd31 "_law_spoilt" = true)
    (k31 : PySem.W.keepIn K (.ref f31) = true)
    (a32 : PySem.W.nsIn K mainGlobals "law" = some (some (.ref f32)))
    (l32 : K.lookup f32 = some ⟨oc32, od32, .func (PySem.W.fnOf "law" "law" (defArgs sLaw) (defBody sLaw) (defScope sLaw) .none kV32 dc32 pm32 an32 cd32 ct32), sl32⟩)
    (c32 : PySem.W.codeIn K cd32 "law" = true)
    (k32 : PySem.W.keepIn K (.ref f32) = true)
    (zlen : PySem.W.nsIn K mainGlobals "len" = some none)
    (zsum : PySem.W.nsIn K mainGlobals "sum" = some none)
    (zmax : PySem.W.nsIn K mainGlobals "max" = some none)
    (zzip : PySem.W.nsIn K mainGlobals "zip" = some none)
    (zlist : PySem.W.nsIn K mainGlobals "list" = some none)
    (ztuple : PySem.W.nsIn K mainGlobals "tuple" = some none)
    (zall : PySem.W.nsIn K mainGlobals "all" = some none)
    (zrange : PySem.W.nsIn K mainGlobals "range" = some none)
    (zint : PySem.W.nsIn K mainGlobals "int" = some none)
    (zsorted : PySem.W.nsIn K mainGlobals "sorted" = some none)
    (zisinstance : PySem.W.nsIn K mainGlobals "isinstance" = some none)
    (zstr : PySem.W.nsIn K mainGlobals "str" = some none)
    (mMAX_SIZE : PySem.W.nsIn K mainGlobals "MAX_SIZE" = some (some (.int 300 tMAX_SIZE)))
    (mMAX_HEIGHT : PySem.W.nsIn K mainGlobals "MAX_HEIGHT" = some (some (.int 40 tMAX_HEIGHT)))
    (eReckonError : PySem.W.nsIn K mainGlobals "ReckonError" = some (some (.ref xReckonError)))
    (eNotAllowed : PySem.W.nsIn K mainGlobals "NotAllowed" = some (some (.ref xNotAllowed)))
    (eBadForm : PySem.W.nsIn K mainGlobals "BadForm" = some (some (.ref xBadForm)))
    (eTooLarge : PySem.W.nsIn K mainGlobals "TooLarge" = some (some (.ref xTooLarge)))
    (exNotAllowed : PySem.W.excIn K xNotAllowed [.type "ValueError", .type "Exception", .type "BaseException", .type "object"] "ValueError.__new__" = true)
    (ekNotAllowed : PySem.W.keepIn K (.ref xNotAllowed) = true)
    (ebNotAllowed : PySem.W.subIn K (.ref xNotAllowed) (.type "BaseException") = some true)
    (etNotAllowed : PySem.W.typeIn K (.ref xNotAllowed) = some (.type "type"))
    (edNotAllowed : PySem.W.hasDictIn K xNotAllowed = true)
    (esNotAllowed : PySem.W.subIn K (.ref xNotAllowed) (.ref xNotAllowed) = some true)
    (exBadForm : PySem.W.excIn K xBadForm [.type "ValueError", .type "Exception", .type "BaseException", .type "object"] "ValueError.__new__" = true)
    (ekBadForm : PySem.W.keepIn K (.ref xBadForm) = true)
    (ebBadForm : PySem.W.subIn K (.ref xBadForm) (.type "BaseException") = some true)
    (etBadForm : PySem.W.typeIn K (.ref xBadForm) = some (.type "type"))
    (edBadForm : PySem.W.hasDictIn K xBadForm = true)
    (esBadForm : PySem.W.subIn K (.ref xBadForm) (.ref xBadForm) = some true)
    (hig : PySem.W.findIn K (.ref xBadForm) "__getattribute__" = some (some (.builtin "BaseException.__getattribute__")))
    (hik : PySem.W.findIn K (.ref xBadForm) "__getattr__" = some none)
    (hid : PySem.W.hasDictIn K xBadForm = true)
    (hia : PySem.W.findIn K (.ref xBadForm) "__class__" = some (some (.builtin "object.__class__")))
    (hin : PySem.W.specialIn K (.builtin "object.__class__") "__get__" = some (some (.builtin "getset_descriptor.__get__")))
    (hit : PySem.W.takesIn K (.builtin "object.__class__") = some true)
    (him : PySem.W.mroIn K xBadForm (.type "object") = some true)
    (hi1 : PySem.W.kitOne K (.ref xBadForm) (.ref xReckonError) = some true)
    (hi2 : PySem.W.kitOne K (.ref xBadForm) (.ref xNotAllowed) = some false)
    (hi3 : PySem.W.kitOne K (.ref xBadForm) (.ref xTooLarge) = some false)
    (sa : PySem.W.nsIn K mainGlobals "SIGNS" = some (some (.ref signs)))
    (sl : K.lookup signs = some ⟨.type "dict", none, .dict es nS, #[]⟩)
    (sk : PySem.W.KeysLit w.params es.toList)
    (sp : PySem.W.nsIn K signs "+" = some (some (.int 1 tP)))
    (sm : PySem.W.nsIn K signs "-" = some (some (.int (-1) tM))) :
    ∃ fd : FuncData, (∀ (s : Shared) (v : Value), BindsTo s fd ⟨[v], []⟩ [("_law_script", v)]) ∧ ∀ base : Heap, K.In base → base.Ns mainGlobals mg → FnOk P w K mg base CX0 125 fa fd ["_law_script"] (spLaw K) := by
  have e := hfa.symm.trans (PySem.W.mg_of X G a32)
  cases e
  have D0 := def_mk (st := sSizeOf) (ps := ["number"]) X G a0 l0 c0 k0 fun F => F.binds (ps := ["number"]) fun _ _ _ _ _ _ us hl => match us, hl with | [_], _ => rfl
  have D1 := def_mk (st := sHeightOf) (ps := ["number"]) X G a1 l1 c1 k1 fun F => F.binds (ps := ["number"]) fun _ _ _ _ _ _ us hl => match us, hl with | [_], _ => rfl
  have D2 := def_mk (st := sCompare) (ps := ["first", "second"]) X G a2 l2 c2 k2 fun F => F.binds (ps := ["first", "second"]) fun _ _ _ _ _ _ us hl => match us, hl with | [_, _], _ => rfl
  have D3 := def_mk (st := sSignOf) (ps := ["number"]) X G a3 l3 c3 k3 fun F => F.binds (ps := ["number"]) fun _ _ _ _ _ _ us hl => match us, hl with | [_], _ => rfl
  have D4 := def_mk (st := sInOrder) (ps := ["numbers"]) X G a4 l4 c4 k4 fun F => F.binds (ps := ["numbers"]) fun _ _ _ _ _ _ us hl => match us, hl with | [_], _ => rfl
  have D5 := def_mk (st := sGathered) (ps := ["pairs"]) X G a5 l5 c5 k5 fun F => F.binds (ps := ["pairs"]) fun _ _ _ _ _ _ us hl => match us, hl with | [_], _ => rfl
  have D6 := def_mk (st := sSignAt) (ps := ["count", "exponent", "counts", "waiting"]) X G a6 l6 c6 k6 fun F => F.binds (ps := ["count", "exponent", "counts", "waiting"]) fun _ _ _ _ _ _ us hl => match us, hl with | [_, _, _, _], _ => rfl
  have D7 := def_mk (st := sNextOf) (ps := ["number"]) X G a7 l7 c7 k7 fun F => F.binds (ps := ["number"]) fun _ _ _ _ _ _ us hl => match us, hl with | [_], _ => rfl
  have D8 := def_mk (st := sIsAllowed) (ps := ["number"]) X G a8 l8 c8 k8 fun F => F.binds (ps := ["number"]) fun _ _ _ _ _ _ us hl => match us, hl with | [_], _ => rfl
  have D9 := def_mk (st := sIsApart) (ps := ["upper", "lower"]) X G a9 l9 c9 k9 fun F => F.binds (ps := ["upper", "lower"]) fun _ _ _ _ _ _ us hl => match us, hl with | [_, _], _ => rfl
  have D10 := def_mk (st := sIsForm) (ps := ["number"]) X G a10 l10 c10 k10 fun F => F.binds (ps := ["number"]) fun _ _ _ _ _ _ us hl => match us, hl with | [_], _ => rfl
  have D11 := def_mk (st := sCheckNumber) (ps := ["number"]) X G a11 l11 c11 k11 fun F => F.binds (ps := ["number"]) fun _ _ _ _ _ _ us hl => match us, hl with | [_], _ => rfl
  have D12 := def_mk (st := sNumberText) (ps := ["number"]) X G a12 l12 c12 k12 fun F => F.binds (ps := ["number"]) fun _ _ _ _ _ _ us hl => match us, hl with | [_], _ => rfl
  have D13 := def_mk (st := sReadTuple) (ps := ["text"]) X G a13 l13 c13 k13 fun F => F.binds (ps := ["text"]) fun _ _ _ _ _ _ us hl => match us, hl with | [_], _ => rfl
  have D14 := def_mk (st := sReadNumber) (ps := ["text"]) X G a14 l14 c14 k14 fun F => F.binds (ps := ["text"]) fun _ _ _ _ _ _ us hl => match us, hl with | [_], _ => rfl
  have D15 := def_mk (st := lStream) (ps := ["_law_script"]) X G a15 l15 c15 k15 fun F => F.binds (ps := ["_law_script"]) fun _ _ _ _ _ _ us hl => match us, hl with | [_], _ => rfl
  have D16 := def_mk (st := lPick) (ps := ["_law_numbers", "_law_at", "_law_many"]) X G a16 l16 c16 k16 fun F => F.binds (ps := ["_law_numbers", "_law_at", "_law_many"]) fun _ _ _ _ _ _ us hl => match us, hl with | [_, _, _], _ => rfl
  have D17 := def_mk (st := lTwo) (ps := ["_law_count"]) X G a17 l17 c17 k17 fun F => F.binds (ps := ["_law_count"]) fun _ _ _ _ _ _ us hl => match us, hl with | [_], _ => rfl
  have D18 := def_mk (st := lOf) (ps := ["_law_value"]) X G a18 l18 c18 k18 fun F => F.binds (ps := ["_law_value"]) fun _ _ _ _ _ _ us hl => match us, hl with | [_], _ => rfl
  have D19 := def_mk (st := lSize) (ps := ["_law_number_here"]) X G a19 l19 c19 k19 fun F => F.binds (ps := ["_law_number_here"]) fun _ _ _ _ _ _ us hl => match us, hl with | [_], _ => rfl
  have D20 := def_mk (st := lHeight) (ps := ["_law_number_here"]) X G a20 l20 c20 k20 fun F => F.binds (ps := ["_law_number_here"]) fun _ _ _ _ _ _ us hl => match us, hl with | [_], _ => rfl
  have D21 := def_mk (st := lFits) (ps := ["_law_number_here"]) X G a21 l21 c21 k21 fun F => F.binds (ps := ["_law_number_here"]) fun _ _ _ _ _ _ us hl => match us, hl with | [_], _ => rfl
  have D22 := def_mk (st := lExponent) (ps := ["_law_numbers", "_law_at"]) X G a22 l22 c22 k22 fun F => F.binds (ps := ["_law_numbers", "_law_at"]) fun _ _ _ _ _ _ us hl => match us, hl with | [_, _], _ => rfl
  have D23 := def_mk (st := lModel) (ps := ["_law_numbers", "_law_at", "_law_many"]) X G a23 l23 c23 k23 fun F => F.binds (ps := ["_law_numbers", "_law_at", "_law_many"]) fun _ _ _ _ _ _ us hl => match us, hl with | [_, _, _], _ => rfl
  have D24 := def_mk (st := lRows) (ps := ["_law_counts"]) X G a24 l24 c24 k24 fun F => F.binds (ps := ["_law_counts"]) fun _ _ _ _ _ _ us hl => match us, hl with | [_], _ => rfl
  have D25 := def_mk (st := lNumber) (ps := ["_law_counts"]) X G a25 l25 c25 k25 fun F => F.binds (ps := ["_law_counts"]) fun _ _ _ _ _ _ us hl => match us, hl with | [_], _ => rfl
  have D26 := def_mk (st := lText) (ps := ["_law_number_here"]) X G a26 l26 c26 k26 fun F => F.binds (ps := ["_law_number_here"]) fun _ _ _ _ _ _ us hl => match us, hl with | [_], _ => rfl
  have D27 := def_mk (st := lClose) (ps := ["_law_text_here", "_law_at"]) X G a27 l27 c27 k27 fun F => F.binds (ps := ["_law_text_here", "_law_at"]) fun _ _ _ _ _ _ us hl => match us, hl with | [_, _], _ => rfl
  have D28 := def_mk (st := lRead) (ps := ["_law_text_here", "_law_levels"]) X G a28 l28 c28 k28 fun F => F.binds (ps := ["_law_text_here", "_law_levels"]) fun _ _ _ _ _ _ us hl => match us, hl with | [_, _], _ => rfl
  have D29 := def_mk (st := lIsNumber) (ps := ["_law_number_here"]) X G a29 l29 c29 k29 fun F => F.binds (ps := ["_law_number_here"]) fun _ _ _ _ _ _ us hl => match us, hl with | [_], _ => rfl
  have D30 := def_mk (st := lTold) (ps := ["_law_text_here"]) X G a30 l30 c30 k30 fun F => F.binds (ps := ["_law_text_here"]) fun _ _ _ _ _ _ us hl => match us, hl with | [_], _ => rfl
  have D31 := def_mk (st := lSpoilt) (ps := ["_law_numbers", "_law_at", "_law_text_here"]) X G a31 l31 c31 k31 fun F => F.binds (ps := ["_law_numbers", "_law_at", "_law_text_here"]) fun _ _ _ _ _ _ us hl => match us, hl with | [_, _, _], _ => rfl
  have D32 := def_mk (st := sLaw) (ps := ["_law_script"]) X G a32 l32 c32 k32 fun F => F.binds (ps := ["_law_script"]) fun _ _ _ _ _ _ us hl => match us, hl with | [_], _ => rfl
  have T : Top K mg ⟨f0, _, f1, _, f2, _, f3, _, f4, _, f5, _, f6, _, f7, _, f8, _, f9, _, f10, _, f11, _, f12, _, f13, _, f14, _, f15, _, f16, _, f17, _, f18, _, f19, _, f20, _, f21, _, f22, _, f23, _, f24, _, f25, _, f26, _, f27, _, f28, _, f29, _, f30, _, f31, _, fa, _, xReckonError, xNotAllowed, xBadForm, xTooLarge, signs⟩ := ⟨D0, D1, D2, D3, D4, D5, D6, D7, D8, D9, D10, D11, D12, D13, D14, D15, D16, D17, D18, D19, D20, D21, D22, D23, D24, D25, D26, D27, D28, D29, D30, D31, D32, PySem.W.mg_none_of X G zlen, PySem.W.mg_none_of X G zsum, PySem.W.mg_none_of X G zmax, PySem.W.mg_none_of X G zzip, PySem.W.mg_none_of X G zlist, PySem.W.mg_none_of X G ztuple, PySem.W.mg_none_of X G zall, PySem.W.mg_none_of X G zrange, PySem.W.mg_none_of X G zint, PySem.W.mg_none_of X G zsorted, PySem.W.mg_none_of X G zisinstance, PySem.W.mg_none_of X G zstr, ⟨_, PySem.W.mg_of X G mMAX_SIZE⟩, ⟨_, PySem.W.mg_of X G mMAX_HEIGHT⟩⟩
  exact ⟨PySem.W.fnOf "law" "law" (defArgs sLaw) (defBody sLaw) (defScope sLaw) .none kV32 dc32 pm32 an32 cd32 ct32, fun s v => .of_eq rfl, fun base _ _ => ok_law (P := P) (w := w) (base := base) T ⟨⟨PySem.W.mg_of X G eNotAllowed, exNotAllowed, ekNotAllowed, ebNotAllowed, etNotAllowed⟩, ⟨PySem.W.mg_of X G eBadForm, exBadForm, ekBadForm, ebBadForm, etBadForm⟩, PySem.W.mg_of X G eReckonError, PySem.W.mg_of X G eTooLarge, PySem.W.exm_ref ebNotAllowed edNotAllowed etNotAllowed esNotAllowed, PySem.W.exm_ref ebBadForm edBadForm etBadForm esBadForm, ⟨hig, hik, ebBadForm, hid, hia, hin, hit, him⟩, hi1, hi2, hi3, PySem.W.mg_of X G sa, ⟨es, nS, _, sl, sk, sp, ⟨_, rfl⟩⟩, ⟨es, nS, _, sl, sk, sm, ⟨_, rfl⟩⟩⟩⟩
end SR
set_option Elab.async false
set_option linter.all false
set_option maxRecDepth 100000
open PySem PySem.W PyProof.Rows
set_option maxHeartbeats 0 in
theorem PySem.Challenge.cw_sandreckoner_k07_whole_texts_holds : PySem.Challenge.rw_sandreckoner_k07_whole_texts.Holds := by
  w_on; o_law; k_head; (case hw => w_witness2)
  k_fill
  refine L2.walk_of (l := PySem.Challenge.rw_sandreckoner_k07_whole_texts) (n := 63) (k := 125) (x := "_law_script") (CX := fun _ => L2.CX0) (sp := fun w => SR.spLaw _) rfl (by decide) rfl ⟨rfl, by decide, by decide⟩ (fun w h Y => PySem.W.kIn_of Y) ?F (fun _ _ a ns hl _ hS => ⟨a, ns, rfl, hS, hl, fun _ => rfl⟩) (fun _ _ _ _ _ h => h)
  case F =>
    intro w mg fa h KX G hmg
    refine' SR.all_mk KX G hmg ?a0 ?l0 ?c0 ?k0 ?a1 ?l1 ?c1 ?k1 ?a2 ?l2 ?c2 ?k2 ?a3 ?l3 ?c3 ?k3 ?a4 ?l4 ?c4 ?k4 ?a5 ?l5 ?c5 ?k5 ?a6 ?l6 ?c6 ?k6 ?a7 ?l7 ?c7 ?k7 ?a8 ?l8 ?c8 ?k8 ?a9 ?l9 ?c9 ?k9 ?a10 ?l10 ?c10 ?k10 ?a11 ?l11 ?c11 ?k11 ?a12 ?l12 ?c12 ?k12 ?a13 ?l13 ?c13 ?k13 ?a14 ?l14 ?c14 ?k14 ?a15 ?l15 ?c15 ?k15 ?a16 ?l16 ?c16 ?k16 ?a17 ?l17 ?c17 ?k17 ?a18 ?l18 ?c18 ?k18 ?a19 ?l19 ?c19 ?k19 ?a20 ?l20 ?c20 ?k20 ?a21 ?l21 ?c21 ?k21 ?a22 ?l22 ?c22 ?k22 ?a23 ?l23 ?c23 ?k23 ?a24 ?l24 ?c24 ?k24 ?a25 ?l25 ?c25 ?k25 ?a26 ?l26 ?c26 ?k26 ?a27 ?l27 ?c27 ?k27 ?a28 ?l28 ?c28 ?k28 ?a29 ?l29 ?c29 ?k29 ?a30 ?l30 ?c30 ?k30 ?a31 ?l31 ?c31 ?k31 ?a32 ?l32 ?c32 ?k32 ?zlen ?zsum ?zmax ?zzip ?zlist ?ztuple ?zall ?zrange ?zint ?zsorted ?zisinstance ?zstr ?mMAX_SIZE ?mMAX_HEIGHT ?eReckonError ?eNotAllowed ?eBadForm ?eTooLarge ?exNotAllowed ?ekNotAllowed ?ebNotAllowed ?etNotAllowed ?edNotAllowed ?esNotAllowed ?exBadForm ?ekBadForm ?ebBadForm ?etBadForm ?edBadForm ?esBadForm ?hig ?hik ?hid ?hia ?hin ?hit ?him ?hi1 ?hi2 ?hi3 ?sa ?sl ?sk ?sp ?sm
    (case a0 => k_is)
    (case l0 => k_is)
    (case c0 => k_is)
    (case k0 => k_is)
    (case a1 => k_is)
    (case l1 => k_is)
    (case c1 => k_is)
    (case k1 => k_is)
    (case a2 => k_is)
    (case l2 => k_is)
    (case c2 => k_is)
    (case k2 => k_is)
    (case a3 => k_is)
    (case l3 => k_is)
    (case c3 => k_is)
    (case k3 => k_is)
    (case a4 => k_is)
    (case l4 => k_is)
    (case c4 => k_is)
    (case k4 => k_is)
    (case a5 => k_is)
    (case l5 => k_is)
    (case c5 => k_is)
    (case k5 => k_is)
    (case a6 => k_is)
    (case l6 => k_is)
    (case c6 => k_is)
    (case k6 => k_is)
    (case a7 => k_is)
    (case l7 => k_is)
    (case c7 => k_is)
    (case k7 => k_is)
    (case a8 => k_is)
    (case l8 => k_is)
    (case c8 => k_is)
    (case k8 => k_is)
    (case a9 => k_is)
    (case l9 => k_is)
    (case c9 => k_is)
    (case k9 => k_is)
    (case a10 => k_is)
    (case l10 => k_is)
    (case c10 => k_is)
    (case k10 => k_is)
    (case a11 => k_is)
    (case l11 => k_is)
    (case c11 => k_is)
    (case k11 => k_is)
    (case a12 => k_is)
    (case l12 => k_is)
    (case c12 => k_is)
    (case k12 => k_is)
    (case a13 => k_is)
    (case l13 => k_is)
    (case c13 => k_is)
    (case k13 => k_is)
    (case a14 => k_is)
    (case l14 => k_is)
    (case c14 => k_is)
    (case k14 => k_is)
    (case a15 => k_is)
    (case l15 => k_is)
    (case c15 => k_is)
    (case k15 => k_is)
    (case a16 => k_is)
    (case l16 => k_is)
    (case c16 => k_is)
    (case k16 => k_is)
    (case a17 => k_is)
    (case l17 => k_is)
    (case c17 => k_is)
    (case k17 => k_is)
    (case a18 => k_is)
    (case l18 => k_is)
    (case c18 => k_is)
    (case k18 => k_is)
    (case a19 => k_is)
    (case l19 => k_is)
    (case c19 => k_is)
    (case k19 => k_is)
    (case a20 => k_is)
    (case l20 => k_is)
    (case c20 => k_is)
    (case k20 => k_is)
    (case a21 => k_is)
    (case l21 => k_is)
    (case c21 => k_is)
    (case k21 => k_is)
    (case a22 => k_is)
    (case l22 => k_is)
    (case c22 => k_is)
    (case k22 => k_is)
    (case a23 => k_is)
    (case l23 => k_is)
    (case c23 => k_is)
    (case k23 => k_is)
    (case a24 => k_is)
    (case l24 => k_is)
    (case c24 => k_is)
    (case k24 => k_is)
    (case a25 => k_is)
    (case l25 => k_is)
    (case c25 => k_is)
    (case k25 => k_is)
    (case a26 => k_is)
    (case l26 => k_is)
    (case c26 => k_is)
    (case k26 => k_is)
    (case a27 => k_is)
    (case l27 => k_is)
    (case c27 => k_is)
    (case k27 => k_is)
    (case a28 => k_is)
    (case l28 => k_is)
    (case c28 => k_is)
    (case k28 => k_is)
    (case a29 => k_is)
    (case l29 => k_is)
    (case c29 => k_is)
    (case k29 => k_is)
    (case a30 => k_is)
    (case l30 => k_is)
    (case c30 => k_is)
    (case k30 => k_is)
    (case a31 => k_is)
    (case l31 => k_is)
    (case c31 => k_is)
    (case k31 => k_is)
    (case a32 => k_is)
    (case l32 => k_is)
    (case c32 => k_is)
    (case k32 => k_is)
    (case zlen => k_is)
    (case zsum => k_is)
    (case zmax => k_is)
    (case zzip => k_is)
    (case zlist => k_is)
    (case ztuple => k_is)
    (case zall => k_is)
    (case zrange => k_is)
    (case zint => k_is)
    (case zsorted => k_is)
    (case zisinstance => k_is)
    (case zstr => k_is)
    (case mMAX_SIZE => k_is)
    (case mMAX_HEIGHT => k_is)
    (case eReckonError => k_is)
    (case eNotAllowed => k_is)
    (case eBadForm => k_is)
    (case eTooLarge => k_is)
    (case exNotAllowed => k_exc)
    (case ekNotAllowed => k_is)
    (case ebNotAllowed => k_is)
    (case etNotAllowed => k_is)
    (case edNotAllowed => k_is)
    (case esNotAllowed => first | rfl | k_is)
    (case exBadForm => k_exc)
    (case ekBadForm => k_is)
    (case ebBadForm => k_is)
    (case etBadForm => k_is)
    (case edBadForm => k_is)
    (case esBadForm => first | rfl | k_is)
    (case hig => first | k_is | rfl)
    (case hik => first | k_is | rfl)
    (case hid => first | k_is | rfl)
    (case hia => first | k_is | rfl)
    (case hin => first | k_is | rfl)
    (case hit => first | k_is | rfl)
    (case him => first | k_is | rfl)
    (case hi1 => first | k_is | rfl)
    (case hi2 => first | k_is | rfl)
    (case hi3 => first | k_is | rfl)
    (case sa => k_is)
    (case sl => k_is)
    (case sk => exact ⟨⟨_, _, rfl, rfl⟩, ⟨_, _, rfl, rfl⟩, trivial⟩)
    (case sp => k_is)
    (case sm => k_is)
