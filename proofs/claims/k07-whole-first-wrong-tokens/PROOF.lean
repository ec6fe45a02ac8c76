import PyProof.Rows.All
import Wide.All
import OpenK.AllK
import Wide.FinOn
import HandS.ForMost
import HandS.ForExc
import HandS.Star
import HandS.Evl
import HandS.Wide
import HandS.Style
import HandS.IsInst
import HandS.RaiseMore
import HandS.ExcInit
import HandS.ExcSuper
import HandS.EndBits
import KE.IntTextLaws
import KE.KDictSum
import KE.KExcSuper
import KE.KDictCopyH
import HandS.More
import HandS.TupAny
import HandS.Walk
import PySem.Challenge.RW_newsbehind_k07_whole_first_wrong_tokens
set_option Elab.async false
set_option linter.all false
set_option maxRecDepth 100000
set_option maxHeartbeats 4000000
/-! The two readers as plain functions over a row of tokens, and that they agree. -/
namespace K07
open PySem

/-! ### tokens -/
/-- a sign 0 to 9 -/
def isDig (c : Nat) : Bool := decide (48 ≤ c) && decide (c ≤ 57)
/-- what digits are worth -/
def digVal (l : List Nat) : Nat := l.foldl (fun acc c => acc * 10 + (c - 48)) 0
/-- all signs are digits -/
def allDig (t : Str) : Bool := t.cps.toList.all isDig
/-- a nought ahead of further signs -/
def zeroAhead (t : Str) : Bool := decide (t.cps.toList.head? = some 48) && decide (1 < t.cps.toList.length)
/-- the number that a token writes: digits, no nought ahead, at most five signs -/
def num (t : Str) : Option Int := if allDig t && !zeroAhead t && decide (t.cps.toList.length ≤ 5) then some ((digVal t.cps.toList : Nat) : Int) else none
def inR (t : Str) (lo hi : Int) : Bool := match num t with
  | none => false
  | some n => decide (lo ≤ n) && decide (n ≤ hi)
def inW (t : Str) (ws : List Str) : Bool := ws.any fun w => w == t

theorem inR_num {t : Str} {lo hi : Int} (h : inR t lo hi = true) : ∃ n, num t = some n := by
  unfold inR at h
  cases e : num t with
  | none => rw [e] at h; exact Bool.noConfusion h
  | some n => exact ⟨n, rfl⟩
theorem inR_not {t : Str} {lo hi : Int} (h : num t = none) : inR t lo hi = false := by
  unfold inR; rw [h]
theorem inR_empty (t : Str) : inR t 0 (-1) = false := by
  unfold inR
  cases num t with
  | none => rfl
  | some n =>
    show (decide (0 ≤ n) && decide (n ≤ -1)) = false
    by_cases h : 0 ≤ n
    · rw [decide_eq_false (show ¬ n ≤ -1 by omega), Bool.and_false]
    · rw [decide_eq_false h, Bool.false_and]
theorem inW_iff {t : Str} {ws : List Str} : inW t ws = true ↔ t ∈ ws := by
  unfold inW
  rw [List.any_eq_true]
  constructor
  · rintro ⟨x, hx, e⟩
    have e' : x = t := by simpa using e
    rw [← e']; exact hx
  · intro h
    exact ⟨t, h, by simp⟩
theorem inW_nil (t : Str) : inW t [] = false := rfl

/-! ### the state of a reader -/
structure S where
  at_ : Nat
  stop : Bool
  parts : Nat
  heard : Int
  last : Int
  deriving DecidableEq

theorem S.ext' {a b : S} (h1 : a.at_ = b.at_) (h2 : a.stop = b.stop) (h3 : a.parts = b.parts) (h4 : a.heard = b.heard) (h5 : a.last = b.last) : a = b := by
  cases a; cases b; simp_all

section
variable (ts : List Str)
/-- one token: one of some words or a number between two -/
def eat (ws : List Str) (lo hi : Int) (s : S) : Option Str × S :=
  if s.stop = true then (none, s) else
  match ts[s.at_]? with
  | none => (none, { s with stop := true })
  | some t => if (inW t ws || inR t lo hi) = true then (some t, { s with at_ := s.at_ + 1 }) else (none, { s with stop := true })
/-- the next state alone -/
def go (ws : List Str) (lo hi : Int) (s : S) : S := (eat ts ws lo hi s).2
def number (lo hi : Int) (s : S) : Int × S := match eat ts [] lo hi s with
  | (some t, s') => ((num t).getD 0, s')
  | (none, s') => (0, s')

def OFW : List Str := ["of"]
def MIDW : List Str := ["middle"]
def LISTS : List Str := ["least", "most", "add"]
def ONES : List Str := ["times", "part", "clip", "from", "bar", "row"]
/-- the words with which a rule may begin -/
def ruleWords (s : S) (deep : Nat) : List Str :=
  (if s.heard < 12 then OFW else []) ++ (if 1 < deep ∧ s.parts < 60 then LISTS ++ ONES else []) ++ (if 1 < deep ∧ s.parts < 58 then MIDW else [])

def more (n : Nat) (s : S) : S := { s with parts := s.parts + n }

/-! ### the program's reader -/
def pList (rule : S → S) : Nat → S → S
  | 0, s => s
  | n + 1, s => if s.stop = true then s else
    match eat ts (if s.parts < 60 then [",", ")"] else [")"]) 0 (-1) s with
    | (none, s1) => s1
    | (some t, s1) => if t = "," then pList rule n (rule (more 1 s1)) else s1
def pRow : Nat → S → S
  | 0, s => s
  | n + 1, s => if s.stop = true then s else
    match eat ts ["("] 0 (if n = 0 then -1 else 1000) s with
    | (none, s1) => s1
    | (some t, s1) => if t = "(" then s1 else pRow n s1
def nums (clip : Bool) : Nat → Int → S → S
  | 0, _, s => s
  | k + 1, low, s => nums clip k (if clip = true then (number ts low 1000 s).1 else low) (number ts low 1000 s).2
def many (w : Str) : Nat := if w = "clip" then 2 else if w = "bar" then 3 else if w = "row" then 0 else 1
def lowOf (w : Str) : Int := if w = "part" then 1 else 0
def pHead (w : Str) (s : S) : S :=
  if w = "row" then pRow ts 64 (number ts 0 1000 s).2 else go ts ["("] 0 (-1) (nums ts (decide (w = "clip")) (many w) (lowOf w) s)
def pOne (rule : S → S) (w : Str) (s : S) : S := go ts [")"] 0 (-1) (rule (more 1 (pHead ts w s)))
def pLst (rule : S → S) (s : S) : S := pList ts rule 60 (rule (more 1 (go ts ["("] 0 (-1) s)))
def pMid (rule : S → S) (s : S) : S :=
  go ts [")"] 0 (-1) (rule (go ts [","] 0 (-1) (rule (go ts [","] 0 (-1) (rule (more 3 (go ts ["("] 0 (-1) s)))))))
def hearS (n : Int) (s : S) : S := { s with last := if n > s.last then n else s.last }
def pOf (s : S) : S := hearS (number ts 0 19 { s with heard := s.heard + 1 }).1 (number ts 0 19 { s with heard := s.heard + 1 }).2
/-- behind a rule's first word -/
def pWord (rule : S → S) (w : Str) (s : S) : S :=
  if (num w).isSome = true then s else if w = "of" then pOf ts s else if w ∈ LISTS then pLst ts rule s else if w = "middle" then pMid ts rule s else pOne ts rule w s
def pRule : Nat → S → S
  | 0, s => s
  | d + 1, s => match eat ts (ruleWords s (d + 1)) 0 1000 s with
    | (none, s1) => s1
    | (some w, s1) => pWord ts (pRule d) w s1
def fresh (s : S) : S := { s with parts := 1, heard := 0 }
def pHouse (rule : S → S) (h : Nat) (s : S) : S :=
  go ts [";"] 0 (-1) (rule (fresh (go ts [":"] 0 (-1) (number ts 0 1000 (go ts ["top"] 0 (-1) (number ts h h s).2)).2)))
def whole (h : Nat) (s : S) : Bool := decide ((h : Int) > s.last) && decide (s.at_ = ts.length)
def houseWord (h : Nat) : List Str := if h < 20 then ["house"] else []
def pHouses : Nat → Nat → S → S × Bool
  | 0, _, s => (s, false)
  | n + 1, h, s => if s.stop = true then (s, false) else
    if (go ts (houseWord h) 0 (-1) s).stop = true then (go ts (houseWord h) 0 (-1) s, whole ts h s) else pHouses n (h + 1) (pHouse ts (pRule ts 8) h (go ts (houseWord h) 0 (-1) s))
def s0 : S := ⟨0, false, 0, 0, 0⟩
/-- None for a net's tokens, else the number of good ones -/
def pAns : Option Int := if (pHouses ts 21 0 s0).2 = true then none else some ((pHouses ts 21 0 s0).1.at_ : Int)

/-! ### the law's reader -/
def iter (f : S → S) : Nat → S → S
  | 0, s => s
  | n + 1, s => iter f n (f s)
def lListStep (rule : S → S) (s : S) : S :=
  if s.stop = false ∧ ts[s.at_]? = some ("," : Str) ∧ s.parts < 60 then rule { s with at_ := s.at_ + 1, parts := s.parts + 1 } else s
def lRowStep (s : S) : S := match ts[s.at_]? with
  | none => s
  | some t => if t = "(" then s else go ts [] 0 1000 s
def lNums (clip : Bool) : Nat → Int → S → S
  | 0, _, s => s
  | k + 1, low, s => lNums clip k (match eat ts [] low 1000 s with
    | (some t, _) => if clip = true then (num t).getD 0 else low
    | (none, _) => low) (go ts [] low 1000 s)
def lMany (w : Str) : Nat := if w = "clip" then 2 else if w = "bar" then 3 else 1
def lHead (w : Str) (s : S) : S :=
  go ts ["("] 0 (-1) (if w = "row" then iter (lRowStep ts) 63 (lNums ts (decide (w = "clip")) (lMany w) (lowOf w) s) else lNums ts (decide (w = "clip")) (lMany w) (lowOf w) s)
def lOne (rule : S → S) (w : Str) (s : S) : S := go ts [")"] 0 (-1) (rule (more 1 (lHead ts w s)))
def lMidStep (rule : S → S) (s : S) : S := rule (go ts [","] 0 (-1) s)
def lSome (rule : S → S) (w : Str) (s : S) : S :=
  go ts [")"] 0 (-1) (if w = "middle" then iter (lMidStep ts rule) 2 (rule (more 3 (go ts ["("] 0 (-1) s))) else iter (lListStep ts rule) 60 (rule (more 1 (go ts ["("] 0 (-1) s))))
def lWord (rule : S → S) (w : Str) (s : S) : S :=
  if w = "of" then pOf ts s else if w ∈ LISTS ++ MIDW then lSome ts rule w s else if w ∈ ONES then lOne ts rule w s else s
def lRule : Nat → S → S
  | 0, s => s
  | d + 1, s => match eat ts (ruleWords s (d + 1)) 0 1000 s with
    | (none, s1) => s1
    | (some w, s1) => lWord ts (lRule d) w s1
def lHouses : Nat → Nat → S → Option Int
  | 0, _, s => some (s.at_ : Int)
  | n + 1, h, s => if whole ts h s = true ∧ s.stop = false then none else lHouses n (h + 1) (pHouse ts (lRule ts 8) h (go ts (houseWord h) 0 (-1) s))
def lAns : Option Int := lHouses ts 21 0 s0

/-! ### what stopped stays so -/
variable {ts}
theorem eat_stop {ws : List Str} {lo hi : Int} {s : S} (h : s.stop = true) : eat ts ws lo hi s = (none, s) := by
  unfold eat; rw [if_pos h]
theorem go_stop {ws : List Str} {lo hi : Int} {s : S} (h : s.stop = true) : go ts ws lo hi s = s := by
  unfold go; rw [eat_stop h]
theorem number_stop {lo hi : Int} {s : S} (h : s.stop = true) : number ts lo hi s = (0, s) := by
  unfold number; rw [eat_stop h]
theorem eat_none {ws : List Str} {lo hi : Int} {s : S} (h : s.stop = false) (e : ts[s.at_]? = none) : eat ts ws lo hi s = (none, { s with stop := true }) := by
  unfold eat; rw [if_neg (by rw [h]; exact Bool.false_ne_true), e]
theorem eat_yes {ws : List Str} {lo hi : Int} {s : S} {t : Str} (h : s.stop = false) (e : ts[s.at_]? = some t) (y : (inW t ws || inR t lo hi) = true) : eat ts ws lo hi s = (some t, { s with at_ := s.at_ + 1 }) := by
  unfold eat; rw [if_neg (by rw [h]; exact Bool.false_ne_true), e]
  show (if (inW t ws || inR t lo hi) = true then _ else _) = _
  rw [if_pos y]
theorem eat_no {ws : List Str} {lo hi : Int} {s : S} {t : Str} (h : s.stop = false) (e : ts[s.at_]? = some t) (y : (inW t ws || inR t lo hi) = false) : eat ts ws lo hi s = (none, { s with stop := true }) := by
  unfold eat; rw [if_neg (by rw [h]; exact Bool.false_ne_true), e]
  show (if (inW t ws || inR t lo hi) = true then _ else _) = _
  rw [if_neg (by rw [y]; exact Bool.false_ne_true)]
/-- what was taken fits -/
theorem eat_some {ws : List Str} {lo hi : Int} {s s' : S} {t : Str} (h : eat ts ws lo hi s = (some t, s')) : (inW t ws || inR t lo hi) = true ∧ s.stop = false ∧ ts[s.at_]? = some t ∧ s' = { s with at_ := s.at_ + 1 } := by
  by_cases hs : s.stop = true
  · rw [eat_stop hs] at h; cases h
  · have hs' : s.stop = false := by simpa using hs
    cases e : ts[s.at_]? with
    | none => rw [eat_none hs' e] at h; cases h
    | some u =>
      cases y : (inW u ws || inR u lo hi) with
      | true => rw [eat_yes hs' e y] at h; cases h; exact ⟨y, hs', rfl, rfl⟩
      | false => rw [eat_no hs' e y] at h; cases h
theorem eat_none_stop {ws : List Str} {lo hi : Int} {s s' : S} (h : eat ts ws lo hi s = (none, s')) : s'.stop = true ∧ s'.at_ = s.at_ ∧ s'.parts = s.parts ∧ s'.heard = s.heard ∧ s'.last = s.last := by
  by_cases hs : s.stop = true
  · rw [eat_stop hs] at h; cases h; exact ⟨hs, rfl, rfl, rfl, rfl⟩
  · have hs' : s.stop = false := by simpa using hs
    cases e : ts[s.at_]? with
    | none => rw [eat_none hs' e] at h; cases h; exact ⟨rfl, rfl, rfl, rfl, rfl⟩
    | some u =>
      cases y : (inW u ws || inR u lo hi) with
      | true => rw [eat_yes hs' e y] at h; cases h
      | false => rw [eat_no hs' e y] at h; cases h; exact ⟨rfl, rfl, rfl, rfl, rfl⟩
/-- two ways of asking alike -/
theorem eat_congr {ws ws' : List Str} {lo hi lo' hi' : Int} {s : S} (h : s.stop = false → ∀ t, ts[s.at_]? = some t → (inW t ws || inR t lo hi) = (inW t ws' || inR t lo' hi')) : eat ts ws lo hi s = eat ts ws' lo' hi' s := by
  by_cases hs : s.stop = true
  · rw [eat_stop hs, eat_stop hs]
  · have hs' : s.stop = false := by simpa using hs
    cases e : ts[s.at_]? with
    | none => rw [eat_none hs' e, eat_none hs' e]
    | some u =>
      have q := h hs' u e
      cases y : (inW u ws || inR u lo hi) with
      | true => rw [eat_yes hs' e y, eat_yes hs' e (q ▸ y)]
      | false => rw [eat_no hs' e y, eat_no hs' e (q ▸ y)]
theorem go_parts {ws : List Str} {lo hi : Int} {s : S} : (go ts ws lo hi s).parts = s.parts := by
  unfold go
  cases e : eat ts ws lo hi s with
  | mk o s' =>
    cases o with
    | none => exact (eat_none_stop e).2.2.1
    | some t => rw [(eat_some e).2.2.2]
theorem number_go {lo hi : Int} {s : S} : (number ts lo hi s).2 = go ts [] lo hi s := by
  unfold number go
  cases e : eat ts [] lo hi s with
  | mk o s' => cases o <;> rfl
theorem number_parts {lo hi : Int} {s : S} : (number ts lo hi s).2.parts = s.parts := by rw [number_go, go_parts]

/-! ### the parts only grow -/
def Grows (rule : S → S) : Prop := ∀ s, s.parts ≤ (rule s).parts
theorem pList_parts {rule : S → S} (g : Grows rule) : ∀ n s, s.parts ≤ (pList ts rule n s).parts
  | 0, s => Nat.le_refl _
  | n + 1, s => by
    unfold pList
    by_cases hs : s.stop = true
    · rw [if_pos hs]; exact Nat.le_refl _
    · rw [if_neg hs]
      cases e : eat ts (if s.parts < 60 then [",", ")"] else [")"]) 0 (-1) s with
      | mk o s1 =>
        cases o with
        | none => exact Nat.le_of_eq (eat_none_stop e).2.2.1.symm
        | some t =>
          have q : s1.parts = s.parts := by rw [(eat_some e).2.2.2]
          show s.parts ≤ (if t = "," then pList ts rule n (rule (more 1 s1)) else s1).parts
          by_cases c : t = ","
          · rw [if_pos c]
            refine Nat.le_trans ?_ (pList_parts g n _)
            refine Nat.le_trans ?_ (g _)
            show s.parts ≤ s1.parts + 1
            omega
          · rw [if_neg c]; omega
theorem pRow_parts : ∀ n s, (pRow ts n s).parts = s.parts
  | 0, s => rfl
  | n + 1, s => by
    unfold pRow
    by_cases hs : s.stop = true
    · rw [if_pos hs]
    · rw [if_neg hs]
      cases e : eat ts ["("] 0 (if n = 0 then -1 else 1000) s with
      | mk o s1 =>
        cases o with
        | none => exact (eat_none_stop e).2.2.1
        | some t =>
          have q : s1.parts = s.parts := by rw [(eat_some e).2.2.2]
          show (if t = "(" then s1 else pRow ts n s1).parts = s.parts
          by_cases c : t = "("
          · rw [if_pos c]; exact q
          · rw [if_neg c, pRow_parts n]; exact q
theorem nums_parts {clip : Bool} : ∀ k low s, (nums ts clip k low s).parts = s.parts
  | 0, _, _ => rfl
  | k + 1, low, s => by
    unfold nums
    rw [nums_parts k, number_parts]
theorem pHead_parts {w : Str} {s : S} : (pHead ts w s).parts = s.parts := by
  unfold pHead
  by_cases c : w = "row"
  · rw [if_pos c, pRow_parts, number_parts]
  · rw [if_neg c, go_parts, nums_parts]
theorem pWord_parts {rule : S → S} (g : Grows rule) (w : Str) (s : S) : s.parts ≤ (pWord ts rule w s).parts := by
  unfold pWord
  split
  · exact Nat.le_refl _
  · split
    · unfold pOf hearS
      show s.parts ≤ (number ts 0 19 { s with heard := s.heard + 1 }).2.parts
      rw [number_parts]
      exact Nat.le_refl _
    · split
      · unfold pLst
        refine Nat.le_trans ?_ (pList_parts g _ _)
        refine Nat.le_trans ?_ (g _)
        show s.parts ≤ (go ts ["("] 0 (-1) s).parts + 1
        rw [go_parts]
        omega
      · split
        · unfold pMid
          rw [go_parts]
          refine Nat.le_trans ?_ (g _)
          rw [go_parts]
          refine Nat.le_trans ?_ (g _)
          rw [go_parts]
          refine Nat.le_trans ?_ (g _)
          show s.parts ≤ (go ts ["("] 0 (-1) s).parts + 3
          rw [go_parts]
          omega
        · unfold pOne
          rw [go_parts]
          refine Nat.le_trans ?_ (g _)
          show s.parts ≤ (pHead ts w s).parts + 1
          rw [pHead_parts]
          omega
theorem pRule_parts : ∀ d, Grows (pRule ts d)
  | 0 => fun s => Nat.le_refl _
  | d + 1 => fun s => by
    unfold pRule
    cases e : eat ts (ruleWords s (d + 1)) 0 1000 s with
    | mk o s1 =>
      cases o with
      | none => exact Nat.le_of_eq (eat_none_stop e).2.2.1.symm
      | some w =>
        have q : s1.parts = s.parts := by rw [(eat_some e).2.2.2]
        show s.parts ≤ (pWord ts (pRule ts d) w s1).parts
        rw [← q]
        exact pWord_parts (pRule_parts d) w s1

/-! ### the loops agree -/
theorem iter_fix {f : S → S} : ∀ {n : Nat} {s : S}, f s = s → iter f n s = s
  | 0, _, _ => rfl
  | n + 1, s, h => by unfold iter; rw [h]; exact iter_fix h
theorem comma_ne : ¬ ((")" : Str) = ",") := by decide +kernel
theorem num_lp : num "(" = none := by decide +kernel
theorem inW_two {t a b : Str} : inW t [a, b] = (decide (t = a) || decide (t = b)) := by
  unfold inW
  rw [List.any_cons, List.any_cons, List.any_nil, Bool.or_false]
  have e : ∀ x : Str, (x == t) = decide (t = x) := fun x => by
    by_cases h : t = x
    · rw [decide_eq_true h, h]; simp
    · rw [decide_eq_false h]
      exact beq_eq_false_iff_ne.mpr fun q => h q.symm
  rw [e, e]
theorem inW_one {t a : Str} : inW t [a] = decide (t = a) := by
  unfold inW
  rw [List.any_cons, List.any_nil, Bool.or_false]
  by_cases h : t = a
  · rw [decide_eq_true h, h]; simp
  · rw [decide_eq_false h]
    exact beq_eq_false_iff_ne.mpr fun q => h q.symm
theorem pList_law {rule : S → S} (g : Grows rule) : ∀ (n : Nat) (s : S) (m : Nat), 60 - s.parts < n → 60 - s.parts ≤ m → pList ts rule n s = go ts [")"] 0 (-1) (iter (lListStep ts rule) m s)
  | 0, s, m, h, _ => absurd h (Nat.not_lt_zero _)
  | n + 1, s, m, h, hm => by
    unfold pList
    by_cases hs : s.stop = true
    · rw [if_pos hs, iter_fix (by unfold lListStep; rw [if_neg (by rw [hs]; intro q; exact absurd q.1 (by decide))]), go_stop hs]
    · rw [if_neg hs]
      have hs' : s.stop = false := by simpa using hs
      by_cases c : ts[s.at_]? = some ("," : Str) ∧ s.parts < 60
      · have hm1 : ∃ k, m = k + 1 := ⟨m - 1, by omega⟩
        obtain ⟨k, rfl⟩ := hm1
        rw [if_pos c.2, eat_yes hs' c.1 (by rw [inW_two, decide_eq_true rfl]; rfl)]
        show (if ("," : Str) = "," then pList ts rule n (rule (more 1 { s with at_ := s.at_ + 1 })) else _) = _
        rw [if_pos rfl]
        unfold iter
        have e : lListStep ts rule s = rule (more 1 { s with at_ := s.at_ + 1 }) := by
          unfold lListStep
          rw [if_pos ⟨hs', c⟩]
          rfl
        rw [e]
        have gp := g (more 1 { s with at_ := s.at_ + 1 })
        have gp' : s.parts + 1 ≤ (rule (more 1 { s with at_ := s.at_ + 1 })).parts := gp
        exact pList_law g n _ k (by omega) (by omega)
      · have e : lListStep ts rule s = s := by
          unfold lListStep
          rw [if_neg (fun q => c q.2)]
        rw [iter_fix e]
        have q : eat ts (if s.parts < 60 then [",", ")"] else [")"]) 0 (-1) s = eat ts [")"] 0 (-1) s := by
          refine eat_congr fun _ t et => ?_
          by_cases hp : s.parts < 60
          · rw [if_pos hp, inW_two, inW_one]
            have : ¬ t = "," := fun z => c ⟨z ▸ et, hp⟩
            rw [decide_eq_false this, Bool.false_or]
          · rw [if_neg hp]
        rw [q]
        unfold go
        cases e2 : eat ts [")"] 0 (-1) s with
        | mk o s1 =>
          cases o with
          | none => rfl
          | some t =>
            have h1 := (eat_some e2).1
            rw [inR_empty, Bool.or_false, inW_one] at h1
            have h2 : t = ")" := of_decide_eq_true h1
            show (if t = "," then _ else s1) = s1
            rw [if_neg (by rw [h2]; exact comma_ne)]
theorem pRow_law : ∀ (n : Nat) (s : S), pRow ts (n + 1) s = go ts ["("] 0 (-1) (iter (lRowStep ts) n s)
  | n, s => by
    unfold pRow
    by_cases hs : s.stop = true
    · have e : lRowStep ts s = s := by
        unfold lRowStep
        split
        · rfl
        · split
          · rfl
          · exact go_stop hs
      rw [if_pos hs, iter_fix e, go_stop hs]
    · rw [if_neg hs]
      have hs' : s.stop = false := by simpa using hs
      cases e : ts[s.at_]? with
      | none =>
        have e1 : lRowStep ts s = s := by unfold lRowStep; rw [e]
        rw [iter_fix e1, eat_none hs' e]
        unfold go
        rw [eat_none hs' e]
      | some t =>
        by_cases c : t = "("
        · have e1 : lRowStep ts s = s := by unfold lRowStep; rw [e]; show (if t = "(" then s else _) = s; rw [if_pos c]
          rw [iter_fix e1]
          unfold go
          rw [eat_yes hs' e (by rw [inW_one, decide_eq_true c]; rfl), eat_yes hs' e (by rw [inW_one, decide_eq_true c]; rfl)]
          show (if t = "(" then _ else _) = _
          rw [if_pos c]
        · cases n with
          | zero =>
            rw [if_pos rfl]
            unfold iter go
            have y : (inW t ["("] || inR t 0 (-1)) = false := by rw [inR_empty, inW_one, decide_eq_false c]; rfl
            rw [eat_no hs' e y]
          | succ n =>
            rw [if_neg (Nat.succ_ne_zero n)]
            have e1 : lRowStep ts s = go ts [] 0 1000 s := by unfold lRowStep; rw [e]; show (if t = "(" then s else _) = _; rw [if_neg c]
            unfold iter
            rw [e1]
            cases y : inR t 0 1000 with
            | true =>
              rw [eat_yes hs' e (by rw [y, Bool.or_true])]
              show (if t = "(" then _ else pRow ts (n + 1) { s with at_ := s.at_ + 1 }) = _
              rw [if_neg c, pRow_law n]
              have e2 : go ts [] 0 1000 s = { s with at_ := s.at_ + 1 } := by
                unfold go; rw [eat_yes hs' e (by rw [y, Bool.or_true])]
              rw [e2]
            | false =>
              rw [eat_no hs' e (by rw [y, inW_one, decide_eq_false c]; rfl)]
              have e2 : go ts [] 0 1000 s = { s with stop := true } := by
                unfold go; rw [eat_no hs' e (by rw [y, inW_nil]; rfl)]
              have e3 : lRowStep ts { s with stop := true } = { s with stop := true } := by
                unfold lRowStep
                split
                · rfl
                · split
                  · rfl
                  · exact go_stop rfl
              rw [e2, iter_fix e3, go_stop rfl]
theorem nums_stop {clip : Bool} : ∀ (k : Nat) (low : Int) (s : S), s.stop = true → nums ts clip k low s = s
  | 0, _, _, _ => rfl
  | k + 1, low, s, h => by
    unfold nums
    rw [number_stop h]
    exact nums_stop k _ s h
theorem lNums_stop {clip : Bool} : ∀ (k : Nat) (low : Int) (s : S), s.stop = true → lNums ts clip k low s = s
  | 0, _, _, _ => rfl
  | k + 1, low, s, h => by
    unfold lNums
    rw [go_stop h]
    exact lNums_stop k _ s h
theorem nums_law {clip : Bool} : ∀ (k : Nat) (low : Int) (s : S), nums ts clip k low s = lNums ts clip k low s
  | 0, _, _ => rfl
  | k + 1, low, s => by
    unfold nums lNums
    rw [number_go]
    cases e : eat ts [] low 1000 s with
    | mk o s1 =>
      have eg : go ts [] low 1000 s = s1 := by unfold go; rw [e]
      cases o with
      | none =>
        rw [eg, nums_stop _ _ _ (eat_none_stop e).1, lNums_stop _ _ _ (eat_none_stop e).1]
      | some t =>
        have en : (number ts low 1000 s).1 = (num t).getD 0 := by unfold number; rw [e]
        rw [en]
        exact nums_law k _ _
theorem row_ne_clip : ¬ (("row" : Str) = "clip") := by decide +kernel
theorem row_ne_bar : ¬ (("row" : Str) = "bar") := by decide +kernel
theorem row_ne_part : ¬ (("row" : Str) = "part") := by decide +kernel
theorem head_law (w : Str) (s : S) : pHead ts w s = lHead ts w s := by
  unfold pHead lHead
  by_cases c : w = "row"
  · subst c
    rw [if_pos rfl, if_pos rfl, pRow_law]
    have e1 : lMany "row" = 1 := by decide +kernel
    have e2 : lowOf "row" = 0 := by decide +kernel
    rw [e1, e2]
    unfold lNums
    rw [number_go]
    rfl
  · rw [if_neg c, if_neg c, nums_law]
    have e1 : many w = lMany w := by
      unfold many lMany
      rw [if_neg c]
    rw [e1]
theorem one_law {rule : S → S} (w : Str) (s : S) : pOne ts rule w s = lOne ts rule w s := by
  unfold pOne lOne
  rw [head_law]
theorem lst_law {rule : S → S} (g : Grows rule) {s : S} : pLst ts rule s = go ts [")"] 0 (-1) (iter (lListStep ts rule) 60 (rule (more 1 (go ts ["("] 0 (-1) s)))) := by
  unfold pLst
  have q := g (more 1 (go ts ["("] 0 (-1) s))
  have q' : (go ts ["("] 0 (-1) s).parts + 1 ≤ (rule (more 1 (go ts ["("] 0 (-1) s))).parts := q
  rw [go_parts] at q'
  exact pList_law g _ _ _ (by omega) (by omega)
theorem mid_law {rule : S → S} {s : S} : pMid ts rule s = go ts [")"] 0 (-1) (iter (lMidStep ts rule) 2 (rule (more 3 (go ts ["("] 0 (-1) s)))) := by
  unfold pMid
  rfl
theorem lists_mid : ¬ (("middle" : Str) ∈ LISTS) := by decide +kernel
theorem of_not : ¬ (("of" : Str) ∈ LISTS ++ MIDW) ∧ ¬ (("of" : Str) ∈ ONES) := by decide +kernel
theorem ones_not : ∀ w ∈ ONES, ¬ (w ∈ LISTS ++ MIDW) ∧ ¬ w = "of" := by decide +kernel
theorem words_no : ∀ w ∈ OFW ++ MIDW ++ LISTS ++ ONES, num w = none := by decide +kernel
theorem ruleWords_sub {s : S} {d : Nat} {w : Str} (h : w ∈ ruleWords s d) : w ∈ OFW ++ MIDW ++ LISTS ++ ONES := by
  unfold ruleWords at h
  simp only [List.mem_append] at h ⊢
  rcases h with (h | h) | h
  · split at h
    · exact .inl (.inl (.inl h))
    · cases h
  · split at h
    · rcases List.mem_append.mp h with h | h
      · exact .inl (.inr h)
      · exact .inr h
    · cases h
  · split at h
    · exact .inl (.inl (.inr h))
    · cases h
/-- a word of a rule's beginning, or a number -/
theorem word_kind {s s1 : S} {d : Nat} {w : Str} (h : eat ts (ruleWords s d) 0 1000 s = (some w, s1)) : ((num w).isSome = true ∧ ¬ w ∈ OFW ++ MIDW ++ LISTS ++ ONES) ∨ (num w = none ∧ w ∈ ruleWords s d) := by
  have h1 := (eat_some h).1
  cases e : num w with
  | none =>
    right
    rw [inR_not e, Bool.or_false] at h1
    exact ⟨rfl, inW_iff.mp h1⟩
  | some n =>
    left
    refine ⟨rfl, fun z => ?_⟩
    rw [words_no w z] at e
    cases e
theorem mem_mid {w : Str} : w ∈ MIDW ↔ w = "middle" := List.mem_singleton
theorem mem_of {w : Str} : w ∈ OFW ↔ w = "of" := List.mem_singleton
theorem word_law {rule : S → S} (g : Grows rule) {s s1 : S} {d : Nat} {w : Str} (h : eat ts (ruleWords s d) 0 1000 s = (some w, s1)) : pWord ts rule w s1 = lWord ts rule w s1 := by
  unfold pWord lWord
  rcases word_kind h with ⟨hn, hw⟩ | ⟨hn, hw⟩
  · rw [if_pos hn]
    simp only [List.mem_append, not_or] at hw
    have n1 : ¬ w = "of" := fun z => hw.1.1.1 (mem_of.mpr z)
    have n2 : ¬ w ∈ LISTS ++ MIDW := fun z => (List.mem_append.mp z).elim hw.1.2 hw.1.1.2
    rw [if_neg n1, if_neg n2, if_neg hw.2]
  · rw [if_neg (by rw [hn]; decide)]
    by_cases c1 : w = "of"
    · rw [if_pos c1, if_pos c1]
    · rw [if_neg c1, if_neg c1]
      by_cases c2 : w ∈ LISTS
      · rw [if_pos c2, if_pos (List.mem_append_left _ c2)]
        unfold lSome
        rw [if_neg (fun z => lists_mid (by rw [z] at c2; exact c2))]
        exact lst_law g
      · rw [if_neg c2]
        by_cases c3 : w = "middle"
        · rw [if_pos c3, if_pos (List.mem_append_right _ (mem_mid.mpr c3))]
          unfold lSome
          rw [if_pos c3]
          exact mid_law
        · have c4 : w ∈ ONES := by
            have z := ruleWords_sub hw
            simp only [List.mem_append] at z
            rcases z with ((z | z) | z) | z
            · exact absurd (mem_of.mp z) c1
            · exact absurd (mem_mid.mp z) c3
            · exact absurd z c2
            · exact z
          rw [if_neg c3, if_neg (ones_not w c4).1, if_pos c4]
          exact one_law w s1
theorem rule_law : ∀ d, pRule ts d = lRule ts d
  | 0 => rfl
  | d + 1 => by
    funext s
    unfold pRule lRule
    rw [← rule_law d]
    cases e : eat ts (ruleWords s (d + 1)) 0 1000 s with
    | mk o s1 =>
      cases o with
      | none => rfl
      | some w => exact word_law (pRule_parts d) e

/-! ### the houses -/
/-- what keeps its place where it stopped -/
def Stays (rule : S → S) : Prop := ∀ s, s.stop = true → (rule s).stop = true ∧ (rule s).at_ = s.at_
theorem pRule_stays : ∀ d, Stays (pRule ts d)
  | 0 => fun s h => ⟨h, rfl⟩
  | d + 1 => fun s h => by
    unfold pRule
    rw [eat_stop h]
    exact ⟨h, rfl⟩
theorem pHouse_stays {rule : S → S} (g : Stays rule) (h : Nat) : Stays (pHouse ts rule h) := fun s hs => by
  unfold pHouse
  rw [number_stop hs, go_stop hs, number_stop hs, go_stop hs]
  have q := g (fresh s) hs
  rw [go_stop q.1]
  exact q
theorem lHouses_stop : ∀ (n h : Nat) (s : S), s.stop = true → lHouses ts n h s = some (s.at_ : Int)
  | 0, _, _, _ => rfl
  | n + 1, h, s, hs => by
    unfold lHouses
    rw [if_neg (fun z => by rw [hs] at z; exact absurd z.2 (by decide)), go_stop hs]
    have q := pHouse_stays (ts := ts) (rule := lRule ts 8) (rule_law 8 ▸ pRule_stays 8) h s hs
    rw [lHouses_stop n (h + 1) _ q.1, q.2]
theorem houses_law : ∀ (n h : Nat) (s : S), lHouses ts n h s = if (pHouses ts n h s).2 = true then none else some ((pHouses ts n h s).1.at_ : Int)
  | 0, _, _ => rfl
  | n + 1, h, s => by
    by_cases hs : s.stop = true
    · rw [lHouses_stop _ _ _ hs]
      unfold pHouses
      rw [if_pos hs]
      rfl
    · have hs' : s.stop = false := by simpa using hs
      unfold pHouses
      rw [if_neg hs]
      by_cases hg : (go ts (houseWord h) 0 (-1) s).stop = true
      · rw [if_pos hg]
        unfold lHouses
        cases hw : whole ts h s with
        | true => rw [if_pos ⟨rfl, hs'⟩, if_pos rfl]
        | false =>
          rw [if_neg (fun z => Bool.noConfusion z.1), if_neg (fun z => Bool.noConfusion z)]
          have q := pHouse_stays (ts := ts) (rule := lRule ts 8) (rule_law 8 ▸ pRule_stays 8) h _ hg
          rw [lHouses_stop _ _ _ q.1, q.2]
      · rw [if_neg hg]
        unfold lHouses
        have hw : whole ts h s = false := by
          unfold whole
          by_cases e : s.at_ = ts.length
          · exfalso
            refine hg ?_
            unfold go
            rw [eat_none hs' (by rw [e]; exact List.getElem?_eq_none (Nat.le_refl _))]
          · rw [decide_eq_false e, Bool.and_false]
        rw [if_neg (fun z => by rw [hw] at z; exact absurd z.1 (by decide)), houses_law n, rule_law]
/-- THE PLAIN LAW: the two readers answer alike -/
theorem plain_law : pAns ts = lAns ts := by
  unfold pAns lAns
  exact (houses_law 21 0 s0).symm
end
end K07

namespace K07
open PySem L2
/-! ### the text by places -/
def top (i : Nat) : Stmt := PySem.Challenge.pw_newsbehind_k07_whole_first_wrong_tokens.main.body.getD i (.Pass ⟨0, 0, 0, 0⟩)
abbrev sErrI : Stmt := inClass (top 2) 0
abbrev sSkipped : Stmt := top 10
abbrev sTokEnd : Stmt := top 11
abbrev sTokPlaces : Stmt := top 12
abbrev sTokensOf : Stmt := top 13
abbrev sIsNumeral : Stmt := top 18
abbrev sTaken : Stmt := top 19
abbrev sNumeral : Stmt := top 20
abbrev sWordsLet : Stmt := top 21
abbrev sReadList : Stmt := top 22
abbrev sReadMiddle : Stmt := top 23
abbrev sReadRow : Stmt := top 24
abbrev sReadNumbers : Stmt := top 25
abbrev sReadOne : Stmt := top 26
abbrev sReadRule : Stmt := top 27
abbrev sReadHouse : Stmt := top 28
abbrev sWalked : Stmt := top 29
abbrev sReadNet : Stmt := top 30
abbrev sLDraw : Stmt := top 32
abbrev sLAny : Stmt := top 33
abbrev sLOf : Stmt := top 34
abbrev sLRule : Stmt := top 36
abbrev sLNet : Stmt := top 37
abbrev sLParts : Stmt := top 38
abbrev sLRuleTokens : Stmt := top 40
abbrev sLNetTokens : Stmt := top 41
abbrev sLRead : Stmt := top 42
abbrev sLNumber : Stmt := top 43
abbrev sLEat : Stmt := top 44
abbrev sLGoRule : Stmt := top 45
abbrev sLGoNumbers : Stmt := top 46
abbrev sLReach : Stmt := top 47
abbrev sLGreat : Stmt := top 48
abbrev sLaw : Stmt := top 49

/-! ### heaps -/
/-- all that was tracked is as it was, but what stood at w -/
def But (w : Addr) (H H' : Hp) : Prop := ∀ b o, H b = some o → b ≠ w → H' b = some o
theorem But.refl {w : Addr} (H : Hp) : But w H H := fun _ _ e _ => e
theorem But.of {w : Addr} {H H' : Hp} (h : Same H H') : But w H H' := fun b o e _ => h b o e
theorem But.trans {w : Addr} {H H1 H2 : Hp} (a : But w H H1) (b : But w H1 H2) : But w H H2 := fun c o e n => b c o (a c o e n) n
theorem But.upd {w : Addr} {H : Hp} {o : HO} : But w H (upd H w o) := fun b u e n => by rw [upd_ne n]; exact e
/-- what was not yet there was written -/
theorem But.new {w p : Addr} {H G : Hp} {o : HO} (b : But w H G) (h : H p = none) : But w H (L2.upd G p o) := fun c u e n => by rw [upd_ne (ne_of_none e h)]; exact b c u e n
theorem same_add {p : Addr} {H G : Hp} {o : HO} (b : Same H G) (h : H p = none) : Same H (upd G p o) := fun c u e => by rw [upd_ne (ne_of_none e h)]; exact b c u e
theorem same_new {H : Hp} {p : Addr} (h : H p = none) (o : HO) : Same H (upd H p o) := fun b u q => by rw [upd_ne (ne_of_none q h)]; exact q
theorem Same.set {K : PySem.W.Frag} {H H' : Hp} {a : Addr} {xs : List V} (e : Same H H') (h : SqT K H a xs) : SqT K H' a xs := by
  rcases h with (h | ⟨o, h⟩) | h
  · exact .inl (.inl (e _ _ h))
  · exact .inl (.inr ⟨o, e _ _ h⟩)
  · exact .inr h
theorem small {n : Nat} (h : n ≤ 1000) : n ≤ sizeLine := Nat.le_of_lt (small1000 h)
theorem small5 {n : Nat} (h : n ≤ 1000000) : n ≤ sizeLine := by
  rw [sizeLine_eq]; exact Nat.le_trans h (by decide)
theorem small5lt {n : Nat} (h : n ≤ 1000000) : n < sizeLine := by
  rw [sizeLine_eq]; exact Nat.lt_of_le_of_lt h (by decide)
theorem ifT {c : Bool} {A B : Prop} (hc : c = true) (h : A) : if c = true then A else B := by
  rw [if_pos hc]
  exact h
theorem ifF {c : Bool} {A B : Prop} (hc : c = false) (h : B) : if c = true then A else B := by
  rw [hc, if_neg Bool.false_ne_true]
  exact h
theorem if2 {c : Bool} {A B : Prop} (h1 : c = true → A) (h2 : c = false → B) : if c = true then A else B := by
  cases c with
  | true => rw [if_pos rfl]; exact h1 rfl
  | false => rw [if_neg Bool.false_ne_true]; exact h2 rfl

/-! ### the defs as they stand behind the top -/
/-- a def of the module -/
structure Df (K : PySem.W.Frag) (mg : Str → Option Value) (x : Str) (st : Stmt) (ps : List Str) (f : Addr) (fd : FuncData) : Prop where
  fn : Fun K x x st f fd
  b : Binds K fd ps []
  g : mg x = some (.ref f)
theorem Df.kp {K : PySem.W.Frag} {mg : Str → Option Value} {x : Str} {st : Stmt} {ps : List Str} {f : Addr} {fd : FuncData} (D : Df K mg x st ps f fd) : PySem.W.keepIn K (.ref f) = true := D.fn.kp
/-- built-in names are still the built-ins; the module's constants -/
structure Bl (mg : Str → Option Value) : Prop where
  len : mg "len" = none
  range : mg "range" = none
  int : mg "int" = none
  str : mg "str" = none
  tuple : mg "tuple" = none
  list : mg "list" = none
  all : mg "all" = none
  max : mg "max" = none
  abs : mg "abs" = none
  isinstance : mg "isinstance" = none
  repr : mg "repr" = none
  sorted : mg "sorted" = none
  enumerate : mg "enumerate" = none
end K07

namespace K07
open PySem L2
/-! ### comprehensions over the signs of a text -/
/-- W by the turn: Pv holds ahead of turn i -/
theorem lc_str {x : Str} {g : TG} {tt : TT} {te : TE} {own : List Nat} {σ : L2.St} {G : Hp} {D : Addr} {Z : Hp → Prop} (Pv : Nat → Hp → Prop) (start : Pv 0 (upd G D (.lst [])))
    (turn : ∀ i c F, x.cps.toList[i]? = some c → Pv i F → g (.str ⟨#[c]⟩) (wipe σ own) F fun τ F2 => wipe τ own = wipe σ own ∧ tt τ F2 fun b F3 =>
      if b = true then (te τ F3 fun y F4 => ∃ l, F4 D = some (.lst l) ∧ l.length < sizeLine ∧ Pv (i + 1) (upd F4 D (.lst (l ++ [y])))) else Pv (i + 1) F3)
    (fin : ∀ F, Pv x.cps.toList.length F → Z F) :
    ∃ W : Nat → Nat → Hp → Prop, (∃ m, W 0 m (upd G D (.lst []))) ∧ ∀ i m F, W i m F → ((Its x).stop i F ∧ Z F) ∨ ((Its x).go i F ∧ ∃ Nx : Hp → Prop,
      (∀ F', Nx F' → ∃ m', m' < m ∧ W (i + 1) m' F') ∧ ∀ v F', (Its x).yld i F v F' → g v (wipe σ own) F' fun τ F2 => wipe τ own = wipe σ own ∧ tt τ F2 fun b F3 =>
        if b = true then (te τ F3 fun y F4 => ∃ l, F4 D = some (.lst l) ∧ l.length < sizeLine ∧ Nx (upd F4 D (.lst (l ++ [y])))) else Nx F3) := by
  have sz : x.cps.toList.length = x.cps.size := Array.length_toList
  refine ⟨fun i m F => i + m = x.cps.size ∧ Pv i F, ⟨x.cps.size, Nat.zero_add _, start⟩, ?_⟩
  rintro i m F ⟨e, p⟩
  by_cases h : i < x.cps.size
  · refine .inr ⟨h, Pv (i + 1), fun F' p' => ⟨m - 1, by omega, by omega, p'⟩, fun v F' y => ?_⟩
    obtain ⟨rfl, c, hc, rfl⟩ := y
    exact turn i c _ (by rw [Array.getElem?_toList]; exact hc) p
  · refine .inl ⟨Nat.le_of_not_lt h, fin F ?_⟩
    have : i = x.cps.toList.length := by omega
    rw [← this]
    exact p

/-- the same without a test -/
theorem lc_strM {x : Str} {g : TG} {te : TE} {own : List Nat} {σ : L2.St} {G : Hp} {D : Addr} {Z : Hp → Prop} (Pv : Nat → Hp → Prop) (start : Pv 0 (upd G D (.lst [])))
    (turn : ∀ i c F, x.cps.toList[i]? = some c → Pv i F → g (.str ⟨#[c]⟩) (wipe σ own) F fun τ F2 => wipe τ own = wipe σ own ∧
      te τ F2 fun y F4 => ∃ l, F4 D = some (.lst l) ∧ l.length < sizeLine ∧ Pv (i + 1) (upd F4 D (.lst (l ++ [y]))))
    (fin : ∀ F, Pv x.cps.toList.length F → Z F) :
    ∃ W : Nat → Nat → Hp → Prop, (∃ m, W 0 m (upd G D (.lst []))) ∧ ∀ i m F, W i m F → ((Its x).stop i F ∧ Z F) ∨ ((Its x).go i F ∧ ∃ Nx : Hp → Prop,
      (∀ F', Nx F' → ∃ m', m' < m ∧ W (i + 1) m' F') ∧ ∀ v F', (Its x).yld i F v F' → g v (wipe σ own) F' fun τ F2 => wipe τ own = wipe σ own ∧ tYes τ F2 fun b F3 =>
        if b = true then (te τ F3 fun y F4 => ∃ l, F4 D = some (.lst l) ∧ l.length < sizeLine ∧ Nx (upd F4 D (.lst (l ++ [y])))) else Nx F3) :=
  lc_str (tt := tYes) Pv start turn fin
/-! ### is_numeral -/
def DIGITS : Str := "0123456789"
theorem digits_list : DIGITS.cps.toList = [48, 49, 50, 51, 52, 53, 54, 55, 56, 57] := by decide +kernel
theorem in_digits (c : Nat) : decide (c ∈ DIGITS.cps.toList) = isDig c := by
  rw [digits_list]
  unfold isDig
  by_cases h : 48 ≤ c ∧ c ≤ 57
  · rw [decide_eq_true h.1, decide_eq_true h.2]
    refine decide_eq_true ?_
    simp only [List.mem_cons, List.not_mem_nil, or_false]
    omega
  · have n : ¬ (c ∈ [48, 49, 50, 51, 52, 53, 54, 55, 56, 57]) := fun z => h (by
      simp only [List.mem_cons, List.not_mem_nil, or_false] at z
      omega)
    rw [decide_eq_false n]
    by_cases h1 : 48 ≤ c
    · rw [decide_eq_true h1, decide_eq_false (fun z => h ⟨h1, z⟩)]; rfl
    · rw [decide_eq_false h1]; rfl
/-- a token: not empty, not long -/
def Tk (t : Str) : Prop := t.cps.toList ≠ [] ∧ t.cps.toList.length ≤ 500
theorem Tk.len {t : Str} (h : Tk t) : t.length ≤ 500 := by
  have : t.length = t.cps.toList.length := Array.length_toList.symm
  rw [this]; exact h.2
/-- the head of a token that begins with a nought -/
theorem zero_iff {t : Str} (h : Tk t) : ∃ c, atI t.cps.toList 0 = some c ∧ (decide (V.str t = V.str "0") || !decide (V.str ⟨#[c]⟩ = V.str "0")) = !zeroAhead t := by
  obtain ⟨⟨cs⟩⟩ := t
  obtain ⟨c, r, e⟩ : ∃ c r, cs = c :: r := by
    cases cs with
    | nil => exact absurd rfl h.1
    | cons c r => exact ⟨c, r, rfl⟩
  subst e
  refine ⟨c, atI_nat (j := 0) rfl, ?_⟩
  have z0 : ("0" : Str) = ⟨#[48]⟩ := by decide +kernel
  have eV : ∀ a b : Str, decide (V.str a = V.str b) = decide (a = b) := fun a b => by
    by_cases q : a = b
    · rw [q, decide_eq_true rfl, decide_eq_true rfl]
    · rw [decide_eq_false q, decide_eq_false (fun z => q (V.str.inj z))]
  rw [eV, eV, z0]
  have ez : zeroAhead ⟨⟨c :: r⟩⟩ = (decide (c = 48) && decide (1 < (c :: r).length)) := by
    unfold zeroAhead
    simp
  rw [ez]
  by_cases hc : c = 48
  · subst hc
    have e1 : decide ((⟨#[48]⟩ : Str) = ⟨#[48]⟩) = true := decide_eq_true rfl
    rw [e1, decide_eq_true (show (48 : Nat) = 48 from rfl)]
    cases r with
    | nil => decide +kernel
    | cons d r =>
      have n : ¬ ((⟨⟨48 :: d :: r⟩⟩ : Str) = ⟨#[48]⟩) := fun z => by
        have q := congrArg (fun s : Str => s.cps.toList.length) z
        simp at q
      rw [decide_eq_false n, decide_eq_true (show 1 < (48 :: d :: r).length by simp)]
      rfl
  · have n1 : ¬ ((⟨#[c]⟩ : Str) = ⟨#[48]⟩) := fun z => hc (by
      have q := congrArg (fun s : Str => s.cps.toList) z
      simpa using q)
    rw [decide_eq_false n1, decide_eq_false hc, Bool.not_false, Bool.or_true]
    rfl
def okNum (t : Str) : Bool := allDig t && !zeroAhead t
def spIsNumeral : Sp := fun vs H Q _ => ∃ t : Str, vs = [.str t] ∧ Tk t ∧ ∀ H', Same H H' → Q (.bl (okNum t)) H'
section
variable {P : Program} {w : World} {K : PySem.W.Frag} {mg : Str → Option Value} {base : Heap}
abbrev nIN : List Str := ["token", "sign"]
theorem scIN : FnScope nIN ["token"] (defScope sIsNumeral) := ⟨rfl, rfl, rfl, by decide +kernel, rfl, by decide +kernel, by decide +kernel⟩
theorem ok_isNumeral {f : Addr} {fd : FuncData} (F : Fun K "is_numeral" "is_numeral" sIsNumeral f fd) (B : Bl mg) : FnOk P w K mg base CX0 1 f fd ["token"] spIsNumeral := by
  refine F.ok scIN (fun vs H Q E h => ?_) (fun cdv A outer s H vs Q E hr h => ?_)
  · obtain ⟨t, rfl, _⟩ := h
    rfl
  obtain ⟨t, rfl, ht, q⟩ := h
  refine ⟨_, pss_cons (ps_if (pt_not (pt_val (pe_callB (cr_all rfl) (by rfl) B.all (by decide +kernel) (pa_cons
      (pe_lc (own := [("sign", 1)]) (g := gName 1) (tt := tYes) rfl scIN.nd (pi_str (pv 0)) (blkOk_by (N := nIN) (sc := defScope sIsNumeral) (by decide +kernel)) (fun _ _ _ _ _ => pg_name (i := 1) scIN.nd rfl (Or.inl rfl)) (fun _ _ _ _ _ => pts_nil)
        (fun _ _ _ _ _ => pe_cmpR op_in_sign (pv 1) pe_str rfl)) pa_nil)))) (pss_one (ps_ret pe_bl)) pss_nil)
    (pss_one (ps_ret (pe_or (pe_cmpR op_eq (pv 0) pe_str (nomark _)) (pe_one (pe_cmpR op_ne (pe_ix ix_str (pv 0) pe_int (fun _ _ => rfl)) pe_str (nomark _)))))), ?_⟩
  refine ⟨_, rfl, t, rfl, fun D hD => lc_strM (fun i F => Same H F ∧ F D = some (.lst ((t.cps.toList.take i).map fun c => V.bl (isDig c)))) ⟨same_new hD _, upd_same⟩ ?_ ?_⟩
  · rintro i c F hc ⟨sm, e⟩
    refine ⟨rfl, ?_⟩
    refine ⟨_, rfl, c, DIGITS, rfl, rfl, _, e, ?_, ?_, ?_⟩
    · rw [List.length_map, List.length_take]
      exact Nat.lt_of_le_of_lt (Nat.min_le_right _ _) (small1000 (Nat.le_trans ht.2 (by decide)))
    · exact fun b o z => by rw [upd_ne (ne_of_none z hD)]; exact sm b o z
    · rw [upd_same, in_digits, List.take_add_one, hc, List.map_append]
      rfl
  · rintro F ⟨sm, e⟩
    rw [List.take_length] at e
    have e' : F D = some (.lst ((t.cps.toList.map isDig).map V.bl)) := by rw [List.map_map]; exact e
    have ea : (t.cps.toList.map isDig).all id = allDig t := by
      unfold allDig
      rw [List.all_map]
      rfl
    refine ⟨D, _, rfl, .inl (.inl e'), _, rfl, ?_⟩
    rw [ea]
    cases ha : allDig t with
    | false =>
      refine ifT rfl ?_
      have := q F sm
      unfold okNum at this
      rw [ha] at this
      exact this
    | true =>
      refine ifF rfl ?_
      obtain ⟨c, hc, ez⟩ := zero_iff ht
      have q' := q F sm
      unfold okNum at q'
      rw [ha, Bool.true_and, ← ez] at q'
      refine ⟨_, rfl, rfl, _, rfl, ?_⟩
      refine if2 (fun h1 => ?_) (fun h1 => ?_)
      · rw [h1] at q'
        exact q'
      · rw [h1, Bool.false_or] at q'
        exact ⟨_, rfl, _, _, _, rfl, rfl, small (Nat.le_trans ht.len (by decide)), hc, rfl, q'⟩
end
end K07

namespace K07
open PySem L2
/-! ### the program's world: a dict of six keys -/
def pK (t : Addr) (a : Int) (sv : V) (p h l : Int) : List (Key × V) :=
  [(.inr "tokens", .ref t), (.inr "at", .int a), (.inr "stop", sv), (.inr "parts", .int p), (.inr "heard", .int h), (.inr "wanted", .int l)]
section
variable {H : Hp} {w t : Addr} {a p h l : Int} {sv : V} (hw : H w = some (.dK (pK t a sv p h l)))
include hw
theorem pg_tokens : DGet H w (.str "tokens") (some (.ref t)) := DGet.k (k := .inr "tokens") hw
theorem pg_at : DGet H w (.str "at") (some (.int a)) := DGet.k (k := .inr "at") hw
theorem pg_stop : DGet H w (.str "stop") (some sv) := DGet.k (k := .inr "stop") hw
theorem pg_parts : DGet H w (.str "parts") (some (.int p)) := DGet.k (k := .inr "parts") hw
theorem pg_heard : DGet H w (.str "heard") (some (.int h)) := DGet.k (k := .inr "heard") hw
theorem pg_wanted : DGet H w (.str "wanted") (some (.int l)) := DGet.k (k := .inr "wanted") hw
theorem pp_len : (pK t a sv p h l).length < sizeLine := small1000 (by show 6 ≤ 1000; decide)
theorem pp_at (x : Int) : DPut H w (.str "at") (.int x) (upd H w (.dK (pK t x sv p h l))) := DPut.k (k := .inr "at") (v := .int x) hw (pp_len hw)
theorem pp_stop (x : V) : DPut H w (.str "stop") x (upd H w (.dK (pK t a x p h l))) := DPut.k (k := .inr "stop") (v := x) hw (pp_len hw)
theorem pp_parts (x : Int) : DPut H w (.str "parts") (.int x) (upd H w (.dK (pK t a sv x h l))) := DPut.k (k := .inr "parts") (v := .int x) hw (pp_len hw)
theorem pp_heard (x : Int) : DPut H w (.str "heard") (.int x) (upd H w (.dK (pK t a sv p x l))) := DPut.k (k := .inr "heard") (v := .int x) hw (pp_len hw)
theorem pp_wanted (x : Int) : DPut H w (.str "wanted") (.int x) (upd H w (.dK (pK t a sv p h x))) := DPut.k (k := .inr "wanted") (v := .int x) hw (pp_len hw)
end
/-- the program's reader stands at w in the state s, its tokens (ts) at t -/
structure PW (H : Hp) (w t : Addr) (ts : List Str) (s : S) : Prop where
  ob : ∃ sv, H w = some (.dK (pK t s.at_ sv s.parts s.heard s.last)) ∧ decide (sv = .non) = !s.stop
  tup : H t = some (.tup (ts.map V.str))
  le : s.at_ ≤ ts.length
  tk : ∀ x ∈ ts, Tk x
  sz : ts.length ≤ 1000
theorem PW.ne {H : Hp} {w t : Addr} {ts : List Str} {s : S} (W : PW H w t ts s) : t ≠ w := by
  obtain ⟨sv, hw, _⟩ := W.ob
  exact ne_of W.tup hw (by intro z; cases z)
/-- another heap -/
theorem PW.to {H H' : Hp} {w t : Addr} {ts : List Str} {s s' : S} (W : PW H w t ts s) (b : But w H H') {sv : V} (hw : H' w = some (.dK (pK t s'.at_ sv s'.parts s'.heard s'.last))) (hs : decide (sv = .non) = !s'.stop) (le : s'.at_ ≤ ts.length) : PW H' w t ts s' :=
  ⟨⟨sv, hw, hs⟩, b _ _ W.tup W.ne, le, W.tk, W.sz⟩
/-- nothing of it changed -/
theorem PW.same {H H' : Hp} {w t : Addr} {ts : List Str} {s : S} (W : PW H w t ts s) (b : Same H H') : PW H' w t ts s := by
  obtain ⟨sv, hw, hs⟩ := W.ob
  exact W.to (But.of b) (b _ _ hw) hs W.le
/-- something else was written -/
theorem PW.other {H : Hp} {w t p : Addr} {ts : List Str} {s : S} {o : HO} (W : PW H w t ts s) (hw : p ≠ w) (ht : p ≠ t) : PW (upd H p o) w t ts s := by
  obtain ⟨sv, h, hs⟩ := W.ob
  exact ⟨⟨sv, by rw [upd_ne hw.symm]; exact h, hs⟩, by rw [upd_ne ht.symm]; exact W.tup, W.le, W.tk, W.sz⟩
theorem flat_strs : ∀ ws : List Str, (ws.map V.str).all flatV = true
  | [] => rfl
  | _ :: r => by
    rw [List.map_cons, List.all_cons, flat_strs r]
    rfl
theorem inV_strs (t : Str) : ∀ ws : List Str, inV (.str t) (ws.map V.str) = inW t ws
  | [] => rfl
  | a :: r => by
    have ih := inV_strs t r
    unfold inV inW at ih ⊢
    rw [List.map_cons, List.any_cons, List.any_cons, ih]
    rfl
/-- what a number's token is worth -/
theorem allDig_digits {t : Str} (h : allDig t = true) : PySem.NumText.AllDigits t.cps.toList := fun c hc => by
  have q := List.all_eq_true.mp h c hc
  unfold isDig at q
  rw [Bool.and_eq_true] at q
  exact ⟨of_decide_eq_true q.1, of_decide_eq_true q.2⟩
theorem int_of {t : Str} (h : allDig t = true) (ht : Tk t) : PySem.intText? t = some ((digVal t.cps.toList : Nat) : Int) :=
  PySem.intText_digits (allDig_digits h) ht.1 (Nat.le_trans ht.len (by decide))
theorem num_of {t : Str} (h : okNum t = true) (h5 : t.cps.toList.length ≤ 5) : num t = some ((digVal t.cps.toList : Nat) : Int) := by
  unfold okNum at h
  unfold num
  rw [h, decide_eq_true h5]
  rfl
theorem num_not {t : Str} (h : ¬ (okNum t = true ∧ t.cps.toList.length ≤ 5)) : num t = none := by
  unfold num
  rw [if_neg]
  intro z
  rw [Bool.and_eq_true] at z
  exact h ⟨z.1, of_decide_eq_true z.2⟩
theorem okNum_dig {t : Str} (h : okNum t = true) : allDig t = true := by
  unfold okNum at h
  rw [Bool.and_eq_true] at h
  exact h.1
/-- int(token) of a token that writes a number -/
theorem int_num {t : Str} {n : Int} (h : num t = some n) (ht : Tk t) : PySem.intText? t = some n := by
  by_cases c : okNum t = true ∧ t.cps.toList.length ≤ 5
  · rw [num_of c.1 c.2] at h
    rw [int_of (okNum_dig c.1) ht, h]
  · rw [num_not c] at h
    cases h
theorem num_ok {t : Str} : (num t).isSome = true → okNum t = true := fun h => by
  by_cases c : okNum t = true ∧ t.cps.toList.length ≤ 5
  · exact c.1
  · rw [num_not c] at h
    cases h
def optV : Option Str → V
  | none => .non
  | some t => .str t
def spTaken (K : PySem.W.Frag) : Sp := fun vs H Q _ => ∃ (w t : Addr) (ts : List Str) (s : S) (u : Addr) (ws : List Str) (lo hi : Int), vs = [.ref w, .ref u, .int lo, .int hi] ∧ PW H w t ts s ∧ SqT K H u (ws.map V.str) ∧
  ∀ H', But w H H' → PW H' w t ts (eat ts ws lo hi s).2 → Q (optV (eat ts ws lo hi s).1) H'
section
variable {P : Program} {w : World} {K : PySem.W.Frag} {mg : Str → Option Value} {base : Heap}
abbrev nTK : List Str := ["world", "words", "low", "high", "token", "fits"]
abbrev pTK : List Str := ["world", "words", "low", "high"]
theorem scTK : FnScope nTK pTK (defScope sTaken) := ⟨rfl, rfl, rfl, by decide +kernel, rfl, by decide +kernel, by decide +kernel⟩
theorem ok_taken {f fI : Addr} {fd fdI : FuncData} (F : Fun K "taken" "taken" sTaken f fd) (B : Bl mg) (DI : Df K mg "is_numeral" sIsNumeral ["token"] fI fdI) (GI : FnOk P w K mg base CX0 1 fI fdI ["token"] spIsNumeral) :
    FnOk P w K mg base CX0 2 f fd pTK (spTaken K) := by
  refine F.ok scTK (fun vs H Q E h => ?_) (fun cdv A outer s0 H vs Q E hr h => ?_)
  · obtain ⟨_, _, _, _, _, _, _, _, rfl, _⟩ := h
    rfl
  obtain ⟨w, t, ts, s, u, ws, lo, hi, rfl, W, hws, q⟩ := h
  have hu := hu_of hr
  refine ⟨_, pss_cons (ps_if (pt_cmpR op_notN (pe_dget hu (pv 0) pe_str (fun _ _ => rfl)) pe_non (nomark _)) (pss_one (ps_ret pe_non)) pss_nil)
    (pss_cons (ps_if (pt_cmpR op_eq (pe_dget hu (pv 0) pe_str (fun _ _ => rfl)) (pe_callB call_len_seq (by rfl) B.len PySem.boot_len (pa_cons (pe_dget hu (pv 0) pe_str (fun _ _ => rfl)) pa_nil)) (nomark _))
      (pss_cons (ps_dput hu (pv 0) pe_str (pe_tup (pa_cons (pv 1) (pa_cons (pv 2) (pa_cons (pv 3) pa_nil)))) rfl) (pss_one (ps_ret pe_non))) pss_nil)
    (pss_cons (ps_set (i := 4) scTK.nd rfl (.inl rfl) (pe_ix ix_tup (pe_dget hu (pv 0) pe_str (fun _ _ => rfl)) (pe_dget hu (pv 0) pe_str (fun _ _ => rfl)) (fun _ _ => rfl)))
    (pss_cons (ps_set (i := 5) scTK.nd rfl (.inl rfl) (pe_cmpR op_in_seq (pv 4) (pv 1) (by rfl)))
    (Evl.pss_cut (ps_if (L2.PW.pt (pw_and (pt_not (pt_val (pv 5))) (pw_and (pt_val (pe_call GI hr (by rfl) DI.g DI.kp DI.b .nil pass0 (pa_cons (pv 4) pa_nil)))
        (pw_and1 (pt_cmpR op_lt (pe_callB call_len_str (by rfl) B.len PySem.boot_len (pa_cons (pv 4) pa_nil)) pe_int (nomark _))))))
      (pss_one (ps_set (i := 5) scTK.nd rfl (.inl rfl) (pe_chain op_le op_le (pv 2) (pe_callTy call_int_str (by rfl) B.int (by decide +kernel) (pa_cons (pv 4) pa_nil)) (pv 3)))) pss_nil)
    (pss_cons (ps_if (pt_not (pt_val (pv 5))) (pss_cons (ps_dput hu (pv 0) pe_str (pe_tup pa_nil) rfl) (pss_one (ps_ret pe_non))) pss_nil)
    (pss_cons (ps_dput hu (pv 0) pe_str (pe_op op_add (pe_dget hu (pv 0) pe_str (fun _ _ => rfl)) pe_int) rfl)
    (pss_one (ps_ret (pv 4))))))))), ?_⟩
  obtain ⟨sv, hw, hs⟩ := W.ob
  -- if world['stop'] is not None
  refine ⟨_, rfl, w, sv, rfl, pg_stop hw, rfl, _, rfl, ?_⟩
  cases hst : s.stop with
  | true =>
    rw [hst] at hs
    refine ifT (by rw [hs]; rfl) ?_
    have e := eat_stop (ts := ts) (ws := ws) (lo := lo) (hi := hi) hst
    rw [e] at q
    exact q H (But.refl H) W
  | false =>
  rw [hst] at hs
  refine ifF (by rw [hs]; rfl) ?_
  -- if world['at'] == len(world['tokens'])
  refine ⟨_, rfl, w, _, rfl, pg_at hw, _, rfl, w, _, rfl, pg_tokens hw, t, _, rfl, .inr (SqT.of W.tup), rfl, _, rfl, ?_⟩
  rw [List.length_map]
  by_cases hat : s.at_ = ts.length
  · refine ifT (decide_eq_true (by rw [hat])) ?_
    have e := eat_none (ts := ts) (ws := ws) (lo := lo) (hi := hi) hst (by rw [hat]; exact List.getElem?_eq_none (Nat.le_refl _))
    rw [e] at q
    refine ⟨_, rfl, _, rfl, _, rfl, (by show 3 ≤ sizeLine; decide), fun p hp => ?_⟩
    have nwp : w ≠ p := ne_of_none hw hp
    have hw' : upd H p (.tup [.ref u, .int lo, .int hi]) w = some (.dK (pK t s.at_ sv s.parts s.heard s.last)) := by rw [upd_ne nwp]; exact hw
    refine ⟨_, rfl, w, _, rfl, pp_stop hw' (.ref p), ?_⟩
    have b : But w H (upd (upd H p (.tup [.ref u, .int lo, .int hi])) w (.dK (pK t s.at_ (.ref p) s.parts s.heard s.last))) := (But.of (same_new hp _)).trans But.upd
    exact q _ b (W.to b upd_same rfl W.le)
  · refine ifF (decide_eq_false (fun z => hat (by have := V.int.inj z; omega))) ?_
    have hlt : s.at_ < ts.length := Nat.lt_of_le_of_ne W.le hat
    have hg : ts[s.at_]? = some ts[s.at_] := List.getElem?_eq_getElem hlt
    have hgV : (ts.map V.str)[s.at_]? = some (.str ts[s.at_]) := by rw [List.getElem?_map, hg]; rfl
    have hTk : Tk ts[s.at_] := W.tk _ (List.getElem_mem hlt)
    generalize ts[s.at_] = x at hg hgV hTk
    -- token = world['tokens'][world['at']]
    refine ⟨_, rfl, w, _, rfl, pg_tokens hw, _, rfl, w, _, rfl, pg_at hw, t, _, _, _, rfl, rfl, SqT.of W.tup, atI_nat hgV, ?_⟩
    -- fits = token in words
    refine ⟨_, rfl, _, rfl, u, _, rfl, .inr hws, rfl, flat_strs ws, ?_⟩
    rw [if_neg Bool.false_ne_true, inV_strs]
    -- if not fits and is_numeral(token) and len(token) < 6
    refine ⟨fun σ H1 => Same H H1 ∧ σ = [some (.ref w), some (.ref u), some (.int lo), some (.int hi), some (.str x), some (.bl (inW x ws || inR x lo hi))], ?_, ?_⟩
    · refine ⟨_, rfl, inW x ws, rfl, ?_⟩
      cases hin : inW x ws with
      | true => exact ⟨Same.refl H, rfl⟩
      | false =>
        refine ⟨_, rfl, x, rfl, hTk, fun H1 s1 => ?_⟩
        refine ⟨okNum x, rfl, ?_⟩
        cases hok : okNum x with
        | false =>
          have e : inR x lo hi = false := inR_not (num_not (fun z => by rw [hok] at z; exact Bool.noConfusion z.1))
          exact ⟨s1, by rw [e]; rfl⟩
        | true =>
          refine ⟨_, rfl, x, rfl, small (Nat.le_trans hTk.len (by decide)), _, _, rfl, rfl, _, rfl, ?_⟩
          have el : x.length = x.cps.toList.length := Array.length_toList.symm
          by_cases h6 : x.cps.toList.length ≤ 5
          · refine ifT (decide_eq_true (by rw [el]; omega)) ?_
            have hn := num_of hok h6
            have ei : inR x lo hi = (decide (lo ≤ ((digVal x.cps.toList : Nat) : Int)) && decide (((digVal x.cps.toList : Nat) : Int) ≤ hi)) := by
              unfold inR
              rw [hn]
            refine ⟨_, rfl, _, rfl, x, _, rfl, int_num hn hTk, Nat.le_trans hTk.len (by decide) , _, _, rfl, rfl, _, rfl, ?_⟩
            refine if2 (fun h1 => ?_) (fun h1 => ?_)
            · refine ⟨_, rfl, _, _, rfl, rfl, s1, ?_⟩
              rw [ei, h1]
              rfl
            · refine ⟨s1, ?_⟩
              rw [ei, h1]
              rfl
          · refine ifF (decide_eq_false (by rw [el]; omega)) ?_
            have e : inR x lo hi = false := inR_not (num_not (fun z => h6 z.2))
            exact ⟨s1, by rw [e]; rfl⟩
    · rintro σ H1 ⟨s1, rfl⟩
      have hw1 := s1 _ _ hw
      have W1 := W.same s1
      -- if not fits
      refine ⟨_, rfl, inW x ws || inR x lo hi, rfl, ?_⟩
      cases hy : (inW x ws || inR x lo hi) with
      | false =>
        rw [eat_no hst hg hy] at q
        refine ⟨(by show 0 ≤ sizeLine; exact Nat.zero_le _), fun p hp => ?_⟩
        have hw2 : upd H1 p (.tup []) w = some (.dK (pK t s.at_ sv s.parts s.heard s.last)) := by rw [upd_ne (ne_of_none hw1 hp)]; exact hw1
        refine ⟨_, rfl, w, _, rfl, pp_stop hw2 (.ref p), ?_⟩
        have b : But w H (upd (upd H1 p (.tup [])) w (.dK (pK t s.at_ (.ref p) s.parts s.heard s.last))) := ((But.of s1).trans (But.of (same_new hp _))).trans But.upd
        exact q _ b (W.to b upd_same rfl W.le)
      | true =>
        rw [eat_yes hst hg hy] at q
        refine ⟨_, rfl, w, _, rfl, pg_at hw1, _, _, rfl, rfl, _, rfl, w, _, rfl, pp_at hw1 _, ?_⟩
        have b : But w H (upd H1 w (.dK (pK t ((s.at_ : Int) + 1) sv s.parts s.heard s.last))) := (But.of s1).trans But.upd
        exact ⟨_, rfl, q _ b (W.to (s' := { s with at_ := s.at_ + 1 }) b upd_same (by rw [hs, hst]) hlt)⟩
end
end K07

namespace K07
open PySem L2
def spNumeral : Sp := fun vs H Q _ => ∃ (w t : Addr) (ts : List Str) (s : S) (lo hi : Int), vs = [.ref w, .int lo, .int hi] ∧ PW H w t ts s ∧
  ∀ H', But w H H' → PW H' w t ts (number ts lo hi s).2 → Q (.int (number ts lo hi s).1) H'
section
variable {P : Program} {w : World} {K : PySem.W.Frag} {mg : Str → Option Value} {base : Heap}
abbrev nNM : List Str := ["world", "low", "high", "token"]
abbrev pNM : List Str := ["world", "low", "high"]
theorem scNM : FnScope nNM pNM (defScope sNumeral) := ⟨rfl, rfl, rfl, by decide +kernel, rfl, by decide +kernel, by decide +kernel⟩
theorem ok_numeral {f fT : Addr} {fd fdT : FuncData} (F : Fun K "numeral" "numeral" sNumeral f fd) (B : Bl mg) (DT : Df K mg "taken" sTaken pTK fT fdT) (GT : FnOk P w K mg base CX0 2 fT fdT pTK (spTaken K)) :
    FnOk P w K mg base CX0 3 f fd pNM spNumeral := by
  refine F.ok scNM (fun vs H Q E h => ?_) (fun cdv A outer s0 H vs Q E hr h => ?_)
  · obtain ⟨_, _, _, _, _, _, rfl, _⟩ := h
    rfl
  obtain ⟨w, t, ts, s, lo, hi, rfl, W, q⟩ := h
  refine ⟨_, pss_cons (ps_set (i := 3) scNM.nd rfl (.inl rfl) (pe_call GT hr (by rfl) DT.g DT.kp DT.b .nil pass0 (pa_cons (pv 0) (pa_cons (pe_tup pa_nil) (pa_cons (pv 1) (pa_cons (pv 2) pa_nil))))))
    (pss_one (ps_ret (pe_ifExp (pt_cmpR op_isN (pv 3) pe_non (nomark _)) pe_int (pe_callTy call_int_str (by rfl) B.int (by decide +kernel) (pa_cons (pv 3) pa_nil))))), ?_⟩
  refine ⟨_, rfl, (by show 0 ≤ sizeLine; exact Nat.zero_le _), fun p hp => ?_⟩
  refine ⟨_, rfl, _, rfl, w, t, ts, s, p, [], lo, hi, rfl, W.same (same_new hp _), SqT.of upd_same, fun H1 b1 W1 => ?_⟩
  have b : But w H H1 := (But.of (same_new hp _)).trans b1
  have q1 := q H1 b
  unfold number at q1
  cases e : eat ts [] lo hi s with
  | mk o s1 =>
    rw [e] at q1 W1
    cases o with
    | none =>
      refine ⟨_, rfl, rfl, _, rfl, ?_⟩
      exact q1 W1
    | some x =>
      have ex := eat_some e
      have hin : inR x lo hi = true := by simpa [inW_nil] using ex.1
      obtain ⟨n, hn⟩ := inR_num hin
      have hx : x ∈ ts := List.mem_of_getElem? ex.2.2.1
      refine ⟨_, rfl, rfl, _, rfl, ?_⟩
      refine ⟨_, rfl, x, n, rfl, int_num hn (W.tk x hx), Nat.le_trans (W.tk x hx).len (by decide), ?_⟩
      have q2 := q1 W1
      simp only [hn] at q2
      exact q2
end
end K07

namespace K07
open PySem L2
/-! ### the module's constants -/
structure Cst (K : PySem.W.Frag) (w : World) (mg : Str → Option Value) : Prop where
  most : ∃ t, mg "MOST" = some (.int 1001 t)
  branches : ∃ t, mg "MOST_BRANCHES" = some (.int 12 t)
  parts : ∃ t, mg "MOST_PARTS" = some (.int 60 t)
  deep : ∃ t, mg "MOST_DEEP" = some (.int 8 t)
  row : ∃ t, mg "MOST_ROW" = some (.int 64 t)
  houses : ∃ t, mg "MOST_HOUSES" = some (.int 20 t)
  signs : ∃ t, mg "WORD_SIGNS" = some (.str "abcdefghijklmnopqrstuvwxyzABCDEFGHIJKLMNOPQRSTUVWXYZ0123456789_" t)
  lists : ∃ a, mg "LISTS" = some (.ref a) ∧ ∀ H, SqT K H a (LISTS.map V.str)
  numd : ∃ a, mg "NUMBERED" = some (.ref a) ∧ (∃ es n, K.lookup a = some ⟨.type "dict", none, .dict es n, #[]⟩ ∧ (a == sysModules) = false ∧ es.size ≤ 1000 ∧ Vals (ONES.map V.str) (es.toList.map (·.key))) ∧
    ∀ x ∈ ["times", "part", "clip", "from", "bar", "row"], KDct K w a (Str.ofString x) (.int (many (Str.ofString x) : Int))
theorem rvI {i : Int} {t : Tok} : RelV (.int i) (.int i t) := ⟨t, rfl⟩
theorem rvS {x : Str} {t : Tok} : RelV (.str x) (.str x t) := ⟨t, rfl⟩
theorem rvR {a : Addr} : RelV (.ref a) (.ref a) := rfl
/-! ### a star before a written dict: its keys -/
/-- the dict at d, written; its keys -/
def KKeys (K : PySem.W.Frag) (d : Addr) (ks : List V) : Prop :=
  ∃ es n, K.lookup d = some ⟨.type "dict", none, .dict es n, #[]⟩ ∧ (d == sysModules) = false ∧ es.size ≤ 1000 ∧ Vals ks (es.toList.map (·.key))
section
variable {X : Cx} {pins : List (Addr × Obj)} {σ : L2.St} {H : Hp} {s : Shared}
theorem star_kd (hc : X.calm = true) {d : Addr} {ks : List V} {E : Value → Shared → Prop} {Q : List Value → Shared → Prop} (I : Inv X pins σ H s) (h : KKeys X.K d ks)
    (hQ : ∀ us s', Inv X pins σ H s' → Vals ks us → Q us s') : PySem.W.StarOf (model X.prog X.w) X.A E (.ref d) Q s := by
  obtain ⟨es, n, hl, lo, sz, hk⟩ := h
  have hm : s.heap.DictRaw d es n := ⟨_, I.kIn _ _ hl, ⟨rfl, rfl, rfl⟩, rfl⟩
  have hT : s.TypeIs (.ref d) "dict" := hm.typeIs
  unfold PySem.W.StarOf notIterableAtAll
  refine wpAny_bind (wpAny_specialOf hT PySem.F.slot_dict_iter.lookup (wpAny_pure ⟨rfl, ?_⟩))
  refine PySem.W.kdu_collect (KdlSrc.rawDict lo) (I.ok.hd hc) hm (small sz) fun h' tk acc keep items => ?_
  refine hQ _ _ (I.kept (t' := tk) keep) ?_
  have e : acc.toList = es.toList.map (·.key) := by
    refine List.ext_getElem? fun i => ?_
    rw [List.getElem?_map, Array.getElem?_toList, Array.getElem?_toList]
    by_cases hi : i < es.size
    · have hi' : i < acc.size := by rw [items.1]; exact hi
      obtain ⟨_, q⟩ := items.2 i acc[i] (Array.getElem?_eq_getElem hi')
      rw [Array.getElem?_eq_getElem hi', Array.getElem?_eq_getElem hi, q]
      rfl
    · have hi' : ¬ i < acc.size := by rw [items.1]; exact hi
      rw [Array.getElem?_eq_none (by omega), Array.getElem?_eq_none (by omega)]
      rfl
  rw [e]
  exact hk
def tStarD (K : PySem.W.Frag) (te : TE) (t : TA) : TA := fun σ H Q => te σ H fun x F => ∃ d ks, x = V.ref d ∧ KKeys K d ks ∧ t σ F fun ys G => Q (ks ++ ys) G
theorem pa_starD {e : Expr} {p : Pos} {es : List Expr} {te : TE} {t : TA} (hc : X.calm = true) (he : PE X e te) (hr : PA X es t) (hs : starEach (.Starred e p :: es) X.env = (true, eval e X.env) :: starEach es X.env := by rfl) :
    PA X (.Starred e p :: es) (tStarD X.K te t) := by
  refine ⟨fun pos pins s σ H Q I h => ?_⟩
  refine PySem.W.items_star (thn (he.run pins s σ H _ I h) fun v s1 z => ?_) hs
  obtain ⟨y, F, I1, ry, d, ks, ey, hx, q⟩ := z
  subst ey
  obtain rfl : v = Value.ref d := ry
  refine star_kd hc I1 hx fun us s2 I2 rv => ?_
  refine thn (hr.run pos pins s2 σ F _ I2 q) fun ws s3 z => ?_
  obtain ⟨vs, G, I3, r3, q3⟩ := z
  exact ⟨ks ++ vs, G, I3, rv.append r3, q3⟩
end
/-! ### words_let -/
def spWordsLet : Sp := fun vs H Q _ => ∃ (w t : Addr) (ts : List Str) (s : S) (d : Nat), vs = [.ref w, .int (d : Int)] ∧ PW H w t ts s ∧
  ∀ H' p, Same H H' → H' p = some (.tup ((ruleWords s d).map V.str)) → Q (.ref p) H'
section
variable {P : Program} {w : World} {K : PySem.W.Frag} {mg : Str → Option Value} {base : Heap}
abbrev nWL : List Str := ["world", "deep", "room", "found"]
abbrev pWL : List Str := ["world", "deep"]
theorem scWL : FnScope nWL pWL (defScope sWordsLet) := ⟨rfl, rfl, rfl, by decide +kernel, rfl, by decide +kernel, by decide +kernel⟩
theorem ok_wordsLet {f : Addr} {fd : FuncData} (F : Fun K "words_let" "words_let" sWordsLet f fd) (B : Bl mg) (C : Cst K w mg) : FnOk P w K mg base CX0 1 f fd pWL spWordsLet := by
  refine F.ok scWL (fun vs H Q E h => ?_) (fun cdv A outer s0 H vs Q E hr h => ?_)
  · obtain ⟨_, _, _, _, _, rfl, _⟩ := h
    rfl
  obtain ⟨w, t, ts, s, d, rfl, W, q⟩ := h
  have hu := hu_of hr
  obtain ⟨_, cP⟩ := C.parts
  obtain ⟨_, cB⟩ := C.branches
  obtain ⟨aL, cL, sL⟩ := C.lists
  obtain ⟨aN, cN, kN, _⟩ := C.numd
  refine ⟨_, Evl.pss_cut (ps_set (i := 2) scWL.nd rfl (.inl rfl) (pe_ifExp (pt_cmpR op_gt (pv 1) pe_int (nomark _)) (pe_op op_sub (pe_glob rfl cP rvI) (pe_dget hu (pv 0) pe_str (fun _ _ => rfl))) pe_int))
    (Evl.pss_cut (ps_set (i := 3) scWL.nd rfl (.inl rfl) (pe_ifExp (pt_cmpR op_lt (pe_dget hu (pv 0) pe_str (fun _ _ => rfl)) (pe_glob rfl cB rvI) (nomark _)) (pe_lst (pa_cons pe_str pa_nil)) (pe_lst pa_nil)))
    (Evl.pss_cut (ps_if (pt_cmpR op_gt (pv 2) pe_int (nomark _))
      (pss_one (ps_expr (pe_bm PySem.F.plainAttrs_list PySem.F.slot_list_extend PySem.F.type_list_extend mt_extend (pv 3) (pa_cons (pe_lst (StX.pa_star (pe_glob rfl cL rvR) (pa_starD rfl (pe_glob rfl cN rvR) pa_nil))) pa_nil)))) pss_nil)
    (Evl.pss_cut (ps_if (pt_cmpR op_gt (pv 2) pe_int (nomark _))
      (pss_one (ps_expr (pe_bm PySem.F.plainAttrs_list PySem.F.slot_list_append PySem.F.type_list_append mt_append (pv 3) (pa_cons pe_str pa_nil)))) pss_nil)
    (pss_one (ps_ret (pe_callTy call_tuple_of (by rfl) B.tuple (by decide +kernel) (pa_cons (pv 3) pa_nil))))))), ?_⟩
  obtain ⟨sv, hw, hs⟩ := W.ob
  have hg : decide ((1 : Int) < (d : Int)) = decide (1 < d) := by
    by_cases c : 1 < d
    · rw [decide_eq_true c, decide_eq_true (by omega)]
    · rw [decide_eq_false c, decide_eq_false (by omega)]
  -- room
  refine ⟨fun σ F => H = F ∧ σ = [some (.ref w), some (.int (d : Int)), some (.int (if 1 < d then 60 - (s.parts : Int) else 0)), none], ?_, ?_⟩
  · refine ⟨_, rfl, _, _, rfl, rfl, _, rfl, if2 (fun c => ?_) (fun c => ?_)⟩
    · have c' : 1 < d := by have := of_decide_eq_true c; omega
      refine ⟨_, rfl, w, _, rfl, pg_parts hw, _, _, rfl, rfl, rfl, ?_⟩
      rw [if_pos c']
      rfl
    · have c' : ¬ 1 < d := by have := of_decide_eq_false c; omega
      refine ⟨rfl, ?_⟩
      rw [if_neg c']
      rfl
  rintro σ F ⟨rfl, rfl⟩
  -- found
  refine ⟨fun σ G => ∃ p, H p = none ∧ Same H G ∧ G p = some (.lst ((if s.heard < 12 then OFW else []).map V.str)) ∧
    σ = [some (.ref w), some (.int (d : Int)), some (.int (if 1 < d then 60 - (s.parts : Int) else 0)), some (.ref p)], ?_, ?_⟩
  · refine ⟨_, rfl, w, _, rfl, pg_heard hw, _, _, rfl, rfl, _, rfl, if2 (fun c => ?_) (fun c => ?_)⟩
    · refine ⟨by show 1 ≤ sizeLine; exact small (by decide), fun p hp => ⟨p, hp, same_new hp _, ?_, rfl⟩⟩
      rw [upd_same, if_pos (of_decide_eq_true c)]
      rfl
    · refine ⟨Nat.zero_le _, fun p hp => ⟨p, hp, same_new hp _, ?_, rfl⟩⟩
      rw [upd_same, if_neg (of_decide_eq_false c)]
      rfl
  rintro σ G ⟨p, hp, sm, hG, rfl⟩
  -- if room > 0
  refine ⟨fun σ G' => Same H G' ∧ G' p = some (.lst (((if s.heard < 12 then OFW else []) ++ (if 1 < d ∧ s.parts < 60 then LISTS ++ ONES else [])).map V.str)) ∧
    σ = [some (.ref w), some (.int (d : Int)), some (.int (if 1 < d then 60 - (s.parts : Int) else 0)), some (.ref p)], ?_, ?_⟩
  · refine ⟨_, rfl, _, _, rfl, rfl, _, rfl, if2 (fun c => ?_) (fun c => ?_)⟩
    · have c' : 1 < d ∧ s.parts < 60 := by
        have z := of_decide_eq_true c
        by_cases z1 : 1 < d
        · rw [if_pos z1] at z
          exact ⟨z1, by omega⟩
        · rw [if_neg z1] at z
          exact absurd z (by decide)
      refine ⟨_, rfl, .inl ⟨rfl, _, SqL.of hG⟩, aL, _, rfl, .inl (sL _), aN, _, rfl, kN, by show 9 ≤ sizeLine; exact small (by decide), fun r hr' => ?_⟩
      have npr : p ≠ r := ne_of_none hG hr'
      refine ⟨p, r, _, _, rfl, rfl, by rw [upd_ne npr]; exact hG, upd_same, ?_, ?_, ?_, rfl⟩
      · refine small ?_
        rw [List.length_map]
        have : (if s.heard < 12 then OFW else []).length ≤ 1 := by split <;> decide
        have e : (LISTS.map V.str ++ (ONES.map V.str ++ [])).length = 9 := by decide
        omega
      · exact fun b o z => by rw [upd_ne (ne_of_none z hp), upd_ne (ne_of_none (sm _ _ z) hr')]; exact sm _ _ z
      · rw [upd_same, if_pos c', List.map_append, List.map_append, List.append_nil]
    · refine ⟨sm, ?_, rfl⟩
      have c' : ¬ (1 < d ∧ s.parts < 60) := fun z => by
        have z2 := of_decide_eq_false c
        rw [if_pos z.1] at z2
        omega
      rw [if_neg c', List.append_nil]
      exact hG
  rintro σ G' ⟨sm', hG', rfl⟩
  -- if room > 2
  refine ⟨fun σ G2 => Same H G2 ∧ G2 p = some (.lst ((ruleWords s d).map V.str)) ∧
    σ = [some (.ref w), some (.int (d : Int)), some (.int (if 1 < d then 60 - (s.parts : Int) else 0)), some (.ref p)], ?_, ?_⟩
  · refine ⟨_, rfl, _, _, rfl, rfl, _, rfl, if2 (fun c => ?_) (fun c => ?_)⟩
    · have c' : 1 < d ∧ s.parts < 58 := by
        have z := of_decide_eq_true c
        by_cases z1 : 1 < d
        · rw [if_pos z1] at z
          exact ⟨z1, by omega⟩
        · rw [if_neg z1] at z
          exact absurd z (by decide)
      refine ⟨_, rfl, .inl ⟨rfl, _, SqL.of hG'⟩, p, _, _, rfl, rfl, hG', ?_, ?_, ?_, rfl⟩
      · refine small1000 ?_
        rw [List.length_map, List.length_append]
        have e1 : (if s.heard < 12 then OFW else []).length ≤ 1 := by split <;> decide
        have e2 : (if 1 < d ∧ s.parts < 60 then LISTS ++ ONES else []).length ≤ 9 := by split <;> decide
        omega
      · exact fun b o z => by rw [upd_ne (ne_of_none z hp)]; exact sm' _ _ z
      · rw [upd_same]
        unfold ruleWords
        rw [if_pos c', List.map_append (l₂ := MIDW)]
        rfl
    · refine ⟨sm', ?_, rfl⟩
      have c' : ¬ (1 < d ∧ s.parts < 58) := fun z => by
        have z2 := of_decide_eq_false c
        rw [if_pos z.1] at z2
        omega
      unfold ruleWords
      rw [if_neg c', List.append_nil]
      exact hG'
  rintro σ G2 ⟨sm2, hG2, rfl⟩
  refine ⟨_, rfl, p, _, rfl, .inl ⟨SqL.of hG2, fun r hr' => ?_⟩⟩
  exact q _ r (fun b o z => by rw [upd_ne (ne_of_none (sm2 _ _ z) hr')]; exact sm2 _ _ z) upd_same
end
end K07

namespace K07
open PySem L2
theorem optV_scal (o : Option Str) (x : Str) : scal (optV o) (.str x) = true := by cases o <;> rfl
theorem dec_str_ne {a b : Str} (h : ¬ a = b) : decide (V.str a = V.str b) = false := decide_eq_false fun z => h (V.str.inj z)
/-! ### read_row -/
def spReadRow : Sp := fun vs H Q _ => ∃ (w t : Addr) (ts : List Str) (s : S), vs = [.ref w] ∧ PW H w t ts s ∧
  ∀ H' v, But w H H' → PW H' w t ts (pRow ts 64 (number ts 0 1000 s).2) → Q v H'
/-- between two turns of read_row's while: on (n turns are left at most), or done -/
def RowW (H : Hp) (w t p : Addr) (ts : List Str) (goal : S) (m : Nat) (σ : L2.St) (G : Hp) : Prop :=
  ∃ (s : S) (sg : V) (xs : List V), σ = [some (.ref w), some (.ref p), some sg] ∧ But w H G ∧ H p = none ∧ p ≠ w ∧ PW G w t ts s ∧ G p = some (.lst xs) ∧ scal sg (.str "(") = true ∧
    ((sg ≠ .str "(" ∧ 1 ≤ m ∧ xs.length + m = 65 ∧ pRow ts m s = goal) ∨ (m = 0 ∧ s = goal ∧ (s.stop = true ∨ sg = .str "(")))
section
variable {P : Program} {w : World} {K : PySem.W.Frag} {mg : Str → Option Value} {base : Heap}
abbrev nRW : List Str := ["world", "found", "sign"]
theorem scRW : FnScope nRW ["world"] (defScope sReadRow) := ⟨rfl, rfl, rfl, by decide +kernel, rfl, by decide +kernel, by decide +kernel⟩
theorem ok_readRow {f fT fN : Addr} {fd fdT fdN : FuncData} (F : Fun K "read_row" "read_row" sReadRow f fd) (B : Bl mg) (C : Cst K w mg) (DT : Df K mg "taken" sTaken pTK fT fdT) (GT : FnOk P w K mg base CX0 2 fT fdT pTK (spTaken K))
    (DN : Df K mg "numeral" sNumeral pNM fN fdN) (GN : FnOk P w K mg base CX0 3 fN fdN pNM spNumeral) : FnOk P w K mg base CX0 4 f fd ["world"] spReadRow := by
  refine F.ok scRW (fun vs H Q E h => ?_) (fun cdv A outer s0 H vs Q E hr h => ?_)
  · obtain ⟨_, _, _, _, rfl, _⟩ := h
    rfl
  obtain ⟨w, t, ts, s, rfl, W, q⟩ := h
  have hu := hu_of hr
  have hr2 : Room 2 _ := hr.mono (by decide)
  obtain ⟨_, cM⟩ := C.most
  obtain ⟨_, cR⟩ := C.row
  refine ⟨_, pss_cons (ps_par (i := 1) (j := 2) rfl scRW.nd rfl rfl (by decide) rfl rfl (pa_cons (pe_lst (pa_cons (pe_call GN hr (by rfl) DN.g DN.kp DN.b .nil pass0 (pa_cons (pv 0) (pa_cons pe_int (pa_cons (pe_op op_sub (pe_glob rfl cM rvI) pe_int) pa_nil)))) pa_nil)) (pa_cons pe_non pa_nil)) (by rfl))
    (pss_cons (ps_while PassesOwn.never (L2.PW.pt (pw_and (pt_cmpR op_isN (pe_dget hu (pv 0) pe_str (fun _ _ => rfl)) pe_non (nomark _)) (pw_and1 (pt_cmpR op_ne (pv 2) pe_str (nomark _)))))
      (Evl.pss_cut (ps_set (i := 2) scRW.nd rfl (.inl rfl) (pe_call GT hr2 (by rfl) DT.g DT.kp DT.b .nil pass0 (pa_cons (pv 0) (pa_cons (pe_tup (pa_cons pe_str pa_nil)) (pa_cons pe_int (pa_cons
          (pe_ifExp (pt_cmpR op_lt (pe_callB call_len_seq (by rfl) B.len PySem.boot_len (pa_cons (pv 1) pa_nil)) (pe_glob rfl cR rvI) (nomark _)) (pe_op op_sub (pe_glob rfl cM rvI) pe_int) (pe_un un_neg pe_int)) pa_nil))))))
      (pss_one (ps_if (L2.PW.pt (pw_and (pt_cmpR op_notN (pv 2) pe_non (nomark _)) (pw_and1 (pt_cmpR op_ne (pv 2) pe_str (nomark _)))))
        (pss_one (ps_expr (pe_bm PySem.F.plainAttrs_list PySem.F.slot_list_append PySem.F.type_list_append mt_append (pv 1) (pa_cons (pe_callTy call_int_str (by rfl) B.int (by decide +kernel) (pa_cons (pv 2) pa_nil)) pa_nil)))) pss_nil))))
    (pss_one (ps_ret (pe_callTy call_tuple_of (by rfl) B.tuple (by decide +kernel) (pa_cons (pv 1) pa_nil))))), ?_⟩
  -- the first number
  refine ⟨_, rfl, _, _, rfl, rfl, w, t, ts, s, 0, 1000, rfl, W, fun H1 b1 W1 => ?_⟩
  refine ⟨(by show 1 ≤ sizeLine; exact small (by decide)), fun p hp => ⟨_, _, rfl, ?_⟩⟩
  obtain ⟨sv1, hw1, _⟩ := W1.ob
  have npw : p ≠ w := (ne_of_none hw1 hp).symm
  have hp0 : ∀ F : Hp, But w F H1 → F p = none := fun F b => by
    cases e : F p with
    | none => rfl
    | some o => rw [b _ _ e npw] at hp; cases hp
  refine ⟨RowW H w t p ts (pRow ts 64 (number ts 0 1000 s).2), ⟨64, (number ts 0 1000 s).2, .non, _, rfl, b1.trans (But.of (same_new hp _)), hp0 H b1, npw, W1.same (same_new hp _), upd_same, rfl, .inl ⟨by decide, by decide, rfl, rfl⟩⟩, ?_⟩
  rintro m σ G ⟨s', sg, xs, rfl, bG, hpH, _, WG, hG, hsc, ww⟩
  obtain ⟨sv, hwG, hsG⟩ := WG.ob
  -- the while's end
  have fin : s' = pRow ts 64 (number ts 0 1000 s).2 → tRet (tCB (fun xs H Q => ∃ p ys, xs = [V.ref p] ∧ ((SqL K H p ys ∧ ∀ l, H l = none → Q (.ref l) (upd H l (.tup ys))) ∨ (SqT K H p ys ∧ Q (.ref p) H))) (tCons (tVar 1) tNil))
      { nx := fun _ H' => Q .non H', rt := Q } [some (.ref w), some (.ref p), some sg] G := fun e => by
    refine ⟨_, rfl, p, _, rfl, .inl ⟨SqL.of hG, fun r hr' => ?_⟩⟩
    refine q _ _ (bG.trans (But.of (same_new hr' _))) ?_
    rw [← e]
    exact WG.same (same_new hr' _)
  refine ⟨_, rfl, w, _, rfl, pg_stop hwG, rfl, _, rfl, ?_⟩
  rw [hsG]
  cases hst : s'.stop with
  | true =>
    refine ifF rfl ?_
    refine ifF rfl (fin ?_)
    rcases ww with ⟨_, h1, _, e⟩ | ⟨_, e, _⟩
    · obtain ⟨k, rfl⟩ : ∃ k, m = k + 1 := ⟨m - 1, by omega⟩
      rw [← e]
      unfold pRow
      rw [if_pos hst]
    · exact e
  | false =>
    refine ifT rfl ?_
    refine ⟨_, rfl, hsc, _, rfl, ?_⟩
    by_cases hsg : sg = .str "("
    · refine ifF (by rw [hsg]; rfl) (fin ?_)
      rcases ww with ⟨h, _⟩ | ⟨_, e, _⟩
      · exact absurd hsg h
      · exact e
    · refine ifT (by rw [decide_eq_false hsg]; rfl) ?_
      rcases ww with ⟨_, h1, hl, e⟩ | ⟨_, _, e | e⟩
      rotate_left
      · rw [hst] at e; cases e
      · exact absurd e hsg
      obtain ⟨k, rfl⟩ : ∃ k, m = k + 1 := ⟨m - 1, by omega⟩
      refine ⟨_, fun _ _ z => z, ?_⟩
      -- sign = taken(..)
      refine ⟨fun τ G1 => ∃ o s1, eat ts ["("] 0 (if k = 0 then -1 else 1000) s' = (o, s1) ∧ τ = [some (.ref w), some (.ref p), some (optV o)] ∧ But w G G1 ∧ PW G1 w t ts s1, ?_, ?_⟩
      · have step : ∀ (r : Addr) (hi : Int), G r = none → hi = (if k = 0 then -1 else 1000) → spTaken K [.ref w, .ref r, .int 0, .int hi] (upd G r (.tup [.str "("])) (fun x G1 => ∃ o s1, eat ts ["("] 0 (if k = 0 then -1 else 1000) s' = (o, s1) ∧
            [some (V.ref w), some (.ref p), some x] = [some (V.ref w), some (.ref p), some (optV o)] ∧ But w G G1 ∧ PW G1 w t ts s1) E0 := fun r hi hr' ehi => by
          refine ⟨w, t, ts, s', r, ["("], 0, hi, rfl, WG.same (same_new hr' _), SqT.of upd_same, fun G1 b W2 => ?_⟩
          rw [ehi] at W2 ⊢
          exact ⟨_, _, rfl, rfl, (But.of (same_new hr' _)).trans b, W2⟩
        refine ⟨_, rfl, small (by decide), fun r hr' => ?_⟩
        have npr : p ≠ r := ne_of_none hG hr'
        refine ⟨_, rfl, p, _, rfl, .inl (SqL.of (by rw [upd_ne npr]; exact hG)), _, _, rfl, rfl, _, rfl, if2 (fun c => ?_) (fun c => ?_)⟩
        · have c' := of_decide_eq_true c
          exact ⟨_, _, rfl, rfl, step r _ hr' (by rw [if_neg (by omega)]; rfl)⟩
        · have c' := of_decide_eq_false c
          exact ⟨_, rfl, step r _ hr' (by rw [if_pos (by omega)])⟩
      rintro τ G1 ⟨o, s1, eo, rfl, b2, W2⟩
      have b3 : But w H G1 := bG.trans b2
      have hG1 := b2 _ _ hG npw
      have ep : pRow ts (k + 1) s' = (match (o, s1) with
        | (none, s1) => s1
        | (some t, s1) => if t = "(" then s1 else pRow ts k s1) := by
        rw [← eo]
        conv => lhs; unfold pRow
        rw [if_neg (by rw [hst]; exact Bool.false_ne_true)]
        all_goals rfl
      rw [e] at ep
      cases o with
      | none =>
        refine ⟨_, rfl, rfl, _, rfl, ?_⟩
        refine ⟨0, Nat.succ_pos _, s1, .non, xs, rfl, b3, hpH, npw, W2, hG1, rfl, .inr ⟨rfl, ep.symm, .inl (eat_none_stop eo).1⟩⟩
      | some x =>
        refine ⟨_, rfl, rfl, _, rfl, ?_⟩
        refine ⟨_, rfl, rfl, _, rfl, ?_⟩
        by_cases hx : x = "("
        · refine ifF (by rw [hx]; exact (by decide +kernel)) ?_
          have ep' : pRow ts 64 (number ts 0 1000 s).2 = (if x = "(" then s1 else pRow ts k s1) := ep
          rw [if_pos hx] at ep'
          refine ⟨0, Nat.succ_pos _, s1, .str x, xs, rfl, b3, hpH, npw, W2, hG1, rfl, .inr ⟨rfl, ep'.symm, .inr (by rw [hx])⟩⟩
        · refine ifT (by show (!decide (V.str x = V.str "(")) = true; rw [dec_str_ne hx]; rfl) ?_
          have ep' : pRow ts 64 (number ts 0 1000 s).2 = (if x = "(" then s1 else pRow ts k s1) := ep
          rw [if_neg hx] at ep'
          have ex := eat_some eo
          have hin : inR x 0 (if k = 0 then -1 else 1000) = true := by
            have z := ex.1
            rw [inW_one, decide_eq_false hx, Bool.false_or] at z
            exact z
          have hk : 1 ≤ k := by
            by_cases k0 : k = 0
            · rw [if_pos k0, inR_empty] at hin
              cases hin
            · omega
          obtain ⟨n, hn⟩ := inR_num hin
          have hTk : Tk x := WG.tk x (List.mem_of_getElem? ex.2.2.1)
          refine ⟨_, rfl, .inl ⟨rfl, _, SqL.of hG1⟩, _, rfl, x, n, rfl, int_num hn hTk, Nat.le_trans hTk.len (by decide), p, _, _, rfl, rfl, hG1, small1000 (by omega), ?_⟩
          have npt : p ≠ t := ne_of hG1 W2.tup (by intro z; cases z)
          refine ⟨k, Nat.lt_succ_self k, s1, .str x, _, rfl, b3.new hpH, hpH, npw, W2.other npw npt, upd_same, rfl, .inl ⟨fun z => hx (V.str.inj z), hk, ?_, ep'.symm⟩⟩
          rw [List.length_append, List.length_singleton]
          omega
end
end K07

namespace K07
open PySem L2
/-! ### read_numbers -/
def headS (ts : List Str) (x : Str) (s : S) : S := go ts ["("] 0 (-1) (nums ts (decide (x = "clip")) (many x) (lowOf x) s)
def spReadNumbers : Sp := fun vs H Q _ => ∃ (w t : Addr) (ts : List Str) (s : S) (x : Str), vs = [.ref w, .str x] ∧ x ∈ ONES ∧ PW H w t ts s ∧
  ∀ H' r xs, But w H H' → PW H' w t ts (headS ts x s) → H' r = some (.tup xs) → xs.length ≤ 10 → Q (.ref r) H'
theorem many_le (x : Str) : many x ≤ 3 := by
  unfold many
  split
  · decide
  · split
    · decide
    · split <;> decide
theorem clip_low : lowOf "clip" = 0 := by decide +kernel
theorem clip_many : many "clip" = 2 := by decide +kernel
/-- ahead of turn i: the numbers read so far, the least that the next one may be -/
def NumW (H : Hp) (w t p : Addr) (x : Str) (ts : List Str) (goal : S) (i : Nat) (σ : L2.St) (G : Hp) : Prop :=
  ∃ (s : S) (ns : List Int) (low : Int) (y3 y4 : Option V), σ = [some (.ref w), some (.str x), some (.ref p), y3, y4] ∧ But w H G ∧ PW G w t ts s ∧ G p = some (.lst (ns.map V.int)) ∧ ns.length = i ∧
    nums ts (decide (x = "clip")) (many x - i) low s = goal ∧ (x = "clip" → (i = 0 → low = 0) ∧ (i = 1 → ns[0]? = some low)) ∧ (¬ x = "clip" → low = lowOf x)
section
variable {P : Program} {u0 : World} {K : PySem.W.Frag} {mg : Str → Option Value} {base : Heap}
abbrev nRN : List Str := ["world", "word", "found", "turn", "low"]
abbrev pRN : List Str := ["world", "word"]
theorem scRN : FnScope nRN pRN (defScope sReadNumbers) := ⟨rfl, rfl, rfl, by decide +kernel, rfl, by decide +kernel, by decide +kernel⟩
theorem ok_readNumbers {f fT fN : Addr} {fd fdT fdN : FuncData} (F : Fun K "read_numbers" "read_numbers" sReadNumbers f fd) (B : Bl mg) (C : Cst K u0 mg) (DT : Df K mg "taken" sTaken pTK fT fdT) (GT : FnOk P u0 K mg base CX0 2 fT fdT pTK (spTaken K))
    (DN : Df K mg "numeral" sNumeral pNM fN fdN) (GN : FnOk P u0 K mg base CX0 3 fN fdN pNM spNumeral) : FnOk P u0 K mg base CX0 4 f fd pRN spReadNumbers := by
  refine F.ok scRN (fun vs H Q E h => ?_) (fun cdv A outer s0 H vs Q E hr h => ?_)
  · obtain ⟨_, _, _, _, _, rfl, _⟩ := h
    rfl
  obtain ⟨w, t, ts, s, x, rfl, hx, W, q⟩ := h
  have hr2 : Room 2 _ := hr.mono (by decide)
  obtain ⟨_, cM⟩ := C.most
  obtain ⟨aN, cN, _, kN⟩ := C.numd
  refine ⟨_, pss_cons (ps_set (i := 2) scRN.nd rfl (.inl rfl) (pe_lst pa_nil))
    (pss_cons (ps_for PassesOwn.never rfl (pi_range1 rfl B.range (pa_cons (pe_ix ix_kdict (pe_glob rfl cN rvR) (pv 1) (fun _ _ => rfl)) pa_nil)) (pg_name (i := 3) scRN.nd rfl (.inl rfl))
      (Evl.pss_cut (ps_set (i := 4) scRN.nd rfl (.inl rfl) (pe_ifExp (L2.PW.pt (pw_and (pt_cmpR op_eq (pv 1) pe_str (nomark _)) (pw_and1 (pt_cmpR op_eq (pv 3) pe_int (nomark _))))) (pe_ix ix_list (pv 2) pe_int (fun _ _ => rfl))
          (pe_ifExp (pt_cmpR op_eq (pv 1) pe_str (nomark _)) pe_int pe_int)))
      (pss_one (ps_expr (pe_bm PySem.F.plainAttrs_list PySem.F.slot_list_append PySem.F.type_list_append mt_append (pv 2) (pa_cons (pe_call GN hr (by rfl) DN.g DN.kp DN.b .nil pass0 (pa_cons (pv 0) (pa_cons (pv 4) (pa_cons (pe_op op_sub (pe_glob rfl cM rvI) pe_int) pa_nil)))) pa_nil))))))
    (pss_cons (ps_expr (pe_call GT hr2 (by rfl) DT.g DT.kp DT.b .nil pass0 (pa_cons (pv 0) (pa_cons (pe_tup (pa_cons pe_str pa_nil)) (pa_cons pe_int (pa_cons (pe_un un_neg pe_int) pa_nil))))))
    (pss_one (ps_ret (pe_callTy call_tuple_of (by rfl) B.tuple (by decide +kernel) (pa_cons (pv 2) pa_nil)))))), ?_⟩
  -- found = []
  refine ⟨Nat.zero_le _, fun p hp => ?_⟩
  obtain ⟨sv, hw, _⟩ := W.ob
  have npw : p ≠ w := (ne_of_none hw hp).symm
  have npt : p ≠ t := (ne_of_none W.tup hp).symm
  have hK : KDct K u0 aN x (.int (many x : Int)) := by
    simp only [ONES, List.mem_cons, List.not_mem_nil, or_false] at hx
    rcases hx with rfl | rfl | rfl | rfl | rfl | rfl
    all_goals exact kN _ (by decide)
  have hm3 := many_le x
  refine ⟨_, rfl, aN, x, _, rfl, rfl, hK, (many x : Int), rfl, by omega, by omega, ?_⟩
  have e0 : ((many x : Int)).toNat = many x := Int.toNat_natCast _
  rw [e0]
  refine for_range (lo := 0) (n := many x) (NumW H w t p x ts (nums ts (decide (x = "clip")) (many x) (lowOf x) s)) ?_ ?_ ?_
  · exact ⟨s, [], lowOf x, none, none, rfl, But.of (same_new hp _), W.same (same_new hp _), upd_same, rfl, rfl, fun e => ⟨fun _ => by rw [e]; exact clip_low, fun z => absurd z (by decide)⟩, fun _ => rfl⟩
  · rintro i σ G hi ⟨s', ns, low, y3, y4, rfl, bG, WG, hG, hl, e, hc, hn⟩
    have ei : (0 : Int) + (i : Int) = (i : Int) := Int.zero_add _
    -- low = ..
    refine ⟨fun τ G1 => G = G1 ∧ τ = [some (.ref w), some (.str x), some (.ref p), some (.int i), some (.int low)], ?_, ?_⟩
    · rw [ei]
      refine ⟨_, rfl, rfl, _, rfl, ?_⟩
      by_cases cx : x = "clip"
      · refine ifT (by rw [cx]; exact decide_eq_true rfl) ?_
        refine ⟨_, rfl, rfl, _, rfl, ?_⟩
        have hm2 : i < 2 := by rw [cx, clip_many] at hi; exact hi
        by_cases c1 : i = 1
        · refine ifT (by rw [c1]; rfl) ?_
          refine ⟨_, rfl, p, _, _, .int low, rfl, rfl, SqL.of hG, atI_nat (j := 0) ?_, rfl, rfl⟩
          rw [List.getElem?_map, ((hc cx).2 c1)]
          rfl
        · refine ifF (decide_eq_false (fun z => c1 (by have := V.int.inj z; omega))) ?_
          refine ⟨_, rfl, rfl, _, rfl, ?_⟩
          refine ifF (by rw [cx]; exact (by decide +kernel)) ?_
          refine ⟨rfl, ?_⟩
          rw [(hc cx).1 (by omega)]
          rfl
      · refine ifF (by rw [dec_str_ne cx]) ?_
        refine ifF rfl ?_
        refine ⟨_, rfl, rfl, _, rfl, ?_⟩
        have el := hn cx
        unfold lowOf at el
        by_cases cp : x = "part"
        · refine ifT (by rw [cp]; exact decide_eq_true rfl) ?_
          rw [if_pos cp] at el
          refine ⟨rfl, ?_⟩
          rw [el]
          rfl
        · refine ifF (by rw [dec_str_ne cp]) ?_
          rw [if_neg cp] at el
          refine ⟨rfl, ?_⟩
          rw [el]
          rfl
    rintro τ G1 ⟨rfl, rfl⟩
    -- found.append(numeral(..))
    refine ⟨_, rfl, .inl ⟨rfl, _, SqL.of hG⟩, _, rfl, _, rfl, _, _, rfl, rfl, w, t, ts, s', low, 1000, rfl, WG, fun G2 b2 W2 => ?_⟩
    have hG2 := b2 _ _ hG npw
    refine ⟨p, _, _, rfl, rfl, hG2, small1000 (by rw [List.length_map]; omega), ?_⟩
    obtain ⟨k, hk⟩ : ∃ k, many x - i = k + 1 := ⟨many x - i - 1, by omega⟩
    have hk' : many x - (i + 1) = k := by omega
    rw [hk] at e
    refine ⟨_, ns ++ [(number ts low 1000 s').1], (if decide (x = "clip") = true then (number ts low 1000 s').1 else low), _, _, rfl, (bG.trans b2).new hp, W2.other npw npt, ?_, ?_, ?_, ?_, ?_⟩
    · rw [upd_same, List.map_append]
      rfl
    · rw [List.length_append, List.length_singleton, hl]
    · rw [hk']
      exact e
    · intro cx
      refine ⟨fun z => absurd z (by omega), fun z => ?_⟩
      have : ns = [] := List.eq_nil_of_length_eq_zero (by omega)
      rw [this, if_pos (decide_eq_true cx)]
      rfl
    · intro cx
      rw [if_neg (by rw [decide_eq_false cx]; exact Bool.false_ne_true)]
      exact hn cx
  · rintro σ G ⟨s', ns, low, y3, y4, rfl, bG, WG, hG, hl, e, _⟩
    rw [Nat.sub_self] at e
    have e' : s' = nums ts (decide (x = "clip")) (many x) (lowOf x) s := e
    refine ⟨_, rfl, small (by decide), fun r hr' => ?_⟩
    refine ⟨_, rfl, w, t, ts, s', r, ["("], 0, -1, rfl, WG.same (same_new hr' _), SqT.of upd_same, fun G2 b2 W2 => ?_⟩
    have hpr : p ≠ r := ne_of_none hG hr'
    have hG2 : G2 p = some (.lst (ns.map V.int)) := b2 _ _ (by rw [upd_ne hpr]; exact hG) npw
    refine ⟨_, rfl, p, _, rfl, .inl ⟨SqL.of hG2, fun r2 hr2' => ?_⟩⟩
    refine q _ r2 (ns.map V.int) ((bG.trans ((But.of (same_new hr' _)).trans b2)).trans (But.of (same_new hr2' _))) ?_ upd_same (by rw [List.length_map]; omega)
    unfold headS
    rw [← e']
    exact W2.same (same_new hr2' _)
end
end K07

namespace K07
open PySem L2
def spRule (d : Nat) : Sp := fun vs H Q _ => ∃ (w t : Addr) (ts : List Str) (s : S), vs = [.ref w, .int (d : Int)] ∧ 1 ≤ d ∧ PW H w t ts s ∧
  ∀ H' v, But w H H' → PW H' w t ts (pRule ts d s) → Q v H'
def spList (e : Nat) : Sp := fun vs H Q _ => ∃ (w t : Addr) (ts : List Str) (s : S) (x : Str), vs = [.ref w, .str x, .int ((e + 1 : Nat) : Int)] ∧ 1 ≤ e ∧ PW H w t ts s ∧
  ∀ H' v, But w H H' → PW H' w t ts (pLst ts (pRule ts e) s) → Q v H'
def spMiddle (e : Nat) : Sp := fun vs H Q _ => ∃ (w t : Addr) (ts : List Str) (s : S), vs = [.ref w, .int ((e + 1 : Nat) : Int)] ∧ 1 ≤ e ∧ PW H w t ts s ∧
  ∀ H' v, But w H H' → PW H' w t ts (pMid ts (pRule ts e) s) → Q v H'
def spOne (e : Nat) : Sp := fun vs H Q _ => ∃ (w t : Addr) (ts : List Str) (s : S) (x : Str), vs = [.ref w, .str x, .int ((e + 1 : Nat) : Int)] ∧ 1 ≤ e ∧ x ∈ ONES ∧ PW H w t ts s ∧
  ∀ H' v, But w H H' → PW H' w t ts (pOne ts (pRule ts e) x s) → Q v H'
/-- the parts are written -/
theorem PW.parts {H : Hp} {w t : Addr} {ts : List Str} {s : S} (W : PW H w t ts s) (n : Nat) : ∃ G, DPut H w (.str "parts") (.int ((s.parts : Int) + (n : Int))) G ∧ But w H G ∧ PW G w t ts (more n s) := by
  obtain ⟨sv, hw, hs⟩ := W.ob
  exact ⟨_, pp_parts hw _, But.upd, W.to (s' := more n s) But.upd upd_same hs W.le⟩
theorem PW.gparts {H : Hp} {w t : Addr} {ts : List Str} {s : S} (W : PW H w t ts s) : DGet H w (.str "parts") (some (.int (s.parts : Int))) := by
  obtain ⟨sv, hw, hs⟩ := W.ob
  exact pg_parts hw
theorem less_one (e : Nat) : ((e + 1 : Nat) : Int) - 1 = (e : Int) := by omega
/-- between two turns of read_list's while -/
def ListW (H : Hp) (w t p : Addr) (x : Str) (e : Nat) (ts : List Str) (goal : S) (m : Nat) (σ : L2.St) (G : Hp) : Prop :=
  ∃ (s : S) (sg : V) (xs : List V), σ = [some (.ref w), some (.str x), some (.int ((e + 1 : Nat) : Int)), some (.ref p), some sg] ∧ But w H G ∧ PW G w t ts s ∧ G p = some (.lst xs) ∧ xs.length + m ≤ 61 ∧ scal sg (.str ",") = true ∧
    ((sg = .str "," ∧ 60 - s.parts < m ∧ pList ts (pRule ts e) m s = goal) ∨ (s = goal ∧ (s.stop = true ∨ sg ≠ .str ",")))
section
variable {P : Program} {u0 : World} {K : PySem.W.Frag} {mg : Str → Option Value} {base : Heap}
abbrev nRL : List Str := ["world", "word", "deep", "found", "sign"]
abbrev pRL : List Str := ["world", "word", "deep"]
abbrev pRR : List Str := ["world", "deep"]
theorem scRL : FnScope nRL pRL (defScope sReadList) := ⟨rfl, rfl, rfl, by decide +kernel, rfl, by decide +kernel, by decide +kernel⟩
theorem ok_readList {f fT fR : Addr} {fd fdT fdR : FuncData} {e k : Nat} (F : Fun K "read_list" "read_list" sReadList f fd) (B : Bl mg) (C : Cst K u0 mg) (DT : Df K mg "taken" sTaken pTK fT fdT) (GT : FnOk P u0 K mg base CX0 2 fT fdT pTK (spTaken K))
    (DR : Df K mg "read_rule" sReadRule pRR fR fdR) (GR : FnOk P u0 K mg base CX0 k fR fdR pRR (spRule e)) (hk : 4 ≤ k) : FnOk P u0 K mg base CX0 (k + 1) f fd pRL (spList e) := by
  refine F.ok scRL (fun vs H Q E h => ?_) (fun cdv A outer s0 H vs Q E hr h => ?_)
  · obtain ⟨_, _, _, _, _, rfl, _⟩ := h
    rfl
  obtain ⟨w, t, ts, s, x, rfl, he, W, q⟩ := h
  have hu := hu_of hr
  have hr2 : Room 2 _ := hr.mono (by omega)
  obtain ⟨_, cP⟩ := C.parts
  refine ⟨_, pss_cons (ps_expr (pe_call GT hr2 (by rfl) DT.g DT.kp DT.b .nil pass0 (pa_cons (pv 0) (pa_cons (pe_tup (pa_cons pe_str pa_nil)) (pa_cons pe_int (pa_cons (pe_un un_neg pe_int) pa_nil))))))
    (pss_cons (ps_dput hu (pv 0) pe_str (pe_op op_add (pe_dget hu (pv 0) pe_str (fun _ _ => rfl)) pe_int) rfl)
    (pss_cons (ps_par (i := 3) (j := 4) rfl scRL.nd rfl rfl (by decide) rfl rfl (pa_cons (pe_lst (pa_cons (pe_call GR hr (by rfl) DR.g DR.kp DR.b .nil pass0 (pa_cons (pv 0) (pa_cons (pe_op op_sub (pv 2) pe_int) pa_nil))) pa_nil)) (pa_cons pe_str pa_nil)) (by rfl))
    (pss_cons (ps_while PassesOwn.never (L2.PW.pt (pw_and (pt_cmpR op_isN (pe_dget hu (pv 0) pe_str (fun _ _ => rfl)) pe_non (nomark _)) (pw_and1 (pt_cmpR op_eq (pv 4) pe_str (nomark _)))))
      (Evl.pss_cut (ps_set (i := 4) scRL.nd rfl (.inl rfl) (pe_call GT hr2 (by rfl) DT.g DT.kp DT.b .nil pass0 (pa_cons (pv 0) (pa_cons
          (pe_ifExp (pt_cmpR op_lt (pe_dget hu (pv 0) pe_str (fun _ _ => rfl)) (pe_glob rfl cP rvI) (nomark _)) (pe_tup (pa_cons pe_str (pa_cons pe_str pa_nil))) (pe_tup (pa_cons pe_str pa_nil))) (pa_cons pe_int (pa_cons (pe_un un_neg pe_int) pa_nil))))))
      (pss_one (ps_if (pt_cmpR op_eq (pv 4) pe_str (nomark _))
        (pss_cons (ps_dput hu (pv 0) pe_str (pe_op op_add (pe_dget hu (pv 0) pe_str (fun _ _ => rfl)) pe_int) rfl)
        (pss_one (ps_expr (pe_bm PySem.F.plainAttrs_list PySem.F.slot_list_append PySem.F.type_list_append mt_append (pv 3) (pa_cons (pe_call GR hr (by rfl) DR.g DR.kp DR.b .nil pass0 (pa_cons (pv 0) (pa_cons (pe_op op_sub (pv 2) pe_int) pa_nil))) pa_nil))))) pss_nil))))
    (pss_one (ps_ret (pe_tup (pa_cons (pv 1) (pa_cons (pe_callTy call_tuple_of (by rfl) B.tuple (by decide +kernel) (pa_cons (pv 3) pa_nil)) pa_nil)))))))), ?_⟩
  -- taken(world, ("(",), 0, -1)
  refine ⟨_, rfl, small (by decide), fun r hr' => ⟨_, rfl, w, t, ts, s, r, ["("], 0, -1, rfl, W.same (same_new hr' _), SqT.of upd_same, fun H1 b1 W1 => ?_⟩⟩
  have b1' : But w H H1 := (But.of (same_new hr' _)).trans b1
  -- parts
  obtain ⟨H2, dp, b2, W2⟩ := W1.parts 1
  refine ⟨_, rfl, w, _, rfl, W1.gparts, _, _, rfl, rfl, _, rfl, w, H2, rfl, dp, ?_⟩
  -- the first rule
  refine ⟨_, rfl, _, rfl, _, _, rfl, rfl, w, t, ts, _, congrArg (fun z => [V.ref w, V.int z]) (less_one e), he, W2, fun H3 v3 b3 W3 => ?_⟩
  have b3' : But w H H3 := (b1'.trans b2).trans b3
  refine ⟨(by show 1 ≤ sizeLine; exact small (by decide)), fun p hp => ⟨_, _, rfl, ?_⟩⟩
  have hpH : H p = none := by
    cases e : H p with
    | none => rfl
    | some o =>
      have npw : p ≠ w := by
        obtain ⟨sv, h, _⟩ := W3.ob
        exact (ne_of_none h hp).symm
      rw [b3' _ _ e npw] at hp
      cases hp
  have npw : p ≠ w := by
    obtain ⟨sv, h, _⟩ := W3.ob
    exact (ne_of_none h hp).symm
  have gl : pLst ts (pRule ts e) s = pList ts (pRule ts e) 60 (pRule ts e (more 1 (eat ts ["("] 0 (-1) s).2)) := rfl
  rw [gl] at q
  generalize (eat ts ["("] 0 (-1) s).2 = s1 at q W2 W3
  have gp := pRule_parts (ts := ts) e (more 1 s1)
  have gp' : s1.parts + 1 ≤ (pRule ts e (more 1 s1)).parts := gp
  generalize pRule ts e (more 1 s1) = s3 at q W3 gp'
  refine ⟨ListW H w t p x e ts (pList ts (pRule ts e) 60 s3), ⟨60, s3, .str ",", _, rfl, b3'.trans (But.of (same_new hp _)), W3.same (same_new hp _), upd_same, by show 1 + 60 ≤ 61; decide, rfl, .inl ⟨rfl, by omega, rfl⟩⟩, ?_⟩
  rintro m σ G ⟨s', sg, xs, rfl, bG, WG, hG, hl, hsc, ww⟩
  obtain ⟨sv, hwG, hsG⟩ := WG.ob
  have npt : p ≠ t := ne_of hG WG.tup (by intro z; cases z)
  -- the while's end
  have fin : s' = pList ts (pRule ts e) 60 s3 → tRet (tTup (tCons (tVar 1) (tCons (tCB (fun xs H Q => ∃ p ys, xs = [V.ref p] ∧ ((SqL K H p ys ∧ ∀ l, H l = none → Q (.ref l) (upd H l (.tup ys))) ∨ (SqT K H p ys ∧ Q (.ref p) H))) (tCons (tVar 3) tNil)) tNil)))
      { nx := fun _ H' => Q .non H', rt := Q } [some (.ref w), some (.str x), some (.int ((e + 1 : Nat) : Int)), some (.ref p), some sg] G := fun eq => by
    refine ⟨_, rfl, _, rfl, p, _, rfl, .inl ⟨SqL.of hG, fun r1 hr1 => ?_⟩⟩
    refine ⟨(by show 2 ≤ sizeLine; exact small (by decide)), fun r2 hr2 => ?_⟩
    refine q _ _ ((bG.trans (But.of (same_new hr1 _))).trans (But.of (same_new hr2 _))) ?_
    rw [← eq]
    exact (WG.same (same_new hr1 _)).same (same_new hr2 _)
  refine ⟨_, rfl, w, _, rfl, pg_stop hwG, rfl, _, rfl, ?_⟩
  rw [hsG]
  cases hst : s'.stop with
  | true =>
    refine ifF rfl ?_
    refine ifF rfl (fin ?_)
    rcases ww with ⟨_, h1, e1⟩ | ⟨e1, _⟩
    · obtain ⟨k, rfl⟩ : ∃ k, m = k + 1 := ⟨m - 1, by omega⟩
      rw [← e1]
      unfold pList
      rw [if_pos hst]
    · exact e1
  | false =>
    refine ifT rfl ?_
    refine ⟨_, rfl, hsc, _, rfl, ?_⟩
    by_cases hsg : sg = .str ","
    rotate_left
    · refine ifF (decide_eq_false hsg) (fin ?_)
      rcases ww with ⟨h, _⟩ | ⟨e1, _⟩
      · exact absurd h hsg
      · exact e1
    refine ifT (decide_eq_true hsg) ?_
    rcases ww with ⟨_, hm, e1⟩ | ⟨_, e1 | e1⟩
    rotate_left
    · rw [hst] at e1; cases e1
    · exact absurd hsg e1
    obtain ⟨k, rfl⟩ : ∃ k, m = k + 1 := ⟨m - 1, by omega⟩
    refine ⟨_, fun _ _ z => z, ?_⟩
    -- sign = taken(..)
    refine ⟨fun τ G1 => ∃ o s1, eat ts (if s'.parts < 60 then [",", ")"] else [")"]) 0 (-1) s' = (o, s1) ∧ τ = [some (.ref w), some (.str x), some (.int ((e + 1 : Nat) : Int)), some (.ref p), some (optV o)] ∧ But w G G1 ∧ PW G1 w t ts s1, ?_, ?_⟩
    · have step : ∀ (r : Addr) (ws : List Str), G r = none → ws = (if s'.parts < 60 then ([",", ")"] : List Str) else [")"]) → spTaken K [.ref w, .ref r, .int 0, .int (-1)] (upd G r (.tup (ws.map V.str))) (fun y G1 => ∃ o s1, eat ts (if s'.parts < 60 then [",", ")"] else [")"]) 0 (-1) s' = (o, s1) ∧
          [some (V.ref w), some (.str x), some (.int ((e + 1 : Nat) : Int)), some (.ref p), some y] = [some (.ref w), some (.str x), some (.int ((e + 1 : Nat) : Int)), some (.ref p), some (optV o)] ∧ But w G G1 ∧ PW G1 w t ts s1) E0 := fun r ws hr' ews => by
        refine ⟨w, t, ts, s', r, ws, 0, -1, rfl, WG.same (same_new hr' _), SqT.of upd_same, fun G1 b W2 => ?_⟩
        have b4 := (But.of (w := w) (same_new hr' (.tup (ws.map V.str)))).trans b
        clear b
        subst ews
        exact ⟨_, _, rfl, rfl, b4, W2⟩
      refine ⟨_, rfl, _, rfl, w, _, rfl, pg_parts hwG, _, _, rfl, rfl, _, rfl, if2 (fun c => ?_) (fun c => ?_)⟩
      · have c' : s'.parts < 60 := by have := of_decide_eq_true c; omega
        exact ⟨(by show 2 ≤ sizeLine; exact small (by decide)), fun r hr' => ⟨_, rfl, step r [",", ")"] hr' (by rw [if_pos c'])⟩⟩
      · have c' : ¬ s'.parts < 60 := by have := of_decide_eq_false c; omega
        exact ⟨(by show 1 ≤ sizeLine; exact small (by decide)), fun r hr' => ⟨_, rfl, step r [")"] hr' (by rw [if_neg c'])⟩⟩
    rintro τ G1 ⟨o, s1, eo, rfl, b2, W2⟩
    have hG1 := b2 _ _ hG npw
    have ep : pList ts (pRule ts e) (k + 1) s' = (match (o, s1) with
      | (none, s1) => s1
      | (some t, s1) => if t = "," then pList ts (pRule ts e) k (pRule ts e (more 1 s1)) else s1) := by
      rw [← eo]
      conv => lhs; unfold pList
      rw [if_neg (by rw [hst]; exact Bool.false_ne_true)]
      all_goals rfl
    rw [e1] at ep
    refine ⟨_, rfl, optV_scal _ _, _, rfl, ?_⟩
    by_cases ho : o = some ("," : Str)
    · subst ho
      refine ifT (decide_eq_true rfl) ?_
      have ep' : pList ts (pRule ts e) 60 s3 = (if ("," : Str) = "," then pList ts (pRule ts e) k (pRule ts e (more 1 s1)) else s1) := ep
      rw [if_pos rfl] at ep'
      have ex := eat_some eo
      have hp60 : s'.parts < 60 := by
        by_cases c : s'.parts < 60
        · exact c
        · have z := ex.1
          rw [if_neg c, inR_empty, Bool.or_false, inW_one] at z
          exact absurd (of_decide_eq_true z).symm comma_ne
      have hs1 : s1.parts = s'.parts := by rw [ex.2.2.2]
      obtain ⟨H5, dp5, b5, W5⟩ := W2.parts 1
      refine ⟨_, rfl, w, _, rfl, W2.gparts, _, _, rfl, rfl, _, rfl, w, H5, rfl, dp5, ?_⟩
      have hG5 := b5 _ _ hG1 npw
      refine ⟨_, rfl, .inl ⟨rfl, _, SqL.of hG5⟩, _, rfl, _, rfl, _, _, rfl, rfl, w, t, ts, _, congrArg (fun z => [V.ref w, V.int z]) (less_one e), he, W5, fun H6 v6 b6 W6 => ?_⟩
      have hG6 := b6 _ _ hG5 npw
      have gp6 : s1.parts + 1 ≤ (pRule ts e (more 1 s1)).parts := pRule_parts (ts := ts) e (more 1 s1)
      refine ⟨p, _, _, rfl, rfl, hG6, small1000 (by omega), ?_⟩
      refine ⟨k, Nat.lt_succ_self k, _, .str ",", _, rfl, (((bG.trans b2).trans b5).trans b6).new hpH, W6.other npw npt, upd_same, ?_, rfl, .inl ⟨rfl, by omega, ep'.symm⟩⟩
      rw [List.length_append, List.length_singleton]
      omega
    · have hne : optV o ≠ .str "," := by
        cases o with
        | none => intro z; cases z
        | some y => intro z; exact ho (by rw [V.str.inj z])
      refine ifF (decide_eq_false hne) ?_
      have es : s1 = pList ts (pRule ts e) 60 s3 := by
        rw [ep]
        cases o with
        | none => rfl
        | some y =>
          show s1 = (if y = "," then _ else s1)
          rw [if_neg (fun z => ho (by rw [z]))]
      exact ⟨k, Nat.lt_succ_self k, s1, optV o, xs, rfl, bG.trans b2, W2, hG1, by omega, optV_scal _ _, .inr ⟨es, .inr hne⟩⟩
end
end K07

namespace K07
open PySem L2
/-! ### read_middle, read_one -/
section
variable {P : Program} {u0 : World} {K : PySem.W.Frag} {mg : Str → Option Value} {base : Heap}
abbrev nRM : List Str := ["world", "deep", "first", "second", "third"]
theorem scRM : FnScope nRM pRR (defScope sReadMiddle) := ⟨rfl, rfl, rfl, by decide +kernel, rfl, by decide +kernel, by decide +kernel⟩
theorem ok_readMiddle {f fT fR : Addr} {fd fdT fdR : FuncData} {e k : Nat} (F : Fun K "read_middle" "read_middle" sReadMiddle f fd) (DT : Df K mg "taken" sTaken pTK fT fdT) (GT : FnOk P u0 K mg base CX0 2 fT fdT pTK (spTaken K))
    (DR : Df K mg "read_rule" sReadRule pRR fR fdR) (GR : FnOk P u0 K mg base CX0 k fR fdR pRR (spRule e)) (hk : 4 ≤ k) : FnOk P u0 K mg base CX0 (k + 1) f fd pRR (spMiddle e) := by
  refine F.ok scRM (fun vs H Q E h => ?_) (fun cdv A outer s0 H vs Q E hr h => ?_)
  · obtain ⟨_, _, _, _, rfl, _⟩ := h
    rfl
  obtain ⟨w, t, ts, s, rfl, he, W, q⟩ := h
  have hu := hu_of hr
  have hr2 : Room 2 _ := hr.mono (by omega)
  refine ⟨_, pss_cons (ps_expr (pe_call GT hr2 (by rfl) DT.g DT.kp DT.b .nil pass0 (pa_cons (pv 0) (pa_cons (pe_tup (pa_cons pe_str pa_nil)) (pa_cons pe_int (pa_cons (pe_un un_neg pe_int) pa_nil))))))
    (pss_cons (ps_dput hu (pv 0) pe_str (pe_op op_add (pe_dget hu (pv 0) pe_str (fun _ _ => rfl)) pe_int) rfl)
    (pss_cons (ps_set (i := 2) scRM.nd rfl (.inl rfl) (pe_call GR hr (by rfl) DR.g DR.kp DR.b .nil pass0 (pa_cons (pv 0) (pa_cons (pe_op op_sub (pv 1) pe_int) pa_nil))))
    (pss_cons (ps_expr (pe_call GT hr2 (by rfl) DT.g DT.kp DT.b .nil pass0 (pa_cons (pv 0) (pa_cons (pe_tup (pa_cons pe_str pa_nil)) (pa_cons pe_int (pa_cons (pe_un un_neg pe_int) pa_nil))))))
    (pss_cons (ps_set (i := 3) scRM.nd rfl (.inl rfl) (pe_call GR hr (by rfl) DR.g DR.kp DR.b .nil pass0 (pa_cons (pv 0) (pa_cons (pe_op op_sub (pv 1) pe_int) pa_nil))))
    (pss_cons (ps_expr (pe_call GT hr2 (by rfl) DT.g DT.kp DT.b .nil pass0 (pa_cons (pv 0) (pa_cons (pe_tup (pa_cons pe_str pa_nil)) (pa_cons pe_int (pa_cons (pe_un un_neg pe_int) pa_nil))))))
    (pss_cons (ps_set (i := 4) scRM.nd rfl (.inl rfl) (pe_call GR hr (by rfl) DR.g DR.kp DR.b .nil pass0 (pa_cons (pv 0) (pa_cons (pe_op op_sub (pv 1) pe_int) pa_nil))))
    (pss_cons (ps_expr (pe_call GT hr2 (by rfl) DT.g DT.kp DT.b .nil pass0 (pa_cons (pv 0) (pa_cons (pe_tup (pa_cons pe_str pa_nil)) (pa_cons pe_int (pa_cons (pe_un un_neg pe_int) pa_nil))))))
    (pss_one (ps_ret (pe_tup (pa_cons pe_str (pa_cons (pv 2) (pa_cons (pv 3) (pa_cons (pv 4) pa_nil)))))))))))))), ?_⟩
  refine ⟨_, rfl, small (by decide), fun r1 hr1 => ⟨_, rfl, w, t, ts, s, r1, ["("], 0, -1, rfl, W.same (same_new hr1 _), SqT.of upd_same, fun H1 b1 W1 => ?_⟩⟩
  obtain ⟨H2, dp, b2, W2⟩ := W1.parts 3
  refine ⟨_, rfl, w, _, rfl, W1.gparts, _, _, rfl, rfl, _, rfl, w, H2, rfl, dp, ?_⟩
  refine ⟨_, rfl, _, rfl, _, _, rfl, rfl, w, t, ts, _, congrArg (fun z => [V.ref w, V.int z]) (less_one e), he, W2, fun H3 v3 b3 W3 => ?_⟩
  refine ⟨_, rfl, small (by decide), fun r4 hr4 => ⟨_, rfl, w, t, ts, _, r4, [","], 0, -1, rfl, W3.same (same_new hr4 _), SqT.of upd_same, fun H4 b4 W4 => ?_⟩⟩
  refine ⟨_, rfl, _, rfl, _, _, rfl, rfl, w, t, ts, _, congrArg (fun z => [V.ref w, V.int z]) (less_one e), he, W4, fun H5 v5 b5 W5 => ?_⟩
  refine ⟨_, rfl, small (by decide), fun r6 hr6 => ⟨_, rfl, w, t, ts, _, r6, [","], 0, -1, rfl, W5.same (same_new hr6 _), SqT.of upd_same, fun H6 b6 W6 => ?_⟩⟩
  refine ⟨_, rfl, _, rfl, _, _, rfl, rfl, w, t, ts, _, congrArg (fun z => [V.ref w, V.int z]) (less_one e), he, W6, fun H7 v7 b7 W7 => ?_⟩
  refine ⟨_, rfl, small (by decide), fun r8 hr8 => ⟨_, rfl, w, t, ts, _, r8, [")"], 0, -1, rfl, W7.same (same_new hr8 _), SqT.of upd_same, fun H8 b8 W8 => ?_⟩⟩
  refine ⟨_, rfl, _, rfl, _, rfl, (by show 4 ≤ sizeLine; exact small (by decide)), fun r9 hr9 => ?_⟩
  refine q _ _ ?_ (W8.same (same_new hr9 _))
  exact (((((((((((But.of (same_new hr1 _)).trans b1).trans b2).trans b3).trans (But.of (same_new hr4 _))).trans b4).trans b5).trans (But.of (same_new hr6 _))).trans b6).trans b7).trans ((But.of (same_new hr8 _)).trans b8)).trans (But.of (same_new hr9 _))
abbrev nRO : List Str := ["world", "word", "deep", "numbers", "inner"]
theorem scRO : FnScope nRO pRL (defScope sReadOne) := ⟨rfl, rfl, rfl, by decide +kernel, rfl, by decide +kernel, by decide +kernel⟩
theorem ok_readOne {f fT fR fW fN : Addr} {fd fdT fdR fdW fdN : FuncData} {e k : Nat} (F : Fun K "read_one" "read_one" sReadOne f fd) (DT : Df K mg "taken" sTaken pTK fT fdT) (GT : FnOk P u0 K mg base CX0 2 fT fdT pTK (spTaken K))
    (DR : Df K mg "read_rule" sReadRule pRR fR fdR) (GR : FnOk P u0 K mg base CX0 k fR fdR pRR (spRule e)) (DW : Df K mg "read_row" sReadRow ["world"] fW fdW) (GW : FnOk P u0 K mg base CX0 4 fW fdW ["world"] spReadRow)
    (DN : Df K mg "read_numbers" sReadNumbers pRN fN fdN) (GN : FnOk P u0 K mg base CX0 4 fN fdN pRN spReadNumbers) (hk : 4 ≤ k) : FnOk P u0 K mg base CX0 (k + 1) f fd pRL (spOne e) := by
  refine F.ok scRO (fun vs H Q E h => ?_) (fun cdv A outer s0 H vs Q E hr h => ?_)
  · obtain ⟨_, _, _, _, _, rfl, _⟩ := h
    rfl
  obtain ⟨w, t, ts, s, x, rfl, he, hx, W, q⟩ := h
  have hu := hu_of hr
  have hr2 : Room 2 _ := hr.mono (by omega)
  have hr4 : Room 4 _ := hr.mono hk
  refine ⟨_, Evl.pss_cut (ps_set (i := 3) scRO.nd rfl (.inl rfl) (pe_ifExp (pt_cmpR op_eq (pv 1) pe_str (nomark _)) (pe_tup (pa_cons (pe_call GW hr4 (by rfl) DW.g DW.kp DW.b .nil pass0 (pa_cons (pv 0) pa_nil)) pa_nil))
      (pe_call GN hr4 (by rfl) DN.g DN.kp DN.b .nil pass0 (pa_cons (pv 0) (pa_cons (pv 1) pa_nil)))))
    (pss_cons (ps_dput hu (pv 0) pe_str (pe_op op_add (pe_dget hu (pv 0) pe_str (fun _ _ => rfl)) pe_int) rfl)
    (pss_cons (ps_set (i := 4) scRO.nd rfl (.inl rfl) (pe_call GR hr (by rfl) DR.g DR.kp DR.b .nil pass0 (pa_cons (pv 0) (pa_cons (pe_op op_sub (pv 2) pe_int) pa_nil))))
    (pss_cons (ps_expr (pe_call GT hr2 (by rfl) DT.g DT.kp DT.b .nil pass0 (pa_cons (pv 0) (pa_cons (pe_tup (pa_cons pe_str pa_nil)) (pa_cons pe_int (pa_cons (pe_un un_neg pe_int) pa_nil))))))
    (pss_one (ps_ret (pe_tup (pa_cons (pv 1) (StX.pa_star (pv 3) (pa_cons (pv 4) pa_nil))))))))), ?_⟩
  refine ⟨fun σ G => ∃ r xs, σ = [some (.ref w), some (.str x), some (.int ((e + 1 : Nat) : Int)), some (.ref r), none] ∧ But w H G ∧ PW G w t ts (pHead ts x s) ∧ G r = some (.tup xs) ∧ xs.length ≤ 10, ?_, ?_⟩
  · refine ⟨_, rfl, rfl, _, rfl, ?_⟩
    by_cases c : x = "row"
    · refine ifT (by rw [c]; exact decide_eq_true rfl) ?_
      refine ⟨_, rfl, w, t, ts, s, rfl, W, fun H1 v b1 W1 => ?_⟩
      refine ⟨(by show 1 ≤ sizeLine; exact small (by decide)), fun r hr' => ⟨r, [v], rfl, b1.trans (But.of (same_new hr' _)), ?_, upd_same, (by show 1 ≤ 10; decide)⟩⟩
      unfold pHead
      rw [if_pos c]
      exact W1.same (same_new hr' _)
    · refine ifF (dec_str_ne c) ?_
      refine ⟨_, rfl, _, rfl, w, t, ts, s, x, rfl, hx, W, fun H1 r xs b1 W1 hr' hl => ⟨r, xs, rfl, b1, ?_, hr', hl⟩⟩
      unfold pHead
      rw [if_neg c]
      exact W1
  rintro σ G ⟨r, xs, rfl, bG, WG, hG, hl⟩
  have nrw : r ≠ w := by
    obtain ⟨sv, hw, _⟩ := WG.ob
    exact ne_of hG hw (by intro z; cases z)
  obtain ⟨H2, dp, b2, W2⟩ := WG.parts 1
  refine ⟨_, rfl, w, _, rfl, WG.gparts, _, _, rfl, rfl, _, rfl, w, H2, rfl, dp, ?_⟩
  refine ⟨_, rfl, _, rfl, _, _, rfl, rfl, w, t, ts, _, congrArg (fun z => [V.ref w, V.int z]) (less_one e), he, W2, fun H3 v3 b3 W3 => ?_⟩
  refine ⟨_, rfl, small (by decide), fun r4 hr4' => ⟨_, rfl, w, t, ts, _, r4, [")"], 0, -1, rfl, W3.same (same_new hr4' _), SqT.of upd_same, fun H4 b4 W4 => ?_⟩⟩
  have bb := ((b2.trans b3).trans (But.of (same_new hr4' (.tup [.str ")"])))).trans b4
  have h4 := bb _ _ hG nrw
  refine ⟨_, rfl, _, rfl, r, xs, rfl, .inl (SqT.of h4), _, rfl, ?_, fun r5 hr5 => ?_⟩
  · refine small ?_
    show (V.str x :: (xs ++ [v3])).length ≤ 1000
    rw [List.length_cons, List.length_append, List.length_singleton]
    omega
  · exact q _ _ ((bG.trans bb).trans (But.of (same_new hr5 _))) (W4.same (same_new hr5 _))
end
/-! ### read_rule -/
theorem PW.heard {H : Hp} {w t : Addr} {ts : List Str} {s : S} (W : PW H w t ts s) : ∃ G, DPut H w (.str "heard") (.int (s.heard + 1)) G ∧ But w H G ∧ PW G w t ts { s with heard := s.heard + 1 } := by
  obtain ⟨sv, hw, hs⟩ := W.ob
  exact ⟨_, pp_heard hw _, But.upd, W.to (s' := { s with heard := s.heard + 1 }) But.upd upd_same hs W.le⟩
theorem PW.gheard {H : Hp} {w t : Addr} {ts : List Str} {s : S} (W : PW H w t ts s) : DGet H w (.str "heard") (some (.int s.heard)) := by
  obtain ⟨sv, hw, hs⟩ := W.ob
  exact pg_heard hw
theorem PW.wanted {H : Hp} {w t : Addr} {ts : List Str} {s : S} (W : PW H w t ts s) (n : Int) : ∃ G, DPut H w (.str "wanted") (.int (if n > s.last then n else s.last)) G ∧ But w H G ∧ PW G w t ts (hearS n s) := by
  obtain ⟨sv, hw, hs⟩ := W.ob
  exact ⟨_, pp_wanted hw _, But.upd, W.to (s' := hearS n s) But.upd upd_same hs W.le⟩
theorem PW.gwanted {H : Hp} {w t : Addr} {ts : List Str} {s : S} (W : PW H w t ts s) : DGet H w (.str "wanted") (some (.int s.last)) := by
  obtain ⟨sv, hw, hs⟩ := W.ob
  exact pg_wanted hw
theorem words_okNum : ∀ w ∈ OFW ++ MIDW ++ LISTS ++ ONES, okNum w = false := by decide +kernel
theorem ruleWords_deep {s : S} {d : Nat} {x : Str} (h : x ∈ ruleWords s d) (ho : ¬ x = "of") : 1 < d := by
  unfold ruleWords at h
  simp only [List.mem_append] at h
  rcases h with (h | h) | h
  · split at h
    · exact absurd (mem_of.mp h) ho
    · cases h
  · split at h
    · rename_i c; exact c.1
    · cases h
  · split at h
    · rename_i c; exact c.1
    · cases h
section
variable {P : Program} {u0 : World} {K : PySem.W.Frag} {mg : Str → Option Value} {base : Heap}
abbrev nRR : List Str := ["world", "deep", "word", "house"]
theorem scRR : FnScope nRR pRR (defScope sReadRule) := ⟨rfl, rfl, rfl, by decide +kernel, rfl, by decide +kernel, by decide +kernel⟩
theorem ok_readRule {f fT fI fN fL fM fO fW : Addr} {fd fdT fdI fdN fdL fdM fdO fdW : FuncData} {e k : Nat} (F : Fun K "read_rule" "read_rule" sReadRule f fd) (B : Bl mg) (C : Cst K u0 mg)
    (DT : Df K mg "taken" sTaken pTK fT fdT) (GT : FnOk P u0 K mg base CX0 2 fT fdT pTK (spTaken K)) (DI : Df K mg "is_numeral" sIsNumeral ["token"] fI fdI) (GI : FnOk P u0 K mg base CX0 1 fI fdI ["token"] spIsNumeral)
    (DN : Df K mg "numeral" sNumeral pNM fN fdN) (GN : FnOk P u0 K mg base CX0 3 fN fdN pNM spNumeral) (DW : Df K mg "words_let" sWordsLet pWL fW fdW) (GW : FnOk P u0 K mg base CX0 1 fW fdW pWL spWordsLet)
    (DL : Df K mg "read_list" sReadList pRL fL fdL) (GL : FnOk P u0 K mg base CX0 k fL fdL pRL (spList e)) (DM : Df K mg "read_middle" sReadMiddle pRR fM fdM) (GM : FnOk P u0 K mg base CX0 k fM fdM pRR (spMiddle e))
    (DO : Df K mg "read_one" sReadOne pRL fO fdO) (GO : FnOk P u0 K mg base CX0 k fO fdO pRL (spOne e)) (hk : 4 ≤ k) : FnOk P u0 K mg base CX0 (k + 1) f fd pRR (spRule (e + 1)) := by
  refine F.ok scRR (fun vs H Q E h => ?_) (fun cdv A outer s0 H vs Q E hr h => ?_)
  · obtain ⟨_, _, _, _, rfl, _⟩ := h
    rfl
  obtain ⟨w, t, ts, s, rfl, he, W, q⟩ := h
  have hu := hu_of hr
  have hr1 : Room 1 _ := hr.mono (by omega)
  have hr2 : Room 2 _ := hr.mono (by omega)
  have hr3 : Room 3 _ := hr.mono (by omega)
  obtain ⟨_, cM⟩ := C.most
  obtain ⟨_, cH⟩ := C.houses
  obtain ⟨aL, cL, sL⟩ := C.lists
  refine ⟨_, pss_cons (ps_if (pt_cmpR op_notN (pe_dget hu (pv 0) pe_str (fun _ _ => rfl)) pe_non (nomark _)) (pss_one (ps_ret pe_non)) pss_nil)
    (pss_cons (ps_set (i := 2) scRR.nd rfl (.inl rfl) (pe_call GT hr2 (by rfl) DT.g DT.kp DT.b .nil pass0 (pa_cons (pv 0) (pa_cons (pe_call GW hr1 (by rfl) DW.g DW.kp DW.b .nil pass0 (pa_cons (pv 0) (pa_cons (pv 1) pa_nil))) (pa_cons pe_int (pa_cons (pe_op op_sub (pe_glob rfl cM rvI) pe_int) pa_nil))))))
    (pss_cons (ps_if (pt_cmpR op_isN (pv 2) pe_non (nomark _)) (pss_one (ps_ret pe_non)) pss_nil)
    (pss_cons (ps_if (pt_val (pe_call GI hr1 (by rfl) DI.g DI.kp DI.b .nil pass0 (pa_cons (pv 2) pa_nil))) (pss_one (ps_ret (pe_tup (pa_cons pe_str (pa_cons (pe_callTy call_int_str (by rfl) B.int (by decide +kernel) (pa_cons (pv 2) pa_nil)) pa_nil))))) pss_nil)
    (pss_cons (ps_if (pt_cmpR op_eq (pv 2) pe_str (nomark _))
      (pss_cons (ps_dput hu (pv 0) pe_str (pe_op op_add (pe_dget hu (pv 0) pe_str (fun _ _ => rfl)) pe_int) rfl)
      (pss_cons (ps_set (i := 3) scRR.nd rfl (.inl rfl) (pe_call GN hr3 (by rfl) DN.g DN.kp DN.b .nil pass0 (pa_cons (pv 0) (pa_cons pe_int (pa_cons (pe_op op_sub (pe_glob rfl cH rvI) pe_int) pa_nil)))))
      (pss_cons (ps_dput hu (pv 0) pe_str (pe_callB (call_max2 rfl) (by rfl) B.max (by decide +kernel) (pa_cons (pe_dget hu (pv 0) pe_str (fun _ _ => rfl)) (pa_cons (pv 3) pa_nil))) rfl)
      (pss_one (ps_ret (pe_tup (pa_cons pe_str (pa_cons (pv 3) pa_nil)))))))) pss_nil)
    (pss_cons (ps_if (pt_cmpR op_in_seq (pv 2) (pe_glob rfl cL rvR) (by rfl)) (pss_one (ps_ret (pe_call GL hr (by rfl) DL.g DL.kp DL.b .nil pass0 (pa_cons (pv 0) (pa_cons (pv 2) (pa_cons (pv 1) pa_nil)))))) pss_nil)
    (pss_one (ps_ret (pe_ifExp (pt_cmpR op_eq (pv 2) pe_str (nomark _)) (pe_call GM hr (by rfl) DM.g DM.kp DM.b .nil pass0 (pa_cons (pv 0) (pa_cons (pv 1) pa_nil)))
      (pe_call GO hr (by rfl) DO.g DO.kp DO.b .nil pass0 (pa_cons (pv 0) (pa_cons (pv 2) (pa_cons (pv 1) pa_nil)))))))))))), ?_⟩
  obtain ⟨sv, hw, hs⟩ := W.ob
  have eR : pRule ts (e + 1) s = (match eat ts (ruleWords s (e + 1)) 0 1000 s with
    | (none, s1) => s1
    | (some x, s1) => pWord ts (pRule ts e) x s1) := rfl
  refine ⟨_, rfl, w, sv, rfl, pg_stop hw, rfl, _, rfl, ?_⟩
  rw [hs]
  cases hst : s.stop with
  | true =>
    refine ifT rfl ?_
    rw [eat_stop hst] at eR
    exact q H _ (But.refl H) (by rw [eR]; exact W)
  | false =>
  refine ifF rfl ?_
  refine ⟨_, rfl, _, rfl, _, rfl, w, t, ts, s, e + 1, rfl, W, fun H1 r sm hr' => ?_⟩
  refine ⟨_, _, rfl, rfl, w, t, ts, s, r, ruleWords s (e + 1), 0, 1000, rfl, W.same sm, SqT.of hr', fun H2 b2 W2 => ?_⟩
  have b2' : But w H H2 := (But.of sm).trans b2
  cases ee : eat ts (ruleWords s (e + 1)) 0 1000 s with
  | mk o s1 =>
  rw [ee] at W2 eR
  cases o with
  | none =>
    refine ⟨_, rfl, rfl, _, rfl, ?_⟩
    exact q H2 _ b2' (by rw [eR]; exact W2)
  | some x =>
  have ex := eat_some ee
  have hTk : Tk x := W.tk x (List.mem_of_getElem? ex.2.2.1)
  have eW : pRule ts (e + 1) s = pWord ts (pRule ts e) x s1 := eR
  unfold pWord at eW
  refine ⟨_, rfl, rfl, _, rfl, ?_⟩
  refine ⟨_, rfl, x, rfl, hTk, fun H3 s3 => ?_⟩
  refine ⟨okNum x, rfl, ?_⟩
  have W3 := W2.same s3
  have b3 : But w H H3 := b2'.trans (But.of s3)
  rcases word_kind ee with ⟨hn, hw'⟩ | ⟨hn, hw'⟩
  · refine ifT (num_ok hn) ?_
    rw [if_pos hn] at eW
    obtain ⟨n, en⟩ := Option.isSome_iff_exists.mp hn
    refine ⟨_, rfl, x, n, rfl, int_num en hTk, Nat.le_trans hTk.len (by decide), (by show 2 ≤ sizeLine; exact small (by decide)), fun r4 hr4 => ?_⟩
    exact q _ _ (b3.trans (But.of (same_new hr4 _))) (by rw [eW]; exact W3.same (same_new hr4 _))
  · refine ifF (words_okNum x (ruleWords_sub hw')) ?_
    rw [if_neg (by rw [hn]; decide)] at eW
    refine ⟨_, rfl, rfl, _, rfl, ?_⟩
    by_cases c1 : x = "of"
    · rw [if_pos c1] at eW
      refine ifT (by rw [c1]; exact decide_eq_true rfl) ?_
      obtain ⟨H4, d4, b4, W4⟩ := W3.heard
      refine ⟨_, rfl, w, _, rfl, W3.gheard, _, _, rfl, rfl, _, rfl, w, H4, rfl, d4, ?_⟩
      refine ⟨_, rfl, _, _, rfl, rfl, w, t, ts, _, 0, 19, rfl, W4, fun H5 b5 W5 => ?_⟩
      obtain ⟨H6, d6, b6, W6⟩ := W5.wanted (number ts 0 19 { s1 with heard := s1.heard + 1 }).1
      refine ⟨_, rfl, w, _, rfl, W5.gwanted, _, rfl, _, _, rfl, _, rfl, w, H6, rfl, d6, ?_⟩
      refine ⟨_, rfl, (by show 2 ≤ sizeLine; exact small (by decide)), fun r7 hr7 => ?_⟩
      refine q _ _ ((((b3.trans b4).trans b5).trans b6).trans (But.of (same_new hr7 _))) ?_
      rw [eW]
      exact W6.same (same_new hr7 _)
    · rw [if_neg c1] at eW
      have hd := ruleWords_deep hw' c1
      have he1 : 1 ≤ e := by omega
      refine ifF (dec_str_ne c1) ?_
      refine ⟨_, rfl, aL, _, rfl, .inr (sL _), rfl, flat_strs _, _, rfl, ?_⟩
      by_cases c2 : x ∈ LISTS
      · rw [if_pos c2] at eW
        refine ifT (by show inV (.str x) (LISTS.map V.str) = true; rw [inV_strs]; exact inW_iff.mpr c2) ?_
        refine ⟨_, rfl, _, rfl, _, rfl, w, t, ts, s1, x, rfl, he1, W3, fun H4 v b4 W4 => ?_⟩
        exact q _ _ (b3.trans b4) (by rw [eW]; exact W4)
      · rw [if_neg c2] at eW
        refine ifF (by show inV (.str x) (LISTS.map V.str) = false; rw [inV_strs]; cases z : inW x LISTS with | false => rfl | true => exact absurd (inW_iff.mp z) c2) ?_
        refine ⟨_, rfl, rfl, _, rfl, ?_⟩
        by_cases c3 : x = "middle"
        · rw [if_pos c3] at eW
          refine ifT (by rw [c3]; exact decide_eq_true rfl) ?_
          refine ⟨_, rfl, _, rfl, w, t, ts, s1, rfl, he1, W3, fun H4 v b4 W4 => ?_⟩
          exact q _ _ (b3.trans b4) (by rw [eW]; exact W4)
        · rw [if_neg c3] at eW
          refine ifF (dec_str_ne c3) ?_
          have c4 : x ∈ ONES := by
            have z := ruleWords_sub hw'
            simp only [List.mem_append] at z
            rcases z with ((z | z) | z) | z
            · exact absurd (mem_of.mp z) c1
            · exact absurd (mem_mid.mp z) c3
            · exact absurd z c2
            · exact z
          refine ⟨_, rfl, _, rfl, _, rfl, w, t, ts, s1, x, rfl, he1, c4, W3, fun H4 v b4 W4 => ?_⟩
          exact q _ _ (b3.trans b4) (by rw [eW]; exact W4)
/-- nothing is asked of depth nought -/
theorem rule_none {f : Addr} {fd : FuncData} : FnOk P u0 K mg base CX0 4 f fd pRR (spRule 0) := by
  have no : ∀ vs H Q E, ¬ spRule 0 vs H Q E := fun vs H Q E h => by
    obtain ⟨_, _, _, _, _, h1, _⟩ := h
    omega
  exact ⟨fun vs H Q E h => absurd h (no vs H Q E), fun A outer s H args us vs Q E _ _ _ _ h => absurd h (no vs H Q E)⟩
theorem rule_all {fR fT fI fN fL fM fO fW fB fRw : Addr} {fdR fdT fdI fdN fdL fdM fdO fdW fdB fdRw : FuncData} (B : Bl mg) (C : Cst K u0 mg)
    (DR : Df K mg "read_rule" sReadRule pRR fR fdR)
    (DT : Df K mg "taken" sTaken pTK fT fdT) (GT : FnOk P u0 K mg base CX0 2 fT fdT pTK (spTaken K)) (DI : Df K mg "is_numeral" sIsNumeral ["token"] fI fdI) (GI : FnOk P u0 K mg base CX0 1 fI fdI ["token"] spIsNumeral)
    (DN : Df K mg "numeral" sNumeral pNM fN fdN) (GN : FnOk P u0 K mg base CX0 3 fN fdN pNM spNumeral) (DW : Df K mg "words_let" sWordsLet pWL fW fdW) (GW : FnOk P u0 K mg base CX0 1 fW fdW pWL spWordsLet)
    (DRw : Df K mg "read_row" sReadRow ["world"] fRw fdRw) (GRw : FnOk P u0 K mg base CX0 4 fRw fdRw ["world"] spReadRow) (DB : Df K mg "read_numbers" sReadNumbers pRN fB fdB) (GB : FnOk P u0 K mg base CX0 4 fB fdB pRN spReadNumbers)
    (DL : Df K mg "read_list" sReadList pRL fL fdL) (DM : Df K mg "read_middle" sReadMiddle pRR fM fdM) (DO : Df K mg "read_one" sReadOne pRL fO fdO) : ∀ d, FnOk P u0 K mg base CX0 (4 + 2 * d) fR fdR pRR (spRule d)
  | 0 => rule_none
  | d + 1 => by
    have ih := rule_all B C DR DT GT DI GI DN GN DW GW DRw GRw DB GB DL DM DO d
    have hk : 4 ≤ 4 + 2 * d := by omega
    exact ok_readRule (k := 4 + 2 * d + 1) DR.fn B C DT GT DI GI DN GN DW GW DL (ok_readList DL.fn B C DT GT DR ih hk) DM (ok_readMiddle DM.fn DT GT DR ih hk) DO (ok_readOne DO.fn DT GT DR ih DRw GRw DB GB hk) (by omega)
end
end K07

namespace K07
open PySem L2
/-! ### a dict's store among several targets -/
def rSetD : TSet := fun o i v H Q => ∃ a G, o = .ref a ∧ DPut H a i v G ∧ Q G
theorem set_dk {X : Cx} (hu : X.A.units + 1 < cLine) : PSet X rSetD := by
  intro pins s σ H o i v ov iv u Q I ro ri rv h
  obtain ⟨a, G, rfl, dp, q⟩ := h
  obtain rfl : ov = Value.ref a := ro
  exact d_setItem hu I dp ri rv fun s' I' => ⟨G, I', q⟩
theorem PW.renew {H : Hp} {w t : Addr} {ts : List Str} {s : S} (W : PW H w t ts s) : ∃ G1 G2, DPut H w (.str "parts") (.int 1) G1 ∧ DPut G1 w (.str "heard") (.int 0) G2 ∧ But w H G2 ∧ PW G2 w t ts (fresh s) := by
  obtain ⟨sv, hw, hs⟩ := W.ob
  have b : But w H (L2.upd (L2.upd H w (.dK (pK t s.at_ sv 1 s.heard s.last))) w (.dK (pK t s.at_ sv 1 0 s.last))) := But.upd.trans But.upd
  exact ⟨_, _, pp_parts hw 1, pp_heard upd_same 0, b, W.to (s' := fresh s) b upd_same hs W.le⟩
/-! ### read_house -/
def spHouse : Sp := fun vs H Q _ => ∃ (w t : Addr) (ts : List Str) (s : S) (h : Nat), vs = [.ref w, .int (h : Int)] ∧ PW H w t ts s ∧
  ∀ H' p v1 v2, But w H H' → PW H' w t ts (pHouse ts (pRule ts 8) h s) → H' p = some (.tup [v1, v2]) → Q (.ref p) H'
section
variable {P : Program} {u0 : World} {K : PySem.W.Frag} {mg : Str → Option Value} {base : Heap}
abbrev nRH : List Str := ["world", "house", "top", "rule"]
abbrev pRH : List Str := ["world", "house"]
theorem scRH : FnScope nRH pRH (defScope sReadHouse) := ⟨rfl, rfl, rfl, by decide +kernel, rfl, by decide +kernel, by decide +kernel⟩
theorem ok_readHouse {f fT fN fR : Addr} {fd fdT fdN fdR : FuncData} (F : Fun K "read_house" "read_house" sReadHouse f fd) (C : Cst K u0 mg) (DT : Df K mg "taken" sTaken pTK fT fdT) (GT : FnOk P u0 K mg base CX0 2 fT fdT pTK (spTaken K))
    (DN : Df K mg "numeral" sNumeral pNM fN fdN) (GN : FnOk P u0 K mg base CX0 3 fN fdN pNM spNumeral) (DR : Df K mg "read_rule" sReadRule pRR fR fdR) (GR : FnOk P u0 K mg base CX0 20 fR fdR pRR (spRule 8)) : FnOk P u0 K mg base CX0 21 f fd pRH spHouse := by
  refine F.ok scRH (fun vs H Q E h => ?_) (fun cdv A outer s0 H vs Q E hr h => ?_)
  · obtain ⟨_, _, _, _, _, rfl, _⟩ := h
    rfl
  obtain ⟨w, t, ts, s, h, rfl, W, q⟩ := h
  have hu := hu_of hr
  have hr2 : Room 2 _ := hr.mono (by decide)
  have hr3 : Room 3 _ := hr.mono (by decide)
  obtain ⟨_, cM⟩ := C.most
  obtain ⟨_, cD⟩ := C.deep
  refine ⟨_, pss_cons (ps_expr (pe_call GN hr3 (by rfl) DN.g DN.kp DN.b .nil pass0 (pa_cons (pv 0) (pa_cons (pv 1) (pa_cons (pv 1) pa_nil)))))
    (pss_cons (ps_expr (pe_call GT hr2 (by rfl) DT.g DT.kp DT.b .nil pass0 (pa_cons (pv 0) (pa_cons (pe_tup (pa_cons pe_str pa_nil)) (pa_cons pe_int (pa_cons (pe_un un_neg pe_int) pa_nil))))))
    (pss_cons (ps_set (i := 2) scRH.nd rfl (.inl rfl) (pe_call GN hr3 (by rfl) DN.g DN.kp DN.b .nil pass0 (pa_cons (pv 0) (pa_cons pe_int (pa_cons (pe_op op_sub (pe_glob rfl cM rvI) pe_int) pa_nil)))))
    (pss_cons (ps_expr (pe_call GT hr2 (by rfl) DT.g DT.kp DT.b .nil pass0 (pa_cons (pv 0) (pa_cons (pe_tup (pa_cons pe_str pa_nil)) (pa_cons pe_int (pa_cons (pe_un un_neg pe_int) pa_nil))))))
    (pss_cons (ps_asg (pe_tup (pa_cons pe_int (pa_cons pe_int pa_nil))) (pg_tup (by rfl) (pgs_cons (pg_sub (pv 0) pe_str (set_dk hu)) (pgs_cons (pg_sub (pv 0) pe_str (set_dk hu)) pgs_nil))))
    (pss_cons (ps_set (i := 3) scRH.nd rfl (.inl rfl) (pe_call GR hr (by rfl) DR.g DR.kp DR.b .nil pass0 (pa_cons (pv 0) (pa_cons (pe_glob rfl cD rvI) pa_nil))))
    (pss_cons (ps_expr (pe_call GT hr2 (by rfl) DT.g DT.kp DT.b .nil pass0 (pa_cons (pv 0) (pa_cons (pe_tup (pa_cons pe_str pa_nil)) (pa_cons pe_int (pa_cons (pe_un un_neg pe_int) pa_nil))))))
    (pss_one (ps_ret (pe_tup (pa_cons (pv 2) (pa_cons (pv 3) pa_nil))))))))))), ?_⟩
  refine ⟨_, rfl, _, rfl, _, rfl, w, t, ts, s, (h : Int), (h : Int), rfl, W, fun H1 b1 W1 => ?_⟩
  refine ⟨_, rfl, small (by decide), fun r2 hr2 => ⟨_, rfl, w, t, ts, _, r2, ["top"], 0, -1, rfl, W1.same (same_new hr2 _), SqT.of upd_same, fun H2 b2 W2 => ?_⟩⟩
  refine ⟨_, rfl, _, _, rfl, rfl, w, t, ts, _, 0, 1000, rfl, W2, fun H3 b3 W3 => ?_⟩
  refine ⟨_, rfl, small (by decide), fun r4 hr4 => ⟨_, rfl, w, t, ts, _, r4, [":"], 0, -1, rfl, W3.same (same_new hr4 _), SqT.of upd_same, fun H4 b4 W4 => ?_⟩⟩
  -- world["parts"], world["heard"] = 1, 0
  refine ⟨(by show 2 ≤ sizeLine; exact small (by decide)), fun r5 hr5 => ?_⟩
  have W5 := W4.same (same_new hr5 (.tup [.int 1, .int 0]))
  obtain ⟨G1, G2, d1, d2, b6, W6⟩ := W5.renew
  refine ⟨r5, _, rfl, SqT.of upd_same, rfl, _, _, rfl, ?_⟩
  refine ⟨_, rfl, w, G1, rfl, d1, ?_⟩
  refine ⟨_, _, rfl, ?_⟩
  refine ⟨_, rfl, w, G2, rfl, d2, rfl, ?_⟩
  refine ⟨_, rfl, w, t, ts, _, rfl, by decide, W6, fun H7 v7 b7 W7 => ?_⟩
  refine ⟨_, rfl, small (by decide), fun r8 hr8 => ⟨_, rfl, w, t, ts, _, r8, [";"], 0, -1, rfl, W7.same (same_new hr8 _), SqT.of upd_same, fun H8 b8 W8 => ?_⟩⟩
  refine ⟨_, rfl, _, rfl, (by show 2 ≤ sizeLine; exact small (by decide)), fun r9 hr9 => ?_⟩
  refine q _ r9 _ _ ?_ ?_ upd_same
  · exact ((((((((((b1.trans (But.of (same_new hr2 _))).trans b2).trans b3).trans (But.of (same_new hr4 _))).trans b4).trans (But.of (same_new hr5 _))).trans b6).trans b7).trans (But.of (same_new hr8 _))).trans b8).trans (But.of (same_new hr9 _))
  · have e : pHouse ts (pRule ts 8) h s = (eat ts [";"] 0 (-1) (pRule ts 8 (fresh (eat ts [":"] 0 (-1) (number ts 0 1000 (eat ts ["top"] 0 (-1) (number ts h h s).2).2).2).2))).2 := rfl
    rw [e]
    exact W8.same (same_new hr9 _)
end
end K07

namespace K07
open PySem L2
def spWalked : Sp := fun vs H Q _ => ∃ (t : Addr) (ts : List Str), vs = [.ref t] ∧ H t = some (.tup (ts.map V.str)) ∧ (∀ x ∈ ts, Tk x) ∧ ts.length ≤ 1000 ∧
  ∀ H' r net sv xs, (pHouses ts 21 0 s0).1.at_ ≤ ts.length → Same H H' → H' net = some (.tup xs) → H' r = some (.tup [.ref net, .int ((pHouses ts 21 0 s0).1.at_ : Int), sv, .bl (pHouses ts 21 0 s0).2]) → Q (.ref r) H'
/-- between two turns of walked's while: m turns are left at most -/
def HouseW (H : Hp) (w t a b : Addr) (ts : List Str) (goal : S × Bool) (m : Nat) (σ : L2.St) (G : Hp) : Prop :=
  ∃ (s : S) (wh : Bool) (xs ys : List V) (y5 y6 : Option V), σ = [some (.ref t), some (.ref w), some (.ref a), some (.ref b), some (.bl wh), y5, y6] ∧ Same H G ∧ PW G w t ts s ∧ G a = some (.lst xs) ∧ G b = some (.lst ys) ∧ xs.length = ys.length ∧ xs.length ≤ 21 ∧
    ((xs.length + m = 21 ∧ pHouses ts m xs.length s = goal ∧ wh = false ∧ (s.stop = false → xs.length ≤ 20)) ∨ (s = goal.1 ∧ wh = goal.2 ∧ s.stop = true))
theorem whole_val {ts : List Str} {s : S} {n : Nat} : (decide ((n : Int) > s.last) && decide ((s.at_ : Int) = (ts.length : Int))) = whole ts n s := by
  unfold whole
  by_cases c : s.at_ = ts.length
  · rw [decide_eq_true c, decide_eq_true (show (s.at_ : Int) = (ts.length : Int) by rw [c])]
  · rw [decide_eq_false c, decide_eq_false (show ¬ (s.at_ : Int) = (ts.length : Int) by omega)]
section
variable {P : Program} {u0 : World} {K : PySem.W.Frag} {mg : Str → Option Value} {base : Heap}
abbrev nWK : List Str := ["tokens", "world", "tops", "rules", "is_whole", "top", "rule"]
theorem scWK : FnScope nWK ["tokens"] (defScope sWalked) := ⟨rfl, rfl, rfl, by decide +kernel, rfl, by decide +kernel, by decide +kernel⟩
theorem ok_walked {f fT fH : Addr} {fd fdT fdH : FuncData} (F : Fun K "walked" "walked" sWalked f fd) (B : Bl mg) (C : Cst K u0 mg) (DT : Df K mg "taken" sTaken pTK fT fdT) (GT : FnOk P u0 K mg base CX0 2 fT fdT pTK (spTaken K))
    (DH : Df K mg "read_house" sReadHouse pRH fH fdH) (GH : FnOk P u0 K mg base CX0 21 fH fdH pRH spHouse) : FnOk P u0 K mg base CX0 22 f fd ["tokens"] spWalked := by
  refine F.ok scWK (fun vs H Q E h => ?_) (fun cdv A outer st H vs Q E hr h => ?_)
  · obtain ⟨_, _, rfl, _⟩ := h
    rfl
  obtain ⟨t, ts, rfl, ht, htk, hsz, q⟩ := h
  have hu := hu_of hr
  have hr2 : Room 2 _ := hr.mono (by decide)
  obtain ⟨_, cH⟩ := C.houses
  refine ⟨_, pss_cons (ps_set (i := 1) scWK.nd rfl (.inl rfl) (pe_disp (pps_cons pe_str (pv 0) (pps_cons pe_str pe_int (pps_cons pe_str pe_non (pps_cons pe_str pe_int (pps_cons pe_str pe_int (pps_cons pe_str pe_int pps_nil)))))) (by rfl) (by rfl) (fun z => by cases z) (by decide)))
    (pss_cons (ps_par (i := 2) (j := 3) rfl scWK.nd rfl rfl (by decide) rfl rfl (pa_cons (pe_lst pa_nil) (pa_cons (pe_lst pa_nil) pa_nil)) (by rfl))
    (pss_cons (ps_set (i := 4) scWK.nd rfl (.inl rfl) pe_bl)
    (pss_cons (ps_while PassesOwn.never (pt_cmpR op_isN (pe_dget hu (pv 1) pe_str (fun _ _ => rfl)) pe_non (nomark _))
      (Evl.pss_cut (ps_set (i := 4) scWK.nd rfl (.inl rfl) (pe_and (pe_cmpR op_gt (pe_callB call_len_seq (by rfl) B.len PySem.boot_len (pa_cons (pv 2) pa_nil)) (pe_dget hu (pv 1) pe_str (fun _ _ => rfl)) (nomark _))
          (pe_one (pe_cmpR op_eq (pe_dget hu (pv 1) pe_str (fun _ _ => rfl)) (pe_callB call_len_seq (by rfl) B.len PySem.boot_len (pa_cons (pv 0) pa_nil)) (nomark _)))))
      (Evl.pss_cut (ps_expr (pe_call GT hr2 (by rfl) DT.g DT.kp DT.b .nil pass0 (pa_cons (pv 1) (pa_cons
          (pe_ifExp (pt_cmpR op_lt (pe_callB call_len_seq (by rfl) B.len PySem.boot_len (pa_cons (pv 2) pa_nil)) (pe_glob rfl cH rvI) (nomark _)) (pe_tup (pa_cons pe_str pa_nil)) (pe_tup pa_nil)) (pa_cons pe_int (pa_cons (pe_un un_neg pe_int) pa_nil))))))
      (pss_one (ps_if (pt_cmpR op_isN (pe_dget hu (pv 1) pe_str (fun _ _ => rfl)) pe_non (nomark _))
        (pss_cons (ps_asg (pe_call GH hr (by rfl) DH.g DH.kp DH.b .nil pass0 (pa_cons (pv 1) (pa_cons (pe_callB call_len_seq (by rfl) B.len PySem.boot_len (pa_cons (pv 2) pa_nil)) pa_nil)))
            (pg_tup (by rfl) (pgs_cons (pg_name (i := 5) scWK.nd rfl (.inl rfl)) (pgs_cons (pg_name (i := 6) scWK.nd rfl (.inl rfl)) pgs_nil))))
        (pss_cons (ps_expr (pe_bm PySem.F.plainAttrs_list PySem.F.slot_list_append PySem.F.type_list_append mt_append (pv 2) (pa_cons (pv 5) pa_nil)))
        (pss_cons (ps_expr (pe_bm PySem.F.plainAttrs_list PySem.F.slot_list_append PySem.F.type_list_append mt_append (pv 3) (pa_cons (pv 6) pa_nil)))
        (pss_one (ps_set (i := 4) scWK.nd rfl (.inl rfl) pe_bl))))) pss_nil)))))
    (pss_one (ps_ret (pe_tup (pa_cons (pe_tup (pa_cons (pe_callTy call_tuple_of (by rfl) B.tuple (by decide +kernel) (pa_cons (pv 2) pa_nil)) (pa_cons (pe_callTy call_tuple_of (by rfl) B.tuple (by decide +kernel) (pa_cons (pv 3) pa_nil)) pa_nil)))
      (pa_cons (pe_dget hu (pv 1) pe_str (fun _ _ => rfl)) (pa_cons (pe_dget hu (pv 1) pe_str (fun _ _ => rfl)) (pa_cons (pv 4) pa_nil)))))))))), ?_⟩
  -- the world
  intro w hw0
  have htw : t ≠ w := ne_of_none ht hw0
  refine ⟨_, rfl, ?_⟩
  refine ⟨upd_same, [(.inr "tokens", .ref t), (.inr "at", .int 0), (.inr "stop", .non), (.inr "parts", .int 0), (.inr "heard", .int 0), (.inr "wanted", .int 0)], rfl, (by show 6 ≤ 15; decide), ?_⟩
  have em : mergeK [] [(.inr "tokens", V.ref t), (.inr "at", .int 0), (.inr "stop", .non), (.inr "parts", .int 0), (.inr "heard", .int 0), (.inr "wanted", .int 0)] = pK t 0 .non 0 0 0 := rfl
  rw [em]
  have s1 : Same H (upd (upd H w (.dK [])) w (.dK (pK t 0 .non 0 0 0))) := same_add (same_new hw0 _) hw0
  have W1 : PW (upd (upd H w (.dK [])) w (.dK (pK t 0 .non 0 0 0))) w t ts s0 := ⟨⟨.non, upd_same, rfl⟩, s1 _ _ ht, Nat.zero_le _, htk, hsz⟩
  generalize upd (upd H w (.dK [])) w (.dK (pK t 0 .non 0 0 0)) = H1 at s1 W1
  refine ⟨Nat.zero_le _, fun a ha => ⟨Nat.zero_le _, fun b hb => ⟨_, _, rfl, ?_⟩⟩⟩
  have hab : a ≠ b := ne_of_none (H := upd H1 a (.lst [])) upd_same hb
  have hbH1 : H1 b = none := by rw [upd_ne hab.symm] at hb; exact hb
  have haH : H a = none := s1.free ha
  have hbH : H b = none := s1.free hbH1
  obtain ⟨sv1, hw1, _⟩ := W1.ob
  have naw : a ≠ w := (ne_of_none hw1 ha).symm
  have nbw : b ≠ w := (ne_of_none hw1 hbH1).symm
  have nat : a ≠ t := (ne_of_none W1.tup ha).symm
  have nbt : b ≠ t := (ne_of_none W1.tup hbH1).symm
  refine ⟨HouseW H w t a b ts (pHouses ts 21 0 s0), ⟨21, s0, false, [], [], none, none, rfl, same_add (same_add s1 haH) hbH, (W1.other naw nat).other nbw nbt, by rw [upd_ne hab]; exact upd_same, upd_same, rfl, by decide, .inl ⟨rfl, rfl, rfl, fun _ => by decide⟩⟩, ?_⟩
  rintro m σ G ⟨s, wh, xs, ys, y5, y6, rfl, sG, WG, hGa, hGb, hxy, hx21, ww⟩
  obtain ⟨sv, hwG, hsG⟩ := WG.ob
  refine ⟨_, rfl, w, _, rfl, pg_stop hwG, rfl, _, rfl, ?_⟩
  rw [hsG]
  cases hst : s.stop with
  | true =>
    refine ifF rfl ?_
    -- the end
    have hend : s = (pHouses ts 21 0 s0).1 ∧ wh = (pHouses ts 21 0 s0).2 := by
      rcases ww with ⟨_, e, ew, _⟩ | ⟨e1, e2, _⟩
      · have e' : pHouses ts m xs.length s = (s, false) := by
          cases m with
          | zero => rfl
          | succ m => unfold pHouses; rw [if_pos hst]
        rw [e'] at e
        rw [← e]
        exact ⟨rfl, ew⟩
      · exact ⟨e1, e2⟩
    refine ⟨_, rfl, a, _, rfl, .inl ⟨SqL.of hGa, fun r1 hr1 => ?_⟩⟩
    have hGb1 : (upd G r1 (.tup xs)) b = some (.lst ys) := by rw [upd_ne (ne_of_none hGb hr1)]; exact hGb
    refine ⟨_, rfl, b, _, rfl, .inl ⟨SqL.of hGb1, fun r2 hr2 => ?_⟩⟩
    refine ⟨(by show 2 ≤ sizeLine; exact small (by decide)), fun r3 hr3 => ?_⟩
    have W3 : PW (upd (upd (upd G r1 (.tup xs)) r2 (.tup ys)) r3 (.tup [.ref r1, .ref r2])) w t ts s := ((WG.same (same_new hr1 _)).same (same_new hr2 _)).same (same_new hr3 _)
    have sm3 : Same H (upd (upd (upd G r1 (.tup xs)) r2 (.tup ys)) r3 (.tup [.ref r1, .ref r2])) := ((sG.trans (same_new hr1 _)).trans (same_new hr2 _)).trans (same_new hr3 _)
    obtain ⟨sv3, hw3, _⟩ := W3.ob
    refine ⟨_, rfl, w, _, rfl, pg_at hw3, _, rfl, w, _, rfl, pg_stop hw3, _, rfl, ?_⟩
    refine ⟨(by show 4 ≤ sizeLine; exact small (by decide)), fun r4 hr4 => ?_⟩
    have hnet : (upd (upd (upd G r1 (.tup xs)) r2 (.tup ys)) r3 (.tup [.ref r1, .ref r2])) r3 = some (.tup [.ref r1, .ref r2]) := upd_same
    rw [← hend.1, ← hend.2] at q
    exact q _ r4 r3 sv3 _ W3.le (sm3.trans (same_new hr4 _)) (by rw [upd_ne (ne_of_none hnet hr4)]; exact hnet) upd_same
  | false =>
    refine ifT rfl ?_
    rcases ww with ⟨hm, e, ew, h20⟩ | ⟨_, _, e⟩
    rotate_left
    · rw [hst] at e; cases e
    have hx20 := h20 hst
    obtain ⟨k, rfl⟩ : ∃ k, m = k + 1 := ⟨m - 1, by omega⟩
    refine ⟨_, fun _ _ z => z, ?_⟩
    -- is_whole
    have ewh : whole ts xs.length s = (decide ((s.last : Int) < (xs.length : Int)) && decide ((s.at_ : Int) = (ts.length : Int))) := whole_val.symm
    have eN : pHouses ts (k + 1) xs.length s = (if (go ts (houseWord xs.length) 0 (-1) s).stop = true then (go ts (houseWord xs.length) 0 (-1) s, whole ts xs.length s) else pHouses ts k (xs.length + 1) (pHouse ts (pRule ts 8) xs.length (go ts (houseWord xs.length) 0 (-1) s))) := by
      conv => lhs; unfold pHouses
      rw [if_neg (by rw [hst]; exact Bool.false_ne_true)]
    rw [e] at eN
    refine ⟨fun τ G1 => G = G1 ∧ τ = [some (.ref t), some (.ref w), some (.ref a), some (.ref b), some (.bl (whole ts xs.length s)), y5, y6], ?_, ?_⟩
    · refine ⟨_, rfl, a, _, rfl, .inl (SqL.of hGa), _, rfl, w, _, rfl, pg_wanted hwG, _, _, rfl, rfl, _, rfl, if2 (fun c => ?_) (fun c => ?_)⟩
      · refine ⟨_, rfl, w, _, rfl, pg_at hwG, _, rfl, t, _, rfl, .inr (SqT.of WG.tup), rfl, rfl, ?_⟩
        rw [ewh, c, Bool.true_and, List.length_map]
        by_cases c2 : s.at_ = ts.length
        · rw [decide_eq_true (show (s.at_ : Int) = (ts.length : Int) by rw [c2]), decide_eq_true (show V.int (s.at_ : Int) = V.int (ts.length : Int) by rw [c2])]
          rfl
        · rw [decide_eq_false (show ¬ (s.at_ : Int) = (ts.length : Int) by omega), decide_eq_false (show ¬ V.int (s.at_ : Int) = V.int (ts.length : Int) from fun z => c2 (by have := V.int.inj z; omega))]
          rfl
      · refine ⟨rfl, ?_⟩
        rw [ewh, c, Bool.false_and]
        rfl
    rintro τ G1 ⟨rfl, rfl⟩
    -- taken
    refine ⟨fun τ G1 => τ = [some (.ref t), some (.ref w), some (.ref a), some (.ref b), some (.bl (whole ts xs.length s)), y5, y6] ∧ But w G G1 ∧ PW G1 w t ts (go ts (houseWord xs.length) 0 (-1) s), ?_, ?_⟩
    · have step : ∀ (r : Addr) (ws : List Str), G r = none → ws = houseWord xs.length → spTaken K [.ref w, .ref r, .int 0, .int (-1)] (upd G r (.tup (ws.map V.str))) (fun _ G1 => [some (V.ref t), some (.ref w), some (.ref a), some (.ref b), some (.bl (whole ts xs.length s)), y5, y6] =
          [some (.ref t), some (.ref w), some (.ref a), some (.ref b), some (.bl (whole ts xs.length s)), y5, y6] ∧ But w G G1 ∧ PW G1 w t ts (go ts (houseWord xs.length) 0 (-1) s)) E0 := fun r ws hr' ews => by
        refine ⟨w, t, ts, s, r, ws, 0, -1, rfl, WG.same (same_new hr' _), SqT.of upd_same, fun G1 b W2 => ?_⟩
        have b4 := (But.of (w := w) (same_new hr' (.tup (ws.map V.str)))).trans b
        clear b
        subst ews
        exact ⟨rfl, b4, W2⟩
      refine ⟨_, rfl, _, rfl, a, _, rfl, .inl (SqL.of hGa), _, _, rfl, rfl, _, rfl, if2 (fun c => ?_) (fun c => ?_)⟩
      · have c' : xs.length < 20 := by have := of_decide_eq_true c; omega
        exact ⟨(by show 1 ≤ sizeLine; exact small (by decide)), fun r hr' => ⟨_, rfl, step r ["house"] hr' (by unfold houseWord; rw [if_pos c'])⟩⟩
      · have c' : ¬ xs.length < 20 := by have := of_decide_eq_false c; omega
        exact ⟨Nat.zero_le _, fun r hr' => ⟨_, rfl, step r [] hr' (by unfold houseWord; rw [if_neg c'])⟩⟩
    rintro τ G1 ⟨rfl, b1, W1'⟩
    obtain ⟨sv2, hw2, hs2⟩ := W1'.ob
    have hGa1 := b1 _ _ hGa naw
    have hGb1 := b1 _ _ hGb nbw
    have sG1 : Same H G1 := fun c o z => b1 _ _ (sG _ _ z) (ne_of_none z hw0)
    refine ⟨_, rfl, w, _, rfl, pg_stop hw2, rfl, _, rfl, ?_⟩
    rw [hs2]
    cases hg : (go ts (houseWord xs.length) 0 (-1) s).stop with
    | true =>
      rw [if_pos hg] at eN
      refine ifF rfl ?_
      exact ⟨0, Nat.succ_pos _, go ts (houseWord xs.length) 0 (-1) s, _, xs, ys, y5, y6, rfl, sG1, W1', hGa1, hGb1, hxy, hx21, .inr ⟨by rw [eN], by rw [eN], hg⟩⟩
    | false =>
      rw [if_neg (by rw [hg]; exact Bool.false_ne_true)] at eN
      refine ifT rfl ?_
      have h20' : xs.length < 20 := by
        by_cases c : xs.length < 20
        · exact c
        · exfalso
          unfold go houseWord at hg
          rw [if_neg c] at hg
          cases eo : eat ts [] 0 (-1) s with
          | mk o s1 =>
            rw [eo] at hg
            cases o with
            | none => rw [(eat_none_stop eo).1] at hg; cases hg
            | some x =>
              have z := (eat_some eo).1
              rw [inR_empty, inW_nil] at z
              cases z
      refine ⟨_, rfl, _, rfl, a, _, rfl, .inl (SqL.of hGa1), w, t, ts, _, xs.length, rfl, W1', fun G2 p v1 v2 b2 W2 hp => ?_⟩
      have hGa2 := b2 _ _ hGa1 naw
      have hGb2 := b2 _ _ hGb1 nbw
      have sG2 : Same H G2 := fun c o z => b2 _ _ (sG1 _ _ z) (ne_of_none z hw0)
      refine ⟨p, _, rfl, SqT.of hp, rfl, _, _, rfl, _, _, rfl, rfl, ?_⟩
      refine ⟨_, rfl, .inl ⟨rfl, _, SqL.of hGa2⟩, _, rfl, a, _, _, rfl, rfl, hGa2, small1000 (by omega), ?_⟩
      have hGb3 : (upd G2 a (.lst (xs ++ [v1]))) b = some (.lst ys) := by rw [upd_ne hab.symm]; exact hGb2
      refine ⟨_, rfl, .inl ⟨rfl, _, SqL.of hGb3⟩, _, rfl, b, _, _, rfl, rfl, hGb3, small1000 (by omega), ?_⟩
      refine ⟨k, Nat.lt_succ_self k, _, false, xs ++ [v1], ys ++ [v2], _, _, rfl, same_add (same_add sG2 haH) hbH, (W2.other naw nat).other nbw nbt, by rw [upd_ne hab]; exact upd_same, upd_same, ?_, ?_, .inl ⟨?_, ?_, rfl, fun _ => ?_⟩⟩
      · rw [List.length_append, List.length_append, hxy, List.length_singleton, List.length_singleton]
      · rw [List.length_append, List.length_singleton]; omega
      · rw [List.length_append, List.length_singleton]; omega
      · rw [List.length_append, List.length_singleton]; exact eN.symm
      · rw [List.length_append, List.length_singleton]; omega
end
end K07

namespace K07
open PySem L2
/-! ### tokens of a text, by its codes -/
def WORDS : Str := "abcdefghijklmnopqrstuvwxyzABCDEFGHIJKLMNOPQRSTUVWXYZ0123456789_"
def isWord (c : Nat) : Bool := decide (c ∈ WORDS.cps.toList)
def blankN (c : Nat) : Bool := decide (c = 32)
/-- where the next token begins -/
def skipN (cs : List Nat) (a : Nat) : Nat := a + ((cs.drop a).takeWhile blankN).length
/-- where it ends -/
def endN (cs : List Nat) (a : Nat) : Nat := max (a + ((cs.drop a).takeWhile isWord).length) (a + 1)
def placesN (cs : List Nat) : Nat → Nat → List Nat
  | 0, _ => []
  | n + 1, a => if a < cs.length then a :: placesN cs n (skipN cs (endN cs a)) else []
/-- the text has no remark and no line -/
def Clean (cs : List Nat) : Prop := ∀ c ∈ cs, c ≠ 10 ∧ c ≠ 35
theorem skipN_ge (cs : List Nat) (a : Nat) : a ≤ skipN cs a := Nat.le_add_right _ _
theorem endN_gt (cs : List Nat) (a : Nat) : a < endN cs a := Nat.lt_of_lt_of_le (Nat.lt_succ_self a) (Nat.le_max_right _ _)
theorem placesN_more (cs : List Nat) : ∀ (n m a : Nat), cs.length - a < n → cs.length - a < m → placesN cs n a = placesN cs m a
  | 0, _, _, h, _ => absurd h (Nat.not_lt_zero _)
  | _ + 1, 0, _, _, h => absurd h (Nat.not_lt_zero _)
  | n + 1, m + 1, a, h1, h2 => by
    unfold placesN
    by_cases c : a < cs.length
    · rw [if_pos c, if_pos c]
      have g1 := endN_gt cs a
      have g2 := skipN_ge cs (endN cs a)
      rw [placesN_more cs n m _ (by omega) (by omega)]
    · rw [if_neg c, if_neg c]
/-- a token: a run of word signs, or another sign by itself -/
def Good (p : List Nat) : Prop := (p ≠ [] ∧ ∀ c ∈ p, isWord c = true) ∨ ∃ c, p = [c] ∧ isWord c = false ∧ c ≠ 32 ∧ c ≠ 10 ∧ c ≠ 35
theorem word_not : isWord 32 = false ∧ isWord 10 = false ∧ isWord 35 = false := by decide +kernel
theorem Good.ne {p : List Nat} (h : Good p) : p ≠ [] := by
  rcases h with h | ⟨c, h, _⟩
  · exact h.1
  · rw [h]; exact List.cons_ne_nil _ _
theorem Good.sign {p : List Nat} (h : Good p) {c : Nat} (hc : c ∈ p) : c ≠ 32 ∧ c ≠ 10 ∧ c ≠ 35 := by
  rcases h with h | ⟨d, e, _, h1⟩
  · have q := h.2 c hc
    refine ⟨fun z => ?_, fun z => ?_, fun z => ?_⟩
    · rw [z, word_not.1] at q; cases q
    · rw [z, word_not.2.1] at q; cases q
    · rw [z, word_not.2.2] at q; cases q
  · rw [e, List.mem_singleton] at hc
    rw [hc]; exact h1
theorem take_all {f : Nat → Bool} : ∀ {p : List Nat} {q : List Nat}, (∀ c ∈ p, f c = true) → (p ++ q).takeWhile f = p ++ q.takeWhile f
  | [], _, _ => rfl
  | c :: p, q, h => by
    rw [List.cons_append, List.takeWhile_cons, h c List.mem_cons_self, if_pos rfl, take_all fun d hd => h d (List.mem_cons_of_mem _ hd)]
    rfl
/-- what stands behind a token begins with no word sign -/
def Off (q : List Nat) : Prop := q = [] ∨ ∃ r, q = 32 :: r
theorem off_take {q : List Nat} (h : Off q) : q.takeWhile isWord = [] := by
  rcases h with rfl | ⟨r, rfl⟩
  · rfl
  · rw [List.takeWhile_cons, word_not.1]; rfl
theorem end_of {pre p q : List Nat} (g : Good p) (h : Off q) : endN (pre ++ (p ++ q)) pre.length = pre.length + p.length := by
  unfold endN
  rw [List.drop_append_of_le_length (Nat.le_refl _), List.drop_length, List.nil_append]
  rcases g with g | ⟨c, e, hc, _⟩
  · rw [take_all g.2, off_take h, List.append_nil]
    have : 0 < p.length := List.length_pos_iff.mpr g.1
    omega
  · rw [e, List.cons_append, List.takeWhile_cons, hc]
    show max (pre.length + 0) (pre.length + 1) = pre.length + 1
    omega
theorem skip_none {pre q : List Nat} (h : ∀ c r, q = c :: r → c ≠ 32) : skipN (pre ++ q) pre.length = pre.length := by
  unfold skipN
  rw [List.drop_append_of_le_length (Nat.le_refl _), List.drop_length, List.nil_append]
  cases q with
  | nil => rfl
  | cons c r =>
    rw [List.takeWhile_cons]
    have : blankN c = false := decide_eq_false (h c r rfl)
    rw [this]
    rfl
theorem join_head {p : List Nat} {r : List (List Nat)} (g : ∀ x ∈ p :: r, Good x) : ∀ c q, TL.joinL [32] (p :: r) = c :: q → c ≠ 32 := by
  intro c q h
  have gp := g p List.mem_cons_self
  obtain ⟨d, p', e⟩ : ∃ d p', p = d :: p' := by
    cases p with
    | nil => exact absurd rfl gp.ne
    | cons d p' => exact ⟨d, p', rfl⟩
  have hd : d ≠ 32 := (gp.sign (c := d) (by rw [e]; exact List.mem_cons_self)).1
  have : c = d := by
    cases r with
    | nil =>
      have h' : p = c :: q := h
      rw [e] at h'
      exact (List.cons.inj h').1.symm
    | cons x r =>
      have h' : p ++ ([32] ++ TL.joinL [32] (x :: r)) = c :: q := h
      rw [e] at h'
      exact (List.cons.inj h').1.symm
  rw [this]; exact hd
/-- the read-back: the places of the tokens of a joined row, and what stands there -/
theorem tokens_back : ∀ (parts : List (List Nat)) (pre : List Nat) (n : Nat), (∀ x ∈ parts, Good x) → parts ≠ [] → parts.length < n →
    (placesN (pre ++ TL.joinL [32] parts) n pre.length).map (fun a => ((pre ++ TL.joinL [32] parts).drop a).take (endN (pre ++ TL.joinL [32] parts) a - a)) = parts
  | [], _, _, _, h, _ => absurd rfl h
  | [p], pre, 0, _, _, h => absurd h (Nat.not_lt_zero _)
  | [p], pre, n + 1, g, _, hn => by
    have gp := g p List.mem_cons_self
    have e0 : TL.joinL [32] [p] = p := rfl
    rw [e0]
    have hl : 0 < p.length := List.length_pos_iff.mpr gp.ne
    have ee : endN (pre ++ p) pre.length = pre.length + p.length := by
      have q := end_of (pre := pre) (q := []) gp (.inl rfl)
      rw [List.append_nil] at q
      exact q
    unfold placesN
    rw [if_pos (by rw [List.length_append]; omega), ee]
    have es : skipN (pre ++ p) (pre.length + p.length) = pre.length + p.length := by
      have q := skip_none (pre := pre ++ p) (q := []) (fun c r z => by cases z)
      rw [List.append_nil, List.length_append] at q
      exact q
    rw [es]
    have e2 : placesN (pre ++ p) n (pre.length + p.length) = [] := by
      cases n with
      | zero => rfl
      | succ n =>
        unfold placesN
        rw [if_neg (by rw [List.length_append]; omega)]
    rw [e2, List.map_cons, List.map_nil, ee]
    rw [List.drop_append_of_le_length (Nat.le_refl _), List.drop_length, List.nil_append, Nat.add_sub_cancel_left, List.take_length]
  | p :: x :: r, pre, 0, _, _, h => absurd h (Nat.not_lt_zero _)
  | p :: x :: r, pre, n + 1, g, _, hn => by
    have gp := g p List.mem_cons_self
    have gr : ∀ y ∈ x :: r, Good y := fun y hy => g y (List.mem_cons_of_mem _ hy)
    have e0 : TL.joinL [32] (p :: x :: r) = p ++ ([32] ++ TL.joinL [32] (x :: r)) := rfl
    have ih := tokens_back (x :: r) (pre ++ p ++ [32]) n gr (List.cons_ne_nil _ _) (by simpa using hn)
    have hh := join_head gr
    rw [e0]
    generalize TL.joinL [32] (x :: r) = J at *
    have eC : pre ++ (p ++ ([32] ++ J)) = pre ++ p ++ [32] ++ J := by simp
    have hl : 0 < p.length := List.length_pos_iff.mpr gp.ne
    have ee : endN (pre ++ (p ++ ([32] ++ J))) pre.length = pre.length + p.length := end_of gp (.inr ⟨J, rfl⟩)
    have es : skipN (pre ++ (p ++ ([32] ++ J))) (pre.length + p.length) = (pre ++ p ++ [32]).length := by
      have e1 : pre ++ (p ++ ([32] ++ J)) = (pre ++ p) ++ (32 :: J) := by simp
      have q : skipN ((pre ++ p) ++ (32 :: J)) (pre ++ p).length = (pre ++ p).length + 1 := by
        unfold skipN
        rw [List.drop_append_of_le_length (Nat.le_refl _), List.drop_length, List.nil_append, List.takeWhile_cons]
        have : blankN 32 = true := rfl
        rw [this, if_pos rfl]
        have z : J.takeWhile blankN = [] := by
          cases J with
          | nil => rfl
          | cons c q =>
            rw [List.takeWhile_cons]
            have : blankN c = false := decide_eq_false (hh c q rfl)
            rw [this]
            rfl
        rw [z]
        rfl
      rw [List.length_append] at q
      rw [e1, q]
      simp
      omega
    unfold placesN
    rw [if_pos (by simp; omega), ee, es, List.map_cons, ee]
    rw [eC] at *
    rw [ih]
    congr 1
    rw [show pre ++ p ++ [32] ++ J = pre ++ (p ++ ([32] ++ J)) by simp, List.drop_append_of_le_length (Nat.le_refl _), List.drop_length, List.nil_append, Nat.add_sub_cancel_left]
    exact List.take_left
end K07

namespace K07
open PySem L2
/-! ### runs of signs -/
def runN (f : Nat → Bool) (cs : List Nat) (a : Nat) : Nat := a + ((cs.drop a).takeWhile f).length
theorem run_more {f : Nat → Bool} {cs : List Nat} {a c : Nat} (h : cs[a]? = some c) (hf : f c = true) : runN f cs a = runN f cs (a + 1) := by
  obtain ⟨hl, e⟩ := List.getElem?_eq_some_iff.mp h
  unfold runN
  rw [List.drop_eq_getElem_cons hl, e, List.takeWhile_cons, hf, if_pos rfl, List.length_cons]
  omega
theorem run_stop {f : Nat → Bool} {cs : List Nat} {a c : Nat} (h : cs[a]? = some c) (hf : f c = false) : runN f cs a = a := by
  obtain ⟨hl, e⟩ := List.getElem?_eq_some_iff.mp h
  unfold runN
  rw [List.drop_eq_getElem_cons hl, e, List.takeWhile_cons, hf]
  rfl
theorem run_off {f : Nat → Bool} {cs : List Nat} {a : Nat} (h : cs.length ≤ a) : runN f cs a = a := by
  unfold runN
  rw [List.drop_eq_nil_of_le h]
  rfl
theorem run_le {f : Nat → Bool} {cs : List Nat} {a : Nat} (h : a ≤ cs.length) : runN f cs a ≤ cs.length := by
  unfold runN
  have h1 : ((cs.drop a).takeWhile f).length ≤ (cs.drop a).length := (List.takeWhile_sublist f).length_le
  rw [List.length_drop] at h1
  omega
theorem skip_run (cs : List Nat) (a : Nat) : skipN cs a = runN blankN cs a := rfl
theorem end_run (cs : List Nat) (a : Nat) : endN cs a = max (runN isWord cs a) (a + 1) := rfl
def placesAll (cs : List Nat) (a : Nat) : List Nat := placesN cs (cs.length + 1) a
theorem places_more {cs : List Nat} {a : Nat} (h : a < cs.length) : placesAll cs a = a :: placesAll cs (skipN cs (endN cs a)) := by
  have g1 := endN_gt cs a
  have g2 := skipN_ge cs (endN cs a)
  conv => lhs; unfold placesAll placesN
  rw [if_pos h]
  unfold placesAll
  rw [placesN_more cs cs.length (cs.length + 1) _ (by omega) (by omega)]
theorem places_stop {cs : List Nat} {a : Nat} (h : cs.length ≤ a) : placesAll cs a = [] := by
  unfold placesAll placesN
  rw [if_neg (by omega)]
theorem end_le {cs : List Nat} {a : Nat} (h : a < cs.length) : endN cs a ≤ cs.length := by
  rw [end_run]
  exact Nat.max_le.mpr ⟨run_le (Nat.le_of_lt h), h⟩
theorem places_lt {cs : List Nat} : ∀ (n a b : Nat), b ∈ placesN cs n a → b < cs.length
  | 0, _, _, h => by cases h
  | n + 1, a, b, h => by
    unfold placesN at h
    by_cases c : a < cs.length
    · rw [if_pos c] at h
      rcases List.mem_cons.mp h with e | e
      · rw [e]; exact c
      · exact places_lt n _ b e
    · rw [if_neg c] at h
      cases h
theorem places_len {cs : List Nat} : ∀ (n a : Nat), (placesN cs n a).length ≤ cs.length - a
  | 0, _ => Nat.zero_le _
  | n + 1, a => by
    unfold placesN
    by_cases c : a < cs.length
    · rw [if_pos c, List.length_cons]
      have g1 := endN_gt cs a
      have g2 := skipN_ge cs (endN cs a)
      have := places_len n (skipN cs (endN cs a)) (cs := cs)
      omega
    · rw [if_neg c]; exact Nat.zero_le _
/-! ### the signs that are passed over -/
def PASSED : Str := " \n#"
theorem passed_list : PASSED.cps.toList = [32, 10, 35] := by decide +kernel
theorem in_passed {c : Nat} (h : c ≠ 10 ∧ c ≠ 35) : decide (c ∈ PASSED.cps.toList) = blankN c := by
  rw [passed_list]
  unfold blankN
  by_cases e : c = 32
  · rw [decide_eq_true e]
    exact decide_eq_true (by rw [e]; exact List.mem_cons_self)
  · rw [decide_eq_false e]
    refine decide_eq_false fun z => ?_
    simp only [List.mem_cons, List.not_mem_nil, or_false] at z
    omega
theorem blank_facts : (!decide (V.str (⟨#[32]⟩ : Str) = V.str "\n")) = true ∧ decide (V.str (⟨#[32]⟩ : Str) = V.str "#") = false := by decide +kernel
/-! ### comprehensions without a test -/
theorem lc_listM {K : PySem.W.Frag} {a : Addr} {xs : List V} {g : TG} {te : TE} {vs : List Nat} {σ : L2.St} {H1 : Hp} {D : Addr} {Qd : Hp → Prop} (Pv : Nat → Hp → Prop) (h0 : Pv 0 (upd H1 D (.lst []))) (hl : ∀ i H, i ≤ xs.length → Pv i H → SqL K H a xs)
    (hs : ∀ i x H, xs[i]? = some x → Pv i H → g x (wipe σ vs) H fun σ2 H2 => wipe σ2 vs = wipe σ vs ∧ te σ2 H2 fun y H4 => ∃ acc, H4 D = some (.lst acc) ∧ acc.length < sizeLine ∧ Pv (i + 1) (upd H4 D (.lst (acc ++ [y])))) (hd : ∀ H, Pv xs.length H → Qd H) :
    ∃ W : Nat → Nat → Hp → Prop, (∃ m, W 0 m (upd H1 D (.lst []))) ∧ ∀ i m H, W i m H →
      ((Itl K a).stop i H ∧ Qd H) ∨ ((Itl K a).go i H ∧ ∃ Nx : Hp → Prop, (∀ H', Nx H' → ∃ m', m' < m ∧ W (i + 1) m' H') ∧ ∀ x H', (Itl K a).yld i H x H' → g x (wipe σ vs) H' fun σ2 H2 => wipe σ2 vs = wipe σ vs ∧ tYes σ2 H2 fun b H3 =>
        if b = true then te σ2 H3 fun y H4 => ∃ acc, H4 D = some (.lst acc) ∧ acc.length < sizeLine ∧ Nx (upd H4 D (.lst (acc ++ [y]))) else Nx H3) := lc_list (tt := tYes) Pv h0 hl hs hd
theorem lc_tupM {K : PySem.W.Frag} {a : Addr} {xs : List V} {g : TG} {te : TE} {vs : List Nat} {σ : L2.St} {H1 : Hp} {D : Addr} {Qd : Hp → Prop} (Pv : Nat → Hp → Prop) (h0 : Pv 0 (upd H1 D (.lst []))) (hl : ∀ i H, i ≤ xs.length → Pv i H → SqT K H a xs)
    (hs : ∀ i x H, xs[i]? = some x → Pv i H → g x (wipe σ vs) H fun σ2 H2 => wipe σ2 vs = wipe σ vs ∧ te σ2 H2 fun y H4 => ∃ acc, H4 D = some (.lst acc) ∧ acc.length < sizeLine ∧ Pv (i + 1) (upd H4 D (.lst (acc ++ [y])))) (hd : ∀ H, Pv xs.length H → Qd H) :
    ∃ W : Nat → Nat → Hp → Prop, (∃ m, W 0 m (upd H1 D (.lst []))) ∧ ∀ i m H, W i m H →
      ((Itt K a).stop i H ∧ Qd H) ∨ ((Itt K a).go i H ∧ ∃ Nx : Hp → Prop, (∀ H', Nx H' → ∃ m', m' < m ∧ W (i + 1) m' H') ∧ ∀ x H', (Itt K a).yld i H x H' → g x (wipe σ vs) H' fun σ2 H2 => wipe σ2 vs = wipe σ vs ∧ tYes σ2 H2 fun b H3 =>
        if b = true then te σ2 H3 fun y H4 => ∃ acc, H4 D = some (.lst acc) ∧ acc.length < sizeLine ∧ Nx (upd H4 D (.lst (acc ++ [y]))) else Nx H3) := lc_tup (tt := tYes) Pv h0 hl hs hd
theorem lc_rangeM {lo : Int} {n : Nat} {g : TG} {te : TE} {vs : List Nat} {σ : L2.St} {H1 : Hp} {D : Addr} {Qd : Hp → Prop} (Pv : Nat → Hp → Prop) (h0 : Pv 0 (upd H1 D (.lst [])))
    (hs : ∀ i H, i < n → Pv i H → g (.int (lo + i)) (wipe σ vs) H fun σ2 H2 => wipe σ2 vs = wipe σ vs ∧ te σ2 H2 fun y H4 => ∃ acc, H4 D = some (.lst acc) ∧ acc.length < sizeLine ∧ Pv (i + 1) (upd H4 D (.lst (acc ++ [y])))) (hd : ∀ H, Pv n H → Qd H) :
    ∃ W : Nat → Nat → Hp → Prop, (∃ m, W 0 m (upd H1 D (.lst []))) ∧ ∀ i m H, W i m H →
      ((Itr lo n).stop i H ∧ Qd H) ∨ ((Itr lo n).go i H ∧ ∃ Nx : Hp → Prop, (∀ H', Nx H' → ∃ m', m' < m ∧ W (i + 1) m' H') ∧ ∀ x H', (Itr lo n).yld i H x H' → g x (wipe σ vs) H' fun σ2 H2 => wipe σ2 vs = wipe σ vs ∧ tYes σ2 H2 fun b H3 =>
        if b = true then te σ2 H3 fun y H4 => ∃ acc, H4 D = some (.lst acc) ∧ acc.length < sizeLine ∧ Nx (upd H4 D (.lst (acc ++ [y]))) else Nx H3) := lc_range (tt := tYes) Pv h0 hs hd
/-! ### the promises -/
def spSkipped : Sp := fun vs H Q _ => ∃ (x : Str) (a : Nat), vs = [.str x, .int a] ∧ Clean x.cps.toList ∧ x.length ≤ 600000 ∧ Q (.int (skipN x.cps.toList a : Nat)) H
def spTokEnd : Sp := fun vs H Q _ => ∃ (x : Str) (a : Nat), vs = [.str x, .int a] ∧ x.length ≤ 600000 ∧ Q (.int (endN x.cps.toList a : Nat)) H
def spTokPlaces : Sp := fun vs H Q _ => ∃ x : Str, vs = [.str x] ∧ Clean x.cps.toList ∧ x.length ≤ 600000 ∧
  ∀ H' p, Same H H' → H' p = some (.tup ((placesAll x.cps.toList (skipN x.cps.toList 0)).map fun n : Nat => V.int n)) → Q (.ref p) H'
def cutN (cs : List Nat) (a : Nat) : List Nat := (cs.drop a).take (endN cs a - a)
def tokensN (cs : List Nat) : List (List Nat) := (placesAll cs (skipN cs 0)).map (cutN cs)
def spTokensOf : Sp := fun vs H Q _ => ∃ x : Str, vs = [.str x] ∧ Clean x.cps.toList ∧ x.length ≤ 600000 ∧
  ∀ H' p, Same H H' → H' p = some (.tup ((tokensN x.cps.toList).map fun t => V.str ⟨t.toArray⟩)) → Q (.ref p) H'
section
variable {P : Program} {u0 : World} {K : PySem.W.Frag} {mg : Str → Option Value} {base : Heap}
abbrev nSK : List Str := ["text", "at", "is_remark"]
abbrev pSK : List Str := ["text", "at"]
theorem scSK : FnScope nSK pSK (defScope sSkipped) := ⟨rfl, rfl, rfl, by decide +kernel, rfl, by decide +kernel, by decide +kernel⟩
theorem len_list (x : Str) : x.length = x.cps.toList.length := Array.length_toList.symm
theorem ok_skipped {f : Addr} {fd : FuncData} (F : Fun K "skipped" "skipped" sSkipped f fd) (B : Bl mg) : FnOk P u0 K mg base CX0 1 f fd pSK spSkipped := by
  refine F.ok scSK (fun vs H Q E h => ?_) (fun cdv A outer s0 H vs Q E hr h => ?_)
  · obtain ⟨_, _, rfl, _⟩ := h
    rfl
  obtain ⟨x, a, rfl, hc, hl, q⟩ := h
  refine ⟨_, pss_cons (ps_set (i := 2) scSK.nd rfl (.inl rfl) pe_bl)
    (pss_cons (ps_while PassesOwn.never (L2.PW.pt (pw_and (pt_cmpR op_lt (pv 1) (pe_callB call_len_str (by rfl) B.len PySem.boot_len (pa_cons (pv 0) pa_nil)) (nomark _))
        (pw_and1 (L2.PW.pt (pw_or (pt_val (pv 2)) (pw_or1 (pt_cmpR op_in_sign (pe_ix ix_str (pv 0) (pv 1) (fun _ _ => rfl)) pe_str rfl)))))))
      (pss_cons (ps_set (i := 2) scSK.nd rfl (.inl rfl) (pe_and (pe_cmpR op_ne (pe_ix ix_str (pv 0) (pv 1) (fun _ _ => rfl)) pe_str (nomark _)) (pe_one (pe_or (pv 2) (pe_one (pe_cmpR op_eq (pe_ix ix_str (pv 0) (pv 1) (fun _ _ => rfl)) pe_str (nomark _)))))))
      (pss_one (ps_set (i := 1) scSK.nd rfl (.inl rfl) (pe_op op_add (pv 1) pe_int)))))
    (pss_one (ps_ret (pv 1)))), ?_⟩
  have hL := len_list x
  have hsz : x.length ≤ sizeLine := small5 (Nat.le_trans hl (by decide))
  refine ⟨fun m σ G => ∃ b : Nat, σ = [some (.str x), some (.int b), some (.bl false)] ∧ G = H ∧ m = x.cps.toList.length - b ∧ skipN x.cps.toList b = skipN x.cps.toList a, ⟨_, a, rfl, rfl, rfl, rfl⟩, ?_⟩
  rintro m σ G ⟨b, rfl, rfl, rfl, e⟩
  refine ⟨_, rfl, _, rfl, x, rfl, hsz, _, _, rfl, rfl, _, rfl, ?_⟩
  by_cases hlt : b < x.cps.toList.length
  rotate_left
  · refine ifF (decide_eq_false (by rw [hL]; omega)) ?_
    refine ifF rfl ?_
    refine ⟨_, rfl, ?_⟩
    rw [← e, skip_run, run_off (by omega)] at q
    exact q
  refine ifT (decide_eq_true (by rw [hL]; omega)) ?_
  have hg : x.cps.toList[b]? = some x.cps.toList[b] := List.getElem?_eq_getElem hlt
  have hcc := hc _ (List.getElem_mem hlt)
  generalize x.cps.toList[b] = c at hg hcc
  refine ⟨_, rfl, false, rfl, ?_⟩
  refine ifF rfl ?_
  refine ⟨_, rfl, _, rfl, x, _, _, rfl, rfl, hsz, atI_nat hg, c, PASSED, rfl, rfl, _, rfl, ?_⟩
  rw [in_passed hcc]
  cases hb : blankN c with
  | false =>
    refine ifF rfl ?_
    refine ⟨_, rfl, ?_⟩
    rw [← e, skip_run, run_stop hg hb] at q
    exact q
  | true =>
    have ec : c = 32 := of_decide_eq_true hb
    subst ec
    refine ifT rfl ?_
    refine ⟨_, fun _ _ z => z, ?_⟩
    refine ⟨_, rfl, _, rfl, x, _, _, rfl, rfl, hsz, atI_nat hg, ?_⟩
    refine ⟨rfl, _, rfl, ?_⟩
    refine ifT blank_facts.1 ?_
    refine ⟨_, rfl, false, rfl, ?_⟩
    refine ifF rfl ?_
    refine ⟨_, rfl, _, rfl, x, _, _, rfl, rfl, hsz, atI_nat hg, ?_⟩
    refine ⟨rfl, ?_⟩
    refine ⟨_, rfl, _, _, rfl, rfl, ?_⟩
    refine ⟨x.cps.toList.length - (b + 1), by omega, b + 1, ?_, rfl, rfl, ?_⟩
    · rw [blank_facts.2]; rfl
    · rw [← e, skip_run, skip_run, run_more hg hb]
abbrev nTE : List Str := ["text", "at", "end"]
theorem scTE : FnScope nTE pSK (defScope sTokEnd) := ⟨rfl, rfl, rfl, by decide +kernel, rfl, by decide +kernel, by decide +kernel⟩
theorem max_end (a b : Nat) : (if (b : Int) + 1 > (a : Int) then (b : Int) + 1 else (a : Int)) = ((max a (b + 1) : Nat) : Int) := by
  by_cases c : (b : Int) + 1 > (a : Int)
  · rw [if_pos c]; omega
  · rw [if_neg c]; omega
theorem ok_tokEnd {f : Addr} {fd : FuncData} (F : Fun K "token_end" "token_end" sTokEnd f fd) (B : Bl mg) (C : Cst K u0 mg) : FnOk P u0 K mg base CX0 1 f fd pSK spTokEnd := by
  refine F.ok scTE (fun vs H Q E h => ?_) (fun cdv A outer s0 H vs Q E hr h => ?_)
  · obtain ⟨_, _, rfl, _⟩ := h
    rfl
  obtain ⟨x, a, rfl, hl, q⟩ := h
  obtain ⟨_, cS⟩ := C.signs
  refine ⟨_, pss_cons (ps_set (i := 2) scTE.nd rfl (.inl rfl) (pv 1))
    (pss_cons (ps_while PassesOwn.never (L2.PW.pt (pw_and (pt_cmpR op_lt (pv 2) (pe_callB call_len_str (by rfl) B.len PySem.boot_len (pa_cons (pv 0) pa_nil)) (nomark _))
        (pw_and1 (pt_cmpR op_in_sign (pe_ix ix_str (pv 0) (pv 2) (fun _ _ => rfl)) (pe_glob rfl cS rvS) rfl))))
      (pss_one (ps_set (i := 2) scTE.nd rfl (.inl rfl) (pe_op op_add (pv 2) pe_int))))
    (pss_one (ps_ret (pe_callB (call_max2 rfl) (by rfl) B.max (by decide +kernel) (pa_cons (pv 2) (pa_cons (pe_op op_add (pv 1) pe_int) pa_nil)))))), ?_⟩
  have hL := len_list x
  have hsz : x.length ≤ sizeLine := small5 (Nat.le_trans hl (by decide))
  refine ⟨_, rfl, fun m σ G => ∃ b : Nat, σ = [some (.str x), some (.int a), some (.int b)] ∧ G = H ∧ m = x.cps.toList.length - b ∧ runN isWord x.cps.toList b = runN isWord x.cps.toList a, ⟨_, a, rfl, rfl, rfl, rfl⟩, ?_⟩
  rintro m σ G ⟨b, rfl, rfl, rfl, e⟩
  have fin : runN isWord x.cps.toList b = b → tRet (tCB (fun xs H Q => ∃ i j, xs = [.int i, .int j] ∧ Q (.int (if j > i then j else i)) H) (tCons (tVar 2) (tCons (tOp (rI0 fun i j => V.int (i + j)) (tVar 1) (tC (V.int 1))) tNil)))
      { nx := fun _ H' => Q .non H', rt := Q } [some (.str x), some (.int a), some (.int b)] G := fun eb => by
    refine ⟨_, rfl, _, rfl, _, _, rfl, rfl, _, _, rfl, ?_⟩
    rw [end_run, ← e, eb, ← max_end] at q
    exact q
  refine ⟨_, rfl, _, rfl, x, rfl, hsz, _, _, rfl, rfl, _, rfl, ?_⟩
  by_cases hlt : b < x.cps.toList.length
  rotate_left
  · refine ifF (decide_eq_false (by rw [hL]; omega)) ?_
    exact ifF rfl (fin (run_off (by omega)))
  refine ifT (decide_eq_true (by rw [hL]; omega)) ?_
  have hg : x.cps.toList[b]? = some x.cps.toList[b] := List.getElem?_eq_getElem hlt
  generalize x.cps.toList[b] = c at hg
  refine ⟨_, rfl, _, rfl, x, _, _, rfl, rfl, hsz, atI_nat hg, c, WORDS, rfl, rfl, _, rfl, ?_⟩
  have ew : decide (c ∈ WORDS.cps.toList) = isWord c := rfl
  rw [ew]
  cases hb : isWord c with
  | false => exact ifF rfl (fin (run_stop hg hb))
  | true =>
    refine ifT rfl ?_
    refine ⟨_, fun _ _ z => z, ?_⟩
    refine ⟨_, rfl, _, _, rfl, rfl, ?_⟩
    exact ⟨x.cps.toList.length - (b + 1), by omega, b + 1, rfl, rfl, rfl, by rw [← e, run_more hg hb]⟩
abbrev nTP : List Str := ["text", "found", "at"]
theorem scTP : FnScope nTP ["text"] (defScope sTokPlaces) := ⟨rfl, rfl, rfl, by decide +kernel, rfl, by decide +kernel, by decide +kernel⟩
theorem ok_tokPlaces {f fS fE : Addr} {fd fdS fdE : FuncData} (F : Fun K "token_places" "token_places" sTokPlaces f fd) (B : Bl mg) (DS : Df K mg "skipped" sSkipped pSK fS fdS) (GS : FnOk P u0 K mg base CX0 1 fS fdS pSK spSkipped)
    (DE : Df K mg "token_end" sTokEnd pSK fE fdE) (GE : FnOk P u0 K mg base CX0 1 fE fdE pSK spTokEnd) : FnOk P u0 K mg base CX0 2 f fd ["text"] spTokPlaces := by
  refine F.ok scTP (fun vs H Q E h => ?_) (fun cdv A outer s0 H vs Q E hr h => ?_)
  · obtain ⟨_, rfl, _⟩ := h
    rfl
  obtain ⟨x, rfl, hc, hl, q⟩ := h
  refine ⟨_, pss_cons (ps_par (i := 1) (j := 2) rfl scTP.nd rfl rfl (by decide) rfl rfl (pa_cons (pe_lst pa_nil) (pa_cons (pe_call GS hr (by rfl) DS.g DS.kp DS.b .nil pass0 (pa_cons (pv 0) (pa_cons pe_int pa_nil))) pa_nil)) (by rfl))
    (pss_cons (ps_while PassesOwn.never (pt_cmpR op_lt (pv 2) (pe_callB call_len_str (by rfl) B.len PySem.boot_len (pa_cons (pv 0) pa_nil)) (nomark _))
      (pss_cons (ps_expr (pe_bm PySem.F.plainAttrs_list PySem.F.slot_list_append PySem.F.type_list_append mt_append (pv 1) (pa_cons (pv 2) pa_nil)))
      (pss_one (ps_set (i := 2) scTP.nd rfl (.inl rfl) (pe_call GS hr (by rfl) DS.g DS.kp DS.b .nil pass0 (pa_cons (pv 0) (pa_cons (pe_call GE hr (by rfl) DE.g DE.kp DE.b .nil pass0 (pa_cons (pv 0) (pa_cons (pv 2) pa_nil))) pa_nil)))))))
    (pss_one (ps_ret (pe_callTy call_tuple_of (by rfl) B.tuple (by decide +kernel) (pa_cons (pv 1) pa_nil))))), ?_⟩
  have hL := len_list x
  have hsz : x.length ≤ sizeLine := small5 (Nat.le_trans hl (by decide))
  refine ⟨Nat.zero_le _, fun p hp => ⟨_, rfl, x, 0, rfl, hc, hl, _, _, rfl, ?_⟩⟩
  refine ⟨fun m σ G => ∃ (a : Nat) (L : List Nat), σ = [some (.str x), some (.ref p), some (.int a)] ∧ Same H G ∧ G p = some (.lst (L.map fun n : Nat => V.int n)) ∧ L.length ≤ a ∧ m = x.cps.toList.length - a ∧ L ++ placesAll x.cps.toList a = placesAll x.cps.toList (skipN x.cps.toList 0),
    ⟨_, skipN x.cps.toList 0, [], rfl, same_new hp _, upd_same, Nat.zero_le _, rfl, rfl⟩, ?_⟩
  rintro m σ G ⟨a, L, rfl, sG, hG, hLa, rfl, e⟩
  refine ⟨_, rfl, _, rfl, x, rfl, hsz, _, _, rfl, rfl, _, rfl, ?_⟩
  by_cases hlt : a < x.cps.toList.length
  rotate_left
  · refine ifF (decide_eq_false (by rw [hL]; omega)) ?_
    refine ⟨_, rfl, p, _, rfl, .inl ⟨SqL.of hG, fun r hr' => ?_⟩⟩
    rw [places_stop (by omega), List.append_nil] at e
    exact q _ r (sG.trans (same_new hr' _)) (by rw [upd_same, e])
  refine ifT (decide_eq_true (by rw [hL]; omega)) ?_
  refine ⟨_, fun _ _ z => z, ?_⟩
  refine ⟨_, rfl, .inl ⟨rfl, _, SqL.of hG⟩, _, rfl, p, _, _, rfl, rfl, hG, ?_, ?_⟩
  · rw [List.length_map]
    exact small5lt (by omega)
  refine ⟨_, rfl, _, rfl, _, rfl, x, a, rfl, hl, x, _, rfl, hc, hl, ?_⟩
  have g1 := endN_gt x.cps.toList a
  have g2 := skipN_ge x.cps.toList (endN x.cps.toList a)
  refine ⟨x.cps.toList.length - skipN x.cps.toList (endN x.cps.toList a), by omega, _, L ++ [a], rfl, same_add sG hp, ?_, ?_, rfl, ?_⟩
  · rw [upd_same, List.map_append]; rfl
  · rw [List.length_append, List.length_singleton]; omega
  · rw [← e, places_more hlt, List.append_assoc]; rfl
abbrev nTO : List Str := ["text", "at"]
theorem scTO : FnScope nTO ["text"] (defScope sTokensOf) := ⟨rfl, rfl, rfl, by decide +kernel, rfl, by decide +kernel, by decide +kernel⟩
theorem cut_nat {x : Str} {a b : Nat} (ha : a ≤ x.length) (hb : b ≤ x.length) : cutS x (some (a : Int)) (some (b : Int)) = ⟨((x.cps.toList.drop a).take (b - a)).toArray⟩ := by
  have h : ∀ (n d k : Nat), k ≤ n → HT.sIx n d (some (k : Int)) = k := fun n d k hk => by
    show (if (k : Int) < 0 then ((k : Int) + n).toNat else min (k : Int).toNat n) = k
    rw [if_neg (by omega)]
    omega
  unfold cutS
  rw [h _ _ _ ha, h _ _ _ hb]
theorem ok_tokensOf {f fP fE : Addr} {fd fdP fdE : FuncData} (F : Fun K "tokens_of" "tokens_of" sTokensOf f fd) (B : Bl mg) (DP : Df K mg "token_places" sTokPlaces ["text"] fP fdP) (GP : FnOk P u0 K mg base CX0 2 fP fdP ["text"] spTokPlaces)
    (DE : Df K mg "token_end" sTokEnd pSK fE fdE) (GE : FnOk P u0 K mg base CX0 1 fE fdE pSK spTokEnd) : FnOk P u0 K mg base CX0 3 f fd ["text"] spTokensOf := by
  refine F.ok scTO (fun vs H Q E h => ?_) (fun cdv A outer s0 H vs Q E hr h => ?_)
  · obtain ⟨_, rfl, _⟩ := h
    rfl
  obtain ⟨x, rfl, hc, hl, q⟩ := h
  have hr1 : Room 1 _ := hr.mono (by decide)
  refine ⟨_, pss_one (ps_ret (pe_callTy call_tuple_of (by rfl) B.tuple (by decide +kernel) (pa_cons
      (pe_lc (own := [("at", 1)]) (g := gName 1) (tt := tYes) rfl scTO.nd (pi_tup (pe_call GP hr (by rfl) DP.g DP.kp DP.b .nil pass0 (pa_cons (pv 0) pa_nil))) (blkOk_by (N := nTO) (sc := defScope sTokensOf) (by decide +kernel)) (fun _ _ _ _ _ => pg_name (i := 1) scTO.nd rfl (Or.inl rfl)) (fun _ _ _ _ _ => pts_nil)
        (fun _ _ _ _ _ => pe_slice sl_str (pv 0) (po_some (pv 1)) (po_some (pe_call GE hr1 (by rfl) DE.g DE.kp DE.b .nil pass0 (pa_cons (pv 0) (pa_cons (pv 1) pa_nil)))))) pa_nil))), ?_⟩
  have hL := len_list x
  have hsz : x.length ≤ sizeLine := small5 (Nat.le_trans hl (by decide))
  refine ⟨_, rfl, x, rfl, hc, hl, fun H1 p s1 h1 => ⟨p, rfl, ⟨_, SqT.of h1⟩, fun D hD => lc_tupM (fun i F => Same H1 F ∧ F D = some (.lst (((placesAll x.cps.toList (skipN x.cps.toList 0)).take i).map fun a => V.str ⟨(cutN x.cps.toList a).toArray⟩))) ⟨same_new hD _, upd_same⟩
    (fun i F _ h => SqT.of (h.1 _ _ h1)) ?_ ?_⟩⟩
  · rintro i y F hy ⟨sm, e⟩
    rw [List.getElem?_map] at hy
    cases hi : (placesAll x.cps.toList (skipN x.cps.toList 0))[i]? with
    | none => rw [hi] at hy; cases hy
    | some a =>
      rw [hi] at hy
      obtain rfl : V.int (a : Int) = y := Option.some.inj hy
      have ha : a < x.cps.toList.length := places_lt _ _ _ (List.mem_of_getElem? hi)
      have hb := end_le ha
      refine ⟨rfl, _, rfl, _, rfl, _, rfl, _, rfl, _, rfl, x, a, rfl, hl, _, rfl, x, rfl, hsz, _, e, ?_, ?_, ?_⟩
      · rw [List.length_map, List.length_take]
        have := places_len (cs := x.cps.toList) (x.cps.toList.length + 1) (skipN x.cps.toList 0)
        have h2 : (placesAll x.cps.toList (skipN x.cps.toList 0)).length ≤ x.cps.toList.length - skipN x.cps.toList 0 := this
        exact small5lt (by omega)
      · exact fun b o z => by rw [upd_ne (ne_of_none z hD)]; exact sm b o z
      · rw [upd_same, List.take_add_one, hi, List.map_append, cut_nat (by omega) (by omega)]
        rfl
  · rintro F ⟨sm, e⟩
    rw [List.length_map, List.take_length] at e
    refine ⟨D, _, rfl, .inl ⟨SqL.of e, fun r hr' => ?_⟩⟩
    refine q _ r ((s1.trans sm).trans (same_new hr' _)) ?_
    rw [upd_same]
    unfold tokensN
    rw [List.map_map]
    rfl
end
end K07

namespace K07
open PySem L2
/-- a token the law writes -/
def GT (x : Str) : Prop := Good x.cps.toList ∧ Tk x
structure GRow (ts : List Str) : Prop where
  good : ∀ x ∈ ts, GT x
  ne : ts ≠ []
  sz : ts.length ≤ 1000
theorem join_codes (ts : List Str) : (Txt.join " " ts).cps.toList = TL.joinL [32] (ts.map fun x => x.cps.toList) := by
  have h := TL.tl_join " " ts
  rw [← TL.join_eq] at h
  have e : TL.tl (" " : Str) = [32] := by decide +kernel
  rw [e] at h
  exact h
theorem joinL_mem : ∀ (p : List (List Nat)) (c : Nat), c ∈ TL.joinL [32] p → c = 32 ∨ ∃ q ∈ p, c ∈ q
  | [], c, h => by cases h
  | [p], c, h => .inr ⟨p, List.mem_cons_self, h⟩
  | p :: x :: r, c, h => by
    have h' : c ∈ p ++ ([32] ++ TL.joinL [32] (x :: r)) := h
    rcases List.mem_append.mp h' with h | h
    · exact .inr ⟨p, List.mem_cons_self, h⟩
    · rcases List.mem_append.mp h with h | h
      · exact .inl (List.mem_singleton.mp h)
      · rcases joinL_mem (x :: r) c h with h | ⟨q, hq, h⟩
        · exact .inl h
        · exact .inr ⟨q, List.mem_cons_of_mem _ hq, h⟩
theorem joinL_len : ∀ (p : List (List Nat)), (∀ q ∈ p, q.length ≤ 500) → (TL.joinL [32] p).length ≤ 501 * p.length
  | [], _ => Nat.zero_le _
  | [p], h => by
    have := h p List.mem_cons_self
    show p.length ≤ 501 * 1
    omega
  | p :: x :: r, h => by
    have h1 := h p List.mem_cons_self
    have ih := joinL_len (x :: r) fun q hq => h q (List.mem_cons_of_mem _ hq)
    show (p ++ ([32] ++ TL.joinL [32] (x :: r))).length ≤ 501 * (x :: r).length.succ
    rw [List.length_append, List.length_append, List.length_singleton]
    omega
theorem GRow.parts {ts : List Str} (h : GRow ts) : ∀ q ∈ ts.map (fun x => x.cps.toList), Good q ∧ q.length ≤ 500 := by
  intro q hq
  obtain ⟨x, hx, rfl⟩ := List.mem_map.mp hq
  exact ⟨(h.good x hx).1, (h.good x hx).2.2⟩
theorem GRow.clean {ts : List Str} (h : GRow ts) : Clean (Txt.join " " ts).cps.toList := by
  intro c hc
  rw [join_codes] at hc
  rcases joinL_mem _ c hc with rfl | ⟨q, hq, hcq⟩
  · exact ⟨by decide, by decide⟩
  · exact ((h.parts q hq).1.sign hcq).2
theorem GRow.len {ts : List Str} (h : GRow ts) : (Txt.join " " ts).length ≤ 600000 := by
  rw [len_list, join_codes]
  have h1 := joinL_len _ fun q hq => (h.parts q hq).2
  have h2 := h.sz
  rw [List.length_map] at h1
  omega
theorem GRow.tokens {ts : List Str} (h : GRow ts) : tokensN (Txt.join " " ts).cps.toList = ts.map fun x => x.cps.toList := by
  rw [join_codes]
  have g : ∀ x ∈ ts.map (fun x => x.cps.toList), Good x := fun q hq => (h.parts q hq).1
  have ne : ts.map (fun x => x.cps.toList) ≠ [] := fun z => h.ne (List.map_eq_nil_iff.mp z)
  have hj : ∀ J : List Nat, J = TL.joinL [32] (ts.map fun x => x.cps.toList) → skipN J 0 = 0 := by
    intro J e
    refine skip_none (pre := []) (q := J) fun c r z => ?_
    cases hts : (ts.map fun x => x.cps.toList) with
    | nil => exact absurd hts ne
    | cons p r' =>
      rw [hts] at e g
      exact join_head g c r (by rw [← e, z])
  have lt : ∀ p : List (List Nat), (∀ x ∈ p, Good x) → p.length ≤ (TL.joinL [32] p).length := by
    intro p
    induction p with
    | nil => exact fun _ => Nat.le_refl _
    | cons q r ih =>
      intro g
      have gq := List.length_pos_iff.mpr (g q List.mem_cons_self).ne
      cases r with
      | nil => exact gq
      | cons x r =>
        have := ih fun y hy => g y (List.mem_cons_of_mem _ hy)
        show (x :: r).length + 1 ≤ (q ++ ([32] ++ TL.joinL [32] (x :: r))).length
        rw [List.length_append, List.length_append, List.length_singleton]
        omega
  have b := tokens_back (ts.map fun x => x.cps.toList) [] ((TL.joinL [32] (ts.map fun x => x.cps.toList)).length + 1) g ne (Nat.lt_succ_of_le (lt _ g))
  unfold tokensN placesAll
  rw [hj _ rfl]
  exact b
theorem GRow.vals {ts : List Str} (h : GRow ts) : ((tokensN (Txt.join " " ts).cps.toList).map fun t => V.str ⟨t.toArray⟩) = ts.map V.str := by
  rw [h.tokens, List.map_map]
  refine List.map_congr_left fun x _ => ?_
  show V.str ⟨x.cps.toList.toArray⟩ = V.str x
  rw [Array.toArray_toList]
theorem GRow.tk {ts : List Str} (h : GRow ts) : ∀ x ∈ ts, Tk x := fun x hx => (h.good x hx).2
end K07

namespace K07
namespace Own
open PySem PySem.W PySem.Calls PyProof.Rows PySem.HandSPX
/-! ### the error and its __init__: super().__init__(a text); self.at = at -/
abbrev iFn (doc pm : Value) (an : Option Addr) (cdv ct : Value) (cc : Addr) : FuncData := ksFn "__init__" "InvalidText.__init__" (L2.defArgs sErrI) (L2.defBody sErrI) (L2.defScope sErrI) .none .none doc pm an cdv ct cc
theorem sc_cell : ∀ x ∈ (L2.defScope sErrI).names, x.2 ≠ .cell := by decide +kernel
theorem sc_self : (L2.defScope sErrI).names.lookup ("self" : Str) = some .local := by decide +kernel
theorem sc_at : (L2.defScope sErrI).names.lookup ("at" : Str) = some .local := by decide +kernel
theorem sc_super : (L2.defScope sErrI).names.lookup ("super" : Str) = some .globalImplicit := by decide +kernel
theorem sc_class : (L2.defScope sErrI).names.lookup ("__class__" : Str) = some .free := by decide +kernel
/-- what the written part says of the class, at C, and of its __init__, at fI -/
structure Inv (P : Program) (K : Frag) (mg : Str → Option Value) (C fI : Addr) : Prop where
  gC : mg "InvalidText" = some (.ref C)
  gS : mg "super" = none
  cls : ∃ nm q N bs bm sn sub ab col dd k0 k1 k2 k3 k5, K.lookup C = some (excClassObj nm q C N bs bm true sn sub ab col dd k0 k1 k2 k3 k5 "ValueError.__new__") ∧ refsVE bm = true
  sa : findIn K (.ref C) "__setattr__" = some (some (.builtin "object.__setattr__"))
  ga : findIn K (.ref C) "__getattribute__" = some (some (.builtin "BaseException.__getattribute__"))
  gg : findIn K (.ref C) "__getattr__" = some none
  noN : findIn K (.ref C) "at" = some none
  iC : findIn K (.ref C) "__init__" = some (some (.ref fI))
  tC : typeIn K (.ref fI) = some (.type "function")
  kC : keepIn K (.ref C) = true
  exC : subIn K (.ref C) (.type "BaseException") = some true
  veC : subIn K (.ref C) (.type "ValueError") = some true
  tyC : typeIn K (.ref C) = some (.type "type")
  hdC : hasDictIn K C = true
  te : exmOne K (.ref C) (.ref C) = some true
  selfC : mroIn K C (.ref C) = some true
  third : nsIn K cStatics "thirdparty.any" = some none
  al : ks_superIn K C C "__init__" = some (some (.builtin "ValueError.__init__"))
  fn : ∃ (oc : Value) (od : Option Addr) (doc pm : Value) (an : Option Addr) (cda cc : Addr) (ct : Value) (osl : Array (Option Value)),
    K.lookup fI = some ⟨oc, od, .func (iFn doc pm an (.ref cda) ct cc), osl⟩ ∧ codeIn K (.ref cda) "InvalidText.__init__" = true ∧
    (∃ (ccl : Value) (cdd : Option Addr) (vs : Array Value) (ccs : Array (Option Value)) (file : Str) (tf : Tok), K.lookup cda = some ⟨ccl, cdd, .fields vs, ccs⟩ ∧ vs[2]? = some (.str file tf) ∧ ((P.main.file : Str) == file) = true) ∧
    (∃ (cl : Value) (cld : Option Addr) (csl : Array (Option Value)), K.lookup cc = some ⟨cl, cld, .cell (some (.ref C)), csl⟩)
  noS : (P.main.scope.names.lookup ("super" : Str)).isSome = false
/-- what __init__ leaves of a fresh exception at x -/
structure InitEnd (h h' : Heap) (x C dx t1 : Addr) (v : Value) : Prop where
  keep : ∀ b o, b ≠ x → h.get? b = some o → h'.get? b = some o
  obj : h'.get? x = some { cls := .ref C, dict := some dx, data := .fields #[.ref t1, .none, .none, .none, .bool false, .none] }
  dbig : h.objs.size ≤ dx
  dne : dx ≠ x
  ns : h'.Ns1 dx (fun y => if y = "at" then some v else none)
/-- a made one -/
structure Made (h h' : Heap) (e C d : Addr) (v : Value) : Prop where
  keep : ∀ b o, h.get? b = some o → h'.get? b = some o
  new : h.objs.size ≤ e
  obj : ∃ oe vs, h'.get? e = some oe ∧ oe.cls = .ref C ∧ oe.dict = some d ∧ oe.data = .fields vs ∧ vs[1]? = some .none
  dbig : h.objs.size ≤ d
  dne : d ≠ e
  ns : h'.Ns1 d (fun y => if y = "at" then some v else none)
section
variable {prog : Program} {w : World} {A : Around} {E : Value → Shared → Prop} {R : Result → Shared → Prop} {s : Shared} {K : Frag} {mg : Str → Option Value} {C fI : Addr}
/-- the bound built-in __init__ called -/
theorem call_mw {h : Heap} {g : Array GenState} {d : Drawn} {t : Nat} {os : OsState} {nm q : Str} {N : Addr} {bs bm : List Value} {sn : List Str} {sub : List Value} {ab : Bool} {col : Option Bool} {dd : Option Addr} {k0 k1 k2 k3 k5 : Option Value} {u e t0 : Addr} {rest : List Value} {Q : Value → Shared → Prop}
    (hC : h.get? C = some (excClassObj nm q C N bs bm true sn sub ab col dd k0 k1 k2 k3 k5 "ValueError.__new__")) (hbm : refsVE bm = true) (he : h.get? e = some (excO C t0)) (hu : h.get? u = some (kxs_mw "ValueError.__init__" e)) (hrest : rest.length ≤ sizeLine)
    (hq : ∀ h' t1, (∀ b o, b ≠ e → h.get? b = some o → h'.get? b = some o) → h'.get? e = some (excO C t1) → Q .none ⟨h', g, d, t, os⟩) :
    wpAny (model prog w) A (call (.ref u) rest) Q E ⟨h, g, d, t, os⟩ := by
  refine wpAny_call (codeAny_of_tree ?_)
  show wpAny _ A.in1 (callAny (.ref u) ⟨rest, []⟩) _ _ _
  simp only [callAny]
  refine wpAny_bind (wpAny_load hu ?_)
  simp only [kxs_mw, show (Value.type "method-wrapper" == Value.type "method" || Value.type "method-wrapper" == Value.type "builtin_function_or_method" || Value.type "method-wrapper" == Value.type "method-wrapper") = true by decide, if_true]
  refine KFB.if_so (by decide) ?_
  refine wpAny_bind (check_bound_init F.excBase_ValueError.toExcCallFacts hC he rfl ?_)
  refine wpAny_bind (wpAny_pure (wpAny_pure ?_))
  refine ⟨plainId_quiet F.excBase_ValueError.init.plain _, codeAny_builtin F.excBase_ValueError.initEntry ?_⟩
  exact exc_init_tree (cls := .ref C) (t0 := t0) (dv := none) (c2 := .none) (c3 := .none) (b4 := .bool false) he hrest fun h' k e' _ => hq h' _ k e'
theorem init_run (T : Inv prog K mg C fI) {x t0 : Addr} {v : Value} (X : K.In s.heap) (G : s.heap.Ns mainGlobals mg) (Bt : ∃ mb, s.heap.Ns builtinsNs mb ∧ ∀ y : Str, y ≠ "__name__" → mb y = bootBuiltins y) (hlim : s.heap.NoLimit)
    (hx : s.heap.get? x = some (excO C t0)) (hnx : K.lookup x = none) (hroom : A.depth < recursionLimit)
    (hq : ∀ h' tk dx t1, InitEnd s.heap h' x C dx t1 v → R (.ok (.ret .none)) { s with heap := h', toks := tk }) :
    codeAny (model prog w) A (.call (.ref fI) ⟨[.ref x, v], []⟩) R s := by
  obtain ⟨oc, od, doc, pm, an, cda, cc, ct, osl, ho, hcd, ⟨ccl, cdd, vs, ccs, file, tf, hcda, hvs, hfile⟩, ⟨cl, cld, csl, hcell⟩⟩ := T.fn
  obtain ⟨nm, q, N, bs, bm, sn, sub, ab, col, dd, k0, k1, k2, k3, k5, hC, hbm⟩ := T.cls
  have hcl : clsIn K C = some { name := nm, bases := bs, mro := .ref C :: bm, ns := N, qualname := q, hasDict := true, slotNames := sn, subclasses := sub, abstract := ab, collection := col, hasDel := false } := by unfold clsIn; rw [hC] <;> rfl
  obtain ⟨mb, B1, B2⟩ := Bt
  refine ks_codeAny_call_defAt (fd := iFn doc pm an (.ref cda) ct cc) (body := L2.defBody sErrI) (binds := [("self", .ref x), ("at", v)]) hroom (X _ _ ho) rfl hlim (codeRec_of X hcd) rfl (BindsTo.of_eq (by first | rfl | with_unfolding_all rfl)) sc_cell (fun y hy => ?_) (fun h₁ hn k => ?_)
  · rcases List.mem_cons.mp hy with rfl | hy
    · exact sc_self
    · obtain rfl := List.mem_singleton.mp hy
      exact sc_at
  have X₁ : K.In h₁ := X.keeps k
  have hx₁ := k _ _ hx
  have hxC : x ≠ C := fun z => by rw [z, hC] at hnx; cases hnx
  -- super().__init__('invalid text')
  refine ks_wpAt_execs_cons (ks_wpAt_Expr_any (ks_wpAt_MethodCall ?_))
  refine ks_wpAt_super_base (f := fI) (cc := cda) (fd := iFn doc pm an (.ref cda) ct cc) sc_super sc_class (by decide) rfl (X₁ _ _ ho) rfl rfl rfl (X₁ _ _ hcda) rfl hvs hfile T.noS ?_
  refine ks_loadName_global rfl sc_super (loadGlobal_builtin (G.keeps k) T.gS (B1.keeps k) ((B2 _ (by decide)).trans (by decide +kernel)) ⟨rfl, ?_⟩)
  refine wpAny_loadName_free rfl sc_class rfl ⟨_, X₁ _ _ hcell, rfl⟩ ?_
  refine wpAny_loadName_local rfl sc_self hn rfl ?_
  refine ks_wpAny_isType_cls (X₁ _ _ hC) rfl ⟨rfl, ?_⟩
  obtain ⟨hh, g, d, t, os⟩ := s
  refine ks_wpAny_call_super (X₁ _ _ hC) rfl hx₁ rfl (fun c e => by cases e) (looks_mroIn X₁ T.selfC) (fun h₂ hso k₂ => ?_)
  have X₂ : K.In h₂ := X₁.keeps k₂
  have hx₂ := k₂ _ _ hx₁
  have hal : alongIn K "__init__" (((Value.ref C :: bm).dropWhile (· != .ref C)).drop 1) = some (some (.builtin "ValueError.__init__")) := by
    have z := T.al
    unfold ks_superIn at z
    rw [hcl] at z
    exact z
  have I₂ : InstAt h₂ x (excO C t0) C none := ⟨hx₂, rfl, rfl, trivial⟩
  refine kxs_getMethod kxs_ValueError hso (looks_opaque X₂ T.third) (l₀ := .ref C :: bm) (fun A Q E s k q => wpAny_bind ((looks_clsIn X₂ hcl) A _ E s k (wpAny_pure q))) rfl X₂ hal (I₂.type.andThen (looks_subIn X₂ T.veC)) hxC (by decide) ?_
  refine kxs_callWith (i := "ValueError.__init__") (x := x) rfl (evalArgs_plain (spliced_cons (Constant_str (k := 0) (pos := ⟨7, 25, 7, 39⟩) (spliced_nil ⟨?_, ?_⟩))))
  · exact Heap.get?_push_at rfl rfl
  have k₃ : ∀ b o, h₂.get? b = some o → (h₂.push (kxs_mw "ValueError.__init__" x)).get? b = some o := fun b o e => Heap.get?_push_of_some _ e
  refine call_mw (X₂.keeps k₃ _ _ hC) hbm (k₃ _ _ hx₂) (Heap.get?_push_at rfl rfl) (by rw [sizeLine_eq]; exact (by decide : 1 ≤ 16777216)) fun h₄ t1 k₄ hx₄ => ?_
  have kk : ∀ b o, b ≠ x → hh.get? b = some o → h₄.get? b = some o := fun b o hb e => k₄ b o hb (k₃ _ _ (k₂ _ _ (k b o e)))
  have X₄ : K.In h₄ := fun a o e => kk a o (fun z => by rw [z, hnx] at e; cases e) (X a o e)
  have hLx : hh.objs.size ≠ x := Nat.ne_of_gt (Heap.lt_size hx)
  have hn₄ : h₄.Ns hh.objs.size (fun y => ([("self", .ref x), ("at", v)] : List (Str × Value)).reverse.lookup y) := by
    obtain ⟨oL, es, ep, hL, r⟩ := hn
    exact ⟨oL, es, ep, k₄ _ _ hLx (k₃ _ _ (k₂ _ _ hL)), r⟩
  -- self.at = at
  show _root_.PySem.wpAt _ _ _ (execs _ _) _ _ _
  refine ks_wpAt_execs_cons (ks_wpAt_Assign_Attr (_root_.PySem.wpAt_of_wpAny ?_))
  refine PySem.ESX.ldL (env := callEnv (iFn doc pm an (.ref cda) ct cc) hh.objs.size fI) (m := fun y => ([("self", .ref x), ("at", v)] : List (Str × Value)).reverse.lookup y) (x := "at") (v := v) ?_ rfl ?_ (hk := rfl) (hl := sc_at) (hd := by decide)
  · exact hn₄
  refine PySem.ESX.ldL (env := callEnv (iFn doc pm an (.ref cda) ct cc) hh.objs.size fI) (m := fun y => ([("self", .ref x), ("at", v)] : List (Str × Value)).reverse.lookup y) (x := "self") (v := .ref x) ?_ rfl ?_ (hk := rfl) (hl := sc_self) (hd := by decide)
  · exact hn₄
  refine set_plain X₄ (ox := excO C t1) (od := none) ⟨hx₄, rfl, rfl, trivial⟩ T.sa ?_
  refine exc_osa X₄ hx₄ hcl (show refsVE (.ref C :: bm) = true from hbm) rfl T.noN (fun h₅ tk₅ dx k₅ dn dne hx₅ hn₅ => ?_)
  show _root_.PySem.wpAt _ _ _ (execs _ _) _ _ _
  refine _root_.PySem.wpAt_of_wpAny (wpAny_execs_nil (hq h₅ tk₅ dx t1 ⟨fun b o hb e => k₅ b o hb (kk b o hb e), hx₅, ?_, dne, hn₅⟩))
  obtain ⟨oL, es, ep, hL, r⟩ := hn₄
  exact Nat.le_of_lt (Nat.lt_of_lt_of_le (Heap.lt_size hL) dn)
theorem made (T : Inv prog K mg C fI) {v : Value} (X : K.In s.heap) (G : s.heap.Ns mainGlobals mg) (Bt : ∃ mb, s.heap.Ns builtinsNs mb ∧ ∀ y : Str, y ≠ "__name__" → mb y = bootBuiltins y) (hlim : s.heap.NoLimit) (hroom : A.depth + 1 < recursionLimit)
    (hq : ∀ h' tk e d, Made s.heap h' e C d v → R (.ok (.ret (.ref e))) { s with heap := h', toks := tk }) :
    codeAny (model prog w) A (.call (.ref C) ⟨[v], []⟩) R s := by
  obtain ⟨nm, q, N, bs, bm, sn, sub, ab, col, dd, k0, k1, k2, k3, k5, hC, hbm⟩ := T.cls
  obtain ⟨hp, g, dr, tk, os⟩ := s
  have k : ∀ b o, hp.get? b = some o → ((hp.push (kdv_tup [v])).push (excO C hp.objs.size)).get? b = some o := fun b o e => Heap.get?_push_of_some _ (Heap.get?_push_of_some _ e)
  have hget : ((hp.push (kdv_tup [v])).push (excO C hp.objs.size)).get? (hp.objs.size + 1) = some (excO C hp.objs.size) := by heap_get
  have hnx : K.lookup (hp.objs.size + 1) = none := by
    cases e : K.lookup (hp.objs.size + 1) with
    | none => rfl
    | some o =>
      have z : hp.get? (hp.objs.size + 1) = some o := X _ _ e
      exact absurd (Nat.lt_of_succ_lt (Heap.lt_size z)) (Nat.lt_irrefl _)
  refine call_own F.excBase_ValueError (fun X => refsVE_contains X bm hbm) (X _ _ hC) (looks_findIn X T.iC) (fun self => bind_fn X self T.tC) (by rw [sizeLine_eq]; exact (by decide : 1 ≤ 16777216)) ?_
  obtain ⟨mb, B1, B2⟩ := Bt
  refine init_run (s := ⟨(hp.push (kdv_tup [v])).push (excO C hp.objs.size), g, dr, tk, os⟩) T (X.keeps k) (G.keeps k) ⟨mb, B1.keeps k, B2⟩ (hlim.keeps k) hget hnx ?_ fun h' tk' dx t1 ⟨k', hx, dn, dne, hns⟩ => ?_
  · show A.depth + 1 < recursionLimit
    exact hroom
  · have old : ∀ b o, hp.get? b = some o → h'.get? b = some o := fun b o e => k' b o (Nat.ne_of_lt (Nat.lt_succ_of_lt (Heap.lt_size e))) (k b o e)
    have z : hp.objs.size + 1 + 1 ≤ dx := by
      first
        | (simpa only [Heap.size_push] using dn)
        | exact dn
    exact ⟨rfl, hq h' tk' (hp.objs.size + 1) dx ⟨old, Nat.le_succ _, ⟨_, _, hx, rfl, rfl, rfl, rfl⟩, Nat.le_trans (Nat.le_trans (Nat.le_succ _) (Nat.le_succ _)) z, dne, hns⟩⟩
end
end Own
open PySem L2 PyProof.Rows
theorem relO_at {v : V} {v' : Value} (r : RelV v v') (f : Str) : RelO (List.lookup f [(("at" : Str), v)]) (if f = "at" then some v' else none) := by
  by_cases hw : f = "at"
  · subst hw
    rw [if_pos rfl]
    have q : List.lookup ("at" : Str) [(("at" : Str), v)] = some v := by simp [List.lookup]
    rw [q]
    exact r
  · rw [if_neg hw]
    have qw : (f == ("at" : Str)) = false := by simpa using hw
    have q2 : List.lookup f [(("at" : Str), v)] = none := by simp [List.lookup, qw]
    rw [q2]
    trivial
section
variable {X : Cx} {C fI : Addr}
/-- InvalidText(e) -/
def tMkIt (C : Addr) (ta : TA) : L2.St → Hp → XK → Prop := fun σ H Q => ta σ H fun vs H1 => ∃ v, vs = [v] ∧ ∀ d, H1 d = none → Q (.ref C) (some d) (upd H1 d (.xd [(("at" : Str), v)]))
theorem pmk_it {a : Expr} {ta : TA} {p pos : Pos} {k : Nat} (T : Own.Inv X.prog X.K X.mg C fI) (hr : Room k X.A) (ha : PA X [a] ta) (hg : Gl X "InvalidText" := by rfl)
    (he : starEach (a :: []) X.env = (false, eval a X.env) :: starEach [] X.env := by rfl) (hpl : (backTo pos (starEach [] X.env)).any (·.1) = false := by rfl) :
    PMk X (.Call (.Name "InvalidText" p) [a] [] pos) (tMkIt C ta) := by
  intro pins s σ H Q I h
  refine wpAny_Call_Name_kw (ld_glob I hg T.gC ?_)
  refine PySem.W.callWith_K (h₀ := X.base) I.ok.mod.kin T.kC (thn (ha.run pos pins s σ H _ I h) fun us s1 hh => ?_) he hpl
  obtain ⟨vs, H1, I1, r1, v, ev, q1⟩ := hh
  subst ev
  refine ⟨I1.kIn, ?_⟩
  cases r1 with
  | cons rv rn =>
    rename_i v' us'
    cases rn
    show wpAny _ _ (call (.ref C) [v']) _ _ _
    have hlim := I1.nolimit
    have G1 := I1.mod.glob.keeps I1.bk
    obtain ⟨mb, b1, b2⟩ := I1.mod.blt
    have B1 := b1.keeps I1.bk
    obtain ⟨hp, g, dr, tk, os⟩ := s1
    refine wpAny_call (Own.made T I1.kIn G1 ⟨mb, B1, b2⟩ hlim (by have := hr.dp; omega) fun h' tk' e d M => ?_)
    show MkP X pins σ Q (.ref e) ⟨h', g, dr, tk', os⟩
    obtain ⟨oe, fv, hoe, hc, hd, hdat, h1⟩ := M.obj
    have hns := M.ns
    obtain ⟨G', g1, g2⟩ := restrict h' fun b => decide (b ≠ e)
    have gk : ∀ b, b ≠ e → G'.get? b = h'.get? b := fun b hb => g1 b (decide_eq_true hb)
    have ge : G'.get? e = none := g2 e (by simp)
    have old : ∀ b o, hp.get? b = some o → G'.get? b = some o := fun b o q => (gk b (Nat.ne_of_lt (Nat.lt_of_lt_of_le (Heap.lt_size q) M.new))).trans (M.keep b o q)
    have ob : ObjOk X.prog X.w (upd H1 d (.xd [(("at" : Str), v)])) G' d (.xd [(("at" : Str), v)]) :=
      ⟨_, hns.at (fun o q => (gk d M.dne).trans q), fun f => relO_at rv f⟩
    have J : L2.Inv X pins σ (upd H1 d (.xd [(("at" : Str), v)])) ⟨G', g, dr, tk', os⟩ := I1.laid (t' := tk') old M.dbig ob
    refine ⟨e, oe, fv, ⟨G', g, dr, tk', os⟩, _, .ref C, some d, rfl, J, fun b o q => ?_, ge, hoe, ⟨hc, hd⟩, hdat, h1, ?_, rfl, I1.bare, raises_own T.exC T.tyC, q1 d (I1.hok.fresh M.dbig)⟩
    · by_cases hb : b = e
      · have q' : G'.get? b = some o := q
        rw [hb, ge] at q'; cases q'
      · exact (gk b hb).symm.trans q
    · rw [upd_ne (Ne.symm M.dne)]
      exact I1.hok.fresh M.new
/-- raise InvalidText(e) -/
def tRaiseIt (C : Addr) (W : WX) (ta : TA) : TS := fun _ σ H => tMkIt C ta σ H fun cls d H' => W cls d σ H'
theorem ps_raiseIt {a : Expr} {ta : TA} {W : WX} {p pos pos2 : Pos} {k : Nat} (hc : X.calm = true) (T : Own.Inv X.prog X.K X.mg C fI) (hr : Room k X.A) (tk : Takes X W) (ha : PA X [a] ta) (hg : Gl X "InvalidText" := by rfl)
    (he : starEach (a :: []) X.env = (false, eval a X.env) :: starEach [] X.env := by rfl) (hpl : (backTo pos (starEach [] X.env)).any (·.1) = false := by rfl) :
    PS X (.Raise (some (.Call (.Name "InvalidText" p) [a] [] pos)) none pos2) (tRaiseIt C W ta) := ps_raise hc tk (pmk_it T hr ha hg he hpl)
/-- wrong.at -/
def tAtIt (C : Addr) (a : Addr) (cls : Value) (d : Option Addr) (te : TE) : TE := fun σ H Q => te σ H fun x H1 => x = .ref a ∧ cls = .ref C ∧ ∃ (dd : Addr) (v : V), d = some dd ∧ H1 dd = some (.xd [(("at" : Str), v)]) ∧ Q v H1
theorem pe_atIt {a : Addr} {oe : Obj} {cls : Value} {d : Option Addr} {pn : List (Addr × Obj)} {e : Expr} {te : TE} {pos : Pos} (T : Own.Inv X.prog X.K X.mg C fI) (hz : Zc cls d oe) (hf : ∃ vs, oe.data = .fields vs) (he : PE (X.suite a ((a, oe) :: pn)) e te)
    (hb : attributeBase e "at" X.env (eval e X.env) = eval e X.env := by rfl) :
    PE (X.suite a ((a, oe) :: pn)) (.Attribute e "at" pos) (tAtIt C a cls d te) := by
  refine ⟨fun pins s σ H Q I h => ?_⟩
  refine attr_of hb (thn (he.run pins s σ H _ I h) fun u s1 hh => ?_)
  obtain ⟨x, H1, I1, rx, ex, ec, dd, v, ed, ea, q⟩ := hh
  subst ex
  obtain rfl : u = Value.ref a := rx
  subst ec
  subst ed
  obtain ⟨ha, _⟩ := I1.pin (a, oe) (List.mem_append_left _ List.mem_cons_self)
  obtain ⟨vs, hd⟩ := hf
  have hx : ObjOk X.prog X.w H1 s1.heap dd (.xd [(("at" : Str), v)]) := I1.hok dd _ ea
  obtain ⟨mA, hns, hr⟩ := hx
  obtain ⟨od, ho, hl⟩ := lookIn_ns hns
  have l : List.lookup ("at" : Str) [(("at" : Str), v)] = some v := by simp [List.lookup]
  obtain ⟨u, hu, ru⟩ := RelO.some_of (v := v) (o := mA "at") (by rw [← l]; exact hr "at")
  have J : PySem.W.InstAt s1.heap a oe C (some od) := ⟨ha, hz.1, by unfold PySem.W.notCls; rw [hd] <;> rfl, by rw [hz.2]; exact ho⟩
  exact HandSPX.exc_get I1.kIn J T.ga T.gg T.exC (PySem.W.findObj_own T.hdC T.noN rfl (by rw [hl, hu])) (handed_of ru) ⟨v, H1, I1.tok _, ru, q⟩
end
end K07

namespace K07
open PySem L2
def spReadNet (C : Addr) : Sp := fun vs H Q E => ∃ ts : List Str, vs = [.str (Txt.join " " ts)] ∧ GRow ts ∧
  ((pHouses ts 21 0 s0).2 = true → ∀ H' r xs, Same H H' → H' r = some (.tup xs) → Q (.ref r) H') ∧
  ((pHouses ts 21 0 s0).2 = false → ∀ H' d, (pHouses ts 21 0 s0).1.at_ ≤ ts.length → Same H H' → H' d = none → E (.ref C) (some d) (upd H' d (.xd [(("at" : Str), .int ((pHouses ts 21 0 s0).1.at_ : Int))])))
section
variable {P : Program} {u0 : World} {K : PySem.W.Frag} {mg : Str → Option Value} {base : Heap} {C fI : Addr}
abbrev nNT : List Str := ["text", "net", "good", "stop", "is_whole"]
theorem scNT : FnScope nNT ["text"] (defScope sReadNet) := ⟨rfl, rfl, rfl, by decide +kernel, rfl, by decide +kernel, by decide +kernel⟩
theorem ok_readNet {f fT fW : Addr} {fd fdT fdW : FuncData} (F : Fun K "read_net" "read_net" sReadNet f fd) (B : Bl mg) (T : Own.Inv P K mg C fI) (DT : Df K mg "tokens_of" sTokensOf ["text"] fT fdT) (GT : FnOk P u0 K mg base CX0 3 fT fdT ["text"] spTokensOf)
    (DW : Df K mg "walked" sWalked ["tokens"] fW fdW) (GW : FnOk P u0 K mg base CX0 22 fW fdW ["tokens"] spWalked) : FnOk P u0 K mg base (L2.CX P u0) 23 f fd ["text"] (spReadNet C) := by
  refine F.okX scNT (fun vs H Q E h => ?_) (fun cdv A outer st H vs Q E hr h => ?_)
  · obtain ⟨_, rfl, _⟩ := h
    rfl
  obtain ⟨ts, rfl, g, q1, q2⟩ := h
  have hr3 : Room 3 _ := hr.mono (by decide)
  refine ⟨_, pss_cons (ps_if (pt_not (pt_val (pe_callB call_isi (by rfl) B.isinstance (by decide +kernel) (pa_cons (pv 0) (pa_cons (pe_bltn (v := .ty "str") (u := .type "str") (by rfl) B.str (by decide +kernel) (by rfl)) pa_nil)))))
      (pss_one (ps_raiseIt rfl T hr (takes_of rfl rfl rfl rfl) (pa_cons pe_int pa_nil))) pss_nil)
    (pss_cons (ps_asg (pe_call GW hr (by rfl) DW.g DW.kp DW.b .nil pass0 (pa_cons (pe_call GT hr3 (by rfl) DT.g DT.kp DT.b .nil pass0 (pa_cons (pv 0) pa_nil)) pa_nil))
        (pg_tup (by rfl) (pgs_cons (pg_name (i := 1) scNT.nd rfl (.inl rfl)) (pgs_cons (pg_name (i := 2) scNT.nd rfl (.inl rfl)) (pgs_cons (pg_name (i := 3) scNT.nd rfl (.inl rfl)) (pgs_cons (pg_name (i := 4) scNT.nd rfl (.inl rfl)) pgs_nil))))))
    (pss_cons (ps_if (pt_not (pt_val (pv 4))) (pss_one (ps_raiseIt rfl T hr (takes_of rfl rfl rfl rfl) (pa_cons (pv 2) pa_nil))) pss_nil)
    (pss_one (ps_ret (pv 1))))), ?_⟩
  refine ⟨_, rfl, .str _, .ty "str", .type "str", .type "str", true, rfl, .ty _, .base (.str _), kit_ty (by decide +kernel), true, rfl, ?_⟩
  refine ifF rfl ?_
  refine ⟨_, rfl, Txt.join " " ts, rfl, g.clean, g.len, fun H1 t s1 h1 => ?_⟩
  rw [g.vals] at h1
  refine ⟨t, ts, rfl, h1, g.tk, g.sz, fun H2 r net sv xs hle s2 hn hr2 => ?_⟩
  refine ⟨r, _, rfl, SqT.of hr2, rfl, _, _, rfl, _, _, rfl, _, _, rfl, _, _, rfl, rfl, ?_⟩
  refine ⟨_, rfl, (pHouses ts 21 0 s0).2, rfl, ?_⟩
  cases hw : (pHouses ts 21 0 s0).2 with
  | true =>
    refine ifF rfl ?_
    exact ⟨_, rfl, q1 hw _ _ _ (s1.trans s2) hn⟩
  | false =>
    refine ifT rfl ?_
    exact ⟨_, rfl, _, rfl, fun d hd => q2 hw _ _ hle (s1.trans s2) hd⟩
def ansV : Option Int → V
  | none => .non
  | some i => .int i
def spLRead : Sp := fun vs H Q _ => ∃ ts : List Str, vs = [.str (Txt.join " " ts)] ∧ GRow ts ∧ ∀ H', Same H H' → (∀ i, pAns ts = some i → i.natAbs ≤ 1000) → Q (ansV (pAns ts)) H'
abbrev nLR : List Str := ["_law_text", "wrong"]
theorem scLR : FnScope nLR ["_law_text"] (defScope sLRead) := ⟨rfl, rfl, rfl, by decide +kernel, rfl, by decide +kernel, by decide +kernel⟩
theorem ok_lRead {f fN : Addr} {fd fdN : FuncData} (F : Fun K "_law_read" "_law_read" sLRead f fd) (B : Bl mg) (T : Own.Inv P K mg C fI) (DN : Df K mg "read_net" sReadNet ["text"] fN fdN) (GN : FnOk P u0 K mg base (L2.CX P u0) 23 fN fdN ["text"] (spReadNet C)) :
    FnOk P u0 K mg base CX0 24 f fd ["_law_text"] spLRead := by
  refine F.ok scLR (fun vs H Q E h => ?_) (fun cdv A outer st H vs Q E hr h => ?_)
  · obtain ⟨_, rfl, _⟩ := h
    rfl
  obtain ⟨ts, rfl, g, q⟩ := h
  refine ⟨_, pss_one (ps_try_as (i := 1) (tb := fun W => tRet (tIf (tB (tCB (rIsi K) (tCons (tCallS (spReadNet C) (WE W) (tCons (tVar 0) tNil)) (tCons (tC (.ty "tuple")) tNil)))) (tC .non) (tC (.int 0)))) (ts := fun a cls d => tRet (tAtIt C a cls d (tVar 1))) (Wout := fun _ _ _ _ => False) rfl rfl scLR.nd rfl rfl ⟨rfl, by decide, Or.inl T.gC⟩ takes0
          (fun W pn xe tk _ => pss_one (ps_ret (pe_ifExp (pt_val (pe_callB call_isi (by rfl) B.isinstance (by decide +kernel) (pa_cons (pe_callS GN hr (by rfl) DN.g DN.kp DN.b (fun σ => passAt tk σ) (pa_cons (pv 0) pa_nil)) (pa_cons (pe_bltn (v := .ty "tuple") (u := .type "tuple") (by rfl) B.tuple (by decide +kernel) (by rfl)) pa_nil)))) pe_non pe_int)))
          (fun a oe cls d pn hz hf => pss_one (ps_ret (pe_atIt T hz hf (pv 1))))), ?_⟩
  refine ⟨_, rfl, ts, rfl, g, fun hw H1 r xs s1 hr1 => ?_, fun hw H1 d hle s1 hd => ?_⟩
  · refine ⟨.ref r, .ty "tuple", .type "tuple", .type "tuple", true, rfl, .ty _, .base (.tup hr1), kit_ty (by decide +kernel), true, rfl, ?_⟩
    refine ifT rfl ?_
    have e : pAns ts = none := if_pos hw
    rw [e] at q
    exact q _ s1 fun i z => (nomatch z)
  · refine ⟨true, T.te, fun _ a0 _ => ?_, fun z => Bool.noConfusion z⟩
    refine ⟨_, rfl, rfl, rfl, d, _, rfl, upd_same, ?_⟩
    have e : pAns ts = some ((pHouses ts 21 0 s0).1.at_ : Int) := if_neg (by rw [hw]; exact Bool.false_ne_true)
    rw [e] at q
    have hsz := g.sz
    exact q _ (same_add s1 (s1.free hd)) fun i z => by
      obtain rfl := Option.some.inj z
      rw [Int.natAbs_natCast]
      omega
end
end K07

namespace K07
open PySem L2
def Asc (x : Str) : Prop := ∀ c ∈ x.cps.toList, c < 128
/-! ### a list against the empty one -/
theorem depth_strs : ∀ ss : List Str, PyData.depthAll (ss.map PyData.str) = 0
  | [] => rfl
  | _ :: r => by simp [PyData.depthAll, PyData.depth, depth_strs r]
theorem can_strs : ∀ ss : List Str, (∀ x ∈ ss, Asc x) → PyData.canLayAll0 (ss.map PyData.str) = true
  | [], _ => rfl
  | x :: r, h => by
    have h1 : PyData.strOk x = true := by
      unfold PyData.strOk
      rw [Array.all_eq_true_iff_forall_mem]
      intro c hc
      have := h x List.mem_cons_self c (Array.mem_toList_iff.mpr hc)
      exact decide_eq_true (by omega)
    simp [PyData.canLayAll0, PyData.canLay0, can_strs r fun y hy => h y (List.mem_cons_of_mem _ hy), h1]
theorem shaped_strs {ss : List Str} (h : ∀ x ∈ ss, Asc x) : SeqAt.shaped (.list (ss.map PyData.str)) = true := by
  simp [SeqAt.shaped, PyData.canLay0, PyData.depth, can_strs ss h, depth_strs]
theorem dp_strs {K : PySem.W.Frag} {H : Hp} : ∀ ss : List Str, DpAll K H (ss.map V.str) (ss.map PyData.str)
  | [] => .nil
  | _ :: r => .cons (.str _) (dp_strs r)
theorem eqv_nil (ds : List PyData) : PyData.eqv (.list ds) (.list []) = ds.isEmpty := by
  cases ds with
  | nil => simp [PyData.eqv, PyData.eqvAll]
  | cons d r => simp [PyData.eqv, PyData.eqvAll]
theorem ne_strs {K : PySem.W.Frag} {H : Hp} {a b : Addr} {ss : List Str} {Q : VK} (ha : H a = some (.lst (ss.map V.str))) (hb : H b = some (.lst [])) (hs : ∀ x ∈ ss, Asc x) (q : Q (.bl (!ss.isEmpty)) H) : rNeD K (.ref a) (.ref b) H Q := by
  refine ⟨.list (ss.map PyData.str), .list [], .lst (SqL.of ha) (dp_strs ss), .lst (SqL.of hb) .nil, shaped_strs hs, by decide +kernel, ?_⟩
  rw [eqv_nil, List.isEmpty_map]
  exact q
theorem asc_one {x : Str} {c : Nat} (h : Asc x) (hc : c ∈ x.cps.toList) : Asc ⟨#[c]⟩ := fun d hd => by
  have e : d = c := by simpa using hd
  rw [e]; exact h c hc
theorem filter_none {f : Nat → Bool} : ∀ l : List Nat, (l.filter fun c => !f c).isEmpty = l.all f
  | [] => rfl
  | c :: r => by
    rw [List.filter_cons, List.all_cons]
    cases f c with
    | true => exact filter_none r
    | false => rfl
/-! ### _law_number -/
def spLNum : Sp := fun vs H Q _ => ∃ (t : Str) (lo hi : Int), vs = [.str t, .int lo, .int hi] ∧ Tk t ∧ Asc t ∧ ∀ H', Same H H' → Q (.bl (inR t lo hi)) H'
section
variable {P : Program} {u0 : World} {K : PySem.W.Frag} {mg : Str → Option Value} {base : Heap}
abbrev nLN : List Str := ["_law_token", "_law_low", "_law_high", "_law_sign"]
abbrev pLN : List Str := ["_law_token", "_law_low", "_law_high"]
theorem scLN : FnScope nLN pLN (defScope sLNumber) := ⟨rfl, rfl, rfl, by decide +kernel, rfl, by decide +kernel, by decide +kernel⟩
theorem zero_head {t : Str} (h : Tk t) : ∃ c, atI t.cps.toList 0 = some c ∧ (decide (V.str ⟨#[c]⟩ = V.str "0") && decide (1 < t.cps.toList.length)) = zeroAhead t := by
  obtain ⟨⟨cs⟩⟩ := t
  obtain ⟨c, r, e⟩ : ∃ c r, cs = c :: r := by
    cases cs with
    | nil => exact absurd rfl h.1
    | cons c r => exact ⟨c, r, rfl⟩
  subst e
  refine ⟨c, atI_nat (j := 0) rfl, ?_⟩
  have z0 : ("0" : Str) = ⟨#[48]⟩ := by decide +kernel
  have e1 : decide (V.str (⟨#[c]⟩ : Str) = V.str "0") = decide (c = 48) := by
    rw [z0]
    by_cases q : c = 48
    · rw [q, decide_eq_true rfl, decide_eq_true rfl]
    · rw [decide_eq_false q]
      refine decide_eq_false fun z => q ?_
      have z' := congrArg (fun s : Str => s.cps.toList) (V.str.inj z)
      simpa using z'
  rw [e1]
  unfold zeroAhead
  simp
theorem ok_lNum {f : Addr} {fd : FuncData} (F : Fun K "_law_number" "_law_number" sLNumber f fd) (B : Bl mg) : FnOk P u0 K mg base CX0 1 f fd pLN spLNum := by
  refine F.ok scLN (fun vs H Q E h => ?_) (fun cdv A outer st H vs Q E hr h => ?_)
  · obtain ⟨_, _, _, rfl, _⟩ := h
    rfl
  obtain ⟨t, lo, hi, rfl, ht, has, q⟩ := h
  refine ⟨_, pss_cons (ps_if (L2.PW.pt (pw_or (pt_cmpR (op_neD hr.units)
        (pe_lc (own := [("_law_sign", 3)]) (g := gName 3) (tt := tTest (tOp (fun x y H Q => ∃ (c : Nat) (z : Str), x = .str ⟨#[c]⟩ ∧ y = .str z ∧ Q (.bl (!decide (c ∈ z.cps.toList))) H) (tVar 3) (tC (.str "0123456789")))) rfl scLN.nd (pi_str (pv 0)) (blkOk_by (N := nLN) (sc := defScope sLNumber) (by decide +kernel)) (fun _ _ _ _ _ => pg_name (i := 3) scLN.nd rfl (Or.inl rfl))
          (fun _ _ _ _ _ => pts_one (pt_cmpR op_notIn_sign (pv 3) pe_str rfl)) (fun _ _ _ _ _ => pv 3)) (pe_lst pa_nil) (nomark _))
      (pw_or (L2.PW.pt (pw_and (pt_cmpR op_eq (pe_ix ix_str (pv 0) pe_int (fun _ _ => rfl)) pe_str (nomark _)) (pw_and1 (pt_cmpR op_gt (pe_callB call_len_str (by rfl) B.len PySem.boot_len (pa_cons (pv 0) pa_nil)) pe_int (nomark _)))))
        (pw_or1 (pt_cmpR op_gt (pe_callB call_len_str (by rfl) B.len PySem.boot_len (pa_cons (pv 0) pa_nil)) pe_int (nomark _))))))
      (pss_one (ps_ret pe_bl)) pss_nil)
    (pss_one (ps_ret (pe_chain op_le op_le (pv 1) (pe_callTy call_int_str (by rfl) B.int (by decide +kernel) (pa_cons (pv 0) pa_nil)) (pv 2)))), ?_⟩
  have el : t.length = t.cps.toList.length := len_list t
  have hsz : t.length ≤ sizeLine := small (Nat.le_trans ht.len (by decide))
  refine ⟨_, rfl, t, rfl, fun D hD => lc_str (fun i F => Same H F ∧ F D = some (.lst ((((t.cps.toList.take i).filter fun c => !isDig c).map fun c => (⟨#[c]⟩ : Str)).map V.str))) ⟨same_new hD _, upd_same⟩ ?_ ?_⟩
  · rintro i c F hc ⟨sm, e⟩
    refine ⟨rfl, ?_⟩
    refine ⟨_, rfl, c, DIGITS, rfl, rfl, _, rfl, ?_⟩
    rw [in_digits]
    have et : t.cps.toList.take (i + 1) = t.cps.toList.take i ++ [c] := by rw [List.take_add_one, hc]; rfl
    refine if2 (fun h1 => ?_) (fun h1 => ?_)
    · refine ⟨_, rfl, _, e, ?_, ?_, ?_⟩
      · rw [List.length_map, List.length_map]
        have h2 := List.length_filter_le (fun c => !isDig c) (t.cps.toList.take i)
        rw [List.length_take] at h2
        have := ht.2
        exact small1000 (by omega)
      · exact fun b o z => by rw [upd_ne (ne_of_none z hD)]; exact sm b o z
      · rw [upd_same, et, List.filter_append, List.map_append, List.map_append]
        have e3 : ([c].filter fun c => !isDig c) = [c] := by rw [List.filter_cons, h1, if_pos rfl]; rfl
        rw [e3]
        rfl
    · refine ⟨sm, ?_⟩
      rw [et, List.filter_append]
      have e3 : ([c].filter fun c => !isDig c) = [] := by rw [List.filter_cons, h1, if_neg Bool.false_ne_true]; rfl
      rw [e3, List.append_nil]
      exact e
  rintro F ⟨sm, e⟩
  rw [List.take_length] at e
  refine ⟨Nat.zero_le _, fun p hp => ?_⟩
  refine ne_strs (by rw [upd_ne (ne_of_none e hp)]; exact e) upd_same (fun x hx => ?_) ?_
  · obtain ⟨c, hc, rfl⟩ := List.mem_map.mp hx
    exact asc_one has ((List.mem_filter.mp hc).1)
  rw [List.isEmpty_map, filter_none]
  have s2 : Same H (upd F p (.lst [])) := sm.trans (same_new hp _)
  have ea : t.cps.toList.all isDig = allDig t := rfl
  refine ⟨_, rfl, ?_⟩
  rw [ea]
  have nofit : (allDig t && !zeroAhead t && decide (t.cps.toList.length ≤ 5)) = false → inR t lo hi = false := fun z => by
    refine inR_not ?_
    unfold num
    rw [z]
    rfl
  cases ha : allDig t with
  | false =>
    refine ifT rfl ?_
    refine ifT rfl ?_
    rw [nofit (by rw [ha]; rfl)] at q
    exact q _ s2
  | true =>
    refine ifF rfl ?_
    obtain ⟨c, hc, ez⟩ := zero_head ht
    refine ⟨_, rfl, _, _, _, rfl, rfl, hsz, hc, rfl, _, rfl, ?_⟩
    have last : zeroAhead t = false → tTest (tOp (rI0 fun i j => V.bl (decide (i > j))) (tCB (fun xs H Q => ∃ z, xs = [V.str z] ∧ z.length ≤ sizeLine ∧ Q (.int z.length) H) (tCons (tVar 0) tNil)) (tC (.int 5))) (L2.start nLN [V.str t, .int lo, .int hi]) (upd F p (.lst []))
        (fun b H1 => if b = true then Q (.bl false) H1 else tRet (tChain (rI0 fun i j => V.bl (decide (i ≤ j))) (rI0 fun i j => V.bl (decide (i ≤ j))) (tVar 1) (tCB (fun xs H Q => ∃ a n, xs = [V.str a] ∧ PySem.intText? a = some n ∧ a.length ≤ 640 ∧ Q (.int n) H) (tCons (tVar 0) tNil)) (tVar 2))
          { nx := fun _ H' => Q .non H', rt := Q } (L2.start nLN [V.str t, .int lo, .int hi]) H1) := fun hz => by
      refine ⟨_, rfl, t, rfl, hsz, _, _, rfl, rfl, _, rfl, ?_⟩
      by_cases h5 : t.cps.toList.length ≤ 5
      · refine ifF (decide_eq_false (by rw [el]; omega)) ?_
        have hok : okNum t = true := by unfold okNum; rw [ha, hz]; rfl
        have hn := num_of hok h5
        have ei : inR t lo hi = (decide (lo ≤ ((digVal t.cps.toList : Nat) : Int)) && decide (((digVal t.cps.toList : Nat) : Int) ≤ hi)) := by
          unfold inR
          rw [hn]
        refine ⟨_, rfl, _, rfl, t, _, rfl, int_num hn ht, Nat.le_trans ht.len (by decide), _, _, rfl, rfl, _, rfl, ?_⟩
        rw [ei] at q
        refine if2 (fun h1 => ?_) (fun h1 => ?_)
        · rw [h1] at q
          exact ⟨_, rfl, _, _, rfl, rfl, q _ s2⟩
        · rw [h1] at q
          exact q _ s2
      · refine ifT (decide_eq_true (by rw [el]; omega)) ?_
        rw [nofit (by rw [decide_eq_false h5, Bool.and_false])] at q
        exact q _ s2
    cases h0 : decide (V.str ⟨#[c]⟩ = V.str "0") with
    | false =>
      rw [h0, Bool.false_and] at ez
      refine ifF rfl ?_
      refine ifF rfl ?_
      exact last ez.symm
    | true =>
      rw [h0, Bool.true_and] at ez
      refine ifT rfl ?_
      refine ⟨_, rfl, t, rfl, hsz, _, _, rfl, rfl, _, rfl, ?_⟩
      cases h1 : zeroAhead t with
      | true =>
        have := of_decide_eq_true (ez.trans h1)
        refine ifT (decide_eq_true (by rw [el]; omega)) ?_
        refine ifT rfl ?_
        rw [nofit (by rw [h1, Bool.not_true, Bool.and_false]; rfl)] at q
        exact q _ s2
      | false =>
        have := of_decide_eq_false (ez.trans h1)
        refine ifF (decide_eq_false (by rw [el]; omega)) ?_
        exact last h1
end
end K07

namespace K07
open PySem L2
/-! ### the law's world: a dict of six keys -/
def lK (t : Addr) (a : Int) (st : Bool) (l p h : Int) : List (Key × V) :=
  [(.inr "row", .ref t), (.inr "at", .int a), (.inr "stop", .bl st), (.inr "last", .int l), (.inr "parts", .int p), (.inr "heard", .int h)]
section
variable {H : Hp} {w t : Addr} {a p h l : Int} {st : Bool} (hw : H w = some (.dK (lK t a st l p h)))
include hw
theorem lg_row : DGet H w (.str "row") (some (.ref t)) := DGet.k (k := .inr "row") hw
theorem lg_at : DGet H w (.str "at") (some (.int a)) := DGet.k (k := .inr "at") hw
theorem lg_stop : DGet H w (.str "stop") (some (.bl st)) := DGet.k (k := .inr "stop") hw
theorem lg_last : DGet H w (.str "last") (some (.int l)) := DGet.k (k := .inr "last") hw
theorem lg_parts : DGet H w (.str "parts") (some (.int p)) := DGet.k (k := .inr "parts") hw
theorem lg_heard : DGet H w (.str "heard") (some (.int h)) := DGet.k (k := .inr "heard") hw
theorem lp_len : (lK t a st l p h).length < sizeLine := small1000 (by show 6 ≤ 1000; decide)
theorem lp_at (x : Int) : DPut H w (.str "at") (.int x) (upd H w (.dK (lK t x st l p h))) := DPut.k (k := .inr "at") (v := .int x) hw (lp_len hw)
theorem lp_stop (x : Bool) : DPut H w (.str "stop") (.bl x) (upd H w (.dK (lK t a x l p h))) := DPut.k (k := .inr "stop") (v := .bl x) hw (lp_len hw)
theorem lp_last (x : Int) : DPut H w (.str "last") (.int x) (upd H w (.dK (lK t a st x p h))) := DPut.k (k := .inr "last") (v := .int x) hw (lp_len hw)
theorem lp_parts (x : Int) : DPut H w (.str "parts") (.int x) (upd H w (.dK (lK t a st l x h))) := DPut.k (k := .inr "parts") (v := .int x) hw (lp_len hw)
theorem lp_heard (x : Int) : DPut H w (.str "heard") (.int x) (upd H w (.dK (lK t a st l p x))) := DPut.k (k := .inr "heard") (v := .int x) hw (lp_len hw)
end
/-- the law's reader stands at w in the state s, its row (ts) at t -/
structure LW (H : Hp) (w t : Addr) (ts : List Str) (s : S) : Prop where
  ob : H w = some (.dK (lK t s.at_ s.stop s.last s.parts s.heard))
  lst : H t = some (.lst (ts.map V.str))
  le : s.at_ ≤ ts.length
  tk : ∀ x ∈ ts, Tk x
  asc : ∀ x ∈ ts, Asc x
  sz : ts.length ≤ 1000
theorem LW.ne {H : Hp} {w t : Addr} {ts : List Str} {s : S} (W : LW H w t ts s) : t ≠ w := ne_of W.lst W.ob (by intro z; cases z)
theorem LW.to {H H' : Hp} {w t : Addr} {ts : List Str} {s s' : S} (W : LW H w t ts s) (b : But w H H') (hw : H' w = some (.dK (lK t s'.at_ s'.stop s'.last s'.parts s'.heard))) (le : s'.at_ ≤ ts.length) : LW H' w t ts s' :=
  ⟨hw, b _ _ W.lst W.ne, le, W.tk, W.asc, W.sz⟩
theorem LW.same {H H' : Hp} {w t : Addr} {ts : List Str} {s : S} (W : LW H w t ts s) (b : Same H H') : LW H' w t ts s := W.to (But.of b) (b _ _ W.ob) W.le
theorem LW.set {H : Hp} {w t : Addr} {ts : List Str} {s s' : S} (W : LW H w t ts s) (le : s'.at_ ≤ ts.length) : LW (upd H w (.dK (lK t s'.at_ s'.stop s'.last s'.parts s'.heard))) w t ts s' := W.to But.upd upd_same le
def optS : Option Str → V
  | none => .str ""
  | some t => .str t
def spLEat (K : PySem.W.Frag) : Sp := fun vs H Q _ => ∃ (w t : Addr) (ts : List Str) (s : S) (u : Addr) (ws : List Str) (lo hi : Int), vs = [.ref w, .ref u, .int lo, .int hi] ∧ LW H w t ts s ∧ SqL K H u (ws.map V.str) ∧
  ∀ H', But w H H' → LW H' w t ts (eat ts ws lo hi s).2 → Q (optS (eat ts ws lo hi s).1) H'
section
variable {P : Program} {u0 : World} {K : PySem.W.Frag} {mg : Str → Option Value} {base : Heap}
abbrev nLE : List Str := ["_law_world", "_law_words", "_law_low", "_law_high", "_law_token"]
abbrev pLE : List Str := ["_law_world", "_law_words", "_law_low", "_law_high"]
theorem scLE : FnScope nLE pLE (defScope sLEat) := ⟨rfl, rfl, rfl, by decide +kernel, rfl, by decide +kernel, by decide +kernel⟩
theorem ok_lEat {f fN : Addr} {fd fdN : FuncData} (F : Fun K "_law_eat" "_law_eat" sLEat f fd) (B : Bl mg) (DN : Df K mg "_law_number" sLNumber pLN fN fdN) (GN : FnOk P u0 K mg base CX0 1 fN fdN pLN spLNum) :
    FnOk P u0 K mg base CX0 2 f fd pLE (spLEat K) := by
  refine F.ok scLE (fun vs H Q E h => ?_) (fun cdv A outer st H vs Q E hr h => ?_)
  · obtain ⟨_, _, _, _, _, _, _, _, rfl, _⟩ := h
    rfl
  obtain ⟨w, t, ts, s, u, ws, lo, hi, rfl, W, hws, q⟩ := h
  have hu := hu_of hr
  refine ⟨_, pss_cons (ps_if (L2.PW.pt (pw_or (pt_val (pe_dget hu (pv 0) pe_str (fun _ _ => rfl))) (pw_or1 (pt_cmpR op_eq (pe_dget hu (pv 0) pe_str (fun _ _ => rfl)) (pe_callB call_len_seq (by rfl) B.len PySem.boot_len (pa_cons (pe_dget hu (pv 0) pe_str (fun _ _ => rfl)) pa_nil)) (nomark _)))))
      (pss_cons (ps_dput hu (pv 0) pe_str pe_bl rfl) (pss_one (ps_ret pe_str))) pss_nil)
    (pss_cons (ps_set (i := 4) scLE.nd rfl (.inl rfl) (pe_ix ix_list (pe_dget hu (pv 0) pe_str (fun _ _ => rfl)) (pe_dget hu (pv 0) pe_str (fun _ _ => rfl)) (fun _ _ => rfl)))
    (pss_cons (ps_if (L2.PW.pt (pw_and (pt_cmpR op_notIn_seq (pv 4) (pv 1) (by rfl)) (pw_and1 (pt_not (pt_val (pe_call GN hr (by rfl) DN.g DN.kp DN.b .nil pass0 (pa_cons (pv 4) (pa_cons (pv 2) (pa_cons (pv 3) pa_nil)))))))))
      (pss_cons (ps_dput hu (pv 0) pe_str pe_bl rfl) (pss_one (ps_ret pe_str))) pss_nil)
    (pss_cons (ps_dput hu (pv 0) pe_str (pe_op op_add (pe_dget hu (pv 0) pe_str (fun _ _ => rfl)) pe_int) rfl)
    (pss_one (ps_ret (pv 4)))))), ?_⟩
  have hw := W.ob
  refine ⟨_, rfl, w, _, rfl, lg_stop hw, s.stop, rfl, ?_⟩
  cases hst : s.stop with
  | true =>
    refine ifT rfl ?_
    refine ifT rfl ?_
    rw [eat_stop hst] at q
    refine ⟨_, rfl, w, _, rfl, lp_stop hw true, ?_⟩
    exact q _ But.upd (W.to But.upd (by rw [upd_same, hst]) W.le)
  | false =>
    rw [hst] at hw
    refine ifF rfl ?_
    refine ⟨_, rfl, w, _, rfl, lg_at hw, _, rfl, w, _, rfl, lg_row hw, t, _, rfl, .inl (SqL.of W.lst), rfl, _, rfl, ?_⟩
    rw [List.length_map]
    by_cases hat : s.at_ = ts.length
    · refine ifT (decide_eq_true (by rw [hat])) ?_
      rw [eat_none hst (by rw [hat]; exact List.getElem?_eq_none (Nat.le_refl _))] at q
      refine ⟨_, rfl, w, _, rfl, lp_stop hw true, ?_⟩
      exact q _ But.upd (W.to But.upd upd_same W.le)
    · refine ifF (decide_eq_false (fun z => hat (by have := V.int.inj z; omega))) ?_
      have hlt : s.at_ < ts.length := Nat.lt_of_le_of_ne W.le hat
      have hg : ts[s.at_]? = some ts[s.at_] := List.getElem?_eq_getElem hlt
      have hgV : (ts.map V.str)[s.at_]? = some (.str ts[s.at_]) := by rw [List.getElem?_map, hg]; rfl
      have hTk : Tk ts[s.at_] := W.tk _ (List.getElem_mem hlt)
      have hAs : Asc ts[s.at_] := W.asc _ (List.getElem_mem hlt)
      generalize ts[s.at_] = x at hg hgV hTk hAs
      refine ⟨_, rfl, w, _, rfl, lg_row hw, _, rfl, w, _, rfl, lg_at hw, t, _, _, _, rfl, rfl, SqL.of W.lst, atI_nat hgV, ?_⟩
      have yes : ∀ G, Same H G → (inW x ws || inR x lo hi) = true → tSeq (sDPut (tVar 0) (tC (.str "at")) (tOp (rI0 fun i j => V.int (i + j)) (tDGet (tVar 0) (tC (.str "at"))) (tC (.int 1)))) (tRet (tVar 4)) { nx := fun _ H' => Q .non H', rt := Q }
          [some (.ref w), some (.ref u), some (.int lo), some (.int hi), some (.str x)] G := fun G sG hy => by
        have hw1 := sG _ _ hw
        rw [eat_yes hst hg hy] at q
        refine ⟨_, rfl, w, _, rfl, lg_at hw1, _, _, rfl, rfl, _, rfl, w, _, rfl, lp_at hw1 _, ?_⟩
        have b : But w H (upd G w (.dK (lK t ((s.at_ : Int) + 1) false s.last s.parts s.heard))) := (But.of sG).trans But.upd
        exact ⟨_, rfl, q _ b (W.to (s' := { s with at_ := s.at_ + 1 }) b (by rw [upd_same, hst]; rfl) hlt)⟩
      refine ⟨_, rfl, _, rfl, u, _, rfl, .inl hws, rfl, flat_strs ws, ?_⟩
      rw [if_pos rfl, inV_strs]
      refine ⟨_, rfl, ?_⟩
      cases hin : inW x ws with
      | true =>
        refine ifF rfl ?_
        refine ifF rfl ?_
        exact yes H (Same.refl H) (by rw [hin]; rfl)
      | false =>
        refine ifT rfl ?_
        refine ⟨_, rfl, _, rfl, _, rfl, x, lo, hi, rfl, hTk, hAs, fun H1 s1 => ?_⟩
        refine ⟨inR x lo hi, rfl, ?_⟩
        cases hr' : inR x lo hi with
        | true =>
          refine ifF rfl ?_
          exact yes H1 s1 (by rw [hin, hr']; rfl)
        | false =>
          refine ifT rfl ?_
          rw [eat_no hst hg (by rw [hin, hr']; rfl)] at q
          have hw1 := s1 _ _ hw
          refine ⟨_, rfl, w, _, rfl, lp_stop hw1 true, ?_⟩
          have b : But w H (upd H1 w (.dK (lK t s.at_ true s.last s.parts s.heard))) := (But.of s1).trans But.upd
          exact q _ b (W.to b upd_same W.le)
end
end K07

namespace K07
open PySem L2
theorem optS_scal (o : Option Str) (x : Str) : scal (optS o) (.str x) = true := by cases o <;> rfl
theorem tk_ne {x : Str} (h : Tk x) : ¬ x = "" := fun z => by
  have e : ("" : Str).cps.toList = [] := by decide +kernel
  exact h.1 (by rw [z, e])
def MANYD : List (Key × V) := [(.inr "times", .int 1), (.inr "part", .int 1), (.inr "clip", .int 2), (.inr "from", .int 1), (.inr "bar", .int 3), (.inr "row", .int 1)]
theorem many_val : ∀ x ∈ ONES, valV MANYD (.inr x) = some (.int (lMany x : Int)) := by
  intro x hx
  simp only [ONES, List.mem_cons, List.not_mem_nil, or_false] at hx
  rcases hx with rfl | rfl | rfl | rfl | rfl | rfl
  all_goals decide +kernel
theorem lMany_le (x : Str) : lMany x ≤ 3 := by
  unfold lMany
  split
  · decide
  · split <;> decide
def spLGoNum : Sp := fun vs H Q _ => ∃ (w t : Addr) (ts : List Str) (s : S) (x : Str), vs = [.ref w, .str x] ∧ x ∈ ONES ∧ LW H w t ts s ∧ ∀ H', But w H H' → LW H' w t ts (lHead ts x s) → Q .non H'
section
variable {P : Program} {u0 : World} {K : PySem.W.Frag} {mg : Str → Option Value} {base : Heap}
abbrev nLG : List Str := ["_law_world", "_law_word", "_law_many", "_law_low", "_law_turn", "_law_number_here"]
abbrev pLG : List Str := ["_law_world", "_law_word"]
theorem scLG : FnScope nLG pLG (defScope sLGoNumbers) := ⟨rfl, rfl, rfl, by decide +kernel, rfl, by decide +kernel, by decide +kernel⟩
theorem ok_lGoNum {f fE : Addr} {fd fdE : FuncData} (F : Fun K "_law_go_numbers" "_law_go_numbers" sLGoNumbers f fd) (B : Bl mg) (DE : Df K mg "_law_eat" sLEat pLE fE fdE) (GE : FnOk P u0 K mg base CX0 2 fE fdE pLE (spLEat K)) :
    FnOk P u0 K mg base CX0 3 f fd pLG spLGoNum := by
  refine F.ok scLG (fun vs H Q E h => ?_) (fun cdv A outer st H vs Q E hr h => ?_)
  · obtain ⟨_, _, _, _, _, rfl, _⟩ := h
    rfl
  obtain ⟨w, t, ts, s, x, rfl, hx, W, q⟩ := h
  have hu := hu_of hr
  refine ⟨_, pss_cons (ps_set (i := 2) scLG.nd rfl (.inl rfl) (pe_dget hu (pe_disp (pps_cons pe_str pe_int (pps_cons pe_str pe_int (pps_cons pe_str pe_int (pps_cons pe_str pe_int (pps_cons pe_str pe_int (pps_cons pe_str pe_int pps_nil)))))) (by rfl) (by rfl) (fun z => by cases z) (by decide)) (pv 1) (fun _ _ => rfl)))
    (Evl.pss_cut (ps_set (i := 3) scLG.nd rfl (.inl rfl) (pe_ifExp (pt_cmpR op_eq (pv 1) pe_str (nomark _)) pe_int pe_int))
    (pss_cons (ps_for PassesOwn.never rfl (pi_range1 rfl B.range (pa_cons (pv 2) pa_nil)) (pg_name (i := 4) scLG.nd rfl (.inl rfl))
      (pss_cons (ps_set (i := 5) scLG.nd rfl (.inl rfl) (pe_call GE hr (by rfl) DE.g DE.kp DE.b .nil pass0 (pa_cons (pv 0) (pa_cons (pe_lst pa_nil) (pa_cons (pv 3) (pa_cons pe_int pa_nil))))))
      (pss_one (ps_set (i := 3) scLG.nd rfl (.inl rfl) (pe_ifExp (L2.PW.pt (pw_and (pt_cmpR op_eq (pv 1) pe_str (nomark _)) (pw_and1 (pt_cmpR op_ne (pv 5) pe_str (nomark _))))) (pe_callTy call_int_str (by rfl) B.int (by decide +kernel) (pa_cons (pv 5) pa_nil)) (pv 3))))))
    (Evl.pss_cut (ps_if (pt_cmpR op_eq (pv 1) pe_str (nomark _))
        (pss_one (ps_for PassesOwn.never rfl (pi_range1 rfl B.range (pa_cons pe_int pa_nil)) (pg_name (i := 4) scLG.nd rfl (.inl rfl))
          (pss_one (ps_if (L2.PW.pt (pw_and (pt_cmpR op_lt (pe_dget hu (pv 0) pe_str (fun _ _ => rfl)) (pe_callB call_len_seq (by rfl) B.len PySem.boot_len (pa_cons (pe_dget hu (pv 0) pe_str (fun _ _ => rfl)) pa_nil)) (nomark _))
              (pw_and1 (pt_cmpR op_ne (pe_ix ix_list (pe_dget hu (pv 0) pe_str (fun _ _ => rfl)) (pe_dget hu (pv 0) pe_str (fun _ _ => rfl)) (fun _ _ => rfl)) pe_str (nomark _)))))
            (pss_one (ps_expr (pe_call GE hr (by rfl) DE.g DE.kp DE.b .nil pass0 (pa_cons (pv 0) (pa_cons (pe_lst pa_nil) (pa_cons pe_int (pa_cons pe_int pa_nil))))))) pss_nil)))) pss_nil)
    (pss_one (ps_expr (pe_call GE hr (by rfl) DE.g DE.kp DE.b .nil pass0 (pa_cons (pv 0) (pa_cons (pe_lst (pa_cons pe_str pa_nil)) (pa_cons pe_int (pa_cons (pe_un un_neg pe_int) pa_nil)))))))))), ?_⟩
  -- the dict
  intro d hd
  refine ⟨upd_same, [(.inr "times", .int 1), (.inr "part", .int 1), (.inr "clip", .int 2), (.inr "from", .int 1), (.inr "bar", .int 3), (.inr "row", .int 1)], rfl, (by show 6 ≤ 15; decide), ?_⟩
  have em : mergeK [] [(.inr "times", V.int 1), (.inr "part", .int 1), (.inr "clip", .int 2), (.inr "from", .int 1), (.inr "bar", .int 3), (.inr "row", .int 1)] = MANYD := rfl
  rw [em]
  have s1 : Same H (upd (upd H d (.dK [])) d (.dK MANYD)) := same_add (same_new hd _) hd
  have hD : DGet (upd (upd H d (.dK [])) d (.dK MANYD)) d (.str x) (some (.int (lMany x : Int))) := by
    rw [← many_val x hx]
    exact DGet.k (k := .inr x) upd_same
  have W1 := W.same s1
  generalize upd (upd H d (.dK [])) d (.dK MANYD) = H1 at s1 hD W1
  refine ⟨_, rfl, d, _, rfl, hD, ?_⟩
  -- low
  refine ⟨fun τ G => H1 = G ∧ τ = [some (.ref w), some (.str x), some (.int (lMany x : Int)), some (.int (lowOf x)), none, none], ?_, ?_⟩
  · refine ⟨_, rfl, rfl, _, rfl, ?_⟩
    unfold lowOf
    by_cases cp : x = "part"
    · refine ifT (by rw [cp]; exact decide_eq_true rfl) ?_
      exact ⟨rfl, by rw [if_pos cp]; rfl⟩
    · refine ifF (by rw [dec_str_ne cp]) ?_
      exact ⟨rfl, by rw [if_neg cp]; rfl⟩
  rintro τ G ⟨rfl, rfl⟩
  have hm3 := lMany_le x
  refine ⟨_, rfl, (lMany x : Int), rfl, by omega, by omega, ?_⟩
  have e0 : ((lMany x : Int)).toNat = lMany x := Int.toNat_natCast _
  rw [e0]
  refine for_range (lo := 0) (n := lMany x) (fun i σ G => ∃ (s' : S) (low : Int) (y4 y5 : Option V), σ = [some (.ref w), some (.str x), some (.int (lMany x : Int)), some (.int low), y4, y5] ∧ But w H G ∧ LW G w t ts s' ∧
    lNums ts (decide (x = "clip")) (lMany x - i) low s' = lNums ts (decide (x = "clip")) (lMany x) (lowOf x) s) ?_ ?_ ?_
  · exact ⟨s, lowOf x, none, none, rfl, But.of s1, W1, rfl⟩
  · rintro i σ G hi ⟨s', low, y4, y5, rfl, bG, WG, e⟩
    obtain ⟨k, hk⟩ : ∃ k, lMany x - i = k + 1 := ⟨lMany x - i - 1, by omega⟩
    have hk' : lMany x - (i + 1) = k := by omega
    rw [hk] at e
    refine ⟨_, rfl, Nat.zero_le _, fun r hr' => ?_⟩
    refine ⟨_, rfl, w, t, ts, s', r, [], low, 1000, rfl, WG.same (same_new hr' _), SqL.of upd_same, fun G2 b2 W2 => ?_⟩
    have b3 : But w H G2 := bG.trans ((But.of (same_new hr' _)).trans b2)
    have e' : lNums ts (decide (x = "clip")) k (match eat ts [] low 1000 s' with
      | (some t, _) => if decide (x = "clip") = true then (num t).getD 0 else low
      | (none, _) => low) (eat ts [] low 1000 s').2 = lNums ts (decide (x = "clip")) (lMany x) (lowOf x) s := e
    cases eo : eat ts [] low 1000 s' with
    | mk o s2 =>
      rw [eo] at e' W2
      refine ⟨_, rfl, rfl, _, rfl, ?_⟩
      by_cases cx : x = "clip"
      · refine ifT (by rw [cx]; exact decide_eq_true rfl) ?_
        rw [decide_eq_true cx] at e' ⊢
        refine ⟨_, rfl, optS_scal _ _, _, rfl, ?_⟩
        cases o with
        | none =>
          refine ifF (by show (!decide (V.str "" = V.str "")) = false; rw [decide_eq_true rfl]; rfl) ?_
          exact ⟨_, rfl, s2, low, _, _, rfl, b3, W2, by rw [hk']; exact e'⟩
        | some y =>
          have ey := eat_some eo
          have hTk : Tk y := WG.tk y (List.mem_of_getElem? ey.2.2.1)
          refine ifT (by show (!decide (V.str y = V.str "")) = true; rw [dec_str_ne (tk_ne hTk)]; rfl) ?_
          have hin : inR y low 1000 = true := by
            have z := ey.1
            rw [inW_nil, Bool.false_or] at z
            exact z
          obtain ⟨n, hn⟩ := inR_num hin
          refine ⟨_, rfl, y, n, rfl, int_num hn hTk, Nat.le_trans hTk.len (by decide), ?_⟩
          have e2 : (num y).getD 0 = n := by rw [hn]; rfl
          have e3 : lNums ts true k ((num y).getD 0) s2 = lNums ts true (lMany x) (lowOf x) s := e'
          exact ⟨s2, n, _, _, rfl, b3, W2, by rw [hk', ← e2]; exact e3⟩
      · refine ifF (by rw [dec_str_ne cx]) ?_
        refine ifF rfl ?_
        rw [decide_eq_false cx] at e' ⊢
        refine ⟨_, rfl, s2, low, _, _, rfl, b3, W2, ?_⟩
        rw [hk']
        cases o with
        | none => exact e'
        | some y => exact e'
  · rintro σ G ⟨s', low, y4, y5, rfl, bG, WG, e⟩
    rw [Nat.sub_self] at e
    have e' : s' = lNums ts (decide (x = "clip")) (lMany x) (lowOf x) s := e
    refine ⟨fun τ G1 => ∃ (s2 : S) (y2 y3 y4 y5 : Option V), τ = [some (.ref w), some (.str x), y2, y3, y4, y5] ∧ But w H G1 ∧ LW G1 w t ts s2 ∧ go ts ["("] 0 (-1) s2 = lHead ts x s, ?_, ?_⟩
    · refine ⟨_, rfl, rfl, _, rfl, ?_⟩
      by_cases cr : x = "row"
      · refine ifT (by rw [cr]; exact decide_eq_true rfl) ?_
        refine ⟨63, rfl, by omega, by decide, ?_⟩
        refine for_range (lo := 0) (n := 63) (fun i σ G => ∃ (s2 : S) (y2 y3 y4 y5 : Option V), σ = [some (.ref w), some (.str x), y2, y3, y4, y5] ∧ But w H G ∧ LW G w t ts s2 ∧ iter (lRowStep ts) (63 - i) s2 = iter (lRowStep ts) 63 s') ?_ ?_ ?_
        · exact ⟨s', _, _, _, _, rfl, bG, WG, rfl⟩
        · rintro i σ G2 hi ⟨s2, y2, y3, y4, y5, rfl, b2, W2, e2⟩
          obtain ⟨k, hk⟩ : ∃ k, 63 - i = k + 1 := ⟨63 - i - 1, by omega⟩
          have hk' : 63 - (i + 1) = k := by omega
          rw [hk] at e2
          have e3 : iter (lRowStep ts) k (lRowStep ts s2) = iter (lRowStep ts) 63 s' := e2
          have hw2 := W2.ob
          refine ⟨_, rfl, w, _, rfl, lg_at hw2, _, rfl, w, _, rfl, lg_row hw2, t, _, rfl, .inl (SqL.of W2.lst), _, _, rfl, rfl, _, rfl, ?_⟩
          rw [List.length_map]
          by_cases hlt : s2.at_ < ts.length
          · refine ifT (decide_eq_true (by omega)) ?_
            have hg : ts[s2.at_]? = some ts[s2.at_] := List.getElem?_eq_getElem hlt
            have hgV : (ts.map V.str)[s2.at_]? = some (.str ts[s2.at_]) := by rw [List.getElem?_map, hg]; rfl
            generalize ts[s2.at_] = y at hg hgV
            have e4 : lRowStep ts s2 = (if y = "(" then s2 else go ts [] 0 1000 s2) := by
              unfold lRowStep
              rw [hg]
            rw [e4] at e3
            refine ⟨_, rfl, w, _, rfl, lg_row hw2, _, rfl, w, _, rfl, lg_at hw2, t, _, _, _, rfl, rfl, SqL.of W2.lst, atI_nat hgV, rfl, _, rfl, ?_⟩
            by_cases cy : y = "("
            · refine ifF (by rw [cy]; exact (by decide +kernel)) ?_
              rw [if_pos cy] at e3
              exact ⟨s2, _, _, _, _, rfl, b2, W2, by rw [hk']; exact e3⟩
            · refine ifT (by show (!decide (V.str y = V.str "(")) = true; rw [dec_str_ne cy]; rfl) ?_
              rw [if_neg cy] at e3
              refine ⟨_, rfl, Nat.zero_le _, fun r hr' => ?_⟩
              refine ⟨w, t, ts, s2, r, [], 0, 1000, rfl, W2.same (same_new hr' _), SqL.of upd_same, fun G3 b3 W3 => ?_⟩
              exact ⟨_, _, _, _, _, rfl, b2.trans ((But.of (same_new hr' _)).trans b3), W3, by rw [hk']; exact e3⟩
          · refine ifF (decide_eq_false (by omega)) ?_
            refine ifF rfl ?_
            have e4 : lRowStep ts s2 = s2 := by
              unfold lRowStep
              rw [List.getElem?_eq_none (by omega)]
            rw [e4] at e3
            exact ⟨s2, _, _, _, _, rfl, b2, W2, by rw [hk']; exact e3⟩
        · rintro σ G2 ⟨s2, y2, y3, y4, y5, rfl, b2, W2, e2⟩
          refine ⟨s2, _, _, _, _, rfl, b2, W2, ?_⟩
          have e3 : s2 = iter (lRowStep ts) 63 s' := e2
          unfold lHead
          rw [if_pos cr, ← e', ← e3]
      · refine ifF (by rw [dec_str_ne cr]) ?_
        refine ⟨s', _, _, _, _, rfl, bG, WG, ?_⟩
        unfold lHead
        rw [if_neg cr, ← e']
    rintro τ G1 ⟨s2, y2, y3, y4, y5, rfl, b2, W2, e2⟩
    refine ⟨_, rfl, small (by decide), fun r hr' => ?_⟩
    refine ⟨_, rfl, w, t, ts, s2, r, ["("], 0, -1, rfl, W2.same (same_new hr' _), SqL.of upd_same, fun G3 b3 W3 => ?_⟩
    refine q _ (b2.trans ((But.of (same_new hr' _)).trans b3)) ?_
    rw [← e2]
    exact W3
end
end K07

namespace K07
open PySem L2
def spLRule (d : Nat) : Sp := fun vs H Q _ => ∃ (w t : Addr) (ts : List Str) (s : S), vs = [.ref w, .int (d : Int)] ∧ 1 ≤ d ∧ LW H w t ts s ∧ ∀ H', But w H H' → LW H' w t ts (lRule ts d s) → Q .non H'
theorem inV_yes {x : Str} {ws : List Str} (h : x ∈ ws) : inV (.str x) (ws.map V.str) = true := by rw [inV_strs]; exact inW_iff.mpr h
theorem inV_no {x : Str} {ws : List Str} (h : ¬ x ∈ ws) : inV (.str x) (ws.map V.str) = false := by
  rw [inV_strs]
  cases z : inW x ws with
  | false => rfl
  | true => exact absurd (inW_iff.mp z) h
theorem of_apart : ¬ ("of" : Str) ∈ LISTS ++ MIDW ∧ ¬ ("of" : Str) ∈ ONES := by decide +kernel
theorem ones_apart : ∀ x ∈ ONES, ¬ x = "of" ∧ ¬ x ∈ LISTS ++ MIDW := by decide +kernel
theorem empty_apart : ¬ ("" : Str) = "of" ∧ ¬ ("" : Str) ∈ LISTS ++ MIDW ∧ ¬ ("" : Str) ∈ ONES := by decide +kernel
theorem pOf_none {ts : List Str} {s1 s3 : S} (h : eat ts [] 0 19 { s1 with heard := s1.heard + 1 } = (none, s3)) : pOf ts s1 = hearS 0 s3 := by
  unfold pOf number
  rw [h]
theorem pOf_some {ts : List Str} {s1 s3 : S} {y : Str} (h : eat ts [] 0 19 { s1 with heard := s1.heard + 1 } = (some y, s3)) : pOf ts s1 = hearS ((num y).getD 0) s3 := by
  unfold pOf number
  rw [h]
def bitsL (s : S) (d : Nat) : List Str := if 1 < d ∧ s.parts < 60 then LISTS ++ ONES else []
def bitsM (s : S) (d : Nat) : List Str := if 1 < d ∧ s.parts < 58 then MIDW else []
def bitsO (s : S) : List Str := if s.heard < 12 then OFW else []
theorem words_bits (s : S) (d : Nat) : (bitsO s ++ bitsL s d) ++ bitsM s d = ruleWords s d := rfl
theorem bits_len (s : S) (d : Nat) : (bitsO s).length ≤ 1 ∧ (bitsL s d).length ≤ 9 := by
  unfold bitsO bitsL
  constructor
  · split <;> decide
  · split <;> decide
section
variable {P : Program} {u0 : World} {K : PySem.W.Frag} {mg : Str → Option Value} {base : Heap}
abbrev nLU : List Str := ["_law_world", "_law_deep", "_law_words", "_law_word", "_law_house", "_law_turn"]
abbrev pLU : List Str := ["_law_world", "_law_deep"]
theorem scLU : FnScope nLU pLU (defScope sLGoRule) := ⟨rfl, rfl, rfl, by decide +kernel, rfl, by decide +kernel, by decide +kernel⟩
theorem ok_lRule {f fE fG : Addr} {fd fdE fdG : FuncData} {e k : Nat} (F : Fun K "_law_go_rule" "_law_go_rule" sLGoRule f fd) (B : Bl mg) (DE : Df K mg "_law_eat" sLEat pLE fE fdE) (GE : FnOk P u0 K mg base CX0 2 fE fdE pLE (spLEat K))
    (DG : Df K mg "_law_go_numbers" sLGoNumbers pLG fG fdG) (GG : FnOk P u0 K mg base CX0 3 fG fdG pLG spLGoNum) (g : mg "_law_go_rule" = some (.ref f)) (b : Binds K fd pLU []) (ih : FnOk P u0 K mg base CX0 k f fd pLU (spLRule e)) (hk : 3 ≤ k) :
    FnOk P u0 K mg base CX0 (k + 1) f fd pLU (spLRule (e + 1)) := by
  refine F.ok scLU (fun vs H Q E h => ?_) (fun cdv A outer st H vs Q E hr h => ?_)
  · obtain ⟨_, _, _, _, rfl, _⟩ := h
    rfl
  obtain ⟨w, t, ts, s, rfl, he, W, q⟩ := h
  have hu := hu_of hr
  have hr2 : Room 2 _ := hr.mono (by omega)
  have hr3 : Room 3 _ := hr.mono (by omega)
  refine ⟨_, Evl.pss_cut (ps_set (i := 2) scLU.nd rfl (.inl rfl) (pe_ifExp (pt_cmpR op_lt (pe_dget hu (pv 0) pe_str (fun _ _ => rfl)) pe_int (nomark _)) (pe_lst (pa_cons pe_str pa_nil)) (pe_lst pa_nil)))
    (Evl.pss_cut (ps_if (L2.PW.pt (pw_and (pt_cmpR op_gt (pv 1) pe_int (nomark _)) (pw_and1 (pt_cmpR op_lt (pe_dget hu (pv 0) pe_str (fun _ _ => rfl)) pe_int (nomark _)))))
      (pss_one (ps_set (i := 2) scLU.nd rfl (.inl rfl) (pe_op op_cat (pv 2) (pe_lst (pa_cons pe_str (pa_cons pe_str (pa_cons pe_str (pa_cons pe_str (pa_cons pe_str (pa_cons pe_str (pa_cons pe_str (pa_cons pe_str (pa_cons pe_str pa_nil))))))))))))) pss_nil)
    (Evl.pss_cut (ps_if (L2.PW.pt (pw_and (pt_cmpR op_gt (pv 1) pe_int (nomark _)) (pw_and1 (pt_cmpR op_lt (pe_dget hu (pv 0) pe_str (fun _ _ => rfl)) pe_int (nomark _)))))
      (pss_one (ps_set (i := 2) scLU.nd rfl (.inl rfl) (pe_op op_cat (pv 2) (pe_lst (pa_cons pe_str pa_nil))))) pss_nil)
    (pss_cons (ps_set (i := 3) scLU.nd rfl (.inl rfl) (pe_call GE hr2 (by rfl) DE.g DE.kp DE.b .nil pass0 (pa_cons (pv 0) (pa_cons (pv 2) (pa_cons pe_int (pa_cons pe_int pa_nil))))))
    (Evl.pss_cut (ps_if (pt_cmpR op_eq (pv 3) pe_str (nomark _))
      (pss_cons (ps_dput hu (pv 0) pe_str (pe_op op_add (pe_dget hu (pv 0) pe_str (fun _ _ => rfl)) pe_int) rfl)
      (pss_cons (ps_set (i := 4) scLU.nd rfl (.inl rfl) (pe_call GE hr2 (by rfl) DE.g DE.kp DE.b .nil pass0 (pa_cons (pv 0) (pa_cons (pe_lst pa_nil) (pa_cons pe_int (pa_cons pe_int pa_nil))))))
      (pss_one (ps_dput hu (pv 0) pe_str (pe_callB (call_max2 rfl) (by rfl) B.max (by decide +kernel) (pa_cons (pe_dget hu (pv 0) pe_str (fun _ _ => rfl)) (pa_cons (pe_ifExp (pt_cmpR op_ne (pv 4) pe_str (nomark _)) (pe_callTy call_int_str (by rfl) B.int (by decide +kernel) (pa_cons (pv 4) pa_nil)) pe_int) pa_nil))) rfl)))) pss_nil)
    (Evl.pss_cut (ps_if (pt_cmpR op_in_seq (pv 3) (pe_lst (pa_cons pe_str (pa_cons pe_str (pa_cons pe_str (pa_cons pe_str pa_nil))))) (by rfl))
      (pss_cons (ps_expr (pe_call GE hr2 (by rfl) DE.g DE.kp DE.b .nil pass0 (pa_cons (pv 0) (pa_cons (pe_lst (pa_cons pe_str pa_nil)) (pa_cons pe_int (pa_cons (pe_un un_neg pe_int) pa_nil))))))
      (Evl.pss_cut (ps_dput hu (pv 0) pe_str (pe_op op_add (pe_dget hu (pv 0) pe_str (fun _ _ => rfl)) (pe_ifExp (pt_cmpR op_eq (pv 3) pe_str (nomark _)) pe_int pe_int)) rfl)
      (pss_cons (ps_expr (pe_call ih hr (by rfl) g F.kp b .nil pass0 (pa_cons (pv 0) (pa_cons (pe_op op_sub (pv 1) pe_int) pa_nil))))
      (Evl.pss_cut (ps_for PassesOwn.never rfl (pi_range1 rfl B.range (pa_cons (pe_ifExp (pt_cmpR op_eq (pv 3) pe_str (nomark _)) pe_int pe_int) pa_nil)) (pg_name (i := 5) scLU.nd rfl (.inl rfl))
          (pss_one (ps_if (pt_cmpR op_eq (pv 3) pe_str (nomark _))
            (pss_cons (ps_expr (pe_call GE hr2 (by rfl) DE.g DE.kp DE.b .nil pass0 (pa_cons (pv 0) (pa_cons (pe_lst (pa_cons pe_str pa_nil)) (pa_cons pe_int (pa_cons (pe_un un_neg pe_int) pa_nil))))))
            (pss_one (ps_expr (pe_call ih hr (by rfl) g F.kp b .nil pass0 (pa_cons (pv 0) (pa_cons (pe_op op_sub (pv 1) pe_int) pa_nil))))))
            (pss_one (ps_if (L2.PW.pt (pw_and (pt_not (pt_val (pe_dget hu (pv 0) pe_str (fun _ _ => rfl)))) (pw_and (pt_cmpR op_lt (pe_dget hu (pv 0) pe_str (fun _ _ => rfl)) (pe_callB call_len_seq (by rfl) B.len PySem.boot_len (pa_cons (pe_dget hu (pv 0) pe_str (fun _ _ => rfl)) pa_nil)) (nomark _))
                (pw_and (pt_cmpR op_eq (pe_ix ix_list (pe_dget hu (pv 0) pe_str (fun _ _ => rfl)) (pe_dget hu (pv 0) pe_str (fun _ _ => rfl)) (fun _ _ => rfl)) pe_str (nomark _)) (pw_and1 (pt_cmpR op_lt (pe_dget hu (pv 0) pe_str (fun _ _ => rfl)) pe_int (nomark _)))))))
              (pss_cons (ps_asg (pe_tup (pa_cons (pe_op op_add (pe_dget hu (pv 0) pe_str (fun _ _ => rfl)) pe_int) (pa_cons (pe_op op_add (pe_dget hu (pv 0) pe_str (fun _ _ => rfl)) pe_int) pa_nil))) (pg_tup (by rfl) (pgs_cons (pg_sub (pv 0) pe_str (set_dk hu)) (pgs_cons (pg_sub (pv 0) pe_str (set_dk hu)) pgs_nil))))
              (pss_one (ps_expr (pe_call ih hr (by rfl) g F.kp b .nil pass0 (pa_cons (pv 0) (pa_cons (pe_op op_sub (pv 1) pe_int) pa_nil)))))) pss_nil)))))
      (pss_one (ps_expr (pe_call GE hr2 (by rfl) DE.g DE.kp DE.b .nil pass0 (pa_cons (pv 0) (pa_cons (pe_lst (pa_cons pe_str pa_nil)) (pa_cons pe_int (pa_cons (pe_un un_neg pe_int) pa_nil)))))))))))
      pss_nil)
    (pss_one (ps_if (pt_cmpR op_in_seq (pv 3) (pe_lst (pa_cons pe_str (pa_cons pe_str (pa_cons pe_str (pa_cons pe_str (pa_cons pe_str (pa_cons pe_str pa_nil))))))) (by rfl))
      (pss_cons (ps_expr (pe_call GG hr3 (by rfl) DG.g DG.kp DG.b .nil pass0 (pa_cons (pv 0) (pa_cons (pv 3) pa_nil))))
      (pss_cons (ps_dput hu (pv 0) pe_str (pe_op op_add (pe_dget hu (pv 0) pe_str (fun _ _ => rfl)) pe_int) rfl)
      (pss_cons (ps_expr (pe_call ih hr (by rfl) g F.kp b .nil pass0 (pa_cons (pv 0) (pa_cons (pe_op op_sub (pv 1) pe_int) pa_nil))))
      (pss_one (ps_expr (pe_call GE hr2 (by rfl) DE.g DE.kp DE.b .nil pass0 (pa_cons (pv 0) (pa_cons (pe_lst (pa_cons pe_str pa_nil)) (pa_cons pe_int (pa_cons (pe_un un_neg pe_int) pa_nil)))))))))) pss_nil))))))), ?_⟩
  have hw := W.ob
  -- words
  refine ⟨fun τ G => ∃ u, τ = [some (.ref w), some (.int ((e + 1 : Nat) : Int)), some (.ref u), none, none, none] ∧ Same H G ∧ G u = some (.lst ((bitsO s).map V.str)), ?_, ?_⟩
  · refine ⟨_, rfl, w, _, rfl, lg_heard hw, _, _, rfl, rfl, _, rfl, if2 (fun c => ?_) (fun c => ?_)⟩
    · refine ⟨small (by decide), fun r hr' => ⟨r, rfl, same_new hr' _, ?_⟩⟩
      unfold bitsO
      rw [upd_same, if_pos (of_decide_eq_true c)]
      rfl
    · refine ⟨Nat.zero_le _, fun r hr' => ⟨r, rfl, same_new hr' _, ?_⟩⟩
      unfold bitsO
      rw [upd_same, if_neg (of_decide_eq_false c)]
      rfl
  rintro τ G ⟨u, rfl, sG, hG⟩
  have hl := bits_len s (e + 1)
  refine ⟨fun τ G => ∃ u, τ = [some (.ref w), some (.int ((e + 1 : Nat) : Int)), some (.ref u), none, none, none] ∧ Same H G ∧ G u = some (.lst ((bitsO s ++ bitsL s (e + 1)).map V.str)), ?_, ?_⟩
  · have no : ¬ (1 < e + 1 ∧ s.parts < 60) → G u = some (.lst ((bitsO s ++ bitsL s (e + 1)).map V.str)) := fun c => by
      unfold bitsL
      rw [if_neg c, List.append_nil]
      exact hG
    refine ⟨_, rfl, _, _, rfl, rfl, _, rfl, if2 (fun c => ?_) (fun c => ?_)⟩
    · have c1 := of_decide_eq_true c
      refine ⟨_, rfl, w, _, rfl, lg_parts (sG _ _ hw), _, _, rfl, rfl, _, rfl, if2 (fun c2 => ?_) (fun c2 => ?_)⟩
      · have c3 := of_decide_eq_true c2
        refine ⟨_, rfl, small (by decide), fun r hr' => ?_⟩
        refine ⟨u, r, _, _, rfl, rfl, (by rw [upd_ne (ne_of_none hG hr')]; exact hG), upd_same, ?_, fun p hp => ⟨p, rfl, (sG.trans (same_new hr' _)).trans (same_new hp _), ?_⟩⟩
        · rw [List.length_map]
          exact small (by show (bitsO s).length + 9 ≤ 1000; omega)
        · unfold bitsL
          rw [upd_same, if_pos ⟨by omega, by omega⟩, List.map_append]
          rfl
      · have c3 := of_decide_eq_false c2
        exact ⟨u, rfl, sG, no fun z => c3 (by omega)⟩
    · have c1 := of_decide_eq_false c
      refine ifF rfl ?_
      exact ⟨u, rfl, sG, no fun z => c1 (by omega)⟩
  rintro τ G ⟨u, rfl, sG, hG⟩
  refine ⟨fun τ G => ∃ u, τ = [some (.ref w), some (.int ((e + 1 : Nat) : Int)), some (.ref u), none, none, none] ∧ Same H G ∧ G u = some (.lst ((ruleWords s (e + 1)).map V.str)), ?_, ?_⟩
  · have no : ¬ (1 < e + 1 ∧ s.parts < 58) → G u = some (.lst ((ruleWords s (e + 1)).map V.str)) := fun c => by
      rw [← words_bits]
      unfold bitsM
      rw [if_neg c, List.append_nil]
      exact hG
    refine ⟨_, rfl, _, _, rfl, rfl, _, rfl, if2 (fun c => ?_) (fun c => ?_)⟩
    · have c1 := of_decide_eq_true c
      refine ⟨_, rfl, w, _, rfl, lg_parts (sG _ _ hw), _, _, rfl, rfl, _, rfl, if2 (fun c2 => ?_) (fun c2 => ?_)⟩
      · have c3 := of_decide_eq_true c2
        refine ⟨_, rfl, small (by decide), fun r hr' => ?_⟩
        refine ⟨u, r, _, _, rfl, rfl, (by rw [upd_ne (ne_of_none hG hr')]; exact hG), upd_same, ?_, fun p hp => ⟨p, rfl, (sG.trans (same_new hr' _)).trans (same_new hp _), ?_⟩⟩
        · rw [List.length_map, List.length_append]
          exact small (by show (bitsO s).length + (bitsL s (e + 1)).length + 1 ≤ 1000; omega)
        · rw [← words_bits]
          unfold bitsM
          rw [upd_same, if_pos ⟨by omega, by omega⟩, List.map_append (l₁ := bitsO s ++ bitsL s (e + 1))]
          rfl
      · have c3 := of_decide_eq_false c2
        exact ⟨u, rfl, sG, no fun z => c3 (by omega)⟩
    · have c1 := of_decide_eq_false c
      refine ifF rfl ?_
      exact ⟨u, rfl, sG, no fun z => c1 (by omega)⟩
  rintro τ G ⟨u, rfl, sG, hG⟩
  -- word = eat(..)
  refine ⟨_, rfl, _, rfl, w, t, ts, s, u, ruleWords s (e + 1), 0, 1000, rfl, W.same sG, SqL.of hG, fun H1 b1 W1 => ?_⟩
  have bH : But w H H1 := (But.of sG).trans b1
  clear b1 hG sG hw
  obtain ⟨x, s1, ex, eR, hdeep, W1'⟩ : ∃ x s1, optS (eat ts (ruleWords s (e + 1)) 0 1000 s).1 = .str x ∧ lRule ts (e + 1) s = lWord ts (lRule ts e) x s1 ∧ (x ∈ LISTS ++ MIDW ∨ x ∈ ONES → 1 ≤ e) ∧ LW H1 w t ts s1 := by
    have eR : lRule ts (e + 1) s = (match eat ts (ruleWords s (e + 1)) 0 1000 s with
      | (none, s1) => s1
      | (some x, s1) => lWord ts (lRule ts e) x s1) := rfl
    cases eo : eat ts (ruleWords s (e + 1)) 0 1000 s with
    | mk o s1 =>
      rw [eo] at eR W1
      cases o with
      | none =>
        refine ⟨"", s1, rfl, ?_, fun z => ?_, W1⟩
        · rw [eR]
          unfold lWord
          rw [if_neg empty_apart.1, if_neg empty_apart.2.1, if_neg empty_apart.2.2]
        · rcases z with z | z
          · exact absurd z empty_apart.2.1
          · exact absurd z empty_apart.2.2
      | some x =>
        refine ⟨x, s1, rfl, eR, fun z => ?_, W1⟩
        have hmem : x ∈ OFW ++ MIDW ++ LISTS ++ ONES := by
          simp only [List.mem_append] at z ⊢
          rcases z with (z | z) | z
          · exact .inl (.inr z)
          · exact .inl (.inl (.inr z))
          · exact .inr z
        have hno : ¬ x = "of" := fun q => by
          rw [q] at z
          rcases z with z | z
          · exact of_apart.1 z
          · exact of_apart.2 z
        rcases word_kind eo with ⟨_, h2⟩ | ⟨_, h2⟩
        · exact absurd hmem h2
        · have := ruleWords_deep h2 hno
          omega
  clear W1
  rw [ex]
  unfold lWord at eR
  -- of
  refine ⟨fun τ G => ∃ y4 y5, τ = [some (.ref w), some (.int ((e + 1 : Nat) : Int)), some (.ref u), some (.str x), y4, y5] ∧ But w H G ∧ LW G w t ts (if x = "of" then pOf ts s1 else s1), ?_, ?_⟩
  · refine ⟨_, rfl, rfl, _, rfl, ?_⟩
    by_cases c : x = "of"
    · refine ifT (by rw [c]; exact decide_eq_true rfl) ?_
      rw [if_pos c]
      have hw := W1'.ob
      have W2 := W1'.set (s' := { s1 with heard := s1.heard + 1 }) W1'.le
      refine ⟨_, rfl, w, _, rfl, lg_heard hw, _, _, rfl, rfl, _, rfl, w, _, rfl, lp_heard hw _, ?_⟩
      refine ⟨_, rfl, Nat.zero_le _, fun r hr' => ⟨w, t, ts, { s1 with heard := s1.heard + 1 }, r, [], 0, 19, rfl, W2.same (same_new hr' _), SqL.of upd_same, fun G3 b3 W3 => ?_⟩⟩
      have bb : But w H G3 := (bH.trans But.upd).trans ((But.of (same_new hr' _)).trans b3)
      cases eo : eat ts [] 0 19 { s1 with heard := s1.heard + 1 } with
      | mk o s3 =>
        rw [eo] at W3
        have hw3 := W3.ob
        refine ⟨_, rfl, w, _, rfl, lg_last hw3, ?_⟩
        refine ⟨_, rfl, optS_scal _ _, _, rfl, ?_⟩
        cases o with
        | none =>
          refine ifF (by show (!decide (V.str "" = V.str "")) = false; rw [decide_eq_true rfl]; rfl) ?_
          refine ⟨_, _, rfl, _, rfl, w, _, rfl, lp_last hw3 _, _, _, rfl, bb.trans But.upd, ?_⟩
          rw [pOf_none eo]
          exact W3.set (s' := hearS 0 s3) W3.le
        | some y =>
          have ey := eat_some eo
          have hTk : Tk y := W1'.tk y (List.mem_of_getElem? ey.2.2.1)
          have hin : inR y 0 19 = true := by
            have z := ey.1
            rw [inW_nil, Bool.false_or] at z
            exact z
          obtain ⟨n, hn⟩ := inR_num hin
          refine ifT (by show (!decide (V.str y = V.str "")) = true; rw [dec_str_ne (tk_ne hTk)]; rfl) ?_
          refine ⟨_, rfl, y, n, rfl, int_num hn hTk, Nat.le_trans hTk.len (by decide), ?_⟩
          refine ⟨_, _, rfl, _, rfl, w, _, rfl, lp_last hw3 _, _, _, rfl, bb.trans But.upd, ?_⟩
          have e2 : (num y).getD 0 = n := by rw [hn]; rfl
          rw [pOf_some eo, e2]
          exact W3.set (s' := hearS n s3) W3.le
    · refine ifF (dec_str_ne c) ?_
      rw [if_neg c]
      exact ⟨_, _, rfl, bH, W1'⟩
  rintro τ G ⟨y4, y5, rfl, bG, WG⟩
  -- lists, middle
  refine ⟨fun τ G => ∃ y4 y5, τ = [some (.ref w), some (.int ((e + 1 : Nat) : Int)), some (.ref u), some (.str x), y4, y5] ∧ But w H G ∧ LW G w t ts (if x = "of" then pOf ts s1 else if x ∈ LISTS ++ MIDW then lSome ts (lRule ts e) x s1 else s1), ?_, ?_⟩
  · refine ⟨_, rfl, small (by decide), fun r hr' => ?_⟩
    have bG := bG.trans (But.of (same_new hr' (.lst ((LISTS ++ MIDW).map V.str))))
    have WG := WG.same (same_new hr' (.lst ((LISTS ++ MIDW).map V.str)))
    refine ⟨r, (LISTS ++ MIDW).map V.str, rfl, .inl (SqL.of upd_same), rfl, flat_strs _, _, rfl, ?_⟩
    by_cases c : x ∈ LISTS ++ MIDW
    · refine ifT (inV_yes c) ?_
      have hno : ¬ x = "of" := fun z => by rw [z] at c; exact of_apart.1 c
      have he1 := hdeep (.inl c)
      rw [if_neg hno, if_pos c]
      rw [if_neg hno] at WG
      refine ⟨_, rfl, small (by decide), fun r2 hr2 => ⟨_, rfl, w, t, ts, s1, r2, ["("], 0, -1, rfl, WG.same (same_new hr2 _), SqL.of upd_same, fun G3 b3 W3 => ?_⟩⟩
      have bb3 : But w H G3 := bG.trans ((But.of (same_new hr2 _)).trans b3)
      have eS : lSome ts (lRule ts e) x s1 = go ts [")"] 0 (-1) (if x = "middle" then iter (lMidStep ts (lRule ts e)) 2 (lRule ts e (more 3 (go ts ["("] 0 (-1) s1))) else iter (lListStep ts (lRule ts e)) 60 (lRule ts e (more 1 (go ts ["("] 0 (-1) s1)))) := rfl
      have W3 : LW G3 w t ts (go ts ["("] 0 (-1) s1) := W3
      generalize go ts ["("] 0 (-1) s1 = s2 at eS W3
      have hw3 := W3.ob
      clear WG bG b3
      -- parts
      refine ⟨fun τ G => τ = [some (.ref w), some (.int ((e + 1 : Nat) : Int)), some (.ref u), some (.str x), y4, y5] ∧ But w H G ∧ LW G w t ts (more (if x = "middle" then 3 else 1) s2), ?_, ?_⟩
      · refine ⟨_, rfl, w, _, rfl, lg_parts hw3, ?_⟩
        refine ⟨_, rfl, rfl, _, rfl, ?_⟩
        by_cases cm : x = "middle"
        · refine ifT (by rw [cm]; exact decide_eq_true rfl) ?_
          rw [if_pos cm]
          refine ⟨_, _, rfl, rfl, _, rfl, w, _, rfl, lp_parts hw3 _, rfl, bb3.trans But.upd, W3.set (s' := more 3 s2) W3.le⟩
        · refine ifF (dec_str_ne cm) ?_
          rw [if_neg cm]
          refine ⟨_, _, rfl, rfl, _, rfl, w, _, rfl, lp_parts hw3 _, rfl, bb3.trans But.upd, W3.set (s' := more 1 s2) W3.le⟩
      rintro τ G4 ⟨rfl, b4, W4⟩
      refine ⟨_, rfl, _, rfl, _, _, rfl, rfl, w, t, ts, _, congrArg (fun z => [V.ref w, V.int z]) (less_one e), he1, W4, fun G5 b5 W5 => ?_⟩
      have b5' : But w H G5 := b4.trans b5
      clear b4 b5 W4
      -- the turns
      refine ⟨fun τ G => ∃ y5, τ = [some (.ref w), some (.int ((e + 1 : Nat) : Int)), some (.ref u), some (.str x), y4, y5] ∧ But w H G ∧ ∃ s3, LW G w t ts s3 ∧ go ts [")"] 0 (-1) s3 = lSome ts (lRule ts e) x s1, ?_, ?_⟩
      · refine ⟨_, rfl, rfl, _, rfl, ?_⟩
        by_cases cm : x = "middle"
        · refine ifT (by rw [cm]; exact decide_eq_true rfl) ?_
          rw [if_pos cm] at W5 eS
          refine ⟨2, rfl, by omega, by decide, ?_⟩
          refine for_range (lo := 0) (n := 2) (fun i σ G => ∃ (s3 : S) (y5 : Option V), σ = [some (.ref w), some (.int ((e + 1 : Nat) : Int)), some (.ref u), some (.str x), y4, y5] ∧ But w H G ∧ LW G w t ts s3 ∧
            iter (lMidStep ts (lRule ts e)) (2 - i) s3 = iter (lMidStep ts (lRule ts e)) 2 (lRule ts e (more 3 s2))) ?_ ?_ ?_
          · exact ⟨_, _, rfl, b5', W5, rfl⟩
          · rintro i σ G6 hi ⟨s3, y5, rfl, b6, W6, e6⟩
            obtain ⟨m, hm⟩ : ∃ m, 2 - i = m + 1 := ⟨2 - i - 1, by omega⟩
            have hm' : 2 - (i + 1) = m := by omega
            rw [hm] at e6
            have e7 : iter (lMidStep ts (lRule ts e)) m (lRule ts e (go ts [","] 0 (-1) s3)) = iter (lMidStep ts (lRule ts e)) 2 (lRule ts e (more 3 s2)) := e6
            refine ⟨_, rfl, rfl, _, rfl, ?_⟩
            refine ifT (by rw [cm]; exact decide_eq_true rfl) ?_
            refine ⟨_, rfl, small (by decide), fun r7 hr7 => ⟨_, rfl, w, t, ts, s3, r7, [","], 0, -1, rfl, W6.same (same_new hr7 _), SqL.of upd_same, fun G7 b7 W7 => ?_⟩⟩
            refine ⟨_, rfl, _, rfl, _, _, rfl, rfl, w, t, ts, _, congrArg (fun z => [V.ref w, V.int z]) (less_one e), he1, W7, fun G8 b8 W8 => ?_⟩
            exact ⟨_, _, rfl, (b6.trans ((But.of (same_new hr7 _)).trans b7)).trans b8, W8, by rw [hm']; exact e7⟩
          · rintro σ G6 ⟨s3, y5, rfl, b6, W6, e6⟩
            refine ⟨_, rfl, b6, s3, W6, ?_⟩
            have e7 : s3 = iter (lMidStep ts (lRule ts e)) 2 (lRule ts e (more 3 s2)) := e6
            rw [eS, ← e7]
        · refine ifF (dec_str_ne cm) ?_
          rw [if_neg cm] at W5 eS
          refine ⟨60, rfl, by omega, by decide, ?_⟩
          refine for_range (lo := 0) (n := 60) (fun i σ G => ∃ (s3 : S) (y5 : Option V), σ = [some (.ref w), some (.int ((e + 1 : Nat) : Int)), some (.ref u), some (.str x), y4, y5] ∧ But w H G ∧ LW G w t ts s3 ∧
            iter (lListStep ts (lRule ts e)) (60 - i) s3 = iter (lListStep ts (lRule ts e)) 60 (lRule ts e (more 1 s2))) ?_ ?_ ?_
          · exact ⟨_, _, rfl, b5', W5, rfl⟩
          · rintro i σ G6 hi ⟨s3, y5, rfl, b6, W6, e6⟩
            obtain ⟨m, hm⟩ : ∃ m, 60 - i = m + 1 := ⟨60 - i - 1, by omega⟩
            have hm' : 60 - (i + 1) = m := by omega
            rw [hm] at e6
            have e7 : iter (lListStep ts (lRule ts e)) m (lListStep ts (lRule ts e) s3) = iter (lListStep ts (lRule ts e)) 60 (lRule ts e (more 1 s2)) := e6
            have hw6 := W6.ob
            have stay : ¬ (s3.stop = false ∧ ts[s3.at_]? = some ("," : Str) ∧ s3.parts < 60) → ∃ (s4 : S) (y : Option V), [some (V.ref w), some (.int ((e + 1 : Nat) : Int)), some (.ref u), some (.str x), y4, some (.int (0 + (i : Int)))] = [some (.ref w), some (.int ((e + 1 : Nat) : Int)), some (.ref u), some (.str x), y4, y] ∧ But w H G6 ∧ LW G6 w t ts s4 ∧
                iter (lListStep ts (lRule ts e)) (60 - (i + 1)) s4 = iter (lListStep ts (lRule ts e)) 60 (lRule ts e (more 1 s2)) := fun z => by
              have e8 : lListStep ts (lRule ts e) s3 = s3 := by unfold lListStep; rw [if_neg z]
              rw [e8] at e7
              exact ⟨s3, _, rfl, b6, W6, by rw [hm']; exact e7⟩
            refine ⟨_, rfl, rfl, _, rfl, ?_⟩
            refine ifF (dec_str_ne cm) ?_
            refine ⟨_, rfl, w, _, rfl, lg_stop hw6, s3.stop, rfl, ?_⟩
            cases hst : s3.stop with
            | true =>
              refine ifF rfl ?_
              refine ifF rfl ?_
              exact stay fun z => by rw [hst] at z; cases z.1
            | false =>
            refine ifT rfl ?_
            refine ⟨_, rfl, w, _, rfl, lg_at hw6, _, rfl, w, _, rfl, lg_row hw6, t, _, rfl, .inl (SqL.of W6.lst), _, _, rfl, rfl, _, rfl, ?_⟩
            rw [List.length_map]
            by_cases hlt : s3.at_ < ts.length
            rotate_left
            · refine ifF (decide_eq_false (by omega)) ?_
              refine ifF rfl ?_
              exact stay fun z => by
                rw [List.getElem?_eq_none (by omega)] at z
                cases z.2.1
            refine ifT (decide_eq_true (by omega)) ?_
            have hg : ts[s3.at_]? = some ts[s3.at_] := List.getElem?_eq_getElem hlt
            have hgV : (ts.map V.str)[s3.at_]? = some (.str ts[s3.at_]) := by rw [List.getElem?_map, hg]; rfl
            generalize ts[s3.at_] = y at hg hgV
            refine ⟨_, rfl, w, _, rfl, lg_row hw6, _, rfl, w, _, rfl, lg_at hw6, t, _, _, _, rfl, rfl, SqL.of W6.lst, atI_nat hgV, rfl, _, rfl, ?_⟩
            by_cases cy : y = ","
            rotate_left
            · refine ifF (dec_str_ne cy) ?_
              refine ifF rfl ?_
              exact stay fun z => by
                rw [hg] at z
                exact cy (Option.some.inj z.2.1)
            refine ifT (by rw [cy]; exact decide_eq_true rfl) ?_
            refine ⟨_, rfl, w, _, rfl, lg_parts hw6, _, _, rfl, rfl, _, rfl, if2 (fun cp => ?_) (fun cp => ?_)⟩
            rotate_left
            · exact stay fun z => by
                have := of_decide_eq_false cp
                omega
            have cp' := of_decide_eq_true cp
            have e8 : lListStep ts (lRule ts e) s3 = lRule ts e { s3 with at_ := s3.at_ + 1, parts := s3.parts + 1 } := by
              unfold lListStep
              rw [if_pos ⟨hst, by rw [hg, cy], by omega⟩]
            rw [e8] at e7
            refine ⟨_, rfl, w, _, rfl, lg_at hw6, _, _, rfl, rfl, _, rfl, w, _, rfl, lg_parts hw6, _, _, rfl, rfl, (by show 2 ≤ sizeLine; exact small (by decide)), fun r7 hr7 => ?_⟩
            have W7 := W6.same (same_new hr7 (.tup [.int ((s3.at_ : Int) + 1), .int ((s3.parts : Int) + 1)]))
            have b7 : But w H (upd G6 r7 (.tup [.int ((s3.at_ : Int) + 1), .int ((s3.parts : Int) + 1)])) := b6.trans (But.of (same_new hr7 _))
            have hw7 := W7.ob
            have hr7' : (upd G6 r7 (.tup [.int ((s3.at_ : Int) + 1), .int ((s3.parts : Int) + 1)])) r7 = some (.tup [.int ((s3.at_ : Int) + 1), .int ((s3.parts : Int) + 1)]) := upd_same
            refine ⟨r7, _, rfl, SqT.of hr7', rfl, _, _, rfl, ?_⟩
            refine ⟨_, rfl, w, _, rfl, lp_at hw7 _, ?_⟩
            refine ⟨_, _, rfl, ?_⟩
            refine ⟨_, rfl, w, _, rfl, lp_parts upd_same _, rfl, ?_⟩
            have W8 := (W7.set (s' := { s3 with at_ := s3.at_ + 1 }) hlt).set (s' := { s3 with at_ := s3.at_ + 1, parts := s3.parts + 1 }) hlt
            refine ⟨_, rfl, _, rfl, _, _, rfl, rfl, w, t, ts, _, congrArg (fun z => [V.ref w, V.int z]) (less_one e), he1, W8, fun G9 b9 W9 => ?_⟩
            exact ⟨_, _, rfl, ((b7.trans But.upd).trans But.upd).trans b9, W9, by rw [hm']; exact e7⟩
          · rintro σ G6 ⟨s3, y5, rfl, b6, W6, e6⟩
            refine ⟨_, rfl, b6, s3, W6, ?_⟩
            have e7 : s3 = iter (lListStep ts (lRule ts e)) 60 (lRule ts e (more 1 s2)) := e6
            rw [eS, ← e7]
      rintro τ G6 ⟨y5, rfl, b6, s3, W6, e6⟩
      refine ⟨_, rfl, small (by decide), fun r7 hr7 => ⟨_, rfl, w, t, ts, s3, r7, [")"], 0, -1, rfl, W6.same (same_new hr7 _), SqL.of upd_same, fun G7 b7 W7 => ?_⟩⟩
      refine ⟨_, _, rfl, b6.trans ((But.of (same_new hr7 _)).trans b7), ?_⟩
      rw [← e6]
      exact W7
    · refine ifF (inV_no c) ?_
      rw [if_neg c]
      exact ⟨_, _, rfl, bG, WG⟩
  rintro τ G2 ⟨y4, y5, rfl, bG2, WG2⟩
  -- with numbers
  refine ⟨_, rfl, small (by decide), fun r hr' => ?_⟩
  have bG3 := bG2.trans (But.of (same_new hr' (.lst (ONES.map V.str))))
  have WG3 := WG2.same (same_new hr' (.lst (ONES.map V.str)))
  refine ⟨r, ONES.map V.str, rfl, .inl (SqL.of upd_same), rfl, flat_strs _, _, rfl, ?_⟩
  by_cases c : x ∈ ONES
  · refine ifT (inV_yes c) ?_
    have ha := ones_apart x c
    have he1 := hdeep (.inr c)
    rw [if_neg ha.1, if_neg ha.2] at WG3
    rw [if_neg ha.1, if_neg ha.2, if_pos c] at eR
    have eO : lRule ts (e + 1) s = go ts [")"] 0 (-1) (lRule ts e (more 1 (lHead ts x s1))) := eR
    refine ⟨_, rfl, _, rfl, w, t, ts, s1, x, rfl, c, WG3, fun G4 b4 W4 => ?_⟩
    have hw4 := W4.ob
    refine ⟨_, rfl, w, _, rfl, lg_parts hw4, _, _, rfl, rfl, _, rfl, w, _, rfl, lp_parts hw4 _, ?_⟩
    have W5 := W4.set (s' := more 1 (lHead ts x s1)) W4.le
    refine ⟨_, rfl, _, rfl, _, _, rfl, rfl, w, t, ts, _, congrArg (fun z => [V.ref w, V.int z]) (less_one e), he1, W5, fun G6 b6 W6 => ?_⟩
    refine ⟨_, rfl, small (by decide), fun r7 hr7 => ⟨_, rfl, w, t, ts, _, r7, [")"], 0, -1, rfl, W6.same (same_new hr7 _), SqL.of upd_same, fun G7 b7 W7 => ?_⟩⟩
    refine q _ (((((bG3.trans b4).trans But.upd).trans b6).trans (But.of (same_new hr7 _))).trans b7) ?_
    rw [eO]
    exact W7
  · refine ifF (inV_no c) ?_
    rw [if_neg c] at eR
    refine q _ bG3 ?_
    rw [eR]
    exact WG3
theorem lRule_none {f : Addr} {fd : FuncData} : FnOk P u0 K mg base CX0 3 f fd pLU (spLRule 0) := by
  have no : ∀ vs H Q E, ¬ spLRule 0 vs H Q E := fun vs H Q E h => by
    obtain ⟨_, _, _, _, _, h1, _⟩ := h
    omega
  exact ⟨fun vs H Q E h => absurd h (no vs H Q E), fun A outer s H args us vs Q E _ _ _ _ h => absurd h (no vs H Q E)⟩
theorem lRule_all {fR fE fG : Addr} {fdR fdE fdG : FuncData} (B : Bl mg) (DR : Df K mg "_law_go_rule" sLGoRule pLU fR fdR) (DE : Df K mg "_law_eat" sLEat pLE fE fdE) (GE : FnOk P u0 K mg base CX0 2 fE fdE pLE (spLEat K))
    (DG : Df K mg "_law_go_numbers" sLGoNumbers pLG fG fdG) (GG : FnOk P u0 K mg base CX0 3 fG fdG pLG spLGoNum) : ∀ d, FnOk P u0 K mg base CX0 (3 + d) fR fdR pLU (spLRule d)
  | 0 => lRule_none
  | d + 1 => ok_lRule (k := 3 + d) DR.fn B DE GE DG GG DR.g DR.b (lRule_all B DR DE GE DG GG d) (by omega)
end
end K07

namespace K07
open PySem L2
def spLReach : Sp := fun vs H Q _ => ∃ (t : Addr) (ts : List Str), vs = [.ref t] ∧ H t = some (.lst (ts.map V.str)) ∧ (∀ x ∈ ts, Tk x) ∧ (∀ x ∈ ts, Asc x) ∧ ts.length ≤ 1000 ∧ ∀ H', Same H H' → Q (ansV (lAns ts)) H'
section
variable {P : Program} {u0 : World} {K : PySem.W.Frag} {mg : Str → Option Value} {base : Heap}
abbrev nLH : List Str := ["_law_row", "_law_world", "_law_houses", "_law_turn"]
theorem scLH : FnScope nLH ["_law_row"] (defScope sLReach) := ⟨rfl, rfl, rfl, by decide +kernel, rfl, by decide +kernel, by decide +kernel⟩
theorem ok_lReach {f fE fR : Addr} {fd fdE fdR : FuncData} (F : Fun K "_law_reach" "_law_reach" sLReach f fd) (B : Bl mg) (DE : Df K mg "_law_eat" sLEat pLE fE fdE) (GE : FnOk P u0 K mg base CX0 2 fE fdE pLE (spLEat K))
    (DR : Df K mg "_law_go_rule" sLGoRule pLU fR fdR) (GR : FnOk P u0 K mg base CX0 11 fR fdR pLU (spLRule 8)) : FnOk P u0 K mg base CX0 12 f fd ["_law_row"] spLReach := by
  refine F.ok scLH (fun vs H Q E h => ?_) (fun cdv A outer st H vs Q E hr h => ?_)
  · obtain ⟨_, _, rfl, _⟩ := h
    rfl
  obtain ⟨t, ts, rfl, ht, htk, has, hsz, q⟩ := h
  have hu := hu_of hr
  have hr2 : Room 2 _ := hr.mono (by omega)
  refine ⟨_, pss_cons (ps_par (i := 1) (j := 2) rfl scLH.nd rfl rfl (by decide) rfl rfl (pa_cons (pe_disp (pps_cons pe_str (pv 0) (pps_cons pe_str pe_int (pps_cons pe_str pe_bl (pps_cons pe_str pe_int (pps_cons pe_str pe_int (pps_cons pe_str pe_int pps_nil)))))) (by rfl) (by rfl) (fun z => by cases z) (by decide)) (pa_cons pe_int pa_nil)) (by rfl))
    (pss_cons (ps_for PassesOwn.never rfl (pi_range1 rfl B.range (pa_cons pe_int pa_nil)) (pg_name (i := 3) scLH.nd rfl (.inl rfl))
      (Evl.pss_cut (ps_if (L2.PW.pt (pw_and (pt_cmpR op_gt (pv 2) (pe_dget hu (pv 1) pe_str (fun _ _ => rfl)) (nomark _)) (pw_and (pt_cmpR op_eq (pe_dget hu (pv 1) pe_str (fun _ _ => rfl)) (pe_callB call_len_seq (by rfl) B.len PySem.boot_len (pa_cons (pv 0) pa_nil)) (nomark _))
          (pw_and1 (pt_not (pt_val (pe_dget hu (pv 1) pe_str (fun _ _ => rfl)))))))) (pss_one (ps_ret pe_non)) pss_nil)
      (Evl.pss_cut (ps_expr (pe_call GE hr2 (by rfl) DE.g DE.kp DE.b .nil pass0 (pa_cons (pv 1) (pa_cons (pe_ifExp (pt_cmpR op_lt (pv 2) pe_int (nomark _)) (pe_lst (pa_cons pe_str pa_nil)) (pe_lst pa_nil)) (pa_cons pe_int (pa_cons (pe_un un_neg pe_int) pa_nil))))))
      (pss_cons (ps_expr (pe_call GE hr2 (by rfl) DE.g DE.kp DE.b .nil pass0 (pa_cons (pv 1) (pa_cons (pe_lst pa_nil) (pa_cons (pv 2) (pa_cons (pv 2) pa_nil))))))
      (pss_cons (ps_expr (pe_call GE hr2 (by rfl) DE.g DE.kp DE.b .nil pass0 (pa_cons (pv 1) (pa_cons (pe_lst (pa_cons pe_str pa_nil)) (pa_cons pe_int (pa_cons (pe_un un_neg pe_int) pa_nil))))))
      (pss_cons (ps_expr (pe_call GE hr2 (by rfl) DE.g DE.kp DE.b .nil pass0 (pa_cons (pv 1) (pa_cons (pe_lst pa_nil) (pa_cons pe_int (pa_cons pe_int pa_nil))))))
      (pss_cons (ps_expr (pe_call GE hr2 (by rfl) DE.g DE.kp DE.b .nil pass0 (pa_cons (pv 1) (pa_cons (pe_lst (pa_cons pe_str pa_nil)) (pa_cons pe_int (pa_cons (pe_un un_neg pe_int) pa_nil))))))
      (pss_cons (ps_asg (pe_tup (pa_cons pe_int (pa_cons pe_int pa_nil))) (pg_tup (by rfl) (pgs_cons (pg_sub (pv 1) pe_str (set_dk hu)) (pgs_cons (pg_sub (pv 1) pe_str (set_dk hu)) pgs_nil))))
      (pss_cons (ps_expr (pe_call GR hr (by rfl) DR.g DR.kp DR.b .nil pass0 (pa_cons (pv 1) (pa_cons pe_int pa_nil))))
      (pss_cons (ps_expr (pe_call GE hr2 (by rfl) DE.g DE.kp DE.b .nil pass0 (pa_cons (pv 1) (pa_cons (pe_lst (pa_cons pe_str pa_nil)) (pa_cons pe_int (pa_cons (pe_un un_neg pe_int) pa_nil))))))
      (pss_one (ps_set (i := 2) scLH.nd rfl (.inl rfl) (pe_op op_add (pv 2) pe_int)))))))))))))
    (pss_one (ps_ret (pe_dget hu (pv 1) pe_str (fun _ _ => rfl))))), ?_⟩
  intro w hw0
  refine ⟨_, rfl, ?_⟩
  refine ⟨upd_same, [(.inr "row", .ref t), (.inr "at", .int 0), (.inr "stop", .bl false), (.inr "last", .int 0), (.inr "parts", .int 0), (.inr "heard", .int 0)], rfl, (by show 6 ≤ 15; decide), ?_⟩
  have em : mergeK [] [(.inr "row", V.ref t), (.inr "at", .int 0), (.inr "stop", .bl false), (.inr "last", .int 0), (.inr "parts", .int 0), (.inr "heard", .int 0)] = lK t 0 false 0 0 0 := rfl
  rw [em]
  have s1 : Same H (upd (upd H w (.dK [])) w (.dK (lK t 0 false 0 0 0))) := same_add (same_new hw0 _) hw0
  have W1 : LW (upd (upd H w (.dK [])) w (.dK (lK t 0 false 0 0 0))) w t ts s0 := ⟨upd_same, s1 _ _ ht, Nat.zero_le _, htk, has, hsz⟩
  generalize upd (upd H w (.dK [])) w (.dK (lK t 0 false 0 0 0)) = H1 at s1 W1
  refine ⟨_, _, rfl, ?_⟩
  refine ⟨21, rfl, by omega, by decide, ?_⟩
  refine for_range (lo := 0) (n := 21) (fun i σ G => ∃ (s : S) (y3 : Option V), σ = [some (.ref t), some (.ref w), some (.int (i : Int)), y3] ∧ Same H G ∧ LW G w t ts s ∧ lHouses ts (21 - i) i s = lAns ts) ?_ ?_ ?_
  · exact ⟨s0, _, rfl, s1, W1, rfl⟩
  · rintro i σ G hi ⟨s, y3, rfl, sG, WG, e⟩
    obtain ⟨m, hm⟩ : ∃ m, 21 - i = m + 1 := ⟨21 - i - 1, by omega⟩
    have hm' : 21 - (i + 1) = m := by omega
    rw [hm] at e
    have e1 : (if whole ts i s = true ∧ s.stop = false then none else lHouses ts m (i + 1) (pHouse ts (lRule ts 8) i (go ts (houseWord i) 0 (-1) s))) = lAns ts := e
    have hw := WG.ob
    have ewh : whole ts i s = (decide ((s.last : Int) < (i : Int)) && decide ((s.at_ : Int) = (ts.length : Int))) := whole_val.symm
    -- whole?
    refine ⟨fun τ G1 => τ = [some (.ref t), some (.ref w), some (.int (i : Int)), some (.int (0 + (i : Int)))] ∧ G = G1 ∧ lHouses ts m (i + 1) (pHouse ts (lRule ts 8) i (go ts (houseWord i) 0 (-1) s)) = lAns ts, ?_, ?_⟩
    · refine ⟨_, rfl, _, rfl, w, _, rfl, lg_last hw, _, _, rfl, rfl, _, rfl, ?_⟩
      refine if2 (fun c => ?_) (fun c => ?_)
      rotate_left
      · refine ifF rfl ?_
        refine ⟨rfl, rfl, ?_⟩
        rw [if_neg (fun z => by rw [ewh, c, Bool.false_and] at z; cases z.1)] at e1
        exact e1
      rw [c, Bool.true_and] at ewh
      refine ⟨_, rfl, w, _, rfl, lg_at hw, _, rfl, t, _, rfl, .inl (SqL.of WG.lst), rfl, _, rfl, ?_⟩
      rw [List.length_map]
      by_cases hat : s.at_ = ts.length
      · refine ifT (decide_eq_true (by rw [hat])) ?_
        rw [decide_eq_true (show (s.at_ : Int) = (ts.length : Int) by rw [hat])] at ewh
        refine ⟨_, rfl, w, _, rfl, lg_stop hw, s.stop, rfl, ?_⟩
        cases hst : s.stop with
        | true =>
          refine ifF rfl ?_
          refine ⟨rfl, rfl, ?_⟩
          rw [if_neg (fun z => by rw [hst] at z; cases z.2)] at e1
          exact e1
        | false =>
          refine ifT rfl ?_
          rw [if_pos ⟨ewh, hst⟩] at e1
          rw [← e1] at q
          exact q _ sG
      · refine ifF (decide_eq_false (fun z => hat (by have := V.int.inj z; omega))) ?_
        refine ifF rfl ?_
        rw [decide_eq_false (show ¬ (s.at_ : Int) = (ts.length : Int) by omega)] at ewh
        refine ⟨rfl, rfl, ?_⟩
        rw [if_neg (fun z => by rw [ewh] at z; cases z.1)] at e1
        exact e1
    rintro τ G1 ⟨rfl, rfl, e2⟩
    clear e1 e
    -- house
    refine ⟨fun τ G1 => τ = [some (.ref t), some (.ref w), some (.int (i : Int)), some (.int (0 + (i : Int)))] ∧ But w G G1 ∧ LW G1 w t ts (go ts (houseWord i) 0 (-1) s), ?_, ?_⟩
    · have step : ∀ (r : Addr) (ws : List Str), G r = none → ws = houseWord i → spLEat K [.ref w, .ref r, .int 0, .int (-1)] (upd G r (.lst (ws.map V.str))) (fun _ G1 => [some (V.ref t), some (.ref w), some (.int (i : Int)), some (.int (0 + (i : Int)))] = [some (.ref t), some (.ref w), some (.int (i : Int)), some (.int (0 + (i : Int)))] ∧
          But w G G1 ∧ LW G1 w t ts (go ts (houseWord i) 0 (-1) s)) E0 := fun r ws hr' ews => by
        refine ⟨w, t, ts, s, r, ws, 0, -1, rfl, WG.same (same_new hr' _), SqL.of upd_same, fun G1 b W2 => ?_⟩
        have b4 := (But.of (w := w) (same_new hr' (.lst (ws.map V.str)))).trans b
        clear b
        subst ews
        exact ⟨rfl, b4, W2⟩
      refine ⟨_, rfl, _, rfl, _, _, rfl, rfl, _, rfl, if2 (fun c => ?_) (fun c => ?_)⟩
      · have c' : i < 20 := by have := of_decide_eq_true c; omega
        exact ⟨small (by decide), fun r hr' => ⟨_, rfl, step r ["house"] hr' (by unfold houseWord; rw [if_pos c'])⟩⟩
      · have c' : ¬ i < 20 := by have := of_decide_eq_false c; omega
        exact ⟨Nat.zero_le _, fun r hr' => ⟨_, rfl, step r [] hr' (by unfold houseWord; rw [if_neg c'])⟩⟩
    rintro τ G1 ⟨rfl, b1, W1'⟩
    have eH : pHouse ts (lRule ts 8) i (go ts (houseWord i) 0 (-1) s) = go ts [";"] 0 (-1) (lRule ts 8 (fresh (go ts [":"] 0 (-1) (go ts [] 0 1000 (go ts ["top"] 0 (-1) (go ts [] i i (go ts (houseWord i) 0 (-1) s))))))) := by
      unfold pHouse
      rw [number_go, number_go]
    refine ⟨_, rfl, Nat.zero_le _, fun r2 hr2 => ⟨_, rfl, _, rfl, w, t, ts, _, r2, [], (i : Int), (i : Int), rfl, W1'.same (same_new hr2 _), SqL.of upd_same, fun G2 b2 W2 => ?_⟩⟩
    refine ⟨_, rfl, small (by decide), fun r3 hr3 => ⟨_, rfl, w, t, ts, _, r3, ["top"], 0, -1, rfl, W2.same (same_new hr3 _), SqL.of upd_same, fun G3 b3 W3 => ?_⟩⟩
    refine ⟨_, rfl, Nat.zero_le _, fun r4 hr4 => ⟨w, t, ts, _, r4, [], 0, 1000, rfl, W3.same (same_new hr4 _), SqL.of upd_same, fun G4 b4 W4 => ?_⟩⟩
    refine ⟨_, rfl, small (by decide), fun r5 hr5 => ⟨_, rfl, w, t, ts, _, r5, [":"], 0, -1, rfl, W4.same (same_new hr5 _), SqL.of upd_same, fun G5 b5 W5 => ?_⟩⟩
    have bb := (((((((b1.trans (But.of (same_new hr2 _))).trans b2).trans (But.of (same_new hr3 _))).trans b3).trans (But.of (same_new hr4 _))).trans b4).trans (But.of (same_new hr5 _))).trans b5
    have W5 : LW G5 w t ts (go ts [":"] 0 (-1) (go ts [] 0 1000 (go ts ["top"] 0 (-1) (go ts [] i i (go ts (houseWord i) 0 (-1) s))))) := W5
    generalize go ts [":"] 0 (-1) (go ts [] 0 1000 (go ts ["top"] 0 (-1) (go ts [] i i (go ts (houseWord i) 0 (-1) s)))) = s5 at W5 eH
    clear b1 b2 b3 b4 b5 W1' W2 W3 W4
    -- parts, heard = 1, 0
    refine ⟨(by show 2 ≤ sizeLine; exact small (by decide)), fun r6 hr6 => ?_⟩
    have W6 := W5.same (same_new hr6 (.tup [.int 1, .int 0]))
    have hw6 := W6.ob
    refine ⟨r6, _, rfl, SqT.of upd_same, rfl, _, _, rfl, ?_⟩
    refine ⟨_, rfl, w, _, rfl, lp_parts hw6 1, ?_⟩
    refine ⟨_, _, rfl, ?_⟩
    refine ⟨_, rfl, w, _, rfl, lp_heard upd_same 0, rfl, ?_⟩
    have W7 := (W6.set (s' := { s5 with parts := 1 }) W6.le).set (s' := fresh s5) W6.le
    refine ⟨_, rfl, w, t, ts, _, rfl, by decide, W7, fun G8 b8 W8 => ?_⟩
    refine ⟨_, rfl, small (by decide), fun r9 hr9 => ⟨_, rfl, w, t, ts, _, r9, [";"], 0, -1, rfl, W8.same (same_new hr9 _), SqL.of upd_same, fun G9 b9 W9 => ?_⟩⟩
    have b9' : But w G G9 := (((bb.trans (But.of (same_new hr6 _))).trans ((But.upd.trans But.upd).trans b8)).trans (But.of (same_new hr9 _))).trans b9
    refine ⟨_, rfl, _, _, rfl, rfl, ?_⟩
    refine ⟨_, _, rfl, fun c o z => b9' _ _ (sG _ _ z) (ne_of_none z hw0), W9, ?_⟩
    rw [hm', ← e2, eH]
    rfl
  · rintro σ G ⟨s, y3, rfl, sG, WG, e⟩
    have e1 : some (s.at_ : Int) = lAns ts := e
    refine ⟨_, rfl, w, _, rfl, lg_at WG.ob, ?_⟩
    rw [← e1] at q
    exact q _ sG
end
end K07

namespace K07
open PySem L2
/-! ### the deal: a list of a list of naturals (at c) and a number -/
structure Dl (H : Hp) (d c : Addr) : Prop where
  ex : ∃ (ms : List Nat) (b : Nat), H d = some (.lst [.ref c, .int b]) ∧ H c = some (.lst (ms.map fun n : Nat => V.int n)) ∧ ms.length ≤ 100 ∧ b < 2147483647
theorem Dl.ne {H : Hp} {d c : Addr} (D : Dl H d c) : c ≠ d := by
  obtain ⟨ms, b, h1, h2, _⟩ := D.ex
  intro z
  rw [z, h1] at h2
  cases ms with
  | nil => cases h2
  | cons m r => cases h2
/-- all that was tracked is as it was, but the deal -/
def Bud (d c : Addr) (H H' : Hp) : Prop := ∀ b o, H b = some o → b ≠ d → b ≠ c → H' b = some o
theorem Bud.refl {d c : Addr} (H : Hp) : Bud d c H H := fun _ _ e _ _ => e
theorem Bud.of {d c : Addr} {H H' : Hp} (h : Same H H') : Bud d c H H' := fun b o e _ _ => h b o e
theorem Bud.trans {d c : Addr} {H H1 H2 : Hp} (a : Bud d c H H1) (b : Bud d c H1 H2) : Bud d c H H2 := fun x o e n m => b x o (a x o e n m) n m
theorem Bud.updD {d c : Addr} {H G : Hp} {o : HO} (b : Bud d c H G) : Bud d c H (upd G d o) := fun x u e n m => by rw [upd_ne n]; exact b x u e n m
theorem Bud.updC {d c : Addr} {H G : Hp} {o : HO} (b : Bud d c H G) : Bud d c H (upd G c o) := fun x u e n m => by rw [upd_ne m]; exact b x u e n m
theorem Bud.new {d c p : Addr} {H G : Hp} {o : HO} (b : Bud d c H G) (h : G p = none) : Bud d c H (upd G p o) := b.trans (Bud.of (same_new h o))
theorem Dl.same {H H' : Hp} {d c : Addr} (D : Dl H d c) (s : Same H H') : Dl H' d c := by
  obtain ⟨ms, b, h1, h2, h3⟩ := D.ex
  exact ⟨ms, b, s _ _ h1, s _ _ h2, h3⟩
theorem Dl.tup {H : Hp} {d c p : Addr} {xs : List V} (D : Dl H d c) (h : H p = some (.tup xs)) : p ≠ d ∧ p ≠ c := by
  obtain ⟨ms, b, h1, h2, _⟩ := D.ex
  exact ⟨fun z => (by rw [z, h1] at h; cases h), fun z => (by rw [z, h2] at h; cases h)⟩
theorem Dl.new {H : Hp} {d c p : Addr} (D : Dl H d c) (h : H p = none) : p ≠ d ∧ p ≠ c := by
  obtain ⟨ms, b, h1, h2, _⟩ := D.ex
  exact ⟨fun z => (by rw [z, h1] at h; cases h), fun z => (by rw [z, h2] at h; cases h)⟩
/-- something else is written -/
theorem Dl.other {H : Hp} {d c p : Addr} {o : HO} (D : Dl H d c) (h1 : p ≠ d) (h2 : p ≠ c) : Dl (upd H p o) d c := by
  obtain ⟨ms, b, e1, e2, e3⟩ := D.ex
  exact ⟨ms, b, by rw [upd_ne h1.symm]; exact e1, by rw [upd_ne h2.symm]; exact e2, e3⟩
def spLDraw (K : PySem.W.Frag) : Sp := fun vs H Q _ => ∃ (a : Addr) (ns : List Int) (k : Nat), vs = [.ref a, .int k] ∧ SqL K H a (ns.map V.int) ∧ k ≤ 1000 ∧ ∀ H' d c, Same H H' → Dl H' d c → Q (.ref d) H'
/-- a number below the bound -/
def spLAny : Sp := fun vs H Q _ => ∃ (d c : Addr) (k : Nat), vs = [.ref d, .int k] ∧ Dl H d c ∧ 1 ≤ k ∧ k ≤ 1000000 ∧ ∀ H' (i : Nat), Bud d c H H' → Dl H' d c → i < k → Q (.int i) H'
/-- one of them -/
def spLOf (K : PySem.W.Frag) : Sp := fun vs H Q _ => ∃ (d c p : Addr) (xs : List V), vs = [.ref d, .ref p] ∧ Dl H d c ∧ H p = some (.lst xs) ∧ p ≠ d ∧ p ≠ c ∧ xs ≠ [] ∧ xs.length ≤ 1000 ∧ ∀ H' x, Bud d c H H' → Dl H' d c → x ∈ xs → Q x H'
theorem dp_ints {K : PySem.W.Frag} {H : Hp} : ∀ ms : List Nat, DpAll K H (ms.map fun n : Nat => V.int n) (ms.map fun n : Nat => PyData.int n)
  | [] => .nil
  | _ :: r => .cons (.int _) (dp_ints r)
theorem depth_ints : ∀ ms : List Nat, PyData.depthAll (ms.map fun n : Nat => PyData.int n) = 0
  | [] => rfl
  | _ :: r => by simp [PyData.depthAll, PyData.depth, depth_ints r]
theorem can_ints : ∀ ms : List Nat, PyData.canLayAll0 (ms.map fun n : Nat => PyData.int n) = true
  | [] => rfl
  | _ :: r => by simp [PyData.canLayAll0, PyData.canLay0, can_ints r]
theorem ne_ints {K : PySem.W.Frag} {H : Hp} {a b : Addr} {ms : List Nat} {Q : VK} (ha : H a = some (.lst (ms.map fun n : Nat => V.int n))) (hb : H b = some (.lst [])) (q : Q (.bl (!ms.isEmpty)) H) : rNeD K (.ref a) (.ref b) H Q := by
  refine ⟨.list (ms.map fun n : Nat => PyData.int n), .list [], .lst (SqL.of ha) (dp_ints ms), .lst (SqL.of hb) .nil, ?_, by decide +kernel, ?_⟩
  · simp [SeqAt.shaped, PyData.canLay0, PyData.depth, can_ints ms, depth_ints]
  · rw [eqv_nil, List.isEmpty_map]
    exact q
theorem last_get {α : Type} (xs : List α) (y : α) : (xs ++ [y])[(xs ++ [y]).length - 1]? = some y := by
  rw [List.length_append, List.length_singleton, Nat.add_sub_cancel, List.getElem?_append_right (Nat.le_refl _), Nat.sub_self]
  rfl
theorem not_empty {α : Type} (r : List α) (y : α) : (r.concat y).isEmpty = false := by
  rw [List.concat_eq_append]
  cases r <;> rfl
section
variable {P : Program} {u0 : World} {K : PySem.W.Frag} {mg : Str → Option Value} {base : Heap}
abbrev nLA : List Str := ["_law_deal", "_law_bound", "_law_rest"]
abbrev pLA : List Str := ["_law_deal", "_law_bound"]
theorem scLA : FnScope nLA pLA (defScope sLAny) := ⟨rfl, rfl, rfl, by decide +kernel, rfl, by decide +kernel, by decide +kernel⟩
theorem ok_lAny {f : Addr} {fd : FuncData} (F : Fun K "_law_any" "_law_any" sLAny f fd) (B : Bl mg) : FnOk P u0 K mg base CX0 1 f fd pLA spLAny := by
  refine F.ok scLA (fun vs H Q E h => ?_) (fun cdv A outer st H vs Q E hr h => ?_)
  · obtain ⟨_, _, _, rfl, _⟩ := h
    rfl
  obtain ⟨d, c, k, rfl, D, hk1, hk2, q⟩ := h
  refine ⟨_, Evl.pss_cut (ps_while PassesOwn.never (L2.PW.pt (pw_and (pt_cmpR (op_neD hr.units) (pe_ix ix_list (pv 0) pe_int (fun _ _ => rfl)) (pe_lst pa_nil) (nomark _)) (pw_and1 (pt_cmpR op_eq (pe_ix ix_list (pe_ix ix_list (pv 0) pe_int (fun _ _ => rfl)) (pe_un un_neg pe_int) (fun _ _ => rfl)) pe_int (nomark _)))))
      (pss_one (ps_expr (pe_bm0 PySem.F.plainAttrs_list PySem.F.slot_list_pop PySem.F.type_list_pop mt_pop (pe_ix ix_list (pv 0) pe_int (fun _ _ => rfl))))))
    (pss_cons (ps_if (pt_cmpR (op_neD hr.units) (pe_ix ix_list (pv 0) pe_int (fun _ _ => rfl)) (pe_lst pa_nil) (nomark _))
      (pss_cons (ps_set (i := 2) scLA.nd rfl (.inl rfl) (pe_callTy call_int1 (by rfl) B.int (by decide +kernel) (pa_cons (pe_bm0 PySem.F.plainAttrs_list PySem.F.slot_list_pop PySem.F.type_list_pop mt_pop (pe_ix ix_list (pv 0) pe_int (fun _ _ => rfl))) pa_nil)))
      (pss_cons (ps_expr (pe_bm PySem.F.plainAttrs_list PySem.F.slot_list_append PySem.F.type_list_append mt_append (pe_ix ix_list (pv 0) pe_int (fun _ _ => rfl)) (pa_cons (pe_op op_fdiv (pv 2) (pv 1)) pa_nil)))
      (pss_one (ps_ret (pe_op op_mod (pv 2) (pv 1)))))) pss_nil)
    (pss_cons (ps_asg (pe_op op_mod (pe_callTy call_int1 (by rfl) B.int (by decide +kernel) (pa_cons (pe_op op_add (pe_op op_mul (pe_ix ix_list (pv 0) pe_int (fun _ _ => rfl)) pe_int) pe_int) pa_nil)) pe_int) (pg_sub (pv 0) pe_int set_list))
    (pss_one (ps_ret (pe_op op_mod (pe_callTy call_int1 (by rfl) B.int (by decide +kernel) (pa_cons (pe_op op_fdiv (pe_ix ix_list (pv 0) pe_int (fun _ _ => rfl)) pe_int) pa_nil)) (pv 1)))))), ?_⟩
  obtain ⟨ms, b, hd, hc, hlen, hb⟩ := D.ex
  have ncd := D.ne
  refine ⟨fun σ G => ∃ ms : List Nat, σ = [some (.ref d), some (.int (k : Int)), none] ∧ Bud d c H G ∧ G d = some (.lst [.ref c, .int b]) ∧ G c = some (.lst (ms.map fun n : Nat => V.int n)) ∧ ms.length ≤ 100, ?_, ?_⟩
  · refine ⟨fun m σ G => ∃ ms : List Nat, σ = [some (.ref d), some (.int (k : Int)), none] ∧ Bud d c H G ∧ G d = some (.lst [.ref c, .int b]) ∧ G c = some (.lst (ms.map fun n : Nat => V.int n)) ∧ ms.length ≤ 100 ∧ m = ms.length, ⟨_, ms, rfl, Bud.refl H, hd, hc, hlen, rfl⟩, ?_⟩
    rintro m σ G ⟨ms, rfl, bG, hd, hc, hlen, rfl⟩
    refine ⟨_, rfl, d, _, _, _, rfl, rfl, SqL.of hd, atI_nat (j := 0) rfl, ?_⟩
    refine ⟨Nat.zero_le _, fun p hp => ?_⟩
    have hd' : upd G p (.lst []) d = some (.lst [.ref c, .int b]) := by rw [upd_ne (ne_of_none hd hp)]; exact hd
    have hc' : upd G p (.lst []) c = some (.lst (ms.map fun n : Nat => V.int n)) := by rw [upd_ne (ne_of_none hc hp)]; exact hc
    have bG' : Bud d c H (upd G p (.lst [])) := bG.new hp
    refine ne_ints hc' upd_same ?_
    refine ⟨_, rfl, ?_⟩
    rcases List.eq_nil_or_concat ms with rfl | ⟨r, y, rfl⟩
    · refine ifF rfl ?_
      refine ifF rfl ?_
      exact ⟨[], rfl, bG', hd', hc', hlen⟩
    · refine ifT (by rw [not_empty]; rfl) ?_
      have em : (r ++ [y]).map (fun n : Nat => V.int n) = r.map (fun n : Nat => V.int n) ++ [.int y] := by rw [List.map_append]; rfl
      rw [List.concat_eq_append] at hc' hlen ⊢
      rw [em] at hc'
      refine ⟨_, rfl, d, _, _, _, rfl, rfl, SqL.of hd', atI_nat (j := 0) rfl, _, rfl, c, _, _, .int y, rfl, rfl, SqL.of hc', atI_last _ _, rfl, _, rfl, ?_⟩
      by_cases hy0 : y = 0
      · refine ifT (by rw [hy0]; rfl) ?_
        refine ⟨_, fun _ _ z => z, ?_⟩
        refine ⟨_, rfl, d, _, _, _, rfl, rfl, SqL.of hd', atI_nat (j := 0) rfl, .inl ⟨rfl, _, SqL.of hc'⟩, c, _, .int y, rfl, rfl, hc', last_get _ _, ?_⟩
        rw [List.dropLast_concat]
        rw [List.length_append, List.length_singleton] at hlen
        refine ⟨r.length, ?_, r, rfl, bG'.updC, by rw [upd_ne ncd.symm]; exact hd', upd_same, by omega, rfl⟩
        rw [List.length_append, List.length_singleton]
        omega
      · refine ifF (decide_eq_false fun z => hy0 (by have := V.int.inj z; omega)) ?_
        rw [← em] at hc'
        exact ⟨r ++ [y], rfl, bG', hd', hc', hlen⟩
  rintro σ G ⟨ms, rfl, bG, hd, hc, hlen⟩
  have hk : (0 : Int) < (k : Int) := by omega
  have mod_nat : ∀ (i : Int), ∃ j : Nat, i % (k : Int) = (j : Int) ∧ j < k := fun i => by
    have h1 := Int.emod_nonneg i (show (k : Int) ≠ 0 by omega)
    have h2 := Int.emod_lt_of_pos i hk
    exact ⟨(i % (k : Int)).toNat, by omega, by omega⟩
  refine ⟨_, rfl, d, _, _, _, rfl, rfl, SqL.of hd, atI_nat (j := 0) rfl, ?_⟩
  refine ⟨Nat.zero_le _, fun p hp => ?_⟩
  have hd' : upd G p (.lst []) d = some (.lst [.ref c, .int b]) := by rw [upd_ne (ne_of_none hd hp)]; exact hd
  have hc' : upd G p (.lst []) c = some (.lst (ms.map fun n : Nat => V.int n)) := by rw [upd_ne (ne_of_none hc hp)]; exact hc
  have bG' : Bud d c H (upd G p (.lst [])) := bG.new hp
  refine ne_ints hc' upd_same ?_
  refine ⟨_, rfl, ?_⟩
  rcases List.eq_nil_or_concat ms with rfl | ⟨r, y, rfl⟩
  · refine ifF rfl ?_
    refine ⟨_, rfl, d, _, _, .int b, rfl, rfl, SqL.of hd', rfl, _, _, rfl, rfl, .inr (by decide), _, _, rfl, rfl, .inl ⟨_, rfl, _, _, rfl, rfl, (show (0 : Int) < 2147483647 by decide), ?_⟩⟩
    obtain ⟨b2, eb2, hb2⟩ : ∃ b2 : Nat, ((b : Int) * 40693 + 71) % 2147483647 = (b2 : Int) ∧ b2 < 2147483647 := by
      have h1 := Int.emod_nonneg ((b : Int) * 40693 + 71) (show (2147483647 : Int) ≠ 0 by decide)
      have h2 := Int.emod_lt_of_pos ((b : Int) * 40693 + 71) (show (0 : Int) < 2147483647 by decide)
      exact ⟨(((b : Int) * 40693 + 71) % 2147483647).toNat, by omega, by omega⟩
    show gSub _ _ _ (V.int (((b : Int) * 40693 + 71) % 2147483647)) _ _ _
    rw [eb2]
    refine ⟨_, rfl, d, _, 1, 1, rfl, rfl, hd', rfl, ?_⟩
    have hd2 : upd (upd G p (.lst [])) d (.lst ([V.ref c, .int (b : Int)].set 1 (.int b2))) d = some (.lst [.ref c, .int b2]) := upd_same
    refine ⟨_, rfl, d, _, _, .int b2, rfl, rfl, SqL.of hd2, rfl, _, _, rfl, rfl, ⟨by decide, by decide⟩, .inl ⟨_, rfl, ?_⟩⟩
    obtain ⟨j, ej, hj⟩ := mod_nat ((b2 : Int) / 64)
    refine ⟨_, rfl, _, _, rfl, rfl, hk, ?_⟩
    show Q (.int ((b2 : Int) / 64 % (k : Int))) _
    rw [ej]
    exact q _ j (bG'.updD) ⟨[], b2, hd2, by rw [upd_ne ncd]; exact hc', by decide, hb2⟩ hj
  · refine ifT (by rw [not_empty]; rfl) ?_
    have em : (r ++ [y]).map (fun n : Nat => V.int n) = r.map (fun n : Nat => V.int n) ++ [.int y] := by rw [List.map_append]; rfl
    rw [List.concat_eq_append] at hc' hlen
    rw [em] at hc'
    rw [List.length_append, List.length_singleton] at hlen
    refine ⟨_, rfl, d, _, _, _, rfl, rfl, SqL.of hd', atI_nat (j := 0) rfl, .inl ⟨rfl, _, SqL.of hc'⟩, c, _, .int y, rfl, rfl, hc', last_get _ _, .inl ⟨y, rfl, ?_⟩⟩
    rw [List.dropLast_concat]
    have hd2 : upd (upd G p (.lst [])) c (.lst (r.map fun n : Nat => V.int n)) d = some (.lst [.ref c, .int b]) := by rw [upd_ne ncd.symm]; exact hd'
    refine ⟨_, rfl, d, _, _, _, rfl, rfl, SqL.of hd2, atI_nat (j := 0) rfl, .inl ⟨rfl, _, SqL.of upd_same⟩, _, rfl, _, rfl, _, _, rfl, rfl, ⟨hk, by omega⟩, c, _, _, rfl, rfl, upd_same, small1000 (by rw [List.length_map]; omega), ?_⟩
    obtain ⟨j, ej, hj⟩ := mod_nat y
    refine ⟨_, rfl, _, rfl, _, _, rfl, rfl, hk, ?_⟩
    show Q (.int ((y : Int) % (k : Int))) _
    rw [ej]
    refine q _ j (bG'.updC.updC) ⟨r ++ [y / k], b, by rw [upd_ne ncd.symm]; exact hd2, ?_, ?_, hb⟩ hj
    · rw [upd_same, List.map_append]
      rfl
    · rw [List.length_append, List.length_singleton]
      omega
end
end K07

namespace K07
open PySem L2
section
variable {P : Program} {u0 : World} {K : PySem.W.Frag} {mg : Str → Option Value} {base : Heap}
abbrev nLO : List Str := ["_law_deal", "_law_some"]
theorem scLO : FnScope nLO nLO (defScope sLOf) := ⟨rfl, rfl, rfl, by decide +kernel, rfl, by decide +kernel, by decide +kernel⟩
theorem ok_lOf {f fA : Addr} {fd fdA : FuncData} (F : Fun K "_law_of" "_law_of" sLOf f fd) (B : Bl mg) (DA : Df K mg "_law_any" sLAny pLA fA fdA) (GA : FnOk P u0 K mg base CX0 1 fA fdA pLA spLAny) : FnOk P u0 K mg base CX0 2 f fd nLO (spLOf K) := by
  refine F.ok scLO (fun vs H Q E h => ?_) (fun cdv A outer st H vs Q E hr h => ?_)
  · obtain ⟨_, _, _, _, rfl, _⟩ := h
    rfl
  obtain ⟨d, c, p, xs, rfl, D, hp, h1, h2, hne, hlen, q⟩ := h
  refine ⟨_, pss_one (ps_ret (pe_ix ix_list (pv 1) (pe_call GA hr (by rfl) DA.g DA.kp DA.b .nil pass0 (pa_cons (pv 0) (pa_cons (pe_callB call_len_seq (by rfl) B.len PySem.boot_len (pa_cons (pv 1) pa_nil)) pa_nil))) (fun _ _ => rfl))), ?_⟩
  have hl : 1 ≤ xs.length := List.length_pos_iff.mpr hne
  refine ⟨_, rfl, _, rfl, _, rfl, p, _, rfl, .inl (SqL.of hp), d, c, xs.length, rfl, D, hl, by omega, fun H1 i b1 D1 hi => ?_⟩
  have hg : xs[i]? = some xs[i] := List.getElem?_eq_getElem hi
  exact ⟨p, xs, i, xs[i], rfl, rfl, SqL.of (b1 _ _ hp h1 h2), atI_nat hg, q _ _ b1 D1 (List.getElem_mem hi)⟩
abbrev nLW : List Str := ["_law_script", "_law_salt", "_law_cells", "_law_blend", "_law_cell"]
abbrev pLW : List Str := ["_law_script", "_law_salt"]
theorem scLW : FnScope nLW pLW (defScope sLDraw) := ⟨rfl, rfl, rfl, by decide +kernel, rfl, by decide +kernel, by decide +kernel⟩
theorem ok_lDraw {f : Addr} {fd : FuncData} (F : Fun K "_law_draw" "_law_draw" sLDraw f fd) (B : Bl mg) : FnOk P u0 K mg base CX0 1 f fd pLW (spLDraw K) := by
  refine F.ok scLW (fun vs H Q E h => ?_) (fun cdv A outer st H vs Q E hr h => ?_)
  · obtain ⟨_, _, _, rfl, _⟩ := h
    rfl
  obtain ⟨a, ns, k, rfl, ha, hk, q⟩ := h
  refine ⟨_, pss_cons (ps_setLc (i := 2) (own := [("_law_cell", 4)]) (g := gName 4) (tt := tYes) rfl scLW.nd rfl rfl (sw_true rfl rfl rfl (by decide +kernel)) (pi_list (pe_slice sl_list (pv 0) po_none (po_some pe_int))) (blkOk_by (N := nLW) (sc := defScope sLDraw) (by decide +kernel)) (fun _ _ _ _ _ => pg_name (i := 4) scLW.nd rfl (Or.inl rfl)) (fun _ _ _ _ _ => pts_nil)
        (fun _ _ _ _ _ => pe_callB call_abs (by rfl) B.abs (by decide +kernel) (pa_cons (pe_callTy call_int1 (by rfl) B.int (by decide +kernel) (pa_cons (pv 4) pa_nil)) pa_nil)))
    (pss_cons (ps_set (i := 3) scLW.nd rfl (.inl rfl) (pe_op op_add pe_int (pe_op op_mul pe_int (pv 1))))
    (pss_cons (ps_for PassesOwn.never rfl (pi_list (pv 2)) (pg_name (i := 4) scLW.nd rfl (.inl rfl))
      (pss_one (ps_set (i := 3) scLW.nd rfl (.inl rfl) (pe_op op_mod (pe_callTy call_int1 (by rfl) B.int (by decide +kernel) (pa_cons (pe_op op_add (pe_op op_add (pe_op op_mul (pv 3) pe_int) (pe_op op_mod (pv 4) pe_int)) pe_int) pa_nil)) pe_int))))
    (pss_one (ps_ret (pe_lst (pa_cons (pe_revL (pe_lc (own := [("_law_cell", 4)]) (g := gName 4) (tt := tTest (tOp (rI0 fun i j => V.bl (decide (j ≤ i))) (tVar 4) (tOp (rI CPow fun i j => V.int (i ^ j.toNat)) (tC (.int 10)) (tC (.int 18))))) rfl scLW.nd (pi_list (pv 2)) (blkOk_by (N := nLW) (sc := defScope sLDraw) (by decide +kernel))
        (fun _ _ _ _ _ => pg_name (i := 4) scLW.nd rfl (Or.inl rfl)) (fun _ _ _ _ _ => pts_one (pt_cmpR op_ge (pv 4) (pe_op op_pow pe_int pe_int) (nomark _))) (fun _ _ _ _ _ => pv 4))) (pa_cons (pv 3) pa_nil))))))), ?_⟩
  -- the cells
  have ecut : cutV (ns.map V.int) none (some 48) = (ns.take 48).map V.int := by
    unfold cutV
    have h1 : HT.sIx (ns.map V.int).length 0 none = 0 := rfl
    have h2 : HT.sIx (ns.map V.int).length (ns.map V.int).length (some (48 : Int)) = min 48 ns.length := by
      rw [List.length_map]
      exact HT.sIx_nat _ _ 48
    rw [h1, h2, List.drop_zero, Nat.sub_zero, ← List.map_take]
    congr 1
    exact List.take_eq_take_iff.mpr (by omega)
  refine ⟨_, rfl, (48 : Int), rfl, a, _, rfl, ha, fun p hp => ?_⟩
  rw [ecut]
  have hs : Same H (upd H p (.lst ((ns.take 48).map V.int))) := same_new hp _
  have hpv : (upd H p (.lst ((ns.take 48).map V.int))) p = some (.lst ((ns.take 48).map V.int)) := upd_same
  have h48 : (ns.take 48).length ≤ 48 := by rw [List.length_take]; omega
  generalize ns.take 48 = ls at hs hpv h48
  generalize upd H p (.lst (ls.map V.int)) = H1 at hs hpv
  refine ⟨p, rfl, ⟨_, SqL.of hpv⟩, fun D hD => lc_listM (xs := ls.map V.int) (fun i F => Same H1 F ∧ F D = some (.lst ((ls.take i).map fun z => V.int (z.natAbs : Nat)))) ⟨same_new hD _, upd_same⟩ (fun i F _ h => SqL.of (h.1 _ _ hpv)) ?_ ?_⟩
  · rintro i y F hy ⟨sm, e⟩
    rw [List.getElem?_map] at hy
    cases hi : ls[i]? with
    | none => rw [hi] at hy; cases hy
    | some z =>
      rw [hi] at hy
      obtain rfl : V.int z = y := Option.some.inj hy
      refine ⟨rfl, ?_⟩
      refine ⟨_, rfl, .inl ⟨z, rfl, z, rfl, _, e, ?_, ?_, ?_⟩⟩
      · rw [List.length_map, List.length_take]
        exact small1000 (by omega)
      · exact fun b o w => by rw [upd_ne (ne_of_none w hD)]; exact sm b o w
      · have ez : (if z < 0 then -z else z) = ((z.natAbs : Nat) : Int) := by
          by_cases c : z < 0
          · rw [if_pos c]; omega
          · rw [if_neg c]; omega
        rw [upd_same, ez, List.take_add_one, hi, List.map_append]
        rfl
  rintro F ⟨sm, e⟩
  rw [List.length_map, List.take_length] at e
  have hs2 : Same H F := hs.trans sm
  have e' : F D = some (.lst ((ls.map Int.natAbs).map fun n : Nat => V.int n)) := by rw [List.map_map]; exact e
  have hl2 : (ls.map Int.natAbs).length ≤ 48 := by rw [List.length_map]; exact h48
  generalize ls.map Int.natAbs = ms at e' hl2
  clear sm e hpv hs
  have mod_nat : ∀ (i : Int), ∃ j : Nat, i % 2147483647 = (j : Int) ∧ j < 2147483647 := fun i => by
    have h1 := Int.emod_nonneg i (show (2147483647 : Int) ≠ 0 by decide)
    have h2 := Int.emod_lt_of_pos i (show (0 : Int) < 2147483647 by decide)
    exact ⟨(i % 2147483647).toNat, by omega, by omega⟩
  refine ⟨_, rfl, _, _, rfl, rfl, .inl (by decide), _, _, rfl, rfl, ?_⟩
  refine ⟨_, rfl, D, rfl, ⟨_, SqL.of e'⟩, for_list (xs := ms.map fun n : Nat => V.int n) (fun i σ G => ∃ (b : Nat) (y : Option V), σ = [some (.ref a), some (.int k), some (.ref D), some (.int b), y] ∧ G = F ∧ b < 2147483647)
    ⟨7919 + 104729 * k, none, rfl, rfl, by omega⟩ (fun i σ G _ h => by obtain ⟨_, _, _, rfl, _⟩ := h; exact SqL.of e') ?_ ?_⟩
  · rintro i y σ G hy ⟨b, y0, rfl, rfl, hb⟩
    rw [List.getElem?_map] at hy
    cases hi : ms[i]? with
    | none => rw [hi] at hy; cases hy
    | some z =>
      rw [hi] at hy
      obtain rfl : V.int (z : Int) = y := Option.some.inj hy
      refine ⟨_, rfl, _, _, rfl, rfl, .inr (by decide), _, rfl, _, _, rfl, rfl, (show (0 : Int) < 2147483549 by decide), _, _, rfl, rfl, _, _, rfl, rfl, .inl ⟨_, rfl, _, _, rfl, rfl, (show (0 : Int) < 2147483647 by decide), ?_⟩⟩
      obtain ⟨j, ej, hj⟩ := mod_nat ((b : Int) * 48271 + (z : Int) % 2147483549 + 11)
      refine ⟨j, some (.int (z : Int)), ?_, rfl, hj⟩
      rw [← ej]
      rfl
  rintro σ G ⟨b, y0, rfl, rfl, hb⟩
  refine ⟨_, rfl, D, rfl, ⟨_, SqL.of e'⟩, fun R hR => lc_list (xs := ms.map fun n : Nat => V.int n) (fun i F => Same G F ∧ ∃ ls : List Nat, F R = some (.lst (ls.map fun n : Nat => V.int n)) ∧ ls.length ≤ i) ⟨same_new hR _, [], upd_same, Nat.le_refl _⟩ (fun i F _ h => SqL.of (h.1 _ _ e')) ?_ ?_⟩
  · rintro i y F hy ⟨sm, ls, eR, hll⟩
    have hi48 : i < 48 := by
      have := (List.getElem?_eq_some_iff.mp hy).1
      rw [List.length_map] at this
      omega
    rw [List.getElem?_map] at hy
    cases hi : ms[i]? with
    | none => rw [hi] at hy; cases hy
    | some z =>
      rw [hi] at hy
      obtain rfl : V.int (z : Int) = y := Option.some.inj hy
      refine ⟨rfl, ?_⟩
      refine ⟨_, rfl, _, _, rfl, rfl, ⟨by decide, by decide, by decide⟩, _, _, rfl, rfl, _, rfl, ?_⟩
      refine if2 (fun c => ?_) (fun c => ?_)
      · refine ⟨_, rfl, _, eR, ?_, ?_, ls ++ [z], ?_, ?_⟩
        · rw [List.length_map]
          exact small1000 (by omega)
        · exact fun b o w => by rw [upd_ne (ne_of_none w hR)]; exact sm b o w
        · rw [upd_same, List.map_append]
          rfl
        · rw [List.length_append, List.length_singleton]
          omega
      · exact ⟨sm, ls, eR, by omega⟩
  rintro F ⟨sm, ls, eR, hll⟩
  rw [List.length_map] at hll
  refine ⟨R, _, rfl, SqL.of eR, fun r hr' => ?_⟩
  refine ⟨_, rfl, (by show 2 ≤ sizeLine; exact small (by decide)), fun d hd => ?_⟩
  refine q _ d r (((hs2.trans sm).trans (same_new hr' _)).trans (same_new hd _)) ⟨ls.reverse, b, upd_same, ?_, ?_, hb⟩
  · have hr2 : (upd F r (.lst (ls.map fun n : Nat => V.int n).reverse)) r = some (.lst (ls.map fun n : Nat => V.int n).reverse) := upd_same
    rw [upd_ne (ne_of_none hr2 hd), hr2, List.map_reverse]
  · rw [List.length_reverse]
    omega
end
end K07

namespace K07
open PySem L2
/-! ### drawn rules: tuples -/
/-- tuples stand -/
def TK (H H' : Hp) : Prop := ∀ b xs, H b = some (.tup xs) → H' b = some (.tup xs)
theorem TK.refl (H : Hp) : TK H H := fun _ _ e => e
theorem TK.trans {H H1 H2 : Hp} (a : TK H H1) (b : TK H1 H2) : TK H H2 := fun x xs e => b x xs (a x xs e)
theorem TK.of {H H' : Hp} (s : Same H H') : TK H H' := fun b xs e => s b _ e
theorem TK.bud {H H' : Hp} {d c : Addr} (D : Dl H d c) (b : Bud d c H H') : TK H H' := fun x xs e => b x _ e (D.tup e).1 (D.tup e).2
theorem TK.updL {H : Hp} {p : Addr} {ys : List V} {o : HO} (h : H p = some (.lst ys)) : TK H (upd H p o) := fun b xs e => by
  have n : b ≠ p := fun z => by rw [z, h] at e; cases e
  rw [upd_ne n]; exact e
theorem Bud.newer {d c p : Addr} {H G : Hp} {o : HO} (b : Bud d c H G) (h : H p = none) : Bud d c H (upd G p o) := fun x u e n m => by
  rw [upd_ne (ne_of_none e h)]; exact b x u e n m
theorem minus_one (e : Nat) : ((e + 1 : Nat) : Int) - 1 = (e : Int) := by omega
def NUMW : List Str := ["times", "part", "clip", "from", "bar"]
def Leaf (H : Hp) (r : Addr) : Prop := ∃ (x : Str) (n : Nat), H r = some (.tup [.str x, .int n]) ∧ (x = "is" ∨ x = "hear") ∧ n ≤ 1000
def RuleAt (H : Hp) : Nat → Addr → Prop
  | 0, r => Leaf H r
  | d + 1, r => Leaf H r ∨ (∃ (x : Str) (p : Addr) (rs : List Addr), H r = some (.tup [.str x, .ref p]) ∧ x ∈ LISTS ∧ H p = some (.tup (rs.map V.ref)) ∧ rs.length ≤ 2 ∧ ∀ q ∈ rs, RuleAt H d q) ∨
    (∃ rs : List Addr, H r = some (.tup (.str "middle" :: rs.map V.ref)) ∧ rs.length = 3 ∧ ∀ q ∈ rs, RuleAt H d q) ∨
    (∃ (x : Str) (ns : List Nat) (q : Addr), H r = some (.tup (.str x :: ((ns.map fun n : Nat => V.int n) ++ [.ref q]))) ∧ x ∈ NUMW ∧ ns.length ≤ 3 ∧ (∀ n ∈ ns, n ≤ 1000) ∧ RuleAt H d q) ∨
    (∃ (p : Addr) (ns : List Nat) (q : Addr), H r = some (.tup [.str "row", .ref p, .ref q]) ∧ H p = some (.tup (ns.map fun n : Nat => V.int n)) ∧ ns.length ≤ 200 ∧ (∀ n ∈ ns, n ≤ 1000) ∧ RuleAt H d q)
theorem Leaf.keep {H H' : Hp} {r : Addr} (k : TK H H') (h : Leaf H r) : Leaf H' r := by
  obtain ⟨x, n, e, h⟩ := h
  exact ⟨x, n, k _ _ e, h⟩
theorem RuleAt.keep {H H' : Hp} (k : TK H H') : ∀ {d : Nat} {r : Addr}, RuleAt H d r → RuleAt H' d r
  | 0, _, h => Leaf.keep k h
  | d + 1, r, h => by
    rcases h with h | ⟨x, p, rs, h1, h2, h3, h4, h5⟩ | ⟨rs, h1, h2, h3⟩ | ⟨x, ns, q, h1, h2, h3, h4, h5⟩ | ⟨p, ns, q, h1, h2, h3, h4, h5⟩
    · exact .inl (h.keep k)
    · exact .inr (.inl ⟨x, p, rs, k _ _ h1, h2, k _ _ h3, h4, fun q hq => (h5 q hq).keep k⟩)
    · exact .inr (.inr (.inl ⟨rs, k _ _ h1, h2, fun q hq => (h3 q hq).keep k⟩))
    · exact .inr (.inr (.inr (.inl ⟨x, ns, q, k _ _ h1, h2, h3, h4, h5.keep k⟩)))
    · exact .inr (.inr (.inr (.inr ⟨p, ns, q, k _ _ h1, k _ _ h2, h3, h4, h5.keep k⟩)))
theorem RuleAt.leaf {H : Hp} : ∀ {d : Nat} {r : Addr}, Leaf H r → RuleAt H d r
  | 0, _, h => h
  | _ + 1, _, h => .inl h
theorem parts_step {H1 F F' : Hp} {d c L r : Addr} {rs : List Addr} {e : Nat} (D1 : Dl H1 d c) (hL : H1 L = none) (b : Bud d c H1 F) (D : Dl F d c) (hr : F L = some (.lst (rs.map V.ref))) (ha : ∀ q ∈ rs, RuleAt F e q) (b' : Bud d c F F') (D' : Dl F' d c) (hr' : RuleAt F' e r) :
    Bud d c H1 (upd F' L (.lst (rs.map V.ref ++ [.ref r]))) ∧ Dl (upd F' L (.lst (rs.map V.ref ++ [.ref r]))) d c ∧ F' L = some (.lst (rs.map V.ref)) ∧
      ∃ rs' : List Addr, (upd F' L (.lst (rs.map V.ref ++ [.ref r]))) L = some (.lst (rs'.map V.ref)) ∧ rs'.length = rs.length + 1 ∧ ∀ q ∈ rs', RuleAt (upd F' L (.lst (rs.map V.ref ++ [.ref r]))) e q := by
  have n := D1.new hL
  have hL' := b' _ _ hr n.1 n.2
  have k1 : TK F F' := TK.bud D b'
  have k2 : TK F' (upd F' L (.lst (rs.map V.ref ++ [.ref r]))) := TK.updL hL'
  refine ⟨(b.trans b').newer hL, D'.other n.1 n.2, hL', rs ++ [r], by rw [upd_same, List.map_append]; rfl, by rw [List.length_append]; rfl, fun q hq => ?_⟩
  rcases List.mem_append.mp hq with hq | hq
  · exact ((ha q hq).keep k1).keep k2
  · rw [List.mem_singleton.mp hq]
    exact hr'.keep k2
def spDRule (dd : Nat) : Sp := fun vs H Q _ => ∃ (d c : Addr) (n top : Nat), vs = [.ref d, .int n, .int top, .int dd, .bl true] ∧ Dl H d c ∧ 1 ≤ n ∧ n ≤ 100 ∧ top ≤ 100 ∧
  ∀ H' r, Bud d c H H' → Dl H' d c → RuleAt H' dd r → Q (.ref r) H'
section
variable {P : Program} {u0 : World} {K : PySem.W.Frag} {mg : Str → Option Value} {base : Heap}
abbrev nDR : List Str := ["_law_deal", "_law_n", "_law_top", "_law_deep", "_law_any_row", "_law_form", "_law_parts_here", "_law_turn", "_law_inner", "_law_low", "_law_row"]
abbrev pDR : List Str := ["_law_deal", "_law_n", "_law_top", "_law_deep", "_law_any_row"]
theorem scDR : FnScope nDR pDR (defScope sLRule) := ⟨rfl, rfl, rfl, by decide +kernel, rfl, by decide +kernel, by decide +kernel⟩
theorem ok_dRule {f fA fO : Addr} {fd fdA fdO : FuncData} {e k : Nat} (F : Fun K "_law_rule" "_law_rule" sLRule f fd) (B : Bl mg) (DA : Df K mg "_law_any" sLAny pLA fA fdA) (GA : FnOk P u0 K mg base CX0 1 fA fdA pLA spLAny)
    (DO : Df K mg "_law_of" sLOf nLO fO fdO) (GO : FnOk P u0 K mg base CX0 2 fO fdO nLO (spLOf K)) (g : mg "_law_rule" = some (.ref f)) (b : Binds K fd pDR []) (ih : ∀ e', e = e' + 1 → FnOk P u0 K mg base CX0 k f fd pDR (spDRule e')) (hk : 2 ≤ k) :
    FnOk P u0 K mg base CX0 (k + 1) f fd pDR (spDRule e) := by
  obtain ⟨ed, hed, IH⟩ : ∃ ed : Nat, (∀ e', e = e' + 1 → ed = e') ∧ FnOk P u0 K mg base CX0 k f fd pDR (fun vs H Q E => e = ed + 1 ∧ spDRule ed vs H Q E) := by
    cases e with
    | zero => exact ⟨0, fun e' z => (by cases z), ⟨fun vs H Q E h => (nomatch h.1), fun A outer s H args us vs Q E _ _ _ _ h => (nomatch h.1)⟩⟩
    | succ e => exact ⟨e, fun e' z => (by cases z; rfl), ⟨fun vs H Q E h => (ih e rfl).len vs H Q E h.2, fun A outer s H args us vs Q E h1 h2 h3 h4 h => (ih e rfl).run A outer s H args us vs Q E h1 h2 h3 h4 h.2⟩⟩
  refine F.ok scDR (fun vs H Q E h => ?_) (fun cdv A outer st H vs Q E hr h => ?_)
  · obtain ⟨_, _, _, _, rfl, _⟩ := h
    rfl
  obtain ⟨d, c, n, top, rfl, D, hn1, hn2, htop, q⟩ := h
  have hr1 : Room 1 _ := hr.mono (by omega)
  have hr2 : Room 2 _ := hr.mono hk
  refine ⟨_, Evl.pss_cut (ps_set (i := 5) scDR.nd rfl (.inl rfl) (pe_ifExp (pt_cmpR op_gt (pv 3) pe_int (nomark _)) (pe_call GA hr1 (by rfl) DA.g DA.kp DA.b .nil pass0 (pa_cons (pv 0) (pa_cons pe_int pa_nil))) (pe_call GA hr1 (by rfl) DA.g DA.kp DA.b .nil pass0 (pa_cons (pv 0) (pa_cons pe_int pa_nil)))))
    (pss_cons (ps_if (pt_cmpR op_eq (pv 5) pe_int (nomark _)) (pss_one (ps_ret (pe_tup (pa_cons pe_str (pa_cons (pe_call GA hr1 (by rfl) DA.g DA.kp DA.b .nil pass0 (pa_cons (pv 0) (pa_cons (pe_op op_add (pv 2) pe_int) pa_nil))) pa_nil))))) pss_nil)
    (pss_cons (ps_if (pt_cmpR op_lt (pv 5) pe_int (nomark _)) (pss_one (ps_ret (pe_tup (pa_cons pe_str (pa_cons (pe_call GA hr1 (by rfl) DA.g DA.kp DA.b .nil pass0 (pa_cons (pv 0) (pa_cons (pv 1) pa_nil))) pa_nil))))) pss_nil)
    (pss_cons (ps_if (pt_cmpR op_lt (pv 5) pe_int (nomark _))
      (pss_cons (ps_set (i := 6) scDR.nd rfl (.inl rfl) (pe_callTy call_tuple_of (by rfl) B.tuple (by decide +kernel) (pa_cons
          (pe_lc (own := [("_law_turn", 7)]) (g := gName 7) (tt := tYes) rfl scDR.nd (pi_range1 (by rfl) B.range (pa_cons (pe_op op_add pe_int (pe_call GA hr1 (by rfl) DA.g DA.kp DA.b .nil pass0 (pa_cons (pv 0) (pa_cons pe_int pa_nil)))) pa_nil)) (blkOk_by (N := nDR) (sc := defScope sLRule) (by decide +kernel)) (fun _ _ _ _ _ => pg_name (i := 7) scDR.nd rfl (Or.inl rfl)) (fun _ _ _ _ _ => pts_nil)
            (fun _ _ _ _ _ => pe_call IH hr (by rfl) g F.kp b .nil pass0 (pa_cons (pv 0) (pa_cons (pv 1) (pa_cons (pv 2) (pa_cons (pe_op op_sub (pv 3) pe_int) (pa_cons (pv 4) pa_nil))))))) pa_nil)))
      (pss_one (ps_ret (pe_tup (pa_cons (pe_call GO hr2 (by rfl) DO.g DO.kp DO.b .nil pass0 (pa_cons (pv 0) (pa_cons (pe_lst (pa_cons pe_str (pa_cons pe_str (pa_cons pe_str pa_nil)))) pa_nil))) (pa_cons (pv 6) pa_nil)))))) pss_nil)
    (Evl.pss_cut (ps_if (L2.PW.pt (pw_and (pt_cmpR op_eq (pv 5) pe_int (nomark _)) (pw_and1 (pt_cmpR op_eq (pv 3) pe_int (nomark _)))))
      (pss_one (ps_ret (pe_op op_catA (pe_tup (pa_cons pe_str pa_nil)) (pe_callTy call_tuple_of (by rfl) B.tuple (by decide +kernel) (pa_cons
          (pe_lc (own := [("_law_turn", 7)]) (g := gName 7) (tt := tYes) rfl scDR.nd (pi_range1 (by rfl) B.range (pa_cons pe_int pa_nil)) (blkOk_by (N := nDR) (sc := defScope sLRule) (by decide +kernel)) (fun _ _ _ _ _ => pg_name (i := 7) scDR.nd rfl (Or.inl rfl)) (fun _ _ _ _ _ => pts_nil)
            (fun _ _ _ _ _ => pe_call IH hr (by rfl) g F.kp b .nil pass0 (pa_cons (pv 0) (pa_cons (pv 1) (pa_cons (pv 2) (pa_cons pe_int (pa_cons (pv 4) pa_nil))))))) pa_nil))))) pss_nil)
    (pss_cons (ps_set (i := 8) scDR.nd rfl (.inl rfl) (pe_call IH hr (by rfl) g F.kp b .nil pass0 (pa_cons (pv 0) (pa_cons (pv 1) (pa_cons (pv 2) (pa_cons (pe_op op_sub (pv 3) pe_int) (pa_cons (pv 4) pa_nil)))))))
    (pss_cons (ps_if (pt_cmpR op_eq (pv 5) pe_int (nomark _)) (pss_one (ps_ret (pe_tup (pa_cons pe_str (pa_cons (pe_call GA hr1 (by rfl) DA.g DA.kp DA.b .nil pass0 (pa_cons (pv 0) (pa_cons pe_int pa_nil))) (pa_cons (pv 8) pa_nil)))))) pss_nil)
    (pss_cons (ps_if (pt_cmpR op_eq (pv 5) pe_int (nomark _)) (pss_one (ps_ret (pe_tup (pa_cons pe_str (pa_cons (pe_op op_add pe_int (pe_call GA hr1 (by rfl) DA.g DA.kp DA.b .nil pass0 (pa_cons (pv 0) (pa_cons pe_int pa_nil)))) (pa_cons (pv 8) pa_nil)))))) pss_nil)
    (pss_cons (ps_if (pt_cmpR op_eq (pv 5) pe_int (nomark _))
      (pss_cons (ps_set (i := 9) scDR.nd rfl (.inl rfl) (pe_call GA hr1 (by rfl) DA.g DA.kp DA.b .nil pass0 (pa_cons (pv 0) (pa_cons (pe_op op_add (pv 2) pe_int) pa_nil))))
      (pss_one (ps_ret (pe_tup (pa_cons pe_str (pa_cons (pv 9) (pa_cons (pe_op op_add (pv 9) (pe_call GA hr1 (by rfl) DA.g DA.kp DA.b .nil pass0 (pa_cons (pv 0) (pa_cons pe_int pa_nil)))) (pa_cons (pv 8) pa_nil)))))))) pss_nil)
    (pss_cons (ps_if (pt_cmpR op_eq (pv 5) pe_int (nomark _)) (pss_one (ps_ret (pe_tup (pa_cons pe_str (pa_cons (pe_call GA hr1 (by rfl) DA.g DA.kp DA.b .nil pass0 (pa_cons (pv 0) (pa_cons (pe_op op_add (pv 2) pe_int) pa_nil)))
        (pa_cons (pe_call GA hr1 (by rfl) DA.g DA.kp DA.b .nil pass0 (pa_cons (pv 0) (pa_cons (pe_op op_add (pv 2) pe_int) pa_nil))) (pa_cons (pe_call GA hr1 (by rfl) DA.g DA.kp DA.b .nil pass0 (pa_cons (pv 0) (pa_cons (pe_op op_add (pv 2) pe_int) pa_nil))) (pa_cons (pv 8) pa_nil)))))))) pss_nil)
    (pss_cons (ps_if (pt_cmpR op_eq (pv 5) pe_int (nomark _))
      (pss_cons (ps_setLc (i := 10) (own := [("_law_turn", 7)]) (g := gName 7) (tt := tYes) rfl scDR.nd rfl rfl (sw_true rfl rfl rfl (by decide +kernel)) (pi_range1 (by rfl) B.range (pa_cons (pe_op op_add pe_int (pe_call GA hr1 (by rfl) DA.g DA.kp DA.b .nil pass0 (pa_cons (pv 0) (pa_cons (pe_op op_add (pv 2) pe_int) pa_nil)))) pa_nil)) (blkOk_by (N := nDR) (sc := defScope sLRule) (by decide +kernel)) (fun _ _ _ _ _ => pg_name (i := 7) scDR.nd rfl (Or.inl rfl)) (fun _ _ _ _ _ => pts_nil)
            (fun _ _ _ _ _ => pe_call GA hr1 (by rfl) DA.g DA.kp DA.b .nil pass0 (pa_cons (pv 0) (pa_cons (pe_op op_add (pv 2) pe_int) pa_nil))))
      (pss_one (ps_ret (pe_tup (pa_cons pe_str (pa_cons (pe_callTy call_tuple_of (by rfl) B.tuple (by decide +kernel) (pa_cons (pe_ifExp (pt_val (pv 4)) (pv 10) (pe_callB cr_sorted (by rfl) B.sorted (by decide +kernel) (pa_cons (pv 10) pa_nil))) pa_nil)) (pa_cons (pv 8) pa_nil))))))) pss_nil)
    (pss_one (ps_ret (pe_tup (pa_cons pe_str (pa_cons (pe_call GA hr1 (by rfl) DA.g DA.kp DA.b .nil pass0 (pa_cons (pv 0) (pa_cons (pe_op op_add (pv 2) pe_int) pa_nil))) (pa_cons (pv 8) pa_nil)))))))))))))))), ?_⟩
  -- form
  refine ⟨fun τ G => ∃ i : Nat, τ = [some (.ref d), some (.int n), some (.int top), some (.int e), some (.bl true), some (.int i), none, none, none, none, none] ∧ Bud d c H G ∧ Dl G d c ∧ i < 14 ∧ (e = 0 → i < 4), ?_, ?_⟩
  · refine ⟨_, rfl, _, _, rfl, rfl, _, rfl, if2 (fun z => ?_) (fun z => ?_)⟩
    · have z' := of_decide_eq_true z
      exact ⟨_, rfl, d, c, 14, rfl, D, by decide, by decide, fun H1 i b1 D1 hi => ⟨i, rfl, b1, D1, hi, fun w => by omega⟩⟩
    · exact ⟨_, rfl, d, c, 4, rfl, D, by decide, by decide, fun H1 i b1 D1 hi => ⟨i, rfl, b1, D1, by omega, fun _ => hi⟩⟩
  rintro τ G ⟨i, rfl, bG, DG, hi, h0⟩
  clear D
  -- is
  refine ⟨_, rfl, rfl, _, rfl, ?_⟩
  by_cases c0 : i = 0
  · refine ifT (by rw [c0]; rfl) ?_
    refine ⟨_, rfl, _, rfl, _, _, rfl, rfl, d, c, top + 1, rfl, DG, by omega, by omega, fun H1 j b1 D1 hj => ?_⟩
    refine ⟨(by show 2 ≤ sizeLine; exact small (by decide)), fun r hr' => ?_⟩
    exact q _ r ((bG.trans b1).new hr') (D1.same (same_new hr' _)) (RuleAt.leaf ⟨"is", j, upd_same, .inl rfl, by omega⟩)
  refine ifF (decide_eq_false fun z => c0 (by have := V.int.inj z; omega)) ?_
  -- hear
  refine ⟨_, rfl, _, _, rfl, rfl, _, rfl, ?_⟩
  by_cases c1 : i < 4
  · refine ifT (decide_eq_true (by omega)) ?_
    refine ⟨_, rfl, _, rfl, d, c, n, rfl, DG, by omega, by omega, fun H1 j b1 D1 hj => ?_⟩
    refine ⟨(by show 2 ≤ sizeLine; exact small (by decide)), fun r hr' => ?_⟩
    exact q _ r ((bG.trans b1).new hr') (D1.same (same_new hr' _)) (RuleAt.leaf ⟨"hear", j, upd_same, .inr rfl, by omega⟩)
  refine ifF (decide_eq_false (by omega)) ?_
  obtain ⟨e', rfl⟩ : ∃ e', e = e' + 1 := ⟨e - 1, by omega⟩
  obtain rfl := hed e' rfl
  -- least, most, add
  refine ⟨_, rfl, _, _, rfl, rfl, _, rfl, ?_⟩
  by_cases c2 : i < 8
  · refine ifT (decide_eq_true (by omega)) ?_
    refine ⟨_, rfl, d, c, 2, rfl, DG, by decide, by decide, fun H1 j b1 D1 hj => ⟨_, _, rfl, rfl, (1 + (j : Int)), rfl, by omega, by omega, fun L hL => ?_⟩⟩
    refine lc_rangeM (fun i F => Bud d c H1 F ∧ Dl F d c ∧ ∃ rs : List Addr, F L = some (.lst (rs.map V.ref)) ∧ rs.length = i ∧ ∀ q ∈ rs, RuleAt F ed q) ⟨Bud.of (same_new hL _), D1.same (same_new hL _), [], upd_same, rfl, fun q hq => (nomatch hq)⟩ ?_ ?_
    · rintro i F hi ⟨b2, D2, rs, e2, l2, a2⟩
      refine ⟨rfl, _, rfl, _, rfl, _, rfl, _, rfl, _, _, rfl, rfl, _, rfl, rfl, d, c, n, top, congrArg (fun z => [V.ref d, V.int n, V.int top, V.int z, V.bl true]) (minus_one ed), D2, hn1, hn2, htop, fun F' r b3 D3 hr3 => ?_⟩
      obtain ⟨x1, x2, x3, rs', x4, x5, x6⟩ := parts_step D1 hL b2 D2 e2 a2 b3 D3 hr3
      exact ⟨_, x3, by rw [List.length_map]; exact small1000 (by omega), x1, x2, rs', x4, by omega, x6⟩
    rintro F ⟨b2, D2, rs, e2, l2, a2⟩
    refine ⟨L, _, rfl, .inl ⟨SqL.of e2, fun p hp => ?_⟩⟩
    have s3 := same_new hp (.tup (rs.map V.ref))
    have hp3 : (upd F p (.tup (rs.map V.ref))) p = some (.tup (rs.map V.ref)) := upd_same
    have D3 := D2.same s3
    have b3 : Bud d c H (upd F p (.tup (rs.map V.ref))) := (bG.trans (b1.trans b2)).new hp
    have a3 : ∀ q ∈ rs, RuleAt (upd F p (.tup (rs.map V.ref))) ed q := fun q hq => (a2 q hq).keep (TK.of s3)
    generalize upd F p (.tup (rs.map V.ref)) = F3 at hp3 D3 b3 a3
    refine ⟨_, rfl, small (by decide), fun w hw => ?_⟩
    have s4 := same_new hw (.lst (LISTS.map V.str))
    have D4 := D3.same s4
    have nw := D3.new hw
    refine ⟨d, c, w, LISTS.map V.str, rfl, D4, upd_same, nw.1, nw.2, (by decide), (by decide), fun F5 x b5 D5 hx => ?_⟩
    obtain ⟨y, hy, rfl⟩ := List.mem_map.mp hx
    refine ⟨_, rfl, (by show 2 ≤ sizeLine; exact small (by decide)), fun r hr' => ?_⟩
    have k45 : TK F3 F5 := (TK.of s4).trans (TK.bud D4 b5)
    have s6 := same_new hr' (.tup [.str y, .ref p])
    refine q _ r (((b3.trans (Bud.of s4)).trans b5).new hr') (D5.same s6) (.inr (.inl ⟨y, p, rs, upd_same, hy, (k45.trans (TK.of s6)) _ _ hp3, ?_, fun z hz => (a3 z hz).keep (k45.trans (TK.of s6))⟩))
    omega
  refine ifF (decide_eq_false (by omega)) ?_
  -- middle
  refine ⟨fun τ G1 => τ = [some (.ref d), some (.int n), some (.int top), some (.int ((ed + 1 : Nat) : Int)), some (.bl true), some (.int i), none, none, none, none, none] ∧ G = G1, ?_, ?_⟩
  · refine ⟨_, rfl, rfl, _, rfl, ?_⟩
    by_cases c8 : i = 8
    rotate_left
    · refine ifF (decide_eq_false fun z => c8 (by have := V.int.inj z; omega)) ?_
      refine ifF rfl ?_
      exact ⟨rfl, rfl⟩
    refine ifT (by rw [c8]; rfl) ?_
    refine ⟨_, rfl, rfl, _, rfl, ?_⟩
    by_cases ce : ed = 0
    rotate_left
    · refine ifF (decide_eq_false fun z => ce (by have := V.int.inj z; omega)) ?_
      exact ⟨rfl, rfl⟩
    refine ifT (by rw [ce]; rfl) ?_
    subst ce
    refine ⟨small (by decide), fun m hm => ?_⟩
    have s1 := same_new hm (.tup [.str "middle"])
    have hm1 : (upd G m (.tup [.str "middle"])) m = some (.tup [.str "middle"]) := upd_same
    have D1 := DG.same s1
    have b1 : Bud d c H (upd G m (.tup [.str "middle"])) := bG.new hm
    generalize upd G m (.tup [.str "middle"]) = H1 at hm1 D1 b1
    refine ⟨3, rfl, by omega, by decide, fun L hL => ?_⟩
    refine lc_rangeM (n := 3) (fun i F => Bud d c H1 F ∧ Dl F d c ∧ ∃ rs : List Addr, F L = some (.lst (rs.map V.ref)) ∧ rs.length = i ∧ ∀ q ∈ rs, RuleAt F 0 q) ⟨Bud.of (same_new hL _), D1.same (same_new hL _), [], upd_same, rfl, fun q hq => (nomatch hq)⟩ ?_ ?_
    · rintro i F hi ⟨b2, D2, rs, e2, l2, a2⟩
      refine ⟨rfl, _, rfl, _, rfl, _, rfl, _, rfl, rfl, d, c, n, top, rfl, D2, hn1, hn2, htop, fun F' r b3 D3 hr3 => ?_⟩
      obtain ⟨x1, x2, x3, rs', x4, x5, x6⟩ := parts_step D1 hL b2 D2 e2 a2 b3 D3 hr3
      exact ⟨_, x3, by rw [List.length_map]; exact small1000 (by omega), x1, x2, rs', x4, by omega, x6⟩
    rintro F ⟨b2, D2, rs, e2, l2, a2⟩
    have nm := D1.tup hm1
    have hmF := b2 _ _ hm1 nm.1 nm.2
    refine ⟨L, _, rfl, .inl ⟨SqL.of e2, fun p hp => ?_⟩⟩
    have s3 := same_new hp (.tup (rs.map V.ref))
    have hp3 : (upd F p (.tup (rs.map V.ref))) p = some (.tup (rs.map V.ref)) := upd_same
    have l2' : rs.length = 3 := l2
    refine ⟨m, p, _, _, rfl, rfl, SqT.of (s3 _ _ hmF), SqT.of hp3, (by rw [List.length_map, l2']; exact small (by decide)), fun z => (nomatch z), fun _ z => ?_, fun _ _ r hr' => ?_⟩
    · have := congrArg List.length z
      rw [List.length_map, l2'] at this
      cases this
    · have s4 := same_new hr' (.tup ([.str "middle"] ++ rs.map V.ref))
      refine q _ r (((b1.trans b2).new hp).new hr') ((D2.same s3).same s4) (.inr (.inr (.inl ⟨rs, upd_same, l2', fun z hz => ((a2 z hz).keep (TK.of s3)).keep (TK.of s4)⟩)))
  rintro τ G1 ⟨rfl, rfl⟩
  -- inner
  refine ⟨_, rfl, _, rfl, _, rfl, _, rfl, _, _, rfl, rfl, _, rfl, rfl, d, c, n, top, congrArg (fun z => [V.ref d, V.int n, V.int top, V.int z, V.bl true]) (minus_one ed), DG, hn1, hn2, htop, fun G2 u b2 D2 hu2 => ?_⟩
  have bG2 := bG.trans b2
  clear b2 DG bG
  -- a rule with numbers
  have one : ∀ (x : Str) (ns : List Nat) (F : Hp) (r : Addr), x ∈ NUMW → ns.length ≤ 3 → (∀ z ∈ ns, z ≤ 1000) → Bud d c G2 F → Dl F d c → F r = none → Q (.ref r) (upd F r (.tup (.str x :: ((ns.map fun n : Nat => V.int n) ++ [.ref u])))) := fun x ns F r hx hl hle bF DF hr' => by
    have s6 := same_new hr' (.tup (.str x :: ((ns.map fun n : Nat => V.int n) ++ [.ref u])))
    exact q _ r ((bG2.trans bF).new hr') (DF.same s6) (.inr (.inr (.inr (.inl ⟨x, ns, u, upd_same, hx, hl, hle, (hu2.keep (TK.bud D2 bF)).keep (TK.of s6)⟩))))
  -- times
  refine ⟨_, rfl, rfl, _, rfl, ?_⟩
  by_cases c9 : i = 9
  · refine ifT (by rw [c9]; rfl) ?_
    refine ⟨_, rfl, d, c, 3, rfl, D2, by decide, by decide, fun F j b3 D3 hj => ⟨_, rfl, (by show 3 ≤ sizeLine; exact small (by decide)), fun r hr' => ?_⟩⟩
    exact one "times" [j] F r (by decide) (by show 1 ≤ 3; decide) (fun z hz => by rw [List.mem_singleton.mp hz]; omega) b3 D3 hr'
  refine ifF (decide_eq_false fun z => c9 (by have := V.int.inj z; omega)) ?_
  -- part
  refine ⟨_, rfl, rfl, _, rfl, ?_⟩
  by_cases c10 : i = 10
  · refine ifT (by rw [c10]; rfl) ?_
    refine ⟨_, rfl, d, c, 3, rfl, D2, by decide, by decide, fun F j b3 D3 hj => ⟨_, _, rfl, rfl, _, rfl, (by show 3 ≤ sizeLine; exact small (by decide)), fun r hr' => ?_⟩⟩
    have e1 : (1 : Int) + (j : Int) = ((1 + j : Nat) : Int) := by omega
    show Q (.ref r) (upd F r (.tup [.str "part", .int ((1 : Int) + (j : Int)), .ref u]))
    rw [e1]
    exact one "part" [1 + j] F r (by decide) (by show 1 ≤ 3; decide) (fun z hz => by rw [List.mem_singleton.mp hz]; omega) b3 D3 hr'
  refine ifF (decide_eq_false fun z => c10 (by have := V.int.inj z; omega)) ?_
  -- clip
  refine ⟨_, rfl, rfl, _, rfl, ?_⟩
  by_cases c11 : i = 11
  · refine ifT (by rw [c11]; rfl) ?_
    refine ⟨_, rfl, _, rfl, _, _, rfl, rfl, d, c, top + 1, rfl, D2, by omega, by omega, fun F j b3 D3 hj => ?_⟩
    refine ⟨_, rfl, _, rfl, _, rfl, d, c, 3, rfl, D3, by decide, by decide, fun F4 j4 b4 D4 hj4 => ⟨_, _, rfl, rfl, _, rfl, (by show 4 ≤ sizeLine; exact small (by decide)), fun r hr' => ?_⟩⟩
    have e1 : (j : Int) + (j4 : Int) = ((j + j4 : Nat) : Int) := by omega
    show Q (.ref r) (upd F4 r (.tup [.str "clip", .int (j : Int), .int ((j : Int) + (j4 : Int)), .ref u]))
    rw [e1]
    refine one "clip" [j, j + j4] F4 r (by decide) (by show 2 ≤ 3; decide) (fun z hz => ?_) (b3.trans b4) D4 hr'
    simp only [List.mem_cons, List.not_mem_nil, or_false] at hz
    omega
  refine ifF (decide_eq_false fun z => c11 (by have := V.int.inj z; omega)) ?_
  -- bar
  refine ⟨_, rfl, rfl, _, rfl, ?_⟩
  by_cases c12 : i = 12
  · refine ifT (by rw [c12]; rfl) ?_
    refine ⟨_, rfl, _, rfl, _, _, rfl, rfl, d, c, top + 2, rfl, D2, by omega, by omega, fun F j b3 D3 hj => ?_⟩
    refine ⟨_, rfl, _, rfl, _, _, rfl, rfl, d, c, top + 1, rfl, D3, by omega, by omega, fun F4 j4 b4 D4 hj4 => ?_⟩
    refine ⟨_, rfl, _, rfl, _, _, rfl, rfl, d, c, top + 1, rfl, D4, by omega, by omega, fun F5 j5 b5 D5 hj5 => ⟨_, rfl, (by show 5 ≤ sizeLine; exact small (by decide)), fun r hr' => ?_⟩⟩
    refine one "bar" [j, j4, j5] F5 r (by decide) (by show 3 ≤ 3; decide) (fun z hz => ?_) ((b3.trans b4).trans b5) D5 hr'
    simp only [List.mem_cons, List.not_mem_nil, or_false] at hz
    omega
  refine ifF (decide_eq_false fun z => c12 (by have := V.int.inj z; omega)) ?_
  -- row
  refine ⟨_, rfl, rfl, _, rfl, ?_⟩
  by_cases c13 : i = 13
  · refine ifT (by rw [c13]; rfl) ?_
    refine ⟨_, rfl, _, rfl, _, _, rfl, rfl, d, c, top + 1, rfl, D2, by omega, by omega, fun F j b3 D3 hj => ⟨_, _, rfl, rfl, (1 + (j : Int)), rfl, by omega, by omega, fun L hL => ?_⟩⟩
    have nL := D3.new hL
    refine lc_rangeM (fun i F' => Bud d c F F' ∧ Dl F' d c ∧ ∃ ns : List Nat, F' L = some (.lst (ns.map fun n : Nat => V.int n)) ∧ ns.length = i ∧ ∀ z ∈ ns, z ≤ 1000) ⟨Bud.of (same_new hL _), D3.same (same_new hL _), [], upd_same, rfl, fun q hq => (nomatch hq)⟩ ?_ ?_
    · rintro i F' hi ⟨b4, D4, ns, e4, l4, a4⟩
      refine ⟨rfl, _, rfl, _, rfl, _, _, rfl, rfl, d, c, top + 1, rfl, D4, by omega, by omega, fun F5 j5 b5 D5 hj5 => ?_⟩
      refine ⟨_, b5 _ _ e4 nL.1 nL.2, by rw [List.length_map]; exact small1000 (by omega), (b4.trans b5).newer hL, D5.other nL.1 nL.2, ns ++ [j5], by rw [upd_same, List.map_append]; rfl, by rw [List.length_append, l4]; rfl, fun z hz => ?_⟩
      rcases List.mem_append.mp hz with hz | hz
      · exact a4 z hz
      · rw [List.mem_singleton.mp hz]; omega
    rintro F' ⟨b4, D4, ns, e4, l4, a4⟩
    refine ⟨_, rfl, true, rfl, ?_⟩
    refine ifT rfl ?_
    refine ⟨_, rfl, L, _, rfl, .inl ⟨SqL.of e4, fun p hp => ?_⟩⟩
    have s5 := same_new hp (.tup (ns.map fun n : Nat => V.int n))
    have hp5 : (upd F' p (.tup (ns.map fun n : Nat => V.int n))) p = some (.tup (ns.map fun n : Nat => V.int n)) := upd_same
    refine ⟨_, rfl, (by show 3 ≤ sizeLine; exact small (by decide)), fun r hr' => ?_⟩
    have s6 := same_new hr' (.tup [.str "row", .ref p, .ref u])
    refine q _ r ((((bG2.trans b3).trans b4).new hp).new hr') ((D4.same s5).same s6) (.inr (.inr (.inr (.inr ⟨p, ns, u, upd_same, s6 _ _ hp5, by omega, a4, ?_⟩))))
    exact (((hu2.keep (TK.bud D2 b3)).keep (TK.bud D3 b4)).keep (TK.of s5)).keep (TK.of s6)
  refine ifF (decide_eq_false fun z => c13 (by have := V.int.inj z; omega)) ?_
  -- from
  refine ⟨_, rfl, _, rfl, _, _, rfl, rfl, d, c, top + 2, rfl, D2, by omega, by omega, fun F j b3 D3 hj => ⟨_, rfl, (by show 3 ≤ sizeLine; exact small (by decide)), fun r hr' => ?_⟩⟩
  exact one "from" [j] F r (by decide) (by show 1 ≤ 3; decide) (fun z hz => by rw [List.mem_singleton.mp hz]; omega) b3 D3 hr'
theorem dRule_all {fR fA fO : Addr} {fdR fdA fdO : FuncData} (B : Bl mg) (DR : Df K mg "_law_rule" sLRule pDR fR fdR) (DA : Df K mg "_law_any" sLAny pLA fA fdA) (GA : FnOk P u0 K mg base CX0 1 fA fdA pLA spLAny)
    (DO : Df K mg "_law_of" sLOf nLO fO fdO) (GO : FnOk P u0 K mg base CX0 2 fO fdO nLO (spLOf K)) : ∀ d, FnOk P u0 K mg base CX0 (3 + d) fR fdR pDR (spDRule d)
  | 0 => ok_dRule (k := 2) DR.fn B DA GA DO GO DR.g DR.b (fun e' z => (nomatch z)) (by omega)
  | d + 1 => ok_dRule (k := 3 + d) DR.fn B DA GA DO GO DR.g DR.b (fun e' z => (by cases z; exact dRule_all B DR DA GA DO GO d)) (by omega)
end
end K07

namespace K07
open PySem L2
/-! ### tokens that the law writes -/
def GTA (x : Str) : Prop := GT x ∧ Asc x
def goodB (l : List Nat) : Bool := (!l.isEmpty && l.all isWord) || (match l with | [c] => !isWord c && decide (c ≠ 32) && decide (c ≠ 10) && decide (c ≠ 35) | _ => false)
theorem good_of {l : List Nat} (h : goodB l = true) : Good l := by
  unfold goodB at h
  rw [Bool.or_eq_true] at h
  rcases h with h | h
  · rw [Bool.and_eq_true] at h
    refine .inl ⟨fun z => by rw [z] at h; exact Bool.noConfusion h.1, fun c hc => List.all_eq_true.mp h.2 c hc⟩
  · split at h
    · rename_i c
      simp only [Bool.and_eq_true, decide_eq_true_eq, Bool.not_eq_true'] at h
      exact .inr ⟨c, rfl, h.1.1.1, h.1.1.2, h.1.2, h.2⟩
    · cases h
def gtaB (x : Str) : Bool := goodB x.cps.toList && !x.cps.toList.isEmpty && decide (x.cps.toList.length ≤ 500) && x.cps.toList.all fun c => decide (c < 128)
theorem gta_of {x : Str} (h : gtaB x = true) : GTA x := by
  unfold gtaB at h
  simp only [Bool.and_eq_true, decide_eq_true_eq, Bool.not_eq_true'] at h
  obtain ⟨⟨⟨h1, h2⟩, h3⟩, h4⟩ := h
  refine ⟨⟨good_of h1, (fun z => by rw [z] at h2; cases h2), h3⟩, fun c hc => of_decide_eq_true (List.all_eq_true.mp h4 c hc)⟩
theorem digit_word : ∀ c < 58, 48 ≤ c → isWord c = true := by decide +kernel
def numB (l : List Nat) : Bool := !l.isEmpty && decide (l.length ≤ 500) && l.all fun c => decide (48 ≤ c) && decide (c < 58)
theorem num_all : ∀ n < 2000, numB (TL.numL n) = true := by decide +kernel
theorem gta_num {n : Nat} (h : n < 2000) : GTA (Str.ofString (toString (n : Int))) := by
  have e := TL.tl_num n
  have hb := num_all n h
  unfold numB at hb
  simp only [Bool.and_eq_true, decide_eq_true_eq, Bool.not_eq_true'] at hb
  obtain ⟨⟨h1, h2⟩, h3⟩ := hb
  have h4 : ∀ c ∈ TL.numL n, 48 ≤ c ∧ c < 58 := fun c hc => by
    have := List.all_eq_true.mp h3 c hc
    simpa using this
  have ne : TL.numL n ≠ [] := fun z => by rw [z] at h1; cases h1
  have e' : (Str.ofString (toString (n : Int))).cps.toList = TL.numL n := e
  refine ⟨⟨?_, ?_, ?_⟩, fun c hc => ?_⟩
  · rw [e']
    exact .inl ⟨ne, fun c hc => digit_word c (h4 c hc).2 (h4 c hc).1⟩
  · rw [e']; exact ne
  · rw [e']; exact h2
  · rw [e'] at hc
    have := (h4 c hc).2
    omega
theorem num_log {n : Nat} (h : n < 2000) : ((n : Int)).natAbs.log2 < 1920 := by
  rw [Int.natAbs_natCast]
  have : n < 2 ^ 1920 := Nat.lt_of_lt_of_le h (by decide +kernel)
  by_cases z : n = 0
  · rw [z]; decide
  · exact (Nat.log2_lt z).mpr this
def LITA : List Str := ["is", "of", "(", ")", ",", ":", ";", "house", "top", "least", "most", "add", "middle"]
def LITB : List Str := ["times", "part", "clip", "from", "bar", "row", "0", "1", "2", "3", "5", "7", "9"]
def LITC : List Str := ["19", "20", "1000", "1001", "01", "x", "-"]
def LITS : List Str := LITA ++ LITB ++ LITC
theorem lits_good : ∀ x ∈ LITS, gtaB x = true := by decide +kernel
theorem gta_lit {x : Str} (h : x ∈ LITS) : GTA x := gta_of (lits_good x h)
end K07

namespace K07
open PySem L2
theorem RuleAt.view {H : Hp} {e : Nat} {r : Addr} (h : RuleAt H e r) : Leaf H r ∨ ∃ d, e = d + 1 ∧ ((∃ (x : Str) (p : Addr) (rs : List Addr), H r = some (.tup [.str x, .ref p]) ∧ x ∈ LISTS ∧ H p = some (.tup (rs.map V.ref)) ∧ rs.length ≤ 2 ∧ ∀ q ∈ rs, RuleAt H d q) ∨
    (∃ rs : List Addr, H r = some (.tup (.str "middle" :: rs.map V.ref)) ∧ rs.length = 3 ∧ ∀ q ∈ rs, RuleAt H d q) ∨
    (∃ (x : Str) (ns : List Nat) (q : Addr), H r = some (.tup (.str x :: ((ns.map fun n : Nat => V.int n) ++ [.ref q]))) ∧ x ∈ NUMW ∧ ns.length ≤ 3 ∧ (∀ n ∈ ns, n ≤ 1000) ∧ RuleAt H d q) ∨
    (∃ (p : Addr) (ns : List Nat) (q : Addr), H r = some (.tup [.str "row", .ref p, .ref q]) ∧ H p = some (.tup (ns.map fun n : Nat => V.int n)) ∧ ns.length ≤ 200 ∧ (∀ n ∈ ns, n ≤ 1000) ∧ RuleAt H d q)) := by
  cases e with
  | zero => exact .inl h
  | succ d =>
    rcases h with h | h
    · exact .inl h
    · exact .inr ⟨d, rfl, h⟩
def LEAFW : List Str := ["is", "hear"]
theorem lists_words : ∀ x ∈ LISTS, ¬ x ∈ LEAFW ∧ ¬ x ∈ NUMW ∧ ¬ x = "row" ∧ ¬ x = "is" ∧ ¬ x = "hear" ∧ gtaB x = true := by decide +kernel
theorem num_words : ∀ x ∈ NUMW, ¬ x ∈ LEAFW ∧ ¬ x ∈ LISTS ∧ ¬ x = "middle" ∧ ¬ x = "row" ∧ ¬ x = "is" ∧ ¬ x = "hear" ∧ gtaB x = true := by decide +kernel
theorem mid_words : ¬ ("middle" : Str) ∈ LEAFW ∧ ¬ ("middle" : Str) ∈ LISTS ∧ ¬ ("middle" : Str) ∈ NUMW ∧ ¬ ("middle" : Str) = "row" ∧ ¬ ("middle" : Str) = "is" ∧ ¬ ("middle" : Str) = "hear" ∧ gtaB "middle" = true := by decide +kernel
theorem row_words : ¬ ("row" : Str) ∈ LEAFW ∧ ¬ ("row" : Str) ∈ LISTS ∧ ¬ ("row" : Str) = "middle" ∧ ¬ ("row" : Str) ∈ NUMW ∧ ¬ ("row" : Str) = "is" ∧ ¬ ("row" : Str) = "hear" ∧ gtaB "row" = true := by decide +kernel
def spLParts (e : Nat) : Sp := fun vs H Q _ => ∃ r : Addr, vs = [.ref r] ∧ RuleAt H e r ∧
  ∀ H' p (rs : List Addr), Same H H' → H' p = some (.lst (rs.map V.ref)) → rs.length ≤ 3 → (∀ q ∈ rs, ∃ d, e = d + 1 ∧ RuleAt H' d q) → Q (.ref p) H'
section
variable {P : Program} {u0 : World} {K : PySem.W.Frag} {mg : Str → Option Value} {base : Heap}
theorem scLQ : FnScope ["_law_rule_here"] ["_law_rule_here"] (defScope sLParts) := ⟨rfl, rfl, rfl, by decide +kernel, rfl, by decide +kernel, by decide +kernel⟩
theorem ok_lParts {f : Addr} {fd : FuncData} {e : Nat} (F : Fun K "_law_parts" "_law_parts" sLParts f fd) (B : Bl mg) : FnOk P u0 K mg base CX0 1 f fd ["_law_rule_here"] (spLParts e) := by
  refine F.ok scLQ (fun vs H Q E h => ?_) (fun cdv A outer st H vs Q E hr h => ?_)
  · obtain ⟨_, rfl, _⟩ := h
    rfl
  obtain ⟨r, rfl, hR, q⟩ := h
  refine ⟨_, pss_cons (ps_if (pt_cmpR op_in_seq (pe_ix ix_tup (pv 0) pe_int (fun _ _ => rfl)) (pe_lst (pa_cons pe_str (pa_cons pe_str pa_nil))) (by rfl)) (pss_one (ps_ret (pe_lst pa_nil))) pss_nil)
    (pss_cons (ps_if (pt_cmpR op_in_seq (pe_ix ix_tup (pv 0) pe_int (fun _ _ => rfl)) (pe_lst (pa_cons pe_str (pa_cons pe_str (pa_cons pe_str pa_nil)))) (by rfl)) (pss_one (ps_ret (pe_callTy call_list_of (by rfl) B.list (by decide +kernel) (pa_cons (pe_ix ix_tup (pv 0) pe_int (fun _ _ => rfl)) pa_nil)))) pss_nil)
    (pss_one (ps_ret (pe_ifExp (pt_cmpR op_eq (pe_ix ix_tup (pv 0) pe_int (fun _ _ => rfl)) pe_str (nomark _)) (pe_callTy call_list_of (by rfl) B.list (by decide +kernel) (pa_cons (pe_slice sl_tup (pv 0) (po_some pe_int) po_none) pa_nil))
      (pe_lst (pa_cons (pe_ix ix_tup (pv 0) (pe_un un_neg pe_int) (fun _ _ => rfl)) pa_nil)))))), ?_⟩
  -- the first part
  obtain ⟨x, xs, hx⟩ : ∃ x xs, H r = some (.tup (.str x :: xs)) := by
    rcases hR.view with ⟨x, n, h, _⟩ | ⟨d, _, ⟨x, p, rs, h, _⟩ | ⟨rs, h, _⟩ | ⟨x, ns, q, h, _⟩ | ⟨p, ns, q, h, _⟩⟩
    · exact ⟨_, _, h⟩
    · exact ⟨_, _, h⟩
    · exact ⟨_, _, h⟩
    · exact ⟨_, _, h⟩
    · exact ⟨_, _, h⟩
  have head : ∀ (y : Str) (ys : List V), H r = some (.tup (.str y :: ys)) → x = y ∧ xs = ys := fun y ys h => by
    rw [hx] at h
    cases h
    exact ⟨rfl, rfl⟩
  refine ⟨_, rfl, r, _, _, .str x, rfl, rfl, SqT.of hx, atI_nat (j := 0) rfl, ?_⟩
  refine ⟨small (by decide), fun l1 hl1 => ?_⟩
  have s1 := same_new hl1 (.lst (LEAFW.map V.str))
  refine ⟨l1, LEAFW.map V.str, rfl, .inl (SqL.of upd_same), rfl, flat_strs _, _, rfl, ?_⟩
  by_cases c1 : x ∈ LEAFW
  · refine ifT (inV_yes c1) ?_
    refine ⟨Nat.zero_le _, fun p hp => ?_⟩
    exact q _ p [] (s1.trans (same_new hp _)) upd_same (by decide) (fun q hq => (nomatch hq))
  refine ifF (inV_no c1) ?_
  have hx1 := s1 _ _ hx
  have hR1 : RuleAt (upd H l1 (.lst (LEAFW.map V.str))) e r := hR.keep (TK.of s1)
  refine ⟨_, rfl, r, _, _, .str x, rfl, rfl, SqT.of hx1, atI_nat (j := 0) rfl, ?_⟩
  refine ⟨small (by decide), fun l2 hl2 => ?_⟩
  have s2 := same_new hl2 (.lst (LISTS.map V.str))
  refine ⟨l2, LISTS.map V.str, rfl, .inl (SqL.of upd_same), rfl, flat_strs _, _, rfl, ?_⟩
  have s12 := s1.trans s2
  have hx2 := s12 _ _ hx
  have hl2' : (upd (upd H l1 (.lst (LEAFW.map V.str))) l2 (.lst (LISTS.map V.str))) l2 = some (.lst (LISTS.map V.str)) := upd_same
  generalize upd (upd H l1 (.lst (LEAFW.map V.str))) l2 (.lst (LISTS.map V.str)) = H2 at s12 hx2 hl2'
  rcases hR.view with ⟨x', n, h, hw, _⟩ | ⟨d, rfl, ⟨x', p, rs, h, hw, hp, hl, ha⟩ | ⟨rs, h, hl, ha⟩ | ⟨x', ns, u, h, hw, hl, hle, ha⟩ | ⟨p, ns, u, h, hp, hl, hle, ha⟩⟩
  · obtain ⟨rfl, _⟩ := head _ _ h
    rcases hw with rfl | rfl
    · exact absurd (by decide +kernel) c1
    · exact absurd (by decide +kernel) c1
  · obtain ⟨rfl, rfl⟩ := head _ _ h
    refine ifT (inV_yes hw) ?_
    refine ⟨_, rfl, r, _, _, .ref p, rfl, rfl, SqT.of hx2, rfl, p, _, rfl, .inr (SqT.of (s12 _ _ hp)), fun w hw' => ?_⟩
    have s3 := s12.trans (same_new hw' (.lst (rs.map V.ref)))
    exact q _ w rs s3 upd_same (by omega) fun z hz => ⟨d, rfl, (ha z hz).keep (TK.of s3)⟩
  · obtain ⟨rfl, rfl⟩ := head _ _ h
    refine ifF (inV_no mid_words.2.1) ?_
    refine ⟨_, rfl, r, _, _, .str "middle", rfl, rfl, SqT.of hx2, atI_nat (j := 0) rfl, rfl, _, rfl, ?_⟩
    refine ifT (decide_eq_true rfl) ?_
    obtain ⟨a, b, c, rfl⟩ : ∃ a b c, rs = [a, b, c] := by
      match rs, hl with
      | [a, b, c], _ => exact ⟨a, b, c, rfl⟩
    refine ⟨_, rfl, (1 : Int), rfl, r, _, rfl, SqT.of hx2, (fun z => absurd (show (1 : Nat) = 0 from z.1) (by decide)), fun w hw' => ?_⟩
    have ew : cutV (V.str "middle" :: [a, b, c].map V.ref) (some 1) none = [a, b, c].map V.ref := rfl
    rw [ew]
    have s3 := s12.trans (same_new hw' (.tup ([a, b, c].map V.ref)))
    refine ⟨w, _, rfl, .inr (SqT.of upd_same), fun w2 hw2 => ?_⟩
    have s4 := s3.trans (same_new hw2 (.lst ([a, b, c].map V.ref)))
    exact q _ w2 [a, b, c] s4 upd_same (by show 3 ≤ 3; decide) fun z hz => ⟨d, rfl, (ha z hz).keep (TK.of s4)⟩
  · obtain ⟨rfl, rfl⟩ := head _ _ h
    have ww := num_words x hw
    refine ifF (inV_no ww.2.1) ?_
    refine ⟨_, rfl, r, _, _, .str x, rfl, rfl, SqT.of hx2, atI_nat (j := 0) rfl, rfl, _, rfl, ?_⟩
    refine ifF (dec_str_ne ww.2.2.1) ?_
    refine ⟨_, rfl, _, rfl, r, _, _, .ref u, rfl, rfl, SqT.of hx2, atI_last (V.str x :: (ns.map fun n : Nat => V.int n)) (.ref u), (by show 1 ≤ sizeLine; exact small (by decide)), fun w hw' => ?_⟩
    have s3 := s12.trans (same_new hw' (.lst [.ref u]))
    exact q _ w [u] s3 upd_same (by show 1 ≤ 3; decide) fun z hz => ⟨d, rfl, by rw [List.mem_singleton.mp hz]; exact ha.keep (TK.of s3)⟩
  · obtain ⟨rfl, rfl⟩ := head _ _ h
    have ww := row_words
    refine ifF (inV_no ww.2.1) ?_
    refine ⟨_, rfl, r, _, _, .str "row", rfl, rfl, SqT.of hx2, atI_nat (j := 0) rfl, rfl, _, rfl, ?_⟩
    refine ifF (dec_str_ne ww.2.2.1) ?_
    refine ⟨_, rfl, _, rfl, r, _, _, .ref u, rfl, rfl, SqT.of hx2, atI_last [V.str "row", .ref p] (.ref u), (by show 1 ≤ sizeLine; exact small (by decide)), fun w hw' => ?_⟩
    have s3 := s12.trans (same_new hw' (.lst [.ref u]))
    exact q _ w [u] s3 upd_same (by show 1 ≤ 3; decide) fun z hz => ⟨d, rfl, by rw [List.mem_singleton.mp hz]; exact ha.keep (TK.of s3)⟩
end
end K07

namespace K07
open PySem L2
/-- at p: a list of tokens, not empty, at most B -/
def TokAt (H : Hp) (B : Nat) (p : Addr) : Prop := ∃ ts : List Str, H p = some (.lst (ts.map V.str)) ∧ (∀ x ∈ ts, GTA x) ∧ 1 ≤ ts.length ∧ ts.length ≤ B
theorem TokAt.keep {H H' : Hp} {B : Nat} {p : Addr} (s : Same H H') (h : TokAt H B p) : TokAt H' B p := by
  obtain ⟨ts, h1, h2⟩ := h
  exact ⟨ts, s _ _ h1, h2⟩
theorem TokAt.ne {H : Hp} {B : Nat} {p L : Addr} {ps : List Addr} (h : TokAt H B p) (hL : H L = some (.lst (ps.map V.ref))) : p ≠ L := fun z => by
  obtain ⟨ts, h1, _, h3, _⟩ := h
  rw [z, hL] at h1
  have e := HO.lst.inj (Option.some.inj h1)
  cases ts with
  | nil => exact absurd h3 (by decide)
  | cons x r =>
    cases ps with
    | nil => cases e
    | cons q qs => cases e
theorem TokAt.put {H : Hp} {B : Nat} {p L : Addr} {ps : List Addr} {o : HO} (h : TokAt H B p) (hL : H L = some (.lst (ps.map V.ref))) : TokAt (upd H L o) B p := by
  have n := h.ne hL
  obtain ⟨ts, h1, h2⟩ := h
  exact ⟨ts, by rw [upd_ne n]; exact h1, h2⟩
def tokB (e : Nat) : Nat := 300 * 4 ^ e
theorem tokB_step (d : Nat) : 205 + 3 * (tokB d + 1) ≤ tokB (d + 1) := by
  have h : 1 ≤ 4 ^ d := Nat.pow_pos (by decide)
  unfold tokB
  rw [Nat.pow_succ]
  omega
theorem tokB_one (e : Nat) : 300 ≤ tokB e := by
  have h : 1 ≤ 4 ^ e := Nat.pow_pos (by decide)
  unfold tokB
  omega
theorem tokB_le {e : Nat} (h : e ≤ 3) : tokB e ≤ 20000 := by
  have h2 : 4 ^ e ≤ 4 ^ 3 := Nat.pow_le_pow_right (by decide) h
  unfold tokB
  have : (4 : Nat) ^ 3 = 64 := by decide
  omega
def spLRT (e : Nat) : Sp := fun vs H Q _ => ∃ r : Addr, vs = [.ref r] ∧ e ≤ 3 ∧ RuleAt H e r ∧ ∀ H' p, Same H H' → TokAt H' (tokB e) p → Q (.ref p) H'
theorem mid_cut (x : V) (ms : List V) (u : V) : cutV (x :: (ms ++ [u])) (some 1) (some (-1)) = ms := by
  have hl : (x :: (ms ++ [u])).length = ms.length + 2 := by simp
  have h1 : HT.sIx (x :: (ms ++ [u])).length 0 (some 1) = 1 := by
    rw [hl]
    show (if (1 : Int) < 0 then ((1 : Int) + ((ms.length + 2 : Nat) : Int)).toNat else min (1 : Int).toNat (ms.length + 2)) = 1
    rw [if_neg (by decide)]
    show min 1 (ms.length + 2) = 1
    omega
  have h2 : HT.sIx (x :: (ms ++ [u])).length (x :: (ms ++ [u])).length (some (-1)) = ms.length + 1 := by
    rw [hl]
    show (if (-1 : Int) < 0 then ((-1 : Int) + ((ms.length + 2 : Nat) : Int)).toNat else min (-1 : Int).toNat (ms.length + 2)) = ms.length + 1
    rw [if_pos (by decide)]
    omega
  unfold cutV
  rw [h1, h2]
  show ((ms ++ [u]).take (ms.length + 1 - 1)) = ms
  rw [Nat.add_sub_cancel, List.take_append_of_le_length (Nat.le_refl _), List.take_length]
section
variable {P : Program} {u0 : World} {K : PySem.W.Frag} {mg : Str → Option Value} {base : Heap}
abbrev nRT : List Str := ["_law_rule_here", "_law_found", "_law_rows", "_law_at", "_law_row", "_law_number_here", "_law_part"]
theorem scRT : FnScope nRT ["_law_rule_here"] (defScope sLRuleTokens) := ⟨rfl, rfl, rfl, by decide +kernel, rfl, by decide +kernel, by decide +kernel⟩
theorem ok_lRT {f fP : Addr} {fd fdP : FuncData} {e k : Nat} (F : Fun K "_law_rule_tokens" "_law_rule_tokens" sLRuleTokens f fd) (B : Bl mg) (DP : Df K mg "_law_parts" sLParts ["_law_rule_here"] fP fdP) (GP : FnOk P u0 K mg base CX0 1 fP fdP ["_law_rule_here"] (spLParts e))
    (g : mg "_law_rule_tokens" = some (.ref f)) (b : Binds K fd ["_law_rule_here"] []) (ih : ∀ e', e = e' + 1 → FnOk P u0 K mg base CX0 k f fd ["_law_rule_here"] (spLRT e')) (hk : 1 ≤ k) : FnOk P u0 K mg base CX0 (k + 1) f fd ["_law_rule_here"] (spLRT e) := by
  obtain ⟨ed, hed, IH⟩ : ∃ ed : Nat, (∀ e', e = e' + 1 → ed = e') ∧ FnOk P u0 K mg base CX0 k f fd ["_law_rule_here"] (fun vs H Q E => e = ed + 1 ∧ spLRT ed vs H Q E) := by
    cases e with
    | zero => exact ⟨0, fun e' z => (by cases z), ⟨fun vs H Q E h => (nomatch h.1), fun A outer s H args us vs Q E _ _ _ _ h => (nomatch h.1)⟩⟩
    | succ e => exact ⟨e, fun e' z => (by cases z; rfl), ⟨fun vs H Q E h => (ih e rfl).len vs H Q E h.2, fun A outer s H args us vs Q E h1 h2 h3 h4 h => (ih e rfl).run A outer s H args us vs Q E h1 h2 h3 h4 h.2⟩⟩
  refine F.ok scRT (fun vs H Q E h => ?_) (fun cdv A outer st H vs Q E hr h => ?_)
  · obtain ⟨_, rfl, _⟩ := h
    rfl
  obtain ⟨r, rfl, he3, hR, q⟩ := h
  have hr1 : Room 1 _ := hr.mono hk
  refine ⟨_, pss_cons (ps_if (pt_cmpR op_eq (pe_ix ix_tup (pv 0) pe_int (fun _ _ => rfl)) pe_str (nomark _)) (pss_one (ps_ret (pe_lst (pa_cons (pe_callTy call_str_int (by rfl) B.str (by decide +kernel) (pa_cons (pe_ix ix_tup (pv 0) pe_int (fun _ _ => rfl)) pa_nil)) pa_nil)))) pss_nil)
    (pss_cons (ps_if (pt_cmpR op_eq (pe_ix ix_tup (pv 0) pe_int (fun _ _ => rfl)) pe_str (nomark _)) (pss_one (ps_ret (pe_lst (pa_cons pe_str (pa_cons (pe_callTy call_str_int (by rfl) B.str (by decide +kernel) (pa_cons (pe_ix ix_tup (pv 0) pe_int (fun _ _ => rfl)) pa_nil)) pa_nil))))) pss_nil)
    (pss_cons (ps_set (i := 1) scRT.nd rfl (.inl rfl) (pe_lst (pa_cons (pe_ix ix_tup (pv 0) pe_int (fun _ _ => rfl)) pa_nil)))
    (Evl.pss_cut (ps_if (pt_cmpR op_in_seq (pe_ix ix_tup (pv 0) pe_int (fun _ _ => rfl)) (pe_lst (pa_cons pe_str (pa_cons pe_str (pa_cons pe_str (pa_cons pe_str (pa_cons pe_str pa_nil)))))) (by rfl))
      (pss_one (ps_set (i := 1) scRT.nd rfl (.inl rfl) (pe_op op_cat (pv 1) (pe_lc (own := [("_law_number_here", 5)]) (g := gName 5) (tt := tYes) rfl scRT.nd (pi_tup (pe_slice sl_tup (pv 0) (po_some pe_int) (po_some (pe_un un_neg pe_int)))) (blkOk_by (N := nRT) (sc := defScope sLRuleTokens) (by decide +kernel)) (fun _ _ _ _ _ => pg_name (i := 5) scRT.nd rfl (Or.inl rfl)) (fun _ _ _ _ _ => pts_nil)
          (fun _ _ _ _ _ => pe_callTy call_str_int (by rfl) B.str (by decide +kernel) (pa_cons (pv 5) pa_nil)))))) pss_nil)
    (Evl.pss_cut (ps_if (pt_cmpR op_eq (pe_ix ix_tup (pv 0) pe_int (fun _ _ => rfl)) pe_str (nomark _))
      (pss_one (ps_set (i := 1) scRT.nd rfl (.inl rfl) (pe_op op_cat (pv 1) (pe_lc (own := [("_law_number_here", 5)]) (g := gName 5) (tt := tYes) rfl scRT.nd (pi_tup (pe_ix ix_tup (pv 0) pe_int (fun _ _ => rfl))) (blkOk_by (N := nRT) (sc := defScope sLRuleTokens) (by decide +kernel)) (fun _ _ _ _ _ => pg_name (i := 5) scRT.nd rfl (Or.inl rfl)) (fun _ _ _ _ _ => pts_nil)
          (fun _ _ _ _ _ => pe_callTy call_str_int (by rfl) B.str (by decide +kernel) (pa_cons (pv 5) pa_nil)))))) pss_nil)
    (pss_cons (ps_setLc (i := 2) (own := [("_law_part", 6)]) (g := gName 6) (tt := tYes) rfl scRT.nd rfl rfl (sw_true rfl rfl rfl (by decide +kernel)) (pi_list (pe_call GP hr1 (by rfl) DP.g DP.kp DP.b .nil pass0 (pa_cons (pv 0) pa_nil))) (blkOk_by (N := nRT) (sc := defScope sLRuleTokens) (by decide +kernel)) (fun _ _ _ _ _ => pg_name (i := 6) scRT.nd rfl (Or.inl rfl)) (fun _ _ _ _ _ => pts_nil)
        (fun _ _ _ _ _ => pe_call IH hr (by rfl) g F.kp b .nil pass0 (pa_cons (pv 6) pa_nil)))
    (pss_cons (ps_for PassesOwn.never rfl (pi_enum (by rfl) B.enumerate (pa_cons (pv 2) pa_nil)) (pg_tup (by rfl) (pgs_cons (pg_name (i := 3) scRT.nd rfl (.inl rfl)) (pgs_cons (pg_name (i := 4) scRT.nd rfl (.inl rfl)) pgs_nil)))
      (pss_one (ps_set (i := 1) scRT.nd rfl (.inl rfl) (pe_op op_cat (pe_op op_cat (pv 1) (pe_lst (pa_cons (pe_ifExp (pt_cmpR op_eq (pv 3) pe_int (nomark _)) pe_str pe_str) pa_nil))) (pv 4)))))
    (pss_one (ps_ret (pe_op op_cat (pv 1) (pe_lst (pa_cons pe_str pa_nil))))))))))), ?_⟩
  rcases hR.view with ⟨x, n, hx, hw, hn⟩ | hN
  · -- a leaf
    have hnt : GTA (Str.ofString (toString (n : Int))) := gta_num (by omega)
    have hlog := num_log (n := n) (by omega)
    have hB := tokB_one e
    rcases hw with rfl | rfl
    · refine ⟨_, rfl, r, _, _, .str "is", rfl, rfl, SqT.of hx, atI_nat (j := 0) rfl, rfl, _, rfl, ?_⟩
      refine ifT (decide_eq_true rfl) ?_
      refine ⟨_, rfl, r, _, _, .int n, rfl, rfl, SqT.of hx, rfl, n, rfl, hlog, (by show 1 ≤ sizeLine; exact small (by decide)), fun p hp => ?_⟩
      refine q _ p (same_new hp _) ⟨[Str.ofString (toString (n : Int))], upd_same, fun y hy => by rw [List.mem_singleton.mp hy]; exact hnt, by show 1 ≤ 1; decide, by show 1 ≤ tokB e; omega⟩
    · refine ⟨_, rfl, r, _, _, .str "hear", rfl, rfl, SqT.of hx, atI_nat (j := 0) rfl, rfl, _, rfl, ?_⟩
      refine ifF (by decide +kernel) ?_
      refine ⟨_, rfl, r, _, _, .str "hear", rfl, rfl, SqT.of hx, atI_nat (j := 0) rfl, rfl, _, rfl, ?_⟩
      refine ifT (decide_eq_true rfl) ?_
      refine ⟨_, rfl, r, _, _, .int n, rfl, rfl, SqT.of hx, rfl, n, rfl, hlog, (by show 2 ≤ sizeLine; exact small (by decide)), fun p hp => ?_⟩
      refine q _ p (same_new hp _) ⟨["of", Str.ofString (toString (n : Int))], upd_same, fun y hy => ?_, by show 1 ≤ 2; decide, by show 2 ≤ tokB e; omega⟩
      rcases List.mem_cons.mp hy with rfl | hy
      · exact gta_lit (by decide +kernel)
      · rw [List.mem_singleton.mp hy]; exact hnt
  obtain ⟨d, x, xs, rfl, hx, hg, n1, n2, hnum, hrow⟩ : ∃ (d : Nat) (x : Str) (xs : List V), e = d + 1 ∧ H r = some (.tup (.str x :: xs)) ∧ gtaB x = true ∧ ¬ x = "is" ∧ ¬ x = "hear" ∧
      (x ∈ NUMW → ∃ (ns : List Nat) (u : Addr), xs = (ns.map fun n : Nat => V.int n) ++ [.ref u] ∧ ns.length ≤ 200 ∧ ∀ n ∈ ns, n ≤ 1000) ∧
      (x = "row" → ∃ (p u : Addr) (ns : List Nat), xs = [.ref p, .ref u] ∧ H p = some (.tup (ns.map fun n : Nat => V.int n)) ∧ ns.length ≤ 200 ∧ ∀ n ∈ ns, n ≤ 1000) := by
    rcases hN with ⟨d, rfl, ⟨x, p, rs, h, hw, hp, hl, ha⟩ | ⟨rs, h, hl, ha⟩ | ⟨x, ns, u, h, hw, hl, hle, ha⟩ | ⟨p, ns, u, h, hp, hl, hle, ha⟩⟩
    · have w := lists_words x hw
      exact ⟨d, x, _, rfl, h, w.2.2.2.2.2, w.2.2.2.1, w.2.2.2.2.1, fun z => absurd z w.2.1, fun z => absurd z w.2.2.1⟩
    · have w := mid_words
      exact ⟨d, _, _, rfl, h, w.2.2.2.2.2.2, w.2.2.2.2.1, w.2.2.2.2.2.1, fun z => absurd z w.2.2.1, fun z => absurd z w.2.2.2.1⟩
    · have w := num_words x hw
      exact ⟨d, x, _, rfl, h, w.2.2.2.2.2.2, w.2.2.2.2.1, w.2.2.2.2.2.1, fun _ => ⟨ns, u, rfl, by omega, hle⟩, fun z => absurd z w.2.2.2.1⟩
    · have w := row_words
      exact ⟨d, _, _, rfl, h, w.2.2.2.2.2.2, w.2.2.2.2.1, w.2.2.2.2.2.1, fun z => absurd z w.2.2.2.1, fun _ => ⟨p, u, ns, rfl, hp, hl, hle⟩⟩
  obtain rfl := hed d rfl
  refine ⟨_, rfl, r, _, _, .str x, rfl, rfl, SqT.of hx, atI_nat (j := 0) rfl, rfl, _, rfl, ?_⟩
  refine ifF (dec_str_ne n1) ?_
  refine ⟨_, rfl, r, _, _, .str x, rfl, rfl, SqT.of hx, atI_nat (j := 0) rfl, rfl, _, rfl, ?_⟩
  refine ifF (dec_str_ne n2) ?_
  refine ⟨_, rfl, r, _, _, .str x, rfl, rfl, SqT.of hx, atI_nat (j := 0) rfl, (by show 1 ≤ sizeLine; exact small (by decide)), fun u hu => ?_⟩
  have s1 := same_new hu (.lst [.str x])
  have t1 : TokAt (upd H u (.lst [.str x])) 1 u := ⟨[x], upd_same, fun y hy => by rw [List.mem_singleton.mp hy]; exact gta_of hg, by show 1 ≤ 1; decide, by show 1 ≤ 1; decide⟩
  generalize upd H u (.lst [.str x]) = H1 at s1 t1
  -- a comprehension over numbers, then found + that
  have join : ∀ (u : Addr) (F : Hp) (D : Addr) (ns : List Nat), Same H F → TokAt F 1 u → (∀ n ∈ ns, n ≤ 1000) → ns.length ≤ 200 → F D = some (.lst ((ns.map fun n : Nat => Str.ofString (toString (n : Int))).map V.str)) →
      rCat (.ref u) (.ref D) F (fun v F' => ∃ p, v = .ref p ∧ Same H F' ∧ TokAt F' 201 p) := fun u F D ns sF ⟨ts, e1, e2, e3, e4⟩ hle hl hD => by
    refine ⟨u, D, _, _, rfl, rfl, e1, hD, ?_, fun p hp => ⟨p, rfl, sF.trans (same_new hp _), ts ++ ns.map (fun n : Nat => Str.ofString (toString (n : Int))), by rw [upd_same, List.map_append], fun y hy => ?_, ?_, ?_⟩⟩
    · rw [List.length_map, List.length_map, List.length_map]; exact small (by omega)
    · rcases List.mem_append.mp hy with hy | hy
      · exact e2 y hy
      · obtain ⟨n, hn, rfl⟩ := List.mem_map.mp hy
        exact gta_num (by have := hle n hn; omega)
    · rw [List.length_append]; omega
    · rw [List.length_append, List.length_map]; omega
  have TB : ∀ {F : Hp} {p : Addr} {a b : Nat}, a ≤ b → TokAt F a p → TokAt F b p := fun h ⟨ts, e1, e2, e3, e4⟩ => ⟨ts, e1, e2, e3, Nat.le_trans e4 h⟩
  -- times .. bar
  refine ⟨fun τ G => ∃ u, τ = [some (.ref r), some (.ref u), none, none, none, none, none] ∧ Same H G ∧ TokAt G 201 u ∧ (x = "row" → TokAt G 1 u), ?_, ?_⟩
  · refine ⟨_, rfl, r, _, _, .str x, rfl, rfl, SqT.of (s1 _ _ hx), atI_nat (j := 0) rfl, small (by decide), fun w hw => ?_⟩
    have s2 := same_new hw (.lst (NUMW.map V.str))
    have s3 := s1.trans s2
    refine ⟨w, NUMW.map V.str, rfl, .inl (SqL.of upd_same), rfl, flat_strs _, _, rfl, ?_⟩
    by_cases c : x ∈ NUMW
    · refine ifT (inV_yes c) ?_
      obtain ⟨ns, v, exs, hl, hle⟩ := hnum c
      have hx3 := s3 _ _ hx
      have t3 := t1.keep s2
      refine ⟨_, rfl, _, rfl, (1 : Int), rfl, _, rfl, (-1 : Int), rfl, r, _, rfl, SqT.of hx3, ?_, fun z hz => ?_⟩
      · intro y
        have y1 := y.1
        rw [exs] at y1
        have : HT.sIx (V.str x :: ((ns.map fun n : Nat => V.int n) ++ [V.ref v])).length 0 (some (1 : Int)) = min 1 (V.str x :: ((ns.map fun n : Nat => V.int n) ++ [V.ref v])).length := HT.sIx_nat _ _ 1
        rw [this, List.length_cons] at y1
        omega
      rw [exs, mid_cut]
      have s4 := same_new hz (.tup (ns.map fun n : Nat => V.int n))
      have hz4 : (upd (upd H1 w (.lst (NUMW.map V.str))) z (.tup (ns.map fun n : Nat => V.int n))) z = some (.tup (ns.map fun n : Nat => V.int n)) := upd_same
      refine ⟨z, rfl, ⟨_, SqT.of hz4⟩, fun D hD => lc_tupM (xs := ns.map fun n : Nat => V.int n) (fun i F => Same (upd (upd H1 w (.lst (NUMW.map V.str))) z (.tup (ns.map fun n : Nat => V.int n))) F ∧ F D = some (.lst (((ns.take i).map fun n : Nat => Str.ofString (toString (n : Int))).map V.str))) ⟨same_new hD _, upd_same⟩ (fun i F _ h => SqT.of (h.1 _ _ hz4)) ?_ ?_⟩
      · rintro i y F hy ⟨sm, eD⟩
        rw [List.getElem?_map] at hy
        cases hi : ns[i]? with
        | none => rw [hi] at hy; cases hy
        | some n =>
          rw [hi] at hy
          obtain rfl : V.int (n : Int) = y := Option.some.inj hy
          have hnle := hle n (List.mem_of_getElem? hi)
          refine ⟨rfl, _, rfl, n, rfl, num_log (by omega), _, eD, ?_, ?_, ?_⟩
          · rw [List.length_map, List.length_map, List.length_take]
            exact small1000 (by omega)
          · exact fun b o w => by rw [upd_ne (ne_of_none w hD)]; exact sm b o w
          · rw [upd_same, List.take_add_one, hi, List.map_append, List.map_append]
            rfl
      rintro F ⟨sm, eD⟩
      rw [List.length_map, List.take_length] at eD
      obtain ⟨l1, l2, l3, l4, l5, l6, l7, l8, l9, l10⟩ := join u F D ns (s3.trans (s4.trans sm)) (t3.keep (s4.trans sm)) hle hl eD
      refine ⟨l1, l2, l3, l4, l5, l6, l7, l8, l9, fun p hp => ?_⟩
      obtain ⟨p', e1, e2, e3⟩ := l10 p hp
      cases e1
      exact ⟨p, rfl, e2, e3, fun z => absurd (by rw [z] at c; exact c) row_words.2.2.2.1⟩
    · refine ifF (inV_no c) ?_
      exact ⟨u, rfl, s3, TB (by decide) (t1.keep s2), fun _ => t1.keep s2⟩
  rintro τ G ⟨u2, rfl, sG, tG, tR⟩
  -- row
  refine ⟨fun τ G => ∃ u, τ = [some (.ref r), some (.ref u), none, none, none, none, none] ∧ Same H G ∧ TokAt G 201 u, ?_, ?_⟩
  · refine ⟨_, rfl, r, _, _, .str x, rfl, rfl, SqT.of (sG _ _ hx), atI_nat (j := 0) rfl, rfl, _, rfl, ?_⟩
    by_cases c : x = "row"
    rotate_left
    · refine ifF (dec_str_ne c) ?_
      exact ⟨u2, rfl, sG, tG⟩
    refine ifT (by rw [c]; exact decide_eq_true rfl) ?_
    obtain ⟨p, v, ns, exs, hp, hl, hle⟩ := hrow c
    have hxG := sG _ _ hx
    have hpG := sG _ _ hp
    refine ⟨_, rfl, _, rfl, r, _, _, .ref p, rfl, rfl, SqT.of hxG, by rw [exs]; exact atI_nat (j := 1) rfl, ?_⟩
    refine ⟨p, rfl, ⟨_, SqT.of hpG⟩, fun D hD => lc_tupM (xs := ns.map fun n : Nat => V.int n) (fun i F => Same G F ∧ F D = some (.lst (((ns.take i).map fun n : Nat => Str.ofString (toString (n : Int))).map V.str))) ⟨same_new hD _, upd_same⟩ (fun i F _ h => SqT.of (h.1 _ _ hpG)) ?_ ?_⟩
    · rintro i y F hy ⟨sm, eD⟩
      rw [List.getElem?_map] at hy
      cases hi : ns[i]? with
      | none => rw [hi] at hy; cases hy
      | some n =>
        rw [hi] at hy
        obtain rfl : V.int (n : Int) = y := Option.some.inj hy
        have hnle := hle n (List.mem_of_getElem? hi)
        refine ⟨rfl, _, rfl, n, rfl, num_log (by omega), _, eD, ?_, ?_, ?_⟩
        · rw [List.length_map, List.length_map, List.length_take]
          exact small1000 (by omega)
        · exact fun b o w => by rw [upd_ne (ne_of_none w hD)]; exact sm b o w
        · rw [upd_same, List.take_add_one, hi, List.map_append, List.map_append]
          rfl
    rintro F ⟨sm, eD⟩
    rw [List.length_map, List.take_length] at eD
    obtain ⟨l1, l2, l3, l4, l5, l6, l7, l8, l9, l10⟩ := join u2 F D ns (sG.trans sm) ((tR c).keep sm) hle hl eD
    refine ⟨l1, l2, l3, l4, l5, l6, l7, l8, l9, fun p hp => ?_⟩
    obtain ⟨p', e1, e2, e3⟩ := l10 p hp
    cases e1
    exact ⟨p, rfl, e2, e3⟩
  rintro τ G1 ⟨u3, rfl, sG1, tG1⟩
  clear tR tG sG
  -- the parts' tokens
  refine ⟨_, rfl, r, rfl, hR.keep (TK.of sG1), fun H2 p rs s2 hp hl3 ha => ?_⟩
  have ha' : ∀ z ∈ rs, RuleAt H2 ed z := fun z hz => by
    obtain ⟨d', e1, h1⟩ := ha z hz
    cases e1
    exact h1
  refine ⟨p, rfl, ⟨_, SqL.of hp⟩, fun L hL => lc_listM (xs := rs.map V.ref) (fun i F => Same H2 F ∧ ∃ ps : List Addr, F L = some (.lst (ps.map V.ref)) ∧ ps.length = i ∧ ∀ z ∈ ps, TokAt F (tokB ed) z) ⟨same_new hL _, [], upd_same, rfl, fun q hq => (nomatch hq)⟩ (fun i F _ h => SqL.of (h.1 _ _ hp)) ?_ ?_⟩
  · rintro i y F hy ⟨sm, ps, eL, lL, aL⟩
    rw [List.getElem?_map] at hy
    cases hi : rs[i]? with
    | none => rw [hi] at hy; cases hy
    | some z =>
      rw [hi] at hy
      obtain rfl : V.ref z = y := Option.some.inj hy
      have hz : z ∈ rs := List.mem_of_getElem? hi
      have hi3 : i < rs.length := (List.getElem?_eq_some_iff.mp hi).1
      refine ⟨rfl, _, rfl, rfl, z, rfl, by omega, (ha' z hz).keep (TK.of sm), fun F' w s3 t3 => ?_⟩
      have eL' := s3 _ _ eL
      refine ⟨_, eL', by rw [List.length_map]; exact small1000 (by omega), ?_, ps ++ [w], by rw [upd_same, List.map_append]; rfl, by rw [List.length_append, lL]; rfl, fun v hv => ?_⟩
      · exact fun b o e1 => by rw [upd_ne (ne_of_none e1 hL)]; exact s3 _ _ (sm b o e1)
      · rcases List.mem_append.mp hv with hv | hv
        · exact ((aL v hv).keep s3).put eL'
        · rw [List.mem_singleton.mp hv]; exact t3.put eL'
  rintro F ⟨sm, ps, eL, lL, aL⟩
  rw [List.length_map] at lL
  have sF : Same H F := sG1.trans (s2.trans sm)
  have tF : TokAt F 201 u3 := tG1.keep (s2.trans sm)
  have hps : ps.length ≤ 3 := by omega
  have hB3 := tokB_le (e := ed) (by omega)
  -- one after the other
  refine ⟨_, rfl, L, ps.map V.ref, rfl, SqL.of eL, ?_⟩
  refine for_it (walk_enum (K := K) (a := L) (xs := ps.map V.ref)) (fun i σ G => ∃ (u : Addr) (y3 y4 : Option V), σ = [some (.ref r), some (.ref u), some (.ref L), y3, y4, none, none] ∧ Same F G ∧ TokAt G (201 + i * (tokB ed + 1)) u) ⟨u3, none, none, rfl, Same.refl F, by rw [Nat.zero_mul]; exact tF⟩
    (fun i σ G _ h => by obtain ⟨_, _, _, _, s, _⟩ := h; exact SqL.of (s _ _ eL)) ?_ ?_
  · rintro i x' σ G G' hi ⟨u, y3, y4, rfl, sm2, tu⟩ ⟨T, a1, a2, rfl, hT, rfl, ea, eb⟩
    cases ea
    rw [List.length_map] at hi
    change (ps.map V.ref)[i]? = some a2 at eb
    rw [List.getElem?_map] at eb
    cases hz : ps[i]? with
    | none => rw [hz] at eb; cases eb
    | some z =>
      rw [hz] at eb
      cases eb
      have sT := same_new hT (.tup [.int (i : Nat), .ref z])
      have tz : TokAt G (tokB ed) z := (aL z (List.mem_of_getElem? hz)).keep sm2
      have hTT : (upd G T (.tup [.int (i : Nat), .ref z])) T = some (.tup [.int (i : Nat), .ref z]) := upd_same
      have tu' := tu.keep sT
      have tz' := tz.keep sT
      have sm3 := sm2.trans sT
      clear tu tz sm2
      generalize upd G T (.tup [.int (i : Nat), .ref z]) = G2 at sm3 hTT tu' tz'
      have hmul : i * (tokB ed + 1) ≤ 2 * (tokB ed + 1) := Nat.mul_le_mul_right _ (by omega)
      have fin : ∀ (c : Str), GTA c → tLst (tCons (tC (.str c)) tNil) [some (.ref r), some (.ref u), some (.ref L), some (.int (i : Nat)), some (.ref z), none, none] G2 (fun y H2 => rCat (.ref u) y H2 (fun v H3 => rCat v (.ref z) H3 (fun v H4 => ∃ u', v = .ref u' ∧ Same F H4 ∧ TokAt H4 (201 + (i + 1) * (tokB ed + 1)) u'))) := fun c hc => by
        refine ⟨(by show 1 ≤ sizeLine; exact small (by decide)), fun w hw => ?_⟩
        have s4 := same_new hw (.lst [.str c])
        obtain ⟨ts, e1, e2, e3, e4⟩ := tu'
        obtain ⟨zs, f1, f2, f3, f4⟩ := tz'
        refine ⟨u, w, _, _, rfl, rfl, s4 _ _ e1, upd_same, ?_, fun p1 hp1 => ?_⟩
        · rw [List.length_map]
          exact small5 (by show ts.length + 1 ≤ 1000000; omega)
        have s5 := same_new hp1 (.lst (ts.map V.str ++ [V.str c]))
        refine ⟨p1, z, _, _, rfl, rfl, upd_same, s5 _ _ (s4 _ _ f1), ?_, fun p2 hp2 => ?_⟩
        · rw [List.length_append, List.length_map, List.length_map]
          exact small5 (by show ts.length + 1 + zs.length ≤ 1000000; omega)
        refine ⟨p2, rfl, ((sm3.trans s4).trans s5).trans (same_new hp2 _), (ts ++ [c]) ++ zs, by rw [upd_same, List.map_append, List.map_append]; rfl, fun y hy => ?_, ?_, ?_⟩
        · rcases List.mem_append.mp hy with hy | hy
          · rcases List.mem_append.mp hy with hy | hy
            · exact e2 y hy
            · rw [List.mem_singleton.mp hy]; exact hc
          · exact f2 y hy
        · rw [List.length_append]; omega
        · rw [List.length_append, List.length_append, List.length_singleton, Nat.succ_mul]
          omega
      refine ⟨T, _, rfl, SqT.of hTT, rfl, _, _, rfl, _, _, rfl, rfl, ?_⟩
      refine ⟨_, rfl, _, rfl, rfl, _, rfl, if2 (fun c => ?_) (fun c => ?_)⟩
      · obtain ⟨sz, fn⟩ := fin "(" (gta_lit (by decide +kernel))
        refine ⟨sz, fun w hw => ?_⟩
        obtain ⟨l1, l2, l3, l4, l5, l6, l7, l8, l9, l10⟩ := fn w hw
        refine ⟨l1, l2, l3, l4, l5, l6, l7, l8, l9, fun p1 hp1 => ⟨_, rfl, ?_⟩⟩
        obtain ⟨m1, m2, m3, m4, m5, m6, m7, m8, m9, m10⟩ := l10 p1 hp1
        refine ⟨m1, m2, m3, m4, m5, m6, m7, m8, m9, fun p2 hp2 => ?_⟩
        obtain ⟨u', e1, e2, e3⟩ := m10 p2 hp2
        cases e1
        exact ⟨p2, _, _, rfl, e2, e3⟩
      · obtain ⟨sz, fn⟩ := fin "," (gta_lit (by decide +kernel))
        refine ⟨sz, fun w hw => ?_⟩
        obtain ⟨l1, l2, l3, l4, l5, l6, l7, l8, l9, l10⟩ := fn w hw
        refine ⟨l1, l2, l3, l4, l5, l6, l7, l8, l9, fun p1 hp1 => ⟨_, rfl, ?_⟩⟩
        obtain ⟨m1, m2, m3, m4, m5, m6, m7, m8, m9, m10⟩ := l10 p1 hp1
        refine ⟨m1, m2, m3, m4, m5, m6, m7, m8, m9, fun p2 hp2 => ?_⟩
        obtain ⟨u', e1, e2, e3⟩ := m10 p2 hp2
        cases e1
        exact ⟨p2, _, _, rfl, e2, e3⟩
  · rintro σ G ⟨u, y3, y4, rfl, sm2, tu⟩
    rw [List.length_map] at tu
    have hmul : ps.length * (tokB ed + 1) ≤ 3 * (tokB ed + 1) := Nat.mul_le_mul_right _ hps
    have hst := tokB_step ed
    obtain ⟨ts, e1, e2, e3, e4⟩ := tu
    refine ⟨_, rfl, small (by decide), fun w hw => ?_⟩
    have s4 := same_new hw (.lst [.str ")"])
    refine ⟨u, w, _, _, rfl, rfl, s4 _ _ e1, upd_same, ?_, fun p1 hp1 => ?_⟩
    · rw [List.length_map]
      exact small5 (by show ts.length + 1 ≤ 1000000; omega)
    refine q _ p1 (((sF.trans sm2).trans s4).trans (same_new hp1 _)) ⟨ts ++ ([")"] : List Str), by rw [upd_same, List.map_append]; rfl, fun y hy => ?_, ?_, ?_⟩
    · rcases List.mem_append.mp hy with hy | hy
      · exact e2 y hy
      · rw [List.mem_singleton.mp hy]; exact gta_lit (by decide +kernel)
    · rw [List.length_append]; omega
    · rw [List.length_append, List.length_singleton]; omega
theorem lRT_all {fR fP : Addr} {fdR fdP : FuncData} (B : Bl mg) (DR : Df K mg "_law_rule_tokens" sLRuleTokens ["_law_rule_here"] fR fdR) (DP : Df K mg "_law_parts" sLParts ["_law_rule_here"] fP fdP) : ∀ d, FnOk P u0 K mg base CX0 (2 + d) fR fdR ["_law_rule_here"] (spLRT d)
  | 0 => ok_lRT (k := 1) DR.fn B DP (ok_lParts DP.fn B) DR.g DR.b (fun e' z => (nomatch z)) (by omega)
  | d + 1 => ok_lRT (k := 2 + d) DR.fn B DP (ok_lParts DP.fn B) DR.g DR.b (fun e' z => (by cases z; exact lRT_all B DR DP d)) (by omega)
end
end K07

namespace K07
open PySem L2
def NetAt (H : Hp) (r : Addr) : Prop := ∃ (p1 p2 : Addr) (ns : List Nat) (rs : List Addr), H r = some (.tup [.ref p1, .ref p2]) ∧ H p1 = some (.tup (ns.map fun n : Nat => V.int n)) ∧ H p2 = some (.tup (rs.map V.ref)) ∧ rs.length = ns.length ∧ 1 ≤ ns.length ∧ ns.length ≤ 4 ∧
  (∀ n ∈ ns, n ≤ 1000) ∧ ∀ q ∈ rs, ∃ e, e ≤ 3 ∧ RuleAt H e q
def spDAny : Sp := fun vs H Q E => ∃ dd, dd ≤ 3 ∧ spDRule dd vs H Q E
def spLNet : Sp := fun vs H Q _ => ∃ d c : Addr, vs = [.ref d, .int 4, .int 9, .bl true] ∧ Dl H d c ∧ ∀ H' r, Bud d c H H' → Dl H' d c → NetAt H' r → Q (.ref r) H'
/-- a list of tokens, two of them at least -/
def Tok2 (H : Hp) (B : Nat) (p : Addr) : Prop := ∃ ts : List Str, H p = some (.lst (ts.map V.str)) ∧ (∀ x ∈ ts, GTA x) ∧ 2 ≤ ts.length ∧ ts.length ≤ B
def spRTAny : Sp := fun vs H Q _ => ∃ (r : Addr) (e : Nat), vs = [.ref r] ∧ e ≤ 3 ∧ RuleAt H e r ∧ ∀ H' p, Same H H' → TokAt H' 20000 p → Q (.ref p) H'
def spLNetTok : Sp := fun vs H Q _ => ∃ r : Addr, vs = [.ref r] ∧ NetAt H r ∧ ∀ H' p, Same H H' → Tok2 H' 100000 p → Q (.ref p) H'
section
variable {P : Program} {u0 : World} {K : PySem.W.Frag} {mg : Str → Option Value} {base : Heap}
theorem dAny {f : Addr} {fd : FuncData} (h : ∀ d, FnOk P u0 K mg base CX0 (3 + d) f fd pDR (spDRule d)) : FnOk P u0 K mg base CX0 6 f fd pDR spDAny :=
  ⟨fun vs H Q E ⟨dd, _, h2⟩ => (h dd).len vs H Q E h2, fun A outer s H args us vs Q E h1 h2 h3 h4 ⟨dd, hd, h5⟩ => (h dd).run A outer s H args us vs Q E (h1.mono (by omega)) h2 h3 h4 h5⟩
theorem rtAny {f : Addr} {fd : FuncData} (h : ∀ d, FnOk P u0 K mg base CX0 (2 + d) f fd ["_law_rule_here"] (spLRT d)) : FnOk P u0 K mg base CX0 5 f fd ["_law_rule_here"] spRTAny := by
  have key : ∀ (vs : List V) (H : Hp) (Q : VK) (E : XK), spRTAny vs H Q E → ∃ e, e ≤ 3 ∧ spLRT e vs H Q E := fun vs H Q E ⟨r, e, e1, e2, e3, e4⟩ =>
    ⟨e, e2, r, e1, e2, e3, fun H' p s ⟨ts, t1, t2, t3, t4⟩ => e4 H' p s ⟨ts, t1, t2, t3, Nat.le_trans t4 (tokB_le e2)⟩⟩
  refine ⟨fun vs H Q E h' => ?_, fun A outer s H args us vs Q E h1 h2 h3 h4 h5 => ?_⟩
  · obtain ⟨e, _, x⟩ := key vs H Q E h'
    exact (h e).len vs H Q E x
  · obtain ⟨e, he, x⟩ := key vs H Q E h5
    exact (h e).run A outer s H args us vs Q E (h1.mono (by omega)) h2 h3 h4 x
abbrev nNE : List Str := ["_law_deal", "_law_most", "_law_top", "_law_any_row", "_law_n", "_law_tops", "_law_house"]
abbrev pNE : List Str := ["_law_deal", "_law_most", "_law_top", "_law_any_row"]
theorem scNE : FnScope nNE pNE (defScope sLNet) := ⟨rfl, rfl, rfl, by decide +kernel, rfl, by decide +kernel, by decide +kernel⟩
theorem ok_lNet {f fA fR : Addr} {fd fdA fdR : FuncData} (F : Fun K "_law_net" "_law_net" sLNet f fd) (B : Bl mg) (DA : Df K mg "_law_any" sLAny pLA fA fdA) (GA : FnOk P u0 K mg base CX0 1 fA fdA pLA spLAny)
    (DR : Df K mg "_law_rule" sLRule pDR fR fdR) (GR : FnOk P u0 K mg base CX0 6 fR fdR pDR spDAny) : FnOk P u0 K mg base CX0 7 f fd pNE spLNet := by
  refine F.ok scNE (fun vs H Q E h => ?_) (fun cdv A outer st H vs Q E hr h => ?_)
  · obtain ⟨_, _, rfl, _⟩ := h
    rfl
  obtain ⟨d, c, rfl, D, q⟩ := h
  have hr1 : Room 1 _ := hr.mono (by decide)
  refine ⟨_, pss_cons (ps_set (i := 4) scNE.nd rfl (.inr rfl) (pe_op op_add pe_int (pe_call GA hr1 (by rfl) DA.g DA.kp DA.b .nil pass0 (pa_cons (pv 0) (pa_cons (pv 1) pa_nil)))))
    (pss_cons (ps_set (i := 5) scNE.nd rfl (.inl rfl) (pe_callTy call_tuple_of (by rfl) B.tuple (by decide +kernel) (pa_cons
        (pe_lc (own := [("_law_house", 6)]) (g := gName 6) (tt := tYes) rfl scNE.nd (pi_range1 (by rfl) B.range (pa_cons (pv 4) pa_nil)) (blkOk_by (N := nNE) (sc := defScope sLNet) (by decide +kernel)) (fun _ _ _ _ _ => pg_name (i := 6) scNE.nd rfl (Or.inl rfl)) (fun _ _ _ _ _ => pts_nil)
          (fun _ _ _ _ _ => pe_op op_add pe_int (pe_call GA hr1 (by rfl) DA.g DA.kp DA.b .nil pass0 (pa_cons (pv 0) (pa_cons (pv 2) pa_nil))))) pa_nil)))
    (pss_one (ps_ret (pe_tup (pa_cons (pv 5) (pa_cons (pe_callTy call_tuple_of (by rfl) B.tuple (by decide +kernel) (pa_cons
        (pe_lc (own := [("_law_house", 6)]) (g := gName 6) (tt := tYes) rfl scNE.nd (pi_range1 (by rfl) B.range (pa_cons (pv 4) pa_nil)) (blkOk_by (N := nNE) (sc := defScope sLNet) (by decide +kernel)) (fun _ _ _ _ _ => pg_name (i := 6) scNE.nd rfl (Or.inl rfl)) (fun _ _ _ _ _ => pts_nil)
          (fun _ _ _ _ _ => pe_call GR hr (by rfl) DR.g DR.kp DR.b .nil pass0 (pa_cons (pv 0) (pa_cons (pv 4) (pa_cons (pv 2) (pa_cons (pe_call GA hr1 (by rfl) DA.g DA.kp DA.b .nil pass0 (pa_cons (pv 0) (pa_cons pe_int pa_nil))) (pa_cons (pv 3) pa_nil))))))) pa_nil)) pa_nil)))))), ?_⟩
  refine ⟨_, rfl, _, rfl, d, c, 4, rfl, D, by decide, by decide, fun H1 j b1 D1 hj => ⟨_, _, rfl, rfl, ?_⟩⟩
  have en : (1 : Int) + (j : Int) = ((1 + j : Nat) : Int) := by omega
  refine ⟨_, rfl, (1 + (j : Int)), rfl, by omega, by omega, fun L hL => ?_⟩
  have eN : (1 + (j : Int)).toNat = 1 + j := by omega
  rw [eN]
  have nL := D1.new hL
  refine lc_rangeM (fun i F => Bud d c H1 F ∧ Dl F d c ∧ ∃ ns : List Nat, F L = some (.lst (ns.map fun n : Nat => V.int n)) ∧ ns.length = i ∧ ∀ z ∈ ns, z ≤ 1000) ⟨Bud.of (same_new hL _), D1.same (same_new hL _), [], upd_same, rfl, fun q hq => (nomatch hq)⟩ ?_ ?_
  · rintro i F hi ⟨b2, D2, ns, e2, l2, a2⟩
    refine ⟨rfl, _, rfl, _, rfl, d, c, 9, rfl, D2, by decide, by decide, fun F5 j5 b5 D5 hj5 => ⟨_, _, rfl, rfl, ?_⟩⟩
    refine ⟨_, b5 _ _ e2 nL.1 nL.2, by rw [List.length_map]; exact small1000 (by omega), (b2.trans b5).newer hL, D5.other nL.1 nL.2, ns ++ [1 + j5], ?_, by rw [List.length_append, l2]; rfl, fun z hz => ?_⟩
    · have e1 : (1 : Int) + (j5 : Int) = ((1 + j5 : Nat) : Int) := by omega
      rw [upd_same, List.map_append]
      show some (HO.lst ((ns.map fun n : Nat => V.int n) ++ [V.int ((1 : Int) + (j5 : Int))])) = _
      rw [e1]
      rfl
    · rcases List.mem_append.mp hz with hz | hz
      · exact a2 z hz
      · rw [List.mem_singleton.mp hz]; omega
  rintro F ⟨b2, D2, ns, e2, l2, a2⟩
  refine ⟨L, _, rfl, .inl ⟨SqL.of e2, fun p1 hp1 => ?_⟩⟩
  have s3 := same_new hp1 (.tup (ns.map fun n : Nat => V.int n))
  have hp1' : (upd F p1 (.tup (ns.map fun n : Nat => V.int n))) p1 = some (.tup (ns.map fun n : Nat => V.int n)) := upd_same
  have D3 := D2.same s3
  have b3 : Bud d c H (upd F p1 (.tup (ns.map fun n : Nat => V.int n))) := (b1.trans b2).new hp1
  generalize upd F p1 (.tup (ns.map fun n : Nat => V.int n)) = F3 at hp1' D3 b3
  clear s3 b2 D2 b1 e2 nL hL
  refine ⟨_, rfl, _, rfl, (1 + (j : Int)), rfl, by omega, by omega, fun M hM => ?_⟩
  rw [eN]
  have nM := D3.new hM
  refine lc_rangeM (fun i F => Bud d c F3 F ∧ Dl F d c ∧ ∃ rs : List Addr, F M = some (.lst (rs.map V.ref)) ∧ rs.length = i ∧ ∀ q ∈ rs, ∃ e, e ≤ 3 ∧ RuleAt F e q) ⟨Bud.of (same_new hM _), D3.same (same_new hM _), [], upd_same, rfl, fun q hq => (nomatch hq)⟩ ?_ ?_
  · rintro i F hi ⟨b4, D4, rs, e4, l4, a4⟩
    refine ⟨rfl, _, rfl, _, rfl, _, rfl, _, rfl, d, c, 4, rfl, D4, by decide, by decide, fun F5 j5 b5 D5 hj5 => ?_⟩
    refine ⟨_, rfl, j5, by omega, d, c, 1 + j, 9, by rw [← en]; rfl, D5, by omega, by omega, by decide, fun F6 u b6 D6 hu => ?_⟩
    have e6 := b6 _ _ (b5 _ _ e4 nM.1 nM.2) nM.1 nM.2
    have k46 : TK F F6 := (TK.bud D4 b5).trans (TK.bud D5 b6)
    refine ⟨_, e6, by rw [List.length_map]; exact small1000 (by omega), ((b4.trans b5).trans b6).newer hM, D6.other nM.1 nM.2, rs ++ [u], by rw [upd_same, List.map_append]; rfl, by rw [List.length_append, l4]; rfl, fun z hz => ?_⟩
    rcases List.mem_append.mp hz with hz | hz
    · obtain ⟨e, he, hR⟩ := a4 z hz
      exact ⟨e, he, (hR.keep k46).keep (TK.updL e6)⟩
    · rw [List.mem_singleton.mp hz]
      exact ⟨j5, by omega, hu.keep (TK.updL e6)⟩
  rintro F ⟨b4, D4, rs, e4, l4, a4⟩
  refine ⟨M, _, rfl, .inl ⟨SqL.of e4, fun p2 hp2 => ?_⟩⟩
  refine ⟨(by show 2 ≤ sizeLine; exact small (by decide)), fun r hr' => ?_⟩
  have s5 := same_new hp2 (.tup (rs.map V.ref))
  have s6 := same_new hr' (.tup [.ref p1, .ref p2])
  have n1 := D3.tup hp1'
  have hp2' : (upd F p2 (.tup (rs.map V.ref))) p2 = some (.tup (rs.map V.ref)) := upd_same
  refine q _ r (((b3.trans b4).new hp2).new hr') ((D4.same s5).same s6) ⟨p1, p2, ns, rs, upd_same, s6 _ _ (s5 _ _ (b4 _ _ hp1' n1.1 n1.2)), s6 _ _ hp2', by omega, by omega, by omega, a2, fun z hz => ?_⟩
  obtain ⟨e, he, hR⟩ := a4 z hz
  exact ⟨e, he, (hR.keep (TK.of s5)).keep (TK.of s6)⟩
end
end K07

namespace K07
open PySem L2
/-- a list of tokens, between lo and hi of them -/
def LTok (H : Hp) (lo hi : Nat) (p : Addr) : Prop := ∃ ts : List Str, H p = some (.lst (ts.map V.str)) ∧ (∀ x ∈ ts, GTA x) ∧ lo ≤ ts.length ∧ ts.length ≤ hi
theorem LTok.keep {H H' : Hp} {lo hi : Nat} {p : Addr} (s : Same H H') (h : LTok H lo hi p) : LTok H' lo hi p := by
  obtain ⟨ts, h1, h2⟩ := h
  exact ⟨ts, s _ _ h1, h2⟩
theorem LTok.wide {H : Hp} {lo hi lo' hi' : Nat} {p : Addr} (h : LTok H lo hi p) (h1 : lo' ≤ lo) (h2 : hi ≤ hi') : LTok H lo' hi' p := by
  obtain ⟨ts, a, b, c, d⟩ := h
  exact ⟨ts, a, b, Nat.le_trans h1 c, Nat.le_trans d h2⟩
theorem LTok.cat {F : Hp} {a b : Addr} {lo1 hi1 lo2 hi2 : Nat} {Q : VK} (h1 : LTok F lo1 hi1 a) (h2 : LTok F lo2 hi2 b) (hs : hi1 + hi2 ≤ 1000000) (q : ∀ G p, Same F G → LTok G (lo1 + lo2) (hi1 + hi2) p → Q (.ref p) G) : rCat (.ref a) (.ref b) F Q := by
  obtain ⟨ts, e1, e2, e3, e4⟩ := h1
  obtain ⟨zs, f1, f2, f3, f4⟩ := h2
  refine ⟨a, b, _, _, rfl, rfl, e1, f1, ?_, fun p hp => q _ p (same_new hp _) ⟨ts ++ zs, by rw [upd_same, List.map_append], fun y hy => ?_, ?_, ?_⟩⟩
  · rw [List.length_map, List.length_map]; exact small5 (by omega)
  · rcases List.mem_append.mp hy with hy | hy
    · exact e2 y hy
    · exact f2 y hy
  · rw [List.length_append]; omega
  · rw [List.length_append]; omega
theorem flat_rep {α : Type} (xs : List α) : ∀ k : Nat, ((List.replicate k xs).flatten).length = k * xs.length
  | 0 => by simp
  | k + 1 => by rw [List.replicate_succ, List.flatten_cons, List.length_append, flat_rep xs k, Nat.succ_mul]; omega
theorem LTok.rep {F : Hp} {a : Addr} {n k : Nat} {Q : VK} (h1 : LTok F n n a) (hk : k ≤ 1000) (hn : n ≤ 1000) (q : ∀ G p, Same F G → LTok G (k * n) (k * n) p → Q (.ref p) G) : rRep (.ref a) (.int (k : Int)) F Q := by
  obtain ⟨ts, e1, e2, e3, e4⟩ := h1
  have el : ts.length = n := by omega
  have em : (List.replicate (k : Int).toNat (ts.map V.str)).flatten = ((List.replicate k ts).flatten).map V.str := by
    rw [Int.toNat_natCast, List.map_flatten, List.map_replicate]
  have hmul : ts.length * k ≤ 1000 * 1000 := Nat.mul_le_mul (by omega) hk
  refine ⟨a, k, _, rfl, rfl, e1, by omega, by omega, ?_, fun p hp => ?_⟩
  · rw [List.length_map, Int.toNat_natCast]
    exact small5 (by omega)
  rw [em]
  refine q _ p (same_new hp _) ⟨_, upd_same, fun y hy => ?_, ?_, ?_⟩
  · obtain ⟨l, hl, hy⟩ := List.mem_flatten.mp hy
    rw [(List.mem_replicate.mp hl).2] at hy
    exact e2 y hy
  · rw [flat_rep, el]
    exact Nat.le_refl _
  · rw [flat_rep, el]
    exact Nat.le_refl _
theorem LTok.lit {H : Hp} {p : Addr} (ts : List Str) (h : ∀ x ∈ ts, gtaB x = true) : LTok (upd H p (.lst (ts.map V.str))) ts.length ts.length p :=
  ⟨ts, upd_same, fun x hx => gta_of (h x hx), Nat.le_refl _, Nat.le_refl _⟩
section
variable {P : Program} {u0 : World} {K : PySem.W.Frag} {mg : Str → Option Value} {base : Heap}
abbrev nNK : List Str := ["_law_net_here", "_law_found", "_law_house"]
theorem scNK : FnScope nNK ["_law_net_here"] (defScope sLNetTokens) := ⟨rfl, rfl, rfl, by decide +kernel, rfl, by decide +kernel, by decide +kernel⟩
theorem ok_lNetTok {f fR : Addr} {fd fdR : FuncData} (F : Fun K "_law_net_tokens" "_law_net_tokens" sLNetTokens f fd) (B : Bl mg) (DR : Df K mg "_law_rule_tokens" sLRuleTokens ["_law_rule_here"] fR fdR) (GR : FnOk P u0 K mg base CX0 5 fR fdR ["_law_rule_here"] spRTAny) :
    FnOk P u0 K mg base CX0 6 f fd ["_law_net_here"] spLNetTok := by
  refine F.ok scNK (fun vs H Q E h => ?_) (fun cdv A outer st H vs Q E hr h => ?_)
  · obtain ⟨_, rfl, _⟩ := h
    rfl
  obtain ⟨r, rfl, ⟨p1, p2, ns, rs, hr0, hp1, hp2, hlen, h1, h4, hle, ha⟩, q⟩ := h
  refine ⟨_, pss_cons (ps_set (i := 1) scNK.nd rfl (.inl rfl) (pe_lst pa_nil))
    (pss_cons (ps_for PassesOwn.never rfl (pi_range1 (by rfl) B.range (pa_cons (pe_callB call_len_seq (by rfl) B.len PySem.boot_len (pa_cons (pe_ix ix_tup (pv 0) pe_int (fun _ _ => rfl)) pa_nil)) pa_nil)) (pg_name (i := 2) scNK.nd rfl (.inl rfl))
      (pss_one (ps_set (i := 1) scNK.nd rfl (.inl rfl) (pe_op op_cat (pe_op op_cat (pe_op op_cat (pv 1) (pe_lst (pa_cons pe_str (pa_cons (pe_callTy call_str_int (by rfl) B.str (by decide +kernel) (pa_cons (pv 2) pa_nil)) (pa_cons pe_str
          (pa_cons (pe_callTy call_str_int (by rfl) B.str (by decide +kernel) (pa_cons (pe_ix ix_tup (pe_ix ix_tup (pv 0) pe_int (fun _ _ => rfl)) (pv 2) (fun _ _ => rfl)) pa_nil)) (pa_cons pe_str pa_nil)))))))
        (pe_call GR hr (by rfl) DR.g DR.kp DR.b .nil pass0 (pa_cons (pe_ix ix_tup (pe_ix ix_tup (pv 0) pe_int (fun _ _ => rfl)) (pv 2) (fun _ _ => rfl)) pa_nil))) (pe_lst (pa_cons pe_str pa_nil))))))
    (pss_one (ps_ret (pv 1)))), ?_⟩
  refine ⟨Nat.zero_le _, fun u0' hu0 => ?_⟩
  have s0' := same_new hu0 (.lst [])
  refine ⟨_, rfl, r, _, _, .ref p1, rfl, rfl, SqT.of (s0' _ _ hr0), atI_nat (j := 0) rfl, p1, _, rfl, .inr (SqT.of (s0' _ _ hp1)), (((ns.map fun n : Nat => V.int n).length : Nat) : Int), rfl, by rw [List.length_map]; omega, by rw [List.length_map]; omega, ?_⟩
  have el : (((ns.map fun n : Nat => V.int n).length : Nat) : Int).toNat = ns.length := by rw [List.length_map]; exact Int.toNat_natCast _
  rw [el]
  refine for_range (lo := 0) (n := ns.length) (fun i σ G => ∃ (u : Addr) (y : Option V), σ = [some (.ref r), some (.ref u), y] ∧ Same H G ∧ LTok G (2 * i) (i * 20006) u) ?_ ?_ ?_
  · exact ⟨u0', none, rfl, s0', ⟨[], upd_same, fun x hx => (nomatch hx), Nat.le_refl _, Nat.zero_le _⟩⟩
  · rintro i σ G hi ⟨u, y, rfl, sG, tu⟩
    have ei : (0 : Int) + (i : Int) = (i : Int) := Int.zero_add _
    rw [ei]
    have hg : ns[i]? = some ns[i] := List.getElem?_eq_getElem hi
    have hnle := hle ns[i] (List.getElem_mem hi)
    have hgV : (ns.map fun n : Nat => V.int n)[i]? = some (.int (ns[i] : Nat)) := by rw [List.getElem?_map, hg]; rfl
    have hi2 : i < rs.length := by omega
    have hg2 : rs[i]? = some rs[i] := List.getElem?_eq_getElem hi2
    have hgV2 : (rs.map V.ref)[i]? = some (.ref rs[i]) := by rw [List.getElem?_map, hg2]; rfl
    obtain ⟨e, he, hR⟩ := ha rs[i] (List.getElem_mem hi2)
    generalize ns[i] = m at hg hgV hnle
    generalize rs[i] = z at hg2 hgV2 hR
    refine ⟨_, rfl, _, rfl, i, rfl, num_log (by omega), ?_⟩
    refine ⟨_, rfl, r, _, _, .ref p1, rfl, rfl, SqT.of (sG _ _ hr0), atI_nat (j := 0) rfl, _, rfl, p1, _, _, .int m, rfl, rfl, SqT.of (sG _ _ hp1), atI_nat hgV, m, rfl, num_log (by omega), ?_⟩
    refine ⟨(by show 5 ≤ sizeLine; exact small (by decide)), fun w hw => ?_⟩
    have t5 : LTok (upd G w (.lst [.str "house", .str (Str.ofString (toString (i : Int))), .str "top", .str (Str.ofString (toString (m : Int))), .str ":"])) 5 5 w := by
      refine ⟨["house", Str.ofString (toString (i : Int)), "top", Str.ofString (toString (m : Int)), ":"], upd_same, fun x hx => ?_, by show 5 ≤ 5; decide, by show 5 ≤ 5; decide⟩
      simp only [List.mem_cons, List.not_mem_nil, or_false] at hx
      rcases hx with rfl | rfl | rfl | rfl | rfl
      · exact gta_lit (by decide +kernel)
      · exact gta_num (by omega)
      · exact gta_lit (by decide +kernel)
      · exact gta_num (by omega)
      · exact gta_lit (by decide +kernel)
    have s1 := same_new hw (.lst [.str "house", .str (Str.ofString (toString (i : Int))), .str "top", .str (Str.ofString (toString (m : Int))), .str ":"])
    have hm4 : i * 20006 ≤ 4 * 20006 := Nat.mul_le_mul_right _ (by omega)
    refine LTok.cat (tu.keep s1) t5 (by omega) fun G2 v s2 t2 => ?_
    have s12 := sG.trans (s1.trans s2)
    refine ⟨_, rfl, r, _, _, .ref p2, rfl, rfl, SqT.of (s12 _ _ hr0), atI_nat (j := 1) rfl, _, rfl, p2, _, _, .ref z, rfl, rfl, SqT.of (s12 _ _ hp2), atI_nat hgV2, z, e, rfl, he, hR.keep (TK.of s12), fun G3 x s3 t3 => ?_⟩
    have t3' : LTok G3 1 20000 x := t3
    refine LTok.cat (t2.keep s3) t3' (by omega) fun G4 y4 s4 t4 => ?_
    refine ⟨small (by decide), fun w5 hw5 => ?_⟩
    have s5 := same_new hw5 (.lst [.str ";"])
    have t6 : LTok (upd G4 w5 (.lst [.str ";"])) 1 1 w5 := LTok.lit [";"] (by decide +kernel)
    refine LTok.cat (t4.keep s5) t6 (by omega) fun G6 y6 s6 t7 => ?_
    exact ⟨y6, _, rfl, (((s12.trans s3).trans s4).trans s5).trans s6, t7.wide (by omega) (by rw [Nat.succ_mul]; omega)⟩
  · rintro σ G ⟨u, y, rfl, sG, tu⟩
    have hm4 : ns.length * 20006 ≤ 4 * 20006 := Nat.mul_le_mul_right _ h4
    exact ⟨_, rfl, q _ u sG (tu.wide (by omega) (by omega))⟩
end
end K07

namespace K07
open PySem L2
theorem LTok.apart {H : Hp} {lo hi : Nat} {p d c : Addr} (h : LTok H lo hi p) (hl : 1 ≤ lo) (D : Dl H d c) : p ≠ d ∧ p ≠ c := by
  obtain ⟨ts, e1, _, e3, _⟩ := h
  obtain ⟨ms, b, f1, f2, _⟩ := D.ex
  cases ts with
  | nil => exact absurd e3 (by simp; omega)
  | cons x r =>
    refine ⟨fun z => ?_, fun z => ?_⟩
    · rw [z, f1] at e1
      cases e1
    · rw [z, f2] at e1
      cases ms with
      | nil => cases e1
      | cons m l => cases e1
theorem LTok.bud {H H' : Hp} {lo hi : Nat} {p d c : Addr} (h : LTok H lo hi p) (hl : 1 ≤ lo) (D : Dl H d c) (b : Bud d c H H') : LTok H' lo hi p := by
  have n := h.apart hl D
  obtain ⟨ts, e1, e2⟩ := h
  exact ⟨ts, b _ _ e1 n.1 n.2, e2⟩
def spLGreat : Sp := fun vs H Q _ => ∃ d c : Addr, vs = [.ref d] ∧ Dl H d c ∧ ∀ H' p, Bud d c H H' → Dl H' d c → LTok H' 2 600 p → Q (.ref p) H'
section
variable {P : Program} {u0 : World} {K : PySem.W.Frag} {mg : Str → Option Value} {base : Heap}
abbrev nGR : List Str := ["_law_deal", "_law_form", "_law_near", "_law_rule_here", "_law_deep"]
theorem scGR : FnScope nGR ["_law_deal"] (defScope sLGreat) := ⟨rfl, rfl, rfl, by decide +kernel, rfl, by decide +kernel, by decide +kernel⟩
theorem ok_lGreat {f fA : Addr} {fd fdA : FuncData} (F : Fun K "_law_great" "_law_great" sLGreat f fd) (B : Bl mg) (DA : Df K mg "_law_any" sLAny pLA fA fdA) (GA : FnOk P u0 K mg base CX0 1 fA fdA pLA spLAny) : FnOk P u0 K mg base CX0 2 f fd ["_law_deal"] spLGreat := by
  refine F.ok scGR (fun vs H Q E h => ?_) (fun cdv A outer st H vs Q E hr h => ?_)
  · obtain ⟨_, _, rfl, _⟩ := h
    rfl
  obtain ⟨d, c, rfl, D, q⟩ := h
  refine ⟨_, pss_cons (ps_par (i := 1) (j := 2) rfl scGR.nd rfl rfl (by decide) rfl rfl (pa_cons (pe_call GA hr (by rfl) DA.g DA.kp DA.b .nil pass0 (pa_cons (pv 0) (pa_cons pe_int pa_nil))) (pa_cons (pe_op op_add pe_int (pe_call GA hr (by rfl) DA.g DA.kp DA.b .nil pass0 (pa_cons (pv 0) (pa_cons pe_int pa_nil)))) pa_nil)) (by rfl))
    (Evl.pss_cut (ps_if (pt_cmpR op_eq (pv 1) pe_int (nomark _))
      (pss_one (ps_set (i := 3) scGR.nd rfl (.inl rfl) (pe_op op_cat (pe_op op_cat (pe_lst (pa_cons pe_str (pa_cons pe_str pa_nil))) (pe_op op_rep (pe_lst (pa_cons pe_str (pa_cons pe_str (pa_cons pe_str pa_nil)))) (pe_op op_add pe_int (pe_call GA hr (by rfl) DA.g DA.kp DA.b .nil pass0 (pa_cons (pv 0) (pa_cons pe_int pa_nil)))))) (pe_lst (pa_cons pe_str (pa_cons pe_str (pa_cons pe_str pa_nil)))))))
      (pss_one (ps_if (pt_cmpR op_eq (pv 1) pe_int (nomark _))
        (pss_one (ps_set (i := 3) scGR.nd rfl (.inl rfl) (pe_op op_cat (pe_op op_cat (pe_lst (pa_cons pe_str (pa_cons pe_str pa_nil))) (pe_op op_rep (pe_lst (pa_cons pe_str (pa_cons pe_str pa_nil))) (pe_op op_sub (pv 2) pe_int))) (pe_lst (pa_cons pe_str (pa_cons pe_str pa_nil))))))
        (pss_one (ps_if (pt_cmpR op_eq (pv 1) pe_int (nomark _))
          (pss_cons (ps_set (i := 4) scGR.nd rfl (.inl rfl) (pe_op op_add pe_int (pe_call GA hr (by rfl) DA.g DA.kp DA.b .nil pass0 (pa_cons (pv 0) (pa_cons pe_int pa_nil)))))
          (pss_one (ps_set (i := 3) scGR.nd rfl (.inl rfl) (pe_op op_cat (pe_op op_cat (pe_op op_rep (pe_lst (pa_cons pe_str (pa_cons pe_str (pa_cons pe_str pa_nil)))) (pv 4)) (pe_lst (pa_cons pe_str (pa_cons pe_str pa_nil)))) (pe_op op_rep (pe_lst (pa_cons pe_str pa_nil)) (pv 4))))))
          (pss_one (ps_if (pt_cmpR op_eq (pv 1) pe_int (nomark _))
            (pss_one (ps_set (i := 3) scGR.nd rfl (.inl rfl) (pe_op op_cat (pe_op op_cat (pe_lst (pa_cons pe_str pa_nil)) (pe_op op_rep (pe_lst (pa_cons pe_str pa_nil)) (pe_op op_add pe_int (pe_call GA hr (by rfl) DA.g DA.kp DA.b .nil pass0 (pa_cons (pv 0) (pa_cons pe_int pa_nil)))))) (pe_lst (pa_cons pe_str (pa_cons pe_str (pa_cons pe_str (pa_cons pe_str pa_nil))))))))
            (pss_one (ps_set (i := 3) scGR.nd rfl (.inl rfl) (pe_op op_cat (pe_op op_cat (pe_lst (pa_cons pe_str (pa_cons pe_str pa_nil))) (pe_op op_rep (pe_lst (pa_cons pe_str (pa_cons pe_str pa_nil))) (pe_op op_add pe_int (pe_call GA hr (by rfl) DA.g DA.kp DA.b .nil pass0 (pa_cons (pv 0) (pa_cons pe_int pa_nil))))))
              (pe_lst (pa_cons pe_str (pa_cons pe_str (pa_cons pe_str (pa_cons pe_str (pa_cons pe_str (pa_cons pe_str (pa_cons pe_str (pa_cons pe_str (pa_cons pe_str pa_nil))))))))))))))))))))
    (pss_one (ps_ret (pe_op op_cat (pe_op op_cat (pe_lst (pa_cons pe_str (pa_cons pe_str (pa_cons pe_str (pa_cons pe_str (pa_cons pe_str pa_nil)))))) (pv 3)) (pe_lst (pa_cons pe_str pa_nil)))))), ?_⟩
  refine ⟨_, rfl, d, c, 5, rfl, D, by decide, by decide, fun H1 i b1 D1 hi => ?_⟩
  refine ⟨_, rfl, d, c, 3, rfl, D1, by decide, by decide, fun H2 j b2 D2 hj => ⟨_, _, rfl, rfl, _, _, rfl, ?_⟩⟩
  have b12 := b1.trans b2
  clear b1 b2 D1 D
  refine ⟨fun τ G => ∃ (p : Addr) (y4 : Option V), τ = [some (.ref d), some (.int (i : Int)), some (.int ((59 : Int) + (j : Int))), some (.ref p), y4] ∧ Bud d c H G ∧ Dl G d c ∧ LTok G 1 500 p, ?_, ?_⟩
  · refine ⟨_, rfl, rfl, _, rfl, if2 (fun z => ?_) (fun z => ?_)⟩
    · -- branches
      refine ⟨small (by decide), fun p1 hp1 => ?_⟩
      have s1 := same_new hp1 (.lst [.str "add", .str "("])
      have t1 : LTok (upd H2 p1 (.lst [.str "add", .str "("])) 2 2 p1 := LTok.lit ["add", "("] (by decide +kernel)
      refine ⟨small (by decide), fun p2 hp2 => ?_⟩
      have s2 := same_new hp2 (.lst [.str "of", .str "0", .str ","])
      have t2 : LTok (upd (upd H2 p1 (.lst [.str "add", .str "("])) p2 (.lst [.str "of", .str "0", .str ","])) 3 3 p2 := LTok.lit ["of", "0", ","] (by decide +kernel)
      have D3 := (D2.same s1).same s2
      refine ⟨_, rfl, d, c, 3, rfl, D3, by decide, by decide, fun F k b3 D4 hk => ⟨_, _, rfl, rfl, ?_⟩⟩
      have ek : (10 : Int) + (k : Int) = ((10 + k : Nat) : Int) := by omega
      show rRep (.ref p2) (.int ((10 : Int) + (k : Int))) _ _
      rw [ek]
      have t1' := (t1.keep s2).bud (by decide) D3 b3
      refine LTok.rep (t2.bud (by decide) D3 b3) (by omega) (by decide) fun G4 p4 s4 t4 => ?_
      refine LTok.cat (t1'.keep s4) t4 (by omega) fun G5 p5 s5 t5 => ?_
      refine ⟨small (by decide), fun p6 hp6 => ?_⟩
      have s6 := same_new hp6 (.lst [.str "of", .str "0", .str ")"])
      have t6 : LTok (upd G5 p6 (.lst [.str "of", .str "0", .str ")"])) 3 3 p6 := LTok.lit ["of", "0", ")"] (by decide +kernel)
      refine LTok.cat (t5.keep s6) t6 (by omega) fun G7 p7 s7 t7 => ?_
      have bb : Bud d c H G7 := b12.trans ((Bud.of (s1.trans s2)).trans (b3.trans (Bud.of (((s4.trans s5).trans s6).trans s7))))
      exact ⟨p7, none, rfl, bb, D4.same (((s4.trans s5).trans s6).trans s7), t7.wide (by omega) (by omega)⟩
    refine ⟨_, rfl, rfl, _, rfl, if2 (fun z => ?_) (fun z => ?_)⟩
    · -- sixty
      refine ⟨small (by decide), fun p1 hp1 => ?_⟩
      have s1 := same_new hp1 (.lst [.str "most", .str "("])
      have t1 : LTok (upd H2 p1 (.lst [.str "most", .str "("])) 2 2 p1 := LTok.lit ["most", "("] (by decide +kernel)
      refine ⟨small (by decide), fun p2 hp2 => ?_⟩
      have s2 := same_new hp2 (.lst [.str "1", .str ","])
      have t2 : LTok (upd (upd H2 p1 (.lst [.str "most", .str "("])) p2 (.lst [.str "1", .str ","])) 2 2 p2 := LTok.lit ["1", ","] (by decide +kernel)
      have D3 := (D2.same s1).same s2
      refine ⟨_, rfl, _, _, rfl, rfl, ?_⟩
      have ek : (59 : Int) + (j : Int) - 2 = ((57 + j : Nat) : Int) := by omega
      show rRep (.ref p2) (.int ((59 : Int) + (j : Int) - 2)) _ _
      rw [ek]
      refine LTok.rep t2 (by omega) (by decide) fun G4 p4 s4 t4 => ?_
      refine LTok.cat ((t1.keep s2).keep s4) t4 (by omega) fun G5 p5 s5 t5 => ?_
      refine ⟨small (by decide), fun p6 hp6 => ?_⟩
      have s6 := same_new hp6 (.lst [.str "2", .str ")"])
      have t6 : LTok (upd G5 p6 (.lst [.str "2", .str ")"])) 2 2 p6 := LTok.lit ["2", ")"] (by decide +kernel)
      refine LTok.cat (t5.keep s6) t6 (by omega) fun G7 p7 s7 t7 => ?_
      have bb : Bud d c H G7 := b12.trans (Bud.of ((s1.trans s2).trans (((s4.trans s5).trans s6).trans s7)))
      exact ⟨p7, none, rfl, bb, D3.same (((s4.trans s5).trans s6).trans s7), t7.wide (by omega) (by omega)⟩
    refine ⟨_, rfl, rfl, _, rfl, if2 (fun z => ?_) (fun z => ?_)⟩
    · -- deep
      refine ⟨_, rfl, d, c, 3, rfl, D2, by decide, by decide, fun F k b3 D4 hk => ⟨_, _, rfl, rfl, ?_⟩⟩
      have ek : (6 : Int) + (k : Int) = ((6 + k : Nat) : Int) := by omega
      refine ⟨small (by decide), fun p1 hp1 => ⟨_, rfl, ?_⟩⟩
      have s1 := same_new hp1 (.lst [.str "from", .str "9", .str "("])
      have t1 : LTok (upd F p1 (.lst [.str "from", .str "9", .str "("])) 3 3 p1 := LTok.lit ["from", "9", "("] (by decide +kernel)
      show rRep (.ref p1) (.int ((6 : Int) + (k : Int))) _ _
      rw [ek]
      refine LTok.rep t1 (by omega) (by decide) fun G2 p2 s2 t2 => ?_
      refine ⟨small (by decide), fun p3 hp3 => ?_⟩
      have s3 := same_new hp3 (.lst [.str "of", .str "0"])
      have t3 : LTok (upd G2 p3 (.lst [.str "of", .str "0"])) 2 2 p3 := LTok.lit ["of", "0"] (by decide +kernel)
      refine LTok.cat (t2.keep s3) t3 (by omega) fun G4 p4 s4 t4 => ?_
      refine ⟨small (by decide), fun p5 hp5 => ⟨_, rfl, ?_⟩⟩
      have s5 := same_new hp5 (.lst [.str ")"])
      have t5 : LTok (upd G4 p5 (.lst [.str ")"])) 1 1 p5 := LTok.lit [")"] (by decide +kernel)
      show rRep (.ref p5) (.int ((6 : Int) + (k : Int))) _ _
      rw [ek]
      refine LTok.rep t5 (by omega) (by decide) fun G6 p6 s6 t6 => ?_
      refine LTok.cat ((t4.keep s5).keep s6) t6 (by omega) fun G7 p7 s7 t7 => ?_
      have ss := ((((((s1.trans s2).trans s3).trans s4).trans s5).trans s6).trans s7)
      exact ⟨p7, _, rfl, b12.trans (b3.trans (Bud.of ss)), D4.same ss, t7.wide (by omega) (by omega)⟩
    refine ⟨_, rfl, rfl, _, rfl, if2 (fun z => ?_) (fun z => ?_)⟩
    · -- rows
      refine ⟨small (by decide), fun p1 hp1 => ?_⟩
      have s1 := same_new hp1 (.lst [.str "row"])
      have t1 : LTok (upd H2 p1 (.lst [.str "row"])) 1 1 p1 := LTok.lit ["row"] (by decide +kernel)
      refine ⟨small (by decide), fun p2 hp2 => ?_⟩
      have s2 := same_new hp2 (.lst [.str "5"])
      have t2 : LTok (upd (upd H2 p1 (.lst [.str "row"])) p2 (.lst [.str "5"])) 1 1 p2 := LTok.lit ["5"] (by decide +kernel)
      have D3 := (D2.same s1).same s2
      refine ⟨_, rfl, d, c, 4, rfl, D3, by decide, by decide, fun F k b3 D4 hk => ⟨_, _, rfl, rfl, ?_⟩⟩
      have ek : (62 : Int) + (k : Int) = ((62 + k : Nat) : Int) := by omega
      show rRep (.ref p2) (.int ((62 : Int) + (k : Int))) _ _
      rw [ek]
      have t1' := (t1.keep s2).bud (by decide) D3 b3
      refine LTok.rep (t2.bud (by decide) D3 b3) (by omega) (by decide) fun G4 p4 s4 t4 => ?_
      refine LTok.cat (t1'.keep s4) t4 (by omega) fun G5 p5 s5 t5 => ?_
      refine ⟨small (by decide), fun p6 hp6 => ?_⟩
      have s6 := same_new hp6 (.lst [.str "(", .str "of", .str "0", .str ")"])
      have t6 : LTok (upd G5 p6 (.lst [.str "(", .str "of", .str "0", .str ")"])) 4 4 p6 := LTok.lit ["(", "of", "0", ")"] (by decide +kernel)
      refine LTok.cat (t5.keep s6) t6 (by omega) fun G7 p7 s7 t7 => ?_
      have bb : Bud d c H G7 := b12.trans ((Bud.of (s1.trans s2)).trans (b3.trans (Bud.of (((s4.trans s5).trans s6).trans s7))))
      exact ⟨p7, none, rfl, bb, D4.same (((s4.trans s5).trans s6).trans s7), t7.wide (by omega) (by omega)⟩
    · -- a middle at the end
      refine ⟨small (by decide), fun p1 hp1 => ?_⟩
      have s1 := same_new hp1 (.lst [.str "most", .str "("])
      have t1 : LTok (upd H2 p1 (.lst [.str "most", .str "("])) 2 2 p1 := LTok.lit ["most", "("] (by decide +kernel)
      refine ⟨small (by decide), fun p2 hp2 => ?_⟩
      have s2 := same_new hp2 (.lst [.str "1", .str ","])
      have t2 : LTok (upd (upd H2 p1 (.lst [.str "most", .str "("])) p2 (.lst [.str "1", .str ","])) 2 2 p2 := LTok.lit ["1", ","] (by decide +kernel)
      have D3 := (D2.same s1).same s2
      refine ⟨_, rfl, d, c, 4, rfl, D3, by decide, by decide, fun F k b3 D4 hk => ⟨_, _, rfl, rfl, ?_⟩⟩
      have ek : (53 : Int) + (k : Int) = ((53 + k : Nat) : Int) := by omega
      show rRep (.ref p2) (.int ((53 : Int) + (k : Int))) _ _
      rw [ek]
      have t1' := (t1.keep s2).bud (by decide) D3 b3
      refine LTok.rep (t2.bud (by decide) D3 b3) (by omega) (by decide) fun G4 p4 s4 t4 => ?_
      refine LTok.cat (t1'.keep s4) t4 (by omega) fun G5 p5 s5 t5 => ?_
      refine ⟨small (by decide), fun p6 hp6 => ?_⟩
      have s6 := same_new hp6 (.lst [.str "middle", .str "(", .str "1", .str ",", .str "2", .str ",", .str "3", .str ")", .str ")"])
      have t6 : LTok (upd G5 p6 (.lst [.str "middle", .str "(", .str "1", .str ",", .str "2", .str ",", .str "3", .str ")", .str ")"])) 9 9 p6 := LTok.lit ["middle", "(", "1", ",", "2", ",", "3", ")", ")"] (by decide +kernel)
      refine LTok.cat (t5.keep s6) t6 (by omega) fun G7 p7 s7 t7 => ?_
      have bb : Bud d c H G7 := b12.trans ((Bud.of (s1.trans s2)).trans (b3.trans (Bud.of (((s4.trans s5).trans s6).trans s7))))
      exact ⟨p7, none, rfl, bb, D4.same (((s4.trans s5).trans s6).trans s7), t7.wide (by omega) (by omega)⟩
  rintro τ G ⟨p, y4, rfl, bG, DG, tG⟩
  refine ⟨small (by decide), fun p1 hp1 => ⟨_, rfl, ?_⟩⟩
  have s1 := same_new hp1 (.lst [.str "house", .str "0", .str "top", .str "7", .str ":"])
  have t1 : LTok (upd G p1 (.lst [.str "house", .str "0", .str "top", .str "7", .str ":"])) 5 5 p1 := LTok.lit ["house", "0", "top", "7", ":"] (by decide +kernel)
  refine LTok.cat t1 (tG.keep s1) (by omega) fun G2 p2 s2 t2 => ?_
  refine ⟨small (by decide), fun p3 hp3 => ?_⟩
  have s3 := same_new hp3 (.lst [.str ";"])
  have t3 : LTok (upd G2 p3 (.lst [.str ";"])) 1 1 p3 := LTok.lit [";"] (by decide +kernel)
  refine LTok.cat (t2.keep s3) t3 (by omega) fun G4 p4 s4 t4 => ?_
  have ss := (s1.trans s2).trans (s3.trans s4)
  exact q _ p4 (bG.trans (Bud.of ss)) (DG.same ss) (t4.wide (by omega) (by omega))
end
end K07

namespace K07
open PySem L2
def ODA : List Str := ["house", "top", ":", ";", "(", ")", ",", "of", "0", "1", "19", "20"]
def ODB : List Str := ["1000", "1001", "01", "least", "middle", "clip", "row", "x", "-", "bar", "part"]
def ODD : List Str := ODA ++ ODB
theorem odd_good : ∀ x ∈ ODD, gtaB x = true := by decide +kernel
def reprS : Option Int → Str
  | none => "None"
  | some i => Str.ofString (toString i)
theorem small_log {i : Int} (h : i.natAbs ≤ 1000) : i.natAbs.log2 < 1920 := by
  have e : i.natAbs < 2 ^ 1920 := Nat.lt_of_le_of_lt h (by decide +kernel)
  by_cases z : i.natAbs = 0
  · rw [z]; decide
  · exact (Nat.log2_lt z).mpr e
theorem call_repr2 {X : Cx} : CallR X (.builtin "repr") (fun xs H Q => ∃ o : Option Int, xs = [ansV o] ∧ (∀ i, o = some i → i.natAbs ≤ 1000) ∧ Q (.str (reprS o)) H) := by
  intro pins s σ H xs us Q I r h
  obtain ⟨o, rfl, hb, q⟩ := h
  cases o with
  | none =>
    obtain ⟨u, rfl, ru⟩ := vals1 r
    obtain rfl : u = Value.none := ru
    exact PySem.P.repr_of_none ⟨.str _, H, I.tok _, ⟨_, rfl⟩, q⟩
  | some i =>
    obtain ⟨u, rfl, t, rfl⟩ := vals1 r
    exact PySem.P.repr_of_int (small_log (hb i rfl)) ⟨.str _, H, I.tok _, ⟨_, rfl⟩, q⟩
theorem cut_take {ts : List Str} {k : Nat} (h : k ≤ ts.length) : cutV (ts.map V.str) none (some (k : Int)) = (ts.take k).map V.str := by
  unfold cutV
  have h1 : HT.sIx (ts.map V.str).length 0 none = 0 := rfl
  have h2 : HT.sIx (ts.map V.str).length (ts.map V.str).length (some (k : Int)) = k := by
    rw [HT.sIx_nat, List.length_map]; omega
  rw [h1, h2, List.drop_zero, Nat.sub_zero, List.map_take]
theorem cut_drop {ts : List Str} {k : Nat} (h : k ≤ ts.length) : cutV (ts.map V.str) (some (k : Int)) none = (ts.drop k).map V.str := by
  unfold cutV
  have h1 : HT.sIx (ts.map V.str).length 0 (some (k : Int)) = k := by
    rw [HT.sIx_nat, List.length_map]; omega
  have h2 : HT.sIx (ts.map V.str).length (ts.map V.str).length none = ts.length := by
    show (ts.map V.str).length = ts.length
    rw [List.length_map]
  rw [h1, h2, ← List.map_drop, ← List.map_take, List.take_of_length_le (by rw [List.length_drop]; omega)]
theorem cut_250 (ts : List Str) : cutV (ts.map V.str) none (some (250 : Int)) = (ts.take 250).map V.str := by
  unfold cutV
  have h1 : HT.sIx (ts.map V.str).length 0 none = 0 := rfl
  have h2 : HT.sIx (ts.map V.str).length (ts.map V.str).length (some (250 : Int)) = min 250 ts.length := by
    rw [List.length_map]
    exact HT.sIx_nat _ _ 250
  rw [h1, h2, List.drop_zero, Nat.sub_zero, ← List.map_take]
  congr 1
  exact List.take_eq_take_iff.mpr (by omega)
theorem LTok.apartBud {H H' : Hp} {lo hi : Nat} {p d c : Addr} (h : LTok H lo hi p) (n1 : p ≠ d) (n2 : p ≠ c) (b : Bud d c H H') : LTok H' lo hi p := by
  obtain ⟨ts, e1, e2⟩ := h
  exact ⟨ts, b _ _ e1 n1 n2, e2⟩
theorem GTA.grow {ts : List Str} (h : ∀ x ∈ ts, GTA x) (h1 : 1 ≤ ts.length) (h2 : ts.length ≤ 1000) : GRow ts :=
  ⟨fun x hx => (h x hx).1, fun z => by rw [z] at h1; exact absurd h1 (by decide), h2⟩
theorem sum_le : ∀ ts : List Str, (∀ x ∈ ts, GTA x) → (ts.map (·.length)).sum ≤ 500 * ts.length
  | [], _ => Nat.le_refl _
  | x :: r, h => by
    have h1 := (h x List.mem_cons_self).1.2.len
    have ih := sum_le r fun y hy => h y (List.mem_cons_of_mem _ hy)
    rw [List.map_cons, List.sum_cons, List.length_cons]
    omega
def spLaw (K : PySem.W.Frag) : Sp := fun vs H Q _ => ∃ (a : Addr) (ns : List Int), vs = [.ref a] ∧ SqL K H a (ns.map V.int) ∧ ∀ H', Q (.bl true) H'
section
variable {P : Program} {u0 : World} {K : PySem.W.Frag} {mg : Str → Option Value} {base : Heap}
abbrev nTH : List Str := ["_law_script", "_law_deal", "_law_odd", "_law_turn", "_law_row", "_law_at", "_law_form"]
theorem scTH : FnScope nTH ["_law_script"] (defScope sLaw) := ⟨rfl, rfl, rfl, by decide +kernel, rfl, by decide +kernel, by decide +kernel⟩
theorem ok_law {f fD fA fO fN fT fG fR fH : Addr} {fd fdD fdA fdO fdN fdT fdG fdR fdH : FuncData} (F : Fun K "law" "law" sLaw f fd) (B : Bl mg)
    (DD : Df K mg "_law_draw" sLDraw pLW fD fdD) (GD : FnOk P u0 K mg base CX0 1 fD fdD pLW (spLDraw K)) (DA : Df K mg "_law_any" sLAny pLA fA fdA) (GA : FnOk P u0 K mg base CX0 1 fA fdA pLA spLAny)
    (DO : Df K mg "_law_of" sLOf nLO fO fdO) (GO : FnOk P u0 K mg base CX0 2 fO fdO nLO (spLOf K)) (DN : Df K mg "_law_net" sLNet pNE fN fdN) (GN : FnOk P u0 K mg base CX0 7 fN fdN pNE spLNet)
    (DT : Df K mg "_law_net_tokens" sLNetTokens ["_law_net_here"] fT fdT) (GT : FnOk P u0 K mg base CX0 6 fT fdT ["_law_net_here"] spLNetTok) (DG : Df K mg "_law_great" sLGreat ["_law_deal"] fG fdG) (GG : FnOk P u0 K mg base CX0 2 fG fdG ["_law_deal"] spLGreat)
    (DR : Df K mg "_law_read" sLRead ["_law_text"] fR fdR) (GR : FnOk P u0 K mg base CX0 24 fR fdR ["_law_text"] spLRead) (DH : Df K mg "_law_reach" sLReach ["_law_row"] fH fdH) (GH : FnOk P u0 K mg base CX0 12 fH fdH ["_law_row"] spLReach) :
    FnOk P u0 K mg base CX0 25 f fd ["_law_script"] (spLaw K) := by
  refine F.ok scTH (fun vs H Q E h => ?_) (fun cdv A outer st H vs Q E hr h => ?_)
  · obtain ⟨_, _, rfl, _⟩ := h
    rfl
  obtain ⟨a, ns, rfl, ha, q⟩ := h
  have hr1 : Room 1 _ := hr.mono (by decide)
  have hr2 : Room 2 _ := hr.mono (by decide)
  have hr6 : Room 6 _ := hr.mono (by decide)
  have hr7 : Room 7 _ := hr.mono (by decide)
  have hr12 : Room 12 _ := hr.mono (by decide)
  refine ⟨_, pss_cons (ps_set (i := 1) scTH.nd rfl (.inl rfl) (pe_call GD hr1 (by rfl) DD.g DD.kp DD.b .nil pass0 (pa_cons (pv 0) (pa_cons pe_int pa_nil))))
    (pss_cons (ps_set (i := 2) scTH.nd rfl (.inl rfl) (pe_lst (pa_cons pe_str (pa_cons pe_str (pa_cons pe_str (pa_cons pe_str (pa_cons pe_str (pa_cons pe_str (pa_cons pe_str (pa_cons pe_str (pa_cons pe_str (pa_cons pe_str (pa_cons pe_str (pa_cons pe_str (pa_cons pe_str (pa_cons pe_str (pa_cons pe_str (pa_cons pe_str (pa_cons pe_str (pa_cons pe_str (pa_cons pe_str (pa_cons pe_str (pa_cons pe_str (pa_cons pe_str (pa_cons pe_str pa_nil)))))))))))))))))))))))))
    (pss_cons (ps_for PassesOwn.never rfl (pi_range1 (by rfl) B.range (pa_cons pe_int pa_nil)) (pg_name (i := 3) scTH.nd rfl (.inl rfl))
      (pss_cons (ps_set (i := 4) scTH.nd rfl (.inl rfl) (pe_call GT hr6 (by rfl) DT.g DT.kp DT.b .nil pass0 (pa_cons (pe_call GN hr7 (by rfl) DN.g DN.kp DN.b .nil pass0 (pa_cons (pv 1) (pa_cons pe_int (pa_cons pe_int (pa_cons pe_bl pa_nil))))) pa_nil)))
      (Evl.pss_cut (ps_set (i := 4) scTH.nd rfl (.inl rfl) (pe_ifExp (pt_cmpR op_eq (pe_call GA hr1 (by rfl) DA.g DA.kp DA.b .nil pass0 (pa_cons (pv 1) (pa_cons pe_int pa_nil))) pe_int (nomark _))
          (pe_call GG hr2 (by rfl) DG.g DG.kp DG.b .nil pass0 (pa_cons (pv 1) pa_nil)) (pe_slice sl_list (pv 4) po_none (po_some pe_int))))
      (pss_cons (ps_par (i := 5) (j := 6) rfl scTH.nd rfl rfl (by decide) rfl rfl (pa_cons (pe_call GA hr1 (by rfl) DA.g DA.kp DA.b .nil pass0 (pa_cons (pv 1) (pa_cons (pe_callB call_len_seq (by rfl) B.len PySem.boot_len (pa_cons (pv 4) pa_nil)) pa_nil)))
          (pa_cons (pe_call GA hr1 (by rfl) DA.g DA.kp DA.b .nil pass0 (pa_cons (pv 1) (pa_cons pe_int pa_nil))) pa_nil)) (by rfl))
      (Evl.pss_cut (ps_if (pt_cmpR op_eq (pv 6) pe_int (nomark _))
          (pss_one (ps_set (i := 4) scTH.nd rfl (.inl rfl) (pe_op op_cat (pe_slice sl_list (pv 4) po_none (po_some (pv 5))) (pe_slice sl_list (pv 4) (po_some (pe_op op_add (pv 5) pe_int)) po_none))))
          (pss_one (ps_if (pt_cmpR op_lt (pv 6) pe_int (nomark _))
            (pss_one (ps_set (i := 4) scTH.nd rfl (.inl rfl) (pe_op op_cat (pe_op op_cat (pe_slice sl_list (pv 4) po_none (po_some (pv 5))) (pe_lst (pa_cons (pe_call GO hr2 (by rfl) DO.g DO.kp DO.b .nil pass0 (pa_cons (pv 1) (pa_cons (pv 2) pa_nil))) pa_nil))) (pe_slice sl_list (pv 4) (po_some (pe_op op_add (pv 5) pe_int)) po_none))))
            (pss_one (ps_if (pt_cmpR op_eq (pv 6) pe_int (nomark _))
              (pss_one (ps_set (i := 4) scTH.nd rfl (.inl rfl) (pe_op op_cat (pe_op op_cat (pe_slice sl_list (pv 4) po_none (po_some (pv 5))) (pe_lst (pa_cons (pe_call GO hr2 (by rfl) DO.g DO.kp DO.b .nil pass0 (pa_cons (pv 1) (pa_cons (pv 2) pa_nil))) pa_nil))) (pe_slice sl_list (pv 4) (po_some (pv 5)) po_none))))
              pss_nil)))))
      (pss_one (ps_if (pt_cmpR op_ne (pe_callB call_repr2 (by rfl) B.repr (by decide +kernel) (pa_cons (pe_call GR hr (by rfl) DR.g DR.kp DR.b .nil pass0 (pa_cons (pe_join pe_str (pv 4)) pa_nil)) pa_nil))
          (pe_callB call_repr2 (by rfl) B.repr (by decide +kernel) (pa_cons (pe_call GH hr12 (by rfl) DH.g DH.kp DH.b .nil pass0 (pa_cons (pv 4) pa_nil)) pa_nil)) (by rfl)) (pss_one (ps_ret pe_bl)) pss_nil)))))))
    (pss_one (ps_ret pe_bl)))), ?_⟩
  refine ⟨_, rfl, a, ns, 7, rfl, ha, by decide, fun H1 d c s1 D1 => ?_⟩
  refine ⟨small (by decide), fun o ho => ?_⟩
  have so := same_new ho (.lst (ODD.map V.str))
  have no := D1.new ho
  refine ⟨4, rfl, by omega, by decide, ?_⟩
  refine for_range (lo := 0) (n := 4) (fun i σ G => ∃ (y3 y4 y5 y6 : Option V), σ = [some (.ref a), some (.ref d), some (.ref o), y3, y4, y5, y6] ∧ Dl G d c ∧ G o = some (.lst (ODD.map V.str))) ?_ ?_ ?_
  · exact ⟨none, none, none, none, rfl, D1.same so, upd_same⟩
  · rintro i σ G hi ⟨y3, y4, y5, y6, rfl, DG, hoG⟩
    -- a drawn row
    refine ⟨_, rfl, d, c, rfl, DG, fun G1 r b1 D1 hnet => ?_⟩
    refine ⟨r, rfl, hnet, fun G2 p s2 t2 => ?_⟩
    have D2 := D1.same s2
    have ho2 := s2 _ _ (b1 _ _ hoG no.1 no.2)
    have t2' : LTok G2 2 100000 p := t2
    clear DG hoG b1 s2 D1 hnet t2
    refine ⟨fun τ G => ∃ p, τ = [some (.ref a), some (.ref d), some (.ref o), some (.int (0 + (i : Int))), some (.ref p), y5, y6] ∧ Dl G d c ∧ G o = some (.lst (ODD.map V.str)) ∧ LTok G 2 600 p, ?_, ?_⟩
    · refine ⟨_, rfl, d, c, 4, rfl, D2, by decide, by decide, fun G3 j b3 D3 hj => ⟨rfl, _, rfl, if2 (fun z => ?_) (fun z => ?_)⟩⟩
      · refine ⟨_, rfl, d, c, rfl, D3, fun G4 p4 b4 D4 t4 => ?_⟩
        exact ⟨p4, rfl, D4, b4 _ _ (b3 _ _ ho2 no.1 no.2) no.1 no.2, t4⟩
      · obtain ⟨ts, e1, e2, e3, e4⟩ := t2'.bud (by decide) D2 b3
        refine ⟨_, rfl, (250 : Int), rfl, p, _, rfl, SqL.of e1, fun p4 hp4 => ?_⟩
        rw [cut_250]
        have s4 := same_new hp4 (.lst ((ts.take 250).map V.str))
        refine ⟨p4, rfl, D3.same s4, s4 _ _ (b3 _ _ ho2 no.1 no.2), ts.take 250, upd_same, fun x hx => e2 x (List.mem_of_mem_take hx), ?_, ?_⟩
        · rw [List.length_take]; omega
        · rw [List.length_take]; omega
    rintro τ G4 ⟨p4, rfl, D4, ho4, t4⟩
    clear t2' D2 ho2
    -- at, form
    obtain ⟨ts, e1, e2, e3, e4⟩ := t4
    refine ⟨_, rfl, _, rfl, p4, _, rfl, .inl (SqL.of e1), d, c, (ts.map V.str).length, rfl, D4, by rw [List.length_map]; omega, by rw [List.length_map]; omega, fun G5 k b5 D5 hk => ?_⟩
    rw [List.length_map] at hk
    refine ⟨_, rfl, d, c, 5, rfl, D5, by decide, by decide, fun G6 m b6 D6 hm => ⟨_, _, rfl, ?_⟩⟩
    have b56 := b5.trans b6
    have n4 := (show LTok G4 2 600 p4 from ⟨ts, e1, e2, e3, e4⟩).apart (by decide) D4
    have e6 := b56 _ _ e1 n4.1 n4.2
    have ho6 := b56 _ _ ho4 no.1 no.2
    clear b5 b6 b56 D5 D4 e1 ho4
    refine ⟨fun τ G => ∃ p, τ = [some (.ref a), some (.ref d), some (.ref o), some (.int (0 + (i : Int))), some (.ref p), some (.int (k : Int)), some (.int (m : Int))] ∧ Dl G d c ∧ G o = some (.lst (ODD.map V.str)) ∧ LTok G 1 700 p, ?_, ?_⟩
    · -- the changes
      have ek : (k : Int) + 1 = ((k + 1 : Nat) : Int) := by omega
      -- row[:at]
      have g1 : ∀ x ∈ ts.take k, GTA x := fun x hx => e2 x (List.mem_of_mem_take hx)
      have l1 : (ts.take k).length = k := by rw [List.length_take]; omega
      refine ⟨_, rfl, rfl, _, rfl, if2 (fun z => ?_) (fun z => ?_)⟩
      · refine ⟨_, rfl, _, rfl, (k : Int), rfl, p4, _, rfl, SqL.of e6, fun p7 hp7 => ?_⟩
        rw [cut_take (by omega)]
        have s7 := same_new hp7 (.lst ((ts.take k).map V.str))
        have t7 : LTok (upd G6 p7 (.lst ((ts.take k).map V.str))) k k p7 := ⟨ts.take k, upd_same, g1, by omega, by omega⟩
        refine ⟨_, rfl, _, rfl, _, _, rfl, rfl, (k : Int) + 1, rfl, p4, _, rfl, SqL.of (s7 _ _ e6), fun p8 hp8 => ?_⟩
        rw [ek, cut_drop (by omega)]
        have s8 := same_new hp8 (.lst ((ts.drop (k + 1)).map V.str))
        have t8 : LTok (upd (upd G6 p7 (.lst ((ts.take k).map V.str))) p8 (.lst ((ts.drop (k + 1)).map V.str))) (ts.length - (k + 1)) (ts.length - (k + 1)) p8 :=
          ⟨ts.drop (k + 1), upd_same, fun x hx => e2 x (List.mem_of_mem_drop hx), by rw [List.length_drop]; omega, by rw [List.length_drop]; omega⟩
        refine LTok.cat (t7.keep s8) t8 (by omega) fun G9 p9 s9 t9 => ?_
        have ss := (s7.trans s8).trans s9
        exact ⟨p9, rfl, D6.same ss, ss _ _ ho6, t9.wide (by omega) (by omega)⟩
      have middle : ∀ (Q : VK), (∀ G p, Dl G d c → G o = some (.lst (ODD.map V.str)) → G p4 = some (.lst (ts.map V.str)) → LTok G (k + 1) (k + 1) p → Q (.ref p) G) →
          tOp rCat (tSl (rSlL K) (tVar 4) tNoPart (tPart (tVar 5))) (tLst (tCons (tCall (spLOf K) [] E0 (tCons (tVar 1) (tCons (tVar 2) tNil))) tNil)) [some (.ref a), some (.ref d), some (.ref o), some (.int (0 + (i : Int))), some (.ref p4), some (.int (k : Int)), some (.int (m : Int))] G6 Q := fun Q hQ => by
        refine ⟨_, rfl, _, rfl, (k : Int), rfl, p4, _, rfl, SqL.of e6, fun p7 hp7 => ?_⟩
        rw [cut_take (by omega)]
        have s7 := same_new hp7 (.lst ((ts.take k).map V.str))
        have t7 : LTok (upd G6 p7 (.lst ((ts.take k).map V.str))) k k p7 := ⟨ts.take k, upd_same, g1, by omega, by omega⟩
        have n7 := D6.new hp7
        have D7 := D6.same s7
        refine ⟨_, rfl, _, rfl, d, c, o, ODD.map V.str, rfl, D7, s7 _ _ ho6, no.1, no.2, (by decide), (by decide), fun G8 x b8 D8 hx => ?_⟩
        obtain ⟨y, hy, rfl⟩ := List.mem_map.mp hx
        refine ⟨(by show 1 ≤ sizeLine; exact small (by decide)), fun p9 hp9 => ?_⟩
        have s9 := same_new hp9 (.lst [.str y])
        have t9 : LTok (upd G8 p9 (.lst [.str y])) 1 1 p9 := LTok.lit [y] fun x hx => by rw [List.mem_singleton.mp hx]; exact odd_good y hy
        refine LTok.cat ((t7.apartBud n7.1 n7.2 b8).keep s9) t9 (by omega) fun G10 p10 s10 t10 => ?_
        have s11 := s9.trans s10
        exact hQ _ _ (D8.same s11) (s11 _ _ (b8 _ _ (s7 _ _ ho6) no.1 no.2)) (s11 _ _ (b8 _ _ (s7 _ _ e6) n4.1 n4.2)) t10
      refine ⟨_, rfl, _, _, rfl, rfl, _, rfl, if2 (fun z => ?_) (fun z => ?_)⟩
      · refine middle _ fun G p D hO hP tp => ?_
        refine ⟨_, rfl, _, rfl, _, _, rfl, rfl, (k : Int) + 1, rfl, p4, _, rfl, SqL.of hP, fun p8 hp8 => ?_⟩
        rw [ek, cut_drop (by omega)]
        have s8 := same_new hp8 (.lst ((ts.drop (k + 1)).map V.str))
        have t8 : LTok (upd G p8 (.lst ((ts.drop (k + 1)).map V.str))) (ts.length - (k + 1)) (ts.length - (k + 1)) p8 :=
          ⟨ts.drop (k + 1), upd_same, fun x hx => e2 x (List.mem_of_mem_drop hx), by rw [List.length_drop]; omega, by rw [List.length_drop]; omega⟩
        refine LTok.cat (tp.keep s8) t8 (by omega) fun G9 p9 s9 t9 => ?_
        have ss := s8.trans s9
        exact ⟨p9, rfl, D.same ss, ss _ _ hO, t9.wide (by omega) (by omega)⟩
      refine ⟨_, rfl, rfl, _, rfl, if2 (fun z => ?_) (fun z => ?_)⟩
      · refine middle _ fun G p D hO hP tp => ?_
        refine ⟨_, rfl, _, rfl, (k : Int), rfl, p4, _, rfl, SqL.of hP, fun p8 hp8 => ?_⟩
        rw [cut_drop (by omega)]
        have s8 := same_new hp8 (.lst ((ts.drop k).map V.str))
        have t8 : LTok (upd G p8 (.lst ((ts.drop k).map V.str))) (ts.length - k) (ts.length - k) p8 :=
          ⟨ts.drop k, upd_same, fun x hx => e2 x (List.mem_of_mem_drop hx), by rw [List.length_drop]; omega, by rw [List.length_drop]; omega⟩
        refine LTok.cat (tp.keep s8) t8 (by omega) fun G9 p9 s9 t9 => ?_
        have ss := s8.trans s9
        exact ⟨p9, rfl, D.same ss, ss _ _ hO, t9.wide (by omega) (by omega)⟩
      · exact ⟨p4, rfl, D6, ho6, ts, e6, e2, by omega, by omega⟩
    rintro τ G7 ⟨p7, rfl, D7, ho7, zs, f1, f2, f3, f4⟩
    clear e6 e2 D6 ho6
    -- the two answers
    have hsum := sum_le zs f2
    have e1 : (" " : Str).length = 1 := by decide +kernel
    have gr := GTA.grow f2 f3 (by omega)
    refine ⟨⟨_, rfl⟩, _, rfl, " ", p7, zs, rfl, rfl, .inl (SqL.of f1), by rw [e1]; omega, zs, rfl, gr, fun G8 s8 hb => ?_⟩
    refine ⟨pAns zs, rfl, hb, ?_⟩
    refine ⟨_, rfl, p7, zs, rfl, s8 _ _ f1, gr.tk, fun x hx => (f2 x hx).2, by omega, fun G9 s9 => ?_⟩
    have ea : lAns zs = pAns zs := plain_law.symm
    rw [ea]
    refine ⟨pAns zs, rfl, hb, ?_⟩
    refine ⟨rfl, _, rfl, ?_⟩
    refine ifF (by rw [decide_eq_true rfl]; rfl) ?_
    have ss := s8.trans s9
    exact ⟨_, _, _, _, rfl, D7.same ss, ss _ _ ho7⟩
  · rintro σ G ⟨y3, y4, y5, y6, rfl, DG, hoG⟩
    exact q _
end
end K07

namespace K07
open PySem L2 PySem.W PyProof.Rows
/-- a def stands there -/
def Has (K : PySem.W.Frag) (mg : Str → Option Value) (x : Str) (st : Stmt) (ps : List Str) : Prop := ∃ f fd, Df K mg x st ps f fd
theorem has_mk {K : PySem.W.Frag} {h : Heap} {mg : Str → Option Value} {x : Str} {st : Stmt} {ps : List Str} {f : Addr} {oc : Value} {od an : Option Addr} {osl : Array (Option Value)} {kV doc pm cdv ct : Value} (X : K.In h) (G : h.Ns mainGlobals mg)
    (hb : ∀ (kV doc pm : Value) (an : Option Addr) (cdv ct : Value) (us : List Value), us.length = ps.length → bindArgs (PySem.W.fnOf x x (defArgs st) (defBody st) (defScope st) .none kV doc pm an cdv ct) ⟨us, []⟩ = pure (ps.zip us))
    (a : PySem.W.nsIn K mainGlobals x = some (some (.ref f))) (l : K.lookup f = some ⟨oc, od, .func (PySem.W.fnOf x x (defArgs st) (defBody st) (defScope st) .none kV doc pm an cdv ct), osl⟩)
    (c : PySem.W.codeIn K cdv x = true) (k : PySem.W.keepIn K (.ref f) = true) : Has K mg x st ps :=
  ⟨f, _, fun_mk l c k, (fun_mk l c k).binds hb, PySem.W.mg_of X G a⟩

theorem all_ok {P : Program} {w : World} {K : PySem.W.Frag} {mg : Str → Option Value} {C fI : Addr} (B : Bl mg) (CC : Cst K w mg) (T : Own.Inv P K mg C fI)
    (h_skipped : Has K mg "skipped" sSkipped pSK)
    (h_tokEnd : Has K mg "token_end" sTokEnd pSK)
    (h_tokPlaces : Has K mg "token_places" sTokPlaces ["text"])
    (h_tokensOf : Has K mg "tokens_of" sTokensOf ["text"])
    (h_isNumeral : Has K mg "is_numeral" sIsNumeral ["token"])
    (h_taken : Has K mg "taken" sTaken pTK)
    (h_numeral : Has K mg "numeral" sNumeral pNM)
    (h_wordsLet : Has K mg "words_let" sWordsLet pWL)
    (h_readList : Has K mg "read_list" sReadList pRL)
    (h_readMiddle : Has K mg "read_middle" sReadMiddle pRR)
    (h_readRow : Has K mg "read_row" sReadRow ["world"])
    (h_readNumbers : Has K mg "read_numbers" sReadNumbers pRN)
    (h_readOne : Has K mg "read_one" sReadOne pRL)
    (h_readRule : Has K mg "read_rule" sReadRule pRR)
    (h_readHouse : Has K mg "read_house" sReadHouse pRH)
    (h_walked : Has K mg "walked" sWalked ["tokens"])
    (h_readNet : Has K mg "read_net" sReadNet ["text"])
    (h_lDraw : Has K mg "_law_draw" sLDraw pLW)
    (h_lAny : Has K mg "_law_any" sLAny pLA)
    (h_lOf : Has K mg "_law_of" sLOf nLO)
    (h_lRule : Has K mg "_law_rule" sLRule pDR)
    (h_lNet : Has K mg "_law_net" sLNet pNE)
    (h_lParts : Has K mg "_law_parts" sLParts ["_law_rule_here"])
    (h_lRuleTokens : Has K mg "_law_rule_tokens" sLRuleTokens ["_law_rule_here"])
    (h_lNetTokens : Has K mg "_law_net_tokens" sLNetTokens ["_law_net_here"])
    (h_lRead : Has K mg "_law_read" sLRead ["_law_text"])
    (h_lNumber : Has K mg "_law_number" sLNumber pLN)
    (h_lEat : Has K mg "_law_eat" sLEat pLE)
    (h_lGoRule : Has K mg "_law_go_rule" sLGoRule pLU)
    (h_lGoNumbers : Has K mg "_law_go_numbers" sLGoNumbers pLG)
    (h_lReach : Has K mg "_law_reach" sLReach ["_law_row"])
    (h_lGreat : Has K mg "_law_great" sLGreat ["_law_deal"])
    {f : Addr} {fd : FuncData} (F : Fun K "law" "law" sLaw f fd) : ∀ base : Heap, FnOk P w K mg base CX0 25 f fd ["_law_script"] (spLaw K) := by
  intro base
  obtain ⟨f_skipped, fd_skipped, d_skipped⟩ := h_skipped
  obtain ⟨f_tokEnd, fd_tokEnd, d_tokEnd⟩ := h_tokEnd
  obtain ⟨f_tokPlaces, fd_tokPlaces, d_tokPlaces⟩ := h_tokPlaces
  obtain ⟨f_tokensOf, fd_tokensOf, d_tokensOf⟩ := h_tokensOf
  obtain ⟨f_isNumeral, fd_isNumeral, d_isNumeral⟩ := h_isNumeral
  obtain ⟨f_taken, fd_taken, d_taken⟩ := h_taken
  obtain ⟨f_numeral, fd_numeral, d_numeral⟩ := h_numeral
  obtain ⟨f_wordsLet, fd_wordsLet, d_wordsLet⟩ := h_wordsLet
  obtain ⟨f_readList, fd_readList, d_readList⟩ := h_readList
  obtain ⟨f_readMiddle, fd_readMiddle, d_readMiddle⟩ := h_readMiddle
  obtain ⟨f_readRow, fd_readRow, d_readRow⟩ := h_readRow
  obtain ⟨f_readNumbers, fd_readNumbers, d_readNumbers⟩ := h_readNumbers
  obtain ⟨f_readOne, fd_readOne, d_readOne⟩ := h_readOne
  obtain ⟨f_readRule, fd_readRule, d_readRule⟩ := h_readRule
  obtain ⟨f_readHouse, fd_readHouse, d_readHouse⟩ := h_readHouse
  obtain ⟨f_walked, fd_walked, d_walked⟩ := h_walked
  obtain ⟨f_readNet, fd_readNet, d_readNet⟩ := h_readNet
  obtain ⟨f_lDraw, fd_lDraw, d_lDraw⟩ := h_lDraw
  obtain ⟨f_lAny, fd_lAny, d_lAny⟩ := h_lAny
  obtain ⟨f_lOf, fd_lOf, d_lOf⟩ := h_lOf
  obtain ⟨f_lRule, fd_lRule, d_lRule⟩ := h_lRule
  obtain ⟨f_lNet, fd_lNet, d_lNet⟩ := h_lNet
  obtain ⟨f_lParts, fd_lParts, d_lParts⟩ := h_lParts
  obtain ⟨f_lRuleTokens, fd_lRuleTokens, d_lRuleTokens⟩ := h_lRuleTokens
  obtain ⟨f_lNetTokens, fd_lNetTokens, d_lNetTokens⟩ := h_lNetTokens
  obtain ⟨f_lRead, fd_lRead, d_lRead⟩ := h_lRead
  obtain ⟨f_lNumber, fd_lNumber, d_lNumber⟩ := h_lNumber
  obtain ⟨f_lEat, fd_lEat, d_lEat⟩ := h_lEat
  obtain ⟨f_lGoRule, fd_lGoRule, d_lGoRule⟩ := h_lGoRule
  obtain ⟨f_lGoNumbers, fd_lGoNumbers, d_lGoNumbers⟩ := h_lGoNumbers
  obtain ⟨f_lReach, fd_lReach, d_lReach⟩ := h_lReach
  obtain ⟨f_lGreat, fd_lGreat, d_lGreat⟩ := h_lGreat
  have g_skipped := ok_skipped (P := P) (u0 := w) (base := base) d_skipped.fn B
  have g_tokEnd := ok_tokEnd (P := P) (u0 := w) (base := base) d_tokEnd.fn B CC
  have g_tokPlaces := ok_tokPlaces d_tokPlaces.fn B d_skipped g_skipped d_tokEnd g_tokEnd
  have g_tokensOf := ok_tokensOf d_tokensOf.fn B d_tokPlaces g_tokPlaces d_tokEnd g_tokEnd
  have g_isNumeral := ok_isNumeral (P := P) (w := w) (base := base) d_isNumeral.fn B
  have g_taken := ok_taken d_taken.fn B d_isNumeral g_isNumeral
  have g_numeral := ok_numeral d_numeral.fn B d_taken g_taken
  have g_wordsLet := ok_wordsLet (P := P) (w := w) (base := base) d_wordsLet.fn B CC
  have g_readRow := ok_readRow d_readRow.fn B CC d_taken g_taken d_numeral g_numeral
  have g_readNumbers := ok_readNumbers d_readNumbers.fn B CC d_taken g_taken d_numeral g_numeral
  have g_readRule := rule_all B CC d_readRule d_taken g_taken d_isNumeral g_isNumeral d_numeral g_numeral d_wordsLet g_wordsLet d_readRow g_readRow d_readNumbers g_readNumbers d_readList d_readMiddle d_readOne 8
  have g_readHouse := ok_readHouse d_readHouse.fn CC d_taken g_taken d_numeral g_numeral d_readRule g_readRule
  have g_walked := ok_walked d_walked.fn B CC d_taken g_taken d_readHouse g_readHouse
  have g_readNet := ok_readNet d_readNet.fn B T d_tokensOf g_tokensOf d_walked g_walked
  have g_lRead := ok_lRead d_lRead.fn B T d_readNet g_readNet
  have g_lNumber := ok_lNum (P := P) (u0 := w) (base := base) d_lNumber.fn B
  have g_lEat := ok_lEat d_lEat.fn B d_lNumber g_lNumber
  have g_lGoNumbers := ok_lGoNum d_lGoNumbers.fn B d_lEat g_lEat
  have g_lGoRule := lRule_all B d_lGoRule d_lEat g_lEat d_lGoNumbers g_lGoNumbers 8
  have g_lReach := ok_lReach d_lReach.fn B d_lEat g_lEat d_lGoRule g_lGoRule
  have g_lDraw := ok_lDraw (P := P) (u0 := w) (base := base) d_lDraw.fn B
  have g_lAny := ok_lAny (P := P) (u0 := w) (base := base) d_lAny.fn B
  have g_lOf := ok_lOf d_lOf.fn B d_lAny g_lAny
  have g_lRule := dAny (dRule_all B d_lRule d_lAny g_lAny d_lOf g_lOf)
  have g_lNet := ok_lNet d_lNet.fn B d_lAny g_lAny d_lRule g_lRule
  have g_lRuleTokens := rtAny (lRT_all (P := P) (u0 := w) (base := base) B d_lRuleTokens d_lParts)
  have g_lNetTokens := ok_lNetTok d_lNetTokens.fn B d_lRuleTokens g_lRuleTokens
  have g_lGreat := ok_lGreat d_lGreat.fn B d_lAny g_lAny
  exact ok_law F B d_lDraw g_lDraw d_lAny g_lAny d_lOf g_lOf d_lNet g_lNet d_lNetTokens g_lNetTokens d_lGreat g_lGreat d_lRead g_lRead d_lReach g_lReach
/-- the end's promise -/
theorem law_mk {P : Program} {w : World} {K : PySem.W.Frag} {h : Heap} {mg : Str → Option Value} {fa f : Addr} {oc : Value} {od an : Option Addr} {osl : Array (Option Value)} {kV doc pm cdv ct : Value} (X : K.In h) (G : h.Ns mainGlobals mg) (hfa : mg "law" = some (.ref fa))
    (a : PySem.W.nsIn K mainGlobals "law" = some (some (.ref f))) (l : K.lookup f = some ⟨oc, od, .func (PySem.W.fnOf "law" "law" (defArgs sLaw) (defBody sLaw) (defScope sLaw) .none kV doc pm an cdv ct), osl⟩)
    (c : PySem.W.codeIn K cdv "law" = true) (k : PySem.W.keepIn K (.ref f) = true) (ok : ∀ (f : Addr) (fd : FuncData), Fun K "law" "law" sLaw f fd → ∀ base : Heap, FnOk P w K mg base CX0 25 f fd ["_law_script"] (spLaw K)) :
    ∃ fd : FuncData, (∀ (s : Shared) (u : Value), BindsTo s fd ⟨[u], []⟩ [("_law_script", u)]) ∧ ∀ base : Heap, K.In base → base.Ns mainGlobals mg → FnOk P w K mg base CX0 25 fa fd ["_law_script"] (spLaw K) := by
  have e := hfa.symm.trans (PySem.W.mg_of X G a)
  cases e
  exact ⟨_, fun s u => .of_eq rfl, fun base _ _ => ok _ _ (fun_mk l c k) base⟩
theorem walk_law {l : PySem.W.OpenLaw} {q : Program} {loose : List Str} {XP : (Str → Option Value) → Heap → Prop} {YP : World → Heap → Prop} {d : DefRec} {K : Params → PySem.W.Frag} (hn : l.most = some 63) (hdf : d.params.defaults = []) (hY : ∀ (w : World) (h : Heap), YP w h → (K w.params).In h)
    (F : ∀ (w : World) (mg : Str → Option Value) (fa : Addr) (h : Heap), (K w.params).In h → h.Ns mainGlobals mg → mg d.name = some (.ref fa) →
      ∃ fd : FuncData, (∀ (s : Shared) (u : Value), BindsTo s fd ⟨[u], []⟩ [("_law_script", u)]) ∧
        ∀ base : Heap, (K w.params).In base → base.Ns mainGlobals mg → FnOk l.prog w (K w.params) mg base CX0 25 fa fd ["_law_script"] (spLaw (K w.params))) :
    PySem.W.WalkO q loose XP YP l.row.toRowW d [] (fun f vs => PySem.call f vs) :=
  L2.walk_ofB (n := 63) (k := 25) (x := "_law_script") (CX := fun _ => CX0) (sp := fun w => spLaw (K w.params)) hn (by decide) hdf ⟨rfl, by decide, by decide⟩ hY F
    (fun w H a ns _ _ _ hS => ⟨a, ns, rfl, hS, fun _ => rfl⟩) (fun _ _ _ _ _ z => z)
/-! the facts of the written part, one after the other (Z: what is wanted) -/
theorem step_def {K : PySem.W.Frag} {h : Heap} {mg : Str → Option Value} {Z : Prop} (x : Str) (st : Stmt) (ps : List Str) {f : Addr} {oc : Value} {od an : Option Addr} {osl : Array (Option Value)} {kV doc pm cdv ct : Value} (X : K.In h) (G : h.Ns mainGlobals mg)
    (hb : ∀ (kV doc pm : Value) (an : Option Addr) (cdv ct : Value) (us : List Value), us.length = ps.length → bindArgs (PySem.W.fnOf x x (defArgs st) (defBody st) (defScope st) .none kV doc pm an cdv ct) ⟨us, []⟩ = pure (ps.zip us))
    (a : PySem.W.nsIn K mainGlobals x = some (some (.ref f))) (l : K.lookup f = some ⟨oc, od, .func (PySem.W.fnOf x x (defArgs st) (defBody st) (defScope st) .none kV doc pm an cdv ct), osl⟩)
    (c : PySem.W.codeIn K cdv x = true) (k : PySem.W.keepIn K (.ref f) = true) (next : Has K mg x st ps → Z) : Z := next (has_mk X G hb a l c k)
theorem step_bl {K : PySem.W.Frag} {h : Heap} {mg : Str → Option Value} {Z : Prop} (X : K.In h) (G : h.Ns mainGlobals mg)
    (b1 : PySem.W.nsIn K mainGlobals "len" = some none) (b2 : PySem.W.nsIn K mainGlobals "range" = some none) (b3 : PySem.W.nsIn K mainGlobals "int" = some none) (b4 : PySem.W.nsIn K mainGlobals "str" = some none)
    (b5 : PySem.W.nsIn K mainGlobals "tuple" = some none) (b6 : PySem.W.nsIn K mainGlobals "list" = some none) (b7 : PySem.W.nsIn K mainGlobals "all" = some none) (b8 : PySem.W.nsIn K mainGlobals "max" = some none)
    (b9 : PySem.W.nsIn K mainGlobals "abs" = some none) (b10 : PySem.W.nsIn K mainGlobals "isinstance" = some none) (b11 : PySem.W.nsIn K mainGlobals "repr" = some none) (b12 : PySem.W.nsIn K mainGlobals "sorted" = some none)
    (b13 : PySem.W.nsIn K mainGlobals "enumerate" = some none) (next : Bl mg → Z) : Z :=
  next ⟨mg_none_of X G b1, mg_none_of X G b2, mg_none_of X G b3, mg_none_of X G b4, mg_none_of X G b5, mg_none_of X G b6, mg_none_of X G b7, mg_none_of X G b8, mg_none_of X G b9, mg_none_of X G b10, mg_none_of X G b11, mg_none_of X G b12, mg_none_of X G b13⟩
theorem step_cst {K : PySem.W.Frag} {w : World} {h : Heap} {mg : Str → Option Value} {Z : Prop} {t1 t2 t3 t4 t5 t6 t7 : Tok} {aL aN : Addr} {o : Obj} {its : Array Value} {n m : Nat} {es : Array DictEntry} {v1 v2 v3 v4 v5 v6 : Value} (X : K.In h) (G : h.Ns mainGlobals mg)
    (c1 : PySem.W.nsIn K mainGlobals "MOST" = some (some (.int 1001 t1))) (c2 : PySem.W.nsIn K mainGlobals "MOST_BRANCHES" = some (some (.int 12 t2))) (c3 : PySem.W.nsIn K mainGlobals "MOST_PARTS" = some (some (.int 60 t3)))
    (c4 : PySem.W.nsIn K mainGlobals "MOST_DEEP" = some (some (.int 8 t4))) (c5 : PySem.W.nsIn K mainGlobals "MOST_ROW" = some (some (.int 64 t5))) (c6 : PySem.W.nsIn K mainGlobals "MOST_HOUSES" = some (some (.int 20 t6)))
    (c7 : PySem.W.nsIn K mainGlobals "WORD_SIGNS" = some (some (.str "abcdefghijklmnopqrstuvwxyzABCDEFGHIJKLMNOPQRSTUVWXYZ0123456789_" t7)))
    (l1 : PySem.W.nsIn K mainGlobals "LISTS" = some (some (.ref aL))) (l2 : K.lookup aL = some o) (l3 : o.cls = .type "tuple") (l4 : o.data = .seq its n) (l5 : its.size ≤ 1000) (l6 : Vals (LISTS.map V.str) its.toList)
    (d1 : PySem.W.nsIn K mainGlobals "NUMBERED" = some (some (.ref aN))) (d2 : K.lookup aN = some ⟨.type "dict", none, .dict es m, #[]⟩) (d3 : (aN == sysModules) = false) (d4 : es.size ≤ 1000) (d5 : Vals (ONES.map V.str) (es.toList.map (·.key))) (d6 : KeysLit w.params es.toList)
    (e1 : PySem.W.nsIn K aN "times" = some (some v1)) (e2 : PySem.W.nsIn K aN "part" = some (some v2)) (e3 : PySem.W.nsIn K aN "clip" = some (some v3)) (e4 : PySem.W.nsIn K aN "from" = some (some v4)) (e5 : PySem.W.nsIn K aN "bar" = some (some v5)) (e6 : PySem.W.nsIn K aN "row" = some (some v6))
    (r1 : RelV (.int 1) v1) (r2 : RelV (.int 1) v2) (r3 : RelV (.int 2) v3) (r4 : RelV (.int 1) v4) (r5 : RelV (.int 3) v5) (r6 : RelV (.int 0) v6) (next : Cst K w mg → Z) : Z :=
  next ⟨⟨_, mg_of X G c1⟩, ⟨_, mg_of X G c2⟩, ⟨_, mg_of X G c3⟩, ⟨_, mg_of X G c4⟩, ⟨_, mg_of X G c5⟩, ⟨_, mg_of X G c6⟩, ⟨_, mg_of X G c7⟩, ⟨aL, mg_of X G l1, fun H => .inr ⟨o, its, n, l2, l3, l4, small l5, l6⟩⟩,
    ⟨aN, mg_of X G d1, ⟨es, m, d2, d3, d4, d5⟩, fun x hx => by
      simp only [List.mem_cons, List.not_mem_nil, or_false] at hx
      rcases hx with rfl | rfl | rfl | rfl | rfl | rfl
      · exact ⟨es, m, _, d2, d6, e1, r1⟩
      · exact ⟨es, m, _, d2, d6, e2, r2⟩
      · exact ⟨es, m, _, d2, d6, e3, r3⟩
      · exact ⟨es, m, _, d2, d6, e4, r4⟩
      · exact ⟨es, m, _, d2, d6, e5, r5⟩
      · exact ⟨es, m, _, d2, d6, e6, r6⟩⟩⟩
theorem exm_self {K : PySem.W.Frag} {S : Addr} (h1 : PySem.W.subIn K (.ref S) (.type "BaseException") = some true) (h2 : PySem.W.isClsIn K S = true) (h3 : PySem.W.typeIn K (.ref S) = some (.type "type")) (h4 : PySem.W.subIn K (.ref S) (.ref S) = some true) :
    PySem.W.exmOne K (.ref S) (.ref S) = some true := by
  have e1 : (PySem.W.subIn K (.ref S) (.type "BaseException") == some true) = true := by rw [h1] <;> rfl
  have e2 : ((PySem.W.clsIn K S).isSome && PySem.W.typeIn K (.ref S) == some (.type "type")) = true := by
    have h2' : (PySem.W.clsIn K S).isSome = true := h2
    rw [h2', h3] <;> rfl
  show (if (PySem.W.subIn K (.ref S) (.type "BaseException") == some true) = true then (if ((PySem.W.clsIn K S).isSome && PySem.W.typeIn K (.ref S) == some (.type "type")) = true then PySem.W.subIn K (.ref S) (.ref S) else none) else none) = some true
  rw [if_pos e1, if_pos e2]
  exact h4
theorem step_exc {P : Program} {K : PySem.W.Frag} {h : Heap} {mg : Str → Option Value} {Z : Prop} {C fI Q cda cc : Addr} {nm q : Str} {N : Addr} {bs : List Value} {sn : List Str} {sub : List Value} {ab : Bool} {col : Option Bool} {dd : Option Addr} {m0 m1 m2 m3 m5 : Option Value}
    {oc : Value} {od : Option Addr} {doc pm : Value} {an : Option Addr} {ct : Value} {osl : Array (Option Value)} {ccl : Value} {cdd : Option Addr} {vs : Array Value} {ccs : Array (Option Value)} {file : Str} {tf : Tok} {cl : Value} {cld : Option Addr} {csl : Array (Option Value)} (X : K.In h) (G : h.Ns mainGlobals mg)
    (aC : PySem.W.nsIn K mainGlobals "InvalidText" = some (some (.ref C))) (aS : PySem.W.nsIn K mainGlobals "super" = some none)
    (xL : K.lookup C = some (excClassObj nm q C N bs [.ref Q, .type "ValueError", .type "Exception", .type "BaseException", .type "object"] true sn sub ab col dd m0 m1 m2 m3 m5 "ValueError.__new__"))
    (sa : PySem.W.findIn K (.ref C) "__setattr__" = some (some (.builtin "object.__setattr__"))) (ga : PySem.W.findIn K (.ref C) "__getattribute__" = some (some (.builtin "BaseException.__getattribute__"))) (gg : PySem.W.findIn K (.ref C) "__getattr__" = some none)
    (nb : PySem.W.findIn K (.ref C) "at" = some none) (iC : PySem.W.findIn K (.ref C) "__init__" = some (some (.ref fI))) (tF : PySem.W.typeIn K (.ref fI) = some (.type "function")) (kC : PySem.W.keepIn K (.ref C) = true)
    (eC : PySem.W.subIn K (.ref C) (.type "BaseException") = some true) (vC : PySem.W.subIn K (.ref C) (.type "ValueError") = some true) (tC : PySem.W.typeIn K (.ref C) = some (.type "type")) (hC : PySem.W.hasDictIn K C = true)
    (isC : PySem.W.isClsIn K C = true) (sC : PySem.W.subIn K (.ref C) (.ref C) = some true) (mC : PySem.W.mroIn K C (.ref C) = some true) (th : PySem.W.nsIn K cStatics "thirdparty.any" = some none)
    (al : PySem.W.ks_superIn K C C "__init__" = some (some (.builtin "ValueError.__init__")))
    (lf : K.lookup fI = some ⟨oc, od, .func (Own.iFn doc pm an (.ref cda) ct cc), osl⟩) (cf : PySem.W.codeIn K (.ref cda) "InvalidText.__init__" = true) (lc : K.lookup cda = some ⟨ccl, cdd, .fields vs, ccs⟩) (lv : vs[2]? = some (.str file tf)) (le : ((P.main.file : Str) == file) = true)
    (ll : K.lookup cc = some ⟨cl, cld, .cell (some (.ref C)), csl⟩) (ns : (P.main.scope.names.lookup ("super" : Str)).isSome = false) (next : Own.Inv P K mg C fI → Z) : Z :=
  next ⟨mg_of X G aC, mg_none_of X G aS, ⟨nm, q, N, bs, _, sn, sub, ab, col, dd, m0, m1, m2, m3, m5, xL, rfl⟩, sa, ga, gg, nb, iC, tF, kC, eC, vC, tC, hC, exm_self eC isC tC sC, mC, th, al,
    ⟨_, _, _, _, _, _, _, _, _, lf, cf, ⟨_, _, _, _, _, _, lc, lv, le⟩, ⟨_, _, _, ll⟩⟩, ns⟩
end K07

open PySem PySem.W PyProof.Rows
set_option maxRecDepth 100000 in
set_option maxHeartbeats 0 in
theorem PySem.Challenge.cw_newsbehind_k07_whole_first_wrong_tokens_holds : PySem.Challenge.rw_newsbehind_k07_whole_first_wrong_tokens.Holds := by
  w_on; o_law; k_head; (case hw => w_witness2); k_fill
  refine K07.walk_law (l := PySem.Challenge.rw_newsbehind_k07_whole_first_wrong_tokens) rfl rfl (fun w h Y => PySem.W.kIn_of Y) ?F
  case F =>
    intro w mg fa h KX G hmg
    refine' K07.step_def "skipped" K07.sSkipped K07.pSK KX G ?b ?a ?l ?c ?k (fun h_skipped => ?_)
    (case b => exact fun _ _ _ _ _ _ us hl => match us, hl with | [_, _], _ => rfl)
    (case a => k_is); (case l => k_is); (case c => k_is); (case k => k_is)
    refine' K07.step_def "token_end" K07.sTokEnd K07.pSK KX G ?b ?a ?l ?c ?k (fun h_tokEnd => ?_)
    (case b => exact fun _ _ _ _ _ _ us hl => match us, hl with | [_, _], _ => rfl)
    (case a => k_is); (case l => k_is); (case c => k_is); (case k => k_is)
    refine' K07.step_def "token_places" K07.sTokPlaces ["text"] KX G ?b ?a ?l ?c ?k (fun h_tokPlaces => ?_)
    (case b => exact fun _ _ _ _ _ _ us hl => match us, hl with | [_], _ => rfl)
    (case a => k_is); (case l => k_is); (case c => k_is); (case k => k_is)
    refine' K07.step_def "tokens_of" K07.sTokensOf ["text"] KX G ?b ?a ?l ?c ?k (fun h_tokensOf => ?_)
    (case b => exact fun _ _ _ _ _ _ us hl => match us, hl with | [_], _ => rfl)
    (case a => k_is); (case l => k_is); (case c => k_is); (case k => k_is)
    refine' K07.step_def "is_numeral" K07.sIsNumeral ["token"] KX G ?b ?a ?l ?c ?k (fun h_isNumeral => ?_)
    (case b => exact fun _ _ _ _ _ _ us hl => match us, hl with | [_], _ => rfl)
    (case a => k_is); (case l => k_is); (case c => k_is); (case k => k_is)
    refine' K07.step_def "taken" K07.sTaken K07.pTK KX G ?b ?a ?l ?c ?k (fun h_taken => ?_)
    (case b => exact fun _ _ _ _ _ _ us hl => match us, hl with | [_, _, _, _], _ => rfl)
    (case a => k_is); (case l => k_is); (case c => k_is); (case k => k_is)
    refine' K07.step_def "numeral" K07.sNumeral K07.pNM KX G ?b ?a ?l ?c ?k (fun h_numeral => ?_)
    (case b => exact fun _ _ _ _ _ _ us hl => match us, hl with | [_, _, _], _ => rfl)
    (case a => k_is); (case l => k_is); (case c => k_is); (case k => k_is)
    refine' K07.step_def "words_let" K07.sWordsLet K07.pWL KX G ?b ?a ?l ?c ?k (fun h_wordsLet => ?_)
    (case b => exact fun _ _ _ _ _ _ us hl => match us, hl with | [_, _], _ => rfl)
    (case a => k_is); (case l => k_is); (case c => k_is); (case k => k_is)
    refine' K07.step_def "read_list" K07.sReadList K07.pRL KX G ?b ?a ?l ?c ?k (fun h_readList => ?_)
    (case b => exact fun _ _ _ _ _ _ us hl => match us, hl with | [_, _, _], _ => rfl)
    (case a => k_is); (case l => k_is); (case c => k_is); (case k => k_is)
    refine' K07.step_def "read_middle" K07.sReadMiddle K07.pRR KX G ?b ?a ?l ?c ?k (fun h_readMiddle => ?_)
    (case b => exact fun _ _ _ _ _ _ us hl => match us, hl with | [_, _], _ => rfl)
    (case a => k_is); (case l => k_is); (case c => k_is); (case k => k_is)
    refine' K07.step_def "read_row" K07.sReadRow ["world"] KX G ?b ?a ?l ?c ?k (fun h_readRow => ?_)
    (case b => exact fun _ _ _ _ _ _ us hl => match us, hl with | [_], _ => rfl)
    (case a => k_is); (case l => k_is); (case c => k_is); (case k => k_is)
    refine' K07.step_def "read_numbers" K07.sReadNumbers K07.pRN KX G ?b ?a ?l ?c ?k (fun h_readNumbers => ?_)
    (case b => exact fun _ _ _ _ _ _ us hl => match us, hl with | [_, _], _ => rfl)
    (case a => k_is); (case l => k_is); (case c => k_is); (case k => k_is)
    refine' K07.step_def "read_one" K07.sReadOne K07.pRL KX G ?b ?a ?l ?c ?k (fun h_readOne => ?_)
    (case b => exact fun _ _ _ _ _ _ us hl => match us, hl with | [_, _, _], _ => rfl)
    (case a => k_is); (case l => k_is); (case c => k_is); (case k => k_is)
    refine' K07.step_def "read_rule" K07.sReadRule K07.pRR KX G ?b ?a ?l ?c ?k (fun h_readRule => ?_)
    (case b => exact fun _ _ _ _ _ _ us hl => match us, hl with | [_, _], _ => rfl)
    (case a => k_is); (case l => k_is); (case c => k_is); (case k => k_is)
    refine' K07.step_def "read_house" K07.sReadHouse K07.pRH KX G ?b ?a ?l ?c ?k (fun h_readHouse => ?_)
    (case b => exact fun _ _ _ _ _ _ us hl => match us, hl with | [_, _], _ => rfl)
    (case a => k_is); (case l => k_is); (case c => k_is); (case k => k_is)
    refine' K07.step_def "walked" K07.sWalked ["tokens"] KX G ?b ?a ?l ?c ?k (fun h_walked => ?_)
    (case b => exact fun _ _ _ _ _ _ us hl => match us, hl with | [_], _ => rfl)
    (case a => k_is); (case l => k_is); (case c => k_is); (case k => k_is)
    refine' K07.step_def "read_net" K07.sReadNet ["text"] KX G ?b ?a ?l ?c ?k (fun h_readNet => ?_)
    (case b => exact fun _ _ _ _ _ _ us hl => match us, hl with | [_], _ => rfl)
    (case a => k_is); (case l => k_is); (case c => k_is); (case k => k_is)
    refine' K07.step_def "_law_draw" K07.sLDraw K07.pLW KX G ?b ?a ?l ?c ?k (fun h_lDraw => ?_)
    (case b => exact fun _ _ _ _ _ _ us hl => match us, hl with | [_, _], _ => rfl)
    (case a => k_is); (case l => k_is); (case c => k_is); (case k => k_is)
    refine' K07.step_def "_law_any" K07.sLAny K07.pLA KX G ?b ?a ?l ?c ?k (fun h_lAny => ?_)
    (case b => exact fun _ _ _ _ _ _ us hl => match us, hl with | [_, _], _ => rfl)
    (case a => k_is); (case l => k_is); (case c => k_is); (case k => k_is)
    refine' K07.step_def "_law_of" K07.sLOf K07.nLO KX G ?b ?a ?l ?c ?k (fun h_lOf => ?_)
    (case b => exact fun _ _ _ _ _ _ us hl => match us, hl with | [_, _], _ => rfl)
    (case a => k_is); (case l => k_is); (case c => k_is); (case k => k_is)
    refine' K07.step_def "_law_rule" K07.sLRule K07.pDR KX G ?b ?a ?l ?c ?k (fun h_lRule => ?_)
    (case b => exact fun _ _ _ _ _ _ us hl => match us, hl with | [_, _, _, _, _], _ => rfl)
    (case a => k_is); (case l => k_is); (case c => k_is); (case k => k_is)
    refine' K07.step_def "_law_net" K07.sLNet K07.pNE KX G ?b ?a ?l ?c ?k (fun h_lNet => ?_)
    (case b => exact fun _ _ _ _ _ _ us hl => match us, hl with | [_, _, _, _], _ => rfl)
    (case a => k_is); (case l => k_is); (case c => k_is); (case k => k_is)
    refine' K07.step_def "_law_parts" K07.sLParts ["_law_rule_here"] KX G ?b ?a ?l ?c ?k (fun h_lParts => ?_)
    (case b => exact fun _ _ _ _ _ _ us hl => match us, hl with | [_], _ => rfl)
    (case a => k_is); (case l => k_is); (case c => k_is); (case k => k_is)
    refine' K07.step_def "_law_rule_tokens" K07.sLRuleTokens ["_law_rule_here"] KX G ?b ?a ?l ?c ?k (fun h_lRuleTokens => ?_)
    (case b => exact fun _ _ _ _ _ _ us hl => match us, hl with | [_], _ => rfl)
    (case a => k_is); (case l => k_is); (case c => k_is); (case k => k_is)
    refine' K07.step_def "_law_net_tokens" K07.sLNetTokens ["_law_net_here"] KX G ?b ?a ?l ?c ?k (fun h_lNetTokens => ?_)
    (case b => exact fun _ _ _ _ _ _ us hl => match us, hl with | [_], _ => rfl)
    (case a => k_is); (case l => k_is); (case c => k_is); (case k => k_is)
    refine' K07.step_def "_law_read" K07.sLRead ["_law_text"] KX G ?b ?a ?l ?c ?k (fun h_lRead => ?_)
    (case b => exact fun _ _ _ _ _ _ us hl => match us, hl with | [_], _ => rfl)
    (case a => k_is); (case l => k_is); (case c => k_is); (case k => k_is)
    refine' K07.step_def "_law_number" K07.sLNumber K07.pLN KX G ?b ?a ?l ?c ?k (fun h_lNumber => ?_)
    (case b => exact fun _ _ _ _ _ _ us hl => match us, hl with | [_, _, _], _ => rfl)
    (case a => k_is); (case l => k_is); (case c => k_is); (case k => k_is)
    refine' K07.step_def "_law_eat" K07.sLEat K07.pLE KX G ?b ?a ?l ?c ?k (fun h_lEat => ?_)
    (case b => exact fun _ _ _ _ _ _ us hl => match us, hl with | [_, _, _, _], _ => rfl)
    (case a => k_is); (case l => k_is); (case c => k_is); (case k => k_is)
    refine' K07.step_def "_law_go_rule" K07.sLGoRule K07.pLU KX G ?b ?a ?l ?c ?k (fun h_lGoRule => ?_)
    (case b => exact fun _ _ _ _ _ _ us hl => match us, hl with | [_, _], _ => rfl)
    (case a => k_is); (case l => k_is); (case c => k_is); (case k => k_is)
    refine' K07.step_def "_law_go_numbers" K07.sLGoNumbers K07.pLG KX G ?b ?a ?l ?c ?k (fun h_lGoNumbers => ?_)
    (case b => exact fun _ _ _ _ _ _ us hl => match us, hl with | [_, _], _ => rfl)
    (case a => k_is); (case l => k_is); (case c => k_is); (case k => k_is)
    refine' K07.step_def "_law_reach" K07.sLReach ["_law_row"] KX G ?b ?a ?l ?c ?k (fun h_lReach => ?_)
    (case b => exact fun _ _ _ _ _ _ us hl => match us, hl with | [_], _ => rfl)
    (case a => k_is); (case l => k_is); (case c => k_is); (case k => k_is)
    refine' K07.step_def "_law_great" K07.sLGreat ["_law_deal"] KX G ?b ?a ?l ?c ?k (fun h_lGreat => ?_)
    (case b => exact fun _ _ _ _ _ _ us hl => match us, hl with | [_], _ => rfl)
    (case a => k_is); (case l => k_is); (case c => k_is); (case k => k_is)
    refine' K07.step_bl KX G ?b1 ?b2 ?b3 ?b4 ?b5 ?b6 ?b7 ?b8 ?b9 ?b10 ?b11 ?b12 ?b13 (fun hB => ?_)
    (case b1 => k_is); (case b2 => k_is); (case b3 => k_is); (case b4 => k_is); (case b5 => k_is); (case b6 => k_is); (case b7 => k_is); (case b8 => k_is); (case b9 => k_is); (case b10 => k_is); (case b11 => k_is); (case b12 => k_is); (case b13 => k_is)
    refine' K07.step_cst (w := w) KX G ?c1 ?c2 ?c3 ?c4 ?c5 ?c6 ?c7 ?l1 ?l2 ?l3 ?l4 ?l5 ?l6 ?d1 ?d2 ?d3 ?d4 ?d5 ?d6 ?e1 ?e2 ?e3 ?e4 ?e5 ?e6 ?r1 ?r2 ?r3 ?r4 ?r5 ?r6 (fun hC => ?_)
    (case c1 => k_is); (case c2 => k_is); (case c3 => k_is); (case c4 => k_is); (case c5 => k_is); (case c6 => k_is); (case c7 => k_is)
    (case l1 => k_is); (case l2 => k_is); (case l3 => rfl); (case l4 => rfl); (case l5 => decide); (case l6 => exact .cons ⟨_, rfl⟩ (.cons ⟨_, rfl⟩ (.cons ⟨_, rfl⟩ .nil)))
    (case d1 => k_is); (case d2 => k_is); (case d3 => decide); (case d4 => exact (by show 6 ≤ 1000; decide)); (case d5 => exact .cons ⟨_, rfl⟩ (.cons ⟨_, rfl⟩ (.cons ⟨_, rfl⟩ (.cons ⟨_, rfl⟩ (.cons ⟨_, rfl⟩ (.cons ⟨_, rfl⟩ .nil))))))
    (case d6 => exact ⟨⟨_, _, rfl, rfl⟩, ⟨_, _, rfl, rfl⟩, ⟨_, _, rfl, rfl⟩, ⟨_, _, rfl, rfl⟩, ⟨_, _, rfl, rfl⟩, ⟨_, _, rfl, rfl⟩, True.intro⟩)
    (case e1 => k_is); (case e2 => k_is); (case e3 => k_is); (case e4 => k_is); (case e5 => k_is); (case e6 => k_is)
    (case r1 => exact ⟨_, rfl⟩); (case r2 => exact ⟨_, rfl⟩); (case r3 => exact ⟨_, rfl⟩); (case r4 => exact ⟨_, rfl⟩); (case r5 => exact ⟨_, rfl⟩); (case r6 => exact ⟨_, rfl⟩)
    refine' K07.step_exc (P := PySem.Challenge.rw_newsbehind_k07_whole_first_wrong_tokens.prog) KX G ?x_aC ?x_aS ?x_xL ?x_sa ?x_ga ?x_gg ?x_nb ?x_iC ?x_tF ?x_kC ?x_eC ?x_vC ?x_tC ?x_hC ?x_isC ?x_sC ?x_mC ?x_th ?x_al ?x_lf ?x_cf ?x_lc ?x_lv ?x_le ?x_ll ?x_ns (fun hT => ?_)
    (case x_aC => k_is)
    (case x_aS => k_is)
    (case x_xL => k_is)
    (case x_sa => k_is)
    (case x_ga => k_is)
    (case x_gg => k_is)
    (case x_nb => k_is)
    (case x_iC => k_is)
    (case x_tF => k_is)
    (case x_kC => k_is)
    (case x_eC => k_is)
    (case x_vC => k_is)
    (case x_tC => k_is)
    (case x_hC => k_is)
    (case x_isC => k_is)
    (case x_sC => first | rfl | k_is)
    (case x_mC => first | rfl | k_is)
    (case x_th => k_is)
    (case x_al => first | rfl | k_is)
    (case x_lf => k_is)
    (case x_cf => k_is)
    (case x_lc => k_is)
    (case x_lv => rfl)
    (case x_le => first | rfl | decide +kernel)
    (case x_ll => k_is)
    (case x_ns => first | rfl | decide +kernel)
    refine' K07.law_mk KX G hmg ?a ?l ?c ?k (fun f fd F base => K07.all_ok hB hC hT h_skipped h_tokEnd h_tokPlaces h_tokensOf h_isNumeral h_taken h_numeral h_wordsLet h_readList h_readMiddle h_readRow h_readNumbers h_readOne h_readRule h_readHouse h_walked h_readNet h_lDraw h_lAny h_lOf h_lRule h_lNet h_lParts h_lRuleTokens h_lNetTokens h_lRead h_lNumber h_lEat h_lGoRule h_lGoNumbers h_lReach h_lGreat F base)
    (case a => k_is); (case l => k_is); (case c => k_is); (case k => k_is)
#print axioms PySem.Challenge.cw_newsbehind_k07_whole_first_wrong_tokens_holds
