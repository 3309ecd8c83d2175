import PyProof.Rows.All
import Wide.All
import OpenK.AllK
import Wide.FinOn
import KE.KStateDown
import HandS.ForMost
import HandS.ForExc
import HandS.TryMany
import HandS.ExcIs
import HandS.IsInst
import HandS.SortInts
import HandS.Conv
import HandS.Defaults
import HandS.WordsExc
import HandS.Deep
import HandS.More
import HandS.Style
import HandS.TupAny
import HandS.Head0
import HandS.Head1
import HandS.Head2
import HandS.HeadEnd
import HandS.HeadHook1
import HandS.HeadHook2
import HandS.TupMul
import HandS.Strs
import HandS.SetFor
import PySem.Challenge.RW_greyhall_k08_whole_hall_by_hand
set_option Elab.async false
set_option linter.all false
set_option maxRecDepth 100000
set_option maxHeartbeats 0
/-! The plain theory of the hall, part A: things by their places, gaps, the store of values. -/
namespace G

/-- a value: a number, or a thing that is held, by its place -/
inductive Vl where
  | num (n : Int)
  | held (p : Int)
deriving DecidableEq
inductive Col where
  | white | grey | black
deriving DecidableEq
inductive Ph where
  | idle | mark | sweep
deriving DecidableEq
structure Th where
  fs : List Vl
  col : Col
/-- things by places, rising -/
abbrev Mem := List (Int × Th)
def wd (t : Th) : Int := 2 + (t.fs.length : Int)
theorem wd_pos (t : Th) : 2 ≤ wd t := by unfold wd; omega

def get : Mem → Int → Option Th
  | [], _ => none
  | x :: r, p => if x.1 = p then some x.2 else get r p
def modT (m : Mem) (p : Int) (f : Th → Th) : Mem := m.map fun x => if x.1 = p then (x.1, f x.2) else x
def del (m : Mem) (p : Int) : Mem := m.filter fun x => decide (x.1 ≠ p)
def ins (p : Int) (t : Th) : Mem → Mem
  | [] => [(p, t)]
  | x :: r => if p < x.1 then (p, t) :: x :: r else x :: ins p t r
/-- from a to z things lie without touching, in order -/
def Lay (z : Int) : Int → Mem → Prop
  | a, [] => a ≤ z
  | a, x :: r => a ≤ x.1 ∧ x.2.fs.length ≤ 6 ∧ Lay z (x.1 + wd x.2) r

theorem lay_le {z : Int} : ∀ {m : Mem} {a : Int}, Lay z a m → a ≤ z
  | [], a, h => h
  | x :: r, a, h => by
    obtain ⟨h1, h2, h3⟩ := h
    have := lay_le h3
    have := wd_pos x.2
    omega
theorem lay_mono {z a b : Int} {m : Mem} (h : Lay z b m) (hab : a ≤ b) : Lay z a m := by
  cases m with
  | nil => exact Int.le_trans hab h
  | cons x r => exact ⟨Int.le_trans hab h.1, h.2⟩
theorem lay_ge {z : Int} : ∀ {m : Mem} {a : Int}, Lay z a m → ∀ x ∈ m, a ≤ x.1 ∧ x.1 + wd x.2 ≤ z ∧ x.2.fs.length ≤ 6
  | [], a, _, x, hx => by cases hx
  | y :: r, a, h, x, hx => by
    obtain ⟨h1, h2, h3⟩ := h
    rcases List.mem_cons.mp hx with e | hx
    · subst e
      exact ⟨h1, lay_le h3, h2⟩
    · have k := lay_ge h3 x hx
      have := wd_pos y.2
      exact ⟨by omega, k.2⟩
theorem get_mem {m : Mem} {p : Int} {t : Th} (h : get m p = some t) : (p, t) ∈ m := by
  induction m with
  | nil => cases h
  | cons x r ih =>
    unfold get at h
    split at h
    · rename_i e
      cases h
      subst e
      exact List.mem_cons_self
    · exact List.mem_cons_of_mem _ (ih h)
theorem get_none_of {m : Mem} {p : Int} (h : ∀ x ∈ m, x.1 ≠ p) : get m p = none := by
  induction m with
  | nil => rfl
  | cons x r ih =>
    unfold get
    rw [if_neg (h x List.mem_cons_self)]
    exact ih fun y hy => h y (List.mem_cons_of_mem _ hy)
theorem mem_get {z : Int} : ∀ {m : Mem} {a : Int}, Lay z a m → ∀ {p : Int} {t : Th}, (p, t) ∈ m → get m p = some t
  | [], _, _, _, _, h => by cases h
  | x :: r, a, hl, p, t, h => by
    unfold get
    rcases List.mem_cons.mp h with e | h
    · subst e
      exact if_pos rfl
    · have := (lay_ge hl.2.2 _ h).1
      have := wd_pos x.2
      rw [if_neg (by show ¬ x.1 = p; simp at *; omega)]
      exact mem_get hl.2.2 h
theorem get_lt {z a p : Int} {m : Mem} (h : Lay z a m) (hp : p < a) : get m p = none :=
  get_none_of fun x hx e => by have := (lay_ge h x hx).1; omega
theorem lay_get {z a p : Int} {m : Mem} {t : Th} (h : Lay z a m) (g : get m p = some t) : a ≤ p ∧ p + wd t ≤ z ∧ t.fs.length ≤ 6 := lay_ge h _ (get_mem g)
/-- two things do not overlap -/
theorem lay_sep {z : Int} : ∀ {m : Mem} {a : Int}, Lay z a m → ∀ {p q : Int} {t u : Th}, get m p = some t → get m q = some u → p < q → p + wd t ≤ q
  | [], _, _, _, _, _, _, h, _, _ => by cases h
  | x :: r, a, hl, p, q, t, u, h, h', hpq => by
    unfold get at h h'
    by_cases e : x.1 = p
    · rw [if_pos e] at h
      cases h
      rw [if_neg (by omega)] at h'
      have := (lay_get hl.2.2 h').1
      omega
    · rw [if_neg e] at h
      by_cases e' : x.1 = q
      · have := (lay_get hl.2.2 h).1
        have := wd_pos x.2
        omega
      · rw [if_neg e'] at h'
        exact lay_sep hl.2.2 h h' hpq

theorem get_modT (m : Mem) (p q : Int) (f : Th → Th) : get (modT m p f) q = if q = p then (get m q).map f else get m q := by
  induction m with
  | nil => simp [modT, get]
  | cons x r ih =>
    show get ((if x.1 = p then (x.1, f x.2) else x) :: modT r p f) q = _
    by_cases e : x.1 = p
    · rw [if_pos e]
      by_cases e2 : x.1 = q
      · simp [get, e2, show q = p by omega]
      · simp only [get, if_neg e2, ih]
    · rw [if_neg e]
      by_cases e2 : x.1 = q
      · simp only [get, if_pos e2, if_neg (show ¬ q = p by omega)]
      · simp only [get, if_neg e2, ih]
theorem lay_modT {z : Int} {f : Th → Th} (hf : ∀ t, (f t).fs.length = t.fs.length) (p : Int) : ∀ {m : Mem} {a : Int}, Lay z a m → Lay z a (modT m p f)
  | [], _, h => h
  | x :: r, a, h => by
    have ih := lay_modT hf p h.2.2
    show Lay z a ((if x.1 = p then (x.1, f x.2) else x) :: modT r p f)
    by_cases e : x.1 = p
    · rw [if_pos e]
      exact ⟨h.1, by rw [hf]; exact h.2.1, by show Lay z (x.1 + wd (f x.2)) _; unfold wd; rw [hf]; exact ih⟩
    · rw [if_neg e]
      exact ⟨h.1, h.2.1, ih⟩
theorem get_del (m : Mem) (p q : Int) : get (del m p) q = if q = p then none else get m q := by
  induction m with
  | nil => simp [del, get]
  | cons x r ih =>
    unfold del at ih ⊢
    rw [List.filter_cons]
    by_cases e : x.1 = p
    · rw [if_neg (by simp [e]), ih]
      by_cases e2 : q = p
      · simp [e2]
      · simp only [if_neg e2, get, if_neg (show ¬ x.1 = q by omega)]
    · rw [if_pos (by simp [e])]
      by_cases e2 : x.1 = q
      · simp only [get, if_pos e2, if_neg (show ¬ q = p by omega)]
      · simp only [get, if_neg e2, ih]
theorem lay_del {z : Int} (p : Int) : ∀ {m : Mem} {a : Int}, Lay z a m → Lay z a (del m p)
  | [], _, h => h
  | x :: r, a, h => by
    have ih : Lay z _ (del r p) := lay_del p h.2.2
    unfold del at ih ⊢
    rw [List.filter_cons]
    split
    · exact ⟨h.1, h.2.1, ih⟩
    · have := wd_pos x.2
      exact lay_mono ih (by have := h.1; omega)
theorem get_ins {m : Mem} {p : Int} (t : Th) (h : get m p = none) (q : Int) : get (ins p t m) q = if q = p then some t else get m q := by
  induction m with
  | nil =>
    by_cases e : q = p
    · simp [ins, get, e]
    · simp [ins, get, e, show ¬ p = q by omega]
  | cons x r ih =>
    unfold get at h
    have e : ¬ x.1 = p := fun e => by rw [if_pos e] at h; cases h
    rw [if_neg e] at h
    unfold ins
    by_cases l : p < x.1
    · rw [if_pos l]
      by_cases e2 : q = p
      · simp [get, e2]
      · simp only [get, if_neg (show ¬ p = q by omega), if_neg e2]
    · rw [if_neg l]
      by_cases e2 : x.1 = q
      · simp only [get, if_pos e2, if_neg (show ¬ q = p by omega)]
      · simp only [get, if_neg e2, ih h]

/-! ### the least gap -/
def gapF (z w : Int) : Int → Mem → Option Int
  | a, [] => if w ≤ z - a then some a else none
  | a, x :: r => if w ≤ x.1 - a then some a else gapF z w (x.1 + wd x.2) r
theorem gapF_nil (z w a : Int) : gapF z w a [] = if w ≤ z - a then some a else none := rfl
theorem gapF_cons (z w a : Int) (x : Int × Th) (r : Mem) : gapF z w a (x :: r) = if w ≤ x.1 - a then some a else gapF z w (x.1 + wd x.2) r := rfl
theorem gap_some {z w : Int} (hw : 2 ≤ w) : ∀ {m : Mem} {a g : Int}, Lay z a m → gapF z w a m = some g → a ≤ g ∧ get m g = none ∧ g + w ≤ z ∧ ∀ t : Th, wd t = w → t.fs.length ≤ 6 → Lay z a (ins g t m)
  | [], a, g, hl, h => by
    unfold gapF at h
    split at h
    · cases h
      exact ⟨Int.le_refl _, rfl, by omega, fun t ht h6 => ⟨Int.le_refl _, h6, by show _ ≤ z; simp only [ht]; omega⟩⟩
    · cases h
  | x :: r, a, g, hl, h => by
    unfold gapF at h
    split at h
    · rename_i hx
      cases h
      refine ⟨Int.le_refl _, get_none_of fun y hy e => ?_, ?_, fun t ht h6 => ?_⟩
      · rcases List.mem_cons.mp hy with e2 | hy
        · subst e2; omega
        · have := (lay_ge hl.2.2 y hy).1
          have := wd_pos x.2
          omega
      · have := lay_le hl.2.2
        have := wd_pos x.2
        omega
      · unfold ins
        rw [if_pos (by omega)]
        exact ⟨Int.le_refl _, h6, by simp only [ht]; omega, hl.2⟩
    · obtain ⟨h1, h2, h3, h4⟩ := gap_some hw hl.2.2 h
      have := wd_pos x.2
      have := hl.1
      refine ⟨by omega, ?_, h3, fun t ht h6 => ?_⟩
      · unfold get
        rw [if_neg (by omega)]
        exact h2
      · unfold ins
        rw [if_neg (by omega)]
        exact ⟨hl.1, hl.2.1, h4 t ht h6⟩

/-! ### the hall -/
structure St where
  size : Int
  mem : Mem
  hands : List Vl
  ph : Ph
  fin : Int

/-- a white thing becomes grey -/
def toGrey (t : Th) : Th := if t.col = .white then { t with col := .grey } else t
def setCol (c : Col) (t : Th) : Th := { t with col := c }
def shade (m : Mem) : Vl → Mem
  | .num _ => m
  | .held p => modT m p toGrey
def shadeAll (m : Mem) (vs : List Vl) : Mem := vs.foldl shade m
def isGrey (x : Int × Th) : Bool := decide (x.2.col = .grey)
def leastGrey (m : Mem) : Option Int := (m.find? isGrey).map (·.1)
def nextFrom (m : Mem) (a : Int) : Option Int := (m.find? fun x => decide (a ≤ x.1)).map (·.1)
def settle1 (s : St) : St := if s.ph = .mark ∧ leastGrey s.mem = none then { s with ph := .sweep, fin := 0 } else s
def settle2 (s : St) : St := if s.ph = .sweep ∧ nextFrom s.mem s.fin = none then { s with ph := .idle } else s
def settle (s : St) : St := settle2 (settle1 s)
def beginS (s : St) : St := settle { s with ph := .mark, mem := shadeAll s.mem s.hands }
def markPart (s : St) : St := match leastGrey s.mem with
  | none => s
  | some g => match get s.mem g with
    | none => s
    | some t => { s with mem := modT (shadeAll s.mem t.fs) g (setCol .black) }
def sweepPart (s : St) : St := match nextFrom s.mem s.fin with
  | none => s
  | some p => match get s.mem p with
    | none => s
    | some t => { s with fin := p + wd t, mem := if t.col = .white then del s.mem p else modT s.mem p (setCol .white) }
def part (s : St) : St := settle (if s.ph = .mark then markPart s else sweepPart s)
/-- at most n parts: how many were done, and the hall behind them -/
def stepN : Nat → St → Nat × St
  | 0, s => (0, s)
  | n + 1, s => if s.ph = .idle then (0, s) else ((stepN n (part s)).1 + 1, (stepN n (part s)).2)
def notBlack (x : Int × Th) : Bool := decide (x.2.col ≠ .black)
/-- how many parts a sweep may still take -/
def mu (s : St) : Nat := match s.ph with
  | .idle => 0
  | .mark => (s.mem.filter notBlack).length + s.mem.length
  | .sweep => (s.mem.filter fun x => decide (s.fin ≤ x.1)).length
def finishS (s : St) : Nat × St := stepN (mu s) s

def colourAt (s : St) (p : Int) : Col := if s.ph = .mark ∨ s.ph = .sweep ∧ s.fin ≤ p then .black else .white
def makeAt (s : St) (p : Int) (hand many : Nat) : St :=
  { s with mem := ins p ⟨List.replicate many (.num 0), colourAt s p⟩ s.mem, hands := s.hands.set hand (.held p) }
def gap (s : St) (w : Int) : Option Int := gapF s.size w 0 s.mem
/-- the places when all is slid together -/
def newPl : Int → Mem → List (Int × Int)
  | _, [] => []
  | a, x :: r => (x.1, a) :: newPl (a + wd x.2) r
def look (ρ : List (Int × Int)) (p : Int) : Int := match ρ with
  | [] => 0
  | x :: r => if x.1 = p then x.2 else look r p
def mv (ρ : List (Int × Int)) : Vl → Vl
  | .num n => .num n
  | .held p => .held (look ρ p)
def slideM (ρ : List (Int × Int)) : Int → Mem → Mem
  | _, [] => []
  | a, x :: r => (a, { x.2 with fs := x.2.fs.map (mv ρ) }) :: slideM ρ (a + wd x.2) r
def slideS (s : St) : St := { s with mem := slideM (newPl 0 s.mem) 0 s.mem, hands := s.hands.map (mv (newPl 0 s.mem)) }
def collect (s : St) : St := slideS (finishS (beginS (finishS s).2)).2
/-- make: whether there was room, and the hall behind it -/
def makeS (s : St) (hand many : Nat) : Bool × St := match gap s (2 + many) with
  | some p => (true, makeAt s p hand many)
  | none => match gap (collect s) (2 + many) with
    | some p => (true, makeAt (collect s) p hand many)
    | none => (false, collect s)

/-! ### the acts -/
inductive Act where
  | make (h m : Nat) | store (h : Nat) (f : Int) (o : Nat) | load (h o : Nat) (f : Int) | copy (h o : Nat) | number (h : Nat) (n : Int) | begin | slide | finish | step (n : Nat)
inductive Told where
  | none | int (n : Int) | noThing | noField | noRoom | notNow
deriving DecidableEq
def hand (s : St) (h : Nat) : Vl := s.hands.getD h (.num 0)
/-- what a field of the thing that a hand holds is asked for -/
inductive FR where
  | noThing | noField | ok (p : Int) (t : Th) (v : Vl)
def fres (s : St) (h : Nat) (f : Int) : FR := match hand s h with
  | .num _ => .noThing
  | .held p => match get s.mem p with
    | none => .noThing
    | some t => if 0 ≤ f ∧ f < t.fs.length then (match t.fs[f.toNat]? with
      | none => .noField
      | some v => .ok p t v) else .noField
theorem fres_ok {s : St} {h : Nat} {f : Int} {p : Int} {t : Th} {v : Vl} (e : fres s h f = .ok p t v) : hand s h = .held p ∧ get s.mem p = some t ∧ 0 ≤ f ∧ f < t.fs.length ∧ t.fs[f.toNat]? = some v := by
  unfold fres at e
  cases h1 : hand s h with
  | num n => rw [h1] at e; cases e
  | held q =>
    rw [h1] at e
    cases h2 : get s.mem q with
    | none => simp only [h2] at e; cases e
    | some u =>
      simp only [h2] at e
      split at e
      · rename_i c
        split at e
        · cases e
        · rename_i w hw
          cases e
          exact ⟨rfl, h2, c.1, c.2, hw⟩
      · cases e
def setField (f : Nat) (v : Vl) (t : Th) : Th := { t with fs := t.fs.set f v }
def storeS (s : St) (p : Int) (f : Nat) (old new : Vl) : St :=
  { s with mem := modT (if s.ph = .mark then shade s.mem old else s.mem) p (setField f new) }
def setHand (s : St) (h : Nat) (v : Vl) : St := { s with hands := s.hands.set h v }
def doAct (s : St) : Act → Told × St
  | .make h m => if (makeS s h m).1 = true then (.none, (makeS s h m).2) else (.noRoom, (makeS s h m).2)
  | .store h f o => match fres s h f with
    | .noThing => (.noThing, s)
    | .noField => (.noField, s)
    | .ok p _ v => (.none, storeS s p f.toNat v (hand s o))
  | .load h o f => match fres s o f with
    | .noThing => (.noThing, s)
    | .noField => (.noField, s)
    | .ok _ _ v => (.none, setHand s h v)
  | .copy h o => (.none, setHand s h (hand s o))
  | .number h n => (.none, setHand s h (.num n))
  | .begin => if s.ph = .idle then (.none, beginS s) else (.notNow, s)
  | .slide => if s.ph = .idle then (.none, slideS s) else (.notNow, s)
  | .finish => (.int (finishS s).1, (finishS s).2)
  | .step n => (.int (stepN n s).1, (stepN n s).2)
def newS (size : Int) : St := ⟨size, [], List.replicate 8 (.num 0), .idle, 0⟩
/-- the blocks -/
def blocksF (z : Int) : Int → Mem → List (Int × Int × Int)
  | a, [] => if a < z then [(a, z - a, 0)] else []
  | a, x :: r => (if a < x.1 then [(a, x.1 - a, 0)] else []) ++ (x.1, wd x.2, 1) :: blocksF z (x.1 + wd x.2) r
theorem blocksF_nil (z a : Int) : blocksF z a [] = if a < z then [(a, z - a, 0)] else [] := rfl
theorem blocksF_cons (z a : Int) (x : Int × Th) (r : Mem) : blocksF z a (x :: r) = (if a < x.1 then [(a, x.1 - a, 0)] else []) ++ (x.1, wd x.2, 1) :: blocksF z (x.1 + wd x.2) r := rfl
end G

/-! The plain theory, part B: the invariant of a sweep, and that each part of work keeps it. -/
namespace G
open Classical

/-! ### counting -/
theorem cnt_modT {z : Int} (P : Int × Th → Bool) (p : Int) (f : Th → Th) : ∀ {m : Mem} {a : Int} {t : Th}, Lay z a m → get m p = some t →
    (m.filter P).length + (if P (p, f t) then 1 else 0) = ((modT m p f).filter P).length + (if P (p, t) then 1 else 0)
  | [], _, _, _, h => by cases h
  | x :: r, a, t, hl, h => by
    unfold get at h
    show _ = (((if x.1 = p then (x.1, f x.2) else x) :: modT r p f).filter P).length + _
    by_cases e : x.1 = p
    · rw [if_pos e] at h ⊢
      cases h
      have hr : modT r p f = r := by
        unfold modT
        have h0 : ∀ y ∈ r, (if y.1 = p then (y.1, f y.2) else y) = id y := fun y hy => by
          have := (lay_ge hl.2.2 y hy).1
          have := wd_pos x.2
          rw [if_neg (by omega)]
          rfl
        rw [List.map_congr_left h0, List.map_id]
      rw [hr]
      obtain ⟨x1, x2⟩ := x
      simp only at e
      subst e
      simp only [List.filter_cons]
      split <;> split <;> (try simp only [List.length_cons]) <;> omega
    · rw [if_neg e] at h ⊢
      have ih := cnt_modT P p f hl.2.2 h
      simp only [List.filter_cons]
      split <;> (try simp only [List.length_cons]) <;> omega
theorem len_modT (m : Mem) (p : Int) (f : Th → Th) : (modT m p f).length = m.length := List.length_map _
theorem cnt_modT_same {P : Int × Th → Bool} {p : Int} {f : Th → Th} (h : ∀ t, P (p, f t) = P (p, t)) (m : Mem) : ((modT m p f).filter P).length = (m.filter P).length := by
  induction m with
  | nil => rfl
  | cons x r ih =>
    show (((if x.1 = p then (x.1, f x.2) else x) :: modT r p f).filter P).length = _
    have e : P (if x.1 = p then (x.1, f x.2) else x) = P x := by
      split
      · rename_i e
        obtain ⟨x1, x2⟩ := x
        simp only at e
        subst e
        exact h x2
      · rfl
    simp only [List.filter_cons, e]
    split <;> simp [ih]
theorem cnt_del {z : Int} (P : Int × Th → Bool) (p : Int) : ∀ {m : Mem} {a : Int} {t : Th}, Lay z a m → get m p = some t →
    (m.filter P).length = ((del m p).filter P).length + (if P (p, t) then 1 else 0)
  | [], _, _, _, h => by cases h
  | x :: r, a, t, hl, h => by
    unfold get at h
    by_cases e : x.1 = p
    · rw [if_pos e] at h
      cases h
      have hr : del r p = r := List.filter_eq_self.mpr fun y hy => by
        have := (lay_ge hl.2.2 y hy).1
        have := wd_pos x.2
        simp; omega
      have hd : del (x :: r) p = r := by
        unfold del at hr ⊢
        rw [List.filter_cons, if_neg (by simp [e]), hr]
      rw [hd]
      obtain ⟨x1, x2⟩ := x
      simp only at e
      subst e
      simp only [List.filter_cons]
      split <;> simp
    · rw [if_neg e] at h
      have ih := cnt_del P p hl.2.2 h
      have hd : del (x :: r) p = x :: del r p := by
        unfold del
        rw [List.filter_cons, if_pos (by simp [e])]
      rw [hd]
      simp only [List.filter_cons]
      split <;> (try simp only [List.length_cons]) <;> omega

/-! ### looking for a thing -/
theorem lg_some {z a g : Int} {m : Mem} (hl : Lay z a m) (h : leastGrey m = some g) : ∃ t, get m g = some t ∧ t.col = .grey := by
  unfold leastGrey at h
  obtain ⟨x, hx, e⟩ := Option.map_eq_some_iff.mp h
  have h1 := List.find?_some hx
  have h2 := List.mem_of_find?_eq_some hx
  subst e
  exact ⟨x.2, mem_get hl h2, by simpa [isGrey] using h1⟩
theorem lg_none {m : Mem} (h : leastGrey m = none) {p : Int} {t : Th} (g : get m p = some t) : t.col ≠ .grey := by
  unfold leastGrey at h
  have h1 := List.find?_eq_none.mp (Option.map_eq_none_iff.mp h) _ (get_mem g)
  simpa [isGrey] using h1
theorem lg_of {m : Mem} {p : Int} {t : Th} (g : get m p = some t) (c : t.col = .grey) : leastGrey m ≠ none := fun h => lg_none h g c
theorem nf_some {z : Int} : ∀ {m : Mem} {a b p : Int}, Lay z b m → nextFrom m a = some p → a ≤ p ∧ (∃ t, get m p = some t) ∧ ∀ q u, get m q = some u → a ≤ q → p ≤ q
  | [], _, _, _, _, h => by cases h
  | x :: r, a, b, p, hl, h => by
    unfold nextFrom at h
    rw [List.find?_cons] at h
    by_cases e : a ≤ x.1
    · rw [decide_eq_true e] at h
      have ep : x.1 = p := Option.some.inj h
      refine ⟨by omega, ⟨x.2, by simp [get, ep]⟩, fun q u hq _ => ?_⟩
      unfold get at hq
      split at hq
      · omega
      · have := (lay_get hl.2.2 hq).1
        have := wd_pos x.2
        omega
    · rw [decide_eq_false e] at h
      obtain ⟨h1, ⟨t, h2⟩, h3⟩ := nf_some hl.2.2 (show nextFrom r a = some p from h)
      refine ⟨h1, ⟨t, by unfold get; rw [if_neg (by omega)]; exact h2⟩, fun q u hq hq2 => ?_⟩
      unfold get at hq
      rw [if_neg (by omega)] at hq
      exact h3 q u hq hq2
theorem nf_none {m : Mem} {a : Int} (h : nextFrom m a = none) {p : Int} {t : Th} (g : get m p = some t) : p < a := by
  unfold nextFrom at h
  have h1 := List.find?_eq_none.mp (Option.map_eq_none_iff.mp h) _ (get_mem g)
  simp at h1
  omega
theorem nf_of {m : Mem} {a p : Int} {t : Th} (g : get m p = some t) (h : a ≤ p) : nextFrom m a ≠ none := fun e => by
  have := nf_none e g
  omega
/-- behind the next thing there is one fewer -/
theorem nf_cnt {z : Int} : ∀ {m : Mem} {a b p : Int} {t : Th}, Lay z b m → nextFrom m a = some p → get m p = some t →
    (m.filter fun x => decide (a ≤ x.1)).length = (m.filter fun x => decide (p + wd t ≤ x.1)).length + 1
  | [], _, _, _, _, _, h, _ => by cases h
  | x :: r, a, b, p, t, hl, h, g => by
    unfold nextFrom at h
    rw [List.find?_cons] at h
    by_cases e : a ≤ x.1
    · rw [decide_eq_true e] at h
      cases h
      unfold get at g
      rw [if_pos rfl] at g
      cases g
      have hw := wd_pos x.2
      rw [List.filter_cons, if_pos (by simpa using e), List.filter_cons, if_neg (by simp; omega), List.length_cons]
      have e1 : (r.filter fun y => decide (a ≤ y.1)) = r := List.filter_eq_self.mpr fun y hy => by
        have := (lay_ge hl.2.2 y hy).1
        simp; omega
      have e2 : (r.filter fun y => decide (x.1 + wd x.2 ≤ y.1)) = r := List.filter_eq_self.mpr fun y hy => by
        have := (lay_ge hl.2.2 y hy).1
        simp; omega
      rw [e1, e2]
    · rw [decide_eq_false e] at h
      have h' : nextFrom r a = some p := h
      have hp := (nf_some hl.2.2 h').1
      unfold get at g
      rw [if_neg (by omega)] at g
      have ih := nf_cnt hl.2.2 h' g
      have hw := wd_pos t
      rw [List.filter_cons, if_neg (by simp; omega), List.filter_cons, if_neg (by simp; omega), ih]

/-! ### shades -/
theorem toGrey_fs (t : Th) : (toGrey t).fs = t.fs := by unfold toGrey; split <;> rfl
theorem toGrey_idem (t : Th) : toGrey (toGrey t) = toGrey t := by
  unfold toGrey
  by_cases h : t.col = .white
  · simp [h]
  · simp [h]
theorem toGrey_nb (t : Th) : (toGrey t).col ≠ .black ↔ t.col ≠ .black := by
  unfold toGrey
  by_cases h : t.col = .white <;> simp [h]
theorem toGrey_grey {t : Th} (h : t.col ≠ .black) : (toGrey t).col = .grey := by
  unfold toGrey
  cases e : t.col <;> simp_all
theorem toGrey_of_grey {t : Th} (h : t.col = .grey) : toGrey t = t := by
  unfold toGrey
  simp [h]
theorem toGrey_of_black {t : Th} (h : t.col = .black) : toGrey t = t := by
  unfold toGrey
  simp [h]
/-- some things were shaded, no more -/
def Shd (m m' : Mem) : Prop := ∀ q, get m' q = get m q ∨ get m' q = (get m q).map toGrey
theorem Shd.refl (m : Mem) : Shd m m := fun _ => .inl rfl
theorem Shd.trans {m m1 m2 : Mem} (h : Shd m m1) (k : Shd m1 m2) : Shd m m2 := fun q => by
  rcases h q with h | h <;> rcases k q with k | k
  · exact .inl (k.trans h)
  · exact .inr (by rw [k, h])
  · exact .inr (k.trans h)
  · refine .inr ?_
    rw [k, h]
    cases get m q with
    | none => rfl
    | some t => simp [toGrey_idem]
theorem shade_shd (m : Mem) (v : Vl) : Shd m (shade m v) := fun q => by
  cases v with
  | num n => exact .inl rfl
  | held p =>
    show get (modT m p toGrey) q = _ ∨ get (modT m p toGrey) q = _
    rw [get_modT]
    split
    · exact .inr rfl
    · exact .inl rfl
theorem shadeAll_shd (vs : List Vl) : ∀ m, Shd m (shadeAll m vs) := by
  induction vs with
  | nil => exact Shd.refl
  | cons v r ih => exact fun m => (shade_shd m v).trans (ih (shade m v))
theorem Shd.get {m m' : Mem} (h : Shd m m') {q : Int} {t : Th} (g : get m q = some t) : ∃ t', G.get m' q = some t' ∧ (t' = t ∨ t' = toGrey t) ∧ t'.fs = t.fs := by
  rcases h q with e | e
  · exact ⟨t, e.trans g, .inl rfl, rfl⟩
  · rw [g] at e
    exact ⟨_, e, .inr rfl, toGrey_fs t⟩
theorem Shd.back {m m' : Mem} (h : Shd m m') {q : Int} {t' : Th} (g : G.get m' q = some t') : ∃ t, G.get m q = some t ∧ (t' = t ∨ t' = toGrey t) ∧ t'.fs = t.fs := by
  rcases h q with e | e
  · rw [e] at g
    exact ⟨t', g, .inl rfl, rfl⟩
  · rw [e] at g
    obtain ⟨t, h1, h2⟩ := Option.map_eq_some_iff.mp g
    subst h2
    exact ⟨t, h1, .inr rfl, toGrey_fs t⟩
theorem shadeAll_hit {p : Int} : ∀ {vs : List Vl} {m : Mem} {t : Th}, .held p ∈ vs → get m p = some t → get (shadeAll m vs) p = some (toGrey t)
  | [], _, _, h, _ => by cases h
  | v :: r, m, t, h, g => by
    show get (shadeAll (shade m v) r) p = _
    rcases List.mem_cons.mp h with e | h
    · subst e
      have g1 : get (shade m (.held p)) p = some (toGrey t) := by
        show get (modT m p toGrey) p = _
        rw [get_modT, if_pos rfl, g]
        rfl
      obtain ⟨t', h1, h2, _⟩ := (shadeAll_shd r _).get g1
      rcases h2 with h2 | h2
      · rw [h1, h2]
      · rw [h1, h2, toGrey_idem]
    · obtain ⟨t', h1, h2, _⟩ := (shade_shd m v).get g
      rw [shadeAll_hit h h1]
      rcases h2 with h2 | h2
      · rw [h2]
      · rw [h2, toGrey_idem]
theorem lay_shade {z a : Int} {m : Mem} (h : Lay z a m) (v : Vl) : Lay z a (shade m v) := by
  cases v with
  | num n => exact h
  | held p => exact lay_modT (fun t => by rw [toGrey_fs]) p h
theorem lay_shadeAll {z a : Int} (vs : List Vl) : ∀ {m : Mem}, Lay z a m → Lay z a (shadeAll m vs) := by
  induction vs with
  | nil => exact fun h => h
  | cons v r ih => exact fun h => ih (lay_shade h v)
theorem len_shade (m : Mem) (v : Vl) : (shade m v).length = m.length := by
  cases v with
  | num n => rfl
  | held p => exact len_modT _ _ _
theorem len_shadeAll (vs : List Vl) : ∀ m, (shadeAll m vs).length = m.length := by
  induction vs with
  | nil => exact fun _ => rfl
  | cons v r ih => exact fun m => (ih (shade m v)).trans (len_shade m v)
theorem cnt_shade {P : Int × Th → Bool} (h : ∀ p t, P (p, toGrey t) = P (p, t)) (m : Mem) (v : Vl) : ((shade m v).filter P).length = (m.filter P).length := by
  cases v with
  | num n => rfl
  | held p => exact cnt_modT_same (h p) m
theorem cnt_shadeAll {P : Int × Th → Bool} (h : ∀ p t, P (p, toGrey t) = P (p, t)) (vs : List Vl) : ∀ m, ((shadeAll m vs).filter P).length = (m.filter P).length := by
  induction vs with
  | nil => exact fun _ => rfl
  | cons v r ih => exact fun m => (ih (shade m v)).trans (cnt_shade h m v)

/-! ### the invariant -/
/-- a grey thing, or one to which grey things come through things that are not black -/
inductive Gp (m : Mem) : Int → Prop where
  | grey {p : Int} {t : Th} : get m p = some t → t.col = .grey → Gp m p
  | step {p q : Int} {t u : Th} : Gp m p → get m p = some t → .held q ∈ t.fs → get m q = some u → u.col ≠ .black → Gp m q
theorem Gp.nb {m : Mem} {p : Int} (h : Gp m p) : ∃ t, get m p = some t ∧ t.col ≠ .black := by
  cases h with
  | grey g c => exact ⟨_, g, by rw [c]; decide⟩
  | step _ _ _ g c => exact ⟨_, g, c⟩
def Prot (m : Mem) (p : Int) : Prop := (∃ t, get m p = some t ∧ t.col = .black) ∨ Gp m p
/-- what hands come to -/
inductive Reach (m : Mem) (vs : List Vl) : Int → Prop where
  | root {p : Int} : .held p ∈ vs → Reach m vs p
  | step {p q : Int} {t : Th} : Reach m vs p → get m p = some t → .held q ∈ t.fs → Reach m vs q

structure Core (s : St) (L : Int → Prop) : Prop where
  lay : Lay s.size 0 s.mem
  h8 : s.hands.length = 8
  inL : ∀ p, L p → ∃ t, get s.mem p = some t
  hL : ∀ p, .held p ∈ s.hands → L p
  fL : ∀ p q t, L p → get s.mem p = some t → .held q ∈ t.fs → L q
def MarkP (m : Mem) (L : Int → Prop) : Prop := (∀ p t, get m p = some t → t.col ≠ .white → L p) ∧ ∀ p, L p → Prot m p
def SweepP (m : Mem) (fin : Int) (L : Int → Prop) : Prop := ∀ p t, get m p = some t → t.col ≠ .grey ∧ (L p ↔ (p < fin ∨ t.col = .black)) ∧ (p < fin → t.col = .white)
def IdleP (m : Mem) (L : Int → Prop) : Prop := ∀ p t, get m p = some t → L p ∧ t.col = .white
structure Inv (s : St) (L : Int → Prop) : Prop where
  core : Core s L
  idle : s.ph = .idle → IdleP s.mem L
  mark : s.ph = .mark → MarkP s.mem L ∧ leastGrey s.mem ≠ none
  sweep : s.ph = .sweep → SweepP s.mem s.fin L ∧ nextFrom s.mem s.fin ≠ none

/-- of the things in L nothing but the colour changes; hands stay -/
structure Keep (L : Int → Prop) (s s' : St) : Prop where
  size : s'.size = s.size
  hands : s'.hands = s.hands
  fs : ∀ p t, L p → get s.mem p = some t → ∃ t', get s'.mem p = some t' ∧ t'.fs = t.fs
theorem Keep.refl (L : Int → Prop) (s : St) : Keep L s s := ⟨rfl, rfl, fun _ t _ h => ⟨t, h, rfl⟩⟩
theorem Keep.trans {L : Int → Prop} {s s1 s2 : St} (a : Keep L s s1) (b : Keep L s1 s2) : Keep L s s2 :=
  ⟨b.size.trans a.size, b.hands.trans a.hands, fun p t hp h => by
    obtain ⟨t1, h1, e1⟩ := a.fs p t hp h
    obtain ⟨t2, h2, e2⟩ := b.fs p t1 hp h1
    exact ⟨t2, h2, e2.trans e1⟩⟩
theorem Keep.core {L : Int → Prop} {s s' : St} (k : Keep L s s') (c : Core s L) (hl : Lay s'.size 0 s'.mem) : Core s' L where
  lay := hl
  h8 := by rw [k.hands]; exact c.h8
  inL := fun p hp => by
    obtain ⟨t, ht⟩ := c.inL p hp
    obtain ⟨t', h, _⟩ := k.fs p t hp ht
    exact ⟨t', h⟩
  hL := by rw [k.hands]; exact c.hL
  fL := fun p q t hp ht hq => by
    obtain ⟨t0, h0⟩ := c.inL p hp
    obtain ⟨t', h, e⟩ := k.fs p t0 hp h0
    rw [ht] at h
    cases h
    rw [e] at hq
    exact c.fL p q t0 hp h0 hq

noncomputable def cL (L : Int → Prop) (x : Int × Th) : Bool := decide (L x.1) && notBlack x
/-- just how many parts are left -/
noncomputable def nu (L : Int → Prop) (s : St) : Nat := match s.ph with
  | .idle => 0
  | .mark => (s.mem.filter (cL L)).length + s.mem.length
  | .sweep => (s.mem.filter fun x => decide (s.fin ≤ x.1)).length
theorem nu_le_mu (L : Int → Prop) (s : St) : nu L s ≤ mu s := by
  unfold nu mu
  cases s.ph with
  | idle => exact Nat.zero_le _
  | mark =>
    refine Nat.add_le_add_right ?_ _
    rw [← List.countP_eq_length_filter, ← List.countP_eq_length_filter]
    exact List.countP_mono_left fun x _ h => (Bool.and_eq_true_iff.mp h).2
  | sweep => exact Nat.le_refl _

/-! ### settling -/
theorem settle2_ok {s : St} {L : Int → Prop} (c : Core s L) (hp : s.ph = .sweep) (h : SweepP s.mem s.fin L) : Inv (settle2 s) L ∧ Keep L s (settle2 s) ∧ nu L (settle2 s) = nu L s := by
  unfold settle2
  by_cases e : nextFrom s.mem s.fin = none
  · rw [if_pos ⟨hp, e⟩]
    refine ⟨⟨⟨c.lay, c.h8, c.inL, c.hL, c.fL⟩, fun _ p t g => ?_, (fun z => by cases z), (fun z => by cases z)⟩, ⟨rfl, rfl, fun p t _ g => ⟨t, g, rfl⟩⟩, ?_⟩
    · have := nf_none e g
      obtain ⟨h1, h2, h3⟩ := h p t g
      exact ⟨h2.mpr (.inl this), h3 this⟩
    · unfold nu
      simp only [hp]
      symm
      rw [List.length_eq_zero_iff, List.filter_eq_nil_iff]
      intro x hx
      have := nf_none e (mem_get c.lay hx)
      simp; omega
  · rw [if_neg (fun z => e z.2)]
    exact ⟨⟨c, (fun z => by rw [hp] at z; cases z), (fun z => by rw [hp] at z; cases z), fun _ => ⟨h, e⟩⟩, Keep.refl _ _, rfl⟩
theorem gp_nogrey {m : Mem} (e : leastGrey m = none) {p : Int} (h : Gp m p) : False := by
  induction h with
  | grey g c => exact lg_none e g c
  | step _ _ _ _ _ ih => exact ih
theorem nogrey_black {m : Mem} {L : Int → Prop} (h : MarkP m L) (e : leastGrey m = none) {p : Int} (hp : L p) : ∃ t, get m p = some t ∧ t.col = .black := by
  rcases h.2 p hp with k | k
  · exact k
  · exact (gp_nogrey e k).elim
theorem settle_mark {s : St} {L : Int → Prop} (c : Core s L) (hp : s.ph = .mark) (h : MarkP s.mem L) : Inv (settle s) L ∧ Keep L s (settle s) ∧ nu L (settle s) = nu L s := by
  unfold settle settle1
  by_cases e : leastGrey s.mem = none
  · rw [if_pos ⟨hp, e⟩]
    have c' : Core { s with ph := .sweep, fin := 0 } L := ⟨c.lay, c.h8, c.inL, c.hL, c.fL⟩
    have w : SweepP s.mem 0 L := fun p t g => by
      have h0 := (lay_get c.lay g).1
      refine ⟨lg_none e g, ⟨fun hL => .inr ?_, fun z => ?_⟩, fun z => absurd z (by omega)⟩
      · obtain ⟨t', g', hb⟩ := nogrey_black h e hL
        rw [g] at g'
        cases g'
        exact hb
      · rcases z with z | z
        · omega
        · exact h.1 p t g (by rw [z]; decide)
    obtain ⟨i, k, n⟩ := settle2_ok (s := { s with ph := .sweep, fin := 0 }) c' rfl w
    refine ⟨i, ⟨k.size, k.hands, k.fs⟩, n.trans ?_⟩
    unfold nu
    simp only [hp]
    have e1 : s.mem.filter (cL L) = [] := List.filter_eq_nil_iff.mpr fun x hx hc => by
      obtain ⟨h1, h2⟩ := Bool.and_eq_true_iff.mp hc
      obtain ⟨t', g', hb⟩ := nogrey_black h e (of_decide_eq_true h1)
      have g := mem_get (p := x.1) (t := x.2) c.lay hx
      rw [g] at g'
      cases g'
      exact of_decide_eq_true h2 hb
    have e2 : (s.mem.filter fun x => decide ((0 : Int) ≤ x.1)) = s.mem := List.filter_eq_self.mpr fun x hx => by
      have := (lay_ge c.lay x hx).1
      simpa using this
    rw [e1, e2]
    simp
  · rw [if_neg (fun z => e z.2)]
    unfold settle2
    rw [if_neg (by rw [hp]; exact fun z => by cases z.1)]
    exact ⟨⟨c, (fun z => by rw [hp] at z; cases z), fun _ => ⟨h, e⟩, (fun z => by rw [hp] at z; cases z)⟩, Keep.refl _ _, rfl⟩
theorem settle_sweep {s : St} {L : Int → Prop} (c : Core s L) (hp : s.ph = .sweep) (h : SweepP s.mem s.fin L) : Inv (settle s) L ∧ Keep L s (settle s) ∧ nu L (settle s) = nu L s := by
  unfold settle settle1
  rw [if_neg (by rw [hp]; exact fun z => by cases z.1)]
  exact settle2_ok c hp h

/-! ### one part -/
theorem gp_shd {m m' : Mem} (h : Shd m m') {p : Int} (k : Gp m p) : Gp m' p := by
  induction k with
  | grey g c =>
    obtain ⟨t', h1, h2, _⟩ := h.get g
    refine .grey h1 ?_
    rcases h2 with h2 | h2
    · rw [h2]; exact c
    · rw [h2, toGrey_of_grey c]; exact c
  | step _ g hq g2 c ih =>
    obtain ⟨t', h1, _, h3⟩ := h.get g
    obtain ⟨u', k1, k2, _⟩ := h.get g2
    refine .step ih h1 (by rw [h3]; exact hq) k1 ?_
    rcases k2 with k2 | k2
    · rw [k2]; exact c
    · rw [k2]; exact (toGrey_nb _).mpr c
theorem shd_black {m m' : Mem} (h : Shd m m') {p : Int} (k : ∃ t, get m p = some t ∧ t.col = .black) : ∃ t, get m' p = some t ∧ t.col = .black := by
  obtain ⟨t, g, c⟩ := k
  obtain ⟨t', h1, h2, _⟩ := h.get g
  refine ⟨t', h1, ?_⟩
  rcases h2 with h2 | h2
  · rw [h2]; exact c
  · rw [h2, toGrey_of_black c]; exact c
theorem cL_grey (L : Int → Prop) (p : Int) (t : Th) : cL L (p, toGrey t) = cL L (p, t) := by
  unfold cL notBlack
  congr 1
  exact decide_eq_decide.mpr (toGrey_nb t)
theorem part_mark {s : St} {L : Int → Prop} (i : Inv s L) (hp : s.ph = .mark) : Inv (part s) L ∧ Keep L s (part s) ∧ nu L (part s) + 1 = nu L s := by
  obtain ⟨h, hg⟩ := i.mark hp
  have c := i.core
  unfold part
  rw [if_pos hp]
  cases e : leastGrey s.mem with
  | none => exact absurd e hg
  | some g =>
    obtain ⟨t, gt, ct⟩ := lg_some c.lay e
    have hm : markPart s = { s with mem := modT (shadeAll s.mem t.fs) g (setCol .black) } := by
      unfold markPart
      rw [e]
      simp only [gt]
    rw [hm]
    have sh := shadeAll_shd t.fs s.mem
    have gg : ∀ q, get (modT (shadeAll s.mem t.fs) g (setCol .black)) q = if q = g then some (setCol .black t) else get (shadeAll s.mem t.fs) q := fun q => by
      rw [get_modT]
      split
      · rename_i eq
        subst eq
        obtain ⟨t', h1, h2, h3⟩ := sh.get gt
        rw [toGrey_of_grey ct] at h2
        rw [h1]
        rcases h2 with h2 | h2 <;> rw [h2] <;> rfl
      · rfl
    have kp : Keep L s { s with mem := modT (shadeAll s.mem t.fs) g (setCol .black) } := ⟨rfl, rfl, fun p u _ gu => by
      show ∃ t', get (modT (shadeAll s.mem t.fs) g (setCol .black)) p = some t' ∧ _
      rw [gg]
      split
      · rename_i eq
        subst eq
        rw [gt] at gu
        cases gu
        exact ⟨_, rfl, rfl⟩
      · obtain ⟨u', h1, _, h3⟩ := sh.get gu
        exact ⟨u', h1, h3⟩⟩
    have lay : Lay s.size 0 (modT (shadeAll s.mem t.fs) g (setCol .black)) := lay_modT (f := setCol .black) (fun _ => rfl) g (lay_shadeAll t.fs c.lay)
    have c' := kp.core c lay
    have Lg : L g := h.1 g t gt (by rw [ct]; decide)
    have mk : MarkP (modT (shadeAll s.mem t.fs) g (setCol .black)) L := by
      refine ⟨fun p u gu cu => ?_, fun p hL => ?_⟩
      · rw [gg] at gu
        split at gu
        · rename_i eq
          subst eq
          exact Lg
        · obtain ⟨u0, h1, h2, _⟩ := sh.back gu
          by_cases w : u0.col = .white
          · -- it was shaded: a field of g holds it
            rcases Classical.em (.held p ∈ t.fs) with hmem | hmem
            · exact c.fL g p t Lg gt hmem
            · exfalso
              have : get (shadeAll s.mem t.fs) p = get s.mem p := by
                have key : ∀ (vs : List Vl) (m : Mem), .held p ∉ vs → get (shadeAll m vs) p = get m p := by
                  intro vs
                  induction vs with
                  | nil => exact fun _ _ => rfl
                  | cons v r ih =>
                    intro m hv
                    refine (ih (shade m v) fun z => hv (List.mem_cons_of_mem _ z)).trans ?_
                    cases v with
                    | num n => rfl
                    | held q =>
                      show get (modT m q toGrey) p = _
                      rw [get_modT, if_neg]
                      intro z
                      subst z
                      exact hv List.mem_cons_self
                exact key _ _ hmem
              rw [this, h1] at gu
              cases gu
              exact cu w
          · exact h.1 p u0 h1 w
      · have key : ∀ q, Gp s.mem q → q = g ∨ Gp (modT (shadeAll s.mem t.fs) g (setCol .black)) q := fun q k => by
          induction k with
          | @grey q u gu cu =>
            by_cases eq : q = g
            · exact .inl eq
            · obtain ⟨u', h1, h2, _⟩ := sh.get gu
              refine .inr (.grey (t := u') (by rw [gg, if_neg eq]; exact h1) ?_)
              rcases h2 with h2 | h2
              · rw [h2]; exact cu
              · rw [h2, toGrey_of_grey cu]; exact cu
          | @step q r u v _ gu hr gv cv ih =>
            by_cases er : r = g
            · exact .inl er
            · refine .inr ?_
              obtain ⟨v', h1, h2, _⟩ := sh.get gv
              have nb : v'.col ≠ .black := by
                rcases h2 with h2 | h2
                · rw [h2]; exact cv
                · rw [h2]; exact (toGrey_nb _).mpr cv
              by_cases eq : q = g
              · subst eq
                rw [gt] at gu
                cases gu
                refine .grey (t := toGrey v) (by rw [gg, if_neg er]; exact shadeAll_hit hr gv) (toGrey_grey cv)
              · rcases ih with ih | ih
                · exact absurd ih eq
                · obtain ⟨u', k1, _, k3⟩ := sh.get gu
                  exact .step (t := u') (u := v') ih (by rw [gg, if_neg eq]; exact k1) (by rw [k3]; exact hr) (by rw [gg, if_neg er]; exact h1) nb
        rcases h.2 p hL with k | k
        · refine .inl ?_
          by_cases eq : p = g
          · subst eq
            exact ⟨_, (by rw [gg, if_pos rfl]), rfl⟩
          · obtain ⟨u, h1, h2⟩ := shd_black sh k
            exact ⟨u, (by rw [gg, if_neg eq]; exact h1), h2⟩
        · rcases key p k with eq | k
          · subst eq
            exact .inl ⟨_, (by rw [gg, if_pos rfl]), rfl⟩
          · exact .inr k
    obtain ⟨i2, k2, n2⟩ := settle_mark (s := { s with mem := modT (shadeAll s.mem t.fs) g (setCol .black) }) c' hp mk
    refine ⟨i2, kp.trans k2, ?_⟩
    rw [n2]
    unfold nu
    simp only [hp]
    have g1 : get (shadeAll s.mem t.fs) g = some t := by
      obtain ⟨t', h1, h2, _⟩ := sh.get gt
      rw [toGrey_of_grey ct] at h2
      rcases h2 with h2 | h2 <;> rw [h1, h2]
    have e1 := cnt_modT (cL L) g (setCol .black) (lay_shadeAll t.fs c.lay) g1
    have e2 := cnt_shadeAll (P := cL L) (cL_grey L) t.fs s.mem
    have b1 : cL L (g, setCol .black t) = false := by
      show (decide (L g) && decide (Col.black ≠ .black)) = false
      simp
    have b2 : cL L (g, t) = true := by
      show (decide (L g) && decide (t.col ≠ .black)) = true
      simp [Lg, ct]
    rw [b1, b2] at e1
    rw [len_modT, len_shadeAll]
    simp at e1
    omega
theorem part_sweep {s : St} {L : Int → Prop} (i : Inv s L) (hp : s.ph = .sweep) : Inv (part s) L ∧ Keep L s (part s) ∧ nu L (part s) + 1 = nu L s := by
  obtain ⟨h, hg⟩ := i.sweep hp
  have c := i.core
  unfold part
  rw [if_neg (by rw [hp]; decide)]
  cases e : nextFrom s.mem s.fin with
  | none => exact absurd e hg
  | some g =>
    obtain ⟨hge, ⟨t, gt⟩, hmin⟩ := nf_some c.lay e
    have hm : sweepPart s = { s with fin := g + wd t, mem := if t.col = .white then del s.mem g else modT s.mem g (setCol .white) } := by
      unfold sweepPart
      rw [e]
      simp only [gt]
    rw [hm]
    have hw := wd_pos t
    obtain ⟨hn, hL, hwt⟩ := h g t gt
    have far : ∀ q u, get s.mem q = some u → q ≠ g → (q < s.fin ↔ q < g + wd t) := fun q u gu ne => by
      constructor
      · omega
      · intro lt
        rcases Classical.em (q < s.fin) with z | z
        · exact z
        · have := hmin q u gu (by omega)
          have := lay_sep c.lay gt gu (by omega)
          omega
    have gg : ∀ q, q ≠ g → get (if t.col = .white then del s.mem g else modT s.mem g (setCol .white)) q = get s.mem q := fun q ne => by
      split
      · rw [get_del, if_neg ne]
      · rw [get_modT, if_neg ne]
    have lay : Lay s.size 0 (if t.col = .white then del s.mem g else modT s.mem g (setCol .white)) := by
      split
      · exact lay_del g c.lay
      · exact lay_modT (f := setCol .white) (fun _ => rfl) g c.lay
    have kp : Keep L s { s with fin := g + wd t, mem := if t.col = .white then del s.mem g else modT s.mem g (setCol .white) } := ⟨rfl, rfl, fun p u hLp gu => by
      show ∃ t', get (if t.col = .white then del s.mem g else modT s.mem g (setCol .white)) p = some t' ∧ _
      by_cases eq : p = g
      · subst eq
        rw [gt] at gu
        cases gu
        have nw : ¬ t.col = .white := fun w => by
          rcases hL.mp hLp with z | z
          · omega
          · rw [w] at z; cases z
        rw [if_neg nw, get_modT, if_pos rfl, gt]
        exact ⟨_, rfl, rfl⟩
      · rw [gg p eq]
        exact ⟨u, gu, rfl⟩⟩
    have sw : SweepP (if t.col = .white then del s.mem g else modT s.mem g (setCol .white)) (g + wd t) L := fun p u gu => by
      by_cases eq : p = g
      · subst eq
        by_cases w : t.col = .white
        · rw [if_pos w, get_del, if_pos rfl] at gu
          cases gu
        · rw [if_neg w, get_modT, if_pos rfl, gt] at gu
          cases gu
          have hb : t.col = .black := by cases hc : t.col <;> simp_all
          exact ⟨by simp [setCol], ⟨fun _ => .inl (by omega), fun _ => hL.mpr (.inr hb)⟩, fun _ => rfl⟩
      · rw [gg p eq] at gu
        obtain ⟨h1, h2, h3⟩ := h p u gu
        have f := far p u gu eq
        exact ⟨h1, by rw [h2, f], fun z => h3 (f.mpr z)⟩
    have c' := kp.core c lay
    obtain ⟨i2, k2, n2⟩ := settle_sweep (s := { s with fin := g + wd t, mem := if t.col = .white then del s.mem g else modT s.mem g (setCol .white) }) c' hp sw
    refine ⟨i2, kp.trans k2, ?_⟩
    rw [n2]
    unfold nu
    simp only [hp]
    rw [nf_cnt c.lay e gt]
    congr 1
    split
    · have := cnt_del (fun x => decide (g + wd t ≤ x.1)) g c.lay gt
      simp at this
      have h0 : ¬ g + wd t ≤ g := by omega
      simp [h0] at this
      exact this.symm
    · exact cnt_modT_same (f := setCol .white) (fun _ => rfl) s.mem
theorem part_ok {s : St} {L : Int → Prop} (i : Inv s L) (hp : s.ph ≠ .idle) : Inv (part s) L ∧ Keep L s (part s) ∧ nu L (part s) + 1 = nu L s := by
  cases e : s.ph with
  | idle => exact absurd e hp
  | mark => exact part_mark i e
  | sweep => exact part_sweep i e
theorem nu_pos {s : St} {L : Int → Prop} (i : Inv s L) (hp : s.ph ≠ .idle) : 0 < nu L s := by
  have := (part_ok i hp).2.2
  omega
theorem nu_idle {s : St} (L : Int → Prop) (hp : s.ph = .idle) : nu L s = 0 := by
  unfold nu
  simp only [hp]

theorem lay_markPart {s : St} (h : Lay s.size 0 s.mem) : Lay (markPart s).size 0 (markPart s).mem := by
  unfold markPart
  split
  · exact h
  · split
    · exact h
    · rename_i t _
      exact lay_modT (f := setCol .black) (fun _ => rfl) _ (lay_shadeAll t.fs h)
theorem lay_sweepPart {s : St} (h : Lay s.size 0 s.mem) : Lay (sweepPart s).size 0 (sweepPart s).mem := by
  unfold sweepPart
  split
  · exact h
  · rename_i p h1
    split
    · exact h
    · rename_i t h2
      show Lay s.size 0 (if t.col = .white then del s.mem p else modT s.mem p (setCol .white))
      split
      · exact lay_del _ h
      · exact lay_modT (f := setCol .white) (fun _ => rfl) _ h
/-! ### many parts -/
theorem stepN_ok {L : Int → Prop} : ∀ (n : Nat) {s : St}, Inv s L → Inv (stepN n s).2 L ∧ Keep L s (stepN n s).2 ∧ (stepN n s).1 = min n (nu L s) ∧ nu L (stepN n s).2 = nu L s - n
  | 0, s, i => ⟨i, Keep.refl _ _, by simp [stepN], by simp [stepN]⟩
  | n + 1, s, i => by
    unfold stepN
    by_cases e : s.ph = .idle
    · rw [if_pos e]
      have := nu_idle L e
      exact ⟨i, Keep.refl _ _, by simp [this], by simp [this]⟩
    · rw [if_neg e]
      obtain ⟨i1, k1, n1⟩ := part_ok i e
      obtain ⟨i2, k2, n2, n3⟩ := stepN_ok n i1
      refine ⟨i2, k1.trans k2, ?_, ?_⟩
      · show (stepN n (part s)).1 + 1 = _
        omega
      · show nu L (stepN n (part s)).2 = _
        omega
theorem idle_of_nu {s : St} {L : Int → Prop} (i : Inv s L) (h : nu L s = 0) : s.ph = .idle := by
  rcases Classical.em (s.ph = .idle) with e | e
  · exact e
  · have := nu_pos i e
    omega
/-- from the number of parts that are left on, all is the same -/
theorem stepN_more {L : Int → Prop} : ∀ (n : Nat) {s : St}, Inv s L → nu L s ≤ n → stepN n s = stepN (nu L s) s
  | 0, s, i, h => by rw [Nat.le_zero.mp h]
  | n + 1, s, i, h => by
    by_cases e : s.ph = .idle
    · rw [nu_idle L e]
      unfold stepN
      rw [if_pos e]
    · obtain ⟨i1, k1, n1⟩ := part_ok i e
      have ih := stepN_more n i1 (by omega)
      rw [← n1]
      unfold stepN
      rw [if_neg e, if_neg e, ih]
theorem finish_eq {s : St} {L : Int → Prop} (i : Inv s L) : finishS s = stepN (nu L s) s := stepN_more _ i (nu_le_mu L s)
theorem finish_ok {s : St} {L : Int → Prop} (i : Inv s L) : Inv (finishS s).2 L ∧ Keep L s (finishS s).2 ∧ (finishS s).1 = nu L s ∧ (finishS s).2.ph = .idle := by
  rw [finish_eq i]
  obtain ⟨h1, h2, h3, h4⟩ := stepN_ok (nu L s) i
  exact ⟨h1, h2, by omega, idle_of_nu h1 (by omega)⟩
theorem stepN_add {L : Int → Prop} : ∀ (a b : Nat) {s : St}, Inv s L → stepN (a + b) s = ((stepN a s).1 + (stepN b (stepN a s).2).1, (stepN b (stepN a s).2).2)
  | 0, b, s, _ => by simp [stepN]
  | a + 1, b, s, i => by
    rw [Nat.succ_add]
    by_cases e : s.ph = .idle
    · unfold stepN
      rw [if_pos e]
      cases b with
      | zero => simp [stepN, e]
      | succ b =>
        simp [stepN, e]
    · have ih := stepN_add a b (part_ok i e).1
      have e1 : stepN (a + b + 1) s = ((stepN (a + b) (part s)).1 + 1, (stepN (a + b) (part s)).2) := by
        conv => lhs; unfold stepN
        rw [if_neg e]
      have e2 : stepN (a + 1) s = ((stepN a (part s)).1 + 1, (stepN a (part s)).2) := by
        conv => lhs; unfold stepN
        rw [if_neg e]
      rw [show (a + b).succ = a + b + 1 from rfl, e1, e2, ih]
      simp
      omega
end G

/-! The plain theory, part C: begin, make, store, slide keep the invariant. -/
namespace G
open Classical

theorem shadeAll_miss {p : Int} : ∀ {vs : List Vl} {m : Mem}, .held p ∉ vs → get (shadeAll m vs) p = get m p
  | [], _, _ => rfl
  | v :: r, m, hv => by
    show get (shadeAll (shade m v) r) p = _
    rw [shadeAll_miss fun z => hv (List.mem_cons_of_mem _ z)]
    cases v with
    | num n => rfl
    | held q =>
      show get (modT m q toGrey) p = _
      rw [get_modT, if_neg]
      intro z
      subst z
      exact hv List.mem_cons_self

/-! ### begin -/
theorem reach_L {s : St} {L : Int → Prop} (c : Core s L) {p : Int} (h : Reach s.mem s.hands p) : L p := by
  induction h with
  | root h => exact c.hL _ h
  | step _ g hq ih => exact c.fL _ _ _ ih g hq
theorem core_reach {s : St} {L : Int → Prop} (c : Core s L) : Core s (Reach s.mem s.hands) :=
  ⟨c.lay, c.h8, fun p h => c.inL p (reach_L c h), fun _ h => .root h, fun _ _ _ h g hq => .step h g hq⟩
theorem begin_ok {s : St} {L : Int → Prop} (i : Inv s L) (hp : s.ph = .idle) :
    Inv (beginS s) (Reach s.mem s.hands) ∧ Keep L s (beginS s) ∧ nu (Reach s.mem s.hands) (beginS s) = (s.mem.filter fun x => decide (Reach s.mem s.hands x.1)).length + s.mem.length := by
  have c := i.core
  have w := i.idle hp
  have sh := shadeAll_shd s.hands s.mem
  have kp : Keep L s { s with ph := .mark, mem := shadeAll s.mem s.hands } := ⟨rfl, rfl, fun p t _ g => by
    obtain ⟨t', h1, _, h3⟩ := sh.get g
    exact ⟨t', h1, h3⟩⟩
  have kR : Keep (Reach s.mem s.hands) s { s with ph := .mark, mem := shadeAll s.mem s.hands } := ⟨rfl, rfl, fun p t hr g => kp.fs p t (reach_L c hr) g⟩
  have c' : Core { s with ph := .mark, mem := shadeAll s.mem s.hands } (Reach s.mem s.hands) := kR.core (core_reach c) (lay_shadeAll s.hands c.lay)
  have mk : MarkP (shadeAll s.mem s.hands) (Reach s.mem s.hands) := by
    refine ⟨fun p t g nw => ?_, fun p hr => .inr ?_⟩
    · rcases Classical.em (.held p ∈ s.hands) with hm | hm
      · exact .root hm
      · rw [shadeAll_miss hm] at g
        exact absurd (w p t g).2 nw
    · induction hr with
      | root h =>
        obtain ⟨t, g⟩ := c.inL _ (c.hL _ h)
        exact .grey (shadeAll_hit h g) (toGrey_grey (by rw [(w _ t g).2]; decide))
      | step h g hq ih =>
        obtain ⟨t', h1, _, h3⟩ := sh.get g
        have hL := c.fL _ _ _ (reach_L c h) g hq
        obtain ⟨u, gu⟩ := c.inL _ hL
        obtain ⟨u', k1, k2, _⟩ := sh.get gu
        have nb : u.col ≠ .black := by rw [(w _ u gu).2]; decide
        refine .step ih h1 (by rw [h3]; exact hq) k1 ?_
        rcases k2 with k2 | k2
        · rw [k2]; exact nb
        · rw [k2]; exact (toGrey_nb u).mpr nb
  obtain ⟨i2, k2, n2⟩ := settle_mark (s := { s with ph := .mark, mem := shadeAll s.mem s.hands }) c' rfl mk
  have k3 : Keep L { s with ph := .mark, mem := shadeAll s.mem s.hands } (beginS s) := by
    refine ⟨k2.size, k2.hands, fun p t _ g => ?_⟩
    show ∃ t', get (settle { s with ph := .mark, mem := shadeAll s.mem s.hands }).mem p = some t' ∧ _
    have e : (settle { s with ph := .mark, mem := shadeAll s.mem s.hands }).mem = shadeAll s.mem s.hands := by
      unfold settle settle2 settle1
      split <;> split <;> rfl
    rw [e]
    exact ⟨t, g, rfl⟩
  refine ⟨i2, kp.trans k3, n2.trans ?_⟩
  show (List.filter (cL (Reach s.mem s.hands)) (shadeAll s.mem s.hands)).length + (shadeAll s.mem s.hands).length = _
  rw [len_shadeAll, cnt_shadeAll (cL_grey _)]
  congr 2
  refine List.filter_congr fun x hx => ?_
  show (decide (Reach s.mem s.hands x.1) && decide (x.2.col ≠ .black)) = _
  have := (w x.1 x.2 (mem_get c.lay hx)).2
  simp [this]

/-! ### hands -/
theorem mem_set {α : Type} {l : List α} {i : Nat} {x y : α} (h : y ∈ l.set i x) : y ∈ l ∨ y = x := by
  rcases List.mem_or_eq_of_mem_set h with h | h
  · exact .inl h
  · exact .inr h
theorem hands_ok {s : St} {L : Int → Prop} (i : Inv s L) (h : Nat) {v : Vl} (hv : ∀ q, v = .held q → L q) : Inv { s with hands := s.hands.set h v } L := by
  refine ⟨⟨i.core.lay, by rw [List.length_set]; exact i.core.h8, i.core.inL, fun p hp => ?_, i.core.fL⟩, i.idle, i.mark, i.sweep⟩
  rcases mem_set hp with hp | hp
  · exact i.core.hL p hp
  · exact hv p hp.symm
theorem hand_L {s : St} {L : Int → Prop} (c : Core s L) {h : Nat} {q : Int} (e : hand s h = .held q) : L q := by
  unfold hand at e
  rw [List.getD_eq_getElem?_getD] at e
  cases k : s.hands[h]? with
  | none =>
    rw [k] at e
    cases e
  | some v =>
    rw [k] at e
    have e' : v = .held q := e
    subst e'
    exact c.hL q (List.mem_of_getElem? k)

/-! ### store -/
theorem store_ok {s : St} {L : Int → Prop} (i : Inv s L) {p : Int} {f : Nat} {old new : Vl} {t : Th} (hL : L p) (g : get s.mem p = some t) (ho : t.fs[f]? = some old) (hn : ∀ q, new = .held q → L q) : Inv (storeS s p f old new) L := by
  have c := i.core
  have sh0 : ∃ m1, m1 = (if s.ph = .mark then shade s.mem old else s.mem) ∧ Shd s.mem m1 ∧ Lay s.size 0 m1 ∧ (s.ph ≠ .mark → m1 = s.mem) ∧ (s.ph = .mark → m1 = shade s.mem old) := by
    refine ⟨_, rfl, ?_, ?_, fun h => if_neg h, fun h => if_pos h⟩
    · split
      · exact shade_shd _ _
      · exact Shd.refl _
    · split
      · exact lay_shade c.lay _
      · exact c.lay
  obtain ⟨m1, e1, sh, lay1, nm, ym⟩ := sh0
  have es : storeS s p f old new = { s with mem := modT m1 p (setField f new) } := by
    unfold storeS
    rw [← e1]
  rw [es]
  obtain ⟨t1, g1, c1, f1⟩ := sh.get g
  have gg : ∀ q, get (modT m1 p (setField f new)) q = if q = p then some (setField f new t1) else get m1 q := fun q => by
    rw [get_modT]
    split
    · rename_i eq
      subst eq
      rw [g1]
      rfl
    · rfl
  have hold : ∀ q, old = .held q → L q := fun q e => c.fL p q t hL g (by rw [← e]; exact List.mem_of_getElem? ho)
  have lay : Lay s.size 0 (modT m1 p (setField f new)) := lay_modT (f := setField f new) (fun u => by simp [setField]) p lay1
  have core : Core { s with mem := modT m1 p (setField f new) } L := by
    refine ⟨lay, c.h8, fun q hq => ?_, c.hL, fun q r u hq gu hr => ?_⟩
    · show ∃ t, get (modT m1 p (setField f new)) q = some t
      rw [gg]
      split
      · exact ⟨_, rfl⟩
      · obtain ⟨u, gu⟩ := c.inL q hq
        obtain ⟨u', h, _⟩ := sh.get gu
        exact ⟨u', h⟩
    · have gu' : get (modT m1 p (setField f new)) q = some u := gu
      rw [gg] at gu'
      split at gu'
      · rename_i eq
        subst eq
        cases gu'
        have hr' : .held r ∈ t1.fs.set f new := hr
        rw [f1] at hr'
        rcases mem_set hr' with hr' | hr'
        · exact c.fL q r t hL g hr'
        · exact hn r hr'.symm
      · obtain ⟨u0, h0, _, h3⟩ := sh.back gu'
        rw [h3] at hr
        exact c.fL q r u0 hq h0 hr
  refine ⟨core, fun hp => ?_, fun hp => ?_, fun hp => ?_⟩
  · have em : m1 = s.mem := nm (by show s.ph ≠ .mark; rw [show s.ph = .idle from hp]; decide)
    intro q u gu
    have gu' : get (modT m1 p (setField f new)) q = some u := gu
    rw [gg] at gu'
    split at gu'
    · rename_i eq
      subst eq
      cases gu'
      rw [em, g] at g1
      cases g1
      exact i.idle hp q t g
    · rw [em] at gu'
      exact i.idle hp q u gu'
  · obtain ⟨h, hg⟩ := i.mark hp
    have em : m1 = shade s.mem old := ym hp
    refine ⟨⟨fun q u gu nw => ?_, fun q hq => ?_⟩, ?_⟩
    · have gu' : get (modT m1 p (setField f new)) q = some u := gu
      rw [gg] at gu'
      split at gu'
      · rename_i eq
        subst eq
        exact hL
      · rw [em] at gu'
        cases old with
        | num n => exact h.1 q u gu' nw
        | held r =>
          have gu2 : get (modT s.mem r toGrey) q = some u := gu'
          rw [get_modT] at gu2
          split at gu2
          · rename_i eq
            subst eq
            exact hold q rfl
          · exact h.1 q u gu2 nw
    · -- colours in m1 and behind the store are the same; only the fields of p differ
      have col : ∀ r u, get m1 r = some u → ∃ u', get (modT m1 p (setField f new)) r = some u' ∧ u'.col = u.col ∧ (r ≠ p → u' = u) := fun r u gu => by
        rw [gg]
        split
        · rename_i eq
          subst eq
          rw [g1] at gu
          cases gu
          exact ⟨_, rfl, rfl, fun z => absurd rfl z⟩
        · exact ⟨u, gu, rfl, fun _ => rfl⟩
      have key : ∀ r, Gp s.mem r → Gp (modT m1 p (setField f new)) r := fun r k => by
        induction k with
        | @grey r u gu cu =>
          obtain ⟨u1, h1, h2, _⟩ := sh.get gu
          obtain ⟨u2, k1, k2, _⟩ := col r u1 h1
          refine .grey k1 (k2.trans ?_)
          rcases h2 with h2 | h2
          · rw [h2]; exact cu
          · rw [h2, toGrey_of_grey cu]; exact cu
        | @step a r u v _ gu hr gv cv ih =>
          obtain ⟨v1, h1, h2, _⟩ := sh.get gv
          have nb : v1.col ≠ .black := by
            rcases h2 with h2 | h2
            · rw [h2]; exact cv
            · rw [h2]; exact (toGrey_nb v).mpr cv
          obtain ⟨v2, k1, k2, _⟩ := col r v1 h1
          by_cases eo : old = .held r
          · -- what was overwritten was shaded
            have gs : get m1 r = some (toGrey v) := by
              rw [em, eo]
              show get (modT s.mem r toGrey) r = _
              rw [get_modT, if_pos rfl, gv]
              rfl
            rw [h1] at gs
            have ev : v1 = toGrey v := Option.some.inj gs
            exact .grey k1 (by rw [k2, ev]; exact toGrey_grey cv)
          · obtain ⟨u1, l1, _, l3⟩ := sh.get gu
            obtain ⟨u2, n1, n2, n3⟩ := col a u1 l1
            refine .step ih n1 ?_ k1 (by rw [k2]; exact nb)
            by_cases ea : a = p
            · subst ea
              rw [gg, if_pos rfl] at n1
              cases n1
              rw [g1] at l1
              cases l1
              rw [g] at gu
              cases gu
              show .held r ∈ t1.fs.set f new
              rw [f1]
              obtain ⟨j, hj⟩ := List.getElem?_of_mem hr
              have nj : j ≠ f := fun z => by
                rw [z, ho] at hj
                exact eo (Option.some.inj hj)
              refine List.mem_of_getElem? (i := j) ?_
              rw [List.getElem?_set_ne (Ne.symm nj)]
              exact hj
            · rw [n3 ea, l3]
              exact hr
      rcases h.2 q hq with k | k
      · obtain ⟨u, h1, h2⟩ := shd_black sh k
        obtain ⟨u2, k1, k2, _⟩ := col q u h1
        exact .inl ⟨u2, k1, k2.trans h2⟩
      · exact .inr (key q k)
    · cases e : leastGrey s.mem with
      | none => exact absurd e hg
      | some a =>
        obtain ⟨u, gu, cu⟩ := lg_some c.lay e
        obtain ⟨u1, h1, h2, _⟩ := sh.get gu
        have cu1 : u1.col = .grey := by
          rcases h2 with h2 | h2
          · rw [h2]; exact cu
          · rw [h2, toGrey_of_grey cu]; exact cu
        by_cases ea : a = p
        · subst ea
          rw [g1] at h1
          cases h1
          exact lg_of (t := setField f new t1) (by rw [gg, if_pos rfl]) cu1
        · exact lg_of (t := u1) (by rw [gg, if_neg ea]; exact h1) cu1
  · have em : m1 = s.mem := nm (by show s.ph ≠ .mark; rw [show s.ph = .sweep from hp]; decide)
    obtain ⟨h, hg⟩ := i.sweep hp
    refine ⟨fun q u gu => ?_, ?_⟩
    · have gu' : get (modT m1 p (setField f new)) q = some u := gu
      rw [gg] at gu'
      split at gu'
      · rename_i eq
        subst eq
        cases gu'
        rw [em, g] at g1
        cases g1
        exact h q t g
      · rw [em] at gu'
        exact h q u gu'
    · cases e : nextFrom s.mem s.fin with
      | none => exact absurd e hg
      | some a =>
        obtain ⟨h1, ⟨u, gu⟩, _⟩ := nf_some c.lay e
        by_cases ea : a = p
        · exact nf_of (t := setField f new t1) (p := a) (by rw [gg, if_pos ea]) h1
        · exact nf_of (t := u) (p := a) (by rw [gg, if_neg ea, em]; exact gu) h1

/-! ### make -/
theorem make_ok {s : St} {L : Int → Prop} (i : Inv s L) {p : Int} {h m : Nat} (hm : m ≤ 6) (hg : gap s (2 + m) = some p) :
    Inv (makeAt s p h m) (fun q => L q ∨ q = p) ∧ get s.mem p = none := by
  have c := i.core
  obtain ⟨h0, hn, hz, hl⟩ := gap_some (by omega) c.lay hg
  refine ⟨?_, hn⟩
  have nL : ¬ L p := fun z => by
    obtain ⟨t, g⟩ := c.inL p z
    rw [hn] at g
    cases g
  have gg : ∀ q, get (ins p ⟨List.replicate m (.num 0), colourAt s p⟩ s.mem) q = if q = p then some ⟨List.replicate m (.num 0), colourAt s p⟩ else get s.mem q := get_ins _ hn
  have lay := hl ⟨List.replicate m (.num 0), colourAt s p⟩ (by simp [wd]) (by simpa using hm)
  have core : Core (makeAt s p h m) (fun q => L q ∨ q = p) := by
    refine ⟨lay, by show (s.hands.set h _).length = 8; rw [List.length_set]; exact c.h8, fun q hq => ?_, fun q hq => ?_, fun q r t hq g hr => ?_⟩
    · show ∃ t, get (ins p ⟨List.replicate m (.num 0), colourAt s p⟩ s.mem) q = some t
      rw [gg]
      split
      · exact ⟨_, rfl⟩
      · rename_i ne
        rcases hq with hq | hq
        · exact c.inL q hq
        · exact absurd hq ne
    · have hq' : .held q ∈ s.hands.set h (.held p) := hq
      rcases mem_set hq' with hq' | hq'
      · exact .inl (c.hL q hq')
      · exact .inr (Vl.held.inj hq')
    · have g' : get (ins p ⟨List.replicate m (.num 0), colourAt s p⟩ s.mem) q = some t := g
      rw [gg] at g'
      split at g'
      · cases g'
        exact absurd (List.eq_of_mem_replicate hr) (by intro z; cases z)
      · rename_i ne
        rcases hq with hq | hq
        · exact .inl (c.fL q r t hq g' hr)
        · exact absurd hq ne
  refine ⟨core, fun hp q t g => ?_, fun hp => ?_, fun hp => ?_⟩
  · have g' : get (ins p ⟨List.replicate m (.num 0), colourAt s p⟩ s.mem) q = some t := g
    have hp' : s.ph = .idle := hp
    rw [gg] at g'
    split at g'
    · rename_i eq
      cases g'
      exact ⟨.inr eq, by show colourAt s p = .white; unfold colourAt; rw [hp']; simp⟩
    · exact ⟨.inl (i.idle hp q t g').1, (i.idle hp q t g').2⟩
  · have hp' : s.ph = .mark := hp
    obtain ⟨k, hgr⟩ := i.mark hp
    have cb : colourAt s p = .black := by unfold colourAt; rw [hp']; simp
    have old : ∀ q t, get s.mem q = some t → get (ins p ⟨List.replicate m (.num 0), colourAt s p⟩ s.mem) q = some t := fun q t g => by
      rw [gg, if_neg]
      · exact g
      · intro z
        rw [z, hn] at g
        cases g
    refine ⟨⟨fun q t g nw => ?_, fun q hq => ?_⟩, ?_⟩
    · have g' : get (ins p ⟨List.replicate m (.num 0), colourAt s p⟩ s.mem) q = some t := g
      rw [gg] at g'
      split at g'
      · rename_i eq
        exact .inr eq
      · exact .inl (k.1 q t g' nw)
    · rcases hq with hq | hq
      · rcases k.2 q hq with z | z
        · obtain ⟨t, g, b⟩ := z
          exact .inl ⟨t, old q t g, b⟩
        · refine .inr ?_
          clear hq
          induction z with
          | grey g cg => exact .grey (old _ _ g) cg
          | step _ g hr g2 c2 ih => exact .step ih (old _ _ g) hr (old _ _ g2) c2
      · refine .inl ⟨_, by show get (ins p ⟨List.replicate m (.num 0), colourAt s p⟩ s.mem) q = some _; rw [gg, if_pos hq], cb⟩
    · cases e : leastGrey s.mem with
      | none => exact absurd e hgr
      | some a =>
        obtain ⟨u, gu, cu⟩ := lg_some c.lay e
        exact lg_of (old a u gu) cu
  · have hp' : s.ph = .sweep := hp
    obtain ⟨k, hgr⟩ := i.sweep hp
    refine ⟨fun q t g => ?_, ?_⟩
    · have g' : get (ins p ⟨List.replicate m (.num 0), colourAt s p⟩ s.mem) q = some t := g
      rw [gg] at g'
      split at g'
      · rename_i eq
        subst eq
        cases g'
        by_cases z : s.fin ≤ q
        · have cb : colourAt s q = .black := by unfold colourAt; rw [hp']; simp [z]
          refine ⟨(by rw [cb]; exact fun w => (by cases w)), ⟨fun _ => .inr cb, fun _ => .inr rfl⟩, fun z2 => ?_⟩
          have z3 : q < s.fin := z2
          omega
        · have cb : colourAt s q = .white := by unfold colourAt; rw [hp']; simp [z]
          exact ⟨(by rw [cb]; exact fun w => (by cases w)), ⟨fun _ => .inl (by show q < s.fin; omega), fun _ => .inr rfl⟩, fun _ => cb⟩
      · rename_i ne
        obtain ⟨k1, k2, k3⟩ := k q t g'
        refine ⟨k1, ⟨fun z => ?_, fun z => .inl (k2.mpr z)⟩, k3⟩
        rcases z with z | z
        · exact k2.mp z
        · exact absurd z ne
    · cases e : nextFrom s.mem s.fin with
      | none => exact absurd e hgr
      | some a =>
        obtain ⟨h1, ⟨u, gu⟩, _⟩ := nf_some c.lay e
        refine nf_of (t := u) (p := a) ?_ h1
        show get (ins p ⟨List.replicate m (.num 0), colourAt s p⟩ s.mem) a = some u
        rw [gg, if_neg]
        · exact gu
        · intro z
          rw [z, hn] at gu
          cases gu

/-! ### slide -/
def movT (ρ : List (Int × Int)) (t : Th) : Th := { t with fs := t.fs.map (mv ρ) }
theorem wd_movT (ρ : List (Int × Int)) (t : Th) : wd (movT ρ t) = wd t := by simp [wd, movT]
theorem look_ge {z : Int} : ∀ {m : Mem} {a b p : Int} {t : Th}, Lay z a m → get m p = some t → b ≤ look (newPl b m) p
  | [], _, _, _, _, _, h => by cases h
  | x :: r, a, b, p, t, hl, h => by
    unfold get at h
    show b ≤ look ((x.1, b) :: newPl (b + wd x.2) r) p
    unfold look
    by_cases e : x.1 = p
    · rw [if_pos e]
      exact Int.le_refl _
    · rw [if_neg e] at h
      rw [if_neg e]
      have := look_ge (b := b + wd x.2) hl.2.2 h
      have := wd_pos x.2
      omega
/-- later things go to later places -/
theorem look_lt {z : Int} : ∀ {m : Mem} {a b p q : Int} {t u : Th}, Lay z a m → get m p = some t → get m q = some u → p < q → look (newPl b m) p + wd t ≤ look (newPl b m) q
  | [], _, _, _, _, _, _, _, h, _, _ => by cases h
  | x :: r, a, b, p, q, t, u, hl, h, h', lt => by
    unfold get at h h'
    show look ((x.1, b) :: newPl (b + wd x.2) r) p + wd t ≤ look ((x.1, b) :: newPl (b + wd x.2) r) q
    unfold look
    by_cases e : x.1 = p
    · rw [if_pos e] at h
      cases h
      rw [if_neg (by omega)] at h'
      rw [if_pos e, if_neg (by omega)]
      exact look_ge hl.2.2 h'
    · rw [if_neg e] at h
      by_cases e' : x.1 = q
      · have := (lay_get hl.2.2 h).1
        have := wd_pos x.2
        omega
      · rw [if_neg e'] at h'
        rw [if_neg e, if_neg e']
        exact look_lt hl.2.2 h h' lt
theorem look_inj {z a b p q : Int} {m : Mem} {t u : Th} (hl : Lay z a m) (h : get m p = some t) (h' : get m q = some u) (e : look (newPl b m) p = look (newPl b m) q) : p = q := by
  rcases Int.lt_trichotomy p q with l | l | l
  · have := look_lt (b := b) hl h h' l
    have := wd_pos t
    omega
  · exact l
  · have := look_lt (b := b) hl h' h l
    have := wd_pos u
    omega
theorem lay_slide {z : Int} (ρ : List (Int × Int)) : ∀ {m : Mem} {a b : Int}, Lay z a m → b ≤ a → Lay z b (slideM ρ b m)
  | [], a, b, h, hb => Int.le_trans hb h
  | x :: r, a, b, h, hb => by
    have := h.1
    refine ⟨Int.le_refl _, by simpa using h.2.1, ?_⟩
    show Lay z (b + wd (movT ρ x.2)) _
    rw [wd_movT]
    exact lay_slide ρ h.2.2 (by omega)
theorem get_slide {z : Int} (ρ : List (Int × Int)) : ∀ {m : Mem} {a b p : Int} {t : Th}, Lay z a m → get m p = some t → get (slideM ρ b m) (look (newPl b m) p) = some (movT ρ t)
  | [], _, _, _, _, _, h => by cases h
  | x :: r, a, b, p, t, hl, h => by
    unfold get at h
    show get ((b, movT ρ x.2) :: slideM ρ (b + wd x.2) r) (look ((x.1, b) :: newPl (b + wd x.2) r) p) = _
    unfold look
    by_cases e : x.1 = p
    · rw [if_pos e] at h
      cases h
      rw [if_pos e]
      simp [get]
    · rw [if_neg e] at h
      rw [if_neg e]
      have := look_ge (b := b + wd x.2) hl.2.2 h
      have := wd_pos x.2
      unfold get
      rw [if_neg (by show ¬ b = _; omega)]
      exact get_slide ρ hl.2.2 h
theorem slide_get {ρ : List (Int × Int)} {z : Int} : ∀ {m : Mem} {a b q : Int} {t : Th}, Lay z a m → get (slideM ρ b m) q = some t → ∃ p u, get m p = some u ∧ q = look (newPl b m) p ∧ t = movT ρ u
  | [], _, _, _, _, _, h => by cases h
  | x :: r, a, b, q, t, hl, h => by
    have h' : get ((b, movT ρ x.2) :: slideM ρ (b + wd x.2) r) q = some t := h
    unfold get at h'
    by_cases e : b = q
    · rw [if_pos e] at h'
      cases h'
      refine ⟨x.1, x.2, by simp [get], ?_, rfl⟩
      show q = look ((x.1, b) :: newPl (b + wd x.2) r) x.1
      unfold look
      rw [if_pos rfl]
      exact e.symm
    · rw [if_neg e] at h'
      obtain ⟨p, u, h1, h2, h3⟩ := slide_get hl.2.2 h'
      have := (lay_get hl.2.2 h1).1
      have := wd_pos x.2
      refine ⟨p, u, ?_, ?_, h3⟩
      · unfold get
        rw [if_neg (by omega)]
        exact h1
      · show q = look ((x.1, b) :: newPl (b + wd x.2) r) p
        unfold look
        rw [if_neg (by omega)]
        exact h2
abbrev rho (s : St) : List (Int × Int) := newPl 0 s.mem
theorem slide_ok {s : St} {L : Int → Prop} (i : Inv s L) (hp : s.ph = .idle) : Inv (slideS s) (fun q => ∃ p, L p ∧ q = look (rho s) p) := by
  have c := i.core
  have w := i.idle hp
  have core : Core (slideS s) (fun q => ∃ p, L p ∧ q = look (rho s) p) := by
    refine ⟨lay_slide _ c.lay (Int.le_refl 0), by show (s.hands.map _).length = 8; rw [List.length_map]; exact c.h8, ?_, ?_, ?_⟩
    · rintro q ⟨p, hL, rfl⟩
      obtain ⟨t, g⟩ := c.inL p hL
      exact ⟨_, get_slide _ c.lay g⟩
    · intro q hq
      obtain ⟨v, hv, e⟩ := List.mem_map.mp (show .held q ∈ s.hands.map (mv (rho s)) from hq)
      cases v with
      | num n => cases e
      | held p =>
        refine ⟨p, c.hL p hv, ?_⟩
        have e2 : look (rho s) p = q := Vl.held.inj e
        exact e2.symm
    · rintro q r t ⟨p, hL, rfl⟩ g hr
      obtain ⟨u, gu⟩ := c.inL p hL
      have g2 := get_slide (rho s) (b := 0) c.lay gu
      have g3 : get (slideM (rho s) 0 s.mem) (look (rho s) p) = some t := g
      rw [g2] at g3
      cases g3
      obtain ⟨v, hv, e⟩ := List.mem_map.mp (show .held r ∈ u.fs.map (mv (rho s)) from hr)
      cases v with
      | num n => cases e
      | held p2 =>
        refine ⟨p2, c.fL p p2 u hL gu hv, ?_⟩
        have e2 : look (rho s) p2 = r := Vl.held.inj e
        exact e2.symm
  refine ⟨core, fun _ q t g => ?_, fun z => ?_, fun z => ?_⟩
  · obtain ⟨p, u, h1, h2, h3⟩ := slide_get c.lay (show get (slideM (rho s) 0 s.mem) q = some t from g)
    refine ⟨⟨p, (w p u h1).1, h2⟩, ?_⟩
    rw [h3]
    exact (w p u h1).2
  · rw [show (slideS s).ph = s.ph from rfl, hp] at z
    cases z
  · rw [show (slideS s).ph = s.ph from rfl, hp] at z
    cases z
theorem lay_len {z : Int} : ∀ {m : Mem} {a : Int}, Lay z a m → 2 * (m.length : Int) ≤ z - a
  | [], a, h => by
    have : a ≤ z := h
    simp
    omega
  | x :: r, a, h => by
    have ih := lay_len h.2.2
    have := h.1
    have := wd_pos x.2
    rw [List.length_cons]
    omega
theorem inv_new {n : Int} (h : 0 ≤ n) : Inv (newS n) (fun _ => False) := by
  refine ⟨⟨h, rfl, fun p hp => hp.elim, fun p hp => ?_, fun _ _ _ hp => hp.elim⟩, fun _ p t g => (by cases g), (fun z => by cases z), (fun z => by cases z)⟩
  exact absurd (List.eq_of_mem_replicate (show .held p ∈ List.replicate 8 (Vl.num 0) from hp)) (by intro z; cases z)
/-- behind collect: idle, and just what hands came to is there -/
theorem collect_ok {s : St} {L : Int → Prop} (i : Inv s L) : ∃ s1, Keep L s s1 ∧ Inv s1 L ∧ s1.ph = .idle ∧ ∃ s2, Keep (Reach s1.mem s1.hands) s1 s2 ∧ Inv s2 (Reach s1.mem s1.hands) ∧ s2.ph = .idle ∧ collect s = slideS s2 := by
  obtain ⟨i1, k1, _, h1⟩ := finish_ok i
  obtain ⟨i2, k2, _⟩ := begin_ok i1 h1
  obtain ⟨i3, k3, _, h3⟩ := finish_ok i2
  refine ⟨_, k1, i1, h1, _, ?_, i3, h3, rfl⟩
  have k2' : Keep (Reach (finishS s).2.mem (finishS s).2.hands) (finishS s).2 (beginS (finishS s).2) := ⟨k2.size, k2.hands, fun p t hp g => k2.fs p t (reach_L i1.core hp) g⟩
  exact k2'.trans k3
end G

/-! The plain theory, part D: the acts that the laws draw, and that each keeps the invariant. -/
namespace G
open Classical
def mixI (c p m : Int) : Int := c * 48271 % p % m
theorem mixI_nn {c p m : Int} (hm : 0 < m) : 0 ≤ mixI c p m := Int.emod_nonneg _ (by omega)
theorem mixI_lt {c p m : Int} (hm : 0 < m) : mixI c p m < m := Int.emod_lt_of_pos _ hm
theorem mixI_nat {c p m : Int} (hm : 0 < m) : ((mixI c p m).toNat : Int) = mixI c p m := Int.toNat_of_nonneg (mixI_nn hm)
def handOf (c : Int) : Int := mixI c 9973 (if c % 3 = 0 then 8 else 5)
def otherOf (c : Int) : Int := mixI c 9967 (if c % 3 = 1 then 8 else 5)
def fieldOf (c : Int) : Int := mixI c 9931 (if c % 2 = 0 then 4 else 6)
def turnOf (c : Int) : Int := mixI c 9949 17
def actOf (c : Int) (sw : Bool) : Act :=
  if turnOf c < 4 then .make (handOf c).toNat (mixI c 9941 7).toNat
  else if turnOf c < 8 then .store (handOf c).toNat (fieldOf c) (otherOf c).toNat
  else if turnOf c < 10 then .load (handOf c).toNat (otherOf c).toNat (fieldOf c)
  else if turnOf c = 10 then .copy (handOf c).toNat (otherOf c).toNat
  else if turnOf c = 11 ∨ sw = false then .number (handOf c).toNat c
  else if turnOf c = 12 then .begin
  else if turnOf c = 13 then .slide
  else if turnOf c = 14 then .finish
  else .step (mixI c 9929 (if c % 8 = 0 then 41 else 7)).toNat
def acts (ns : List Int) (sw : Bool) : List Act := .make 0 3 :: .make 1 2 :: ((ns.drop 1).take 62).map fun c => actOf c sw
def sizeOfS (ns : List Int) : Int := if ns.getD 0 0 % 4 = 0 then 4 + mixI (ns.getD 0 0) 9923 197 else 20 + mixI (ns.getD 0 0) 9923 40
theorem sizeOfS_ge (ns : List Int) : 4 ≤ sizeOfS ns ∧ sizeOfS ns ≤ 200 := by
  unfold sizeOfS
  split
  · have := mixI_nn (c := ns.getD 0 0) (p := 9923) (m := 197) (by decide)
    have := mixI_lt (c := ns.getD 0 0) (p := 9923) (m := 197) (by decide)
    omega
  · have := mixI_nn (c := ns.getD 0 0) (p := 9923) (m := 40) (by decide)
    have := mixI_lt (c := ns.getD 0 0) (p := 9923) (m := 40) (by decide)
    omega
/-- what an act asks of its numbers -/
def ActOk : Act → Prop
  | .make h m => h < 8 ∧ m ≤ 6
  | .store h f o => h < 8 ∧ o < 8 ∧ 0 ≤ f
  | .load h o f => h < 8 ∧ o < 8 ∧ 0 ≤ f
  | .copy h o => h < 8 ∧ o < 8
  | .number h _ => h < 8
  | _ => True
theorem hand_lt (c : Int) : (handOf c).toNat < 8 ∧ (otherOf c).toNat < 8 ∧ 0 ≤ handOf c ∧ 0 ≤ otherOf c := by
  unfold handOf otherOf
  have h1 : 0 < (if c % 3 = 0 then (8 : Int) else 5) ∧ (if c % 3 = 0 then (8 : Int) else 5) ≤ 8 := by split <;> decide
  have h2 : 0 < (if c % 3 = 1 then (8 : Int) else 5) ∧ (if c % 3 = 1 then (8 : Int) else 5) ≤ 8 := by split <;> decide
  have a1 := mixI_nn (c := c) (p := 9973) h1.1
  have a2 := mixI_lt (c := c) (p := 9973) h1.1
  have b1 := mixI_nn (c := c) (p := 9967) h2.1
  have b2 := mixI_lt (c := c) (p := 9967) h2.1
  omega
theorem field_nn (c : Int) : 0 ≤ fieldOf c ∧ fieldOf c < 6 := by
  unfold fieldOf
  have h1 : 0 < (if c % 2 = 0 then (4 : Int) else 6) ∧ (if c % 2 = 0 then (4 : Int) else 6) ≤ 6 := by split <;> decide
  have a1 := mixI_nn (c := c) (p := 9931) h1.1
  have a2 := mixI_lt (c := c) (p := 9931) h1.1
  omega
theorem actOf_ok (c : Int) (sw : Bool) : ActOk (actOf c sw) := by
  obtain ⟨h1, h2, _, _⟩ := hand_lt c
  have h3 := (field_nn c).1
  unfold actOf
  split
  · refine ⟨h1, ?_⟩
    have := mixI_nn (c := c) (p := 9941) (m := 7) (by decide)
    have := mixI_lt (c := c) (p := 9941) (m := 7) (by decide)
    omega
  · split
    · exact ⟨h1, h2, h3⟩
    · split
      · exact ⟨h1, h2, h3⟩
      · split
        · exact ⟨h1, h2⟩
        · split
          · exact h1
          · split
            · trivial
            · split
              · trivial
              · split <;> trivial
theorem acts_ok {ns : List Int} {sw : Bool} {a : Act} (h : a ∈ acts ns sw) : ActOk a := by
  unfold acts at h
  rcases List.mem_cons.mp h with rfl | h
  · exact ⟨by decide, by decide⟩
  · rcases List.mem_cons.mp h with rfl | h
    · exact ⟨by decide, by decide⟩
    · obtain ⟨c, _, rfl⟩ := List.mem_map.mp h
      exact actOf_ok c sw
theorem acts_len (ns : List Int) (sw : Bool) : (acts ns sw).length ≤ 64 := by
  unfold acts
  simp only [List.length_cons, List.length_map, List.length_take]
  omega

/-! ### each act keeps the invariant -/
theorem size_makeS (s : St) (h m : Nat) {L : Int → Prop} (i : Inv s L) : (makeS s h m).2.size = s.size := by
  have e : (collect s).size = s.size := by
    obtain ⟨s1, k1, i1, p1, s2, k2, i2, p2, e⟩ := collect_ok i
    rw [e]
    exact k2.size.trans k1.size
  unfold makeS
  split
  · rfl
  · split
    · exact e
    · exact e
theorem makeS_inv {s : St} {L : Int → Prop} (i : Inv s L) {h m : Nat} (hm : m ≤ 6) : ∃ L', Inv (makeS s h m).2 L' := by
  unfold makeS
  split
  · rename_i p hg
    exact ⟨_, (make_ok i hm hg).1⟩
  · obtain ⟨s1, k1, i1, p1, s2, k2, i2, p2, e⟩ := collect_ok i
    have i3 := slide_ok i2 p2
    rw [← e] at i3
    split
    · rename_i p hg
      exact ⟨_, (make_ok i3 hm hg).1⟩
    · exact ⟨_, i3⟩
theorem fres_L {s : St} {L : Int → Prop} (c : Core s L) {h : Nat} {f p : Int} {t : Th} {v : Vl} (e : fres s h f = .ok p t v) : L p ∧ ∀ q, v = .held q → L q := by
  obtain ⟨e1, g, _, _, hv⟩ := fres_ok e
  have hL := hand_L c e1
  exact ⟨hL, fun q eq => c.fL p q t hL g (by rw [← eq]; exact List.mem_of_getElem? hv)⟩
theorem act_inv {s : St} {L : Int → Prop} (i : Inv s L) {a : Act} (ok : ActOk a) : ∃ L', Inv (doAct s a).2 L' := by
  cases a with
  | make h m =>
    obtain ⟨L', k⟩ := makeS_inv (h := h) i ok.2
    refine ⟨L', ?_⟩
    unfold doAct
    dsimp only
    split <;> exact k
  | store h f o =>
    unfold doAct
    cases e : fres s h f with
    | noThing => simp only [e]; exact ⟨L, i⟩
    | noField => simp only [e]; exact ⟨L, i⟩
    | ok p t v =>
      simp only [e]
      obtain ⟨hL, _⟩ := fres_L i.core e
      obtain ⟨e1, g, _, _, hv⟩ := fres_ok e
      exact ⟨L, store_ok i hL g hv fun q eq => hand_L i.core eq⟩
  | load h o f =>
    unfold doAct
    cases e : fres s o f with
    | noThing => simp only [e]; exact ⟨L, i⟩
    | noField => simp only [e]; exact ⟨L, i⟩
    | ok p t v =>
      simp only [e]
      exact ⟨L, hands_ok i h (fres_L i.core e).2⟩
  | copy h o => exact ⟨L, hands_ok i h fun q e => hand_L i.core e⟩
  | number h n => exact ⟨L, hands_ok i h fun q e => by cases e⟩
  | begin =>
    unfold doAct
    dsimp only
    split
    · rename_i e
      exact ⟨_, (begin_ok i e).1⟩
    · exact ⟨L, i⟩
  | slide =>
    unfold doAct
    dsimp only
    split
    · rename_i e
      exact ⟨_, slide_ok i e⟩
    · exact ⟨L, i⟩
  | finish => exact ⟨L, (finish_ok i).1⟩
  | step n => exact ⟨L, (stepN_ok n i).1⟩
theorem settle_size (s : St) : (settle s).size = s.size := by
  unfold settle settle2 settle1
  split <;> split <;> rfl
theorem act_size {s : St} {L : Int → Prop} (i : Inv s L) (a : Act) : (doAct s a).2.size = s.size := by
  cases a with
  | make h m =>
    unfold doAct
    dsimp only
    split <;> exact size_makeS s h m i
  | store h f o =>
    unfold doAct
    cases e : fres s h f <;> simp only [e] <;> rfl
  | load h o f =>
    unfold doAct
    cases e : fres s o f <;> simp only [e] <;> rfl
  | copy h o => rfl
  | number h n => rfl
  | begin =>
    unfold doAct
    dsimp only
    split
    · exact settle_size _
    · rfl
  | slide =>
    unfold doAct
    dsimp only
    split <;> rfl
  | finish => exact (finish_ok i).2.1.size
  | step n => exact (stepN_ok n i).2.1.size
/-- the state and what is told behind each act -/
def runActs (s : St) : List Act → St
  | [] => s
  | a :: r => runActs (doAct s a).2 r
end G

/-! The plain theory, part E: the order in which things are come to; it goes with places that are told otherwise. -/
namespace G
open Classical
/-- one value more: a thing that is new stands last -/
def addV (o : List Int) : Vl → List Int
  | .num _ => o
  | .held q => if q ∈ o then o else o ++ [q]
theorem addV_held (o : List Int) (q : Int) : addV o (.held q) = if q ∈ o then o else o ++ [q] := rfl
def addNew (o : List Int) (vs : List Vl) : List Int := vs.foldl addV o
theorem addNew_cons (o : List Int) (v : Vl) (r : List Vl) : addNew o (v :: r) = addNew (addV o v) r := rfl
def ordF (fd : Int → List Vl) : Nat → Nat → List Int → List Int
  | 0, _, o => o
  | n + 1, k, o => match o[k]? with
    | none => o
    | some x => ordF fd n (k + 1) (addNew o (fd x))
theorem ordF_none {fd : Int → List Vl} {n k : Nat} {o : List Int} (h : o[k]? = none) : ordF fd n k o = o := by
  cases n with
  | zero => rfl
  | succ n => simp only [ordF, h]
theorem ordF_some {fd : Int → List Vl} {n k : Nat} {o : List Int} {x : Int} (h : o[k]? = some x) : ordF fd (n + 1) k o = ordF fd n (k + 1) (addNew o (fd x)) := by simp only [ordF, h]
theorem addV_pre (o : List Int) (v : Vl) : o <+: addV o v := by
  cases v with
  | num n => exact List.prefix_rfl
  | held q =>
    rw [addV_held]
    split
    · exact List.prefix_rfl
    · exact List.prefix_append _ _
theorem addNew_pre : ∀ (vs : List Vl) (o : List Int), o <+: addNew o vs
  | [], o => List.prefix_rfl
  | v :: r, o => (addV_pre o v).trans (addNew_pre r (addV o v))
theorem ordF_pre (fd : Int → List Vl) : ∀ (n k : Nat) (o : List Int), o <+: ordF fd n k o
  | 0, _, o => List.prefix_rfl
  | n + 1, k, o => by
    cases h : o[k]? with
    | none => rw [ordF_none h]; exact List.prefix_rfl
    | some x => rw [ordF_some h]; exact (addNew_pre _ _).trans (ordF_pre fd n (k + 1) _)
theorem addV_nodup {o : List Int} (h : o.Nodup) (v : Vl) : (addV o v).Nodup := by
  cases v with
  | num n => exact h
  | held q =>
    rw [addV_held]
    split
    · exact h
    · rename_i c
      refine List.nodup_append.mpr ⟨h, by simp, fun a ha b hb => ?_⟩
      obtain rfl := List.mem_singleton.mp hb
      exact fun e => c (e ▸ ha)
theorem addNew_nodup : ∀ (vs : List Vl) {o : List Int}, o.Nodup → (addNew o vs).Nodup
  | [], _, h => h
  | v :: r, _, h => addNew_nodup r (addV_nodup h v)
theorem addV_mem {o : List Int} {v : Vl} {x : Int} : x ∈ addV o v ↔ x ∈ o ∨ v = .held x := by
  cases v with
  | num n => simp [addV]
  | held q =>
    rw [addV_held]
    split
    · rename_i c
      constructor
      · exact .inl
      · rintro (h | h)
        · exact h
        · cases h; exact c
    · simp [eq_comm, List.mem_append]
theorem addNew_mem : ∀ (vs : List Vl) {o : List Int} {x : Int}, x ∈ addNew o vs ↔ x ∈ o ∨ .held x ∈ vs
  | [], o, x => by simp [addNew]
  | v :: r, o, x => by
    rw [addNew_cons, addNew_mem r, addV_mem, List.mem_cons, or_assoc]
    constructor <;> (rintro (h | h | h); exact .inl h; exact .inr (.inl h.symm); exact .inr (.inr h))
/-- a domain closed under fields -/
def ClosedD (fd : Int → List Vl) (D : Int → Prop) : Prop := ∀ x q, D x → .held q ∈ fd x → D q
theorem addNew_D {D : Int → Prop} {o : List Int} {vs : List Vl} (h : ∀ x ∈ o, D x) (hv : ∀ q, .held q ∈ vs → D q) : ∀ x ∈ addNew o vs, D x := fun x hx => by
  rcases (addNew_mem vs).mp hx with h' | h'
  · exact h x h'
  · exact hv x h'
theorem ordF_D {fd : Int → List Vl} {D : Int → Prop} (c : ClosedD fd D) : ∀ (n k : Nat) {o : List Int}, (∀ x ∈ o, D x) → ∀ x ∈ ordF fd n k o, D x
  | 0, _, _, h => h
  | n + 1, k, o, h => by
    cases e : o[k]? with
    | none => rw [ordF_none e]; exact h
    | some y => rw [ordF_some e]; exact ordF_D c n (k + 1) (addNew_D h fun q hq => c y q (h y (List.mem_of_getElem? e)) hq)
theorem ordF_nodup {fd : Int → List Vl} : ∀ (n k : Nat) {o : List Int}, o.Nodup → (ordF fd n k o).Nodup
  | 0, _, _, h => h
  | n + 1, k, o, h => by
    cases e : o[k]? with
    | none => rw [ordF_none e]; exact h
    | some y => rw [ordF_some e]; exact ordF_nodup n (k + 1) (addNew_nodup _ h)
/-! ### told otherwise -/
def mvf (f : Int → Int) : Vl → Vl
  | .num n => .num n
  | .held q => .held (f q)
theorem mem_map_inj {f : Int → Int} {D : Int → Prop} (inj : ∀ a b, D a → D b → f a = f b → a = b) {o : List Int} (ho : ∀ x ∈ o, D x) {q : Int} (hq : D q) : f q ∈ o.map f ↔ q ∈ o := by
  constructor
  · intro h
    obtain ⟨a, ha, e⟩ := List.mem_map.mp h
    rw [← inj a q (ho a ha) hq e]
    exact ha
  · exact fun h => List.mem_map.mpr ⟨q, h, rfl⟩
theorem addV_map {f : Int → Int} {D : Int → Prop} (inj : ∀ a b, D a → D b → f a = f b → a = b) {o : List Int} (ho : ∀ x ∈ o, D x) {v : Vl} (hv : ∀ q, v = .held q → D q) : addV (o.map f) (mvf f v) = (addV o v).map f := by
  cases v with
  | num n => rfl
  | held q =>
    show (if f q ∈ o.map f then o.map f else o.map f ++ [f q]) = (if q ∈ o then o else o ++ [q]).map f
    by_cases c : q ∈ o
    · rw [if_pos c, if_pos ((mem_map_inj inj ho (hv q rfl)).mpr c)]
    · rw [if_neg c, if_neg (fun z => c ((mem_map_inj inj ho (hv q rfl)).mp z)), List.map_append]
      rfl
theorem addNew_map {f : Int → Int} {D : Int → Prop} (inj : ∀ a b, D a → D b → f a = f b → a = b) : ∀ (vs : List Vl) {o : List Int}, (∀ x ∈ o, D x) → (∀ q, .held q ∈ vs → D q) → addNew (o.map f) (vs.map (mvf f)) = (addNew o vs).map f
  | [], _, _, _ => rfl
  | v :: r, o, ho, hv => by
    have hv1 : ∀ q, v = .held q → D q := fun q e => hv q (e ▸ List.mem_cons_self)
    rw [List.map_cons, addNew_cons, addNew_cons, addV_map inj ho hv1]
    refine addNew_map inj r (fun x hx => ?_) fun q hq => hv q (List.mem_cons_of_mem _ hq)
    rcases addV_mem.mp hx with h | h
    · exact ho x h
    · exact hv1 x h
/-- the two hands of a move: fields go with f on the domain -/
structure Moves (f : Int → Int) (D : Int → Prop) (fd gd : Int → List Vl) : Prop where
  inj : ∀ a b, D a → D b → f a = f b → a = b
  cl : ClosedD fd D
  go : ∀ x, D x → gd (f x) = (fd x).map (mvf f)
theorem ordF_map {f : Int → Int} {D : Int → Prop} {fd gd : Int → List Vl} (M : Moves f D fd gd) : ∀ (n k : Nat) {o : List Int}, (∀ x ∈ o, D x) → ordF gd n k (o.map f) = (ordF fd n k o).map f
  | 0, _, _, _ => rfl
  | n + 1, k, o, ho => by
    cases e : o[k]? with
    | none => rw [ordF_none e, ordF_none (by rw [List.getElem?_map, e]; rfl)]
    | some y =>
      have hy := ho y (List.mem_of_getElem? e)
      rw [ordF_some e, ordF_some (x := f y) (by rw [List.getElem?_map, e]; rfl), M.go y hy, addNew_map M.inj _ ho fun q hq => M.cl y q hy hq]
      exact ordF_map M n (k + 1) (addNew_D ho fun q hq => M.cl y q hy hq)
/-- the place of a thing in an order -/
def ixOf (q : Int) (o : List Int) : Nat := o.idxOf q
theorem ixOf_map {f : Int → Int} {D : Int → Prop} (inj : ∀ a b, D a → D b → f a = f b → a = b) : ∀ {o : List Int}, (∀ x ∈ o, D x) → ∀ {q : Int}, D q → ixOf (f q) (o.map f) = ixOf q o
  | [], _, _, _ => rfl
  | x :: r, ho, q, hq => by
    have ih := ixOf_map inj (o := r) (fun x hx => ho x (List.mem_cons_of_mem _ hx)) hq
    unfold ixOf at *
    rw [List.map_cons, List.idxOf_cons, List.idxOf_cons, ih]
    by_cases c : x = q
    · subst c; simp
    · have c2 : ¬ f x = f q := fun e => c (inj x q (ho x List.mem_cons_self) hq e)
      rw [beq_eq_false_iff_ne.mpr c, beq_eq_false_iff_ne.mpr c2]
theorem ixOf_pre {o o' : List Int} (h : o <+: o') {q : Int} (hq : q ∈ o) : ixOf q o' = ixOf q o := by
  obtain ⟨r, rfl⟩ := h
  unfold ixOf
  induction o with
  | nil => cases hq
  | cons x o ih =>
    rw [List.cons_append, List.idxOf_cons, List.idxOf_cons]
    by_cases c : x = q
    · subst c; simp
    · rw [beq_eq_false_iff_ne.mpr c]
      rcases List.mem_cons.mp hq with e | hq
      · exact absurd e.symm c
      · rw [ih hq]
theorem ixOf_get {o : List Int} {q : Int} (hq : q ∈ o) : o[ixOf q o]? = some q := by
  unfold ixOf
  rw [List.getElem?_eq_getElem (List.idxOf_lt_length_of_mem hq)]
  simp
theorem ixOf_first {o : List Int} {q : Int} {j : Nat} (h : j < ixOf q o) : o[j]? ≠ some q := by
  induction o generalizing j with
  | nil => simp
  | cons x r ih =>
    unfold ixOf at h ih
    rw [List.idxOf_cons] at h
    by_cases c : x = q
    · subst c; simp at h
    · rw [beq_eq_false_iff_ne.mpr c] at h
      cases j with
      | zero => simpa using c
      | succ j => simpa using ih (by simpa using h)
/-! ### how far an order goes -/
theorem nodup_len : ∀ {o P : List Int}, o.Nodup → (∀ x ∈ o, x ∈ P) → o.length ≤ P.length
  | [], _, _, _ => Nat.zero_le _
  | x :: r, P, nd, h => by
    obtain ⟨n1, n2⟩ := List.nodup_cons.mp nd
    have hx := h x List.mem_cons_self
    have ih := nodup_len (P := P.erase x) n2 fun y hy => (List.mem_erase_of_ne (fun (e : y = x) => n1 (by rw [← e]; exact hy))).mpr (h y (List.mem_cons_of_mem _ hy))
    rw [List.length_erase_of_mem hx] at ih
    have : 0 < P.length := List.length_pos_of_mem hx
    rw [List.length_cons]
    omega
/-- with fuel enough all fields are told -/
theorem ordF_closed {fd : Int → List Vl} {P : List Int} (hP : ∀ q, (∃ x ∈ P, .held q ∈ fd x) → q ∈ P) : ∀ (n k : Nat) {o : List Int}, o.Nodup → (∀ x ∈ o, x ∈ P) → k ≤ o.length → P.length ≤ n + k → (∀ x ∈ o.take k, ∀ q, .held q ∈ fd x → q ∈ o) →
    ∀ x ∈ ordF fd n k o, ∀ q, .held q ∈ fd x → q ∈ ordF fd n k o
  | 0, k, o, nd, hs, hk, hn, hc => by
    have hl : o.length ≤ P.length := nodup_len nd hs
    intro x hx
    exact hc x (by rw [List.take_of_length_le (by omega)]; exact hx)
  | n + 1, k, o, nd, hs, hk, hn, hc => by
    cases e : o[k]? with
    | none =>
      rw [ordF_none e]
      have := List.getElem?_eq_none_iff.mp e
      intro x hx
      exact hc x (by rw [List.take_of_length_le (by omega)]; exact hx)
    | some y =>
      rw [ordF_some e]
      have hkl := (List.getElem?_eq_some_iff.mp e).1
      have pre := addNew_pre (fd y) o
      refine ordF_closed hP n (k + 1) (addNew_nodup _ nd) (addNew_D hs fun q hq => hP q ⟨y, hs y (List.mem_of_getElem? e), hq⟩) (by have := pre.length_le; omega) (by omega) fun x hx q hq => ?_
      have ht : (addNew o (fd y)).take (k + 1) = o.take (k + 1) := by
        obtain ⟨r, hr⟩ := pre
        rw [← hr, List.take_append_of_le_length (by omega)]
      rw [ht, List.take_add_one, e] at hx
      rcases List.mem_append.mp hx with hx | hx
      · exact (addNew_mem _).mpr (.inl (hc x hx q hq))
      · simp at hx
        subst hx
        exact (addNew_mem _).mpr (.inr hq)
def fieldsS (s : St) (p : Int) : List Vl := match get s.mem p with
  | some t => t.fs
  | none => []
theorem fieldsS_some {s : St} {p : Int} {t : Th} (g : get s.mem p = some t) : fieldsS s p = t.fs := by
  unfold fieldsS
  rw [g]
end G

/-! The plain theory, part F: what a slide leaves. -/
namespace G
open Classical
theorem mv_mvf (ρ : List (Int × Int)) (v : Vl) : mv ρ v = mvf (look ρ) v := by
  cases v <;> rfl
/-- blocks side by side -/
def pack (z : Int) : Int → List Int → List (Int × Int × Int)
  | a, [] => if a < z then [(a, z - a, 0)] else []
  | a, w :: r => (a, w, 1) :: pack z (a + w) r
def wids (m : Mem) : List Int := m.map fun x => wd x.2
def places (m : Mem) : List Int := m.map (·.1)
theorem blocks_slide (z : Int) (ρ : List (Int × Int)) : ∀ (m : Mem) (a : Int), blocksF z a (slideM ρ a m) = pack z a (wids m)
  | [], a => rfl
  | x :: r, a => by
    have ih := blocks_slide z ρ r (a + wd x.2)
    show blocksF z a ((a, movT ρ x.2) :: slideM ρ (a + wd x.2) r) = (a, wd x.2, 1) :: pack z (a + wd x.2) (wids r)
    rw [blocksF_cons, if_neg (by show ¬ a < a; omega)]
    show [] ++ (a, wd (movT ρ x.2), 1) :: blocksF z (a + wd (movT ρ x.2)) (slideM ρ (a + wd x.2) r) = _
    rw [wd_movT, ih]
    rfl
theorem slide_wids (ρ : List (Int × Int)) : ∀ (m : Mem) (a : Int), wids (slideM ρ a m) = wids m
  | [], a => rfl
  | x :: r, a => by
    have ih := slide_wids ρ r (a + wd x.2)
    show wd (movT ρ x.2) :: wids (slideM ρ (a + wd x.2) r) = wd x.2 :: wids r
    rw [wd_movT, ih]
theorem slide_cols (ρ : List (Int × Int)) : ∀ (m : Mem) (a : Int), (slideM ρ a m).map (fun x => x.2.col) = m.map fun x => x.2.col
  | [], a => rfl
  | x :: r, a => by
    have ih := slide_cols ρ r (a + wd x.2)
    show x.2.col :: (slideM ρ (a + wd x.2) r).map (fun x => x.2.col) = x.2.col :: r.map fun x => x.2.col
    rw [ih]
theorem slide_places {z : Int} (ρ : List (Int × Int)) : ∀ {m : Mem} {a b : Int}, Lay z b m → places (slideM ρ a m) = (places m).map (look (newPl a m))
  | [], a, b, _ => rfl
  | x :: r, a, b, h => by
    have ih := slide_places ρ (a := a + wd x.2) h.2.2
    show a :: places (slideM ρ (a + wd x.2) r) = look ((x.1, a) :: newPl (a + wd x.2) r) x.1 :: (places r).map (look ((x.1, a) :: newPl (a + wd x.2) r))
    have e1 : look ((x.1, a) :: newPl (a + wd x.2) r) x.1 = a := if_pos rfl
    rw [e1, ih]
    refine congrArg (a :: ·) (List.map_congr_left fun p hp => ?_)
    obtain ⟨y, hy, rfl⟩ := List.mem_map.mp hp
    have h1 := (lay_ge h.2.2 y hy).1
    have h2 := wd_pos x.2
    exact (if_neg (by show ¬ x.1 = y.1; omega)).symm
theorem hand_slide (s : St) (i : Nat) : hand (slideS s) i = mvf (look (newPl 0 s.mem)) (hand s i) := by
  unfold hand slideS
  rw [← mv_mvf, List.getD_eq_getElem?_getD, List.getD_eq_getElem?_getD, List.getElem?_map]
  cases s.hands[i]? <;> rfl
theorem get_places {m : Mem} {p : Int} {t : Th} (g : get m p = some t) : p ∈ places m := List.mem_map.mpr ⟨_, get_mem g, rfl⟩
/-- things are told by their place in the order of places -/
def numOf (ps : List Int) : Vl → Int
  | .num _ => -1
  | .held p => (ixOf p ps : Nat)
def numsS (s : St) : List Int := (List.range 8).map fun i => numOf (places s.mem) (hand s i)
theorem nums_slide {s : St} {L : Int → Prop} (i : Inv s L) : numsS (slideS s) = numsS s := by
  unfold numsS
  refine List.map_congr_left fun j _ => ?_
  rw [hand_slide]
  cases e : hand s j with
  | num n => rfl
  | held p =>
    obtain ⟨t, g⟩ := i.core.inL p (hand_L i.core e)
    show ((ixOf (look (newPl 0 s.mem) p) (places (slideM (newPl 0 s.mem) 0 s.mem)) : Nat) : Int) = (ixOf p (places s.mem) : Nat)
    rw [slide_places _ i.core.lay]
    have : ixOf (look (newPl 0 s.mem) p) ((places s.mem).map (look (newPl 0 s.mem))) = ixOf p (places s.mem) := by
      refine ixOf_map (D := fun q => ∃ t, get s.mem q = some t) (fun a b ⟨_, ga⟩ ⟨_, gb⟩ e => look_inj i.core.lay ga gb e) (fun x hx => ?_) ⟨t, g⟩
      obtain ⟨y, hy, rfl⟩ := List.mem_map.mp hx
      exact ⟨y.2, mem_get i.core.lay hy⟩
    rw [this]
theorem blocks_slideS (s : St) : blocksF s.size 0 (slideS s).mem = pack s.size 0 (wids s.mem) := blocks_slide _ _ _ _
end G

/-! The plain theory, part G: a hall without an end, and what a hall has alike with it. -/
namespace G
open Classical
structure Ideal where
  things : List (List Vl)
  hands : List Vl
def fieldsI (I : Ideal) (x : Int) : List Vl := I.things.getD x.toNat []
def handI (I : Ideal) (h : Nat) : Vl := I.hands.getD h (.num 0)
def newI : Ideal := ⟨[], List.replicate 8 (.num 0)⟩
/-- a refusal, by hand -/
def refI (I : Ideal) (h : Nat) (f : Int) : Told := match handI I h with
  | .num _ => .noThing
  | .held x => if ((fieldsI I x).length : Int) ≤ f then .noField else .none
def setHandI (I : Ideal) (h : Nat) (v : Vl) : Ideal := { I with hands := I.hands.set h v }
def storeI (I : Ideal) (h : Nat) (f : Nat) (v : Vl) : Ideal := match handI I h with
  | .num _ => I
  | .held x => { I with things := I.things.set x.toNat ((fieldsI I x).set f v) }
def loadI (I : Ideal) (h o : Nat) (f : Nat) : Ideal := match handI I o with
  | .num _ => I
  | .held x => setHandI I h ((fieldsI I x).getD f (.num 0))
def makeI (I : Ideal) (h m : Nat) : Ideal := ⟨I.things ++ [List.replicate m (.num 0)], I.hands.set h (.held I.things.length)⟩
def wishI (I : Ideal) : Act → Told × Ideal
  | .make h m => (.none, makeI I h m)
  | .copy h o => (.none, setHandI I h (handI I o))
  | .number h n => (.none, setHandI I h (.num n))
  | .store h f o => if refI I h f = .none then (.none, storeI I h f.toNat (handI I o)) else (refI I h f, I)
  | .load h o f => if refI I o f = .none then (.none, loadI I h o f.toNat) else (refI I o f, I)
  | _ => (.none, I)
structure Sim (L : Int → Prop) (s : St) (f : Int → Int) (I : Ideal) : Prop where
  inj : ∀ a b, L a → L b → f a = f b → a = b
  ran : ∀ p, L p → ∃ n : Nat, f p = n ∧ n < I.things.length
  hands : I.hands = s.hands.map (mvf f)
  fds : ∀ p t, L p → get s.mem p = some t → fieldsI I (f p) = t.fs.map (mvf f)
section
variable {s s' : St} {L L' : Int → Prop} {f : Int → Int} {I : Ideal}
theorem Sim.sub (h : Sim L s f I) (e : ∀ p, L' p → L p) : Sim L' s f I := ⟨fun a b ha hb => h.inj a b (e a ha) (e b hb), fun p hp => h.ran p (e p hp), h.hands, fun p t hp => h.fds p t (e p hp)⟩
theorem Sim.keep (h : Sim L s f I) (c : Core s L) (k : Keep L s s') : Sim L s' f I := ⟨h.inj, h.ran, by rw [k.hands]; exact h.hands, fun p t' hp g => by
  obtain ⟨t, g0⟩ := c.inL p hp
  obtain ⟨t2, g2, e⟩ := k.fs p t hp g0
  rw [g] at g2
  cases g2
  rw [e]
  exact h.fds p t hp g0⟩
theorem Sim.handEq (h : Sim L s f I) (i : Nat) : handI I i = mvf f (hand s i) := by
  unfold handI hand
  rw [h.hands, List.getD_eq_getElem?_getD, List.getD_eq_getElem?_getD, List.getElem?_map]
  cases s.hands[i]? <;> rfl
theorem mvf_congr {f g : Int → Int} {v : Vl} (h : ∀ q, v = .held q → f q = g q) : mvf f v = mvf g v := by
  cases v with
  | num n => rfl
  | held q =>
    show Vl.held (f q) = .held (g q)
    rw [h q rfl]
theorem Sim.setHand (h : Sim L s f I) (i : Nat) {v : Vl} : Sim L (setHand s i v) f (setHandI I i (mvf f v)) := ⟨h.inj, h.ran, by
  show I.hands.set i (mvf f v) = (s.hands.set i v).map (mvf f)
  rw [h.hands, List.map_set], h.fds⟩
theorem Sim.newS (n : Int) : Sim (fun _ => False) (newS n) id newI := ⟨fun _ _ z => z.elim, fun _ z => z.elim, rfl, fun _ _ z => z.elim⟩
theorem Sim.make (h : Sim L s f I) (c : Core s L) {p : Int} {i m : Nat} (hn : get s.mem p = none) : Sim (fun q => L q ∨ q = p) (makeAt s p i m) (fun q => if q = p then (I.things.length : Int) else f q) (makeI I i m) := by
  have nL : ∀ q, L q → q ≠ p := fun q hq e => by
    obtain ⟨t, g⟩ := c.inL q hq
    rw [e, hn] at g
    cases g
  have fL : ∀ q, L q → (if q = p then (I.things.length : Int) else f q) = f q := fun q hq => if_neg (nL q hq)
  have flt : ∀ q, L q → (f q).toNat < I.things.length ∧ f q ≠ I.things.length := fun q hq => by
    obtain ⟨n, e, hl⟩ := h.ran q hq
    omega
  refine ⟨fun a b ha hb e => ?_, fun q hq => ?_, ?_, fun q t hq g => ?_⟩
  · try dsimp only at e
    rcases ha with ha | rfl
    · rcases hb with hb | rfl
      · rw [fL a ha, fL b hb] at e
        exact h.inj a b ha hb e
      · rw [fL a ha, if_pos rfl] at e
        exact absurd e (flt a ha).2
    · rcases hb with hb | rfl
      · rw [fL b hb, if_pos rfl] at e
        exact absurd e.symm (flt b hb).2
      · rfl
  · try dsimp only
    show ∃ n : Nat, (if q = p then (I.things.length : Int) else f q) = (n : Int) ∧ n < (I.things ++ [List.replicate m (Vl.num 0)]).length
    rw [List.length_append]
    rcases hq with hq | rfl
    · rw [fL q hq]
      obtain ⟨n, e, hl⟩ := h.ran q hq
      exact ⟨n, e, by omega⟩
    · rw [if_pos rfl]
      exact ⟨_, rfl, by simp⟩
  · show I.hands.set i (.held I.things.length) = (s.hands.set i (.held p)).map _
    rw [List.map_set, h.hands]
    have e1 : mvf (fun q => if q = p then (I.things.length : Int) else f q) (.held p) = .held I.things.length := by
      show Vl.held (if p = p then _ else _) = _
      rw [if_pos rfl]
    rw [e1]
    refine congrArg (fun l => List.set l i _) (List.map_congr_left fun v hv => mvf_congr fun q e => ?_)
    exact (fL q (c.hL q (e ▸ hv))).symm
  · have g' : get (ins p ⟨List.replicate m (.num 0), colourAt s p⟩ s.mem) q = some t := g
    rw [get_ins _ hn] at g'
    try dsimp only
    rcases hq with hq | rfl
    · rw [if_neg (nL q hq)] at g'
      rw [fL q hq]
      have e2 : fieldsI (makeI I i m) (f q) = fieldsI I (f q) := by
        unfold fieldsI makeI
        rw [List.getD_eq_getElem?_getD, List.getD_eq_getElem?_getD, List.getElem?_append_left (flt q hq).1]
      rw [e2, h.fds q t hq g']
      refine List.map_congr_left fun v hv => mvf_congr fun r e => ?_
      exact (fL r (c.fL q r t hq g' (e ▸ hv))).symm
    · rw [if_pos rfl] at g'
      cases g'
      rw [if_pos rfl]
      have e2 : fieldsI (makeI I i m) (I.things.length : Int) = List.replicate m (.num 0) := by
        unfold fieldsI makeI
        rw [List.getD_eq_getElem?_getD]
        simp
      rw [e2, List.map_replicate]
      rfl
theorem Sim.slide (h : Sim L s f I) (c : Core s L) : ∃ f', Sim (fun q => ∃ p, L p ∧ q = look (rho s) p) (slideS s) f' I ∧ ∀ p, L p → f' (look (rho s) p) = f p := by
  have linj : ∀ a b, L a → L b → look (rho s) a = look (rho s) b → a = b := fun a b ha hb e => by
    obtain ⟨_, ga⟩ := c.inL a ha
    obtain ⟨_, gb⟩ := c.inL b hb
    exact look_inj c.lay ga gb e
  have key : ∀ p, L p → (if z : ∃ r, L r ∧ look (rho s) p = look (rho s) r then f z.choose else 0) = f p := fun p hp => by
    have z : ∃ r, L r ∧ look (rho s) p = look (rho s) r := ⟨p, hp, rfl⟩
    rw [dif_pos z]
    exact congrArg f (linj p _ hp z.choose_spec.1 z.choose_spec.2).symm
  refine ⟨fun q => if z : ∃ r, L r ∧ q = look (rho s) r then f z.choose else 0, ⟨?_, ?_, ?_, ?_⟩, key⟩
  · rintro a b ⟨p, hp, rfl⟩ ⟨r, hr, rfl⟩ e
    try dsimp only at e
    rw [key p hp, key r hr] at e
    rw [h.inj p r hp hr e]
  · rintro q ⟨p, hp, rfl⟩
    try dsimp only
    rw [key p hp]
    exact h.ran p hp
  · show I.hands = (s.hands.map (mv (rho s))).map _
    rw [h.hands, List.map_map]
    refine List.map_congr_left fun v hv => ?_
    cases v with
    | num n => rfl
    | held p => exact congrArg Vl.held (key p (c.hL p hv)).symm
  · rintro q t ⟨p, hp, rfl⟩ g
    obtain ⟨u, gu⟩ := c.inL p hp
    have g2 := get_slide (rho s) (b := 0) c.lay gu
    have g3 : get (slideM (rho s) 0 s.mem) (look (rho s) p) = some t := g
    rw [g2] at g3
    cases g3
    try dsimp only
    rw [key p hp, h.fds p u hp gu]
    show _ = (u.fs.map (mv (rho s))).map _
    rw [List.map_map]
    refine List.map_congr_left fun v hv => ?_
    cases v with
    | num n => rfl
    | held r => exact congrArg Vl.held (key r (c.fL p r u hp gu hv)).symm
theorem Sim.collect (h : Sim L s f I) (iv : Inv s L) : ∃ L' f', Inv (collect s) L' ∧ Sim L' (collect s) f' I := by
  obtain ⟨s1, k1, i1, _, s2, k2, i2, h2, e⟩ := collect_ok iv
  have m1 := h.keep iv.core k1
  have m2 : Sim (Reach s1.mem s1.hands) s2 f I := (m1.sub fun p hp => reach_L i1.core hp).keep (core_reach i1.core) k2
  obtain ⟨f', m3, _⟩ := m2.slide i2.core
  rw [e]
  exact ⟨_, f', slide_ok i2 h2, m3⟩
theorem Sim.makeS (h : Sim L s f I) (iv : Inv s L) {i m : Nat} (hm : m ≤ 6) : ∃ L' f', Inv (makeS s i m).2 L' ∧ Sim L' (makeS s i m).2 f' (if (makeS s i m).1 = true then makeI I i m else I) := by
  unfold G.makeS
  split
  · rename_i p hg
    obtain ⟨i1, hn⟩ := make_ok (h := i) iv hm hg
    exact ⟨_, _, i1, h.make iv.core hn⟩
  · obtain ⟨L1, f1, i1, m1⟩ := h.collect iv
    split
    · rename_i p hg
      obtain ⟨i2, hn⟩ := make_ok (h := i) i1 hm hg
      exact ⟨_, _, i2, m1.make i1.core hn⟩
    · exact ⟨L1, f1, i1, m1⟩
theorem Sim.store (h : Sim L s f I) (iv : Inv s L) {p : Int} {j i : Nat} {old v : Vl} {t : Th} (hp : hand s i = .held p) (hL : L p) (g : get s.mem p = some t) (hj : t.fs[j]? = some old) (hv : ∀ q, v = .held q → L q) :
    Sim L (storeS s p j old v) f (storeI I i j (mvf f v)) := by
  have hI : handI I i = .held (f p) := by rw [h.handEq, hp]; rfl
  have eI : storeI I i j (mvf f v) = { I with things := I.things.set (f p).toNat ((fieldsI I (f p)).set j (mvf f v)) } := by
    unfold storeI
    rw [hI]
  obtain ⟨n, hn, hl⟩ := h.ran p hL
  have iv' := store_ok iv hL g hj hv
  rw [eI]
  refine ⟨h.inj, fun q hq => ?_, h.hands, fun q u hq gu => ?_⟩
  · obtain ⟨k, hk, hlk⟩ := h.ran q hq
    exact ⟨k, hk, by show k < (I.things.set _ _).length; rw [List.length_set]; exact hlk⟩
  · have gu' : get (modT (if s.ph = .mark then shade s.mem old else s.mem) p (setField j v)) q = some u := gu
    rw [get_modT] at gu'
    -- shading leaves the fields
    have sh : ∀ r w, get (if s.ph = .mark then shade s.mem old else s.mem) r = some w → ∃ w0, get s.mem r = some w0 ∧ w.fs = w0.fs := fun r w gw => by
      split at gw
      · cases old with
        | num z => exact ⟨w, gw, rfl⟩
        | held z =>
          have gw' : get (modT s.mem z toGrey) r = some w := gw
          rw [get_modT] at gw'
          split at gw'
          · obtain ⟨w0, h0, e0⟩ := Option.map_eq_some_iff.mp gw'
            refine ⟨w0, h0, ?_⟩
            rw [← e0]
            unfold toGrey
            split <;> rfl
          · exact ⟨w, gw', rfl⟩
      · exact ⟨w, gw, rfl⟩
    obtain ⟨kq, hkq, hlq⟩ := h.ran q hq
    by_cases c : q = p
    · subst c
      rw [if_pos rfl] at gu'
      obtain ⟨w, hw, e⟩ := Option.map_eq_some_iff.mp gu'
      obtain ⟨w0, h0, e0⟩ := sh _ _ hw
      rw [g] at h0
      cases h0
      subst e
      show (I.things.set (f q).toNat _).getD (f q).toNat [] = (w.fs.set j v).map (mvf f)
      rw [List.getD_eq_getElem?_getD, List.getElem?_set_self (by rw [hn]; simpa using hl)]
      show (fieldsI I (f q)).set j (mvf f v) = _
      rw [List.map_set, e0, ← h.fds q t hq g]
    · rw [if_neg c] at gu'
      obtain ⟨w0, h0, e0⟩ := sh _ _ gu'
      have nf : (f p).toNat ≠ (f q).toNat := fun z => c (h.inj q p hq hL (by rw [hn, hkq] at z; rw [hkq, hn]; simp at z; omega))
      show (I.things.set (f p).toNat _).getD (f q).toNat [] = _
      rw [List.getD_eq_getElem?_getD, List.getElem?_set_ne nf, e0, ← h.fds q w0 hq h0]
      unfold fieldsI
      rw [List.getD_eq_getElem?_getD]
theorem Sim.ref (h : Sim L s f I) (c : Core s L) (i : Nat) {x : Int} (hx : 0 ≤ x) : (refI I i x = .noThing ↔ fres s i x = .noThing) ∧ (refI I i x = .noField ↔ fres s i x = .noField) ∧ (refI I i x = .none ↔ ∃ p t v, fres s i x = .ok p t v) := by
  unfold refI fres
  rw [h.handEq]
  cases e : hand s i with
  | num n =>
    refine ⟨⟨fun _ => rfl, fun _ => rfl⟩, ⟨fun z => (by cases z), fun z => (by cases z)⟩, ⟨fun z => (by cases z), fun ⟨_, _, _, z⟩ => (by cases z)⟩⟩
  | held p =>
    obtain ⟨t, g⟩ := c.inL p (hand_L c e)
    have hl : (fieldsI I (f p)).length = t.fs.length := by rw [h.fds p t (hand_L c e) g, List.length_map]
    show ((if ((fieldsI I (f p)).length : Int) ≤ x then Told.noField else .none) = _ ↔ _) ∧ ((if ((fieldsI I (f p)).length : Int) ≤ x then Told.noField else .none) = _ ↔ _) ∧ ((if ((fieldsI I (f p)).length : Int) ≤ x then Told.noField else .none) = _ ↔ _)
    rw [hl]
    simp only [g]
    by_cases c2 : (t.fs.length : Int) ≤ x
    · rw [if_pos c2, if_neg (by omega)]
      refine ⟨⟨fun z => (by cases z), fun z => (by cases z)⟩, ⟨fun _ => rfl, fun _ => rfl⟩, ⟨fun z => (by cases z), fun ⟨_, _, _, z⟩ => (by cases z)⟩⟩
    · rw [if_neg c2, if_pos (by omega)]
      have hv : t.fs[x.toNat]? = some (t.fs[x.toNat]'(by omega)) := List.getElem?_eq_getElem _
      rw [hv]
      exact ⟨⟨fun z => (by cases z), fun z => (by cases z)⟩, ⟨fun z => (by cases z), fun z => (by cases z)⟩, ⟨fun _ => ⟨_, _, _, rfl⟩, fun _ => rfl⟩⟩
end
end G

/-! The plain theory, part H: acts go alike with the hall without an end; how many things are come to. -/
namespace G
open Classical
/-- acts that do not sweep -/
def quiet : Act → Bool
  | .begin => false
  | .slide => false
  | .finish => false
  | .step _ => false
  | _ => true
theorem wishI_store (I : Ideal) (h : Nat) (f : Int) (o : Nat) : wishI I (.store h f o) = if refI I h f = .none then (.none, storeI I h f.toNat (handI I o)) else (refI I h f, I) := rfl
theorem wishI_load (I : Ideal) (h o : Nat) (f : Int) : wishI I (.load h o f) = if refI I o f = .none then (.none, loadI I h o f.toNat) else (refI I o f, I) := rfl
theorem act_sim {s : St} {L : Int → Prop} {f : Int → Int} {I : Ideal} (iv : Inv s L) (sm : Sim L s f I) {x : Act} (ok : ActOk x) :
    ∃ L' f', Inv (doAct s x).2 L' ∧ Sim L' (doAct s x).2 f' (if (doAct s x).1 = .noRoom then I else (wishI I x).2) ∧ (quiet x = true → (doAct s x).1 ≠ .noRoom → (doAct s x).1 = (wishI I x).1) := by
  have c := iv.core
  cases x with
  | make h m =>
    obtain ⟨L', f', i1, m1⟩ := sm.makeS (i := h) iv ok.2
    by_cases e : (makeS s h m).1 = true
    · have d : doAct s (.make h m) = (.none, (makeS s h m).2) := by unfold doAct; exact if_pos e
      rw [if_pos e] at m1
      rw [d]
      exact ⟨L', f', i1, by rw [if_neg (by intro z; cases z)]; exact m1, fun _ _ => rfl⟩
    · have d : doAct s (.make h m) = (.noRoom, (makeS s h m).2) := by unfold doAct; exact if_neg e
      rw [if_neg e] at m1
      rw [d]
      exact ⟨L', f', i1, by rw [if_pos rfl]; exact m1, fun _ z => absurd rfl z⟩
  | store h x o =>
    obtain ⟨r1, r2, r3⟩ := sm.ref c h ok.2.2
    cases e : fres s h x with
    | noThing =>
      have d : doAct s (.store h x o) = (.noThing, s) := by unfold doAct; simp only [e]
      have w : wishI I (.store h x o) = (.noThing, I) := by rw [wishI_store, r1.mpr e]; exact if_neg (by intro z; cases z)
      rw [d, w]
      exact ⟨L, f, iv, by rw [if_neg (by intro z; cases z)]; exact sm, fun _ _ => rfl⟩
    | noField =>
      have d : doAct s (.store h x o) = (.noField, s) := by unfold doAct; simp only [e]
      have w : wishI I (.store h x o) = (.noField, I) := by rw [wishI_store, r2.mpr e]; exact if_neg (by intro z; cases z)
      rw [d, w]
      exact ⟨L, f, iv, by rw [if_neg (by intro z; cases z)]; exact sm, fun _ _ => rfl⟩
    | ok p t v =>
      obtain ⟨e1, g, _, _, hv⟩ := fres_ok e
      obtain ⟨hL, _⟩ := fres_L c e
      have d : doAct s (.store h x o) = (.none, storeS s p x.toNat v (hand s o)) := by unfold doAct; simp only [e]
      have w : wishI I (.store h x o) = (.none, storeI I h x.toNat (handI I o)) := by rw [wishI_store]; exact if_pos (r3.mpr ⟨_, _, _, e⟩)
      rw [d, w]
      refine ⟨L, f, store_ok iv hL g hv fun q eq => hand_L c eq, ?_, fun _ _ => rfl⟩
      rw [if_neg (by intro z; cases z), sm.handEq]
      exact sm.store iv e1 hL g hv fun q eq => hand_L c eq
  | load h o x =>
    obtain ⟨r1, r2, r3⟩ := sm.ref c o ok.2.2
    cases e : fres s o x with
    | noThing =>
      have d : doAct s (.load h o x) = (.noThing, s) := by unfold doAct; simp only [e]
      have w : wishI I (.load h o x) = (.noThing, I) := by rw [wishI_load, r1.mpr e]; exact if_neg (by intro z; cases z)
      rw [d, w]
      exact ⟨L, f, iv, by rw [if_neg (by intro z; cases z)]; exact sm, fun _ _ => rfl⟩
    | noField =>
      have d : doAct s (.load h o x) = (.noField, s) := by unfold doAct; simp only [e]
      have w : wishI I (.load h o x) = (.noField, I) := by rw [wishI_load, r2.mpr e]; exact if_neg (by intro z; cases z)
      rw [d, w]
      exact ⟨L, f, iv, by rw [if_neg (by intro z; cases z)]; exact sm, fun _ _ => rfl⟩
    | ok p t v =>
      obtain ⟨e1, g, _, _, hv⟩ := fres_ok e
      obtain ⟨hL, hLv⟩ := fres_L c e
      have d : doAct s (.load h o x) = (.none, setHand s h v) := by unfold doAct; simp only [e]
      have w : wishI I (.load h o x) = (.none, loadI I h o x.toNat) := by rw [wishI_load]; exact if_pos (r3.mpr ⟨_, _, _, e⟩)
      have wl : loadI I h o x.toNat = setHandI I h (mvf f v) := by
        unfold loadI
        rw [sm.handEq, e1]
        show setHandI I h ((fieldsI I (f p)).getD x.toNat (.num 0)) = _
        rw [sm.fds p t hL g, List.getD_eq_getElem?_getD, List.getElem?_map, hv]
        rfl
      rw [d, w, wl]
      refine ⟨L, f, hands_ok iv h hLv, ?_, fun _ _ => rfl⟩
      rw [if_neg (by intro z; cases z)]
      exact sm.setHand h
  | copy h o =>
    refine ⟨L, f, hands_ok iv h fun q e => hand_L c e, ?_, fun _ _ => rfl⟩
    rw [if_neg (by intro z; cases z)]
    show Sim L (setHand s h (hand s o)) f (setHandI I h (handI I o))
    rw [sm.handEq]
    exact sm.setHand h
  | number h n =>
    refine ⟨L, f, hands_ok iv h fun q e => (by cases e), ?_, fun _ _ => rfl⟩
    rw [if_neg (by intro z; cases z)]
    exact sm.setHand (v := .num n) h
  | begin =>
    by_cases e : s.ph = .idle
    · have d : doAct s .begin = (.none, beginS s) := if_pos e
      obtain ⟨i1, k1, _⟩ := begin_ok iv e
      rw [d]
      exact ⟨_, f, i1, by rw [if_neg (by intro z; cases z)]; exact (sm.keep c k1).sub fun p hp => reach_L c hp, fun z => (by cases z)⟩
    · have d : doAct s .begin = (.notNow, s) := if_neg e
      rw [d]
      exact ⟨L, f, iv, by rw [if_neg (by intro z; cases z)]; exact sm, fun z => (by cases z)⟩
  | slide =>
    by_cases e : s.ph = .idle
    · have d : doAct s .slide = (.none, slideS s) := if_pos e
      obtain ⟨f', m1, _⟩ := sm.slide c
      rw [d]
      exact ⟨_, f', slide_ok iv e, by rw [if_neg (by intro z; cases z)]; exact m1, fun z => (by cases z)⟩
    · have d : doAct s .slide = (.notNow, s) := if_neg e
      rw [d]
      exact ⟨L, f, iv, by rw [if_neg (by intro z; cases z)]; exact sm, fun z => (by cases z)⟩
  | finish =>
    obtain ⟨i1, k1, _⟩ := finish_ok iv
    refine ⟨L, f, i1, ?_, fun z => (by cases z)⟩
    rw [if_neg (show ¬ (doAct s .finish).1 = .noRoom by intro z; cases z)]
    exact sm.keep c k1
  | step n =>
    obtain ⟨i1, k1, _⟩ := stepN_ok n iv
    refine ⟨L, f, i1, ?_, fun z => (by cases z)⟩
    rw [if_neg (show ¬ (doAct s (.step n)).1 = .noRoom by intro z; cases z)]
    exact sm.keep c k1
/-! ### things that hands come to, in order -/
def ordS (s : St) : List Int := ordF (fieldsS s) 1000 0 (addNew [] s.hands)
def ordI (I : Ideal) : List Int := ordF (fieldsI I) 1000 0 (addNew [] I.hands)
section
variable {s : St} {L : Int → Prop} {f : Int → Int} {I : Ideal}
theorem fields_closed (c : Core s L) : ClosedD (fieldsS s) L := fun x q hx hq => by
  obtain ⟨t, g⟩ := c.inL x hx
  rw [fieldsS_some g] at hq
  exact c.fL x q t hx g hq
theorem Sim.moves (h : Sim L s f I) (c : Core s L) : Moves f L (fieldsS s) (fieldsI I) := ⟨h.inj, fields_closed c, fun x hx => by
  obtain ⟨t, g⟩ := c.inL x hx
  rw [fieldsS_some g]
  exact h.fds x t hx g⟩
theorem hands_D (c : Core s L) : ∀ x ∈ addNew [] s.hands, L x := addNew_D (fun x hx => by cases hx) fun q hq => c.hL q hq
theorem Sim.ord (h : Sim L s f I) (c : Core s L) : ordI I = (ordS s).map f := by
  unfold ordI ordS
  have e : addNew [] I.hands = (addNew [] s.hands).map f := by
    rw [h.hands]
    exact addNew_map h.inj s.hands (o := []) (fun x hx => by cases hx) fun q hq => c.hL q hq
  rw [e]
  exact ordF_map (h.moves c) 1000 0 (hands_D c)
theorem ord_nodup (s : St) : (ordS s).Nodup := ordF_nodup 1000 0 (addNew_nodup _ List.nodup_nil)
theorem ord_reach (c : Core s L) (hm : s.mem.length ≤ 1000) (x : Int) : x ∈ ordS s ↔ Reach s.mem s.hands x := by
  have cR := core_reach c
  have hD := ordF_D (fields_closed cR) 1000 0 (hands_D cR)
  constructor
  · exact hD x
  · have hP : ∀ q, (∃ y ∈ places s.mem, Vl.held q ∈ fieldsS s y) → q ∈ places s.mem ∨ True := fun _ _ => .inr trivial
    have cl : ∀ y ∈ ordS s, ∀ q, .held q ∈ fieldsS s y → q ∈ ordS s := by
      -- all that is come to lies among these places
      let P := (s.mem.filter fun z => decide (Reach s.mem s.hands z.1)).map (·.1)
      have inP : ∀ q, Reach s.mem s.hands q → q ∈ P := fun q hq => by
        obtain ⟨t, g⟩ := cR.inL q hq
        exact List.mem_map.mpr ⟨(q, t), List.mem_filter.mpr ⟨get_mem g, decide_eq_true hq⟩, rfl⟩
      have ofP : ∀ q, q ∈ P → Reach s.mem s.hands q := fun q hq => by
        obtain ⟨z, hz, rfl⟩ := List.mem_map.mp hq
        exact of_decide_eq_true (List.mem_filter.mp hz).2
      have lenP : P.length ≤ 1000 := by
        have := List.length_filter_le (fun z => decide (Reach s.mem s.hands z.1)) s.mem
        show ((s.mem.filter _).map _).length ≤ _
        rw [List.length_map]
        omega
      exact ordF_closed (P := P) (fun q ⟨y, hy, hq⟩ => inP q (fields_closed cR y q (ofP y hy) hq)) 1000 0 (addNew_nodup _ List.nodup_nil) (fun y hy => inP y (hands_D cR y hy)) (Nat.zero_le _) (by omega) (fun y hy => by simp at hy)
    intro h
    induction h with
    | root h => exact (ordF_pre _ _ _ _).subset ((addNew_mem _).mpr (.inr h))
    | step h g hq ih => exact cl _ ih _ (by rw [fieldsS_some g]; exact hq)
/-- the places of what hands come to, rising -/
noncomputable def comeS (s : St) : List Int := (s.mem.filter fun z => decide (Reach s.mem s.hands z.1)).map (·.1)
theorem places_rise {z : Int} : ∀ {m : Mem} {a : Int}, Lay z a m → (places m).Pairwise (· < ·)
  | [], _, _ => .nil
  | x :: r, a, h => by
    refine List.Pairwise.cons (fun p hp => ?_) (places_rise h.2.2)
    obtain ⟨y, hy, rfl⟩ := List.mem_map.mp hp
    have h1 := (lay_ge h.2.2 y hy).1
    have h2 := wd_pos x.2
    show x.1 < y.1
    omega
theorem come_sub (s : St) : (comeS s).Sublist (places s.mem) := List.Sublist.map _ List.filter_sublist
theorem come_rise (c : Core s L) : (comeS s).Pairwise (· < ·) := (places_rise c.lay).sublist (come_sub s)
theorem rise_nodup {l : List Int} (h : l.Pairwise (· < ·)) : l.Nodup := h.imp fun h => by omega
theorem come_mem (c : Core s L) (x : Int) : x ∈ comeS s ↔ Reach s.mem s.hands x := by
  constructor
  · intro h
    obtain ⟨z, hz, rfl⟩ := List.mem_map.mp h
    exact of_decide_eq_true (List.mem_filter.mp hz).2
  · intro h
    obtain ⟨t, g⟩ := c.inL x (reach_L c h)
    exact List.mem_map.mpr ⟨(x, t), List.mem_filter.mpr ⟨get_mem g, decide_eq_true h⟩, rfl⟩
theorem come_perm (c : Core s L) (hm : s.mem.length ≤ 1000) : (comeS s).Perm (ordS s) :=
  (List.perm_ext_iff_of_nodup (rise_nodup (come_rise c)) (ord_nodup s)).mpr fun x => (come_mem c x).trans (ord_reach c hm x).symm
theorem come_ord (h : Sim L s f I) (c : Core s L) (hm : s.mem.length ≤ 1000) : (comeS s).length = (ordI I).length := by
  rw [(come_perm c hm).length_eq, h.ord c, List.length_map]
/-! ### words of what hands come to -/
theorem perm_sum {l l' : List Int} (h : l.Perm l') : l.sum = l'.sum := by
  induction h with
  | nil => rfl
  | cons x _ ih => rw [List.sum_cons, List.sum_cons, ih]
  | swap x y l => simp only [List.sum_cons]; omega
  | trans _ _ h1 h2 => exact h1.trans h2
def wordsF (fd : Int → List Vl) (x : Int) : Int := 2 + ((fd x).length : Int)
def liveI (I : Ideal) : Int := ((ordI I).map (wordsF (fieldsI I))).sum
noncomputable def liveS (s : St) : Int := ((s.mem.filter fun z => decide (Reach s.mem s.hands z.1)).map fun z => wd z.2).sum
theorem live_eq (h : Sim L s f I) (c : Core s L) (hm : s.mem.length ≤ 1000) : liveI I = liveS s := by
  have e1 : liveI I = ((ordS s).map (wordsF (fieldsS s))).sum := by
    unfold liveI
    rw [h.ord c, List.map_map]
    refine congrArg List.sum (List.map_congr_left fun x hx => ?_)
    have hL := reach_L c ((ord_reach c hm x).mp hx)
    show 2 + ((fieldsI I (f x)).length : Int) = 2 + ((fieldsS s x).length : Int)
    rw [(h.moves c).go x hL, List.length_map]
  rw [e1, ← perm_sum ((come_perm c hm).map _)]
  unfold liveS comeS
  rw [List.map_map]
  refine congrArg List.sum (List.map_congr_left fun z hz => ?_)
  have g := mem_get c.lay (List.mem_filter.mp hz).1
  show 2 + ((fieldsS s z.1).length : Int) = wd z.2
  rw [fieldsS_some g]
  rfl
end
end G

/-! The plain theory, part I: when a make finds room. -/
namespace G
open Classical
theorem lay_total {z : Int} : ∀ {m : Mem} {a : Int}, Lay z a m → (wids m).sum ≤ z - a
  | [], a, h => by
    have h' : a ≤ z := h
    show (0 : Int) ≤ z - a
    omega
  | x :: r, a, h => by
    have ih := lay_total h.2.2
    have h1 := h.1
    show (wd x.2 :: wids r).sum ≤ z - a
    rw [List.sum_cons]
    omega
theorem total_ins (p : Int) (t : Th) : ∀ m : Mem, (wids (ins p t m)).sum = (wids m).sum + wd t
  | [] => by
    show (wd t :: wids []).sum = (wids []).sum + wd t
    rw [List.sum_cons]
    show wd t + 0 = 0 + wd t
    omega
  | x :: r => by
    unfold ins
    split
    · show (wd t :: wids (x :: r)).sum = _
      rw [List.sum_cons]
      omega
    · show (wd x.2 :: wids (ins p t r)).sum = (wd x.2 :: wids r).sum + wd t
      rw [List.sum_cons, List.sum_cons, total_ins p t r]
      omega
theorem filter_total (q : Int × Th → Bool) : ∀ m : Mem, ((m.filter q).map fun z => wd z.2).sum ≤ (wids m).sum
  | [] => Int.le_refl _
  | x :: r => by
    have ih := filter_total q r
    have h2 := wd_pos x.2
    rw [List.filter_cons]
    show _ ≤ (wd x.2 :: wids r).sum
    rw [List.sum_cons]
    split
    · rw [List.map_cons, List.sum_cons]
      omega
    · omega
theorem gap_slid (z w : Int) (hw : 0 < w) (ρ : List (Int × Int)) : ∀ (m : Mem) (a : Int), gapF z w a (slideM ρ a m) = if w ≤ z - (a + (wids m).sum) then some (a + (wids m).sum) else none
  | [], a => by
    show gapF z w a [] = _
    rw [gapF_nil, show (wids []).sum = 0 from rfl, Int.add_zero]
  | x :: r, a => by
    have ih := gap_slid z w hw ρ r (a + wd x.2)
    show gapF z w a ((a, movT ρ x.2) :: slideM ρ (a + wd x.2) r) = _
    rw [gapF_cons, if_neg (by show ¬ w ≤ a - a; omega)]
    show gapF z w (a + wd (movT ρ x.2)) (slideM ρ (a + wd x.2) r) = _
    rw [wd_movT, ih]
    show _ = if w ≤ z - (a + (wd x.2 :: wids r).sum) then some (a + (wd x.2 :: wids r).sum) else none
    rw [List.sum_cons, Int.add_assoc]
theorem reach_keep {s1 s2 : St} (k : Keep (Reach s1.mem s1.hands) s1 s2) {p : Int} (h : Reach s1.mem s1.hands p) : Reach s2.mem s2.hands p := by
  induction h with
  | root h => exact .root (by rw [k.hands]; exact h)
  | step h g hq ih =>
    obtain ⟨t', g', e⟩ := k.fs _ _ h g
    exact .step ih g' (by rw [e]; exact hq)
section
variable {s : St} {L : Int → Prop} {f : Int → Int} {I : Ideal}
/-- behind collect, before it is slid together: just what hands come to is there -/
theorem collect_full (sm : Sim L s f I) (iv : Inv s L) : ∃ s2 R, collect s = slideS s2 ∧ s2.ph = .idle ∧ s2.size = s.size ∧ Inv s2 R ∧ Sim R s2 f I ∧ (∀ z ∈ s2.mem, Reach s2.mem s2.hands z.1) ∧ s2.hands = s.hands := by
  obtain ⟨s1, k1, i1, _, s2, k2, i2, h2, e⟩ := collect_ok iv
  refine ⟨s2, _, e, h2, k2.size.trans k1.size, i2, ((sm.keep iv.core k1).sub fun p hp => reach_L i1.core hp).keep (core_reach i1.core) k2, fun z hz => ?_, k2.hands.trans k1.hands⟩
  exact reach_keep k2 (i2.idle h2 z.1 z.2 (mem_get i2.core.lay hz)).1
theorem all_live {s2 : St} (h : ∀ z ∈ s2.mem, Reach s2.mem s2.hands z.1) : liveS s2 = (wids s2.mem).sum := by
  unfold liveS wids
  rw [List.filter_eq_self.mpr fun z hz => decide_eq_true (h z hz)]
theorem small_mem {s : St} (hl : Lay s.size 0 s.mem) (hz : s.size ≤ 1000) : s.mem.length ≤ 1000 := by
  have := lay_len hl
  omega
theorem collect_total (sm : Sim L s f I) (iv : Inv s L) (hz : s.size ≤ 1000) : (wids (collect s).mem).sum = liveI I := by
  obtain ⟨s2, R, e, _, hs, i2, m2, hall, _⟩ := collect_full sm iv
  have h1 : (wids (slideS s2).mem).sum = (wids s2.mem).sum := congrArg List.sum (slide_wids (newPl 0 s2.mem) s2.mem 0)
  rw [e, h1, ← all_live hall, live_eq m2 i2.core (small_mem i2.core.lay (by omega))]
theorem collect_gap (sm : Sim L s f I) (iv : Inv s L) (hz : s.size ≤ 1000) (w : Int) (hw : 0 < w) : gap (collect s) w = if w ≤ s.size - liveI I then some (liveI I) else none := by
  have ht := collect_total sm iv hz
  obtain ⟨s2, R, e, _, hs, i2, m2, hall, _⟩ := collect_full sm iv
  rw [e] at ht ⊢
  unfold gap
  have hg := gap_slid (slideS s2).size w hw (newPl 0 s2.mem) s2.mem 0
  rw [show (slideS s2).mem = slideM (newPl 0 s2.mem) 0 s2.mem from rfl, hg]
  have h1 : (wids (slideS s2).mem).sum = (wids s2.mem).sum := congrArg List.sum (slide_wids (newPl 0 s2.mem) s2.mem 0)
  rw [h1] at ht
  rw [Int.zero_add, ht, show (slideS s2).size = s.size from hs]
/-- a make finds room just if what hands come to leaves it -/
theorem make_true (sm : Sim L s f I) (iv : Inv s L) (hz : s.size ≤ 1000) {h m : Nat} (hm : m ≤ 6) (e : (makeS s h m).1 = true) : liveI I + (2 + m) ≤ s.size := by
  unfold makeS at e
  split at e
  · rename_i p hg
    obtain ⟨i2, hn⟩ := make_ok (h := h) iv hm hg
    have ht := lay_total i2.core.lay
    have e1 : (wids (makeAt s p h m).mem).sum = (wids s.mem).sum + (2 + m) := by
      show (wids (ins p _ s.mem)).sum = _
      rw [total_ins]
      unfold wd
      simp
    rw [e1] at ht
    have hl := live_eq sm iv.core (small_mem iv.core.lay hz)
    have h2 : liveS s ≤ (wids s.mem).sum := filter_total _ _
    have h3 : (makeAt s p h m).size = s.size := rfl
    omega
  · split at e
    · rename_i p hg
      rw [collect_gap sm iv hz _ (by omega)] at hg
      split at hg
      · omega
      · cases hg
    · cases e
theorem make_false (sm : Sim L s f I) (iv : Inv s L) (hz : s.size ≤ 1000) {h m : Nat} (e : (makeS s h m).1 = false) : s.size < liveI I + (2 + m) ∧ (makeS s h m).2 = collect s := by
  unfold makeS at e ⊢
  split at e
  · cases e
  · rename_i hn
    split at e
    · cases e
    · rename_i hg
      have hg' := hg
      rw [collect_gap sm iv hz _ (by omega)] at hg
      split at hg
      · cases hg
      · refine ⟨by omega, ?_⟩
        simp only [hn, hg']
theorem make_room (sm : Sim L s f I) (iv : Inv s L) (hz : s.size ≤ 1000) {h m : Nat} (hr : liveI I + (2 + m) ≤ s.size) : (makeS s h m).1 = true := by
  cases e : (makeS s h m).1 with
  | true => rfl
  | false =>
    have := (make_false sm iv hz e).1
    omega
theorem quiet_room (s : St) {x : Act} (hx : (doAct s x).1 = .noRoom) : ∃ h m, x = .make h m ∧ (makeS s h m).1 = false := by
  cases x with
  | make h m =>
    refine ⟨h, m, rfl, ?_⟩
    cases e : (makeS s h m).1 with
    | false => rfl
    | true =>
      have d : doAct s (.make h m) = (.none, (makeS s h m).2) := by unfold doAct; exact if_pos e
      rw [d] at hx
      cases hx
  | store h x o =>
    unfold doAct at hx
    cases e : fres s h x <;> simp only [e] at hx <;> cases hx
  | load h o x =>
    unfold doAct at hx
    cases e : fres s o x <;> simp only [e] at hx <;> cases hx
  | copy h o => cases hx
  | number h n => cases hx
  | begin =>
    unfold doAct at hx
    dsimp only at hx
    split at hx <;> cases hx
  | slide =>
    unfold doAct at hx
    dsimp only at hx
    split at hx <;> cases hx
  | finish => cases hx
  | step n => cases hx
end
end G

/-! The plain theory, part J: what a whole sweep leaves. -/
namespace G
open Classical
/-- a free block begins at no thing -/
theorem free_block (z : Int) : ∀ (m : Mem) (a : Int), Lay z a m → ∀ b ∈ blocksF z a m, b.2.2 = 0 → get m b.1 = none
  | [], a, _, b, hb, _ => rfl
  | x :: r, a, h, b, hb, hu => by
    have ih := free_block z r (x.1 + wd x.2) h.2.2
    have h2 := wd_pos x.2
    rw [blocksF_cons] at hb
    rcases List.mem_append.mp hb with hb | hb
    · split at hb
      · rename_i c
        obtain rfl := List.mem_singleton.mp hb
        exact get_lt (z := z) (a := x.1) ⟨Int.le_refl _, h.2.1, h.2.2⟩ c
      · cases hb
    · rcases List.mem_cons.mp hb with rfl | hb
      · exact absurd hu (by show ¬ (1 : Int) = 0; decide)
      · have hn := ih b hb hu
        have hge : x.1 + wd x.2 ≤ b.1 := by
          have := blocks_ge z r (x.1 + wd x.2) h.2.2 b hb
          exact this
        unfold get
        rw [if_neg (by omega)]
        exact hn
where
  blocks_ge (z : Int) : ∀ (m : Mem) (a : Int), Lay z a m → ∀ b ∈ blocksF z a m, a ≤ b.1
    | [], a, _, b, hb => by
      rw [blocksF_nil] at hb
      split at hb
      · obtain rfl := List.mem_singleton.mp hb
        exact Int.le_refl _
      · cases hb
    | x :: r, a, h, b, hb => by
      have h1 := h.1
      have h2 := wd_pos x.2
      rw [blocksF_cons] at hb
      rcases List.mem_append.mp hb with hb | hb
      · split at hb
        · obtain rfl := List.mem_singleton.mp hb
          exact Int.le_refl _
        · cases hb
      · rcases List.mem_cons.mp hb with rfl | hb
        · exact h1
        · have := blocks_ge z r _ h.2.2 b hb
          omega
/-- place and width of things -/
def pw (x : Int × Th) : Int × Int := (x.1, wd x.2)
theorem rise_eq {l l' : List Int} (h : l.Pairwise (· < ·)) (h' : l'.Pairwise (· < ·)) (e : ∀ x, x ∈ l ↔ x ∈ l') : l = l' := by
  have h1 : l.Pairwise (· ≤ ·) := h.imp fun {a b} (z : a < b) => Int.le_of_lt z
  have h2 : l'.Pairwise (· ≤ ·) := h'.imp fun {a b} (z : a < b) => Int.le_of_lt z
  exact ((List.perm_ext_iff_of_nodup (rise_nodup h) (rise_nodup h')).mpr e).eq_of_pairwise (fun a b _ _ h1 h2 => by omega) h1 h2
theorem pw_of {z : Int} {m : Mem} {a : Int} (h : Lay z a m) (l : Mem) (hl : ∀ x ∈ l, x ∈ m) : l.map pw = (places l).map fun p => (p, ((get m p).map wd).getD 0) := by
  unfold places
  rw [List.map_map]
  refine List.map_congr_left fun x hx => ?_
  show (x.1, wd x.2) = (x.1, ((get m x.1).map wd).getD 0)
  rw [mem_get h (hl x hx)]
  rfl
/-- two memories with the same things (but for colours) are laid out alike -/
theorem pw_eq {z z' : Int} {m m' : Mem} {a a' : Int} (h : Lay z a m) (h' : Lay z' a' m') (l : Mem) (hl : l.Sublist m) (hp : ∀ p, p ∈ places m' ↔ p ∈ places l) (hw : ∀ p t, get m p = some t → p ∈ places l → ∃ t', get m' p = some t' ∧ wd t' = wd t) : m'.map pw = l.map pw := by
  have e : places m' = places l := rise_eq (places_rise h') ((places_rise h).sublist (hl.map _)) hp
  rw [pw_of h l fun x hx => hl.subset hx, pw_of h' m' fun x hx => hx, e]
  refine List.map_congr_left fun p hpl => ?_
  obtain ⟨x, hx, rfl⟩ := List.mem_map.mp hpl
  have g := mem_get h (hl.subset hx)
  obtain ⟨t', g', ew⟩ := hw x.1 x.2 g (List.mem_map.mpr ⟨x, hx, rfl⟩)
  rw [g, g']
  show (x.1, wd t') = (x.1, wd x.2)
  rw [ew]
/-- what hands come to -/
noncomputable def liveM (s : St) : Mem := s.mem.filter fun z => decide (Reach s.mem s.hands z.1)
theorem live_filter {s : St} {L : Int → Prop} (c : Core s L) : (s.mem.filter fun z => decide (z.1 ∈ comeS s)) = liveM s :=
  List.filter_congr fun z _ => decide_eq_decide.mpr (come_mem c z.1)
theorem live_come (s : St) : places (liveM s) = comeS s := rfl
theorem live_len (s : St) : (liveM s).length = (comeS s).length := (List.length_map _).symm
/-- a whole sweep, begun while idle: what is there behind it -/
theorem sweep_whole {s : St} {L : Int → Prop} (iv : Inv s L) (hid : s.ph = .idle) :
    ∃ s3, (finishS (beginS s)).2 = s3 ∧ (finishS (beginS s)).1 = (comeS s).length + s.mem.length ∧ Inv s3 (Reach s.mem s.hands) ∧ Keep (Reach s.mem s.hands) s s3 ∧ s3.ph = .idle ∧
      s3.mem.map pw = (liveM s).map pw ∧ comeS s3 = comeS s ∧ (∀ x ∈ s3.mem, x.2.col = .white) := by
  obtain ⟨i1, k1, n1⟩ := begin_ok iv hid
  obtain ⟨i2, k2, n2, h2⟩ := finish_ok i1
  have c := iv.core
  have kR : Keep (Reach s.mem s.hands) s (beginS s) := ⟨k1.size, k1.hands, fun p t hp g => k1.fs p t (reach_L c hp) g⟩
  have k := kR.trans k2
  have cR := core_reach c
  have id3 := i2.idle h2
  have hmem : ∀ p, p ∈ places (finishS (beginS s)).2.mem ↔ Reach s.mem s.hands p := fun p => by
    constructor
    · intro hp
      obtain ⟨x, hx, rfl⟩ := List.mem_map.mp hp
      exact (id3 x.1 x.2 (mem_get i2.core.lay hx)).1
    · intro hp
      obtain ⟨t, g⟩ := i2.core.inL p hp
      exact get_places g
  refine ⟨_, rfl, ?_, i2, k, h2, ?_, ?_, fun x hx => (id3 x.1 x.2 (mem_get i2.core.lay hx)).2⟩
  · rw [n2, n1]
    show _ = ((s.mem.filter _).map _).length + _
    rw [List.length_map]
  · refine pw_eq c.lay i2.core.lay _ List.filter_sublist (fun p => (hmem p).trans (come_mem c p).symm) fun p t g hp => ?_
    obtain ⟨t', g', e⟩ := k.fs p t ((come_mem c p).mp hp) g
    refine ⟨t', g', ?_⟩
    unfold wd
    rw [e]
  · refine rise_eq (come_rise i2.core) (come_rise c) fun x => ?_
    rw [come_mem i2.core, come_mem c]
    constructor
    · exact fun h => reach_L i2.core h
    · exact fun h => reach_keep k h
end G

/-! The plain theory, part K: a sweep with acts amidst; what is there at its end is counted. -/
namespace G
open Classical
def hasGap (z w : Int) (bs : List (Int × Int × Int)) : Bool := bs.any fun b => decide (b.2.2 = 0) && decide (w ≤ b.2.1)
theorem has_gap (z w : Int) (hw : 0 < w) : ∀ (m : Mem) (a : Int), hasGap z w (blocksF z a m) = (gapF z w a m).isSome
  | [], a => by
    rw [blocksF_nil, gapF_nil]
    unfold hasGap
    by_cases c : w ≤ z - a
    · rw [if_pos c, if_pos (by omega)]
      show ((decide ((0 : Int) = 0) && decide (w ≤ z - a)) || false) = true
      rw [decide_eq_true c]
      rfl
    · rw [if_neg c]
      split
      · show ((decide ((0 : Int) = 0) && decide (w ≤ z - a)) || false) = false
        rw [decide_eq_false c]
        rfl
      · rfl
  | x :: r, a => by
    have ih := has_gap z w hw r (x.1 + wd x.2)
    unfold hasGap at ih
    rw [blocksF_cons, gapF_cons]
    unfold hasGap
    rw [List.any_append, List.any_cons, ih]
    have hu : (decide ((1 : Int) = 0) && decide (w ≤ wd x.2)) = false := rfl
    show (_ || ((decide ((1 : Int) = 0) && decide (w ≤ wd x.2)) || _)) = _
    rw [hu, Bool.false_or]
    by_cases c : w ≤ x.1 - a
    · rw [if_pos c, if_pos (by omega)]
      show (((decide ((0 : Int) = 0) && decide (w ≤ x.1 - a)) || false) || _) = true
      rw [decide_eq_true c]
      rfl
    · rw [if_neg c]
      split
      · show (((decide ((0 : Int) = 0) && decide (w ≤ x.1 - a)) || false) || _) = _
        rw [decide_eq_false c]
        rfl
      · rfl
/-- acts amidst a sweep: no begin, no slide, no make -/
def amid : Act → Bool
  | .begin => false
  | .slide => false
  | .make _ _ => false
  | _ => true
/-- what is kept, counted -/
structure Cnt (s : St) (n : Nat) (L : Int → Prop) (ls : List Int) : Prop where
  iv : Inv s L
  nd : ls.Nodup
  mem : ∀ x, x ∈ ls ↔ L x
  len : ls.length = n
theorem Cnt.amid {s : St} {n : Nat} {L : Int → Prop} {ls : List Int} (c : Cnt s n L ls) {x : Act} (ok : ActOk x) (hx : amid x = true) : Cnt (doAct s x).2 n L ls := by
  have i := c.iv
  refine ⟨?_, c.nd, c.mem, c.len⟩
  cases x with
  | make h m => cases hx
  | begin => cases hx
  | slide => cases hx
  | store h f o =>
    unfold doAct
    cases e : fres s h f with
    | noThing => simp only [e]; exact i
    | noField => simp only [e]; exact i
    | ok p t v =>
      simp only [e]
      obtain ⟨hL, _⟩ := fres_L i.core e
      obtain ⟨e1, g, _, _, hv⟩ := fres_ok e
      exact store_ok i hL g hv fun q eq => hand_L i.core eq
  | load h o f =>
    unfold doAct
    cases e : fres s o f with
    | noThing => simp only [e]; exact i
    | noField => simp only [e]; exact i
    | ok p t v =>
      simp only [e]
      exact hands_ok i h (fres_L i.core e).2
  | copy h o => exact hands_ok i h fun q e => hand_L i.core e
  | number h m => exact hands_ok i h fun q e => (by cases e)
  | finish => exact (finish_ok i).1
  | step m => exact (stepN_ok m i).1
theorem Cnt.make {s : St} {n : Nat} {L : Int → Prop} {ls : List Int} (c : Cnt s n L ls) {h m : Nat} (hm : m ≤ 6) (hg : (gap s (2 + m)).isSome = true) : (doAct s (.make h m)).1 = .none ∧ ∃ L' ls', Cnt (doAct s (.make h m)).2 (n + 1) L' ls' := by
  obtain ⟨p, hp⟩ := Option.isSome_iff_exists.mp hg
  obtain ⟨i2, hn⟩ := make_ok (h := h) c.iv hm hp
  have e1 : makeS s h m = (true, makeAt s p h m) := by unfold makeS; simp only [hp]
  have d : doAct s (.make h m) = (.none, makeAt s p h m) := by
    show (if (makeS s h m).1 = true then ((.none : Told), (makeS s h m).2) else (.noRoom, (makeS s h m).2)) = _
    rw [e1]
    rfl
  rw [d]
  have nL : ¬ L p := fun z => by
    obtain ⟨t, g⟩ := c.iv.core.inL p z
    rw [hn] at g
    cases g
  refine ⟨rfl, _, p :: ls, i2, List.nodup_cons.mpr ⟨fun z => nL ((c.mem p).mp z), c.nd⟩, fun x => ?_, by rw [List.length_cons, c.len]⟩
  rw [List.mem_cons, c.mem]
  constructor
  · rintro (h | h)
    · exact .inr h
    · exact .inl h
  · rintro (h | h)
    · exact .inr h
    · exact .inl h
theorem Cnt.finish {s : St} {n : Nat} {L : Int → Prop} {ls : List Int} (c : Cnt s n L ls) : Inv (finishS s).2 L ∧ (finishS s).2.ph = .idle ∧ (finishS s).2.size = s.size ∧ (finishS s).2.mem.length = n ∧ (∀ x ∈ (finishS s).2.mem, x.2.col = .white) := by
  obtain ⟨i, k, _, h⟩ := finish_ok c.iv
  have id := i.idle h
  refine ⟨i, h, k.size, ?_, fun x hx => (id x.1 x.2 (mem_get i.core.lay hx)).2⟩
  have p : (places (finishS s).2.mem).Perm ls := (List.perm_ext_iff_of_nodup (rise_nodup (places_rise i.core.lay)) c.nd).mpr fun x => by
    rw [c.mem]
    constructor
    · intro hx
      obtain ⟨y, hy, rfl⟩ := List.mem_map.mp hx
      exact (id y.1 y.2 (mem_get i.core.lay hy)).1
    · intro hx
      obtain ⟨t, g⟩ := i.core.inL x hx
      exact get_places g
  rw [← c.len, ← p.length_eq]
  exact (List.length_map _).symm
theorem Cnt.begin {s : St} {L : Int → Prop} (iv : Inv s L) (hid : s.ph = .idle) : Cnt (beginS s) (comeS s).length (Reach s.mem s.hands) (comeS s) :=
  ⟨(begin_ok iv hid).1, rise_nodup (come_rise iv.core), fun x => come_mem iv.core x, rfl⟩
end G

/-! The plain theory, part L: fewer things than acts, or no links at all. -/
namespace G
open Classical
/-- after n acts -/
def Few (n : Nat) (I : Ideal) : Prop := I.things.length ≤ n ∧ (I.things.length = n → ∀ fs ∈ I.things, ∀ q, .held q ∉ fs) ∧ ∀ fs ∈ I.things, fs.length ≤ 6
theorem few_new : Few 0 newI := ⟨Nat.le_refl _, fun _ fs h => (by cases h), fun fs h => (by cases h)⟩
theorem few_keep {n : Nat} {I J : Ideal} (h : Few n I) (e : J.things.length = I.things.length) (h6 : ∀ fs ∈ J.things, fs.length ≤ 6) : Few (n + 1) J := by
  have := h.1
  exact ⟨by omega, fun z => by omega, h6⟩
theorem few_wish {n : Nat} {I : Ideal} (h : Few n I) {x : Act} (ok : ActOk x) : Few (n + 1) (wishI I x).2 := by
  have same : Few (n + 1) I := few_keep h rfl h.2.2
  cases x with
  | make hd m =>
    have h1 := h.1
    refine ⟨?_, fun z fs hf q hq => ?_, fun fs hf => ?_⟩
    · show (I.things ++ [_]).length ≤ _
      rw [List.length_append, List.length_singleton]
      omega
    · have z' : (I.things ++ [List.replicate m (Vl.num 0)]).length = n + 1 := z
      rw [List.length_append, List.length_singleton] at z'
      rcases List.mem_append.mp (show fs ∈ I.things ++ [List.replicate m (Vl.num 0)] from hf) with hf | hf
      · exact h.2.1 (by omega) fs hf q hq
      · rw [List.mem_singleton.mp hf] at hq
        have := List.eq_of_mem_replicate hq
        cases this
    · rcases List.mem_append.mp (show fs ∈ I.things ++ [List.replicate m (Vl.num 0)] from hf) with hf | hf
      · exact h.2.2 fs hf
      · rw [List.mem_singleton.mp hf, List.length_replicate]
        exact ok.2
  | store hd f o =>
    rw [wishI_store]
    split
    · unfold storeI
      split
      · exact same
      · rename_i x _
        refine few_keep h (List.length_set ..) fun fs hf => ?_
        rcases List.mem_or_eq_of_mem_set hf with hf | rfl
        · exact h.2.2 fs hf
        · rw [List.length_set]
          unfold fieldsI
          rw [List.getD_eq_getElem?_getD]
          cases e : I.things[x.toNat]? with
          | none => exact Nat.zero_le _
          | some fs => exact h.2.2 fs (List.mem_of_getElem? e)
    · exact same
  | load hd o f =>
    rw [wishI_load]
    split
    · unfold loadI
      split
      · exact same
      · exact few_keep h rfl h.2.2
    · exact same
  | copy hd o => exact few_keep h rfl h.2.2
  | number hd m => exact few_keep h rfl h.2.2
  | begin => exact same
  | slide => exact same
  | finish => exact same
  | step m => exact same
theorem few_more {n : Nat} {I : Ideal} (h : Few n I) : Few (n + 1) I := few_keep h rfl h.2.2
theorem few_fields {n : Nat} {I : Ideal} (h : Few n I) (x : Int) : (fieldsI I x).length ≤ 6 := by
  unfold fieldsI
  rw [List.getD_eq_getElem?_getD]
  cases e : I.things[x.toNat]? with
  | none => exact Nat.zero_le _
  | some fs => exact h.2.2 fs (List.mem_of_getElem? e)
/-- hands come to fewer than 64 things within 64 acts -/
theorem few_ord {n : Nat} {I : Ideal} {D : Int → Prop} (h : Few n I) (hn : n ≤ 64) (h8 : I.hands.length = 8) (cl : ClosedD (fieldsI I) D) (ran : ∀ x : Int, D x → ∃ n : Nat, x = n ∧ n < I.things.length) (hd : ∀ q, .held q ∈ I.hands → D q) : (ordI I).length ≤ 63 := by
  by_cases c : I.things.length ≤ 63
  · have := nodup_len (P := (List.range I.things.length).map (fun n : Nat => (n : Int))) (ordF_nodup (fd := fieldsI I) 1000 0 (addNew_nodup I.hands List.nodup_nil)) fun x hx => by
      obtain ⟨n, rfl, hn⟩ := ran x (ordF_D cl 1000 0 (addNew_D (fun x hx => by cases hx) hd) x hx)
      exact List.mem_map.mpr ⟨n, List.mem_range.mpr hn, rfl⟩
    rw [List.length_map, List.length_range] at this
    show (ordF _ _ _ _).length ≤ 63
    omega
  · have h1 := h.1
    have hno := h.2.1 (by omega)
    have fno : ∀ x q, .held q ∉ fieldsI I x := fun x q hq => by
      unfold fieldsI at hq
      rw [List.getD_eq_getElem?_getD] at hq
      cases e : I.things[x.toNat]? with
      | none =>
        rw [e] at hq
        cases hq
      | some fs =>
        rw [e] at hq
        exact hno fs (List.mem_of_getElem? e) q hq
    have fixed : ∀ (n k : Nat) (o : List Int), ordF (fieldsI I) n k o = o := fun n => by
      induction n with
      | zero => exact fun _ _ => rfl
      | succ n ih =>
        intro k o
        cases e : o[k]? with
        | none => exact ordF_none e
        | some x =>
          rw [ordF_some e]
          have ea : ∀ (vs : List Vl) (o : List Int), (∀ q, .held q ∉ vs) → addNew o vs = o := fun vs => by
            induction vs with
            | nil => exact fun _ _ => rfl
            | cons v r ihr =>
              intro o hv
              rw [addNew_cons]
              cases v with
              | num z => exact ihr o fun q hq => hv q (List.mem_cons_of_mem _ hq)
              | held z => exact absurd List.mem_cons_self (hv z)
          rw [ea _ _ (fno x)]
          exact ih _ _
    unfold ordI
    rw [fixed]
    have : ∀ (vs : List Vl) (o : List Int), (addNew o vs).length ≤ o.length + vs.length := fun vs => by
      induction vs with
      | nil => exact fun o => Nat.le_refl _
      | cons v r ih =>
        intro o
        have h2 := ih (addV o v)
        have h3 : (addV o v).length ≤ o.length + 1 := by
          cases v with
          | num n => show o.length ≤ _; omega
          | held q =>
            rw [addV_held]
            split
            · omega
            · rw [List.length_append]; exact Nat.le_refl _
        rw [addNew_cons, List.length_cons]
        omega
    have h4 := this I.hands []
    rw [List.length_nil, h8] at h4
    omega
end G

/-! The hall in the heap: packages of defs, the relation between the heap and the plain hall. -/
namespace G
open L2 PySem PyProof.Rows PySem.Spec

/-! ### defs, methods, classes by their names -/
structure FnC (P : Program) (w : World) (K : PySem.W.Frag) (mg : Str → Option Value) (base : Heap) (CX : CXT) (k : Nat) (x : Str) (sp : Sp) : Prop where
  ex : ∃ (f : Addr) (fd : FuncData) (ps : List Str), FnOk P w K mg base CX k f fd ps sp ∧ mg x = some (.ref f) ∧ PySem.W.keepIn K (.ref f) = true ∧ Binds K fd ps []
structure MtC (P : Program) (w : World) (K : PySem.W.Frag) (mg : Str → Option Value) (base : Heap) (CX : CXT) (k : Nat) (C m : Str) (sp : Sp) : Prop where
  ex : ∃ (f : Addr) (fd : FuncData) (ps : List Str), Cls K (He.ga K C) ∧ Meth K (He.ga K C) m f ∧ FnOk P w K mg base CX k f fd ps sp ∧ Binds K fd ps []
structure MkC (P : Program) (w : World) (K : PySem.W.Frag) (mg : Str → Option Value) (base : Heap) (CX : CXT) (k : Nat) (C : Str) (sp : Sp) : Prop where
  ex : ∃ (f : Addr) (fd : FuncData) (ps : List Str), Mk K (He.ga K C) f ∧ FnOk P w K mg base CX k f fd ps sp ∧ mg C = some (.ref (He.ga K C)) ∧ Binds K fd ps []
section
variable {P : Program} {w : World} {K : PySem.W.Frag} {mg : Str → Option Value} {base : Heap} {CX : CXT} {k : Nat}
/-- what is to be shown of a def: its arguments' number, its body -/
abbrev Body (P : Program) (w : World) (K : PySem.W.Frag) (mg : Str → Option Value) (base : Heap) (CX : CXT) (k : Nat) (N : List Str) (qual : Str) (st : Stmt) (f : Addr) (sp : Sp) : Prop :=
  ∀ (cdv : Value) (A : Around) (outer : List Env) (s : Shared) (H : Hp) (vs : List V) (Q : VK) (E : XK), Room k (A.deeper (envOfC qual (defScope st) s.heap.objs.size f cdv)) → sp vs H Q E →
    ∃ t, PSs (cxOf CX P w K mg base N qual (defScope st) f cdv A outer s H E) (defBody st) t ∧ t { nx := fun _ H' => Q .non H', rt := Q } (start N vs) H
/-- a def of the text -/
abbrev FD (K : PySem.W.Frag) (x q : Str) (st : Stmt) (f : Addr) (fd : FuncData) : Prop := FunD K x q (defArgs st) (defBody st) (defScope st) [] [] f fd
theorem fnC_mk {x : Str} {st : Stmt} {N ps : List Str} {sp : Sp} (D : ∃ fd, FD K x x st (He.fAd K (x, none)) fd) (hg : mg x = some (.ref (He.ga K x))) (S : FnScope N ps (defScope st))
    (bd : ∀ fd, FD K x x st (He.fAd K (x, none)) fd → Binds K fd ps []) (len : ∀ vs H Q E, sp vs H Q E → vs.length = ps.length) (hb : Body P w K mg base CX k N x st (He.fAd K (x, none)) sp) : FnC P w K mg base CX (k + 1) x sp := by
  obtain ⟨fd, F⟩ := D
  exact ⟨_, fd, ps, F.ok S len hb, hg, F.kp, bd fd F⟩
theorem mtC_mk {C m q : Str} {st : Stmt} {N ps : List Str} {sp : Sp} (D : ∃ fd, FD K m q st (He.fAd K (C, some m)) fd) (c : Cls K (He.ga K C)) (me : Meth K (He.ga K C) m (He.ma K (He.ga K C) m)) (S : FnScope N ps (defScope st))
    (bd : ∀ fd, FD K m q st (He.fAd K (C, some m)) fd → Binds K fd ps []) (len : ∀ vs H Q E, sp vs H Q E → vs.length = ps.length) (hb : Body P w K mg base CX k N q st (He.fAd K (C, some m)) sp) : MtC P w K mg base CX (k + 1) C m sp := by
  obtain ⟨fd, F⟩ := D
  exact ⟨_, fd, ps, c, me, F.ok S len hb, bd fd F⟩
theorem mkC_mk {C q : Str} {st : Stmt} {N ps : List Str} {sp : Sp} (D : ∃ fd, FD K "__init__" q st (He.fAd K (C, some "__init__")) fd) (mk : Mk K (He.ga K C) (He.ma K (He.ga K C) "__init__")) (hg : mg C = some (.ref (He.ga K C))) (S : FnScope N ps (defScope st))
    (bd : ∀ fd, FD K "__init__" q st (He.fAd K (C, some "__init__")) fd → Binds K fd ps []) (len : ∀ vs H Q E, sp vs H Q E → vs.length = ps.length) (hb : Body P w K mg base CX k N q st (He.fAd K (C, some "__init__")) sp) : MkC P w K mg base CX (k + 1) C sp := by
  obtain ⟨fd, F⟩ := D
  exact ⟨_, fd, ps, mk, F.ok S len hb, hg, bd fd F⟩
end

section
variable {X : Cx} {CX : CXT} {k j : Nat} {C x m : Str} {sp : Sp} {E : XK} {p pos apos : Pos} {e o : Expr} {es : List Expr} {ta : TE} {t : TA}
theorem pf_call (c : FnC X.prog X.w X.K X.mg X.base CX k x sp) (hr : Room j X.A) (hk : k ≤ j) (hx : Passes CX X E) (ha : PA X (e :: es) t) (hg : Gl X x := by rfl)
    (hdb : (x == ("__debug__" : Str)) = false := by decide) (he : starEach (e :: es) X.env = (false, eval e X.env) :: starEach es X.env := by rfl)
    (hpl : (backTo pos (starEach es X.env)).any (·.1) = false := by rfl) : PE X (.Call (.Name x p) (e :: es) [] pos) (tCall sp [] E t) := by
  obtain ⟨f, fd, ps, F, hm, kp, b⟩ := c.ex
  exact pe_call F (hr.mono hk) hg hm kp b .nil hx ha hdb he hpl
theorem pf_call0 (c : FnC X.prog X.w X.K X.mg X.base CX k x sp) (hr : Room j X.A) (hk : k ≤ j) (hx : Passes CX X E) (hg : Gl X x := by rfl)
    (hdb : (x == ("__debug__" : Str)) = false := by decide) : PE X (.Call (.Name x p) [] [] pos) (tCall sp [] E tNil) := by
  obtain ⟨f, fd, ps, F, hm, kp, b⟩ := c.ex
  exact pe_call0 F (hr.mono hk) hg hm kp b .nil hx hdb
/-- a call whose error is wished for at the caller's slots -/
theorem pf_callS {E : L2.St → XK} (c : FnC X.prog X.w X.K X.mg X.base CX k x sp) (hr : Room j X.A) (hk : k ≤ j) (hx : ∀ σ, PassesAt CX X σ (E σ)) (ha : PA X (e :: es) t) (hg : Gl X x := by rfl)
    (hdb : (x == ("__debug__" : Str)) = false := by decide) (he : starEach (e :: es) X.env = (false, eval e X.env) :: starEach es X.env := by rfl)
    (hpl : (backTo pos (starEach es X.env)).any (·.1) = false := by rfl) : PE X (.Call (.Name x p) (e :: es) [] pos) (tCallS sp E t) := by
  obtain ⟨f, fd, ps, F, hm, kp, b⟩ := c.ex
  exact pe_callS F (hr.mono hk) hg hm kp b hx ha hdb he hpl
theorem pf_make (c : MkC X.prog X.w X.K X.mg X.base CX k C sp) (hr : Room j X.A) (hk : k + 1 ≤ j) (hx : Passes CX X E) (ha : PA X (e :: es) t) (hg : Gl X C := by rfl)
    (hdb : (C == ("__debug__" : Str)) = false := by decide) (he : starEach (e :: es) X.env = (false, eval e X.env) :: starEach es X.env := by rfl)
    (hpl : (backTo pos (starEach es X.env)).any (·.1) = false := by rfl) : PE X (.Call (.Name C p) (e :: es) [] pos) (tMake (He.ga X.K C) sp [] E t) := by
  obtain ⟨f, fd, ps, M, F, hm, b⟩ := c.ex
  exact pe_make M F (hr.mono hk) hg hm b .nil hx ha hdb he hpl
theorem pf_meth {pl : Sem Bool} (c : MtC X.prog X.w X.K X.mg X.base CX k C m sp) (hr : Room j X.A) (hk : k ≤ j) (hx : Passes CX X E) (ho : PE X o ta) (ha : PA X (e :: es) t)
    (hst : starEach (e :: es) X.env = (false, eval e X.env) :: starEach es X.env := by rfl) (hpl : (backTo pos (starEach es X.env)).any (·.1) = false := by rfl)
    (ht : eval (.Call (.Attribute o m apos) (e :: es) [] pos) X.env = (do
        let ov ← eval o X.env
        standAt apos.atName
        let (f, first) ← holding [ov] (getMethod ov m pl)
        callWith pos f first (backTo pos (starEach (e :: es) X.env)) (backToKw pos (keywordEach [] X.env))) := by rfl) :
    PE X (.Call (.Attribute o m apos) (e :: es) [] pos) (tMeth (He.ga X.K C) m sp [] E ta t) := by
  obtain ⟨f, fd, ps, hc, hm, F, b⟩ := c.ex
  exact pe_meth (pl := pl) ho hc hm F (hr.mono hk) b .nil hx ha hst hpl ht
theorem pf_meth0 {pl : Sem Bool} (c : MtC X.prog X.w X.K X.mg X.base CX k C m sp) (hr : Room j X.A) (hk : k ≤ j) (hx : Passes CX X E) (ho : PE X o ta)
    (ht : eval (.Call (.Attribute o m apos) [] [] pos) X.env = (do
        let ov ← eval o X.env
        standAt apos.atName
        let (f, first) ← holding [ov] (getMethod ov m pl)
        callWith pos f first (backTo pos (starEach [] X.env)) (backToKw pos (keywordEach [] X.env))) := by rfl) :
    PE X (.Call (.Attribute o m apos) [] [] pos) (tMeth (He.ga X.K C) m sp [] E ta tNil) := by
  obtain ⟨f, fd, ps, hc, hm, F, b⟩ := c.ex
  exact pe_meth0 (pl := pl) ho hc hm F (hr.mono hk) b .nil hx ht
end

/-- a method's call in a try: its error is wished for at the caller's slots -/
def tMethE (C : Addr) (m : Str) (sp : Sp) (E : L2.St → XK) (ta : TE) (t : TA) : TE := fun σ H Q => ta σ H fun x H1 => ∃ a dx fs, x = .ref a ∧ H1 a = some (.ins C dx fs) ∧ fs.lookup m = none ∧ t σ H1 fun vs H2 => sp (x :: vs) H2 Q (E σ)
section
variable {X : Cx} {CX : CXT} {k j : Nat} {C m : Str} {sp : Sp} {E : L2.St → XK} {pos apos : Pos} {e o : Expr} {es : List Expr} {ta : TE} {t : TA}
theorem pf_methE {pl : Sem Bool} (c : MtC X.prog X.w X.K X.mg X.base CX k C m sp) (room : Room j X.A) (hk : k ≤ j) (hx : ∀ σ, PassesAt CX X σ (E σ)) (ho : PE X o ta) (ha : PA X (e :: es) t)
    (hst : starEach (e :: es) X.env = (false, eval e X.env) :: starEach es X.env := by rfl) (hpl : (backTo pos (starEach es X.env)).any (·.1) = false := by rfl)
    (ht : eval (.Call (.Attribute o m apos) (e :: es) [] pos) X.env = (do
        let ov ← eval o X.env
        standAt apos.atName
        let (f, first) ← holding [ov] (getMethod ov m pl)
        callWith pos f first (backTo pos (starEach (e :: es) X.env)) (backToKw pos (keywordEach [] X.env))) := by rfl) :
    PE X (.Call (.Attribute o m apos) (e :: es) [] pos) (tMethE (He.ga X.K C) m sp E ta t) := by
  obtain ⟨g, gd, ps, hc, hm, F, bi⟩ := c.ex
  constructor
  intro pins s σ H Q I h
  refine PySem.W.methodCall_KW (pl := pl) (thn (ho.run pins s σ H _ I h) fun u z ⟨x, Hx, Ix, rx, a, dx, fs, ex, ea, l, q⟩ => ?_) ht
  subst ex
  obtain rfl := (show u = Value.ref a from rx)
  refine getmeth_ok Ix ea hc hm l (PySem.W.callWith_K (first := [.ref a]) (h₀ := X.base) Ix.ok.mod.kin hm.kp (thn (ha.run pos pins z σ Hx _ Ix q) fun us z2 ⟨vs, Hy, Iy, r, q2⟩ => ⟨Iy.kIn, ?_⟩) hst hpl)
  exact run_fnS (us := .ref a :: us) (vs := .ref a :: vs) F (room.mono hk) bi (hx σ) Iy (.cons rfl r) q2
theorem pf_methE0 {pl : Sem Bool} (c : MtC X.prog X.w X.K X.mg X.base CX k C m sp) (room : Room j X.A) (hk : k ≤ j) (hx : ∀ σ, PassesAt CX X σ (E σ)) (ho : PE X o ta)
    (ht : eval (.Call (.Attribute o m apos) [] [] pos) X.env = (do
        let ov ← eval o X.env
        standAt apos.atName
        let (f, first) ← holding [ov] (getMethod ov m pl)
        callWith pos f first (backTo pos (starEach [] X.env)) (backToKw pos (keywordEach [] X.env))) := by rfl) :
    PE X (.Call (.Attribute o m apos) [] [] pos) (tMethE (He.ga X.K C) m sp E ta tNil) := by
  obtain ⟨g, gd, ps, hc, hm, F, bi⟩ := c.ex
  constructor
  intro pins s σ H Q I h
  refine PySem.W.methodCall_KW (pl := pl) (thn (ho.run pins s σ H _ I h) fun u z ⟨x, Hx, Ix, rx, a, dx, fs, ex, ea, l, q⟩ => ?_) ht
  subst ex
  obtain rfl := (show u = Value.ref a from rx)
  exact getmeth_ok Ix ea hc hm l (PySem.W.callWith_K0 (first := [.ref a]) Ix.kIn hm.kp (run_fnS (us := [.ref a]) (vs := [.ref a]) F (room.mono hk) bi (hx σ) Ix (.cons rfl .nil) q))
end
/-- isinstance(e, ..) in a suite: whatever the exception's class is -/
theorem call_isEx {X : Cx} {a : Addr} {oe : Obj} {cls : Value} {d : Option Addr} {pn : List (Addr × Obj)} (hz : Zc cls d oe) (hf : ∃ vs, oe.data = .fields vs) :
    CallR (X.suite a ((a, oe) :: pn)) (.builtin "isinstance") (fun xs H Q => ∃ D, cls = .ref D ∧ d = none ∧ ExcC X.K D ∧ rIsE X.K D a xs H Q) := by
  intro pins s σ H xs us Q I r h
  obtain ⟨D, rfl, rfl, C, h⟩ := h
  exact call_isE C hz hf pins s σ H xs us Q I r h

/-! ### what the top has written of the program's classes -/
abbrev cHeld (K : PySem.W.Frag) : Addr := He.ga K "Held"
abbrev cThing (K : PySem.W.Frag) : Addr := He.ga K "Thing"
abbrev cMem (K : PySem.W.Frag) : Addr := He.ga K "Memory"
abbrev cSw (K : PySem.W.Frag) : Addr := He.ga K "Sweeper"
abbrev cHall (K : PySem.W.Frag) : Addr := He.ga K "Hall"
/-- an own exception's facts -/
structure ExF (K : PySem.W.Frag) (mg : Str → Option Value) (x : Str) : Prop where
  g : mg x = some (.ref (He.ga K x))
  e : PySem.W.excIn K (He.ga K x) He.veBase "ValueError.__new__" = true
  k : PySem.W.keepIn K (.ref (He.ga K x)) = true
  b : PySem.W.subIn K (.ref (He.ga K x)) (.type "BaseException") = some true
  t : PySem.W.typeIn K (.ref (He.ga K x)) = some (.type "type")
/-- what isinstance asks of a class's instances -/
structure InsF (K : PySem.W.Frag) (x : Str) : Prop where
  ha : PySem.W.findIn K (.ref (He.ga K x)) "__class__" = some (some (.builtin "object.__class__"))
  hm : PySem.W.mroIn K (He.ga K x) (.type "object") = some true
structure Txt (K : PySem.W.Frag) (mg : Str → Option Value) : Prop where
  cThing : Cls K (cThing K)
  cHeld : Cls K (cHeld K)
  cMem : Cls K (cMem K)
  cSw : Cls K (cSw K)
  cHall : Cls K (cHall K)
  nFields : NoAttr K (G.cThing K) "fields"
  nColour : NoAttr K (G.cThing K) "colour"
  nPlace : NoAttr K (G.cHeld K) "place"
  nSize : NoAttr K (G.cMem K) "size"
  nThings : NoAttr K (G.cMem K) "things"
  nMemS : NoAttr K (G.cSw K) "memory"
  nStanding : NoAttr K (G.cSw K) "standing"
  nAtWord : NoAttr K (G.cSw K) "at_word"
  nMemH : NoAttr K (G.cHall K) "memory"
  nHands : NoAttr K (G.cHall K) "hands"
  nSweeper : NoAttr K (G.cHall K) "sweeper"
  gHeld : mg "Held" = some (.ref (G.cHeld K))
  iHeld : InsF K "Held"
  gcls : PySem.W.specialIn K (.builtin "object.__class__") "__get__" = some (some (.builtin "getset_descriptor.__get__"))
  tcls : PySem.W.takesIn K (.builtin "object.__class__") = some true
  kInt : PySem.W.kitOne K (.type "int") (.ref (G.cHeld K)) = some false
  neHT : G.cHeld K ≠ G.cThing K
  neHM : G.cHeld K ≠ G.cMem K
  neHS : G.cHeld K ≠ G.cSw K
  neHH : G.cHeld K ≠ G.cHall K
  neTM : G.cThing K ≠ G.cMem K
  neTS : G.cThing K ≠ G.cSw K
  neTH : G.cThing K ≠ G.cHall K
  neMS : G.cMem K ≠ G.cSw K
  neMH : G.cMem K ≠ G.cHall K
  neSH : G.cSw K ≠ G.cHall K
  cT : ExcC K (He.ga K "NoThing")
  kTT : PySem.W.kitOne K (.ref (He.ga K "NoThing")) (.ref (He.ga K "NoThing")) = some true
  kTF : PySem.W.kitOne K (.ref (He.ga K "NoThing")) (.ref (He.ga K "NoField")) = some false
  kTR : PySem.W.kitOne K (.ref (He.ga K "NoThing")) (.ref (He.ga K "NoRoom")) = some false
  kTN : PySem.W.kitOne K (.ref (He.ga K "NoThing")) (.ref (He.ga K "NotNow")) = some false
  kTV : PySem.W.kitOne K (.ref (He.ga K "NoThing")) (.type "ValueError") = some true
  eTH : PySem.W.exmOne K (.ref (He.ga K "NoThing")) (.ref (He.ga K "HallError")) = some true
  cF : ExcC K (He.ga K "NoField")
  kFT : PySem.W.kitOne K (.ref (He.ga K "NoField")) (.ref (He.ga K "NoThing")) = some false
  kFF : PySem.W.kitOne K (.ref (He.ga K "NoField")) (.ref (He.ga K "NoField")) = some true
  kFR : PySem.W.kitOne K (.ref (He.ga K "NoField")) (.ref (He.ga K "NoRoom")) = some false
  kFN : PySem.W.kitOne K (.ref (He.ga K "NoField")) (.ref (He.ga K "NotNow")) = some false
  kFV : PySem.W.kitOne K (.ref (He.ga K "NoField")) (.type "ValueError") = some true
  eFH : PySem.W.exmOne K (.ref (He.ga K "NoField")) (.ref (He.ga K "HallError")) = some true
  cR : ExcC K (He.ga K "NoRoom")
  kRT : PySem.W.kitOne K (.ref (He.ga K "NoRoom")) (.ref (He.ga K "NoThing")) = some false
  kRF : PySem.W.kitOne K (.ref (He.ga K "NoRoom")) (.ref (He.ga K "NoField")) = some false
  kRR : PySem.W.kitOne K (.ref (He.ga K "NoRoom")) (.ref (He.ga K "NoRoom")) = some true
  kRN : PySem.W.kitOne K (.ref (He.ga K "NoRoom")) (.ref (He.ga K "NotNow")) = some false
  kRV : PySem.W.kitOne K (.ref (He.ga K "NoRoom")) (.type "ValueError") = some true
  eRH : PySem.W.exmOne K (.ref (He.ga K "NoRoom")) (.ref (He.ga K "HallError")) = some true
  cN : ExcC K (He.ga K "NotNow")
  kNT : PySem.W.kitOne K (.ref (He.ga K "NotNow")) (.ref (He.ga K "NoThing")) = some false
  kNF : PySem.W.kitOne K (.ref (He.ga K "NotNow")) (.ref (He.ga K "NoField")) = some false
  kNR : PySem.W.kitOne K (.ref (He.ga K "NotNow")) (.ref (He.ga K "NoRoom")) = some false
  kNN : PySem.W.kitOne K (.ref (He.ga K "NotNow")) (.ref (He.ga K "NotNow")) = some true
  kNV : PySem.W.kitOne K (.ref (He.ga K "NotNow")) (.type "ValueError") = some true
  eNH : PySem.W.exmOne K (.ref (He.ga K "NotNow")) (.ref (He.ga K "HallError")) = some true
  gHE : mg "HallError" = some (.ref (He.ga K "HallError"))
  eTT : PySem.W.exmOne K (.ref (He.ga K "NoThing")) (.ref (He.ga K "NoThing")) = some true
  eFT : PySem.W.exmOne K (.ref (He.ga K "NoField")) (.ref (He.ga K "NoThing")) = some false
  eFF : PySem.W.exmOne K (.ref (He.ga K "NoField")) (.ref (He.ga K "NoField")) = some true
  eRT : PySem.W.exmOne K (.ref (He.ga K "NoRoom")) (.ref (He.ga K "NoThing")) = some false
  eRF : PySem.W.exmOne K (.ref (He.ga K "NoRoom")) (.ref (He.ga K "NoField")) = some false
  eRR : PySem.W.exmOne K (.ref (He.ga K "NoRoom")) (.ref (He.ga K "NoRoom")) = some true
  eNT : PySem.W.exmOne K (.ref (He.ga K "NotNow")) (.ref (He.ga K "NoThing")) = some false
  eNF : PySem.W.exmOne K (.ref (He.ga K "NotNow")) (.ref (He.ga K "NoField")) = some false
  eNR : PySem.W.exmOne K (.ref (He.ga K "NotNow")) (.ref (He.ga K "NoRoom")) = some false
  eNN : PySem.W.exmOne K (.ref (He.ga K "NotNow")) (.ref (He.ga K "NotNow")) = some true
  xThing : ExF K mg "NoThing"
  xField : ExF K mg "NoField"
  xRoom : ExF K mg "NoRoom"
  xNow : ExF K mg "NotNow"
  b_len : mg "len" = none
  b_sorted : mg "sorted" = none
  b_isinstance : mg "isinstance" = none
  b_tuple : mg "tuple" = none
  b_range : mg "range" = none
  b_list : mg "list" = none
  b_int : mg "int" = none
  b_bool : mg "bool" = none
  b_str : mg "str" = none
  b_sum : mg "sum" = none
  b_all : mg "all" = none
  b_any : mg "any" = none
  b_min : mg "min" = none
  b_set : mg "set" = none
  b_enumerate : mg "enumerate" = none
  b_ValueError : mg "ValueError" = none

/-! ### fields of instances -/
theorem lk0 {f : Str} {v : V} {r : List (Str × V)} : List.lookup f ((f, v) :: r) = some v := by simp [List.lookup]
theorem lk1 {f g : Str} {v : V} {r : List (Str × V)} (h : (f == g) = false) : List.lookup f ((g, v) :: r) = List.lookup f r := by simp [List.lookup, h]
theorem lkN {f : Str} : List.lookup f ([] : List (Str × V)) = none := rfl
theorem pf0 {f : Str} {v x : V} {r : List (Str × V)} : putF f v ((f, x) :: r) = (f, v) :: r := by simp [putF]
theorem pf1 {f g : Str} {v x : V} {r : List (Str × V)} (h : (g == f) = false) : putF f v ((g, x) :: r) = (g, x) :: putF f v r := by
  show (if g = f then _ else _) = _
  rw [if_neg (by simpa using h)]
theorem pfN {f : Str} {v : V} : putF f v [] = [(f, v)] := rfl

def colS : Col → Str
  | .white => "white"
  | .grey => "grey"
  | .black => "black"
def phS : Ph → Str
  | .idle => "idle"
  | .mark => "mark"
  | .sweep => "sweep"
theorem colS_inj {a b : Col} : (colS a = colS b) ↔ a = b := by
  constructor
  · intro h
    cases a <;> cases b <;> first | rfl | (exact absurd h (by decide +kernel))
  · intro h; rw [h]
theorem phS_inj {a b : Ph} : (phS a = phS b) ↔ a = b := by
  constructor
  · intro h
    cases a <;> cases b <;> first | rfl | (exact absurd h (by decide +kernel))
  · intro h; rw [h]

def thF (l : Addr) (c : Col) : List (Str × V) := [("fields", .ref l), ("colour", .str (colS c))]
def heldF (p : Int) : List (Str × V) := [("place", .int p)]
def memF (n : Int) (d : Addr) : List (Str × V) := [("size", .int n), ("things", .ref d)]
def swF (m : Addr) (ph : Ph) (f : Int) : List (Str × V) := [("memory", .ref m), ("standing", .str (phS ph)), ("at_word", .int f)]
def hallF0 (m l : Addr) : List (Str × V) := [("memory", .ref m), ("hands", .ref l)]
def hallF (m l s : Addr) : List (Str × V) := [("memory", .ref m), ("hands", .ref l), ("sweeper", .ref s)]
theorem thF_fields {l c} : (thF l c).lookup ("fields" : Str) = some (.ref l) := lk0
theorem thF_colour {l c} : (thF l c).lookup ("colour" : Str) = some (.str (colS c)) := by
  unfold thF
  rw [lk1 (by decide +kernel), lk0]
theorem heldF_place {p} : (heldF p).lookup ("place" : Str) = some (.int p) := lk0
theorem memF_size {n d} : (memF n d).lookup ("size" : Str) = some (.int n) := lk0
theorem memF_things {n d} : (memF n d).lookup ("things" : Str) = some (.ref d) := by
  unfold memF
  rw [lk1 (by decide +kernel), lk0]
theorem swF_memory {m p f} : (swF m p f).lookup ("memory" : Str) = some (.ref m) := lk0
theorem swF_standing {m p f} : (swF m p f).lookup ("standing" : Str) = some (.str (phS p)) := by
  unfold swF
  rw [lk1 (by decide +kernel), lk0]
theorem swF_at {m p f} : (swF m p f).lookup ("at_word" : Str) = some (.int f) := by
  unfold swF
  rw [lk1 (by decide +kernel), lk1 (by decide +kernel), lk0]
theorem hallF_memory {m l s} : (hallF m l s).lookup ("memory" : Str) = some (.ref m) := lk0
theorem hallF_hands {m l s} : (hallF m l s).lookup ("hands" : Str) = some (.ref l) := by
  unfold hallF
  rw [lk1 (by decide +kernel), lk0]
theorem hallF_sweeper {m l s} : (hallF m l s).lookup ("sweeper" : Str) = some (.ref s) := by
  unfold hallF
  rw [lk1 (by decide +kernel), lk1 (by decide +kernel), lk0]
theorem thF_no {l c} {m : Str} (h1 : (m == "fields") = false) (h2 : (m == "colour") = false) : (thF l c).lookup m = none := by
  unfold thF
  rw [lk1 h1, lk1 h2]
  rfl
theorem memF_no {n d} {m : Str} (h1 : (m == "size") = false) (h2 : (m == "things") = false) : (memF n d).lookup m = none := by
  unfold memF
  rw [lk1 h1, lk1 h2]
  rfl
theorem swF_no {a p f} {m : Str} (h1 : (m == "memory") = false) (h2 : (m == "standing") = false) (h3 : (m == "at_word") = false) : (swF a p f).lookup m = none := by
  unfold swF
  rw [lk1 h1, lk1 h2, lk1 h3]
  rfl
theorem hallF_no {a l s} {m : Str} (h1 : (m == "memory") = false) (h2 : (m == "hands") = false) (h3 : (m == "sweeper") = false) : (hallF a l s).lookup m = none := by
  unfold hallF
  rw [lk1 h1, lk1 h2, lk1 h3]
  rfl
theorem thF_put {l c d} : putF ("colour" : Str) (.str (colS d)) (thF l c) = thF l d := by
  unfold thF
  rw [pf1 (by decide +kernel), pf0]
theorem thF_putF {l k c} : putF ("fields" : Str) (.ref k) (thF l c) = thF k c := pf0
theorem swF_putS {m p f q} : putF ("standing" : Str) (.str (phS q)) (swF m p f) = swF m q f := by
  unfold swF
  rw [pf1 (by decide +kernel), pf0]
theorem swF_putA {m p f g} : putF ("at_word" : Str) (.int g) (swF m p f) = swF m p g := by
  unfold swF
  rw [pf1 (by decide +kernel), pf1 (by decide +kernel), pf0]
theorem memF_put {n d e} : putF ("things" : Str) (.ref e) (memF n d) = memF n e := by
  unfold memF
  rw [pf1 (by decide +kernel), pf0]
theorem hallF_put {m l s k} : putF ("hands" : Str) (.ref k) (hallF m l s) = hallF m k s := by
  unfold hallF
  rw [pf1 (by decide +kernel), pf0]

/-! ### the hall in the heap -/
inductive Tag where
  | hall | mem | sw | hl | dc | th (p : Int) | fl (p : Int)
deriving DecidableEq
/-- which objects there are -/
def VT (m : Mem) : Tag → Prop
  | .th p => ∃ t, get m p = some t
  | .fl p => ∃ t, get m p = some t
  | _ => True
/-- a value in the heap; F: all addresses that the hall owns -/
def VlAt (K : PySem.W.Frag) (F : Addr → Prop) (H : Hp) (v : V) : Vl → Prop
  | .num n => v = .int n
  | .held p => ∃ a dx, v = .ref a ∧ F a ∧ H a = some (.ins (cHeld K) dx (heldF p))
def VlsAt (K : PySem.W.Frag) (F : Addr → Prop) (H : Hp) (vs : List V) (xs : List Vl) : Prop :=
  vs.length = xs.length ∧ ∀ (i : Nat) (x : Vl), xs[i]? = some x → ∃ v, vs[i]? = some v ∧ VlAt K F H v x
/-- the dict's pairs -/
def pairs (ρ : Tag → Addr) (m : Mem) : List (Key × V) := m.map fun x => (Sum.inl x.1, V.ref (ρ (.th x.1)))
structure HallR (K : PySem.W.Frag) (F : Addr → Prop) (H : Hp) (ρ : Tag → Addr) (s : St) : Prop where
  inj : ∀ g g', VT s.mem g → VT s.mem g' → ρ g = ρ g' → g = g'
  own : ∀ g, VT s.mem g → F (ρ g)
  al : ∀ a, F a → ∃ o, H a = some o
  hall : ∃ dx, H (ρ .hall) = some (.ins (cHall K) dx (hallF (ρ .mem) (ρ .hl) (ρ .sw)))
  mem : ∃ dx, H (ρ .mem) = some (.ins (cMem K) dx (memF s.size (ρ .dc)))
  sw : ∃ dx, H (ρ .sw) = some (.ins (cSw K) dx (swF (ρ .mem) s.ph s.fin))
  hl : ∃ vs, H (ρ .hl) = some (.lst vs) ∧ VlsAt K F H vs s.hands
  dc : ∃ kvs, H (ρ .dc) = some (.dK kvs) ∧ kvs.Perm (pairs ρ s.mem)
  th : ∀ p t, get s.mem p = some t → ∃ dx, H (ρ (.th p)) = some (.ins (cThing K) dx (thF (ρ (.fl p)) t.col))
  fl : ∀ p t, get s.mem p = some t → ∃ vs, H (ρ (.fl p)) = some (.lst vs) ∧ VlsAt K F H vs t.fs

/-- what stood outside of the hall stands, and is still outside -/
def Kp (F : Addr → Prop) (H : Hp) (F' : Addr → Prop) (H' : Hp) : Prop := ∀ b o, H b = some o → ¬ F b → H' b = some o ∧ ¬ F' b
theorem Kp.refl (F : Addr → Prop) (H : Hp) : Kp F H F H := fun b o h n => ⟨h, n⟩
theorem Kp.trans {F F1 F2 : Addr → Prop} {H H1 H2 : Hp} (a : Kp F H F1 H1) (b : Kp F1 H1 F2 H2) : Kp F H F2 H2 := fun c o h n => by
  obtain ⟨h1, n1⟩ := a c o h n
  exact b c o h1 n1
theorem Kp.same {F : Addr → Prop} {H H' : Hp} (e : Same H H') : Kp F H F H' := fun b o h n => ⟨e b o h, n⟩
theorem Kp.upd {F : Addr → Prop} {H : Hp} {a : Addr} {o : HO} (h : F a) : Kp F H F (L2.upd H a o) := fun b u hb n => by
  rw [upd_ne (fun z => n (by rw [z]; exact h))]
  exact ⟨hb, n⟩
theorem same_new {H : Hp} {a : Addr} {o : HO} (h : H a = none) : Same H (L2.upd H a o) := fun b u e => by
  rw [upd_ne (ne_of_none e h)]
  exact e

section
variable {K : PySem.W.Frag} {mg : Str → Option Value} {F F' : Addr → Prop} {H H' : Hp} {ρ : Tag → Addr} {s : St}
theorem VlAt.same {v : V} {x : Vl} (h : VlAt K F H v x) (e : ∀ a, F a → F' a) (k : ∀ a dx fs, H a = some (.ins (cHeld K) dx fs) → H' a = some (.ins (cHeld K) dx fs)) : VlAt K F' H' v x := by
  cases x with
  | num n => exact h
  | held p =>
    obtain ⟨a, dx, h1, h2, h3⟩ := h
    exact ⟨a, dx, h1, e a h2, k a dx _ h3⟩
theorem VlsAt.same {vs : List V} {xs : List Vl} (h : VlsAt K F H vs xs) (e : ∀ a, F a → F' a) (k : ∀ a dx fs, H a = some (.ins (cHeld K) dx fs) → H' a = some (.ins (cHeld K) dx fs)) : VlsAt K F' H' vs xs :=
  ⟨h.1, fun i x hx => by
    obtain ⟨v, h1, h2⟩ := h.2 i x hx
    exact ⟨v, h1, h2.same e k⟩⟩
theorem VlsAt.get {vs : List V} {xs : List Vl} (h : VlsAt K F H vs xs) {i : Nat} {v : V} (hv : vs[i]? = some v) : ∃ x, xs[i]? = some x ∧ VlAt K F H v x := by
  have hi : i < xs.length := by
    rw [← h.1]
    exact (List.getElem?_eq_some_iff.mp hv).1
  obtain ⟨v', h1, h2⟩ := h.2 i xs[i] (List.getElem?_eq_getElem hi)
  rw [hv] at h1
  cases h1
  exact ⟨_, List.getElem?_eq_getElem hi, h2⟩
theorem VlsAt.set {vs : List V} {xs : List Vl} (h : VlsAt K F H vs xs) (i : Nat) {v : V} {x : Vl} (hv : VlAt K F H v x) : VlsAt K F H (vs.set i v) (xs.set i x) := by
  refine ⟨by rw [List.length_set, List.length_set]; exact h.1, fun j y hy => ?_⟩
  by_cases e : i = j
  · subst e
    have hi : i < xs.length := by
      have := (List.getElem?_eq_some_iff.mp hy).1
      rwa [List.length_set] at this
    rw [List.getElem?_set_self hi] at hy
    cases hy
    exact ⟨v, List.getElem?_set_self (by rw [h.1]; exact hi), hv⟩
  · rw [List.getElem?_set_ne e] at hy
    obtain ⟨u, h1, h2⟩ := h.2 j y hy
    exact ⟨u, by rw [List.getElem?_set_ne e]; exact h1, h2⟩
/-- all that stood stands: the hall, too -/
theorem HallR.same (R : HallR K F H ρ s) (e : Same H H') : HallR K F H' ρ s where
  inj := R.inj
  own := R.own
  al := fun a h => by
    obtain ⟨o, h⟩ := R.al a h
    exact ⟨o, e a o h⟩
  hall := let ⟨dx, h⟩ := R.hall; ⟨dx, e _ _ h⟩
  mem := let ⟨dx, h⟩ := R.mem; ⟨dx, e _ _ h⟩
  sw := let ⟨dx, h⟩ := R.sw; ⟨dx, e _ _ h⟩
  hl := let ⟨vs, h, k⟩ := R.hl; ⟨vs, e _ _ h, k.same (fun _ z => z) fun a dx fs q => e _ _ q⟩
  dc := let ⟨kvs, h, k⟩ := R.dc; ⟨kvs, e _ _ h, k⟩
  th := fun p t g => let ⟨dx, h⟩ := R.th p t g; ⟨dx, e _ _ h⟩
  fl := fun p t g => let ⟨vs, h, k⟩ := R.fl p t g; ⟨vs, e _ _ h, k.same (fun _ z => z) fun a dx fs q => e _ _ q⟩
/-- what another hall does leaves this one as it is -/
theorem HallR.apart (R : HallR K F H ρ s) {F1 F1' : Addr → Prop} (k : Kp F1 H F1' H') (d : ∀ a, F a → ¬ F1 a) : HallR K F H' ρ s ∧ ∀ a, F a → ¬ F1' a := by
  have key : ∀ a, F a → ∀ o, H a = some o → H' a = some o := fun a h o e => (k a o e (d a h)).1
  have kv : ∀ {vs : List V} {xs : List Vl}, VlsAt K F H vs xs → VlsAt K F H' vs xs := fun {vs xs} h => ⟨h.1, fun i x hx => by
    obtain ⟨v, h1, h2⟩ := h.2 i x hx
    refine ⟨v, h1, ?_⟩
    cases x with
    | num n => exact h2
    | held p =>
      obtain ⟨a, dx, g1, g2, g3⟩ := h2
      exact ⟨a, dx, g1, g2, key a g2 _ g3⟩⟩
  refine ⟨⟨R.inj, R.own, fun a h => ?_, ?_, ?_, ?_, ?_, ?_, fun p t g => ?_, fun p t g => ?_⟩, fun a h => ?_⟩
  · obtain ⟨o, e⟩ := R.al a h
    exact ⟨o, key a h o e⟩
  · obtain ⟨dx, h⟩ := R.hall
    exact ⟨dx, key _ (R.own .hall trivial) _ h⟩
  · obtain ⟨dx, h⟩ := R.mem
    exact ⟨dx, key _ (R.own .mem trivial) _ h⟩
  · obtain ⟨dx, h⟩ := R.sw
    exact ⟨dx, key _ (R.own .sw trivial) _ h⟩
  · obtain ⟨vs, h, v⟩ := R.hl
    exact ⟨vs, key _ (R.own .hl trivial) _ h, kv v⟩
  · obtain ⟨kvs, h, v⟩ := R.dc
    exact ⟨kvs, key _ (R.own .dc trivial) _ h, v⟩
  · obtain ⟨dx, h⟩ := R.th p t g
    exact ⟨dx, key _ (R.own (.th p) ⟨t, g⟩) _ h⟩
  · obtain ⟨vs, h, v⟩ := R.fl p t g
    exact ⟨vs, key _ (R.own (.fl p) ⟨t, g⟩) _ h, kv v⟩
  · obtain ⟨o, e⟩ := R.al a h
    exact (k a o e (d a h)).2
theorem HallR.ne (R : HallR K F H ρ s) {g g' : Tag} (v : VT s.mem g) (v' : VT s.mem g') (h : g ≠ g') : ρ g ≠ ρ g' := fun e => h (R.inj g g' v v' e)
end
end G

/-! One object of the hall changes: the hall behind it. -/
namespace G
open L2 PySem PyProof.Rows PySem.Spec
section
variable {K : PySem.W.Frag} {mg : Str → Option Value} {F F' : Addr → Prop} {H H' : Hp} {ρ : Tag → Addr} {s : St}
theorem HallR.notHeld (R : HallR K F H ρ s) (T : Txt K mg) {g : Tag} (v : VT s.mem g) {dx : Addr} {fs : List (Str × V)} (h : H (ρ g) = some (.ins (cHeld K) dx fs)) : False := by
  cases g with
  | hall =>
    obtain ⟨d, e⟩ := R.hall
    rw [h] at e
    exact T.neHH (HO.ins.inj (Option.some.inj e)).1
  | mem =>
    obtain ⟨d, e⟩ := R.mem
    rw [h] at e
    exact T.neHM (HO.ins.inj (Option.some.inj e)).1
  | sw =>
    obtain ⟨d, e⟩ := R.sw
    rw [h] at e
    exact T.neHS (HO.ins.inj (Option.some.inj e)).1
  | hl =>
    obtain ⟨d, e, _⟩ := R.hl
    rw [h] at e
    cases e
  | dc =>
    obtain ⟨d, e, _⟩ := R.dc
    rw [h] at e
    cases e
  | th p =>
    obtain ⟨t, gt⟩ := v
    obtain ⟨d, e⟩ := R.th p t gt
    rw [h] at e
    exact T.neHT (HO.ins.inj (Option.some.inj e)).1
  | fl p =>
    obtain ⟨t, gt⟩ := v
    obtain ⟨d, e, _⟩ := R.fl p t gt
    rw [h] at e
    cases e
theorem HallR.keepHeld (R : HallR K F H ρ s) (T : Txt K mg) {g : Tag} (v : VT s.mem g) (o : HO) : ∀ a dx fs, H a = some (.ins (cHeld K) dx fs) → upd H (ρ g) o a = some (.ins (cHeld K) dx fs) := fun a dx fs h => by
  rw [upd_ne]
  · exact h
  · intro e
    rw [e] at h
    exact R.notHeld T v h
theorem upd_al {a : Addr} {o : HO} (R : ∀ a, F a → ∃ o, H a = some o) : ∀ b, F b → ∃ o', upd H a o b = some o' := fun b h => by
  by_cases e : b = a
  · subst e
    exact ⟨o, upd_same⟩
  · rw [upd_ne e]
    exact R b h
theorem VT.modT {m : Mem} {p : Int} {f : Th → Th} {g : Tag} : VT (modT m p f) g ↔ VT m g := by
  have k : ∀ q, (∃ t, get (G.modT m p f) q = some t) ↔ ∃ t, get m q = some t := fun q => by
    rw [get_modT]
    split
    · cases get m q with
      | none => simp
      | some t => simp
    · exact Iff.rfl
  cases g with
  | th q => exact k q
  | fl q => exact k q
  | _ => exact Iff.rfl
theorem pairs_modT (ρ : Tag → Addr) (m : Mem) (p : Int) (f : Th → Th) : pairs ρ (modT m p f) = pairs ρ m := by
  unfold pairs modT
  rw [List.map_map]
  refine List.map_congr_left fun x _ => ?_
  show (fun x : Int × Th => ((Sum.inl x.1 : Key), V.ref (ρ (.th x.1)))) (if x.1 = p then (x.1, f x.2) else x) = _
  split <;> rfl

/-- a thing's colour -/
theorem HallR.setCol (R : HallR K F H ρ s) (T : Txt K mg) {p : Int} {t : Th} (g : get s.mem p = some t) (c : Col) {dx : Addr} :
    HallR K F (upd H (ρ (.th p)) (.ins (cThing K) dx (thF (ρ (.fl p)) c))) ρ { s with mem := modT s.mem p (G.setCol c) } := by
  have v : VT s.mem (.th p) := ⟨t, g⟩
  have hk := R.keepHeld T v (.ins (cThing K) dx (thF (ρ (.fl p)) c))
  have ne : ∀ g', VT s.mem g' → g' ≠ .th p → upd H (ρ (.th p)) (.ins (cThing K) dx (thF (ρ (.fl p)) c)) (ρ g') = H (ρ g') := fun g' v' n => upd_ne (R.ne v' v n)
  refine ⟨fun g g' v v' => R.inj g g' (VT.modT.mp v) (VT.modT.mp v'), fun g v => R.own g (VT.modT.mp v), upd_al R.al, ?_, ?_, ?_, ?_, ?_, fun q u gu => ?_, fun q u gu => ?_⟩
  · obtain ⟨d, e⟩ := R.hall
    exact ⟨d, (ne .hall trivial (by simp)).trans e⟩
  · obtain ⟨d, e⟩ := R.mem
    exact ⟨d, (ne .mem trivial (by simp)).trans e⟩
  · obtain ⟨d, e⟩ := R.sw
    exact ⟨d, (ne .sw trivial (by simp)).trans e⟩
  · obtain ⟨vs, e, k⟩ := R.hl
    exact ⟨vs, (ne .hl trivial (by simp)).trans e, k.same (fun _ z => z) hk⟩
  · obtain ⟨kvs, e, k⟩ := R.dc
    exact ⟨kvs, (ne .dc trivial (by simp)).trans e, by rw [pairs_modT]; exact k⟩
  · have gu' : get (modT s.mem p (G.setCol c)) q = some u := gu
    rw [get_modT] at gu'
    split at gu'
    · rename_i eq
      subst eq
      rw [g] at gu'
      cases gu'
      exact ⟨dx, upd_same⟩
    · rename_i nq
      obtain ⟨d, e⟩ := R.th q u gu'
      exact ⟨d, (ne (.th q) ⟨u, gu'⟩ (by simp [nq])).trans e⟩
  · have gu' : get (modT s.mem p (G.setCol c)) q = some u := gu
    rw [get_modT] at gu'
    split at gu'
    · rename_i eq
      subst eq
      rw [g] at gu'
      cases gu'
      obtain ⟨vs, e, k⟩ := R.fl q t g
      exact ⟨vs, (ne (.fl q) ⟨t, g⟩ (by simp)).trans e, k.same (fun _ z => z) hk⟩
    · obtain ⟨vs, e, k⟩ := R.fl q u gu'
      exact ⟨vs, (ne (.fl q) ⟨u, gu'⟩ (by simp)).trans e, k.same (fun _ z => z) hk⟩
/-- a field of a thing -/
theorem HallR.setField (R : HallR K F H ρ s) (T : Txt K mg) {p : Int} {t : Th} (g : get s.mem p = some t) {vs : List V} (hv : VlsAt K F H vs t.fs) {i : Nat} {v : V} {x : Vl} (hx : VlAt K F H v x) :
    HallR K F (upd H (ρ (.fl p)) (.lst (vs.set i v))) ρ { s with mem := modT s.mem p (G.setField i x) } := by
  have v0 : VT s.mem (.fl p) := ⟨t, g⟩
  have hk := R.keepHeld T v0 (.lst (vs.set i v))
  have ne : ∀ g', VT s.mem g' → g' ≠ .fl p → upd H (ρ (.fl p)) (.lst (vs.set i v)) (ρ g') = H (ρ g') := fun g' v' n => upd_ne (R.ne v' v0 n)
  refine ⟨fun g g' v v' => R.inj g g' (VT.modT.mp v) (VT.modT.mp v'), fun g v => R.own g (VT.modT.mp v), upd_al R.al, ?_, ?_, ?_, ?_, ?_, fun q u gu => ?_, fun q u gu => ?_⟩
  · obtain ⟨d, e⟩ := R.hall
    exact ⟨d, (ne .hall trivial (by simp)).trans e⟩
  · obtain ⟨d, e⟩ := R.mem
    exact ⟨d, (ne .mem trivial (by simp)).trans e⟩
  · obtain ⟨d, e⟩ := R.sw
    exact ⟨d, (ne .sw trivial (by simp)).trans e⟩
  · obtain ⟨vs, e, k⟩ := R.hl
    exact ⟨vs, (ne .hl trivial (by simp)).trans e, k.same (fun _ z => z) hk⟩
  · obtain ⟨kvs, e, k⟩ := R.dc
    exact ⟨kvs, (ne .dc trivial (by simp)).trans e, by rw [pairs_modT]; exact k⟩
  · have gu' : get (modT s.mem p (G.setField i x)) q = some u := gu
    rw [get_modT] at gu'
    split at gu'
    · rename_i eq
      subst eq
      rw [g] at gu'
      cases gu'
      obtain ⟨d, e⟩ := R.th q t g
      exact ⟨d, (ne (.th q) ⟨t, g⟩ (by simp)).trans e⟩
    · obtain ⟨d, e⟩ := R.th q u gu'
      exact ⟨d, (ne (.th q) ⟨u, gu'⟩ (by simp)).trans e⟩
  · have gu' : get (modT s.mem p (G.setField i x)) q = some u := gu
    rw [get_modT] at gu'
    split at gu'
    · rename_i eq
      subst eq
      rw [g] at gu'
      cases gu'
      exact ⟨_, upd_same, (hv.set i hx).same (fun _ z => z) hk⟩
    · rename_i nq
      obtain ⟨vs, e, k⟩ := R.fl q u gu'
      exact ⟨vs, (ne (.fl q) ⟨u, gu'⟩ (by simp [nq])).trans e, k.same (fun _ z => z) hk⟩
/-- a hand -/
theorem HallR.setHand (R : HallR K F H ρ s) (T : Txt K mg) {vs : List V} (hv : VlsAt K F H vs s.hands) {i : Nat} {v : V} {x : Vl} (hx : VlAt K F H v x) :
    HallR K F (upd H (ρ .hl) (.lst (vs.set i v))) ρ { s with hands := s.hands.set i x } := by
  have hk := R.keepHeld T (g := .hl) trivial (.lst (vs.set i v))
  have ne : ∀ g', VT s.mem g' → g' ≠ .hl → upd H (ρ .hl) (.lst (vs.set i v)) (ρ g') = H (ρ g') := fun g' v' n => upd_ne (R.ne v' (g' := .hl) trivial n)
  refine ⟨R.inj, R.own, upd_al R.al, ?_, ?_, ?_, ?_, ?_, fun q u gu => ?_, fun q u gu => ?_⟩
  · obtain ⟨d, e⟩ := R.hall
    exact ⟨d, (ne .hall trivial (by simp)).trans e⟩
  · obtain ⟨d, e⟩ := R.mem
    exact ⟨d, (ne .mem trivial (by simp)).trans e⟩
  · obtain ⟨d, e⟩ := R.sw
    exact ⟨d, (ne .sw trivial (by simp)).trans e⟩
  · exact ⟨_, upd_same, (hv.set i hx).same (fun _ z => z) hk⟩
  · obtain ⟨kvs, e, k⟩ := R.dc
    exact ⟨kvs, (ne .dc trivial (by simp)).trans e, k⟩
  · obtain ⟨d, e⟩ := R.th q u gu
    exact ⟨d, (ne (.th q) ⟨u, gu⟩ (by simp)).trans e⟩
  · obtain ⟨vs, e, k⟩ := R.fl q u gu
    exact ⟨vs, (ne (.fl q) ⟨u, gu⟩ (by simp)).trans e, k.same (fun _ z => z) hk⟩
/-- the sweeper's own -/
theorem HallR.setSw (R : HallR K F H ρ s) (T : Txt K mg) (ph : Ph) (f : Int) {dx : Addr} :
    HallR K F (upd H (ρ .sw) (.ins (cSw K) dx (swF (ρ .mem) ph f))) ρ { s with ph := ph, fin := f } := by
  have hk := R.keepHeld T (g := .sw) trivial (.ins (cSw K) dx (swF (ρ .mem) ph f))
  have ne : ∀ g', VT s.mem g' → g' ≠ .sw → upd H (ρ .sw) (.ins (cSw K) dx (swF (ρ .mem) ph f)) (ρ g') = H (ρ g') := fun g' v' n => upd_ne (R.ne v' (g' := .sw) trivial n)
  refine ⟨R.inj, R.own, upd_al R.al, ?_, ?_, ?_, ?_, ?_, fun q u gu => ?_, fun q u gu => ?_⟩
  · obtain ⟨d, e⟩ := R.hall
    exact ⟨d, (ne .hall trivial (by simp)).trans e⟩
  · obtain ⟨d, e⟩ := R.mem
    exact ⟨d, (ne .mem trivial (by simp)).trans e⟩
  · exact ⟨dx, upd_same⟩
  · obtain ⟨vs, e, k⟩ := R.hl
    exact ⟨vs, (ne .hl trivial (by simp)).trans e, k.same (fun _ z => z) hk⟩
  · obtain ⟨kvs, e, k⟩ := R.dc
    exact ⟨kvs, (ne .dc trivial (by simp)).trans e, k⟩
  · obtain ⟨d, e⟩ := R.th q u gu
    exact ⟨d, (ne (.th q) ⟨u, gu⟩ (by simp)).trans e⟩
  · obtain ⟨vs, e, k⟩ := R.fl q u gu
    exact ⟨vs, (ne (.fl q) ⟨u, gu⟩ (by simp)).trans e, k.same (fun _ z => z) hk⟩
theorem VT.del {m : Mem} {p : Int} {g : Tag} (v : VT (del m p) g) : VT m g := by
  have k : ∀ q, (∃ t, get (G.del m p) q = some t) → ∃ t, get m q = some t := fun q => by
    rw [get_del]
    split
    · rintro ⟨_, h⟩
      cases h
    · exact id
  cases g with
  | th q => exact k q v
  | fl q => exact k q v
  | _ => trivial
/-- a thing is taken away -/
theorem HallR.drop (R : HallR K F H ρ s) (T : Txt K mg) {p : Int} {kvs : List (Key × V)} (hp : kvs.Perm (pairs ρ s.mem)) :
    HallR K F (upd H (ρ .dc) (.dK (dropK kvs (Sum.inl p)))) ρ { s with mem := del s.mem p } := by
  have hk := R.keepHeld T (g := .dc) trivial (.dK (dropK kvs (Sum.inl p)))
  have ne : ∀ g', VT s.mem g' → g' ≠ .dc → upd H (ρ .dc) (.dK (dropK kvs (Sum.inl p))) (ρ g') = H (ρ g') := fun g' v' n => upd_ne (R.ne v' (g' := .dc) trivial n)
  have old : ∀ q u, get (G.del s.mem p) q = some u → get s.mem q = some u := fun q u h => by
    rw [get_del] at h
    split at h
    · cases h
    · exact h
  refine ⟨fun g g' v v' => R.inj g g' v.del v'.del, fun g v => R.own g v.del, upd_al R.al, ?_, ?_, ?_, ?_, ?_, fun q u gu => ?_, fun q u gu => ?_⟩
  · obtain ⟨d, e⟩ := R.hall
    exact ⟨d, (ne .hall trivial (by simp)).trans e⟩
  · obtain ⟨d, e⟩ := R.mem
    exact ⟨d, (ne .mem trivial (by simp)).trans e⟩
  · obtain ⟨d, e⟩ := R.sw
    exact ⟨d, (ne .sw trivial (by simp)).trans e⟩
  · obtain ⟨vs, e, k⟩ := R.hl
    exact ⟨vs, (ne .hl trivial (by simp)).trans e, k.same (fun _ z => z) hk⟩
  · refine ⟨_, upd_same, ?_⟩
    have h1 := hp.filter fun kv => decide (kv.1 ≠ (Sum.inl p : Key))
    have h2 : (pairs ρ s.mem).filter (fun kv => decide (kv.1 ≠ (Sum.inl p : Key))) = pairs ρ (G.del s.mem p) := by
      unfold pairs G.del
      rw [List.filter_map]
      congr 1
      refine List.filter_congr fun x _ => ?_
      simp
    rw [h2] at h1
    exact h1
  · obtain ⟨d, e⟩ := R.th q u (old q u gu)
    exact ⟨d, (ne (.th q) ⟨u, old q u gu⟩ (by simp)).trans e⟩
  · obtain ⟨vs, e, k⟩ := R.fl q u (old q u gu)
    exact ⟨vs, (ne (.fl q) ⟨u, old q u gu⟩ (by simp)).trans e, k.same (fun _ z => z) hk⟩

theorem modT_congr {z p : Int} {f g : Th → Th} : ∀ {m : Mem} {a : Int}, Lay z a m → (∀ t, get m p = some t → f t = g t) → modT m p f = modT m p g
  | [], _, _, _ => rfl
  | x :: r, a, hl, h => by
    have ih : (∀ t, get r p = some t → f t = g t) → modT r p f = modT r p g := modT_congr hl.2.2
    show (if x.1 = p then (x.1, f x.2) else x) :: modT r p f = (if x.1 = p then (x.1, g x.2) else x) :: modT r p g
    by_cases e : x.1 = p
    · rw [if_pos e, if_pos e, h x.2 (by simp [get, e]), ih]
      intro t ht
      have := (lay_get hl.2.2 ht).1
      have := wd_pos x.2
      omega
    · rw [if_neg e, if_neg e, ih fun t ht => h t (by unfold get; rw [if_neg e]; exact ht)]
theorem modT_id (m : Mem) (p : Int) : modT m p id = m := by
  unfold modT
  have h : ∀ x ∈ m, (if x.1 = p then (x.1, id x.2) else x) = id x := fun x _ => by split <;> rfl
  rw [List.map_congr_left h, List.map_id]
/-! ### the dict of the things -/
theorem pairs_keys (ρ : Tag → Addr) (m : Mem) : (pairs ρ m).map (·.1) = m.map fun x => (Sum.inl x.1 : Key) := by
  unfold pairs
  rw [List.map_map]
  rfl
theorem lay_nodup {z : Int} : ∀ {m : Mem} {a : Int}, Lay z a m → (m.map (·.1)).Nodup
  | [], _, _ => List.nodup_nil
  | x :: r, a, h => by
    refine List.nodup_cons.mpr ⟨fun hm => ?_, lay_nodup h.2.2⟩
    obtain ⟨y, hy, e⟩ := List.mem_map.mp hm
    have h1 := (lay_ge h.2.2 y hy).1
    have h2 := wd_pos x.2
    have h3 : y.1 = x.1 := e
    omega
theorem valV_mem {kvs : List (Key × V)} {k : Key} {v : V} (nd : (kvs.map (·.1)).Nodup) (h : (k, v) ∈ kvs) : valV kvs k = some v := by
  induction kvs with
  | nil => cases h
  | cons p r ih =>
    have nd' := List.nodup_cons.mp (show (p.1 :: r.map (·.1)).Nodup from nd)
    rcases List.mem_cons.mp h with e | h
    · subst e
      exact valV_pos rfl
    · rw [valV_neg]
      · exact ih nd'.2 h
      · intro e
        refine nd'.1 ?_
        rw [e]
        exact List.mem_map.mpr ⟨_, h, rfl⟩
theorem valV_no {kvs : List (Key × V)} {k : Key} (h : k ∉ kvs.map (·.1)) : valV kvs k = none := by
  induction kvs with
  | nil => rfl
  | cons p r ih =>
    rw [valV_neg]
    · exact ih fun z => h (List.mem_cons_of_mem _ z)
    · intro e
      exact h (by rw [← e]; exact List.mem_cons_self)
theorem pairs_nodup {z a : Int} {m : Mem} (hl : Lay z a m) {kvs : List (Key × V)} (hp : kvs.Perm (pairs ρ m)) : (kvs.map (·.1)).Nodup := by
  refine (hp.map (·.1)).nodup_iff.mpr ?_
  rw [pairs_keys]
  have h := lay_nodup hl
  have e : m.map (fun x => (Sum.inl x.1 : Key)) = (m.map (·.1)).map Sum.inl := by rw [List.map_map]; rfl
  rw [e]
  exact h.map _ fun _ _ z w => z (Sum.inl.inj w)
theorem dict_some {z a p : Int} {m : Mem} {t : Th} (hl : Lay z a m) {kvs : List (Key × V)} (hp : kvs.Perm (pairs ρ m)) (g : get m p = some t) : valV kvs (Sum.inl p) = some (.ref (ρ (.th p))) := by
  refine valV_mem (pairs_nodup hl hp) (hp.mem_iff.mpr ?_)
  exact List.mem_map.mpr ⟨_, get_mem g, rfl⟩
theorem dict_none {p : Int} {m : Mem} {kvs : List (Key × V)} (hp : kvs.Perm (pairs ρ m)) (g : get m p = none) : valV kvs (Sum.inl p) = none := by
  refine valV_no fun h => ?_
  have h1 := (hp.map (·.1)).mem_iff.mp h
  rw [pairs_keys] at h1
  obtain ⟨x, hx, e⟩ := List.mem_map.mp h1
  have e' := Sum.inl.inj e
  have : ∀ (m : Mem), x ∈ m → get m p ≠ none := by
    intro m
    induction m with
    | nil => exact fun h => by cases h
    | cons y r ih =>
      intro hy
      unfold get
      split
      · simp
      · rename_i n
        rcases List.mem_cons.mp hy with e2 | hy
        · subst e2
          exact absurd e' n
        · exact ih hy
  exact this m hx g
theorem dict_get {a' z p : Int} {m : Mem} {t : Th} {d : Addr} (hl : Lay z a' m) {kvs : List (Key × V)} (hd : H d = some (.dK kvs)) (hp : kvs.Perm (pairs ρ m)) (g : get m p = some t) : DGet H d (.int p) (some (.ref (ρ (.th p)))) := by
  have h := DGet.k (k := (Sum.inl p : Key)) hd
  rw [dict_some hl hp g] at h
  exact h
/-- two rising arrangements are one -/
theorem sorted_eq : ∀ {xs ys : List Int}, xs.Pairwise (· ≤ ·) → ys.Pairwise (· ≤ ·) → xs.Perm ys → xs = ys
  | [], ys, _, _, h => (List.nil_perm.mp h).symm
  | x :: xs, [], _, _, h => absurd (List.perm_nil.mp h) (by simp)
  | x :: xs, y :: ys, h1, h2, h => by
    obtain ⟨a1, a2⟩ := List.pairwise_cons.mp h1
    obtain ⟨b1, b2⟩ := List.pairwise_cons.mp h2
    have e : x = y := by
      have m1 : x ∈ y :: ys := h.mem_iff.mp List.mem_cons_self
      have m2 : y ∈ x :: xs := h.mem_iff.mpr List.mem_cons_self
      have l1 : y ≤ x := by
        rcases List.mem_cons.mp m1 with e | m
        · omega
        · exact b1 x m
      have l2 : x ≤ y := by
        rcases List.mem_cons.mp m2 with e | m
        · omega
        · exact a1 y m
      omega
    subst e
    rw [sorted_eq a2 b2 (List.Perm.cons_inv h)]
theorem lay_sorted {z : Int} : ∀ {m : Mem} {a : Int}, Lay z a m → (m.map (·.1)).Pairwise (· ≤ ·)
  | [], _, _ => List.Pairwise.nil
  | x :: r, a, h => by
    refine List.pairwise_cons.mpr ⟨fun y hy => ?_, lay_sorted h.2.2⟩
    obtain ⟨w, hw, e⟩ := List.mem_map.mp hy
    have h1 := (lay_ge h.2.2 w hw).1
    have h2 := wd_pos x.2
    have h3 : w.1 = y := e
    show x.1 ≤ y
    omega
end
end G

/-! A thing is made; all things are slid. -/
namespace G
open L2 PySem PyProof.Rows PySem.Spec
section
variable {K : PySem.W.Frag} {mg : Str → Option Value} {F F' : Addr → Prop} {H H' : Hp} {ρ : Tag → Addr} {s : St}
theorem HallR.objAt (R : HallR K F H ρ s) {g : Tag} (v : VT s.mem g) : ∃ o, H (ρ g) = some o := R.al _ (R.own g v)
/-- the tags behind a make -/
def rhoMake (ρ : Tag → Addr) (p : Int) (ta la : Addr) : Tag → Addr := fun g => if g = .th p then ta else if g = .fl p then la else ρ g
theorem putK_perm {kvs : List (Key × V)} {m : Mem} {p : Int} {ta la : Addr} (t : Th) (hp : kvs.Perm (pairs ρ m)) (hn : get m p = none) :
    (putK kvs (Sum.inl p) (.ref ta)).Perm (pairs (rhoMake ρ p ta la) (ins p t m)) := by
  rw [putK_new _ (dict_none hp hn)]
  have h1 : (kvs ++ [((Sum.inl p : Key), V.ref ta)]).Perm (((Sum.inl p : Key), V.ref ta) :: pairs ρ m) := (List.perm_append_comm).trans (List.Perm.cons _ hp)
  refine h1.trans ?_
  have h2 : ∀ m : Mem, get m p = none → pairs (rhoMake ρ p ta la) m = pairs ρ m := by
    intro m
    induction m with
    | nil => exact fun _ => rfl
    | cons x r ih =>
      intro h
      unfold get at h
      have e : ¬ x.1 = p := fun e => by rw [if_pos e] at h; cases h
      rw [if_neg e] at h
      show _ :: pairs _ r = _ :: pairs _ r
      rw [ih h]
      have e1 : rhoMake ρ p ta la (.th x.1) = ρ (.th x.1) := by
        unfold rhoMake
        rw [if_neg (by simp [e]), if_neg (by simp)]
      show ((Sum.inl x.1 : Key), V.ref (rhoMake ρ p ta la (.th x.1))) :: _ = ((Sum.inl x.1 : Key), V.ref (ρ (.th x.1))) :: _
      rw [e1]
  have h3 : ∀ m : Mem, (ins p t m).Perm ((p, t) :: m) := by
    intro m
    induction m with
    | nil => exact List.Perm.refl _
    | cons x r ih =>
      unfold ins
      split
      · exact List.Perm.refl _
      · exact (List.Perm.cons x ih).trans (List.Perm.swap _ _ _)
  have h4 : (pairs (rhoMake ρ p ta la) (ins p t m)).Perm (pairs (rhoMake ρ p ta la) ((p, t) :: m)) := (h3 m).map _
  have h5 : pairs (rhoMake ρ p ta la) ((p, t) :: m) = ((Sum.inl p : Key), V.ref ta) :: pairs ρ m := by
    show ((Sum.inl p : Key), V.ref (rhoMake ρ p ta la (.th p))) :: pairs _ m = _
    rw [h2 m hn]
    unfold rhoMake
    rw [if_pos rfl]
  rw [h5] at h4
  exact h4.symm
theorem HallR.make (R : HallR K F H ρ s) (T : Txt K mg) {p : Int} {i m : Nat} (hn : get s.mem p = none) {ta la ha dx dxh : Addr} {kvs : List (Key × V)} (hd : H (ρ .dc) = some (.dK kvs)) (hp : kvs.Perm (pairs ρ s.mem))
    {vs : List V} (hv : H (ρ .hl) = some (.lst vs)) (hvs : VlsAt K F H vs s.hands) (n1 : H ta = none) (n2 : H la = none) (n3 : H ha = none) (d12 : ta ≠ la)
    (e1 : H' ta = some (.ins (cThing K) dx (thF la (colourAt s p)))) (e2 : H' la = some (.lst (List.replicate m (.int 0)))) (e3 : H' ha = some (.ins (cHeld K) dxh (heldF p)))
    (e4 : H' (ρ .dc) = some (.dK (putK kvs (Sum.inl p) (.ref ta)))) (e5 : H' (ρ .hl) = some (.lst (vs.set i (.ref ha)))) (keep : ∀ b o, H b = some o → b ≠ ρ .dc → b ≠ ρ .hl → H' b = some o) :
    HallR K (fun a => F a ∨ a = ta ∨ a = la ∨ a = ha) H' (rhoMake ρ p ta la) (makeAt s p i m) ∧ Kp F H (fun a => F a ∨ a = ta ∨ a = la ∨ a = ha) H' := by
  have gg : ∀ q, get (makeAt s p i m).mem q = if q = p then some ⟨List.replicate m (.num 0), colourAt s p⟩ else get s.mem q := get_ins _ hn
  have vt : ∀ g, VT (makeAt s p i m).mem g → g = .th p ∨ g = .fl p ∨ (g ≠ .th p ∧ g ≠ .fl p ∧ VT s.mem g) := fun g v => by
    cases g with
    | th q =>
      obtain ⟨t, h⟩ := v
      rw [gg] at h
      by_cases e : q = p
      · exact .inl (by rw [e])
      · rw [if_neg e] at h
        exact .inr (.inr ⟨by simp [e], by simp, t, h⟩)
    | fl q =>
      obtain ⟨t, h⟩ := v
      rw [gg] at h
      by_cases e : q = p
      · exact .inr (.inl (by rw [e]))
      · rw [if_neg e] at h
        exact .inr (.inr ⟨by simp, by simp [e], t, h⟩)
    | _ => exact .inr (.inr ⟨by simp, by simp, trivial⟩)
  have r1 : rhoMake ρ p ta la (.th p) = ta := if_pos rfl
  have r2 : rhoMake ρ p ta la (.fl p) = la := by
    unfold rhoMake
    rw [if_neg (by simp), if_pos rfl]
  have r3 : ∀ g, g ≠ .th p → g ≠ .fl p → rhoMake ρ p ta la g = ρ g := fun g h1 h2 => by
    unfold rhoMake
    rw [if_neg h1, if_neg h2]
  have ne1 : ∀ g, VT s.mem g → ρ g ≠ ta := fun g v e => by
    obtain ⟨o, h⟩ := R.objAt v
    rw [e, n1] at h
    cases h
  have ne2 : ∀ g, VT s.mem g → ρ g ≠ la := fun g v e => by
    obtain ⟨o, h⟩ := R.objAt v
    rw [e, n2] at h
    cases h
  have old : ∀ g, VT s.mem g → g ≠ .dc → g ≠ .hl → ∀ o, H (ρ g) = some o → H' (ρ g) = some o := fun g v h1 h2 o h => keep _ o h (R.ne v (g' := .dc) trivial h1) (R.ne v (g' := .hl) trivial h2)
  have kheld : ∀ a dx fs, H a = some (.ins (cHeld K) dx fs) → H' a = some (.ins (cHeld K) dx fs) := fun a dx fs h =>
    keep a _ h (fun z => R.notHeld T (g := .dc) trivial (by rw [← z]; exact h)) (fun z => R.notHeld T (g := .hl) trivial (by rw [← z]; exact h))
  refine ⟨⟨fun g g' v v' e => ?_, fun g v => ?_, fun a ha' => ?_, ?_, ?_, ?_, ?_, ?_, fun q t g => ?_, fun q t g => ?_⟩, fun b o hb nb => ?_⟩
  · rcases vt g v with h | h | ⟨h1, h2, h3⟩ <;> rcases vt g' v' with h' | h' | ⟨h1', h2', h3'⟩
    · rw [h, h']
    · rw [h, h', r1, r2] at e
      exact absurd e d12
    · rw [h, r1, r3 g' h1' h2'] at e
      exact absurd e.symm (ne1 g' h3')
    · rw [h, h', r1, r2] at e
      exact absurd e.symm d12
    · rw [h, h']
    · rw [h, r2, r3 g' h1' h2'] at e
      exact absurd e.symm (ne2 g' h3')
    · rw [h', r1, r3 g h1 h2] at e
      exact absurd e (ne1 g h3)
    · rw [h', r2, r3 g h1 h2] at e
      exact absurd e (ne2 g h3)
    · rw [r3 g h1 h2, r3 g' h1' h2'] at e
      exact R.inj g g' h3 h3' e
  · rcases vt g v with h | h | ⟨h1, h2, h3⟩
    · rw [h, r1]
      exact .inr (.inl rfl)
    · rw [h, r2]
      exact .inr (.inr (.inl rfl))
    · rw [r3 g h1 h2]
      exact .inl (R.own g h3)
  · rcases ha' with h | h | h | h
    · by_cases h1 : a = ρ .dc
      · exact ⟨_, by rw [h1]; exact e4⟩
      · by_cases h2 : a = ρ .hl
        · exact ⟨_, by rw [h2]; exact e5⟩
        · obtain ⟨o, e⟩ := R.al a h
          exact ⟨o, keep a o e h1 h2⟩
    · exact ⟨_, by rw [h]; exact e1⟩
    · exact ⟨_, by rw [h]; exact e2⟩
    · exact ⟨_, by rw [h]; exact e3⟩
  · rw [r3 .hall (by simp) (by simp), r3 .mem (by simp) (by simp), r3 .hl (by simp) (by simp), r3 .sw (by simp) (by simp)]
    obtain ⟨d, h⟩ := R.hall
    exact ⟨d, old .hall trivial (by simp) (by simp) _ h⟩
  · rw [r3 .mem (by simp) (by simp), r3 .dc (by simp) (by simp)]
    obtain ⟨d, h⟩ := R.mem
    exact ⟨d, old .mem trivial (by simp) (by simp) _ h⟩
  · rw [r3 .mem (by simp) (by simp), r3 .sw (by simp) (by simp)]
    obtain ⟨d, h⟩ := R.sw
    exact ⟨d, old .sw trivial (by simp) (by simp) _ h⟩
  · rw [r3 .hl (by simp) (by simp)]
    refine ⟨_, e5, VlsAt.set ?_ i (x := .held p) ⟨ha, dxh, rfl, .inr (.inr (.inr rfl)), e3⟩⟩
    exact hvs.same (fun a h => .inl h) kheld
  · rw [r3 .dc (by simp) (by simp)]
    exact ⟨_, e4, putK_perm _ hp hn⟩
  · rw [gg] at g
    split at g
    · rename_i e
      subst e
      cases g
      rw [r1, r2]
      exact ⟨dx, e1⟩
    · rename_i e
      rw [r3 (.th q) (by simp [e]) (by simp), r3 (.fl q) (by simp) (by simp [e])]
      obtain ⟨d, h⟩ := R.th q t g
      exact ⟨d, old (.th q) ⟨t, g⟩ (by simp) (by simp) _ h⟩
  · rw [gg] at g
    split at g
    · rename_i e
      subst e
      cases g
      rw [r2]
      refine ⟨_, e2, by simp, fun j x hx => ?_⟩
      have hx2 : x = .num 0 := List.eq_of_mem_replicate (List.mem_of_getElem? hx)
      have hj : j < m := by
        have := (List.getElem?_eq_some_iff.mp hx).1
        simpa using this
      exact ⟨.int 0, by rw [List.getElem?_replicate, if_pos hj], by rw [hx2]; rfl⟩
    · rename_i e
      rw [r3 (.fl q) (by simp) (by simp [e])]
      obtain ⟨ws, h, k⟩ := R.fl q t g
      exact ⟨ws, old (.fl q) ⟨t, g⟩ (by simp) (by simp) _ h, k.same (fun a h => .inl h) kheld⟩
  · refine ⟨keep b o hb (fun z => nb (by rw [z]; exact R.own .dc trivial)) (fun z => nb (by rw [z]; exact R.own .hl trivial)), ?_⟩
    rintro (h | h | h | h)
    · exact nb h
    · rw [h, n1] at hb; cases hb
    · rw [h, n2] at hb; cases hb
    · rw [h, n3] at hb; cases hb

/-! ### slide -/
open Classical in
/-- the place from which a thing came -/
noncomputable def came (s : St) (q : Int) : Int := if h : ∃ p, (∃ t, get s.mem p = some t) ∧ look (rho s) p = q then Classical.choose h else 0
theorem came_look {p : Int} {t : Th} (hl : Lay s.size 0 s.mem) (g : get s.mem p = some t) : came s (look (rho s) p) = p := by
  have h : ∃ p', (∃ t, get s.mem p' = some t) ∧ look (rho s) p' = look (rho s) p := ⟨p, ⟨t, g⟩, rfl⟩
  unfold came
  rw [dif_pos h]
  obtain ⟨⟨t', g'⟩, e⟩ := Classical.choose_spec h
  exact look_inj hl g' g e
/-- the tags behind a slide -/
noncomputable def rhoSlide (ρ : Tag → Addr) (s : St) (D L : Addr) (nl : Int → Addr) : Tag → Addr := fun g => match g with
  | .hall => ρ .hall
  | .mem => ρ .mem
  | .sw => ρ .sw
  | .hl => L
  | .dc => D
  | .th q => ρ (.th (came s q))
  | .fl q => nl (came s q)
theorem pairs_slide (ρ : Tag → Addr) {D L : Addr} {nl : Int → Addr} (hl : Lay s.size 0 s.mem) : pairs (rhoSlide ρ s D L nl) (slideS s).mem = s.mem.map fun x => (Sum.inl (look (rho s) x.1), V.ref (ρ (.th x.1))) := by
  have key : ∀ (m : Mem) (a b : Int), Lay s.size a m → (∀ x ∈ m, get s.mem x.1 = some x.2) → (∀ x ∈ m, look (rho s) x.1 = look (newPl b m) x.1) →
      pairs (rhoSlide ρ s D L nl) (slideM (rho s) b m) = m.map fun x => (Sum.inl (look (rho s) x.1), V.ref (ρ (.th x.1))) := by
    intro m
    induction m with
    | nil => exact fun _ _ _ _ _ => rfl
    | cons x r ih =>
      intro a b h hg hk
      have e0 : look (rho s) x.1 = b := by
        rw [hk x List.mem_cons_self]
        show look ((x.1, b) :: newPl (b + wd x.2) r) x.1 = b
        unfold look
        rw [if_pos rfl]
      show ((Sum.inl b : Key), V.ref (rhoSlide ρ s D L nl (.th b))) :: pairs _ (slideM (rho s) (b + wd x.2) r) = ((Sum.inl (look (rho s) x.1) : Key), V.ref (ρ (.th x.1))) :: _
      rw [ih _ (b + wd x.2) h.2.2 (fun y hy => hg y (List.mem_cons_of_mem _ hy)) fun y hy => ?_]
      · have e1 : rhoSlide ρ s D L nl (.th b) = ρ (.th x.1) := by
          show ρ (.th (came s b)) = _
          rw [← e0, came_look hl (hg x List.mem_cons_self)]
        rw [e1, e0]
      · rw [hk y (List.mem_cons_of_mem _ hy)]
        show look ((x.1, b) :: newPl (b + wd x.2) r) y.1 = _
        have := (lay_ge h.2.2 y hy).1
        have := wd_pos x.2
        conv => lhs; unfold look
        rw [if_neg (by show ¬ x.1 = y.1; omega)]
  exact key s.mem 0 0 hl (fun x hx => mem_get hl hx) fun x hx => rfl
theorem HallR.slide (R : HallR K F H ρ s) (T : Txt K mg) (hl : Lay s.size 0 s.mem) {D L dh dm : Addr} {nl : Int → Addr} {ws : List V} {kvs : List (Key × V)}
    (ho : ∀ a, F a → F' a) (al : ∀ a, F' a → ∃ o, H' a = some o) (nD : H D = none) (nL : H L = none) (nN : ∀ p t, get s.mem p = some t → H (nl p) = none ∧ F' (nl p) ∧ nl p ≠ L) (fD : F' D) (fL : F' L)
    (ni : ∀ p q t u, get s.mem p = some t → get s.mem q = some u → nl p = nl q → p = q)
    (hh : H' (ρ .hall) = some (.ins (cHall K) dh (hallF (ρ .mem) L (ρ .sw)))) (hm : H' (ρ .mem) = some (.ins (cMem K) dm (memF s.size D))) (hs : H' (ρ .sw) = H (ρ .sw))
    (hL : H' L = some (.lst ws)) (hws : VlsAt K F' H' ws (s.hands.map (mv (rho s)))) (hD : H' D = some (.dK kvs)) (hp : kvs.Perm (s.mem.map fun x => (Sum.inl (look (rho s) x.1), V.ref (ρ (.th x.1)))))
    (ht : ∀ p t, get s.mem p = some t → (∃ dx, H' (ρ (.th p)) = some (.ins (cThing K) dx (thF (nl p) t.col))) ∧ ∃ vs, H' (nl p) = some (.lst vs) ∧ VlsAt K F' H' vs (t.fs.map (mv (rho s)))) :
    HallR K F' H' (rhoSlide ρ s D L nl) (slideS s) := by
  have old : ∀ q, (∃ t, get (slideS s).mem q = some t) → ∃ p u, get s.mem p = some u ∧ q = look (rho s) p ∧ came s q = p ∧ get (slideS s).mem q = some (movT (rho s) u) := fun q ⟨t, h⟩ => by
    obtain ⟨p, u, h1, h2, h3⟩ := slide_get hl (show get (slideM (rho s) 0 s.mem) q = some t from h)
    refine ⟨p, u, h1, h2, by rw [h2]; exact came_look hl h1, ?_⟩
    rw [h2]
    exact get_slide (rho s) hl h1
  have nDL : D ≠ L := ne_of hD hL (by intro z; cases z)
  have nNL : ∀ p t, get s.mem p = some t → nl p ≠ D := fun p t g => by
    obtain ⟨_, vs, h, _⟩ := ht p t g
    exact ne_of h hD (by intro z; cases z)
  have oD : ∀ g, VT s.mem g → ρ g ≠ D := fun g v e => by
    obtain ⟨o, h⟩ := R.objAt v
    rw [e, nD] at h
    cases h
  have oL : ∀ g, VT s.mem g → ρ g ≠ L := fun g v e => by
    obtain ⟨o, h⟩ := R.objAt v
    rw [e, nL] at h
    cases h
  have oN : ∀ g p t, VT s.mem g → get s.mem p = some t → ρ g ≠ nl p := fun g p t v gp e => by
    obtain ⟨o, h⟩ := R.objAt v
    rw [e, (nN p t gp).1] at h
    cases h
  /- each tag of the new hall: an old one, D, L or one of nl -/
  have cl : ∀ g, VT (slideS s).mem g → (∃ g0, VT s.mem g0 ∧ rhoSlide ρ s D L nl g = ρ g0 ∧ g0 ≠ .dc ∧ g0 ≠ .hl ∧ (∀ p, g0 ≠ .fl p) ∧ ((g = .hall ∧ g0 = .hall) ∨ (g = .mem ∧ g0 = .mem) ∨ (g = .sw ∧ g0 = .sw) ∨ ∃ p, g = .th (look (rho s) p) ∧ g0 = .th p)) ∨ (g = .dc) ∨ (g = .hl) ∨ ∃ p t, get s.mem p = some t ∧ g = .fl (look (rho s) p) ∧ rhoSlide ρ s D L nl g = nl p := fun g v => by
    cases g with
    | hall => exact .inl ⟨.hall, trivial, rfl, by simp, by simp, by simp, .inl ⟨rfl, rfl⟩⟩
    | mem => exact .inl ⟨.mem, trivial, rfl, by simp, by simp, by simp, .inr (.inl ⟨rfl, rfl⟩)⟩
    | sw => exact .inl ⟨.sw, trivial, rfl, by simp, by simp, by simp, .inr (.inr (.inl ⟨rfl, rfl⟩))⟩
    | hl => exact .inr (.inr (.inl rfl))
    | dc => exact .inr (.inl rfl)
    | th q =>
      obtain ⟨p, u, h1, h2, h3, _⟩ := old q v
      refine .inl ⟨.th p, ⟨u, h1⟩, ?_, by simp, by simp, by simp, .inr (.inr (.inr ⟨p, by rw [h2], rfl⟩))⟩
      show ρ (.th (came s q)) = _
      rw [h3]
    | fl q =>
      obtain ⟨p, u, h1, h2, h3, _⟩ := old q v
      refine .inr (.inr (.inr ⟨p, u, h1, by rw [h2], ?_⟩))
      show nl (came s q) = _
      rw [h3]
  refine ⟨fun g g' v v' e => ?_, fun g v => ?_, al, ⟨dh, hh⟩, ⟨dm, hm⟩, ?_, ⟨ws, hL, hws⟩, ⟨kvs, hD, ?_⟩, fun q t g => ?_, fun q t g => ?_⟩
  · rcases cl g v with ⟨g0, w, e0, _, _, _, c⟩ | h | h | ⟨p, t, gp, h, hr⟩ <;> rcases cl g' v' with ⟨g0', w', e0', _, _, _, c'⟩ | h' | h' | ⟨p', t', gp', h', hr'⟩
    · rw [e0, e0'] at e
      have eg := R.inj _ _ w w' e
      subst eg
      rcases c with ⟨c1, c2⟩ | ⟨c1, c2⟩ | ⟨c1, c2⟩ | ⟨p, c1, c2⟩ <;> rcases c' with ⟨c1', c2'⟩ | ⟨c1', c2'⟩ | ⟨c1', c2'⟩ | ⟨p', c1', c2'⟩ <;> simp_all
    · subst h'
      exact absurd (e0.symm.trans e) (oD g0 w)
    · subst h'
      exact absurd (e0.symm.trans e) (oL g0 w)
    · exact absurd (e0.symm.trans (e.trans hr')) (oN g0 p' t' w gp')
    · subst h
      exact absurd (e0'.symm.trans e.symm) (oD g0' w')
    · rw [h, h']
    · subst h h'
      exact absurd e nDL
    · subst h
      exact absurd (hr'.symm.trans e.symm) (nNL p' t' gp')
    · subst h
      exact absurd (e0'.symm.trans e.symm) (oL g0' w')
    · subst h h'
      exact absurd e.symm nDL
    · rw [h, h']
    · subst h
      exact absurd (hr'.symm.trans e.symm) (nN p' t' gp').2.2
    · exact absurd (e0'.symm.trans (e.symm.trans hr)) (oN g0' p t w' gp)
    · subst h'
      exact absurd (hr.symm.trans e) (nNL p t gp)
    · subst h'
      exact absurd (hr.symm.trans e) (nN p t gp).2.2
    · rw [hr, hr'] at e
      rw [h, h', ni p p' t t' gp gp' e]
  · rcases cl g v with ⟨g0, w, e0, _⟩ | h | h | ⟨p, t, gp, h, hr⟩
    · rw [e0]
      exact ho _ (R.own g0 w)
    · subst h
      exact fD
    · subst h
      exact fL
    · rw [hr]
      exact (nN p t gp).2.1
  · obtain ⟨d, h⟩ := R.sw
    exact ⟨d, hs.trans h⟩
  · rw [pairs_slide ρ hl]
    exact hp
  · obtain ⟨p, u, h1, h2, h3, h4⟩ := old q ⟨t, g⟩
    rw [h4] at g
    cases g
    obtain ⟨⟨dx, e⟩, _⟩ := ht p u h1
    refine ⟨dx, ?_⟩
    show H' (ρ (.th (came s q))) = some (.ins (cThing K) dx (thF (nl (came s q)) u.col))
    rw [h3]
    exact e
  · obtain ⟨p, u, h1, h2, h3, h4⟩ := old q ⟨t, g⟩
    rw [h4] at g
    cases g
    obtain ⟨_, vs, e, k⟩ := ht p u h1
    refine ⟨vs, ?_, k⟩
    show H' (nl (came s q)) = _
    rw [h3]
    exact e
end
end G

/-! Rules of our own: sorted(d) of a dict of any size with int keys. -/
namespace G
open L2 PySem PyProof.Rows PySem.Spec
/-- sorted(d), all keys ints, any number of them -/
def rSortedDA : List V → Hp → VK → Prop := fun xs H Q => ∃ (a : Addr) (kvs : List (Key × V)) (ks : List Int),
  xs = [.ref a] ∧ Rd H a (.dK kvs) ∧ kvs.map (·.1) = ks.map Sum.inl ∧
  ∀ (ys : List Int) (p : Addr), ys.Perm ks → ys.Pairwise (· ≤ ·) → H p = none → Q (.ref p) (upd H p (.lst (ys.map V.int)))
section
variable {X : Cx}
theorem keys_ints {vs : List (Key × Value)} {ks : List Int} {acc : Array Value} (hk : vs.map (·.1) = ks.map Sum.inl) (hl : acc.toList.length = ks.length)
    (ha : ∀ (j : Nat) (v : Value), acc[j]? = some v → ∃ k x, vs[j]? = some (k, x) ∧ keyIs k v = true) : IntsAre acc.toList ks := by
  refine ints_each hl fun j v e => ?_
  obtain ⟨k, x, e1, e2⟩ := ha j v (by rw [← Array.getElem?_toList]; exact e)
  have e3 : (ks.map (Sum.inl : Int → Key))[j]? = some k := by
    rw [← hk, List.getElem?_map, e1]
    rfl
  rw [List.getElem?_map] at e3
  obtain ⟨y, ey, e5⟩ := Option.map_eq_some_iff.mp e3
  subst e5
  rcases keyIs_shape e2 with ⟨i, t, ek, ev⟩ | ⟨z, t, ek, ev⟩
  · cases ek
    exact ⟨y, t, ey, ev⟩
  · cases ek
theorem call_sortedDA (hcalm : X.calm = true) : CallR X (.builtin "sorted") rSortedDA := by
  intro pins s σ H xs us Q I r ⟨a, kvs, ks, ex, hd, hks, q⟩
  subst ex
  obtain ⟨u, rfl, rx⟩ := vals1 r
  cases rx
  obtain ⟨z, lo, vs, rel, dd⟩ := dk_rd I.hok hd
  obtain ⟨ep, hat⟩ := dd.dictAt
  have hkeys : vs.map (·.1) = ks.map Sum.inl := rel.keys.symm.trans hks
  have hl : vs.length = ks.length := by
    have e := congrArg List.length hkeys
    simpa using e
  have hl2 : kvs.length = ks.length := by
    have e := congrArg List.length hks
    simpa using e
  have h16 : vs.length ≤ sizeLine := by omega
  refine Calls.call_function_entry PyProof.Rows.kind_sorted PyProof.Rows.plain_sorted PyProof.Rows.entry_sorted (PyProof.Rows.args_sorted1 _) ?_
  unfold Builtin.«sorted»
  refine wpAny_bind (m := checkCount "sorted" 1 1 _) (wpAny_pure ?_)
  refine wpAny_bind (PySem.W.kdu_collect (A := X.A.in1) (PySem.W.kdl_dict (knd := mixKind X.prog X.w) (kvs := vs) (ep := ep) lo) (I.ok.hd hcalm) hat h16 ?_)
  intro h' tk acc hk hacc
  have hal : acc.toList.length = ks.length := by rw [Array.length_toList, hacc.1, hl]
  have hi : IntsAre acc.toList ks := keys_ints hkeys hal fun j v e => hacc.2 j v e
  have I1 : L2.Inv X pins σ H { s with heap := h', toks := tk } := I.kept hk
  have hsz : acc.toList.length ≤ sizeLine := by omega
  refine wpAny_bind (wpAny_newList ?_ (by rw [Array.length_toList] at hsz; simpa using hsz))
  have hob : (h'.push (seqObj "list" acc.toList.toArray 0)).get? h'.objs.size = some (seqObj "list" acc.toList.toArray 0) := Heap.get?_push_size _ rfl
  show wpAny _ _ _ _ _ { s with heap := h'.push (seqObj "list" acc.toList.toArray 0), toks := tk }
  refine wpAny_bind (wpAny_holding ?_)
  refine wpAny_call_entry PyProof.Rows.slot_list_sort ⟨_, hob, rfl⟩ PyProof.Rows.entry_list_sort ?_ (PyProof.Rows.args_list_sort _)
  refine SrtO.list_sort_ord (s := { s with heap := h'.push (seqObj "list" acc.toList.toArray 0), toks := tk }) SrtO.swo_int hob hsz (fun h2 => SrtO.ints_sortable hi h2) ?_
  intro out h1 h2
  refine ⟨_, rfl, ?_⟩
  obtain ⟨k1, k2, k3⟩ := SrtO.ints_out hi h1 h2
  obtain ⟨e', he'⟩ := PyProof.Rows.sortedHeap_at (vs := acc.toList) (out := out.toArray) hob
  have hlen : ((out.map SrtO.iv).map V.int).length ≤ sizeLine := by
    rw [List.length_map, k2.length_eq, ← hal]
    exact hsz
  refine wpAny_pure ⟨_, rfl, .ref h'.objs.size, upd H h'.objs.size (.lst ((out.map SrtO.iv).map V.int)), I1.laid (t' := tk) (fun b u e => ?_) (Nat.le_refl _) ?_, rfl, q _ _ k2 k3 (I1.hok.fresh (Nat.le_refl _))⟩
  · have hb : b < h'.objs.size := Heap.lt_size e
    rw [PyProof.Rows.sortedHeap_old (Nat.ne_of_lt hb) (by rw [size_push']; exact Nat.lt_succ_of_lt hb)]
    exact Heap.get?_push_of_some _ e
  · show ObjOk X.prog X.w _ _ _ (.lst ((out.map SrtO.iv).map V.int))
    exact ⟨hlen, out, e', vals_of_ints k1, he'⟩
end
/-! ### x in t, x not in t: t a tuple of data of any depth -/
def rInT (K : PySem.W.Frag) (neg : Bool) : R2 := fun x y H Q => ∃ d ds, Dp K H x d ∧ Dp K H y (.tuple ds) ∧ SeqAt.shaped d = true ∧ SeqAt.shaped (.tuple ds) = true ∧ Q (.bl (if neg then !(ds.any fun z => PyData.eqv z d) else ds.any fun z => PyData.eqv z d)) H
section
variable {X : Cx}
theorem op_inTD (hu : X.A.units + 65 < cLine) : OpR X (compareOp .In) (rInT X.K false) := by
  intro pins s σ H x y v u Q I rx ry h
  obtain ⟨d, ds, hd, he, sd, se, q⟩ := h
  obtain ⟨as, r1⟩ := Dp.reads I d x v hd rx
  obtain ⟨bs, r2⟩ := Dp.reads I (.tuple ds) y u he ry
  exact SeqAt.in_tuple_reads r2 r1 (SeqAt.canLay_of_shaped se) (SeqAt.canLay_of_shaped sd) (room_in_shaped sd hu) ⟨.bl _, H, I, rfl, q⟩
theorem op_notInTD (hu : X.A.units + 65 < cLine) : OpR X (compareOp .NotIn) (rInT X.K true) := by
  intro pins s σ H x y v u Q I rx ry h
  obtain ⟨d, ds, hd, he, sd, se, q⟩ := h
  obtain ⟨as, r1⟩ := Dp.reads I d x v hd rx
  obtain ⟨bs, r2⟩ := Dp.reads I (.tuple ds) y u he ry
  exact SeqAt.notIn_tuple_reads r2 r1 (SeqAt.canLay_of_shaped se) (SeqAt.canLay_of_shaped sd) (room_in_shaped sd hu) ⟨.bl _, H, I, rfl, q⟩
end
end G

/-! Short answers to the readings' questions. -/
namespace G
open L2 PySem PyProof.Rows PySem.Spec

/-! ### data -/
section
variable {K : PySem.W.Frag} {H H' : Hp}
theorem same_sqT (e : Same H H') {a : Addr} {xs : List V} (h : SqT K H a xs) : SqT K H' a xs := by
  rcases h with (h | ⟨o, h⟩) | h
  · exact .inl (.inl (e _ _ h))
  · exact .inl (.inr ⟨o, e _ _ h⟩)
  · exact .inr h
mutual
theorem dp_same (e : Same H H') : ∀ (d : PyData) {v : V}, Dp K H v d → Dp K H' v d
  | _, _, .non => .non
  | _, _, .bl b => .bl b
  | _, _, .int i => .int i
  | _, _, .str x => .str x
  | .list ds, _, .lst h k => .lst (e.seq h) (dpAll_same e ds k)
  | .tuple ds, _, .tup h k => .tup (same_sqT e h) (dpAll_same e ds k)
theorem dpAll_same (e : Same H H') : ∀ (ds : List PyData) {vs : List V}, DpAll K H vs ds → DpAll K H' vs ds
  | _, _, .nil => .nil
  | d :: ds, _, .cons h k => .cons (dp_same e d h) (dpAll_same e ds k)
end
theorem dp_tup {v : V} {ds : List PyData} (h : Dp K H v (.tuple ds)) : ∃ a xs, v = .ref a ∧ SqT K H a xs ∧ DpAll K H xs ds := by
  cases h with
  | tup h k => exact ⟨_, _, rfl, h, k⟩
theorem dp_lst {v : V} {ds : List PyData} (h : Dp K H v (.list ds)) : ∃ a xs, v = .ref a ∧ SqL K H a xs ∧ DpAll K H xs ds := by
  cases h with
  | lst h k => exact ⟨_, _, rfl, h, k⟩
theorem dp_int {v : V} {i : Int} (h : Dp K H v (.int i)) : v = .int i := by
  cases h
  rfl
theorem dp_str {v : V} {x : Str} (h : Dp K H v (.str x)) : v = .str x := by
  cases h
  rfl
theorem dp_bl {v : V} {x : Bool} (h : Dp K H v (.bool x)) : v = .bl x := by
  cases h
  rfl
theorem dp_non {v : V} (h : Dp K H v .none) : v = .non := by
  cases h
  rfl
theorem dpAll_len : ∀ {vs : List V} {ds : List PyData}, DpAll K H vs ds → vs.length = ds.length
  | _, _, .nil => rfl
  | _, _, .cons _ k => congrArg (· + 1) (dpAll_len k)
theorem dpAll_get : ∀ {vs : List V} {ds : List PyData} {i : Nat} {d : PyData}, DpAll K H vs ds → ds[i]? = some d → ∃ v, vs[i]? = some v ∧ Dp K H v d
  | _, _, i, d, .nil, h => by simp at h
  | _, _, 0, d, .cons (v := v) (d := d') q k, h => by
    have e : d' = d := by simpa using h
    subst e
    exact ⟨v, rfl, q⟩
  | _, _, i + 1, d, .cons q k, h => by
    obtain ⟨v, h1, h2⟩ := dpAll_get (i := i) k (by simpa using h)
    exact ⟨v, by simpa using h1, h2⟩
theorem dpAll_val : ∀ {vs : List V} {ds : List PyData} {i : Nat} {v : V}, DpAll K H vs ds → vs[i]? = some v → ∃ d, ds[i]? = some d ∧ Dp K H v d
  | _, _, i, v, .nil, h => by simp at h
  | _, _, 0, v, .cons (v := v') (d := d') q k, h => by
    have e : v' = v := by simpa using h
    subst e
    exact ⟨d', rfl, q⟩
  | _, _, i + 1, v, .cons q k, h => by
    obtain ⟨d, h1, h2⟩ := dpAll_val (i := i) k (by simpa using h)
    exact ⟨d, by simpa using h1, h2⟩
theorem dpAll_snoc : ∀ {vs : List V} {ds : List PyData} {v : V} {d : PyData}, DpAll K H vs ds → Dp K H v d → DpAll K H (vs ++ [v]) (ds ++ [d])
  | _, _, v, d, .nil, h => .cons h .nil
  | _, _, v, d, .cons q k, h => .cons q (dpAll_snoc k h)
theorem dpAll_ints : ∀ ns : List Int, DpAll K H (ns.map V.int) (ns.map PyData.int)
  | [] => .nil
  | n :: r => .cons (.int n) (dpAll_ints r)
theorem dp_newT {p : Addr} {xs : List V} {ds : List PyData} (h : H p = some (.tup xs)) (k : DpAll K H xs ds) : Dp K H (.ref p) (.tuple ds) := .tup (.inl (.inl h)) k
theorem dp_newL {p : Addr} {xs : List V} {ds : List PyData} (h : H p = some (.lst xs)) (k : DpAll K H xs ds) : Dp K H (.ref p) (.list ds) := .lst (.inl (.inl h)) k
end

/-- tuples stay -/
def KT (H H' : Hp) : Prop := ∀ a xs, H a = some (.tup xs) → H' a = some (.tup xs)
mutual
/-- data made of tracked tuples -/
inductive Tp (H : Hp) : V → PyData → Prop
  | non : Tp H .non .none
  | bl (b : Bool) : Tp H (.bl b) (.bool b)
  | int (i : Int) : Tp H (.int i) (.int i)
  | str (x : Str) : Tp H (.str x) (.str x)
  | tup {a : Addr} {xs : List V} {ds : List PyData} : H a = some (.tup xs) → TpAll H xs ds → Tp H (.ref a) (.tuple ds)
inductive TpAll (H : Hp) : List V → List PyData → Prop
  | nil : TpAll H [] []
  | cons {v : V} {vs : List V} {d : PyData} {ds : List PyData} : Tp H v d → TpAll H vs ds → TpAll H (v :: vs) (d :: ds)
end
section
variable {K : PySem.W.Frag} {H H' : Hp}
mutual
theorem Tp.kt (e : KT H H') : ∀ (d : PyData) {v : V}, Tp H v d → Tp H' v d
  | _, _, .non => .non
  | _, _, .bl b => .bl b
  | _, _, .int i => .int i
  | _, _, .str x => .str x
  | .tuple ds, _, .tup h k => .tup (e _ _ h) (TpAll.kt e ds k)
theorem TpAll.kt (e : KT H H') : ∀ (ds : List PyData) {vs : List V}, TpAll H vs ds → TpAll H' vs ds
  | _, _, .nil => .nil
  | d :: ds, _, .cons h k => .cons (Tp.kt e d h) (TpAll.kt e ds k)
end
mutual
theorem Tp.dp : ∀ (d : PyData) {v : V}, Tp H v d → Dp K H v d
  | _, _, .non => .non
  | _, _, .bl b => .bl b
  | _, _, .int i => .int i
  | _, _, .str x => .str x
  | .tuple ds, _, .tup h k => .tup (.inl (.inl h)) (TpAll.dp ds k)
theorem TpAll.dp : ∀ (ds : List PyData) {vs : List V}, TpAll H vs ds → DpAll K H vs ds
  | _, _, .nil => .nil
  | d :: ds, _, .cons h k => .cons (Tp.dp d h) (TpAll.dp ds k)
end
theorem TpAll.snoc : ∀ {vs : List V} {ds : List PyData} {v : V} {d : PyData}, TpAll H vs ds → Tp H v d → TpAll H (vs ++ [v]) (ds ++ [d])
  | _, _, v, d, .nil, h => .cons h .nil
  | _, _, v, d, .cons q k, h => .cons q (TpAll.snoc k h)
theorem TpAll.len : ∀ {vs : List V} {ds : List PyData}, TpAll H vs ds → vs.length = ds.length
  | _, _, .nil => rfl
  | _, _, .cons _ k => congrArg (· + 1) (TpAll.len k)
theorem KT.of_same (e : Same H H') : KT H H' := fun a xs h => e a _ h
theorem KT.upd {a : Addr} {o : HO} (h : ∀ xs, H a ≠ some (.tup xs)) : KT H (L2.upd H a o) := fun b xs hb => by
  rw [upd_ne (fun z => h xs (by rw [← z]; exact hb))]
  exact hb
end
open Classical in
/-- the heap without the hall -/
noncomputable def outF (F : Addr → Prop) (H : Hp) : Hp := fun a => if F a then none else H a
section
variable {F F' : Addr → Prop} {H H' : Hp}
theorem outF_eq {a : Addr} (h : ¬ F a) : outF F H a = H a := if_neg h
theorem outF_some {a : Addr} {o : HO} (h : outF F H a = some o) : ¬ F a ∧ H a = some o := by
  unfold outF at h
  split at h
  · cases h
  · exact ⟨by assumption, h⟩
theorem outF_le : Same (outF F H) H := fun a o h => (outF_some h).2
theorem outF_same (e : Same H H') : Same (outF F H) (outF F H') := fun a o h => by
  obtain ⟨h1, h2⟩ := outF_some h
  rw [outF_eq h1]
  exact e a o h2
theorem outF_kp (k : Kp F H F' H') : Same (outF F H) (outF F' H') := fun a o h => by
  obtain ⟨h1, h2⟩ := outF_some h
  obtain ⟨h3, h4⟩ := k a o h2 h1
  rw [outF_eq h4]
  exact h3
theorem outF_kt (e : KT H H') : KT (outF F H) (outF F H') := fun a xs h => by
  obtain ⟨h1, h2⟩ := outF_some h
  rw [outF_eq h1]
  exact e a xs h2
theorem not_F {a : Addr} (al : ∀ a, F a → ∃ o, H a = some o) (h : H a = none) : ¬ F a := fun z => by
  obtain ⟨o, e⟩ := al a z
  rw [h] at e
  cases e
theorem HallR.outside {K : PySem.W.Frag} {ρ : Tag → Addr} {s : St} (R : HallR K F H ρ s) (e : ∀ a, F a → H' a = H a) : HallR K F H' ρ s := by
  have kv : ∀ {vs : List V} {xs : List Vl}, VlsAt K F H vs xs → VlsAt K F H' vs xs := fun {vs xs} h => ⟨h.1, fun i x hx => by
    obtain ⟨v, h1, h2⟩ := h.2 i x hx
    refine ⟨v, h1, ?_⟩
    cases x with
    | num n => exact h2
    | held p =>
      obtain ⟨a, dx, g1, g2, g3⟩ := h2
      exact ⟨a, dx, g1, g2, by rw [e a g2]; exact g3⟩⟩
  refine ⟨R.inj, R.own, fun a h => by rw [e a h]; exact R.al a h, ?_, ?_, ?_, ?_, ?_, fun p t g => ?_, fun p t g => ?_⟩
  · rw [e _ (R.own .hall trivial)]; exact R.hall
  · rw [e _ (R.own .mem trivial)]; exact R.mem
  · rw [e _ (R.own .sw trivial)]; exact R.sw
  · rw [e _ (R.own .hl trivial)]
    obtain ⟨vs, h, v⟩ := R.hl
    exact ⟨vs, h, kv v⟩
  · rw [e _ (R.own .dc trivial)]; exact R.dc
  · rw [e _ (R.own (.th p) ⟨t, g⟩)]; exact R.th p t g
  · rw [e _ (R.own (.fl p) ⟨t, g⟩)]
    obtain ⟨vs, h, v⟩ := R.fl p t g
    exact ⟨vs, h, kv v⟩
end

/-! ### fields and methods of the program's own objects: lookups -/
/-- reading a field: the object, its class's facts, the field -/
theorem rd_fld {K : PySem.W.Frag} {H : Hp} {a C dx : Addr} {fs : List (Str × V)} {f : Str} {v : V} {Q : V → Prop} (h : H a = some (.ins C dx fs)) (c : Cls K C) (n : NoAttr K C f) (l : fs.lookup f = some v) (q : Q v) :
    ∃ a' C' dx' fs' v', (V.ref a) = .ref a' ∧ H a' = some (.ins C' dx' fs') ∧ Cls K C' ∧ NoAttr K C' f ∧ fs'.lookup f = some v' ∧ Q v' := ⟨a, C, dx, fs, v, rfl, h, c, n, l, q⟩
section
variable {K : PySem.W.Frag} {mg : Str → Option Value} {F : Addr → Prop} {H : Hp} {ρ : Tag → Addr} {s : St} {Q : V → Prop}
theorem f_hall_memory (T : Txt K mg) (R : HallR K F H ρ s) (q : Q (.ref (ρ .mem))) :
    ∃ a' C' dx' fs' v', (V.ref (ρ .hall)) = .ref a' ∧ H a' = some (.ins C' dx' fs') ∧ Cls K C' ∧ NoAttr K C' "memory" ∧ fs'.lookup ("memory" : Str) = some v' ∧ Q v' := by
  obtain ⟨dx, h⟩ := R.hall
  exact rd_fld h T.cHall T.nMemH hallF_memory q
theorem f_hall_hands (T : Txt K mg) (R : HallR K F H ρ s) (q : Q (.ref (ρ .hl))) :
    ∃ a' C' dx' fs' v', (V.ref (ρ .hall)) = .ref a' ∧ H a' = some (.ins C' dx' fs') ∧ Cls K C' ∧ NoAttr K C' "hands" ∧ fs'.lookup ("hands" : Str) = some v' ∧ Q v' := by
  obtain ⟨dx, h⟩ := R.hall
  exact rd_fld h T.cHall T.nHands hallF_hands q
theorem f_hall_sweeper (T : Txt K mg) (R : HallR K F H ρ s) (q : Q (.ref (ρ .sw))) :
    ∃ a' C' dx' fs' v', (V.ref (ρ .hall)) = .ref a' ∧ H a' = some (.ins C' dx' fs') ∧ Cls K C' ∧ NoAttr K C' "sweeper" ∧ fs'.lookup ("sweeper" : Str) = some v' ∧ Q v' := by
  obtain ⟨dx, h⟩ := R.hall
  exact rd_fld h T.cHall T.nSweeper hallF_sweeper q
theorem f_mem_size (T : Txt K mg) (R : HallR K F H ρ s) (q : Q (.int s.size)) :
    ∃ a' C' dx' fs' v', (V.ref (ρ .mem)) = .ref a' ∧ H a' = some (.ins C' dx' fs') ∧ Cls K C' ∧ NoAttr K C' "size" ∧ fs'.lookup ("size" : Str) = some v' ∧ Q v' := by
  obtain ⟨dx, h⟩ := R.mem
  exact rd_fld h T.cMem T.nSize memF_size q
theorem f_mem_things (T : Txt K mg) (R : HallR K F H ρ s) (q : Q (.ref (ρ .dc))) :
    ∃ a' C' dx' fs' v', (V.ref (ρ .mem)) = .ref a' ∧ H a' = some (.ins C' dx' fs') ∧ Cls K C' ∧ NoAttr K C' "things" ∧ fs'.lookup ("things" : Str) = some v' ∧ Q v' := by
  obtain ⟨dx, h⟩ := R.mem
  exact rd_fld h T.cMem T.nThings memF_things q
theorem f_sw_memory (T : Txt K mg) (R : HallR K F H ρ s) (q : Q (.ref (ρ .mem))) :
    ∃ a' C' dx' fs' v', (V.ref (ρ .sw)) = .ref a' ∧ H a' = some (.ins C' dx' fs') ∧ Cls K C' ∧ NoAttr K C' "memory" ∧ fs'.lookup ("memory" : Str) = some v' ∧ Q v' := by
  obtain ⟨dx, h⟩ := R.sw
  exact rd_fld h T.cSw T.nMemS swF_memory q
theorem f_sw_standing (T : Txt K mg) (R : HallR K F H ρ s) (q : Q (.str (phS s.ph))) :
    ∃ a' C' dx' fs' v', (V.ref (ρ .sw)) = .ref a' ∧ H a' = some (.ins C' dx' fs') ∧ Cls K C' ∧ NoAttr K C' "standing" ∧ fs'.lookup ("standing" : Str) = some v' ∧ Q v' := by
  obtain ⟨dx, h⟩ := R.sw
  exact rd_fld h T.cSw T.nStanding swF_standing q
theorem f_sw_at (T : Txt K mg) (R : HallR K F H ρ s) (q : Q (.int s.fin)) :
    ∃ a' C' dx' fs' v', (V.ref (ρ .sw)) = .ref a' ∧ H a' = some (.ins C' dx' fs') ∧ Cls K C' ∧ NoAttr K C' "at_word" ∧ fs'.lookup ("at_word" : Str) = some v' ∧ Q v' := by
  obtain ⟨dx, h⟩ := R.sw
  exact rd_fld h T.cSw T.nAtWord swF_at q
theorem f_th_fields (T : Txt K mg) (R : HallR K F H ρ s) {p : Int} {t : Th} (g : get s.mem p = some t) (q : Q (.ref (ρ (.fl p)))) :
    ∃ a' C' dx' fs' v', (V.ref (ρ (.th p))) = .ref a' ∧ H a' = some (.ins C' dx' fs') ∧ Cls K C' ∧ NoAttr K C' "fields" ∧ fs'.lookup ("fields" : Str) = some v' ∧ Q v' := by
  obtain ⟨dx, h⟩ := R.th p t g
  exact rd_fld h T.cThing T.nFields thF_fields q
theorem f_th_colour (T : Txt K mg) (R : HallR K F H ρ s) {p : Int} {t : Th} (g : get s.mem p = some t) (q : Q (.str (colS t.col))) :
    ∃ a' C' dx' fs' v', (V.ref (ρ (.th p))) = .ref a' ∧ H a' = some (.ins C' dx' fs') ∧ Cls K C' ∧ NoAttr K C' "colour" ∧ fs'.lookup ("colour" : Str) = some v' ∧ Q v' := by
  obtain ⟨dx, h⟩ := R.th p t g
  exact rd_fld h T.cThing T.nColour thF_colour q
theorem f_held (T : Txt K mg) {a dx : Addr} {p : Int} (h : H a = some (.ins (cHeld K) dx (heldF p))) (q : Q (.int p)) :
    ∃ a' C' dx' fs' v', (V.ref a) = .ref a' ∧ H a' = some (.ins C' dx' fs') ∧ Cls K C' ∧ NoAttr K C' "place" ∧ fs'.lookup ("place" : Str) = some v' ∧ Q v' := rd_fld h T.cHeld T.nPlace heldF_place q
/-- a method of the hall | the memory | the sweeper -/
theorem m_hall (R : HallR K F H ρ s) {m : Str} {q : Prop} (k : q) (h1 : (m == "memory") = false := by decide +kernel) (h2 : (m == "hands") = false := by decide +kernel) (h3 : (m == "sweeper") = false := by decide +kernel) :
    ∃ a' dx' fs', (V.ref (ρ .hall)) = .ref a' ∧ H a' = some (.ins (cHall K) dx' fs') ∧ fs'.lookup m = none ∧ q := by
  obtain ⟨dx, h⟩ := R.hall
  exact ⟨_, _, _, rfl, h, hallF_no h1 h2 h3, k⟩
theorem m_mem (R : HallR K F H ρ s) {m : Str} {q : Prop} (k : q) (h1 : (m == "size") = false := by decide +kernel) (h2 : (m == "things") = false := by decide +kernel) :
    ∃ a' dx' fs', (V.ref (ρ .mem)) = .ref a' ∧ H a' = some (.ins (cMem K) dx' fs') ∧ fs'.lookup m = none ∧ q := by
  obtain ⟨dx, h⟩ := R.mem
  exact ⟨_, _, _, rfl, h, memF_no h1 h2, k⟩
theorem m_sw (R : HallR K F H ρ s) {m : Str} {q : Prop} (k : q) (h1 : (m == "memory") = false := by decide +kernel) (h2 : (m == "standing") = false := by decide +kernel) (h3 : (m == "at_word") = false := by decide +kernel) :
    ∃ a' dx' fs', (V.ref (ρ .sw)) = .ref a' ∧ H a' = some (.ins (cSw K) dx' fs') ∧ fs'.lookup m = none ∧ q := by
  obtain ⟨dx, h⟩ := R.sw
  exact ⟨_, _, _, rfl, h, swF_no h1 h2 h3, k⟩
/-- d[place] of the things -/
theorem d_thing (R : HallR K F H ρ s) (hl : Lay s.size 0 s.mem) {p : Int} {t : Th} (g : get s.mem p = some t) (q : Q (.ref (ρ (.th p)))) :
    ∃ a v, (V.ref (ρ .dc)) = .ref a ∧ DGet H a (.int p) (some v) ∧ Q v := by
  obtain ⟨kvs, h, hp⟩ := R.dc
  exact ⟨_, _, rfl, dict_get hl h hp g, q⟩
end
theorem iteNN {c A B : Prop} [Decidable c] (hc : ¬ c) (h : A) : if (!decide c) = true then A else B := by
  rw [decide_eq_false hc]
  exact iteT h
theorem ph_ne {a b : Ph} (h : a ≠ b) : ¬ V.str (phS a) = V.str (phS b) := fun z => h (phS_inj.mp (V.str.inj z))
theorem ix_nat {n j : Nat} (h : j < n) : ixN n (j : Int) = some j := by
  unfold ixN
  rw [if_pos (by omega), if_pos (by omega)]
  simp
theorem hand_some {s : St} {i : Nat} (h : i < s.hands.length) : s.hands[i]? = some (hand s i) := by
  unfold hand
  rw [List.getD_eq_getElem?_getD, List.getElem?_eq_getElem h]
  rfl
/-- hands[i] -/
theorem d_hand {K : PySem.W.Frag} {F : Addr → Prop} {H : Hp} {ρ : Tag → Addr} {s : St} {Q : V → Prop} (R : HallR K F H ρ s) {i : Nat} (hi : i < s.hands.length) (q : ∀ v, VlAt K F H v (hand s i) → Q v) :
    ∃ p xs k v, (V.ref (ρ .hl)) = .ref p ∧ (V.int (i : Int)) = .int k ∧ SqL K H p xs ∧ atI xs k = some v ∧ Q v := by
  obtain ⟨vs, hv, hvs⟩ := R.hl
  obtain ⟨v, h1, h2⟩ := hvs.2 i _ (hand_some hi)
  exact ⟨_, vs, _, v, rfl, rfl, .inl (.inl hv), atI_nat h1, q v h2⟩
/-- for k in d, d locked -/
theorem for_keys {d : Addr} {o : Obj} {kvs : List (Key × V)} {g : TG} {tb : TS} {D : Ends} {σ : L2.St} {H : Hp} (Pv : Nat → L2.St → Hp → Prop) (h0 : Pv 0 σ H)
    (hl : ∀ i σ H, i ≤ kvs.length → Pv i σ H → H d = some (.frz o (.dK kvs)))
    (hs : ∀ i k v σ H, kvs[i]? = some (k, v) → Pv i σ H → g (kV k) σ H fun σ2 H2 => tb { D with nx := Pv (i + 1), ct := Pv (i + 1), bk := D.nx } σ2 H2) (hd : ∀ σ H, Pv kvs.length σ H → D.nx σ H) :
    ∃ W : Nat → Nat → L2.St → Hp → Prop, (∃ m, W 0 m σ H) ∧ ∀ i m σ H, W i m σ H → ((Itk d o kvs).stop i H ∧ D.nx σ H) ∨
      ((Itk d o kvs).go i H ∧ ∃ N : L2.St → Hp → Prop, (∀ σ' H', N σ' H' → ∃ m', m' < m ∧ W (i + 1) m' σ' H') ∧
        ∀ x H', (Itk d o kvs).yld i H x H' → g x σ H' fun σ2 H2 => tb { D with nx := N, ct := N, bk := D.nx } σ2 H2) := by
  refine ⟨fun i m σ H => m = kvs.length - i ∧ i ≤ kvs.length ∧ Pv i σ H, ⟨kvs.length, by simp, Nat.zero_le _, h0⟩, ?_⟩
  rintro i m σ H ⟨rfl, hi, p⟩
  have q := hl i σ H hi p
  by_cases lt : i < kvs.length
  · refine .inr ⟨⟨q, lt⟩, Pv (i + 1), fun σ' H' p' => ⟨kvs.length - (i + 1), by omega, rfl, lt, p'⟩, fun x H' y => ?_⟩
    obtain ⟨rfl, k, v, e, rfl⟩ := y
    exact hs i k v σ H' e p
  · have e : i = kvs.length := by omega
    subst e
    exact .inl ⟨⟨q, Nat.le_refl _⟩, hd σ H p⟩
theorem kit_refl {K : PySem.W.Frag} {t : Value} : PySem.W.kitOne K t t = some true := by
  unfold PySem.W.kitOne
  rw [if_pos (beq_self_eq_true t)]
theorem dict_keys {ρ : Tag → Addr} {m : Mem} {kvs : List (Key × V)} (hp : kvs.Perm (pairs ρ m)) : ∃ ks : List Int, kvs.map (·.1) = ks.map Sum.inl ∧ ks.Perm (m.map (·.1)) := by
  refine ⟨kvs.filterMap fun kv => kv.1.getLeft?, ?_, ?_⟩
  · have hm : ∀ kv ∈ kvs, ∃ n : Int, kv.1 = Sum.inl n := fun kv hkv => by
      obtain ⟨x, _, e⟩ := List.mem_map.mp (hp.mem_iff.mp hkv)
      exact ⟨x.1, by rw [← e]⟩
    clear hp
    induction kvs with
    | nil => rfl
    | cons y r ih =>
      obtain ⟨n, e⟩ := hm y List.mem_cons_self
      simp only [List.filterMap_cons, List.map_cons, e, Sum.getLeft?_inl]
      rw [ih fun z hz => hm z (List.mem_cons_of_mem _ hz)]
  · have h1 := hp.filterMap fun kv => kv.1.getLeft?
    have h2 : (pairs ρ m).filterMap (fun kv => kv.1.getLeft?) = m.map (·.1) := by
      clear h1 hp
      induction m with
      | nil => rfl
      | cons y r ih =>
        have ih' : List.filterMap (fun kv : Key × V => kv.1.getLeft?) (r.map fun x => ((Sum.inl x.1 : Key), V.ref (ρ (.th x.1)))) = r.map (·.1) := ih
        show List.filterMap (fun kv : Key × V => kv.1.getLeft?) (((Sum.inl y.1 : Key), V.ref (ρ (.th y.1))) :: r.map fun x => ((Sum.inl x.1 : Key), V.ref (ρ (.th x.1)))) = y.1 :: r.map (·.1)
        rw [List.filterMap_cons]
        simp only [Sum.getLeft?_inl]
        rw [ih']
    rw [h2] at h1
    exact h1
theorem map_get {α : Type} {m : List α} {f : α → V} {i : Nat} {y : V} (h : (m.map f)[i]? = some y) : ∃ x, m[i]? = some x ∧ y = f x ∧ m.drop i = x :: m.drop (i + 1) := by
  rw [List.getElem?_map] at h
  obtain ⟨x, hx, e⟩ := Option.map_eq_some_iff.mp h
  obtain ⟨hi, e2⟩ := List.getElem?_eq_some_iff.mp hx
  exact ⟨x, hx, e.symm, by rw [List.drop_eq_getElem_cons hi, e2]⟩
theorem drop_all {α β : Type} (m : List α) (f : α → β) : m.drop (m.map f).length = [] := by
  rw [List.length_map]
  exact List.drop_length
theorem sz1000 {n : Nat} (h : n ≤ 1000) : n ≤ sizeLine := Nat.le_trans h (by decide)
theorem small_lt {n : Nat} (h : n ≤ 100000) : n < sizeLine := Nat.lt_of_le_of_lt h (by decide)
theorem lt1000 {n : Nat} (h : n ≤ 1000) : n < sizeLine := Nat.lt_of_le_of_lt h (by decide)
/-- a statement, and what holds behind it on all its ways -/
theorem ps_mid {X : Cx} {st : Stmt} {t : TS} (h : PS X st t) : PS X st (fun D σ H => ∃ Mid : L2.St → Hp → Prop, t { D with nx := Mid } σ H ∧ ∀ σ' H', Mid σ' H' → D.nx σ' H') :=
  ⟨fun pins s σ H D I ⟨Mid, h1, h2⟩ => thn (h.run pins s σ H { D with nx := Mid } I h1) fun f s' q => by
    cases f with
    | next =>
      obtain ⟨σ', H', I', q⟩ := q
      exact ⟨σ', H', I', h2 _ _ q⟩
    | brk => exact q
    | cont => exact q
    | ret u => exact q⟩
def optV : Option Int → V
  | some n => .int n
  | none => .non
theorem optV_non {o : Option Int} : (optV o = .non) ↔ o = none := by
  cases o <;> simp [optV]
def isHeld : Vl → Bool
  | .held _ => true
  | .num _ => false
theorem cut_nat (xs : List V) {i j : Nat} (h : i ≤ j) : cutV xs (some (i : Int)) (some (j : Int)) = (xs.drop i).take (j - i) := by
  unfold cutV
  rw [HT.sIx_nat, HT.sIx_nat]
  by_cases c : xs.length ≤ i
  · rw [Nat.min_eq_right c, List.drop_eq_nil_of_le (Nat.le_refl _), List.drop_eq_nil_of_le c]
    simp
  · rw [show min i xs.length = i from Nat.min_eq_left (by omega)]
    by_cases d : j ≤ xs.length
    · rw [Nat.min_eq_left d]
    · rw [Nat.min_eq_right (by omega), List.take_of_length_le (by simp), List.take_of_length_le (by simp; omega)]
end G

/-! What each def of the program promises. -/
namespace G
open L2 PySem PyProof.Rows PySem.Spec

/-- the hall at h -/
def HallAt (K : PySem.W.Frag) (F : Addr → Prop) (H : Hp) (h : Addr) (s : St) : Prop := ∃ ρ, ρ .hall = h ∧ HallR K F H ρ s
/-- lists stay -/
def KL (H H' : Hp) : Prop := ∀ a xs, H a = some (.lst xs) → H' a = some (.lst xs)
/-- a hand of the eight -/
def Dom (m : Mem) (vs : List Vl) : Prop := ∀ p, .held p ∈ vs → ∃ t, get m p = some t
/-- all stands but the object at p -/
def But (p : Addr) (H H' : Hp) : Prop := ∀ b o, H b = some o → b ≠ p → H' b = some o

def sp_is_held (K : PySem.W.Frag) : Sp := fun vs H Q _ => ∃ F v x, vs = [v] ∧ VlAt K F H v x ∧ Q (.bl (isHeld x)) H
def sp_Thing_init (K : PySem.W.Frag) : Sp := fun vs H Q _ => ∃ (p dx : Addr) (m : Nat) (c : Col), vs = [.ref p, .int m, .str (colS c)] ∧ H p = some (.ins (cThing K) dx []) ∧ m ≤ 1000 ∧
  ∀ l H', H l = none → H' l = some (.lst (List.replicate m (.int 0))) → H' p = some (.ins (cThing K) dx (thF l c)) → But p H H' → Q .non H'
def sp_Held_init (K : PySem.W.Frag) : Sp := fun vs H Q _ => ∃ (p dx : Addr) (n : Int), vs = [.ref p, .int n] ∧ H p = some (.ins (cHeld K) dx []) ∧ Q .non (upd H p (.ins (cHeld K) dx (heldF n)))
def sp_Memory_init (K : PySem.W.Frag) : Sp := fun vs H Q _ => ∃ (p dx : Addr) (n : Int), vs = [.ref p, .int n] ∧ H p = some (.ins (cMem K) dx []) ∧
  ∀ d H', H d = none → H' d = some (.dK []) → H' p = some (.ins (cMem K) dx (memF n d)) → But p H H' → Q .non H'
def sp_Sweeper_init (K : PySem.W.Frag) : Sp := fun vs H Q _ => ∃ (p dx m : Addr), vs = [.ref p, .ref m] ∧ H p = some (.ins (cSw K) dx []) ∧ Q .non (upd H p (.ins (cSw K) dx (swF m .idle 0)))
def sp_Memory_places (K : PySem.W.Frag) : Sp := fun vs H Q _ => ∃ F ρ s, vs = [.ref (ρ .mem)] ∧ HallR K F H ρ s ∧ Lay s.size 0 s.mem ∧ ∀ p, H p = none → Q (.ref p) (upd H p (.lst (s.mem.map fun x => V.int x.1)))
def sp_Memory_words (K : PySem.W.Frag) : Sp := fun vs H Q _ => ∃ F ρ s p t, vs = [.ref (ρ .mem), .int p] ∧ HallR K F H ρ s ∧ Lay s.size 0 s.mem ∧ get s.mem p = some t ∧ Q (.int (wd t)) H
def sp_Memory_gap (K : PySem.W.Frag) : Sp := fun vs H Q _ => ∃ F ρ s w, vs = [.ref (ρ .mem), .int w] ∧ HallR K F H ρ s ∧ Lay s.size 0 s.mem ∧ ∀ H', Same H H' → Q (optV (gap s w)) H'
def pdBlock (b : Int × Int × Int) : PyData := .tuple [.int b.1, .int b.2.1, .int b.2.2]
def pdBlocks (bs : List (Int × Int × Int)) : PyData := .tuple (bs.map pdBlock)
def blocksS (s : St) : List (Int × Int × Int) := blocksF s.size 0 s.mem
def sp_Memory_blocks (K : PySem.W.Frag) : Sp := fun vs H Q _ => ∃ F ρ s, vs = [.ref (ρ .mem)] ∧ HallR K F H ρ s ∧ Lay s.size 0 s.mem ∧ s.mem.length ≤ 1000 ∧ ∀ v H', Same H H' → Tp (outF F H') v (pdBlocks (blocksS s)) → Q v H'
def sp_shade (K : PySem.W.Frag) : Sp := fun vs H Q _ => ∃ F ρ s v x, vs = [.ref (ρ .mem), v] ∧ HallR K F H ρ s ∧ Lay s.size 0 s.mem ∧ VlAt K F H v x ∧ Dom s.mem [x] ∧
  ∀ H', Kp F H F H' → KL H H' → HallR K F H' ρ { s with mem := shade s.mem x } → Q .non H'
def sp_least_grey (K : PySem.W.Frag) : Sp := fun vs H Q _ => ∃ F ρ s, vs = [.ref (ρ .mem)] ∧ HallR K F H ρ s ∧ Lay s.size 0 s.mem ∧ ∀ H', Same H H' → Q (optV (leastGrey s.mem)) H'
def sp_next_from (K : PySem.W.Frag) : Sp := fun vs H Q _ => ∃ F ρ s a, vs = [.ref (ρ .mem), .int a] ∧ HallR K F H ρ s ∧ Lay s.size 0 s.mem ∧ ∀ H', Same H H' → Q (optV (nextFrom s.mem a)) H'
def sp_Sweeper_begin (K : PySem.W.Frag) : Sp := fun vs H Q _ => ∃ F ρ s, vs = [.ref (ρ .sw), .ref (ρ .hl)] ∧ HallR K F H ρ s ∧ Lay s.size 0 s.mem ∧ Dom s.mem s.hands ∧
  ∀ H', Kp F H F H' → HallR K F H' ρ (beginS s) → Q .non H'
def sp_Sweeper_settle (K : PySem.W.Frag) : Sp := fun vs H Q _ => ∃ F ρ s, vs = [.ref (ρ .sw)] ∧ HallR K F H ρ s ∧ Lay s.size 0 s.mem ∧
  ∀ H', Kp F H F H' → HallR K F H' ρ (settle s) → Q .non H'
def sp_Sweeper_mark_part (K : PySem.W.Frag) : Sp := fun vs H Q _ => ∃ F ρ s g t, vs = [.ref (ρ .sw)] ∧ HallR K F H ρ s ∧ Lay s.size 0 s.mem ∧ leastGrey s.mem = some g ∧ get s.mem g = some t ∧ Dom s.mem t.fs ∧
  ∀ H', Kp F H F H' → HallR K F H' ρ (markPart s) → Q .non H'
def sp_Sweeper_sweep_part (K : PySem.W.Frag) : Sp := fun vs H Q _ => ∃ F ρ s g t, vs = [.ref (ρ .sw)] ∧ HallR K F H ρ s ∧ Lay s.size 0 s.mem ∧ nextFrom s.mem s.fin = some g ∧ get s.mem g = some t ∧
  ∀ H', Kp F H F H' → HallR K F H' ρ (sweepPart s) → Q .non H'
def sp_Sweeper_part (K : PySem.W.Frag) : Sp := fun vs H Q _ => ∃ F ρ s L, vs = [.ref (ρ .sw)] ∧ HallR K F H ρ s ∧ G.Inv s L ∧ s.ph ≠ .idle ∧
  ∀ H', Kp F H F H' → HallR K F H' ρ (part s) → Q .non H'
def sp_Sweeper_colour_at (K : PySem.W.Frag) : Sp := fun vs H Q _ => ∃ F ρ s p, vs = [.ref (ρ .sw), .int p] ∧ HallR K F H ρ s ∧ Q (.str (colS (colourAt s p))) H
def sp_Hall_init (K : PySem.W.Frag) : Sp := fun vs H Q _ => ∃ (p dx : Addr) (n : Int), vs = [.ref p, .int n] ∧ H p = some (.ins (cHall K) dx []) ∧
  ∀ F H', But p H H' → (∀ a, F a → a = p ∨ H a = none) → HallAt K F H' p (newS n) → Q .non H'
def sp_Hall_number (K : PySem.W.Frag) : Sp := fun vs H Q _ => ∃ (F : Addr → Prop) (h : Addr) (s : St) (i : Nat) (n : Int), vs = [.ref h, .int i, .int n] ∧ HallAt K F H h s ∧ i < s.hands.length ∧
  ∀ H', Kp F H F H' → HallAt K F H' h (setHand s i (.num n)) → Q .non H'
def sp_Hall_copy (K : PySem.W.Frag) : Sp := fun vs H Q _ => ∃ (F : Addr → Prop) (h : Addr) (s : St) (i j : Nat), vs = [.ref h, .int i, .int j] ∧ HallAt K F H h s ∧ i < s.hands.length ∧ j < s.hands.length ∧
  ∀ H', Kp F H F H' → HallAt K F H' h (setHand s i (hand s j)) → Q .non H'
abbrev xNoThing (K : PySem.W.Frag) : Value := .ref (He.ga K "NoThing")
abbrev xNoField (K : PySem.W.Frag) : Value := .ref (He.ga K "NoField")
abbrev xNoRoom (K : PySem.W.Frag) : Value := .ref (He.ga K "NoRoom")
abbrev xNotNow (K : PySem.W.Frag) : Value := .ref (He.ga K "NotNow")
def sp_Hall_held_by (K : PySem.W.Frag) : Sp := fun vs H Q E => ∃ F ρ s, ∃ i : Nat, vs = [.ref (ρ .hall), .int i] ∧ HallR K F H ρ s ∧ Lay s.size 0 s.mem ∧ i < s.hands.length ∧ Dom s.mem [hand s i] ∧
  (∀ n, hand s i = .num n → E (xNoThing K) none H) ∧ (∀ p t, hand s i = .held p → get s.mem p = some t → Q (.ref (ρ (.th p))) H)
def sp_Hall_fields_of (K : PySem.W.Frag) : Sp := fun vs H Q E => ∃ F ρ s, ∃ (i : Nat) (f : Int), vs = [.ref (ρ .hall), .int i, .int f] ∧ HallR K F H ρ s ∧ Lay s.size 0 s.mem ∧ i < s.hands.length ∧ Dom s.mem [hand s i] ∧
  (fres s i f = .noThing → E (xNoThing K) none H) ∧ (fres s i f = .noField → E (xNoField K) none H) ∧ (∀ p t v, fres s i f = .ok p t v → Q (.ref (ρ (.fl p))) H)
def sp_Hall_load (K : PySem.W.Frag) : Sp := fun vs H Q E => ∃ F h s, ∃ (i j : Nat) (f : Int), vs = [.ref h, .int i, .int j, .int f] ∧ HallAt K F H h s ∧ Lay s.size 0 s.mem ∧ i < s.hands.length ∧ j < s.hands.length ∧ Dom s.mem [hand s j] ∧
  (fres s j f = .noThing → E (xNoThing K) none H) ∧ (fres s j f = .noField → E (xNoField K) none H) ∧ (∀ p t v, fres s j f = .ok p t v → ∀ H', Kp F H F H' → HallAt K F H' h (setHand s i v) → Q .non H')
def sp_Hall_store (K : PySem.W.Frag) : Sp := fun vs H Q E => ∃ F h s L, ∃ (i j : Nat) (f : Int), vs = [.ref h, .int i, .int f, .int j] ∧ HallAt K F H h s ∧ G.Inv s L ∧ i < s.hands.length ∧ j < s.hands.length ∧
  (fres s i f = .noThing → E (xNoThing K) none H) ∧ (fres s i f = .noField → E (xNoField K) none H) ∧ (∀ p t v, fres s i f = .ok p t v → ∀ H', Kp F H F H' → HallAt K F H' h (storeS s p f.toNat v (hand s j)) → Q .non H')
def sp_Hall_make (K : PySem.W.Frag) : Sp := fun vs H Q E => ∃ F h s L, ∃ (i m : Nat), vs = [.ref h, .int i, .int m] ∧ HallAt K F H h s ∧ G.Inv s L ∧ i < s.hands.length ∧ m ≤ 6 ∧ s.size ≤ 100000 ∧
  ((makeS s i m).1 = true → ∀ F' H', Kp F H F' H' → HallAt K F' H' h (makeS s i m).2 → Q .non H') ∧ ((makeS s i m).1 = false → ∀ F' H', Kp F H F' H' → HallAt K F' H' h (makeS s i m).2 → E (xNoRoom K) none H')
def pdVal (s : St) : Vl → PyData
  | .num n => .tuple [.str "number", .int n]
  | .held p => .tuple [.str "thing", .int (((get s.mem p).map fun t => (t.fs.length : Int)).getD 0)]
def sp_Hall_value_of (K : PySem.W.Frag) : Sp := fun vs H Q _ => ∃ F h s, ∃ i : Nat, vs = [.ref h, .int i] ∧ HallAt K F H h s ∧ Lay s.size 0 s.mem ∧ i < s.hands.length ∧ Dom s.mem [hand s i] ∧
  ∀ v H', Same H H' → Tp (outF F H') v (pdVal s (hand s i)) → Q v H'
def alikeB : Vl → Vl → Bool
  | .held p, .held q => decide (p = q)
  | _, _ => false
def sp_Hall_alike (K : PySem.W.Frag) : Sp := fun vs H Q _ => ∃ F h s, ∃ i j : Nat, vs = [.ref h, .int i, .int j] ∧ HallAt K F H h s ∧ i < s.hands.length ∧ j < s.hands.length ∧ Q (.bl (alikeB (hand s i) (hand s j))) H
def sp_Hall_blocks (K : PySem.W.Frag) : Sp := fun vs H Q _ => ∃ F h s, vs = [.ref h] ∧ HallAt K F H h s ∧ Lay s.size 0 s.mem ∧ s.mem.length ≤ 1000 ∧ ∀ v H', Same H H' → Tp (outF F H') v (pdBlocks (blocksS s)) → Q v H'
def sp_Hall_place_of (K : PySem.W.Frag) : Sp := fun vs H Q E => ∃ F h s, ∃ i : Nat, vs = [.ref h, .int i] ∧ HallAt K F H h s ∧ Lay s.size 0 s.mem ∧ i < s.hands.length ∧ Dom s.mem [hand s i] ∧
  (∀ n, hand s i = .num n → E (xNoThing K) none H) ∧ (∀ p, hand s i = .held p → Q (.int p) H)
/-- a value when things lie at other places -/
def sp_Hall_moved (K : PySem.W.Frag) : Sp := fun vs H Q _ => ∃ F h v x d o kvs, vs = [.ref h, v, .ref d] ∧ VlAt K F H v x ∧ (H d = some (.dK kvs) ∨ H d = some (.frz o (.dK kvs))) ∧
  (∀ n, x = .num n → Q v H) ∧ (∀ p, x = .held p → ∃ q, valV kvs (Sum.inl p) = some (.int q) ∧ ∀ a dx H', H a = none → H dx = none → H' a = some (.ins (cHeld K) dx (heldF q)) → Same H H' → (∀ b, H' b ≠ none → H b ≠ none ∨ b = a ∨ b = dx) → Q (.ref a) H')
def sp_Hall_slide (K : PySem.W.Frag) : Sp := fun vs H Q E => ∃ F h s L, vs = [.ref h] ∧ HallAt K F H h s ∧ G.Inv s L ∧ s.size ≤ 100000 ∧
  (s.ph ≠ .idle → E (xNotNow K) none H) ∧ (s.ph = .idle → ∀ F' H', Kp F H F' H' → HallAt K F' H' h (slideS s) → Q .non H')
def sp_Hall_begin (K : PySem.W.Frag) : Sp := fun vs H Q E => ∃ F h s L, vs = [.ref h] ∧ HallAt K F H h s ∧ G.Inv s L ∧
  (s.ph ≠ .idle → E (xNotNow K) none H) ∧ (s.ph = .idle → ∀ H', Kp F H F H' → HallAt K F H' h (beginS s) → Q .non H')
def sp_Hall_step (K : PySem.W.Frag) : Sp := fun vs H Q _ => ∃ F h s L, ∃ n : Nat, vs = [.ref h, .int n] ∧ HallAt K F H h s ∧ G.Inv s L ∧
  ∀ H', Kp F H F H' → HallAt K F H' h (stepN n s).2 → Q (.int (stepN n s).1) H'
def sp_Hall_finish (K : PySem.W.Frag) : Sp := fun vs H Q _ => ∃ F h s L, vs = [.ref h] ∧ HallAt K F H h s ∧ G.Inv s L ∧
  ∀ H', Kp F H F H' → HallAt K F H' h (finishS s).2 → Q (.int (finishS s).1) H'
def sp_Hall_phase (K : PySem.W.Frag) : Sp := fun vs H Q _ => ∃ F h s, vs = [.ref h] ∧ HallAt K F H h s ∧ Q (.str (phS s.ph)) H
def coloursD (s : St) : PyData := .tuple (s.mem.map fun x => .str (colS x.2.col))
def sp_Hall_colours (K : PySem.W.Frag) : Sp := fun vs H Q _ => ∃ F h s, vs = [.ref h] ∧ HallAt K F H h s ∧ Lay s.size 0 s.mem ∧ s.mem.length ≤ 1000 ∧ ∀ v H', Same H H' → Tp (outF F H') v (coloursD s) → Q v H'
def fingerV (s : St) : V := if s.ph = .sweep then .int s.fin else .non
def sp_Hall_finger (K : PySem.W.Frag) : Sp := fun vs H Q _ => ∃ F h s, vs = [.ref h] ∧ HallAt K F H h s ∧ Q (fingerV s) H
end G

/-! What slide's walk needs: the new places, the moved values. -/
namespace G
open L2 PySem PyProof.Rows PySem.Spec
theorem newPl_keys : ∀ (m : Mem) (a : Int), (newPl a m).map (·.1) = m.map (·.1)
  | [], _ => rfl
  | x :: r, a => congrArg (x.1 :: ·) (newPl_keys r (a + wd x.2))
def plV (x : Int × Int) : Key × V := (Sum.inl x.1, V.int x.2)
theorem valV_look {p : Int} : ∀ {pl : List (Int × Int)}, p ∈ pl.map (·.1) → valV (pl.map plV) (Sum.inl p) = some (.int (look pl p))
  | [], h => by cases h
  | x :: r, h => by
    by_cases e : x.1 = p
    · rw [List.map_cons, valV_pos (p := plV x) (by rw [← e]; rfl)]
      unfold look
      rw [if_pos e]
      rfl
    · rw [List.map_cons, valV_neg (p := plV x) (fun z => e (Sum.inl.inj z))]
      unfold look
      rw [if_neg e]
      rcases List.mem_cons.mp h with h | h
      · exact absurd h.symm e
      · exact valV_look h
theorem valV_place {m : Mem} {p : Int} {t : Th} (g : get m p = some t) (a : Int) : valV ((newPl a m).map plV) (Sum.inl p) = some (.int (look (newPl a m) p)) := by
  refine valV_look ?_
  rw [newPl_keys]
  exact List.mem_map.mpr ⟨_, get_mem g, rfl⟩
/-- the list D of moved values, j of them -/
def MvP (K : PySem.W.Frag) (F2 : Addr → Prop) (H2 : Hp) (D : Addr) (ρs : List (Int × Int)) (xs : List Vl) (j : Nat) (H3 : Hp) : Prop :=
  ∃ F3 ws, Same H2 H3 ∧ H3 D = some (.lst ws) ∧ VlsAt K F3 H3 ws ((xs.take j).map (mv ρs)) ∧ (∀ a, F2 a → F3 a) ∧ (∀ a, F3 a → F2 a ∨ (H2 a = none ∧ a ≠ D)) ∧ ∀ a, F3 a → ∃ o, H3 a = some o
section
variable {K : PySem.W.Frag} {mg : Str → Option Value} {F2 : Addr → Prop} {H2 H3 : Hp} {D h P : Addr} {od : Obj} {kvs : List (Key × V)} {ρs : List (Int × Int)} {xs : List Vl} {vs : List V} {j : Nat} {v : V}
theorem mv_start (hD : H2 D = none) (al : ∀ a, F2 a → ∃ o, H2 a = some o) : MvP K F2 H2 D ρs xs 0 (upd H2 D (.lst [])) := by
  refine ⟨F2, [], same_new hD, upd_same, ⟨rfl, fun i x hx => by simp at hx⟩, fun _ h => h, fun _ h => .inl h, fun a h => ?_⟩
  obtain ⟨o, e⟩ := al a h
  exact ⟨o, same_new hD a o e⟩
theorem VlsAt.snoc {F : Addr → Prop} {H : Hp} {ws : List V} {ys : List Vl} {y : Vl} (h : VlsAt K F H ws ys) (k : VlAt K F H v y) : VlsAt K F H (ws ++ [v]) (ys ++ [y]) := by
  refine ⟨by rw [List.length_append, List.length_append, h.1]; rfl, fun i x hx => ?_⟩
  by_cases c : i < ys.length
  · rw [List.getElem?_append_left c] at hx
    obtain ⟨u, h1, h2⟩ := h.2 i x hx
    exact ⟨u, by rw [List.getElem?_append_left (by rw [h.1]; exact c)]; exact h1, h2⟩
  · rw [List.getElem?_append_right (by omega)] at hx
    have e : i - ys.length = 0 := by
      have := (List.getElem?_eq_some_iff.mp hx).1
      simp at this
      omega
    rw [e] at hx
    cases hx
    refine ⟨v, ?_, k⟩
    rw [List.getElem?_append_right (by rw [h.1]; omega), h.1, e]
    rfl
/-- self.moved(value, places), appended -/
theorem mv_turn (hD : H2 D = none) (al2 : ∀ a, F2 a → ∃ o, H2 a = some o) (hP : H2 P = some (.dK kvs) ∨ H2 P = some (.frz od (.dK kvs))) (hk : ∀ p, .held p ∈ xs → valV kvs (Sum.inl p) = some (.int (look ρs p))) (hvs : VlsAt K F2 H2 vs xs) (hx : xs.length ≤ 1000)
    (hv : vs[j]? = some v) (m : MvP K F2 H2 D ρs xs j H3) (E : XK) :
    sp_Hall_moved K [.ref h, v, .ref P] H3 (fun y H4 => ∃ acc, H4 D = some (.lst acc) ∧ acc.length < sizeLine ∧ MvP K F2 H2 D ρs xs (j + 1) (upd H4 D (.lst (acc ++ [y])))) E := by
  obtain ⟨F3, ws, e3, hD3, hws, f1, f2, al⟩ := m
  obtain ⟨x, hxj, hxv⟩ := hvs.get hv
  have hjx : j < xs.length := (List.getElem?_eq_some_iff.mp hxj).1
  have hxv3 : VlAt K F3 H3 v x := hxv.same f1 fun a dx fs q => e3 _ _ q
  have hlen : ws.length < sizeLine := by
    rw [hws.1, List.length_map, List.length_take]
    exact lt1000 (by omega)
  have nF : ¬ F3 D := fun z => by
    rcases f2 D z with z | z
    · obtain ⟨o, ho⟩ := al2 D z
      rw [hD] at ho
      cases ho
    · exact z.2 rfl
  have et : (xs.take (j + 1)).map (mv ρs) = (xs.take j).map (mv ρs) ++ [mv ρs x] := by
    rw [List.take_add_one, hxj]
    simp
  have hP3 : H3 P = some (.dK kvs) ∨ H3 P = some (.frz od (.dK kvs)) := by
    rcases hP with q | q
    · exact .inl (e3 _ _ q)
    · exact .inr (e3 _ _ q)
  have held : ∀ (H4 : Hp) (l : List V), (∀ a o, H3 a = some o → H4 a = some o) → ∀ a dx fs, H3 a = some (.ins (cHeld K) dx fs) → upd H4 D (.lst l) a = some (.ins (cHeld K) dx fs) := fun H4 l k a dx fs q => by
    rw [upd_ne (ne_of q hD3 (by intro z; cases z))]
    exact k _ _ q
  refine ⟨F3, h, v, x, P, od, kvs, rfl, hxv3, hP3, fun n e => ?_, fun p e => ?_⟩
  · subst e
    refine ⟨ws, hD3, hlen, F3, ws ++ [v], fun b o hb => ?_, upd_same, ?_, f1, f2, fun a ha => ?_⟩
    · rw [upd_ne (ne_of_none hb hD)]
      exact e3 b o hb
    · rw [et]
      exact (hws.same (fun _ z => z) (held H3 _ fun _ _ z => z)).snoc hxv3
    · rw [upd_ne (fun z => nF (by rw [← z]; exact ha))]
      exact al a ha
  · subst e
    refine ⟨_, hk p (List.mem_of_getElem? hxj), fun a dx H4 na ndx ha e4 _ => ?_⟩
    have naD : a ≠ D := (ne_of_none hD3 na).symm
    refine ⟨ws, e4 _ _ hD3, hlen, fun b => F3 b ∨ b = a, ws ++ [.ref a], fun b o hb => ?_, upd_same, ?_, fun b hb => .inl (f1 b hb), fun b hb => ?_, fun b hb => ?_⟩
    · rw [upd_ne (ne_of_none hb hD)]
      exact e4 _ _ (e3 b o hb)
    · rw [et]
      refine (hws.same (fun _ z => .inl z) (held H4 _ e4)).snoc ⟨a, dx, rfl, .inr rfl, ?_⟩
      rw [upd_ne naD]
      exact ha
    · rcases hb with hb | rfl
      · exact f2 b hb
      · refine .inr ⟨?_, naD⟩
        cases q : H2 b with
        | none => rfl
        | some o =>
          rw [e3 _ _ q] at na
          cases na
    · rcases hb with hb | rfl
      · rw [upd_ne (fun z => nF (by rw [← z]; exact hb))]
        obtain ⟨o, ho⟩ := al b hb
        exact ⟨o, e4 _ _ ho⟩
      · exact ⟨_, by rw [upd_ne naD]; exact ha⟩
end
end G

/-! What the laws' common helpers promise. -/
namespace G
open L2 PySem PyProof.Rows PySem.Spec
def sp_l_cell (K : PySem.W.Frag) : Sp := fun vs H Q _ => ∃ (a : Addr) (ns : List Int) (k : Nat), vs = [.ref a, .int k] ∧ SqL K H a (ns.map V.int) ∧ ns.length ≤ 1000 ∧ Q (.int (ns.getD k 0)) H
def sp_l_mix (K : PySem.W.Frag) : Sp := fun vs H Q _ => ∃ (c p m : Int), vs = [.int c, .int p, .int m] ∧ 0 < p ∧ 0 < m ∧ Q (.int (mixI c p m)) H
/-- an act as a tuple -/
def actVs : Act → List V
  | .make h m => [.str "make", .int h, .int m]
  | .store h f o => [.str "store", .int h, .int f, .int o]
  | .load h o f => [.str "load", .int h, .int o, .int f]
  | .copy h o => [.str "copy", .int h, .int o]
  | .number h n => [.str "number", .int h, .int n]
  | .begin => [.str "begin"]
  | .slide => [.str "slide"]
  | .finish => [.str "finish"]
  | .step n => [.str "step", .int n]
def sp_l_act (K : PySem.W.Frag) : Sp := fun vs H Q _ => ∃ (c : Int) (sw : Bool), vs = [.int c, .bl sw] ∧ ∀ a H', H a = none → H' a = some (.tup (actVs (actOf c sw))) → Same H H' → Q (.ref a) H'
/-- a list of acts -/
def ActsAt (H H' : Hp) (as : List Addr) (xs : List Act) : Prop := as.length = xs.length ∧ ∀ (i : Nat) (x : Act), xs[i]? = some x → ∃ a, as[i]? = some a ∧ H a = none ∧ H' a = some (.tup (actVs x))
def sp_l_acts (K : PySem.W.Frag) : Sp := fun vs H Q _ => ∃ (b : Addr) (ns : List Int) (sw : Bool), vs = [.ref b, .bl sw] ∧ SqL K H b (ns.map V.int) ∧ ns.length ≤ 63 ∧
  ∀ l as H', H l = none → H' l = some (.lst (as.map V.ref)) → ActsAt H H' as (acts ns sw) → Same H H' → Q (.ref l) H'
def sp_l_size (K : PySem.W.Frag) : Sp := fun vs H Q _ => ∃ (a : Addr) (ns : List Int), vs = [.ref a] ∧ SqL K H a (ns.map V.int) ∧ ns.length ≤ 1000 ∧ Q (.int (sizeOfS ns)) H
/-- what a call that told this gives, or raises -/
def RQ (K : PySem.W.Frag) (t : Told) (Q : VK) (E : XK) (H : Hp) : Prop := match t with
  | .none => Q .non H
  | .int n => Q (.int n) H
  | .noThing => E (xNoThing K) Option.none H
  | .noField => E (xNoField K) Option.none H
  | .noRoom => E (xNoRoom K) Option.none H
  | .notNow => E (xNotNow K) Option.none H
def toldV : Told → V
  | .none => .non
  | .int n => .int n
  | .noThing => .str "no thing"
  | .noField => .str "no field"
  | .noRoom => .str "no room"
  | .notNow => .str "not now"
def sp_l_call (K : PySem.W.Frag) : Sp := fun vs H Q E => ∃ F h s L a x, vs = [.ref h, .ref a] ∧ HallAt K F H h s ∧ G.Inv s L ∧ s.size ≤ 100000 ∧ ActOk x ∧ outF F H a = some (.tup (actVs x)) ∧
  ∀ F' H', Kp F H F' H' → HallAt K F' H' h (doAct s x).2 → RQ K (doAct s x).1 Q E H'
def sp_l_do (K : PySem.W.Frag) : Sp := fun vs H Q _ => ∃ F h s L a x, vs = [.ref h, .ref a] ∧ HallAt K F H h s ∧ G.Inv s L ∧ s.size ≤ 100000 ∧ ActOk x ∧ outF F H a = some (.tup (actVs x)) ∧
  ∀ F' H', Kp F H F' H' → HallAt K F' H' h (doAct s x).2 → Q (toldV (doAct s x).1) H'
theorem ActsAt.kt {H H1 H2 : Hp} {as : List Addr} {xs : List Act} (h : ActsAt H H1 as xs) (e : KT H1 H2) : ActsAt H H2 as xs := ⟨h.1, fun i x hx => by
  obtain ⟨a, h1, h2, h3⟩ := h.2 i x hx
  exact ⟨a, h1, h2, e _ _ h3⟩⟩
theorem ActsAt.snoc {H H1 : Hp} {as : List Addr} {xs : List Act} {a : Addr} {x : Act} (h : ActsAt H H1 as xs) (ha : H a = none) (hat : H1 a = some (.tup (actVs x))) : ActsAt H H1 (as ++ [a]) (xs ++ [x]) :=
  ⟨by simp [h.1], fun i y hy => by
    by_cases c : i < xs.length
    · rw [List.getElem?_append_left c] at hy
      obtain ⟨b, h1, h2⟩ := h.2 i y hy
      exact ⟨b, by rw [List.getElem?_append_left (by rw [h.1]; exact c)]; exact h1, h2⟩
    · have e : i = xs.length := by
        have := (List.getElem?_eq_some_iff.mp hy).1
        simp at this
        omega
      subst e
      have e2 : x = y := by simpa using hy
      subst e2
      exact ⟨a, by rw [← h.1]; simp, ha, hat⟩⟩
theorem inv_dom {s : St} {L : Int → Prop} (i : G.Inv s L) (h : Nat) : Dom s.mem [hand s h] := fun p hp => by
  have e : hand s h = .held p := (List.mem_singleton.mp hp).symm
  have hL := hand_L i.core e
  exact i.core.inL p hL
theorem inv_hands {s : St} {L : Int → Prop} (i : G.Inv s L) {h : Nat} (hh : h < 8) : h < s.hands.length := by
  rw [i.core.h8]
  exact hh
theorem doAct_store {s : St} {h : Nat} {f : Int} {o : Nat} : doAct s (.store h f o) = (match fres s h f with
    | .noThing => (.noThing, s)
    | .noField => (.noField, s)
    | .ok p _ v => (.none, storeS s p f.toNat v (hand s o))) := rfl
theorem doAct_load {s : St} {h o : Nat} {f : Int} : doAct s (.load h o f) = (match fres s o f with
    | .noThing => (.noThing, s)
    | .noField => (.noField, s)
    | .ok _ _ v => (.none, setHand s h v)) := rfl
/-- a law -/
def sp_law (K : PySem.W.Frag) : Sp := fun vs H Q _ => ∃ (a : Addr) (ns : List Int), vs = [.ref a] ∧ SqL K H a (ns.map V.int) ∧ ns.length ≤ 63 ∧ ∀ H', Q (.bl true) H'
theorem fnL_mk {P : Program} {w : World} {K : PySem.W.Frag} {mg : Str → Option Value} {base : Heap} {CX : CXT} {k : Nat} {x : Str} {st : Stmt} {N ps : List Str} {sp : Sp} {f : Addr} {fd : FuncData} (F : FD K x x st f fd) (S : FnScope N ps (defScope st))
    (len : ∀ vs H Q E, sp vs H Q E → vs.length = ps.length) (hb : Body P w K mg base CX k N x st f sp) : FnOk P w K mg base CX (k + 1) f fd ps sp := F.ok S len hb
theorem rd_pick {K : PySem.W.Frag} {a b : Int} {c : Bool} {p : Addr} {H : Hp} {Q : V → Prop} (h : H p = some (.lst [.int a, .int b])) (q : Q (.int (if c = true then b else a))) :
    ∃ p' xs i v, (V.ref p) = .ref p' ∧ (V.int (if c = true then 1 else 0)) = .int i ∧ SqL K H p' xs ∧ atI xs i = some v ∧ Q v := by
  cases c with
  | true => exact ⟨p, _, 1, .int b, rfl, rfl, .inl (.inl h), rfl, q⟩
  | false => exact ⟨p, _, 0, .int a, rfl, rfl, .inl (.inl h), rfl, q⟩
theorem dec_int {x y : Int} {α : Type} {a b : α} : (if decide (V.int x = V.int y) = true then a else b) = if x = y then a else b := by
  by_cases e : x = y
  · rw [if_pos e, if_pos (decide_eq_true (by rw [e]))]
  · rw [if_neg e, if_neg (fun z => e (V.int.inj (of_decide_eq_true z)))]
theorem pos_pick {c : Bool} {a b : Int} (h1 : 0 < a) (h2 : 0 < b) : 0 < (if c = true then b else a) := by
  cases c
  · exact h1
  · exact h2
theorem iteSe {x : Str} {A B : Prop} (a : A) : if decide (V.str x = V.str x) = true then A else B := by
  rw [if_pos (decide_eq_true rfl)]
  exact a
theorem iteSn {x y : Str} {A B : Prop} (h : (x == y) = false) (b : B) : if decide (V.str x = V.str y) = true then A else B := by
  rw [if_neg]
  · exact b
  · intro z
    have e := V.str.inj (of_decide_eq_true z)
    rw [e] at h
    simp at h
end G

/-! Whether blocks are sound: the data that the checks are asked about, and what they answer. -/
namespace G
open L2 PySem PyProof.Rows PySem.Spec
def tyS : PyData → String
  | .none => "NoneType"
  | .bool _ => "bool"
  | .int _ => "int"
  | .str _ => "str"
  | .list _ => "list"
  | .tuple _ => "tuple"
  | .dict _ => "dict"
def isInt : PyData → Bool
  | .int _ => true
  | _ => false
def isBool : PyData → Bool
  | .bool _ => true
  | _ => false
def isTup : PyData → Bool
  | .tuple _ => true
  | _ => false
theorem ty_dp {K : PySem.W.Frag} {H : Hp} {v : V} {d : PyData} (h : Dp K H v d) : TyX K H v (.type (tyS d)) := by
  cases h with
  | non => exact .base .non
  | bl b => exact .base (.bl b)
  | int i => exact .base (.int i)
  | str x => exact .base (.str x)
  | lst h k =>
    rcases h with (h | ⟨o, h⟩) | ⟨o, its, n, h1, h2, _⟩
    · exact .base (.lst h)
    · exact .base (.frz h)
    · exact .kList h1 h2
  | tup h k =>
    rcases h with (h | ⟨o, h⟩) | ⟨o, its, n, h1, h2, _⟩
    · exact .base (.tup h)
    · exact .fTuple h
    · exact .kTuple h1 h2
theorem kit_int {K : PySem.W.Frag} {H : Hp} {v : V} {d : PyData} (h : Dp K H v d) : PySem.W.kitOne K (.type (tyS d)) (.type "int") = some (isInt d || isBool d) := by
  cases h with
  | non => exact kit_ty (show kitB "NoneType" "int" = some false by decide +kernel)
  | bl b => exact kit_ty (show kitB "bool" "int" = some true by decide +kernel)
  | int i => exact kit_ty (show kitB "int" "int" = some true by decide +kernel)
  | str x => exact kit_ty (show kitB "str" "int" = some false by decide +kernel)
  | lst h k => exact kit_ty (show kitB "list" "int" = some false by decide +kernel)
  | tup h k => exact kit_ty (show kitB "tuple" "int" = some false by decide +kernel)
theorem kit_bool {K : PySem.W.Frag} {H : Hp} {v : V} {d : PyData} (h : Dp K H v d) : PySem.W.kitOne K (.type (tyS d)) (.type "bool") = some (isBool d) := by
  cases h with
  | non => exact kit_ty (show kitB "NoneType" "bool" = some false by decide +kernel)
  | bl b => exact kit_ty (show kitB "bool" "bool" = some true by decide +kernel)
  | int i => exact kit_ty (show kitB "int" "bool" = some false by decide +kernel)
  | str x => exact kit_ty (show kitB "str" "bool" = some false by decide +kernel)
  | lst h k => exact kit_ty (show kitB "list" "bool" = some false by decide +kernel)
  | tup h k => exact kit_ty (show kitB "tuple" "bool" = some false by decide +kernel)
theorem kit_tup {K : PySem.W.Frag} {H : Hp} {v : V} {d : PyData} (h : Dp K H v d) : PySem.W.kitOne K (.type (tyS d)) (.type "tuple") = some (isTup d) := by
  cases h with
  | non => exact kit_ty (show kitB "NoneType" "tuple" = some false by decide +kernel)
  | bl b => exact kit_ty (show kitB "bool" "tuple" = some false by decide +kernel)
  | int i => exact kit_ty (show kitB "int" "tuple" = some false by decide +kernel)
  | str x => exact kit_ty (show kitB "str" "tuple" = some false by decide +kernel)
  | lst h k => exact kit_ty (show kitB "list" "tuple" = some false by decide +kernel)
  | tup h k => exact kit_ty (show kitB "tuple" "tuple" = some true by decide +kernel)
/-- isinstance(x, int | bool | tuple) of data -/
theorem is_int {K : PySem.W.Frag} {H : Hp} {v : V} {d : PyData} {Q : Bool → Prop} (h : Dp K H v d) (q : Q (isInt d || isBool d)) : ∃ x c t u b, [v, .ty "int"] = [x, c] ∧ ClsV c u ∧ TyX K H x t ∧ PySem.W.kitOne K t u = some b ∧ Q b := ⟨_, _, _, _, _, rfl, .ty _, ty_dp h, kit_int h, q⟩
theorem is_bool {K : PySem.W.Frag} {H : Hp} {v : V} {d : PyData} {Q : Bool → Prop} (h : Dp K H v d) (q : Q (isBool d)) : ∃ x c t u b, [v, .ty "bool"] = [x, c] ∧ ClsV c u ∧ TyX K H x t ∧ PySem.W.kitOne K t u = some b ∧ Q b := ⟨_, _, _, _, _, rfl, .ty _, ty_dp h, kit_bool h, q⟩
theorem is_tup {K : PySem.W.Frag} {H : Hp} {v : V} {d : PyData} {Q : Bool → Prop} (h : Dp K H v d) (q : Q (isTup d)) : ∃ x c t u b, [v, .ty "tuple"] = [x, c] ∧ ClsV c u ∧ TyX K H x t ∧ PySem.W.kitOne K t u = some b ∧ Q b := ⟨_, _, _, _, _, rfl, .ty _, ty_dp h, kit_tup h, q⟩
def sp_is_whole (K : PySem.W.Frag) : Sp := fun vs H Q _ => ∃ v d, vs = [v] ∧ Dp K H v d ∧ Q (.bl (isInt d)) H
abbrev sp_l_whole := sp_is_whole
/-- a tuple of three ints -/
def blkOf : PyData → Option (Int × Int × Int)
  | .tuple [.int p, .int w, .int u] => some (p, w, u)
  | _ => none
/-- a block that begins at a place -/
def okB (b : Int × Int × Int) (a : Int) : Bool := decide (b.1 = a ∧ 1 ≤ b.2.1 ∧ (b.2.2 = 0 ∨ b.2.2 = 1) ∧ (b.2.2 = 0 ∨ 2 ≤ b.2.1 ∧ b.2.1 ≤ 8))
def isBlockD (d : PyData) (a : Int) : Bool := match blkOf d with
  | none => false
  | some b => okB b a
def soundL (z : Int) : Int → Bool → List PyData → Bool
  | at', _, [] => decide (at' = z)
  | at', fr, d :: r => match blkOf d with
    | none => false
    | some b => okB b at' && (!(fr && decide (b.2.2 = 0)) && soundL z (at' + b.2.1) (decide (b.2.2 = 0)) r)
def isSoundD (d : PyData) (z : Int) : Bool := match d with
  | .tuple ds => soundL z 0 false ds
  | _ => false
def sp_is_block (K : PySem.W.Frag) : Sp := fun vs H Q _ => ∃ v d a, vs = [v, .int a] ∧ Dp K H v d ∧ ∀ H', Same H H' → Q (.bl (isBlockD d a)) H'
def sp_is_sound (K : PySem.W.Frag) : Sp := fun vs H Q _ => ∃ v d z, vs = [v, .int z] ∧ Dp K H v d ∧ ∀ H', Same H H' → Q (.bl (isSoundD d z)) H'
def sp_l_sound (K : PySem.W.Frag) : Sp := fun vs H Q _ => ∃ v ds z, vs = [v, .int z] ∧ Dp K H v (.tuple ds) ∧ ∀ H', Same H H' → Q (.bl (soundL z 0 false ds)) H'
theorem blk_some {d : PyData} {b : Int × Int × Int} (h : blkOf d = some b) : d = .tuple [.int b.1, .int b.2.1, .int b.2.2] := by
  unfold blkOf at h
  split at h
  · cases h
    rfl
  · cases h
/-- three items, all whole: just the tuples of three ints -/
theorem blk_three {ds : List PyData} (h3 : ds.length = 3) : (ds.map isInt).all id = (blkOf (.tuple ds)).isSome := by
  match ds, h3 with
  | [a, b, c], _ => cases a <;> cases b <;> cases c <;> rfl
theorem blk_not3 {ds : List PyData} (h3 : ds.length ≠ 3) : blkOf (.tuple ds) = none := by
  cases e : blkOf (.tuple ds) with
  | none => rfl
  | some b =>
    have h := blk_some e
    have h2 := PyData.tuple.inj h
    rw [h2] at h3
    exact absurd rfl h3
/-! ### the hall's blocks are sound -/
theorem sound_blocks (z : Int) : ∀ (m : Mem) (a : Int) (fr : Bool), Lay z a m → (fr = true → ∃ x r, m = x :: r ∧ x.1 = a) → soundL z a fr ((blocksF z a m).map pdBlock) = true
  | [], a, fr, h, hf => by
    have hfr : fr = false := by
      cases fr with
      | false => rfl
      | true =>
        obtain ⟨x, r, e, _⟩ := hf rfl
        cases e
    subst hfr
    rw [blocksF_nil]
    have h' : a ≤ z := h
    split
    · show (okB (a, z - a, 0) a && (!(false && decide ((0 : Int) = 0)) && decide (a + (z - a) = z))) = true
      have e1 : okB (a, z - a, 0) a = true := decide_eq_true ⟨rfl, by show 1 ≤ z - a; omega, .inl rfl, .inl rfl⟩
      rw [e1, decide_eq_true (show a + (z - a) = z by omega)]
      rfl
    · exact decide_eq_true (by omega)
  | x :: r, a, fr, h, hf => by
    obtain ⟨h1, h6, hr⟩ := h
    have used : ∀ f2 : Bool, soundL z x.1 f2 ((x.1, wd x.2, 1) :: blocksF z (x.1 + wd x.2) r |>.map pdBlock) = true := fun f2 => by
      have ih := sound_blocks z r (x.1 + wd x.2) false hr (fun e => by cases e)
      show (okB (x.1, wd x.2, 1) x.1 && (!(f2 && decide ((1 : Int) = 0)) && soundL z (x.1 + wd x.2) (decide ((1 : Int) = 0)) ((blocksF z (x.1 + wd x.2) r).map pdBlock))) = true
      have e1 : okB (x.1, wd x.2, 1) x.1 = true := by
        refine decide_eq_true ⟨rfl, ?_, .inr rfl, .inr ⟨?_, ?_⟩⟩
        · have := wd_pos x.2
          show 1 ≤ wd x.2
          omega
        · exact wd_pos x.2
        · show wd x.2 ≤ 8
          unfold wd
          omega
      have e2 : decide ((1 : Int) = 0) = false := by decide
      rw [e1, e2, ih, Bool.and_false]
      rfl
    rw [blocksF_cons]
    by_cases c : a < x.1
    · rw [if_pos c]
      have hfr : fr = false := by
        cases fr with
        | false => rfl
        | true =>
          obtain ⟨y, r', e, e2⟩ := hf rfl
          cases e
          omega
      subst hfr
      show (okB (a, x.1 - a, 0) a && (!(false && decide ((0 : Int) = 0)) && soundL z (a + (x.1 - a)) (decide ((0 : Int) = 0)) (((x.1, wd x.2, 1) :: blocksF z (x.1 + wd x.2) r).map pdBlock))) = true
      have e1 : okB (a, x.1 - a, 0) a = true := decide_eq_true ⟨rfl, by show 1 ≤ x.1 - a; omega, .inl rfl, .inl rfl⟩
      rw [e1, show a + (x.1 - a) = x.1 by omega, used]
      rfl
    · rw [if_neg c, List.nil_append, show a = x.1 by omega]
      exact used fr
theorem sound_hall {s : St} (h : Lay s.size 0 s.mem) : soundL s.size 0 false ((blocksS s).map pdBlock) = true := sound_blocks _ _ _ _ h (fun e => by cases e)
/-! ### the used blocks -/
def usedB (b : Int × Int × Int) : Bool := decide (b.2.2 = 1)
theorem used_blocks (z : Int) : ∀ (m : Mem) (a : Int), (blocksF z a m).filter usedB = m.map fun x => (x.1, wd x.2, (1 : Int))
  | [], a => by
    rw [blocksF_nil]
    split <;> rfl
  | x :: r, a => by
    have ih := used_blocks z r (x.1 + wd x.2)
    have e : ((x.1, wd x.2, (1 : Int)) :: blocksF z (x.1 + wd x.2) r).filter usedB = (x.1, wd x.2, 1) :: r.map fun x => (x.1, wd x.2, (1 : Int)) := by
      rw [List.filter_cons, if_pos (by rfl), ih]
    rw [blocksF_cons, List.filter_append, e]
    split <;> rfl
theorem used_hall (s : St) : (blocksS s).filter usedB = s.mem.map fun x => (x.1, wd x.2, (1 : Int)) := used_blocks _ _ _
/-- l_hands: what hands hold stands among the blocks; alike just at the same place -/
def sp_l_hands (K : PySem.W.Frag) : Sp := fun vs H Q _ => ∃ F h s L b, vs = [.ref h, .ref b] ∧ HallAt K F H h s ∧ G.Inv s L ∧ s.mem.length ≤ 1000 ∧ Tp (outF F H) (.ref b) (pdBlocks (blocksS s)) ∧ ∀ H', Same H H' → Q (.bl true) H'
theorem held_block {s : St} {p : Int} {t : Th} (g : get s.mem p = some t) : (p, wd t, (1 : Int)) ∈ blocksS s := by
  have h1 : (p, wd t, (1 : Int)) ∈ (blocksS s).filter usedB := by
    rw [used_hall]
    exact List.mem_map.mpr ⟨(p, t), get_mem g, rfl⟩
  exact (List.mem_filter.mp h1).1
end G

/-! Comprehensions: over a tuple, a list, a range; each item gives at most one value. -/
namespace G
open L2 PySem PyProof.Rows PySem.Spec
/-- what a step of a comprehension is asked: KK of the value, Qn when the item is left out -/
def LcStep (g : TG) (tt : TT) (te : TE) (vs : List Nat) (σ : L2.St) (x : V) (r : Option V) (H' : Hp) : Prop :=
  ∀ (KK : VK) (Qn : Hp → Prop), (r = none → ∀ H3, Same H' H3 → Qn H3) → (∀ y, r = some y → ∀ H4, Same H' H4 → KK y H4) →
    g x (wipe σ vs) H' fun σ2 H2 => wipe σ2 vs = wipe σ vs ∧ tt σ2 H2 fun b H3 => if b = true then te σ2 H3 KK else Qn H3
section
variable {α : Type} {K : PySem.W.Frag} {a : Addr} {xs : List V} {g : TG} {tt : TT} {te : TE} {vs : List Nat} {σ : L2.St} {H1 : Hp} {D : Addr} {Qd : Hp → Prop}
theorem fm_take {ds : List α} {f : α → Option V} {i : Nat} {d : α} (h : ds[i]? = some d) : (ds.take (i + 1)).filterMap f = (ds.take i).filterMap f ++ (f d).toList := by
  rw [List.take_add_one, h, List.filterMap_append]
  cases e : f d <;> simp [e]
/-- the step of all of them -/
theorem lc_step {ds : List α} {f : α → Option V} (h1000 : ds.length ≤ 1000) (hD : H1 D = none) {i : Nat} {d : α} {x : V} {H' : Hp} (hd : ds[i]? = some d) (e : Same H1 H') (hacc : H' D = some (.lst ((ds.take i).filterMap f)))
    (hs : LcStep g tt te vs σ x (f d) H') : g x (wipe σ vs) H' fun σ2 H2 => wipe σ2 vs = wipe σ vs ∧ tt σ2 H2 fun b H3 =>
      if b = true then te σ2 H3 fun y H4 => ∃ acc, H4 D = some (.lst acc) ∧ acc.length < sizeLine ∧ (fun H => Same H1 H ∧ H D = some (.lst ((ds.take (i + 1)).filterMap f))) (upd H4 D (.lst (acc ++ [y]))) else (fun H => Same H1 H ∧ H D = some (.lst ((ds.take (i + 1)).filterMap f))) H3 := by
  refine hs _ _ (fun hn H3 e3 => ⟨e.trans e3, ?_⟩) (fun y hy H4 e4 => ⟨_, e4 _ _ hacc, lt1000 ?_, ?_, ?_⟩)
  · show H3 D = _
    rw [e3 _ _ hacc, fm_take hd, hn]
    simp
  · have h1 : ((ds.take i).filterMap f).length ≤ (ds.take i).length := List.length_filterMap_le _ _
    rw [List.length_take] at h1
    omega
  · intro b o hb
    rw [upd_ne (ne_of_none hb hD)]
    exact e4 _ _ (e _ _ hb)
  · rw [upd_same, fm_take hd, hy]
    rfl
theorem lcT {ds : List α} {f : α → Option V} (hx : SqT K H1 a xs) (hl : xs.length = ds.length) (h1000 : ds.length ≤ 1000) (hD : H1 D = none)
    (hs : ∀ (i : Nat) (x : V) (d : α) (H' : Hp), xs[i]? = some x → ds[i]? = some d → Same H1 H' → LcStep g tt te vs σ x (f d) H')
    (q : ∀ H', Same H1 H' → H' D = some (.lst (ds.filterMap f)) → Qd H') :
    ∃ W : Nat → Nat → Hp → Prop, (∃ m, W 0 m (upd H1 D (.lst []))) ∧ ∀ i m H, W i m H →
      ((Itt K a).stop i H ∧ Qd H) ∨ ((Itt K a).go i H ∧ ∃ Nx : Hp → Prop, (∀ H', Nx H' → ∃ m', m' < m ∧ W (i + 1) m' H') ∧ ∀ x H', (Itt K a).yld i H x H' → g x (wipe σ vs) H' fun σ2 H2 => wipe σ2 vs = wipe σ vs ∧ tt σ2 H2 fun b H3 =>
        if b = true then te σ2 H3 fun y H4 => ∃ acc, H4 D = some (.lst acc) ∧ acc.length < sizeLine ∧ Nx (upd H4 D (.lst (acc ++ [y]))) else Nx H3) := by
  refine lc_tup (K := K) (a := a) (xs := xs) (fun i H => Same H1 H ∧ H D = some (.lst ((ds.take i).filterMap f))) ⟨same_new hD, by rw [upd_same]; rfl⟩ (fun i H _ w => same_sqT w.1 hx) (fun i x H hi w => ?_) (fun H w => ?_)
  · obtain ⟨d, hd⟩ : ∃ d, ds[i]? = some d := by
      have := (List.getElem?_eq_some_iff.mp hi).1
      exact ⟨ds[i], List.getElem?_eq_getElem (by omega)⟩
    exact lc_step h1000 hD hd w.1 w.2 (hs i x d H hi hd w.1)
  · refine q H w.1 ?_
    rw [w.2, hl, List.take_length]
theorem lcL {ds : List α} {f : α → Option V} (hx : SqL K H1 a xs) (hl : xs.length = ds.length) (h1000 : ds.length ≤ 1000) (hD : H1 D = none)
    (hs : ∀ (i : Nat) (x : V) (d : α) (H' : Hp), xs[i]? = some x → ds[i]? = some d → Same H1 H' → LcStep g tt te vs σ x (f d) H')
    (q : ∀ H', Same H1 H' → H' D = some (.lst (ds.filterMap f)) → Qd H') :
    ∃ W : Nat → Nat → Hp → Prop, (∃ m, W 0 m (upd H1 D (.lst []))) ∧ ∀ i m H, W i m H →
      ((Itl K a).stop i H ∧ Qd H) ∨ ((Itl K a).go i H ∧ ∃ Nx : Hp → Prop, (∀ H', Nx H' → ∃ m', m' < m ∧ W (i + 1) m' H') ∧ ∀ x H', (Itl K a).yld i H x H' → g x (wipe σ vs) H' fun σ2 H2 => wipe σ2 vs = wipe σ vs ∧ tt σ2 H2 fun b H3 =>
        if b = true then te σ2 H3 fun y H4 => ∃ acc, H4 D = some (.lst acc) ∧ acc.length < sizeLine ∧ Nx (upd H4 D (.lst (acc ++ [y]))) else Nx H3) := by
  refine lc_list (K := K) (a := a) (xs := xs) (fun i H => Same H1 H ∧ H D = some (.lst ((ds.take i).filterMap f))) ⟨same_new hD, by rw [upd_same]; rfl⟩ (fun i H _ w => w.1.seq hx) (fun i x H hi w => ?_) (fun H w => ?_)
  · obtain ⟨d, hd⟩ : ∃ d, ds[i]? = some d := by
      have := (List.getElem?_eq_some_iff.mp hi).1
      exact ⟨ds[i], List.getElem?_eq_getElem (by omega)⟩
    exact lc_step h1000 hD hd w.1 w.2 (hs i x d H hi hd w.1)
  · refine q H w.1 ?_
    rw [w.2, hl, List.take_length]
/-- over a range: each item's value stands in a relation that tuples that stay keep -/
theorem lcR {n : Nat} (R : Nat → V → Hp → Prop) (hR : ∀ i v H H', KT H H' → R i v H → R i v H') (h1000 : n ≤ 1000) (hD : H1 D = none)
    (hs : ∀ (i : Nat) (H' : Hp), i < n → Same H1 H' → ∀ (KK : VK) (Qn : Hp → Prop), (∀ v H4, Same H' H4 → R i v H4 → KK v H4) → g (.int (0 + (i : Nat))) (wipe σ vs) H' fun σ2 H2 => wipe σ2 vs = wipe σ vs ∧ tt σ2 H2 fun b H3 => if b = true then te σ2 H3 KK else Qn H3)
    (q : ∀ H' ys, Same H1 H' → H' D = some (.lst ys) → ys.length = n → (∀ i v, ys[i]? = some v → R i v H') → Qd H') :
    ∃ W : Nat → Nat → Hp → Prop, (∃ m, W 0 m (upd H1 D (.lst []))) ∧ ∀ i m H, W i m H →
      ((Itr 0 n).stop i H ∧ Qd H) ∨ ((Itr 0 n).go i H ∧ ∃ Nx : Hp → Prop, (∀ H', Nx H' → ∃ m', m' < m ∧ W (i + 1) m' H') ∧ ∀ x H', (Itr 0 n).yld i H x H' → g x (wipe σ vs) H' fun σ2 H2 => wipe σ2 vs = wipe σ vs ∧ tt σ2 H2 fun b H3 =>
        if b = true then te σ2 H3 fun y H4 => ∃ acc, H4 D = some (.lst acc) ∧ acc.length < sizeLine ∧ Nx (upd H4 D (.lst (acc ++ [y]))) else Nx H3) := by
  refine lc_range (lo := 0) (n := n) (fun i H => Same H1 H ∧ ∃ ys, H D = some (.lst ys) ∧ ys.length = i ∧ i ≤ n ∧ ∀ j v, ys[j]? = some v → R j v H) ⟨same_new hD, [], by rw [upd_same], rfl, Nat.zero_le _, fun j v h => by simp at h⟩ (fun i H hi w => ?_) (fun H w => ?_)
  · obtain ⟨e, ys, hy, hl, hn, hr⟩ := w
    refine hs i H hi e _ _ fun v H4 e4 hv => ?_
    · have k4 : KT H4 (upd H4 D (.lst (ys ++ [v]))) := KT.upd fun z hz => by
        rw [e4 _ _ hy] at hz
        cases hz
      have k0 : KT H (upd H4 D (.lst (ys ++ [v]))) := fun b z hb => k4 _ _ (e4 _ _ hb)
      refine ⟨ys, e4 _ _ hy, lt1000 (by omega), fun b o hb => ?_, ys ++ [v], upd_same, by rw [List.length_append, hl]; rfl, by omega, fun j u hu => ?_⟩
      · rw [upd_ne (ne_of_none hb hD)]
        exact e4 _ _ (e _ _ hb)
      · by_cases c : j < ys.length
        · rw [List.getElem?_append_left c] at hu
          exact hR _ _ _ _ k0 (hr j u hu)
        · have ej : j = ys.length := by
            have := (List.getElem?_eq_some_iff.mp hu).1
            simp at this
            omega
          subst ej
          have e5 : v = u := by simpa using hu
          subst e5
          rw [hl]
          exact hR _ _ _ _ k4 hv
  · obtain ⟨e, ys, hy, hl, hn, hr⟩ := w
    exact q H ys e hy hl hr
end
/-- a test whose then-way comes to the else-way, too -/
theorem ite_join {c : Prop} [Decidable c] {A B : Prop} (h : c → B → A) (b : B) : if c then A else B := by
  by_cases z : c
  · rw [if_pos z]
    exact h z b
  · rw [if_neg z]
    exact b
/-- .. where the else-way is gone only when the test fails -/
theorem ite_join2 {c : Prop} [Decidable c] {A B : Prop} (h : c → B → A) (b : B) : if c then A else B := ite_join h b
theorem dec_V {x y : Int} : decide (V.int x = V.int y) = decide (x = y) := decide_eq_decide.mpr ⟨V.int.inj, fun w => by rw [w]⟩
theorem hu64 {k : Nat} {A : Around} (r : Room k A) : A.units + 64 < cLine := by have := r.un; omega
theorem hu65 {k : Nat} {A : Around} (r : Room k A) : A.units + 65 < cLine := by have := r.un; omega
/-! ### data that can be compared -/
def Sh (n : Nat) (d : PyData) : Prop := d.canLay0 = true ∧ d.depth ≤ n
theorem sh_all {n : Nat} : ∀ {ds : List PyData}, (∀ d ∈ ds, Sh n d) → PyData.canLayAll0 ds = true ∧ PyData.depthAll ds ≤ n
  | [], _ => ⟨rfl, Nat.zero_le _⟩
  | d :: r, h => by
    obtain ⟨h1, h2⟩ := sh_all (ds := r) fun x hx => h x (List.mem_cons_of_mem _ hx)
    obtain ⟨h3, h4⟩ := h d List.mem_cons_self
    refine ⟨?_, ?_⟩
    · simp only [PyData.canLayAll0, h1, h3]
      rfl
    · simp only [PyData.depthAll]
      omega
theorem sh_tup {n : Nat} {ds : List PyData} (h : ∀ d ∈ ds, Sh n d) : Sh (n + 1) (.tuple ds) := by
  obtain ⟨h1, h2⟩ := sh_all h
  refine ⟨?_, ?_⟩
  · simp only [PyData.canLay0]
    exact h1
  · simp only [PyData.depth]
    omega
theorem sh_lst {n : Nat} {ds : List PyData} (h : ∀ d ∈ ds, Sh n d) : Sh (n + 1) (.list ds) := by
  obtain ⟨h1, h2⟩ := sh_all h
  refine ⟨?_, ?_⟩
  · simp only [PyData.canLay0]
    exact h1
  · simp only [PyData.depth]
    omega
theorem sh_int (n : Nat) (i : Int) : Sh n (.int i) := ⟨rfl, Nat.zero_le _⟩
theorem sh_str (n : Nat) {x : Str} (h : (PyData.str x).canLay0 = true := by decide +kernel) : Sh n (.str x) := ⟨h, Nat.zero_le _⟩
theorem sh_non (n : Nat) : Sh n .none := ⟨rfl, Nat.zero_le _⟩
theorem sh_bool (n : Nat) (b : Bool) : Sh n (.bool b) := ⟨rfl, Nat.zero_le _⟩
theorem sh_ok {n : Nat} {d : PyData} (h : Sh n d) (hn : n ≤ 64 := by decide) : SeqAt.shaped d = true := by
  show (d.canLay0 && decide (d.depth ≤ 64)) = true
  rw [h.1, decide_eq_true (Nat.le_trans h.2 hn)]
  rfl
theorem sh_mono {n m : Nat} {d : PyData} (h : Sh n d) (hn : n ≤ m) : Sh m d := ⟨h.1, Nat.le_trans h.2 hn⟩
theorem sh_block (b : Int × Int × Int) : Sh 1 (pdBlock b) := sh_tup fun d hd => by
  simp only [List.mem_cons, List.not_mem_nil, or_false] at hd
  rcases hd with rfl | rfl | rfl <;> exact sh_int _ _
theorem sh_blocks (bs : List (Int × Int × Int)) : Sh 2 (pdBlocks bs) := sh_tup fun d hd => by
  obtain ⟨b, _, rfl⟩ := List.mem_map.mp hd
  exact sh_block b
theorem eqv_self {n : Nat} {d : PyData} (h : Sh n d) : PyData.eqv d d = true := SeqAt.eqv_refl d h.1
theorem tp_tup {H : Hp} {v : V} {ds : List PyData} (h : Tp H v (.tuple ds)) : ∃ a xs, v = .ref a ∧ H a = some (.tup xs) ∧ TpAll H xs ds := by
  cases h with
  | tup h k => exact ⟨_, _, rfl, h, k⟩
theorem tpAll_nil {H : Hp} {vs : List V} (h : TpAll H vs []) : vs = [] := by
  cases h
  rfl
theorem tpAll_cons {H : Hp} {vs : List V} {d : PyData} {ds : List PyData} (h : TpAll H vs (d :: ds)) : ∃ v r, vs = v :: r ∧ Tp H v d ∧ TpAll H r ds := by
  cases h with
  | cons h k => exact ⟨_, _, rfl, h, k⟩
theorem tp_int {H : Hp} {v : V} {i : Int} (h : Tp H v (.int i)) : v = .int i := by
  cases h
  rfl
theorem tp_str {H : Hp} {v : V} {x : Str} (h : Tp H v (.str x)) : v = .str x := by
  cases h
  rfl
theorem tp_pair {F : Addr → Prop} {H : Hp} {v : V} {x : Str} {n : Int} (h : Tp (outF F H) v (.tuple [.str x, .int n])) : ∃ a, v = .ref a ∧ H a = some (.tup [.str x, .int n]) := by
  obtain ⟨a, xs, rfl, ha, k⟩ := tp_tup h
  obtain ⟨v1, r1, rfl, k1, k⟩ := tpAll_cons k
  obtain ⟨v2, r2, rfl, k2, k⟩ := tpAll_cons k
  obtain rfl := tpAll_nil k
  rw [tp_str k1, tp_int k2] at ha
  exact ⟨a, rfl, (outF_some ha).2⟩
theorem tp_same {F : Addr → Prop} {H H' : Hp} {v : V} {d : PyData} (h : Tp (outF F H) v d) (e : Same H H') : Tp (outF F H') v d := Tp.kt (KT.of_same (outF_same e)) d h
/-- tracked data of the outside, as data of the heap -/
theorem tp_dp {K : PySem.W.Frag} {F : Addr → Prop} {H : Hp} {v : V} {d : PyData} (h : Tp (outF F H) v d) : Dp K H v d := dp_same outF_le d (Tp.dp d h)
/-- the used ones among blocks, as values -/
def usedV (x : V × (Int × Int × Int)) : Option V := if usedB x.2 = true then some x.1 else none
theorem usedV_len : ∀ (xs : List V) (bs : List (Int × Int × Int)), xs.length = bs.length → ((xs.zip bs).filterMap usedV).length = (bs.filter usedB).length
  | [], [], _ => rfl
  | x :: xs, b :: bs, h => by
    have ih := usedV_len xs bs (by simpa using h)
    rw [List.zip_cons_cons, List.filterMap_cons, List.filter_cons]
    cases e : usedB b with
    | true =>
      rw [show usedV (x, b) = some x by unfold usedV; rw [if_pos e]]
      simp [ih]
    | false =>
      rw [show usedV (x, b) = none by unfold usedV; rw [if_neg (by rw [e]; decide)]]
      simp [ih]
  | [], _ :: _, h => by cases h
  | _ :: _, [], h => by cases h
/-- an item of tracked blocks -/
theorem tp_block {F : Addr → Prop} {H : Hp} {v : V} {b : Int × Int × Int} (h : Tp (outF F H) v (pdBlock b)) : ∃ a, v = .ref a ∧ outF F H a = some (.tup [.int b.1, .int b.2.1, .int b.2.2]) := by
  obtain ⟨a, xs, rfl, ha, k⟩ := tp_tup h
  obtain ⟨v1, r1, rfl, k1, k⟩ := tpAll_cons k
  obtain ⟨v2, r2, rfl, k2, k⟩ := tpAll_cons k
  obtain ⟨v3, r3, rfl, k3, k⟩ := tpAll_cons k
  obtain rfl := tpAll_nil k
  rw [tp_int k1, tp_int k2, tp_int k3] at ha
  exact ⟨a, rfl, ha⟩
theorem tpAll_val {H : Hp} : ∀ {vs : List V} {ds : List PyData} {i : Nat} {v : V} {d : PyData}, TpAll H vs ds → vs[i]? = some v → ds[i]? = some d → Tp H v d
  | _, _, i, v, d, .nil, h, _ => by simp at h
  | _, _, 0, v, d, .cons (v := v') (d := d') q k, h, h2 => by
    have e : v' = v := by simpa using h
    have e2 : d' = d := by simpa using h2
    subst e e2
    exact q
  | _, _, i + 1, v, d, .cons q k, h, h2 => tpAll_val (i := i) k (by simpa using h) (by simpa using h2)
/-- the acts that stand outside the hall -/
def ActsOut (F : Addr → Prop) (H : Hp) (l : Addr) (as : List Addr) (xs : List Act) : Prop :=
  outF F H l = some (.lst (as.map V.ref)) ∧ as.length = xs.length ∧ ∀ (i : Nat) (x : Act), xs[i]? = some x → ∃ a, as[i]? = some a ∧ outF F H a = some (.tup (actVs x))
theorem ActsOut.same {F F' : Addr → Prop} {H H' : Hp} {l : Addr} {as : List Addr} {xs : List Act} (h : ActsOut F H l as xs) (e : Same (outF F H) (outF F' H')) : ActsOut F' H' l as xs :=
  ⟨e _ _ h.1, h.2.1, fun i x hx => by
    obtain ⟨a, h1, h2⟩ := h.2.2 i x hx
    exact ⟨a, h1, e _ _ h2⟩⟩
theorem ActsOut.mk' {F : Addr → Prop} {H H' : Hp} {l : Addr} {as : List Addr} {xs : List Act} (al : ∀ a, F a → ∃ o, H a = some o) (nl : H l = none) (hl : H' l = some (.lst (as.map V.ref))) (hA : ActsAt H H' as xs) : ActsOut F H' l as xs :=
  ⟨by rw [outF_eq (not_F al nl)]; exact hl, hA.1, fun i x hx => by
    obtain ⟨a, h1, h2, h3⟩ := hA.2 i x hx
    exact ⟨a, h1, by rw [outF_eq (not_F al h2)]; exact h3⟩⟩
theorem ActsOut.item {F : Addr → Prop} {H : Hp} {l : Addr} {as : List Addr} {xs : List Act} {i : Nat} {y : V} (h : ActsOut F H l as xs) (hy : (as.map V.ref)[i]? = some y) : ∃ x a, xs[i]? = some x ∧ y = .ref a ∧ outF F H a = some (.tup (actVs x)) := by
  rw [List.getElem?_map] at hy
  obtain ⟨a, ha, rfl⟩ := Option.map_eq_some_iff.mp hy
  have hi : i < xs.length := by
    rw [← h.2.1]
    exact (List.getElem?_eq_some_iff.mp ha).1
  obtain ⟨b, h1, h2⟩ := h.2.2 i xs[i] (List.getElem?_eq_getElem hi)
  rw [ha] at h1
  cases h1
  exact ⟨_, a, List.getElem?_eq_getElem hi, rfl, h2⟩
theorem ActsOut.sq {K : PySem.W.Frag} {F : Addr → Prop} {H : Hp} {l : Addr} {as : List Addr} {xs : List Act} (h : ActsOut F H l as xs) : SqL K H l (as.map V.ref) := .inl (.inl (outF_some h.1).2)
theorem blocks_len (z : Int) : ∀ (m : Mem) (a : Int), (blocksF z a m).length ≤ 2 * m.length + 1
  | [], a => by
    rw [blocksF_nil]
    split <;> simp
  | x :: r, a => by
    have ih := blocks_len z r (x.1 + wd x.2)
    rw [blocksF_cons, List.length_append, List.length_cons, List.length_cons]
    split <;> simp <;> omega
theorem blocksS_len (s : St) : (blocksS s).length ≤ 2 * s.mem.length + 1 := blocks_len _ _ _
end G

/-! Shapes: what a hand comes to, as data. -/
namespace G
open L2 PySem PyProof.Rows PySem.Spec
/-- a value's pair, things told by an order -/
def cellD (o : List Int) : Vl → PyData
  | .num n => .tuple [.str "number", .int n]
  | .held q => .tuple [.str "thing", .int (ixOf q o : Nat)]
def rowD (o : List Int) (vs : List Vl) : PyData := .tuple (vs.map (cellD o))
/-- the shape of a value -/
def shapeD (fd : Int → List Vl) : Vl → PyData
  | .num n => .tuple [.str "number", .int n]
  | .held p => .tuple ((ordF fd 1000 0 [p]).map fun x => rowD (ordF fd 1000 0 [p]) (fd x))
def shapeS (s : St) (i : Nat) : PyData := shapeD (fieldsS s) (hand s i)
def sp_Hall_told_fields (K : PySem.W.Frag) : Sp := fun vs H Q _ => ∃ F ρ s p t o ord, vs = [.ref (ρ .hall), .int p, .ref o] ∧ HallR K F H ρ s ∧ Lay s.size 0 s.mem ∧ get s.mem p = some t ∧ Dom s.mem t.fs ∧ ¬ F o ∧ H o = some (.lst (ord.map V.int)) ∧ ord.length ≤ 1000 ∧
  ∀ v H', (∀ b u, H b = some u → b ≠ o → H' b = some u) → H' o = some (.lst ((addNew ord t.fs).map V.int)) → Tp (outF F H') v (rowD (addNew ord t.fs) t.fs) → Q v H'
def sp_Hall_shape_of (K : PySem.W.Frag) : Sp := fun vs H Q _ => ∃ F h s L, ∃ i : Nat, vs = [.ref h, .int i] ∧ HallAt K F H h s ∧ G.Inv s L ∧ i < 8 ∧ s.mem.length ≤ 200 ∧ ∀ v H', Same H H' → Tp (outF F H') v (shapeS s i) → Q v H'
theorem sh_cell (o : List Int) (v : Vl) : Sh 1 (cellD o v) := by
  cases v with
  | num n =>
    exact sh_tup fun d hd => by
      simp only [List.mem_cons, List.not_mem_nil, or_false] at hd
      rcases hd with rfl | rfl
      · exact sh_str _
      · exact sh_int _ _
  | held q =>
    exact sh_tup fun d hd => by
      simp only [List.mem_cons, List.not_mem_nil, or_false] at hd
      rcases hd with rfl | rfl
      · exact sh_str _
      · exact sh_int _ _
theorem sh_row (o : List Int) (vs : List Vl) : Sh 2 (rowD o vs) := sh_tup fun d hd => by
  obtain ⟨v, _, rfl⟩ := List.mem_map.mp hd
  exact sh_cell o v
theorem sh_shape (fd : Int → List Vl) (v : Vl) : Sh 3 (shapeD fd v) := by
  cases v with
  | num n => exact sh_mono (sh_cell [] (.num n)) (by decide)
  | held p =>
    exact sh_tup fun d hd => by
      obtain ⟨x, _, rfl⟩ := List.mem_map.mp hd
      exact sh_row _ _
/-- an order that grows keeps what it told -/
theorem rowD_pre {o o' : List Int} {vs : List Vl} (h : o <+: o') (hv : ∀ q, .held q ∈ vs → q ∈ o) : rowD o vs = rowD o' vs := by
  unfold rowD
  refine congrArg PyData.tuple (List.map_congr_left fun v hv' => ?_)
  cases v with
  | num n => rfl
  | held q =>
    show PyData.tuple [.str "thing", .int (ixOf q o : Nat)] = PyData.tuple [.str "thing", .int (ixOf q o' : Nat)]
    rw [ixOf_pre h (hv q hv')]
/-- shapes go with places that are told otherwise -/
theorem cellD_map {f : Int → Int} {D : Int → Prop} (inj : ∀ a b, D a → D b → f a = f b → a = b) {o : List Int} (ho : ∀ x ∈ o, D x) {v : Vl} (hv : ∀ q, v = .held q → D q) : cellD (o.map f) (mvf f v) = cellD o v := by
  cases v with
  | num n => rfl
  | held q =>
    show PyData.tuple [.str "thing", .int (ixOf (f q) (o.map f) : Nat)] = PyData.tuple [.str "thing", .int (ixOf q o : Nat)]
    rw [ixOf_map inj ho (hv q rfl)]
theorem shapeD_map {f : Int → Int} {D : Int → Prop} {fd gd : Int → List Vl} (M : Moves f D fd gd) {v : Vl} (hv : ∀ q, v = .held q → D q) : shapeD gd (mvf f v) = shapeD fd v := by
  cases v with
  | num n => rfl
  | held p =>
    have hp : ∀ x ∈ [p], D x := fun x hx => by
      obtain rfl := List.mem_singleton.mp hx
      exact hv _ rfl
    have ho : ordF gd 1000 0 [f p] = (ordF fd 1000 0 [p]).map f := ordF_map M 1000 0 (o := [p]) hp
    have hD := ordF_D M.cl 1000 0 hp
    show PyData.tuple ((ordF gd 1000 0 [f p]).map fun x => rowD (ordF gd 1000 0 [f p]) (gd x)) = PyData.tuple ((ordF fd 1000 0 [p]).map fun x => rowD (ordF fd 1000 0 [p]) (fd x))
    rw [ho, List.map_map]
    refine congrArg PyData.tuple (List.map_congr_left fun x hx => ?_)
    show rowD _ (gd (f x)) = _
    rw [M.go x (hD x hx)]
    unfold rowD
    rw [List.map_map]
    refine congrArg PyData.tuple (List.map_congr_left fun v hv => ?_)
    exact cellD_map M.inj hD fun q e => M.cl x q (hD x hx) (e ▸ hv)
/-! ### lists of places -/
theorem flat_ints (ns : List Int) : (ns.map V.int).all flatV = true := by
  rw [List.all_map]
  exact List.all_eq_true.mpr fun _ _ => rfl
theorem in_ints (q : Int) (ns : List Int) : inV (V.int q) (ns.map V.int) = decide (q ∈ ns) := by
  unfold inV
  rw [List.any_map]
  induction ns with
  | nil => rfl
  | cons n r ih =>
    rw [List.any_cons, ih]
    show ((n == q) || decide (q ∈ r)) = _
    by_cases c : n = q
    · subst c; simp
    · rw [beq_eq_false_iff_ne.mpr c, Bool.false_or]
      exact decide_eq_decide.mpr ⟨List.mem_cons_of_mem _, fun h => (List.mem_cons.mp h).resolve_left fun e => c e.symm⟩
theorem rd_index {K : PySem.W.Frag} {H : Hp} {o : Addr} {q : Int} {ns : List Int} {Q : Nat → Prop} (h : SqL K H o (ns.map V.int)) (hq : q ∈ ns) (k : Q (ixOf q ns)) :
    ∃ (a : Addr) (ys : List V) (y : V) (j : Nat) (z : V), V.ref o = V.ref a ∧ [V.int q] = [y] ∧ SqL K H a ys ∧ flatV y = true ∧ ys.all flatV = true ∧ ys[j]? = some z ∧ eqV z y = true ∧
      (∀ (m : Nat) (z' : V), m < j → ys[m]? = some z' → eqV z' y = false) ∧ Q j := by
  refine ⟨o, _, _, ixOf q ns, .int q, rfl, rfl, h, rfl, flat_ints ns, by rw [List.getElem?_map, ixOf_get hq]; rfl, by show (q == q) = true; simp, fun m z hm hz => ?_, k⟩
  rw [List.getElem?_map] at hz
  obtain ⟨x, hx, rfl⟩ := Option.map_eq_some_iff.mp hz
  exact beq_eq_false_iff_ne.mpr fun e => ixOf_first hm (by rw [hx, e])
theorem addV_len (o : List Int) (v : Vl) : (addV o v).length ≤ o.length + 1 := by
  cases v with
  | num n => show o.length ≤ _; omega
  | held q =>
    rw [addV_held]
    split
    · omega
    · rw [List.length_append]; exact Nat.le_refl _
theorem addNew_len : ∀ (vs : List Vl) (o : List Int), (addNew o vs).length ≤ o.length + vs.length
  | [], o => Nat.le_refl _
  | v :: r, o => by
    have h1 := addNew_len r (addV o v)
    have h2 := addV_len o v
    rw [addNew_cons, List.length_cons]
    omega
theorem addNew_snoc (o : List Int) (vs : List Vl) (v : Vl) : addNew o (vs ++ [v]) = addV (addNew o vs) v := by
  unfold addNew
  rw [List.foldl_append]
  rfl
theorem cells_pre {o o' : List Int} {vs : List Vl} (h : o <+: o') (hv : ∀ q, .held q ∈ vs → q ∈ o) : vs.map (cellD o) = vs.map (cellD o') := PyData.tuple.inj (rowD_pre h hv)
theorem VlAt.apart {K : PySem.W.Frag} {F : Addr → Prop} {H H' : Hp} {v : V} {x : Vl} (h : VlAt K F H v x) (e : ∀ a, F a → H' a = H a) : VlAt K F H' v x := by
  cases x with
  | num n => exact h
  | held p =>
    obtain ⟨a, dx, g1, g2, g3⟩ := h
    exact ⟨a, dx, g1, g2, by rw [e a g2]; exact g3⟩
end G

/-! Two halls side by side; what is shown of a hall; enumerate. -/
namespace G
open L2 PySem PyProof.Rows PySem.Spec
/-- for k, x in enumerate(l), l left as it is -/
theorem for_enumL {K : PySem.W.Frag} {a : Addr} {ys : List V} {g : TG} {tb : TS} {D : Ends} {σ : L2.St} {H : Hp} (Pw : Nat → L2.St → Hp → Prop) (start0 : Pw 0 σ H) (sq : ∀ i σ H, i ≤ ys.length → Pw i σ H → SqL K H a ys)
    (step : ∀ i y σ H T, ys[i]? = some y → Pw i σ H → H T = none → g (.ref T) σ (upd H T (.tup [.int (i : Nat), y])) fun σ2 H2 => tb { D with nx := Pw (i + 1), ct := Pw (i + 1), bk := D.nx } σ2 H2) (fin : ∀ σ H, Pw ys.length σ H → D.nx σ H) :
    ∃ W : Nat → Nat → L2.St → Hp → Prop, (∃ m, W 0 m σ H) ∧ ∀ i m σ H, W i m σ H →
      ((Ite K a).stop i H ∧ D.nx σ H) ∨ ((Ite K a).go i H ∧ ∃ N : L2.St → Hp → Prop, (∀ σ' H', N σ' H' → ∃ m', m' < m ∧ W (i + 1) m' σ' H') ∧ ∀ x H', (Ite K a).yld i H x H' → g x σ H' fun σ2 H2 => tb { D with nx := N, ct := N, bk := D.nx } σ2 H2) := by
  refine ⟨fun i r σ H => r + i = ys.length ∧ Pw i σ H, ⟨ys.length, rfl, start0⟩, ?_⟩
  rintro i r σ H ⟨hr, pw⟩
  have hq := sq i σ H (by omega) pw
  by_cases lt : i < ys.length
  · refine .inr ⟨⟨ys, ys[i], hq, List.getElem?_eq_getElem lt⟩, Pw (i + 1), fun σ' H' w => ⟨r - 1, by omega, by omega, w⟩, ?_⟩
    rintro x H' ⟨T, y, rfl, hT, rfl, hy⟩
    exact step i y σ H T (hy ys hq) pw hT
  · obtain rfl : i = ys.length := by omega
    exact .inl ⟨⟨ys, hq, Nat.le_refl _⟩, fin σ H pw⟩
/-! ### two halls -/
theorem kp_out {F1 F1' F2 : Addr → Prop} {H H' : Hp} (k : Kp F1 H F1' H') {a : Addr} {o : HO} (h1 : outF F1 H a = some o) (h2 : outF F2 H a = some o) : outF F2 H' a = some o := by
  obtain ⟨n1, e1⟩ := outF_some h1
  obtain ⟨n2, _⟩ := outF_some h2
  rw [outF_eq n2]
  exact (k a o e1 n1).1
theorem ActsOut.other {F1 F1' F2 : Addr → Prop} {H H' : Hp} {l : Addr} {as : List Addr} {xs : List Act} (h1 : ActsOut F1 H l as xs) (h2 : ActsOut F2 H l as xs) (k : Kp F1 H F1' H') : ActsOut F2 H' l as xs :=
  ⟨kp_out k h1.1 h2.1, h2.2.1, fun i x hx => by
    obtain ⟨a, e1, k1⟩ := h1.2.2 i x hx
    obtain ⟨b, e2, k2⟩ := h2.2.2 i x hx
    rw [e1] at e2
    cases e2
    exact ⟨a, e1, kp_out k k1 k2⟩⟩
theorem HallAt.apart {K : PySem.W.Frag} {F1 F1' F2 : Addr → Prop} {H H' : Hp} {h : Addr} {s : St} (R : HallAt K F2 H h s) (k : Kp F1 H F1' H') (d : ∀ a, F2 a → ¬ F1 a) : HallAt K F2 H' h s ∧ ∀ a, F2 a → ¬ F1' a := by
  obtain ⟨ρ, e, R⟩ := R
  obtain ⟨R', d'⟩ := R.apart k d
  exact ⟨⟨ρ, e, R'⟩, d'⟩
theorem HallAt.same {K : PySem.W.Frag} {F : Addr → Prop} {H H' : Hp} {h : Addr} {s : St} (R : HallAt K F H h s) (e : Same H H') : HallAt K F H' h s := by
  obtain ⟨ρ, e1, R⟩ := R
  exact ⟨ρ, e1, R.same e⟩
/-- hall.m(..) -/
theorem m_hallA {K : PySem.W.Frag} {F : Addr → Prop} {H : Hp} {h : Addr} {s : St} (R : HallAt K F H h s) {m : Str} {q : Prop} (k : q) (h1 : (m == "memory") = false := by decide +kernel) (h2 : (m == "hands") = false := by decide +kernel) (h3 : (m == "sweeper") = false := by decide +kernel) :
    ∃ a' dx' fs', (V.ref h) = .ref a' ∧ H a' = some (.ins (cHall K) dx' fs') ∧ fs'.lookup m = none ∧ q := by
  obtain ⟨ρ, rfl, R⟩ := R
  exact m_hall R k h1 h2 h3
/-! ### what is shown of a hall -/
def fingerD (s : St) : PyData := if s.ph = .sweep then .int s.fin else .none
def shapesD (s : St) : PyData := .list ((List.range 8).map (shapeS s))
def shownD (s : St) : PyData := .tuple [shapesD s, pdBlocks (blocksS s), .str (phS s.ph), coloursD s, fingerD s]
theorem dp_finger {K : PySem.W.Frag} {H : Hp} (s : St) : Dp K H (fingerV s) (fingerD s) := by
  unfold fingerV fingerD
  split
  · exact .int _
  · exact .non
theorem sh_colours (s : St) : Sh 1 (coloursD s) := sh_tup fun d hd => by
  obtain ⟨x, _, rfl⟩ := List.mem_map.mp hd
  cases x.2.col <;> exact sh_str _
theorem sh_finger (s : St) : Sh 0 (fingerD s) := by
  unfold fingerD
  split
  · exact sh_int _ _
  · exact sh_non _
theorem sh_phase (p : Ph) : Sh 0 (.str (phS p)) := by
  cases p <;> exact sh_str _
theorem sh_shapes (s : St) : Sh 4 (shapesD s) := sh_lst fun d hd => by
  obtain ⟨i, _, rfl⟩ := List.mem_map.mp hd
  exact sh_shape _ _
theorem sh_shown (s : St) : Sh 5 (shownD s) := sh_tup fun d hd => by
  simp only [List.mem_cons, List.not_mem_nil, or_false] at hd
  rcases hd with rfl | rfl | rfl | rfl | rfl
  · exact sh_shapes s
  · exact sh_mono (sh_blocks _) (by decide)
  · exact sh_mono (sh_phase _) (by decide)
  · exact sh_mono (sh_colours s) (by decide)
  · exact sh_mono (sh_finger s) (by decide)
def sp_l_shown (K : PySem.W.Frag) : Sp := fun vs H Q _ => ∃ F h s L, vs = [.ref h] ∧ HallAt K F H h s ∧ G.Inv s L ∧ s.mem.length ≤ 200 ∧ ∀ v H', Same H H' → Dp K (outF F H') v (shownD s) → Q v H'
def sp_l_by_parts (K : PySem.W.Frag) : Sp := fun vs H Q _ => ∃ F h s L, ∃ (n : Nat) (c : Int), vs = [.ref h, .int n, .int c] ∧ HallAt K F H h s ∧ G.Inv s L ∧ n ≤ 100 ∧ ∀ H', Kp F H F H' → HallAt K F H' h (stepN n s).2 → Q (.int (stepN n s).1) H'
/-- a list of tracked data -/
theorem dp_items {K : PySem.W.Frag} {F : Addr → Prop} {H : Hp} {f : Nat → PyData} : ∀ {n : Nat} {ys : List V}, ys.length = n → (∀ (i : Nat) (v : V), ys[i]? = some v → Tp (outF F H) v (f i)) → DpAll K H ys ((List.range n).map f) := by
  intro n
  induction n with
  | zero =>
    intro ys hl _
    rw [List.eq_nil_of_length_eq_zero hl]
    exact .nil
  | succ n ih =>
    intro ys hl hv
    rcases List.eq_nil_or_concat ys with rfl | ⟨zs, z, rfl⟩
    · cases hl
    rw [List.concat_eq_append] at *
    have hz : zs.length = n := by simpa using hl
    rw [List.range_succ, List.map_append]
    refine dpAll_snoc (ih hz fun i v h => hv i v ?_) ?_
    · rw [List.getElem?_append_left (List.getElem?_eq_some_iff.mp h).1]
      exact h
    · refine tp_dp (hv n z ?_)
      rw [← hz]
      simp
/-- tracked items outside, as data of the outside -/
theorem dp_itemsO {K : PySem.W.Frag} {F : Addr → Prop} {H : Hp} {f : Nat → PyData} : ∀ {n : Nat} {ys : List V}, ys.length = n → (∀ (i : Nat) (v : V), ys[i]? = some v → Tp (outF F H) v (f i)) → DpAll K (outF F H) ys ((List.range n).map f) := by
  intro n
  induction n with
  | zero =>
    intro ys hl _
    rw [List.eq_nil_of_length_eq_zero hl]
    exact .nil
  | succ n ih =>
    intro ys hl hv
    rcases List.eq_nil_or_concat ys with rfl | ⟨zs, z, rfl⟩
    · cases hl
    rw [List.concat_eq_append] at *
    have hz : zs.length = n := by simpa using hl
    rw [List.range_succ, List.map_append]
    refine dpAll_snoc (ih hz fun i v h => hv i v ?_) ?_
    · rw [List.getElem?_append_left (List.getElem?_eq_some_iff.mp h).1]
      exact h
    · refine Tp.dp _ (hv n z ?_)
      rw [← hz]
      simp
theorem told_scal (t : Told) : scal (toldV t) (toldV t) = true := by
  cases t <;> rfl
theorem HallAt.outside {K : PySem.W.Frag} {F : Addr → Prop} {H H' : Hp} {h : Addr} {s : St} (R : HallAt K F H h s) (e : ∀ a, F a → H' a = H a) : HallAt K F H' h s := by
  obtain ⟨ρ, e1, R⟩ := R
  exact ⟨ρ, e1, R.outside e⟩
theorem HallAt.not_F {K : PySem.W.Frag} {F : Addr → Prop} {H : Hp} {h : Addr} {s : St} (R : HallAt K F H h s) {a : Addr} (ha : H a = none) : ¬ F a := by
  obtain ⟨ρ, e1, R⟩ := R
  exact G.not_F R.al ha
/-- steps of one part, told one by one in a list at D -/
def StepsAt (K : PySem.W.Frag) (F : Addr → Prop) (H : Hp) (h D : Addr) (s : St) (i : Nat) (H' : Hp) : Prop :=
  Kp F H F H' ∧ HallAt K F H' h (stepN i s).2 ∧ ∃ ns : List Int, H' D = some (.lst (ns.map V.int)) ∧ ns.length = i ∧ ns.sum = ((stepN i s).1 : Int)
theorem StepsAt.start {K : PySem.W.Frag} {F : Addr → Prop} {H : Hp} {h D : Addr} {s : St} (R : HallAt K F H h s) (hD : H D = none) : StepsAt K F H h D s 0 (upd H D (.lst [])) :=
  ⟨Kp.same (same_new hD), R.same (same_new hD), [], by rw [upd_same]; rfl, rfl, rfl⟩
theorem StepsAt.next {K : PySem.W.Frag} {F : Addr → Prop} {H H1 H2 : Hp} {h D : Addr} {s : St} {L : Int → Prop} {i : Nat} (w : StepsAt K F H h D s i H1) (iv : G.Inv s L) (hD : H D = none) (nD : ¬ F D) (hi : i < 1000) (kp : Kp F H1 F H2) (R2 : HallAt K F H2 h (stepN 1 (stepN i s).2).2) :
    ∃ acc, H2 D = some (.lst acc) ∧ acc.length < sizeLine ∧ StepsAt K F H h D s (i + 1) (upd H2 D (.lst (acc ++ [.int ((stepN 1 (stepN i s).2).1 : Nat)]))) := by
  obtain ⟨kp0, R0, ns, h1, h2, h3⟩ := w
  refine ⟨ns.map V.int, (kp _ _ h1 nD).1, lt1000 (by rw [List.length_map]; omega), fun b o hb hn => ⟨?_, hn⟩, ?_, ns ++ [((stepN 1 (stepN i s).2).1 : Int)], ?_, ?_, ?_⟩
  · rw [upd_ne (ne_of_none hb hD)]
    exact ((kp0.trans kp) b o hb hn).1
  · rw [stepN_add i 1 iv]
    exact R2.outside fun a ha => upd_ne fun z => nD (z ▸ ha)
  · rw [upd_same, List.map_append]
    rfl
  · rw [List.length_append, h2]
    rfl
  · rw [stepN_add i 1 iv, List.sum_append, h3]
    simp
theorem mu_len (s : St) : mu s ≤ 2 * s.mem.length := by
  unfold mu
  cases s.ph with
  | idle => exact Nat.zero_le _
  | mark =>
    have := List.length_filter_le notBlack s.mem
    show (s.mem.filter notBlack).length + s.mem.length ≤ _
    omega
  | sweep =>
    have := List.length_filter_le (fun x => decide (s.fin ≤ x.1)) s.mem
    show (s.mem.filter fun x => decide (s.fin ≤ x.1)).length ≤ _
    omega
theorem stepN_finish {s : St} {L : Int → Prop} (iv : G.Inv s L) {n : Nat} (h : 2 * s.mem.length ≤ n) : stepN n s = finishS s := by
  rw [finish_eq iv]
  exact stepN_more _ iv (Nat.le_trans (nu_le_mu L s) (Nat.le_trans (mu_len s) h))
/-! ### the outside of two halls -/
def U2 (F1 F2 : Addr → Prop) (a : Addr) : Prop := F1 a ∨ F2 a
theorem outU_1 {F1 F2 : Addr → Prop} {H : Hp} {a : Addr} {o : HO} (h : outF (U2 F1 F2) H a = some o) : outF F1 H a = some o := by
  obtain ⟨n, e⟩ := outF_some h
  rw [outF_eq fun z => n (.inl z)]
  exact e
theorem outU_2 {F1 F2 : Addr → Prop} {H : Hp} {a : Addr} {o : HO} (h : outF (U2 F1 F2) H a = some o) : outF F2 H a = some o := by
  obtain ⟨n, e⟩ := outF_some h
  rw [outF_eq fun z => n (.inr z)]
  exact e
theorem Kp.u1 {F1 F1' F2 : Addr → Prop} {H H' : Hp} (k : Kp F1 H F1' H') : Kp (U2 F1 F2) H (U2 F1' F2) H' := fun b o hb hn =>
  ⟨(k b o hb fun z => hn (.inl z)).1, fun z => z.elim (k b o hb fun z => hn (.inl z)).2 fun z => hn (.inr z)⟩
theorem Kp.u2 {F1 F2 F2' : Addr → Prop} {H H' : Hp} (k : Kp F2 H F2' H') : Kp (U2 F1 F2) H (U2 F1 F2') H' := fun b o hb hn =>
  ⟨(k b o hb fun z => hn (.inr z)).1, fun z => z.elim (fun z => hn (.inl z)) (k b o hb fun z => hn (.inr z)).2⟩
/-- a list that stands outside -/
theorem sq_out {K : PySem.W.Frag} {F : Addr → Prop} {H H1 : Hp} {a : Addr} {xs : List V} (h : SqL K H a xs) (f : ∀ b, F b → H b = none) (e : Same H H1) : SqL K (outF F H1) a xs := by
  rcases h with (h | ⟨o, h⟩) | h
  · refine .inl (.inl ?_)
    rw [outF_eq fun z => by rw [f a z] at h; cases h]
    exact e _ _ h
  · refine .inl (.inr ⟨o, ?_⟩)
    rw [outF_eq fun z => by rw [f a z] at h; cases h]
    exact e _ _ h
  · exact .inr h
/-! ### which act -/
def actS : Act → Str
  | .make _ _ => "make"
  | .store _ _ _ => "store"
  | .load _ _ _ => "load"
  | .copy _ _ => "copy"
  | .number _ _ => "number"
  | .begin => "begin"
  | .slide => "slide"
  | .finish => "finish"
  | .step _ => "step"
theorem act_0 (x : Act) : atI (actVs x) 0 = some (.str (actS x)) := by
  cases x <;> rfl
theorem act_kind (x : Act) : (∃ n, x = .step n) ∨ x = .finish ∨ ((actS x == "step") = false ∧ (actS x == "finish") = false) := by
  cases x with
  | step n => exact .inl ⟨n, rfl⟩
  | finish => exact .inr (.inl rfl)
  | make h m => exact .inr (.inr ⟨(by decide +kernel : (("make" : Str) == "step") = false), (by decide +kernel : (("make" : Str) == "finish") = false)⟩)
  | store h f o => exact .inr (.inr ⟨(by decide +kernel : (("store" : Str) == "step") = false), (by decide +kernel : (("store" : Str) == "finish") = false)⟩)
  | load h o f => exact .inr (.inr ⟨(by decide +kernel : (("load" : Str) == "step") = false), (by decide +kernel : (("load" : Str) == "finish") = false)⟩)
  | copy h o => exact .inr (.inr ⟨(by decide +kernel : (("copy" : Str) == "step") = false), (by decide +kernel : (("copy" : Str) == "finish") = false)⟩)
  | number h n => exact .inr (.inr ⟨(by decide +kernel : (("number" : Str) == "step") = false), (by decide +kernel : (("number" : Str) == "finish") = false)⟩)
  | begin  => exact .inr (.inr ⟨(by decide +kernel : (("begin" : Str) == "step") = false), (by decide +kernel : (("begin" : Str) == "finish") = false)⟩)
  | slide  => exact .inr (.inr ⟨(by decide +kernel : (("slide" : Str) == "step") = false), (by decide +kernel : (("slide" : Str) == "finish") = false)⟩)
theorem iteSn' {x y : Str} {A B : Prop} (h : (x == y) = false) (b : B) : if decide (V.str x = V.str y) = true then A else B := iteSn h b
theorem actOf_step {c : Int} {sw : Bool} {n : Nat} (h : actOf c sw = .step n) : n ≤ 40 := by
  unfold actOf at h
  by_cases c1 : turnOf c < 4
  · rw [if_pos c1] at h; cases h
  rw [if_neg c1] at h
  by_cases c2 : turnOf c < 8
  · rw [if_pos c2] at h; cases h
  rw [if_neg c2] at h
  by_cases c3 : turnOf c < 10
  · rw [if_pos c3] at h; cases h
  rw [if_neg c3] at h
  by_cases c4 : turnOf c = 10
  · rw [if_pos c4] at h; cases h
  rw [if_neg c4] at h
  by_cases c5 : turnOf c = 11 ∨ sw = false
  · rw [if_pos c5] at h; cases h
  rw [if_neg c5] at h
  by_cases c6 : turnOf c = 12
  · rw [if_pos c6] at h; cases h
  rw [if_neg c6] at h
  by_cases c7 : turnOf c = 13
  · rw [if_pos c7] at h; cases h
  rw [if_neg c7] at h
  by_cases c8 : turnOf c = 14
  · rw [if_pos c8] at h; cases h
  rw [if_neg c8] at h
  have e := Act.step.inj h
  have h1 : 0 < (if c % 8 = 0 then (41 : Int) else 7) ∧ (if c % 8 = 0 then (41 : Int) else 7) ≤ 41 := by split <;> decide
  have h2 := mixI_lt (c := c) (p := 9929) h1.1
  omega
theorem acts_step {ns : List Int} {sw : Bool} {n : Nat} (h : Act.step n ∈ acts ns sw) : n ≤ 40 := by
  unfold acts at h
  rcases List.mem_cons.mp h with h | h
  · cases h
  · rcases List.mem_cons.mp h with h | h
    · cases h
    · obtain ⟨c, _, e⟩ := List.mem_map.mp h
      exact actOf_step e
end G

/-! Columns of the used blocks; things by their number; a slide keeps shapes. -/
namespace G
open L2 PySem PyProof.Rows PySem.Spec
/-- a column of the used blocks -/
def usedC (g : Int × Int × Int → V) (b : Int × Int × Int) : Option V := if usedB b = true then some (g b) else none
theorem used_col (s : St) (g : Int × Int × Int → V) : (blocksS s).filterMap (usedC g) = s.mem.map fun x => g (x.1, wd x.2, 1) := by
  have e : ∀ bs : List (Int × Int × Int), bs.filterMap (usedC g) = (bs.filter usedB).map g := fun bs => by
    induction bs with
    | nil => rfl
    | cons b r ih =>
      rw [List.filterMap_cons, List.filter_cons]
      cases c : usedB b with
      | true => rw [show usedC g b = some (g b) by unfold usedC; rw [if_pos c], ih]; rfl
      | false => rw [show usedC g b = none by unfold usedC; rw [if_neg (by rw [c]; decide)], ih]; rfl
  rw [e, used_hall, List.map_map]
  rfl
theorem usedC_some {g : Int × Int × Int → V} {b : Int × Int × Int} (h : usedB b = true) : usedC g b = some (g b) := if_pos h
theorem usedC_none {g : Int × Int × Int → V} {b : Int × Int × Int} (h : ¬ usedB b = true) : usedC g b = none := if_neg h
def sp_l_numbers (K : PySem.W.Frag) : Sp := fun vs H Q _ => ∃ F h s L, vs = [.ref h] ∧ HallAt K F H h s ∧ G.Inv s L ∧ s.mem.length ≤ 200 ∧ ∀ D H', H D = none → Same H H' → H' D = some (.lst ((numsS s).map V.int)) → Q (.ref D) H'
/-- the list that holds ints, as data -/
theorem dp_ints {K : PySem.W.Frag} {H : Hp} {a : Addr} {ns : List Int} (h : H a = some (.lst (ns.map V.int))) : Dp K H (.ref a) (.list (ns.map PyData.int)) := dp_newL h (dpAll_ints ns)
theorem sh_ints (ns : List Int) : Sh 1 (.list (ns.map PyData.int)) := sh_lst fun d hd => by
  obtain ⟨i, _, rfl⟩ := List.mem_map.mp hd
  exact sh_int _ _
/-! ### shapes go with moves -/
theorem shape_slide {s : St} {L : Int → Prop} (iv : G.Inv s L) (i : Nat) : shapeS (slideS s) i = shapeS s i := by
  unfold shapeS
  rw [hand_slide]
  refine shapeD_map (D := L) ⟨fun a b ha hb e => ?_, fun x q hx hq => ?_, fun x hx => ?_⟩ fun q e => hand_L iv.core e
  · obtain ⟨_, ga⟩ := iv.core.inL a ha
    obtain ⟨_, gb⟩ := iv.core.inL b hb
    exact look_inj iv.core.lay ga gb e
  · obtain ⟨t, g⟩ := iv.core.inL x hx
    rw [fieldsS_some g] at hq
    exact iv.core.fL x q t hx g hq
  · obtain ⟨t, g⟩ := iv.core.inL x hx
    rw [fieldsS_some g, fieldsS_some (t := movT (newPl 0 s.mem) t) (get_slide _ (b := 0) iv.core.lay g)]
    exact List.map_congr_left fun v _ => mv_mvf _ v
theorem shapes_slide {s : St} {L : Int → Prop} (iv : G.Inv s L) : shapesD (slideS s) = shapesD s := congrArg PyData.list (List.map_congr_left fun i _ => shape_slide iv i)
theorem colours_slide (s : St) : coloursD (slideS s) = coloursD s := by
  have e := slide_cols (newPl 0 s.mem) s.mem 0
  have e2 := congrArg (List.map fun c => PyData.str (colS c)) e
  rw [List.map_map, List.map_map] at e2
  exact congrArg PyData.tuple e2
theorem blocks_slid (s : St) : blocksS (slideS s) = pack s.size 0 (wids s.mem) := blocks_slideS s
theorem wids_slid (s : St) : wids (slideS s).mem = wids s.mem := slide_wids _ _ _
/-! ### what is due: blocks side by side -/
def packU : Int → List Int → List (Int × Int × Int)
  | _, [] => []
  | a, w :: r => (a, w, 1) :: packU (a + w) r
theorem pack_eq (z : Int) : ∀ (ws : List Int) (a : Int), pack z a ws = packU a ws ++ (if a + ws.sum < z then [(a + ws.sum, z - (a + ws.sum), 0)] else [])
  | [], a => by
    show (if a < z then [(a, z - a, (0 : Int))] else []) = [] ++ _
    simp
  | w :: r, a => by
    have ih := pack_eq z r (a + w)
    show (a, w, (1 : Int)) :: pack z (a + w) r = (a, w, 1) :: (packU (a + w) r ++ _)
    rw [ih, List.sum_cons, Int.add_assoc]
theorem packU_snoc : ∀ (ws : List Int) (a w : Int), packU a (ws ++ [w]) = packU a ws ++ [(a + ws.sum, w, 1)]
  | [], a, w => by
    show [(a, w, (1 : Int))] = [] ++ [(a + 0, w, 1)]
    simp
  | v :: r, a, w => by
    have ih := packU_snoc r (a + v) w
    show (a, v, (1 : Int)) :: packU (a + v) (r ++ [w]) = (a, v, 1) :: packU (a + v) r ++ _
    rw [ih, List.sum_cons, Int.add_assoc]
    rfl
theorem packU_len : ∀ (ws : List Int) (a : Int), (packU a ws).length = ws.length
  | [], _ => rfl
  | w :: r, a => congrArg (· + 1) (packU_len r (a + w))
theorem wids_len (m : Mem) : (wids m).length = m.length := List.length_map _
/-- shapes, colours, numbers -/
def tripleD (s : St) : PyData := .tuple [shapesD s, coloursD s, .list ((numsS s).map PyData.int)]
theorem sh_triple (s : St) : Sh 5 (tripleD s) := sh_tup fun d hd => by
  simp only [List.mem_cons, List.not_mem_nil, or_false] at hd
  rcases hd with rfl | rfl | rfl
  · exact sh_shapes s
  · exact sh_mono (sh_colours s) (by decide)
  · exact sh_mono (sh_ints _) (by decide)
theorem triple_slid {s : St} {L : Int → Prop} (iv : G.Inv s L) : tripleD (slideS s) = tripleD s := by
  unfold tripleD
  rw [shapes_slide iv, colours_slide, nums_slide iv]
/-- the three together at a new tuple -/
theorem dp_triple {K : PySem.W.Frag} {F : Addr → Prop} {H1 H2 H3 H4 : Hp} {D D3 q : Addr} {ys : List V} {c : V} {s : St} (nD : ¬ F D) (nD3 : ¬ F D3) (nq : ¬ F q) (hD : H1 D = some (.lst ys)) (hl : ys.length = 8) (hv : ∀ i v, ys[i]? = some v → Tp (outF F H1) v (shapeS s i))
    (e12 : Same H1 H2) (hc : Tp (outF F H2) c (coloursD s)) (e23 : Same H2 H3) (h3 : H3 D3 = some (.lst ((numsS s).map V.int))) (e34 : Same H3 H4) (hq : H4 q = some (.tup [.ref D, c, .ref D3])) : Dp K (outF F H4) (.ref q) (tripleD s) := by
  refine dp_newT (by rw [outF_eq nq]; exact hq) (.cons ?_ (.cons ?_ (.cons ?_ .nil)))
  · refine dp_same (outF_same ((e12.trans e23).trans e34)) (shapesD s) (dp_newL (ds := (List.range 8).map (shapeS s)) (by rw [outF_eq nD]; exact hD) ?_)
    exact dp_itemsO hl hv
  · exact dp_same (outF_same (e23.trans e34)) _ (Tp.dp _ hc)
  · refine dp_same (outF_same e34) _ (dp_newL (by rw [outF_eq nD3]; exact h3) (dpAll_ints _))
end G

/-! Tuples of data: parts of them, two together; the spoilt blocks. -/
namespace G
open L2 PySem PyProof.Rows PySem.Spec
section
variable {K : PySem.W.Frag} {H : Hp}
theorem dpAll_drop : ∀ {vs : List V} {ds : List PyData} (n : Nat), DpAll K H vs ds → DpAll K H (vs.drop n) (ds.drop n)
  | _, _, 0, h => h
  | _, _, _ + 1, .nil => .nil
  | _, _, n + 1, .cons _ k => dpAll_drop n k
theorem dpAll_take : ∀ {vs : List V} {ds : List PyData} (n : Nat), DpAll K H vs ds → DpAll K H (vs.take n) (ds.take n)
  | _, _, 0, _ => .nil
  | _, _, _ + 1, .nil => .nil
  | _, _, n + 1, .cons q k => .cons q (dpAll_take n k)
theorem dpAll_app : ∀ {vs ws : List V} {ds es : List PyData}, DpAll K H vs ds → DpAll K H ws es → DpAll K H (vs ++ ws) (ds ++ es)
  | _, _, _, _, .nil, h => h
  | _, _, _, _, .cons q k, h => .cons q (dpAll_app k h)
end
/-- t[a:b] of data -/
def rSlD (K : PySem.W.Frag) : V → Option Int → Option Int → Hp → VK → Prop := fun x _ _ H Q => ∃ ds, Dp K H x (.tuple ds) ∧ ∀ v es H', es.length ≤ ds.length → Same H H' → Dp K H' v (.tuple es) → Q v H'
/-- t + u of data -/
def rCatD (K : PySem.W.Frag) : R2 := fun x y H Q => ∃ ds es, Dp K H x (.tuple ds) ∧ Dp K H y (.tuple es) ∧ ds.length + es.length ≤ 100000 ∧ ∀ v H', Same H H' → Dp K H' v (.tuple (ds ++ es)) → Q v H'
section
variable {X : Cx}
theorem sl_D : SlR X (rSlD X.K) := by
  intro pins s σ H x v vl vu lo hi sl Q I rx hs pl pu h
  obtain ⟨ds, hd, q⟩ := h
  obtain ⟨a, xs, rfl, hx, hall⟩ := dp_tup hd
  refine sl_tupA pins s σ H _ v vl vu lo hi sl Q I rx hs pl pu ⟨a, xs, rfl, hx, fun _ => q _ ds _ (Nat.le_refl _) (fun _ _ h => h) hd, fun _ p hp => ?_⟩
  refine q _ ((ds.drop (HT.sIx xs.length 0 lo)).take (HT.sIx xs.length xs.length hi - HT.sIx xs.length 0 lo)) _ ?_ (same_new hp) (dp_newT upd_same (dpAll_same (same_new hp) _ (dpAll_take _ (dpAll_drop _ hall))))
  rw [List.length_take, List.length_drop]
  omega
theorem op_catD : OpR X (binaryOp .Add) (rCatD X.K) := by
  intro pins s σ H x y v u Q I rx ry h
  obtain ⟨ds, es, hd, he, hl, q⟩ := h
  obtain ⟨a, xs, rfl, hx, hxs⟩ := dp_tup hd
  obtain ⟨b, ys, rfl, hy, hys⟩ := dp_tup he
  have l1 := dpAll_len hxs
  have l2 := dpAll_len hys
  refine op_catA pins s σ H _ _ v u Q I rx ry ⟨a, b, xs, ys, rfl, rfl, hx, hy, Nat.le_of_lt (small_lt (by omega)), fun e => ?_, fun _ e => ?_, fun _ _ p hp => ?_⟩
  · subst e
    obtain rfl : ds = [] := List.eq_nil_of_length_eq_zero l1.symm
    exact q _ _ (fun _ _ h => h) he
  · subst e
    obtain rfl : es = [] := List.eq_nil_of_length_eq_zero l2.symm
    rw [List.append_nil] at q
    exact q _ _ (fun _ _ h => h) hd
  · exact q _ _ (same_new hp) (dp_newT upd_same (dpAll_same (same_new hp) _ (dpAll_app hxs hys)))
end
theorem blocks_use (z : Int) : ∀ (m : Mem) (a : Int), ∀ b ∈ blocksF z a m, b.2.2 = 0 ∨ b.2.2 = 1
  | [], a, b, hb => by
    rw [blocksF_nil] at hb
    split at hb
    · obtain rfl := List.mem_singleton.mp hb
      exact .inl rfl
    · cases hb
  | x :: r, a, b, hb => by
    rw [blocksF_cons] at hb
    rcases List.mem_append.mp hb with hb | hb
    · split at hb
      · obtain rfl := List.mem_singleton.mp hb
        exact .inl rfl
      · cases hb
    · rcases List.mem_cons.mp hb with rfl | hb
      · exact .inr rfl
      · exact blocks_use z r _ b hb
theorem blocks_some {s : St} (h : 0 < s.size) : 0 < (blocksS s).length := by
  unfold blocksS
  cases e : s.mem with
  | nil =>
    rw [blocksF_nil, if_pos h]
    exact Nat.one_pos
  | cons x r =>
    rw [blocksF_cons, List.length_append, List.length_cons]
    omega
def sp_l_spoilt (K : PySem.W.Frag) : Sp := fun vs H Q _ => ∃ (v : V) (bs : List (Int × Int × Int)), ∃ (i : Nat) (c : Int), vs = [v, .int i, .int c] ∧ Dp K H v (.tuple (bs.map pdBlock)) ∧ bs.length ≤ 1000 ∧ i < bs.length ∧ (∀ b ∈ bs, b.2.2 = 0 ∨ b.2.2 = 1) ∧ ∀ v ds H', Same H H' → Dp K H' v (.tuple ds) → Q v H'
theorem cut_to (xs : List V) (n : Nat) : cutV xs none (some (n : Int)) = xs.take n := by
  unfold cutV
  rw [HT.sIx_none, HT.sIx_nat, List.drop_zero, Nat.sub_zero]
  by_cases c : n ≤ xs.length
  · rw [Nat.min_eq_left c]
  · rw [Nat.min_eq_right (by omega), List.take_of_length_le (Nat.le_refl _), List.take_of_length_le (by omega)]
theorem ActsAt.take {H H' : Hp} {as : List Addr} {xs : List Act} (h : ActsAt H H' as xs) (n : Nat) : ActsAt H H' (as.take n) (xs.take n) := by
  refine ⟨by rw [List.length_take, List.length_take, h.1], fun i x hx => ?_⟩
  rw [List.getElem?_take] at hx
  split at hx
  · rename_i c
    obtain ⟨a, h1, h2⟩ := h.2 i x hx
    exact ⟨a, by rw [List.getElem?_take, if_pos c]; exact h1, h2⟩
  · cases hx
theorem acts_take {ns : List Int} {sw : Bool} {n : Nat} {a : Act} (h : a ∈ (acts ns sw).take n) : ActOk a := acts_ok (List.mem_of_mem_take h)
end G

/-! Refusals, one of them asked for. -/
namespace G
open L2 PySem PyProof.Rows PySem.Spec
/-- what is told of a way: nothing, or which refusal -/
def sayV (H : Hp) (v : V) (t : Told) : Prop := match t with
  | .none => v = .str "none"
  | .int _ => False
  | .noThing => ∃ a, v = .ref a ∧ H a = some (.lst [.bl true, .bl false, .bl false, .bl false])
  | .noField => ∃ a, v = .ref a ∧ H a = some (.lst [.bl false, .bl true, .bl false, .bl false])
  | .notNow => ∃ a, v = .ref a ∧ H a = some (.lst [.bl false, .bl false, .bl true, .bl false])
  | .noRoom => ∃ a, v = .ref a ∧ H a = some (.lst [.bl false, .bl false, .bl false, .bl true])
/-- the way's act -/
def wayS (s : St) (way i : Nat) (f : Int) : Told × St := match way with
  | 0 => doAct s (.load 7 i f)
  | 1 => doAct s (.store i f 6)
  | 2 => (match hand s i with
    | .num _ => .noThing
    | .held _ => .none, s)
  | 3 => doAct s .slide
  | _ => doAct s .begin
def sp_l_said (K : PySem.W.Frag) : Sp := fun vs H Q _ => ∃ F h s L, ∃ (way i : Nat) (f : Int), vs = [.ref h, .int way, .int i, .int f] ∧ HallAt K F H h s ∧ G.Inv s L ∧ s.size ≤ 100000 ∧ way ≤ 4 ∧ i < 8 ∧
  ∀ F' H' v, Kp F H F' H' → HallAt K F' H' h (wayS s way i f).2 → sayV (outF F' H') v (wayS s way i f).1 → Q v H'
def L4 (a b c d : Bool) : PyData := .list [.bool a, .bool b, .bool c, .bool d]
theorem sh_L4 (a b c d : Bool) : Sh 1 (L4 a b c d) := sh_lst fun x hx => by
  simp only [List.mem_cons, List.not_mem_nil, or_false] at hx
  rcases hx with rfl | rfl | rfl | rfl <;> exact sh_bool _ _
theorem dp_L4 {K : PySem.W.Frag} {H : Hp} {l : Addr} {a b c d : Bool} (h : H l = some (.lst [.bl a, .bl b, .bl c, .bl d])) : Dp K H (.ref l) (L4 a b c d) := dp_newL h (.cons (.bl _) (.cons (.bl _) (.cons (.bl _) (.cons (.bl _) .nil))))
theorem say_thing {K : PySem.W.Frag} {H : Hp} {v : V} (h : sayV H v .noThing) : Dp K H v (L4 true false false false) := by
  obtain ⟨a, rfl, h⟩ := h
  exact dp_L4 h
theorem say_field {K : PySem.W.Frag} {H : Hp} {v : V} (h : sayV H v .noField) : Dp K H v (L4 false true false false) := by
  obtain ⟨a, rfl, h⟩ := h
  exact dp_L4 h
theorem say_now {K : PySem.W.Frag} {H : Hp} {v : V} (h : sayV H v .notNow) : Dp K H v (L4 false false true false) := by
  obtain ⟨a, rfl, h⟩ := h
  exact dp_L4 h
theorem way_thing {s : St} {way i : Nat} {f : Int} (hw : way ≤ 1) (e : fres s i f = .noThing) : wayS s way i f = (.noThing, s) := by
  rcases (by omega : way = 0 ∨ way = 1) with rfl | rfl
  · show doAct s (.load 7 i f) = _
    rw [doAct_load, e]
  · show doAct s (.store i f 6) = _
    rw [doAct_store, e]
theorem way_field {s : St} {way i : Nat} {f : Int} (hw : way ≤ 1) (e : fres s i f = .noField) : wayS s way i f = (.noField, s) := by
  rcases (by omega : way = 0 ∨ way = 1) with rfl | rfl
  · show doAct s (.load 7 i f) = _
    rw [doAct_load, e]
  · show doAct s (.store i f 6) = _
    rw [doAct_store, e]
theorem fres_num {s : St} {i : Nat} {f n : Int} (e : hand s i = .num n) : fres s i f = .noThing := by
  unfold fres
  rw [e]
theorem fres_bad {s : St} {i : Nat} {f p : Int} {t : Th} (e : hand s i = .held p) (g : get s.mem p = some t) (hf : ¬ (0 ≤ f ∧ f < t.fs.length)) : fres s i f = .noField := by
  unfold fres
  rw [e]
  simp only [g]
  rw [if_neg hf]
/-- a tuple of the outside -/
theorem tp_out {F : Addr → Prop} {H : Hp} {v : V} {x : Str} {n : Int} (h : Tp (outF F H) v (.tuple [.str x, .int n])) : ∃ a, v = .ref a ∧ outF F H a = some (.tup [.str x, .int n]) := by
  obtain ⟨a, xs, rfl, ha, k⟩ := tp_tup h
  obtain ⟨v1, r1, rfl, k1, k⟩ := tpAll_cons k
  obtain ⟨v2, r2, rfl, k2, k⟩ := tpAll_cons k
  obtain rfl := tpAll_nil k
  rw [tp_str k1, tp_int k2] at ha
  exact ⟨a, rfl, ha⟩
theorem val_held {F : Addr → Prop} {H : Hp} {v : V} {s : St} {p : Int} {t : Th} (g : get s.mem p = some t) (h : Tp (outF F H) v (pdVal s (.held p))) : Tp (outF F H) v (.tuple [.str "thing", .int (t.fs.length : Int)]) := by
  unfold pdVal at h
  simp only [g] at h
  exact h
end G

/-! What is asked of a hall, told by the hall without an end. -/
namespace G
open L2 PySem PyProof.Rows PySem.Spec
def shapeI (I : Ideal) (i : Nat) : PyData := shapeD (fieldsI I) (handI I i)
def valI (I : Ideal) (i : Nat) : PyData := match handI I i with
  | .num n => .tuple [.str "number", .int n]
  | .held x => .tuple [.str "thing", .int ((fieldsI I x).length : Int)]
section
variable {s : St} {L : Int → Prop} {f : Int → Int} {I : Ideal}
theorem shape_sim (sm : Sim L s f I) (c : Core s L) (i : Nat) : shapeS s i = shapeI I i := by
  unfold shapeS shapeI
  rw [sm.handEq]
  exact (shapeD_map (sm.moves c) fun q e => hand_L c e).symm
theorem val_sim (sm : Sim L s f I) (c : Core s L) (i : Nat) : pdVal s (hand s i) = valI I i := by
  unfold valI
  rw [sm.handEq]
  cases e : hand s i with
  | num n => rfl
  | held p =>
    obtain ⟨t, g⟩ := c.inL p (hand_L c e)
    show PyData.tuple [.str "thing", .int (((get s.mem p).map fun t => (t.fs.length : Int)).getD 0)] = .tuple [.str "thing", .int ((fieldsI I (f p)).length : Int)]
    rw [g, sm.fds p t (hand_L c e) g, List.length_map]
    rfl
theorem alike_sim (sm : Sim L s f I) (c : Core s L) (i j : Nat) : alikeB (hand s i) (hand s j) = alikeB (handI I i) (handI I j) := by
  rw [sm.handEq, sm.handEq]
  cases e : hand s i with
  | num n => rfl
  | held p =>
    cases e2 : hand s j with
    | num n => rfl
    | held q =>
      show decide (p = q) = decide (f p = f q)
      exact decide_eq_decide.mpr ⟨fun z => by rw [z], fun z => sm.inj p q (hand_L c e) (hand_L c e2) z⟩
end
theorem sh_val (s : St) (v : Vl) : Sh 1 (pdVal s v) := by
  cases v with
  | num n =>
    exact sh_tup fun d hd => by
      simp only [List.mem_cons, List.not_mem_nil, or_false] at hd
      rcases hd with rfl | rfl
      · exact sh_str _
      · exact sh_int _ _
  | held p =>
    exact sh_tup fun d hd => by
      simp only [List.mem_cons, List.not_mem_nil, or_false] at hd
      rcases hd with rfl | rfl
      · exact sh_str _
      · exact sh_int _ _
/-- two halls are asked the same -/
def sp_l_same (K : PySem.W.Frag) : Sp := fun vs H Q _ => ∃ F1 F2 h1 h2 s1 s2 L1 L2, vs = [.ref h1, .ref h2] ∧ HallAt K F1 H h1 s1 ∧ HallAt K F2 H h2 s2 ∧ G.Inv s1 L1 ∧ G.Inv s2 L2 ∧ s1.mem.length ≤ 200 ∧ s2.mem.length ≤ 200 ∧
  (∀ i, shapeS s1 i = shapeS s2 i) ∧ (∀ i, pdVal s1 (hand s1 i) = pdVal s2 (hand s2 i)) ∧ (∀ i j, alikeB (hand s1 i) (hand s1 j) = alikeB (hand s2 i) (hand s2 j)) ∧ ∀ H', Same H H' → Q (.bl true) H'
theorem told_noRoom {t : Told} (h : t ≠ .noRoom) : decide (toldV t = .str "no room") = false := by
  refine decide_eq_false fun z => ?_
  cases t with
  | noRoom => exact h rfl
  | none => cases z
  | int n => cases z
  | noThing => exact absurd (V.str.inj z) (by decide +kernel)
  | noField => exact absurd (V.str.inj z) (by decide +kernel)
  | notNow => exact absurd (V.str.inj z) (by decide +kernel)
theorem told_scalS (t : Told) (x : Str) : scal (toldV t) (.str x) = true := by
  cases t <;> rfl
/-- an act's name stands among the sweeping ones -/
theorem act_sweeps (x : Act) : inV (.str (actS x)) [.str "begin", .str "slide", .str "step", .str "finish"] = !quiet x := by
  cases x with
  | make h m => exact (by decide +kernel : inV (.str "make") [.str "begin", .str "slide", .str "step", .str "finish"] = false)
  | store h f o => exact (by decide +kernel : inV (.str "store") [.str "begin", .str "slide", .str "step", .str "finish"] = false)
  | load h o f => exact (by decide +kernel : inV (.str "load") [.str "begin", .str "slide", .str "step", .str "finish"] = false)
  | copy h o => exact (by decide +kernel : inV (.str "copy") [.str "begin", .str "slide", .str "step", .str "finish"] = false)
  | number h n => exact (by decide +kernel : inV (.str "number") [.str "begin", .str "slide", .str "step", .str "finish"] = false)
  | begin => exact (by decide +kernel : inV (.str "begin") [.str "begin", .str "slide", .str "step", .str "finish"] = true)
  | slide => exact (by decide +kernel : inV (.str "slide") [.str "begin", .str "slide", .str "step", .str "finish"] = true)
  | finish => exact (by decide +kernel : inV (.str "finish") [.str "begin", .str "slide", .str "step", .str "finish"] = true)
  | step n => exact (by decide +kernel : inV (.str "step") [.str "begin", .str "slide", .str "step", .str "finish"] = true)
end G

/-! All things to which hands come. -/
namespace G
open L2 PySem PyProof.Rows PySem.Spec
noncomputable section
def comeD (s : St) : PyData := .tuple ((comeS s).map PyData.int)
def sp_come_to (K : PySem.W.Frag) : Sp := fun vs H Q _ => ∃ F h s L, vs = [.ref h] ∧ HallAt K F H h s ∧ G.Inv s L ∧ s.mem.length ≤ 200 ∧ ∀ v H', Same H H' → Tp (outF F H') v (comeD s) → Q v H'
end
/-- the places of values that are held -/
def heldP : Vl → Option Int
  | .num _ => none
  | .held p => some p
def heldV (x : Vl) : Option V := (heldP x).map V.int
theorem held_fm (vs : List Vl) : vs.filterMap heldV = (vs.filterMap heldP).map V.int := by
  induction vs with
  | nil => rfl
  | cons v r ih =>
    cases v with
    | num n => exact ih
    | held p => exact congrArg (V.int p :: ·) ih
theorem heldP_mem {vs : List Vl} {p : Int} : p ∈ vs.filterMap heldP ↔ .held p ∈ vs := by
  rw [List.mem_filterMap]
  constructor
  · rintro ⟨v, hv, e⟩
    cases v with
    | num n => cases e
    | held q => cases e; exact hv
  · exact fun h => ⟨_, h, rfl⟩
theorem heldP_len (vs : List Vl) : (vs.filterMap heldP).length ≤ vs.length := List.length_filterMap_le _ _
/-- how far the walk is: what is found, what is left -/
structure ComeI (s : St) (L : Int → Prop) (ks left : List Int) : Prop where
  nd : ks.Nodup
  kR : ∀ x ∈ ks, Reach s.mem s.hands x
  lR : ∀ x ∈ left, Reach s.mem s.hands x
  hd : ∀ q, .held q ∈ s.hands → q ∈ ks ∨ q ∈ left
  fd : ∀ x ∈ ks, ∀ t, get s.mem x = some t → ∀ q, .held q ∈ t.fs → q ∈ ks ∨ q ∈ left
theorem ComeI.start {s : St} {L : Int → Prop} : ComeI s L [] (s.hands.filterMap heldP) :=
  ⟨List.nodup_nil, fun x h => by (cases h), fun x h => .root (heldP_mem.mp h), fun q h => .inr (heldP_mem.mpr h), fun x h => by (cases h)⟩
theorem ComeI.old {s : St} {L : Int → Prop} {ks left : List Int} {p : Int} (w : ComeI s L ks (left ++ [p])) (hp : p ∈ ks) : ComeI s L ks left := by
  have e : ∀ q, q ∈ ks ∨ q ∈ left ++ [p] → q ∈ ks ∨ q ∈ left := fun q h => by
    rcases h with h | h
    · exact .inl h
    · rcases List.mem_append.mp h with h | h
      · exact .inr h
      · obtain rfl := List.mem_singleton.mp h
        exact .inl hp
  exact ⟨w.nd, w.kR, fun x h => w.lR x (List.mem_append.mpr (.inl h)), fun q h => e q (w.hd q h), fun x hx t g q hq => e q (w.fd x hx t g q hq)⟩
theorem ComeI.new {s : St} {L : Int → Prop} {ks left : List Int} {p : Int} {t : Th} (w : ComeI s L ks (left ++ [p])) (hp : p ∉ ks) (g : get s.mem p = some t) : ComeI s L (ks ++ [p]) (left ++ t.fs.filterMap heldP) := by
  have rp := w.lR p (List.mem_append.mpr (.inr (List.mem_singleton.mpr rfl)))
  have e : ∀ q, q ∈ ks ∨ q ∈ left ++ [p] → q ∈ ks ++ [p] ∨ q ∈ left ++ t.fs.filterMap heldP := fun q h => by
    rcases h with h | h
    · exact .inl (List.mem_append.mpr (.inl h))
    · rcases List.mem_append.mp h with h | h
      · exact .inr (List.mem_append.mpr (.inl h))
      · exact .inl (List.mem_append.mpr (.inr h))
  refine ⟨?_, fun x h => ?_, fun x h => ?_, fun q h => e q (w.hd q h), fun x hx u gu q hq => ?_⟩
  · refine List.nodup_append.mpr ⟨w.nd, by simp, fun a ha b hb => ?_⟩
    obtain rfl := List.mem_singleton.mp hb
    exact fun z => hp (z ▸ ha)
  · rcases List.mem_append.mp h with h | h
    · exact w.kR x h
    · obtain rfl := List.mem_singleton.mp h
      exact rp
  · rcases List.mem_append.mp h with h | h
    · exact w.lR x (List.mem_append.mpr (.inl h))
    · exact .step rp g (heldP_mem.mp h)
  · rcases List.mem_append.mp hx with hx | hx
    · exact e q (w.fd x hx u gu q hq)
    · obtain rfl := List.mem_singleton.mp hx
      rw [g] at gu
      cases gu
      exact .inr (List.mem_append.mpr (.inr (heldP_mem.mpr hq)))
theorem ComeI.done {s : St} {L : Int → Prop} {ks ys : List Int} (w : ComeI s L ks []) (c : Core s L) (hp : ys.Perm ks) (hs : ys.Pairwise (· ≤ ·)) : ys = comeS s := by
  have all : ∀ x, x ∈ ks ↔ Reach s.mem s.hands x := fun x => ⟨w.kR x, fun h => by
    induction h with
    | root h => exact (w.hd _ h).resolve_right (by simp)
    | step h g hq ih => exact (w.fd _ ih _ g _ hq).resolve_right (by simp)⟩
  have p2 : ys.Perm (comeS s) := hp.trans ((List.perm_ext_iff_of_nodup w.nd (rise_nodup (come_rise c))).mpr fun x => (all x).trans (come_mem c x).symm)
  exact p2.eq_of_pairwise (fun a b _ _ h1 h2 => by omega) hs ((come_rise c).imp fun h => by omega)
theorem ComeI.len {s : St} {L : Int → Prop} {ks left : List Int} (w : ComeI s L ks left) (c : Core s L) : ks.length ≤ s.mem.length := by
  have := nodup_len (P := places s.mem) w.nd fun x hx => by
    obtain ⟨t, g⟩ := c.inL x (reach_L c (w.kR x hx))
    exact get_places g
  rw [show (places s.mem).length = s.mem.length from List.length_map _] at this
  exact this
def keyI (x : Int) : Key × V := (Sum.inl x, .bl true)
end G

/-! t * n, t of one item: no times, once, more often. -/
namespace G
open L2 PySem PyProof.Rows PySem.Spec
theorem mul_once (l : Addr) (items : Array Value) (n : Nat) (dd : Option Addr) (sl : Array (Option Value)) (u : Tok) :
    Meets (Builtin.«tuple.__mul__» ⟨[.ref l, .int 1 u], []⟩) (fun _ R s => s.heap.get? l = some { cls := .type "tuple", dict := dd, data := .seq items n, slots := sl } ∧ R (.ok (.ret (Value.ref l))) s) :=
  .of_wp fun prog w A R s h => by
    obtain ⟨hp, g, d, tk, os⟩ := s
    obtain ⟨hl, h⟩ := h
    have f1 := AutoSeq1.idx_int
    wp_walk using wpAny_loadPart' hl
    exact ⟨_, rfl, h⟩
theorem mul_none (l : Addr) (v : Value) (n : Nat) (dd : Option Addr) (sl : Array (Option Value)) (u : Tok) :
    Meets (Builtin.«tuple.__mul__» ⟨[.ref l, .int 0 u], []⟩) (fun _ R s => s.heap.get? l = some { cls := .type "tuple", dict := dd, data := .seq #[v] n, slots := sl } ∧
      R (.ok (.ret (Value.ref s.heap.objs.size))) { s with heap := s.heap.push { cls := Value.type "tuple", data := Data.seq #[] } }) :=
  .of_wp fun prog w A R s h => by
    obtain ⟨hp, g, d, tk, os⟩ := s
    obtain ⟨hl, h⟩ := h
    have f1 := AutoSeq1.idx_int
    wp_walk using wpAny_loadPart' hl
    exact ⟨_, rfl, h⟩
def rRep1 (K : PySem.W.Frag) : R2 := fun x y H Q => ∃ (l : Addr) (v : V) (k : Nat), x = .ref l ∧ y = .int k ∧ H l = some (.tup [v]) ∧ k ≤ 1000 ∧ (k = 1 → Q (.ref l) H) ∧ (k ≠ 1 → ∀ p, H p = none → Q (.ref p) (upd H p (.tup (List.replicate k v))))
theorem flat_one (k : Nat) (v : V) : (List.replicate k [v]).flatten = List.replicate k v := by
  induction k with
  | zero => rfl
  | succ k ih => rw [List.replicate_succ, List.flatten_cons, ih, List.replicate_succ]; rfl
section
variable {X : Cx}
theorem op_rep1 : OpR X (binaryOp .Mult) (rRep1 X.K) := by
  intro pins s σ H x y a u Q I rx ry h
  obtain ⟨l, v, k, rfl, rfl, hT, hk, q1, q2⟩ := h
  by_cases h2 : 2 ≤ k
  · refine op_repT pins s σ H _ _ a u Q I rx ry ⟨l, (k : Int), [v], rfl, rfl, .inl (.inl hT), List.cons_ne_nil _ _, by omega, by omega, (by show 1 ≤ 1000; decide), fun p hp => ?_⟩
    have e := q2 (by omega) p hp
    rw [show (List.replicate ((k : Nat) : Int).toNat [v]).flatten = List.replicate k v from flat_one k v]
    exact e
  · obtain ⟨its, r, ⟨⟨cls, dd, data, sl⟩, ho, hc, n, hd⟩, hs⟩ := I.tuple (.inl (.inl hT))
    obtain ⟨u0, rfl, _⟩ := vals1 r
    cases rx
    obtain ⟨t, rfl⟩ := ry
    simp only at hc hd
    subst hc hd
    rcases (by omega : k = 0 ∨ k = 1) with rfl | rfl
    · refine wpAny_binaryOp_repeat_ref (T := "tuple") (U := "int") (by decide) ⟨_, ho, rfl⟩ (fun z => typeIs_int z 0 t) noFill_tuple_mul
        F.fills_int_mul F.slot_int_rmul repeat_tuple F.slot_int_index.lookup
        (call_meets F.slot_int_rmul (typeIs_int s 0 t) F.entry_int_rmul (F.args_int_rmul_2 _ _) (int_rmul_tuple 0 t l #[u0] n dd sl) ⟨ho, rfl, ⟨_, ho, rfl⟩,
          call_meets F.slot_tuple_mul ⟨_, ho, rfl⟩ F.entry_tuple_mul (F.args_tuple_mul_2 _ _) (mul_none l u0 n dd sl t) ⟨ho, ?_⟩⟩)
      refine ⟨.ref s.heap.objs.size, _, I.laid (t' := s.toks) (o := .tup []) (fun b ob q => Heap.get?_push_of_some _ q) (Nat.le_refl _) ?_, rfl, q2 (by decide) _ (I.hok.fresh (Nat.le_refl _))⟩
      exact ⟨Nat.zero_le _, [], .nil, IsTup.new _ _⟩
    · refine wpAny_binaryOp_repeat_ref (T := "tuple") (U := "int") (by decide) ⟨_, ho, rfl⟩ (fun z => typeIs_int z 1 t) noFill_tuple_mul
        F.fills_int_mul F.slot_int_rmul repeat_tuple F.slot_int_index.lookup
        (call_meets F.slot_int_rmul (typeIs_int s 1 t) F.entry_int_rmul (F.args_int_rmul_2 _ _) (int_rmul_tuple 1 t l #[u0] n dd sl) ⟨ho, rfl, ⟨_, ho, rfl⟩,
          call_meets F.slot_tuple_mul ⟨_, ho, rfl⟩ F.entry_tuple_mul (F.args_tuple_mul_2 _ _) (mul_once l #[u0] n dd sl t) ⟨ho, ?_⟩⟩)
      exact ⟨.ref l, H, I, rfl, q1 rfl⟩
end
end G

/-! What a whole sweep leaves, as data. -/
namespace G
open L2 PySem PyProof.Rows PySem.Spec
theorem shape_keep {s s' : St} {L : Int → Prop} (c : Core s L) (k : Keep L s s') (i : Nat) : shapeS s' i = shapeS s i := by
  have hh : hand s' i = hand s i := by
    unfold hand
    rw [k.hands]
  unfold shapeS
  rw [hh]
  have mid : ∀ v : Vl, mvf id v = v := fun v => by
    cases v <;> rfl
  have e := shapeD_map (f := id) (D := L) (fd := fieldsS s) (gd := fieldsS s') ⟨fun a b _ _ h => h, fields_closed c, fun x hx => by
    obtain ⟨t, g⟩ := c.inL x hx
    obtain ⟨t', g', e⟩ := k.fs x t hx g
    show fieldsS s' x = _
    rw [fieldsS_some g, fieldsS_some g', e]
    exact (List.map_id'' mid _).symm⟩ (v := hand s i) fun q e => hand_L c e
  rw [mid] at e
  exact e
theorem shapes_keep {s s' : St} {L : Int → Prop} (c : Core s L) (k : Keep L s s') : shapesD s' = shapesD s := congrArg PyData.list (List.map_congr_left fun i _ => shape_keep c k i)
/-- a used block, by place and width -/
def blkD (x : Int × Int) : PyData := .tuple [.int x.1, .int x.2, .int 1]
def usedD (m : List (Int × Int)) : PyData := .list (m.map blkD)
theorem sh_used (m : List (Int × Int)) : Sh 2 (usedD m) := sh_lst fun d hd => by
  obtain ⟨x, _, rfl⟩ := List.mem_map.mp hd
  exact sh_tup fun e he => by
    simp only [List.mem_cons, List.not_mem_nil, or_false] at he
    rcases he with rfl | rfl | rfl <;> exact sh_int _ _
theorem sh_come (s : St) : Sh 1 (comeD s) := sh_tup fun d hd => by
  obtain ⟨x, _, rfl⟩ := List.mem_map.mp hd
  exact sh_int _ _
/-- items picked of tracked blocks, as data -/
def pickV (q : Int × Int × Int → Bool) (x : V × (Int × Int × Int)) : Option V := if q x.2 = true then some x.1 else none
theorem pick_data {F : Addr → Prop} {H : Hp} (q : Int × Int × Int → Bool) : ∀ {vs : List V} {bs : List (Int × Int × Int)}, TpAll (outF F H) vs (bs.map pdBlock) → TpAll (outF F H) ((vs.zip bs).filterMap (pickV q)) ((bs.filter q).map pdBlock)
  | _, [], h => by
    obtain rfl := tpAll_nil h
    exact .nil
  | _, b :: r, h => by
    obtain ⟨v, vr, rfl, h1, h2⟩ := tpAll_cons h
    have ih := pick_data q h2
    rw [List.zip_cons_cons, List.filterMap_cons, List.filter_cons]
    cases c : q b with
    | true =>
      rw [show pickV q (v, b) = some v by unfold pickV; exact if_pos c]
      exact .cons h1 ih
    | false =>
      rw [show pickV q (v, b) = none by unfold pickV; exact if_neg (by show ¬ q b = true; rw [c]; decide)]
      exact ih
theorem used_pick (s : St) : ((blocksS s).filter usedB).map pdBlock = (s.mem.map pw).map blkD := by
  rw [used_hall, List.map_map, List.map_map]
  rfl
/-- what lies at one of these places -/
def inB (ps : List Int) (b : Int × Int × Int) : Bool := decide (b.1 ∈ ps)
theorem come_pick {s : St} {L : Int → Prop} (c : Core s L) : ((blocksS s).filter (inB (comeS s))).map pdBlock = ((liveM s).map pw).map blkD := by
  have e1 : (blocksS s).filter (inB (comeS s)) = ((blocksS s).filter usedB).filter (inB (comeS s)) := by
    rw [List.filter_filter]
    refine List.filter_congr fun b hb => ?_
    cases hi : inB (comeS s) b with
    | false => rfl
    | true =>
      have hr := (come_mem c b.1).mp (of_decide_eq_true hi)
      obtain ⟨t, g⟩ := c.inL _ (reach_L c hr)
      have hu : usedB b = true := by
        rcases blocks_use _ _ _ b hb with h0 | h1
        · rw [free_block _ _ _ c.lay b hb h0] at g
          cases g
        · exact decide_eq_true h1
      rw [hu]
      rfl
  rw [e1, used_hall, List.filter_map, List.map_map, List.map_map, ← live_filter c]
  rfl
theorem white_data {s : St} (h : ∀ x ∈ s.mem, x.2.col = .white) : coloursD s = .tuple (List.replicate s.mem.length (.str "white")) := by
  have : ∀ m : Mem, (∀ x ∈ m, x.2.col = .white) → (m.map fun x => PyData.str (colS x.2.col)) = List.replicate m.length (.str "white") := fun m => by
    induction m with
    | nil => exact fun _ => rfl
    | cons x r ih =>
      intro h
      rw [List.map_cons, List.length_cons, List.replicate_succ, ih fun y hy => h y (List.mem_cons_of_mem _ hy), h x List.mem_cons_self]
      rfl
  exact congrArg PyData.tuple (this s.mem h)
theorem dp_whites {K : PySem.W.Frag} {H : Hp} (n : Nat) : DpAll K H (List.replicate n (V.str "white")) (List.replicate n (PyData.str "white")) := by
  induction n with
  | zero => exact .nil
  | succ n ih => exact .cons (.str _) ih
theorem sh_whites (n : Nat) : Sh 1 (.tuple (List.replicate n (.str "white"))) := sh_tup fun d hd => by
  obtain rfl := List.eq_of_mem_replicate hd
  exact sh_str _
theorem tp_ints {G : Hp} : ∀ zs : List Int, TpAll G (zs.map V.int) (zs.map PyData.int)
  | [] => .nil
  | z :: r => .cons (.int _) (tp_ints r)
theorem tp_come {F : Addr → Prop} {H : Hp} {v : V} {s : St} (h : Tp (outF F H) v (comeD s)) : ∃ a, v = .ref a ∧ outF F H a = some (.tup ((comeS s).map V.int)) := by
  obtain ⟨a, xs, rfl, ha, k⟩ := tp_tup h
  have : ∀ {xs : List V} {zs : List Int}, TpAll (outF F H) xs (zs.map PyData.int) → xs = zs.map V.int := fun {xs zs} => by
    induction zs generalizing xs with
    | nil => exact fun h => tpAll_nil h
    | cons z r ih =>
      intro h
      obtain ⟨v, vr, rfl, h1, h2⟩ := tpAll_cons h
      rw [tp_int h1, ih h2]
      rfl
  rw [this k] at ha
  exact ⟨a, rfl, ha⟩
/-- t * n of data: t of one text -/
def rRepD (K : PySem.W.Frag) : R2 := fun x y H Q => ∃ (l : Addr) (z : Str) (k : Nat), x = .ref l ∧ y = .int k ∧ H l = some (.tup [.str z]) ∧ k ≤ 1000 ∧ ∀ v H', Same H H' → Dp K H' v (.tuple (List.replicate k (.str z))) → Q v H'
theorem dp_reps {K : PySem.W.Frag} {H : Hp} (z : Str) (n : Nat) : DpAll K H (List.replicate n (V.str z)) (List.replicate n (PyData.str z)) := by
  induction n with
  | zero => exact .nil
  | succ n ih => exact .cons (.str _) ih
theorem op_repD {X : Cx} : OpR X (binaryOp .Mult) (rRepD X.K) := by
  intro pins s σ H x y a u Q I rx ry h
  obtain ⟨l, z, k, rfl, rfl, hT, hk, q⟩ := h
  refine op_rep1 pins s σ H _ _ a u Q I rx ry ⟨l, .str z, k, rfl, rfl, hT, hk, fun e => ?_, fun _ p hp => q _ _ (same_new hp) (dp_newT upd_same (dp_reps z k))⟩
  subst e
  exact q _ _ (fun _ _ h => h) (dp_newT hT (dp_reps z 1))
theorem finish_idle {s : St} (h : s.ph = .idle) : finishS s = (0, s) := by
  unfold finishS mu
  simp only [h]
  rfl
end G

/-! Acts amidst a sweep. -/
namespace G
open L2 PySem PyProof.Rows PySem.Spec
def sp_l_has_gap (K : PySem.W.Frag) : Sp := fun vs H Q _ => ∃ F h s L, ∃ m : Nat, vs = [.ref h, .int m] ∧ HallAt K F H h s ∧ G.Inv s L ∧ s.mem.length ≤ 200 ∧ ∀ H', Same H H' → Q (.bl (gap s (2 + m)).isSome) H'
theorem act_amid (x : Act) : inV (.str (actS x)) [.str "begin", .str "slide", .str "make"] = !amid x := by
  cases x with
  | make h m => exact (by decide +kernel : inV (.str "make") [.str "begin", .str "slide", .str "make"] = true)
  | store h f o => exact (by decide +kernel : inV (.str "store") [.str "begin", .str "slide", .str "make"] = false)
  | load h o f => exact (by decide +kernel : inV (.str "load") [.str "begin", .str "slide", .str "make"] = false)
  | copy h o => exact (by decide +kernel : inV (.str "copy") [.str "begin", .str "slide", .str "make"] = false)
  | number h n => exact (by decide +kernel : inV (.str "number") [.str "begin", .str "slide", .str "make"] = false)
  | begin => exact (by decide +kernel : inV (.str "begin") [.str "begin", .str "slide", .str "make"] = true)
  | slide => exact (by decide +kernel : inV (.str "slide") [.str "begin", .str "slide", .str "make"] = true)
  | finish => exact (by decide +kernel : inV (.str "finish") [.str "begin", .str "slide", .str "make"] = false)
  | step n => exact (by decide +kernel : inV (.str "step") [.str "begin", .str "slide", .str "make"] = false)
theorem act_make (x : Act) : (∃ h m, x = .make h m) ∨ (actS x == "make") = false := by
  cases x with
  | make h m => exact .inl ⟨h, m, rfl⟩
  | store h f o => exact .inr (by decide +kernel : (("store" : Str) == "make") = false)
  | load h o f => exact .inr (by decide +kernel : (("load" : Str) == "make") = false)
  | copy h o => exact .inr (by decide +kernel : (("copy" : Str) == "make") = false)
  | number h n => exact .inr (by decide +kernel : (("number" : Str) == "make") = false)
  | begin => exact .inr (by decide +kernel : (("begin" : Str) == "make") = false)
  | slide => exact .inr (by decide +kernel : (("slide" : Str) == "make") = false)
  | finish => exact .inr (by decide +kernel : (("finish" : Str) == "make") = false)
  | step n => exact .inr (by decide +kernel : (("step" : Str) == "make") = false)
end G

/-! The hall without an end in the heap: a dict of things and hands, values as pairs. -/
namespace G
open L2 PySem PyProof.Rows PySem.Spec
def ivT : Vl → List V
  | .num n => [.str "number", .int n]
  | .held q => [.str "thing", .int q]
def IVal (H : Hp) (G : Addr → Prop) (v : V) (x : Vl) : Prop := ∃ a, v = .ref a ∧ G a ∧ H a = some (.tup (ivT x))
def IVals (H : Hp) (G : Addr → Prop) (vs : List V) (xs : List Vl) : Prop := vs.length = xs.length ∧ ∀ (i : Nat) (x : Vl), xs[i]? = some x → ∃ v, vs[i]? = some v ∧ IVal H G v x
structure IdR (H : Hp) (d tl hl : Addr) (ts : List Addr) (I : Ideal) (G : Addr → Prop) : Prop where
  gd : G d
  gt : G tl
  gh : G hl
  gts : ∀ t ∈ ts, G t
  al : ∀ a, G a → ∃ o, H a = some o
  dict : H d = some (.dK [(Sum.inr "things", .ref tl), (Sum.inr "hands", .ref hl)])
  things : H tl = some (.lst (ts.map V.ref))
  len : ts.length = I.things.length
  nd : ts.Nodup
  ne1 : tl ≠ hl
  ne2 : tl ∉ ts
  ne3 : hl ∉ ts
  fld : ∀ (i : Nat) (t : Addr) (fs : List Vl), ts[i]? = some t → I.things[i]? = some fs → ∃ vs, H t = some (.lst vs) ∧ IVals H G vs fs
  hnd : ∃ vs, H hl = some (.lst vs) ∧ IVals H G vs I.hands
/-- what is outside of the ideal hall stays; what it owns behind is what it owned, or new -/
structure IFr (H : Hp) (G : Addr → Prop) (H' : Hp) (G' : Addr → Prop) : Prop where
  out : ∀ b u, H b = some u → ¬ G b → H' b = some u
  own : ∀ b, G' b → G b ∨ H b = none
theorem IFr.refl (H : Hp) (G : Addr → Prop) : IFr H G H G := ⟨fun _ _ h _ => h, fun _ h => .inl h⟩
section
variable {H H' : Hp} {G G' : Addr → Prop} {d tl hl : Addr} {ts : List Addr} {I : Ideal}
theorem IVal.same (e : Same H H') {v : V} {x : Vl} (h : IVal H G v x) : IVal H' G v x := by
  obtain ⟨a, h1, h2, h3⟩ := h
  exact ⟨a, h1, h2, e _ _ h3⟩
/-- tuples that stay, more that is owned -/
theorem IVal.kt (e : KT H H') (g : ∀ a, G a → G' a) {v : V} {x : Vl} (h : IVal H G v x) : IVal H' G' v x := by
  obtain ⟨a, h1, h2, h3⟩ := h
  exact ⟨a, h1, g _ h2, e _ _ h3⟩
theorem IVals.kt (e : KT H H') (g : ∀ a, G a → G' a) {vs : List V} {xs : List Vl} (h : IVals H G vs xs) : IVals H' G' vs xs :=
  ⟨h.1, fun i x hx => by
    obtain ⟨v, h1, h2⟩ := h.2 i x hx
    exact ⟨v, h1, h2.kt e g⟩⟩
theorem IVals.get {vs : List V} {xs : List Vl} (h : IVals H G vs xs) {i : Nat} {v : V} (hi : vs[i]? = some v) : ∃ x, xs[i]? = some x ∧ IVal H G v x := by
  have lt : i < xs.length := by
    rw [← h.1]
    exact (List.getElem?_eq_some_iff.mp hi).1
  obtain ⟨w, h1, h2⟩ := h.2 i xs[i] (List.getElem?_eq_getElem lt)
  rw [hi] at h1
  cases h1
  exact ⟨_, List.getElem?_eq_getElem lt, h2⟩
theorem IVals.set {vs : List V} {xs : List Vl} (h : IVals H G vs xs) {i : Nat} {v : V} {x : Vl} (hv : IVal H G v x) : IVals H G (vs.set i v) (xs.set i x) := by
  refine ⟨by rw [List.length_set, List.length_set]; exact h.1, fun j y hy => ?_⟩
  by_cases c : i = j
  · subst c
    have lt : i < xs.length := by
      have := (List.getElem?_eq_some_iff.mp hy).1
      rw [List.length_set] at this
      exact this
    rw [List.getElem?_set_self lt] at hy
    cases hy
    exact ⟨v, List.getElem?_set_self (by rw [h.1]; exact lt), hv⟩
  · rw [List.getElem?_set_ne c] at hy
    obtain ⟨w, h1, h2⟩ := h.2 j y hy
    exact ⟨w, by rw [List.getElem?_set_ne c]; exact h1, h2⟩
theorem IdR.same (R : IdR H d tl hl ts I G) (e : Same H H') : IdR H' d tl hl ts I G where
  gd := R.gd
  gt := R.gt
  gh := R.gh
  gts := R.gts
  al := fun a h => by
    obtain ⟨o, h⟩ := R.al a h
    exact ⟨o, e _ _ h⟩
  dict := e _ _ R.dict
  things := e _ _ R.things
  len := R.len
  nd := R.nd
  ne1 := R.ne1
  ne2 := R.ne2
  ne3 := R.ne3
  fld := fun i t fs h1 h2 => by
    obtain ⟨vs, h3, h4⟩ := R.fld i t fs h1 h2
    exact ⟨vs, e _ _ h3, h4.kt (KT.of_same e) fun _ h => h⟩
  hnd := by
    obtain ⟨vs, h3, h4⟩ := R.hnd
    exact ⟨vs, e _ _ h3, h4.kt (KT.of_same e) fun _ h => h⟩
/-- the ideal hall outside of a hall -/
theorem IdR.outF {F : Addr → Prop} (R : IdR H d tl hl ts I G) (n : ∀ a, G a → ¬ F a) : IdR (outF F H) d tl hl ts I G where
  gd := R.gd
  gt := R.gt
  gh := R.gh
  gts := R.gts
  al := fun a h => by
    obtain ⟨o, e⟩ := R.al a h
    exact ⟨o, by rw [outF_eq (n a h)]; exact e⟩
  dict := by rw [outF_eq (n _ R.gd)]; exact R.dict
  things := by rw [outF_eq (n _ R.gt)]; exact R.things
  len := R.len
  nd := R.nd
  ne1 := R.ne1
  ne2 := R.ne2
  ne3 := R.ne3
  fld := fun i t fs h1 h2 => by
    obtain ⟨vs, h3, h4⟩ := R.fld i t fs h1 h2
    refine ⟨vs, by rw [outF_eq (n _ (R.gts t (List.mem_of_getElem? h1)))]; exact h3, h4.1, fun j x hx => ?_⟩
    obtain ⟨v, k1, a, k2, k3, k4⟩ := h4.2 j x hx
    exact ⟨v, k1, a, k2, k3, by rw [outF_eq (n a k3)]; exact k4⟩
  hnd := by
    obtain ⟨vs, h3, h4⟩ := R.hnd
    refine ⟨vs, by rw [outF_eq (n _ R.gh)]; exact h3, h4.1, fun j x hx => ?_⟩
    obtain ⟨v, k1, a, k2, k3, k4⟩ := h4.2 j x hx
    exact ⟨v, k1, a, k2, k3, by rw [outF_eq (n a k3)]; exact k4⟩
theorem d_hands (R : IdR H d tl hl ts I G) : DGet H d (.str "hands") (some (.ref hl)) := by
  have h := DGet.k (k := (Sum.inr "hands" : Key)) R.dict
  have e : valV [((Sum.inr "things" : Key), V.ref tl), (Sum.inr "hands", .ref hl)] (Sum.inr "hands") = some (.ref hl) := by
    rw [valV_neg (by intro z; exact absurd (Sum.inr.inj z) (by decide +kernel)), valV_pos rfl]
  rw [e] at h
  exact h
theorem d_things (R : IdR H d tl hl ts I G) : DGet H d (.str "things") (some (.ref tl)) := by
  have h := DGet.k (k := (Sum.inr "things" : Key)) R.dict
  have e : valV [((Sum.inr "things" : Key), V.ref tl), (Sum.inr "hands", .ref hl)] (Sum.inr "things") = some (.ref tl) := valV_pos rfl
  rw [e] at h
  exact h
/-- a hand's pair -/
theorem IdR.handAt (R : IdR H d tl hl ts I G) {i : Nat} (hi : i < I.hands.length) : ∃ vs v, H hl = some (.lst vs) ∧ vs[i]? = some v ∧ IVal H G v (handI I i) ∧ vs.length = I.hands.length := by
  obtain ⟨vs, h1, h2⟩ := R.hnd
  have e : I.hands[i]? = some (handI I i) := by
    unfold handI
    rw [List.getD_eq_getElem?_getD, List.getElem?_eq_getElem hi]
    rfl
  obtain ⟨v, h3, h4⟩ := h2.2 i _ e
  exact ⟨vs, v, h1, h3, h4, h2.1⟩
/-- a thing's list -/
theorem IdR.thingAt (R : IdR H d tl hl ts I G) {n : Nat} (hn : n < I.things.length) : ∃ t vs, ts[n]? = some t ∧ H t = some (.lst vs) ∧ IVals H G vs (fieldsI I n) ∧ t ∈ ts := by
  have hl' : n < ts.length := by rw [R.len]; exact hn
  have e : I.things[n]? = some (fieldsI I n) := by
    unfold fieldsI
    rw [Int.toNat_natCast, List.getD_eq_getElem?_getD, List.getElem?_eq_getElem hn]
    rfl
  obtain ⟨vs, h1, h2⟩ := R.fld n ts[n] _ (List.getElem?_eq_getElem hl') e
  exact ⟨ts[n], vs, List.getElem?_eq_getElem hl', h1, h2, List.getElem_mem hl'⟩
end
/-- values name things that are there -/
def Vd (I : Ideal) : Prop := I.hands.length = 8 ∧ (∀ x : Int, .held x ∈ I.hands → ∃ n : Nat, x = n ∧ n < I.things.length)
theorem Vd.hand {I : Ideal} (h : Vd I) {i : Nat} {x : Int} (e : handI I i = .held x) : ∃ n : Nat, x = n ∧ n < I.things.length := by
  unfold handI at e
  rw [List.getD_eq_getElem?_getD] at e
  cases k : I.hands[i]? with
  | none =>
    rw [k] at e
    cases e
  | some v =>
    rw [k] at e
    have e' : v = .held x := e
    subst e'
    exact h.2 x (List.mem_of_getElem? k)
theorem Sim.vd {L : Int → Prop} {s : St} {f : Int → Int} {I : Ideal} (h : Sim L s f I) (c : Core s L) : Vd I := by
  refine ⟨by rw [h.hands, List.length_map]; exact c.h8, fun x hx => ?_⟩
  rw [h.hands] at hx
  obtain ⟨v, hv, e⟩ := List.mem_map.mp hx
  cases v with
  | num n => cases e
  | held p =>
    cases e
    exact h.ran p (c.hL p hv)
theorem newI_vd : Vd newI := ⟨rfl, fun x hx => by
  have := List.eq_of_mem_replicate hx
  cases this⟩
def sp_l_ideal (K : PySem.W.Frag) : Sp := fun vs H Q _ => vs = [] ∧ ∀ d tl hl G H', Same H H' → (∀ b, G b → H b = none) → IdR H' d tl hl [] newI G → Q (.ref d) H'
def sp_l_refusal (K : PySem.W.Frag) : Sp := fun vs H Q _ => ∃ d tl hl ts I G, ∃ (i : Nat) (f : Int), vs = [.ref d, .int i, .int f] ∧ IdR H d tl hl ts I G ∧ Vd I ∧ i < 8 ∧ Q (toldV (refI I i f)) H
def sp_l_wish (K : PySem.W.Frag) : Sp := fun vs H Q _ => ∃ d tl hl ts I G a x, vs = [.ref d, .ref a] ∧ IdR H d tl hl ts I G ∧ Vd I ∧ ActOk x ∧ I.things.length ≤ 900 ∧ (∀ n, (fieldsI I n).length ≤ 6) ∧ ¬ G a ∧ H a = some (.tup (actVs x)) ∧
  ∀ H' ts' G', IFr H G H' G' → IdR H' d tl hl ts' (wishI I x).2 G' → Q (toldV (wishI I x).1) H'
/-- where an order stays -/
structure Dm (I : Ideal) (D : Int → Prop) : Prop where
  cl : ClosedD (fieldsI I) D
  ran : ∀ x : Int, D x → ∃ n : Nat, x = n ∧ n < I.things.length
def sp_l_order (K : PySem.W.Frag) : Sp := fun vs H Q _ => ∃ d tl hl ts I G b bvs begins D, vs = [.ref d, .ref b] ∧ IdR H d tl hl ts I G ∧ H b = some (.lst bvs) ∧ IVals H G bvs begins ∧ begins.length ≤ 8 ∧ (∀ n, (fieldsI I n).length ≤ 6) ∧ I.things.length ≤ 100 ∧ Dm I D ∧ (∀ q, .held q ∈ begins → D q) ∧
  ∀ l H', H l = none → Same H H' → H' l = some (.lst ((ordF (fieldsI I) 1000 0 (addNew [] begins)).map V.int)) → Q (.ref l) H'
theorem Sim.dm {L : Int → Prop} {s : St} {f : Int → Int} {I : Ideal} (h : Sim L s f I) (c : Core s L) : Dm I (fun x => ∃ p, L p ∧ f p = x) := by
  refine ⟨?_, ?_⟩
  · rintro x q ⟨p, hp, rfl⟩ hq
    rw [(h.moves c).go p hp] at hq
    obtain ⟨v, hv, e⟩ := List.mem_map.mp hq
    cases v with
    | num n => cases e
    | held r =>
      cases e
      exact ⟨r, fields_closed c p r hp hv, rfl⟩
  · rintro x ⟨p, hp, rfl⟩
    exact h.ran p hp
theorem Sim.begins {L : Int → Prop} {s : St} {f : Int → Int} {I : Ideal} (h : Sim L s f I) (c : Core s L) : ∀ q, .held q ∈ I.hands → ∃ p, L p ∧ f p = q := fun q hq => by
  rw [h.hands] at hq
  obtain ⟨v, hv, e⟩ := List.mem_map.mp hq
  cases v with
  | num n => cases e
  | held r =>
    cases e
    exact ⟨r, c.hL r hv, rfl⟩
end G

/-! The hall without an end in the heap: what acts do to it. -/
namespace G
open L2 PySem PyProof.Rows PySem.Spec
section
variable {H H' : Hp} {G G' : Addr → Prop} {d tl hl : Addr} {ts : List Addr} {I : Ideal}
/-- all that is not a list of the ideal hall's own stays: its tuples do -/
theorem kt_but (h : ∀ b u, H b = some u → b ≠ tl → b ≠ hl → b ∉ ts → H' b = some u) (R : IdR H d tl hl ts I G) : KT H H' := fun b xs hb => by
  refine h b _ hb (fun z => ?_) (fun z => ?_) fun z => ?_
  · rw [z, R.things] at hb
    cases hb
  · obtain ⟨vs, h1, _⟩ := R.hnd
    rw [z, h1] at hb
    cases hb
  · obtain ⟨i, hi⟩ := List.getElem?_of_mem z
    have lt : i < I.things.length := by
      rw [← R.len]
      exact (List.getElem?_eq_some_iff.mp hi).1
    obtain ⟨vs, h1, _⟩ := R.fld i b _ hi (List.getElem?_eq_getElem lt)
    rw [h1] at hb
    cases hb
theorem IdR.ned (R : IdR H d tl hl ts I G) : d ≠ tl ∧ d ≠ hl ∧ d ∉ ts := by
  refine ⟨fun z => ?_, fun z => ?_, fun z => ?_⟩
  · have := R.dict
    rw [z, R.things] at this
    cases this
  · obtain ⟨vs, h1, _⟩ := R.hnd
    have := R.dict
    rw [z, h1] at this
    cases this
  · obtain ⟨i, hi⟩ := List.getElem?_of_mem z
    have lt : i < I.things.length := by
      rw [← R.len]
      exact (List.getElem?_eq_some_iff.mp hi).1
    obtain ⟨vs, h1, _⟩ := R.fld i d _ hi (List.getElem?_eq_getElem lt)
    have := R.dict
    rw [h1] at this
    cases this
/-- a hand gets another pair -/
theorem IdR.setHandR (R : IdR H d tl hl ts I G) {vs : List V} (hh : H hl = some (.lst vs)) (hvs : IVals H G vs I.hands) {i : Nat} {v : V} {x : Vl} (keep : ∀ b u, H b = some u → b ≠ hl → H' b = some u) (hh' : H' hl = some (.lst (vs.set i v)))
    (g : ∀ a, G a → G' a) (al : ∀ a, G' a → ∃ o, H' a = some o) (hv : IVal H' G' v x) : IdR H' d tl hl ts (setHandI I i x) G' := by
  have kt := kt_but (H' := H') (fun b u hb h1 h2 h3 => keep b u hb h2) R
  obtain ⟨n1, n2, n3⟩ := R.ned
  refine ⟨g _ R.gd, g _ R.gt, g _ R.gh, fun t ht => g _ (R.gts t ht), al, keep _ _ R.dict n2, keep _ _ R.things R.ne1, R.len, R.nd, R.ne1, R.ne2, R.ne3, fun j t fs h1 h2 => ?_, _, hh', (hvs.kt kt g).set hv⟩
  obtain ⟨ws, h3, h4⟩ := R.fld j t fs h1 h2
  exact ⟨ws, keep _ _ h3 fun z => R.ne3 (z ▸ List.mem_of_getElem? h1), h4.kt kt g⟩
/-- a field gets another pair -/
theorem IdR.setField (R : IdR H d tl hl ts I G) {n : Nat} {t : Addr} {vs : List V} (hn : n < I.things.length) (ht : ts[n]? = some t) (hh : H t = some (.lst vs)) (hvs : IVals H G vs (fieldsI I n)) {j : Nat} {v : V} {x : Vl} (keep : ∀ b u, H b = some u → b ≠ t → H' b = some u)
    (hh' : H' t = some (.lst (vs.set j v))) (al : ∀ a, G a → ∃ o, H' a = some o) (hv : IVal H' G v x) : IdR H' d tl hl ts { I with things := I.things.set n ((fieldsI I n).set j x) } G := by
  have tm := List.mem_of_getElem? ht
  have kt := kt_but (H' := H') (fun b u hb h1 h2 h3 => keep b u hb fun z => h3 (z ▸ tm)) R
  obtain ⟨n1, n2, n3⟩ := R.ned
  refine ⟨R.gd, R.gt, R.gh, R.gts, al, keep _ _ R.dict fun z => n3 (z ▸ tm), keep _ _ R.things fun z => R.ne2 (z ▸ tm), by rw [List.length_set]; exact R.len, R.nd, R.ne1, R.ne2, R.ne3, fun i u fs h1 h2 => ?_, ?_⟩
  · by_cases c : n = i
    · subst c
      rw [ht] at h1
      cases h1
      rw [List.getElem?_set_self hn] at h2
      cases h2
      exact ⟨_, hh', (hvs.kt kt fun _ h => h).set hv⟩
    · rw [List.getElem?_set_ne c] at h2
      obtain ⟨ws, h3, h4⟩ := R.fld i u fs h1 h2
      refine ⟨ws, keep _ _ h3 fun z => c ?_, h4.kt kt fun _ h => h⟩
      subst z
      have l1 := (List.getElem?_eq_some_iff.mp ht)
      have l2 := (List.getElem?_eq_some_iff.mp h1)
      exact (List.getElem_inj R.nd).mp (l1.2.trans l2.2.symm)
  · obtain ⟨ws, h3, h4⟩ := R.hnd
    exact ⟨ws, keep _ _ h3 fun z => R.ne3 (z ▸ tm), h4.kt kt fun _ h => h⟩
/-- a thing is made -/
theorem IdR.makeR (R : IdR H d tl hl ts I G) {vs ys : List V} (hh : H hl = some (.lst vs)) (hvs : IVals H G vs I.hands) {i m : Nat} {D q : Addr} (keep : ∀ b u, H b = some u → b ≠ tl → b ≠ hl → H' b = some u) (hD : H D = none) (hq : H q = none)
    (ht' : H' tl = some (.lst ((ts ++ [D]).map V.ref))) (hh' : H' hl = some (.lst (vs.set i (.ref q)))) (hD' : H' D = some (.lst ys)) (hq' : H' q = some (.tup [.str "thing", .int (I.things.length : Int)]))
    (hl' : ys.length = m) (hy : ∀ (i : Nat) (v : V), ys[i]? = some v → ∃ a, v = .ref a ∧ H a = none ∧ H' a = some (.tup [.str "number", .int 0])) :
    IdR H' d tl hl (ts ++ [D]) (makeI I i m) (fun b => G b ∨ b = D ∨ b = q ∨ H b = none ∧ ∃ i : Nat, ys[i]? = some (.ref b)) := by
  have kt := kt_but (H' := H') (fun b u hb h1 h2 h3 => keep b u hb h1 h2) R
  obtain ⟨n1, n2, n3⟩ := R.ned
  have nDt : D ∉ ts := fun z => by
    obtain ⟨o, ho⟩ := R.al D (R.gts D z)
    rw [hD] at ho
    cases ho
  refine ⟨.inl R.gd, .inl R.gt, .inl R.gh, fun t ht => ?_, fun a ha => ?_, keep _ _ R.dict n1 n2, ht', ?_, ?_, R.ne1, fun z => ?_, fun z => ?_, fun j t fs h1 h2 => ?_, _, hh', ?_⟩
  · rcases List.mem_append.mp ht with ht | ht
    · exact .inl (R.gts t ht)
    · exact .inr (.inl (List.mem_singleton.mp ht))
  · rcases ha with ha | rfl | rfl | ⟨_, j, hj⟩
    · obtain ⟨o, ho⟩ := R.al a ha
      by_cases c1 : a = tl
      · exact ⟨_, by rw [c1]; exact ht'⟩
      by_cases c2 : a = hl
      · exact ⟨_, by rw [c2]; exact hh'⟩
      exact ⟨o, keep _ _ ho c1 c2⟩
    · exact ⟨_, hD'⟩
    · exact ⟨_, hq'⟩
    · obtain ⟨b, h1, _, h3⟩ := hy j _ hj
      cases h1
      exact ⟨_, h3⟩
  · show (ts ++ [D]).length = (I.things ++ [_]).length
    rw [List.length_append, List.length_append, R.len]
    rfl
  · refine List.nodup_append.mpr ⟨R.nd, by simp, fun a ha b hb => ?_⟩
    obtain rfl := List.mem_singleton.mp hb
    exact fun z => nDt (z ▸ ha)
  · rcases List.mem_append.mp z with z | z
    · exact R.ne2 z
    · have := List.mem_singleton.mp z
      rw [← this, R.things] at hD
      cases hD
  · rcases List.mem_append.mp z with z | z
    · exact R.ne3 z
    · have := List.mem_singleton.mp z
      rw [← this, hh] at hD
      cases hD
  · have h2' : (I.things ++ [List.replicate m (Vl.num 0)])[j]? = some fs := h2
    by_cases c : j < ts.length
    · rw [List.getElem?_append_left c] at h1
      rw [List.getElem?_append_left (by rw [← R.len]; exact c)] at h2'
      obtain ⟨ws, h3, h4⟩ := R.fld j t fs h1 h2'
      have tm := List.mem_of_getElem? h1
      exact ⟨ws, keep _ _ h3 (fun z => R.ne2 (z ▸ tm)) (fun z => R.ne3 (z ▸ tm)), h4.kt kt fun _ h => .inl h⟩
    · have ej : j = ts.length := by
        have := (List.getElem?_eq_some_iff.mp h1).1
        rw [List.length_append, List.length_singleton] at this
        omega
      subst ej
      have eD : D = t := by simpa using h1
      subst eD
      rw [R.len] at h2'
      have ef : List.replicate m (Vl.num 0) = fs := by simpa using h2'
      subst ef
      refine ⟨ys, hD', by rw [List.length_replicate]; exact hl', fun k x hx => ?_⟩
      obtain rfl := List.eq_of_mem_replicate (List.mem_of_getElem? hx)
      have lt : k < ys.length := by
        rw [hl']
        have := (List.getElem?_eq_some_iff.mp hx).1
        rw [List.length_replicate] at this
        exact this
      obtain ⟨a, h3, h4, h5⟩ := hy k _ (List.getElem?_eq_getElem lt)
      exact ⟨.ref a, by rw [List.getElem?_eq_getElem lt, h3], a, rfl, .inr (.inr (.inr ⟨h4, k, by rw [List.getElem?_eq_getElem lt, h3]⟩)), h5⟩
  · exact (hvs.kt kt fun _ h => .inl h).set ⟨q, rfl, .inr (.inr (.inl rfl)), hq'⟩
end
theorem refI_none {I : Ideal} {h : Nat} {f : Int} (e : refI I h f = .none) : ∃ x, handI I h = .held x ∧ f < ((fieldsI I x).length : Int) := by
  unfold refI at e
  cases k : handI I h with
  | num n => rw [k] at e; cases e
  | held x =>
    rw [k] at e
    refine ⟨x, rfl, ?_⟩
    have e' : (if ((fieldsI I x).length : Int) ≤ f then Told.noField else .none) = .none := e
    by_cases c : ((fieldsI I x).length : Int) ≤ f
    · rw [if_pos c] at e'
      cases e'
    · omega
theorem told_non {t : Told} : (toldV t = .non) ↔ t = .none := by
  cases t with
  | none => exact ⟨fun _ => rfl, fun _ => rfl⟩
  | int n => exact ⟨fun z => by (cases z), fun z => by (cases z)⟩
  | noThing => exact ⟨fun z => by (cases z), fun z => by (cases z)⟩
  | noField => exact ⟨fun z => by (cases z), fun z => by (cases z)⟩
  | noRoom => exact ⟨fun z => by (cases z), fun z => by (cases z)⟩
  | notNow => exact ⟨fun z => by (cases z), fun z => by (cases z)⟩
theorem dg_things {H : Hp} {d tl hl : Addr} (h : H d = some (.dK [(Sum.inr "things", .ref tl), (Sum.inr "hands", .ref hl)])) : DGet H d (.str "things") (some (.ref tl)) := by
  have k := DGet.k (k := (Sum.inr "things" : Key)) h
  have e : valV [((Sum.inr "things" : Key), V.ref tl), (Sum.inr "hands", .ref hl)] (Sum.inr "things") = some (.ref tl) := valV_pos rfl
  rw [e] at k
  exact k
theorem handI_at {I : Ideal} {i : Nat} (hi : i < I.hands.length) : I.hands[i]? = some (handI I i) := by
  unfold handI
  rw [List.getD_eq_getElem?_getD, List.getElem?_eq_getElem hi]
  rfl
end G

/-! set(t) of a tuple of ints; how many things hands can come to. -/
namespace G
open L2 PySem PyProof.Rows PySem.Spec
def rSetTI (K : PySem.W.Frag) (w : World) : List V → Hp → VK → Prop := fun xs H Q => ∃ (l : Addr) (ns : List Int), xs = [.ref l] ∧ SqT K H l (ns.map V.int) ∧ ns.length ≤ 1000 ∧
  ∀ p c, H p = none → c ≤ ns.length → Q (.ref p) (upd H p (SetO w p (fun j => decide (j ∈ ns)) c))
theorem cr_setTI {X : Cx} (hc : X.calm = true) : CallR X (.type "set") (rSetTI X.K X.w) := by
  intro pins s σ H xs us Q I r h
  obtain ⟨l, ns, rfl, hq, hn, q⟩ := h
  obtain ⟨its, rv, pt, hz⟩ := I.tuple hq
  have hi : IntsAre its.toArray.toList ns := ints_of_vals rv
  rw [Vals.ref1 r]
  refine call_set_tupI ns (I.ok.hd hc) (show s.heap.IsTuple l its.toArray from pt) hi (by unfold scanBound; omega) fun h' tk c R1 hcn k => ?_
  exact ⟨.ref s.heap.objs.size, upd H s.heap.objs.size (SetO X.w s.heap.objs.size (fun j => decide (j ∈ ns)) c), I.laid (t' := tk) (fun b u e => k b u e) (Nat.le_refl _) (setO_new R1), rfl, q _ c (I.hok.fresh (Nat.le_refl _)) hcn⟩
end G

/-! A hall, the hall without an end and the acts, side by side. -/
namespace G
open L2 PySem PyProof.Rows PySem.Spec
structure Wd (K : PySem.W.Frag) (F : Addr → Prop) (H : Hp) (h : Addr) (s : St) (d tl hl : Addr) (ts : List Addr) (I : Ideal) (G : Addr → Prop) (l : Addr) (as : List Addr) (xs : List Act) : Prop where
  hall : HallAt K F H h s
  id : IdR (outF F H) d tl hl ts I G
  acts : ActsOut F H l as xs
  sep : ∀ b, G b → b ≠ l ∧ b ∉ as
section
variable {K : PySem.W.Frag} {F F' : Addr → Prop} {H H' : Hp} {h : Addr} {s s' : St} {d tl hl : Addr} {ts ts' : List Addr} {I I' : Ideal} {G G' : Addr → Prop} {l : Addr} {as : List Addr} {xs : List Act}
theorem Wd.kp (w : Wd K F H h s d tl hl ts I G l as xs) (k : Kp F H F' H') (R : HallAt K F' H' h s') : Wd K F' H' h s' d tl hl ts I G l as xs :=
  ⟨R, w.id.same (outF_kp k), w.acts.same (outF_kp k), w.sep⟩
theorem Wd.same (w : Wd K F H h s d tl hl ts I G l as xs) (e : Same H H') : Wd K F H' h s d tl hl ts I G l as xs :=
  ⟨w.hall.same e, w.id.same (outF_same e), w.acts.same (outF_same e), w.sep⟩
theorem Wd.idH (w : Wd K F H h s d tl hl ts I G l as xs) : IdR H d tl hl ts I G := w.id.same outF_le
theorem Wd.apart (w : Wd K F H h s d tl hl ts I G l as xs) : ∀ b, G b → ¬ F b := fun b hb => by
  obtain ⟨o, ho⟩ := w.id.al b hb
  exact (outF_some ho).1
theorem Wd.wish (w : Wd K F H h s d tl hl ts I G l as xs) (f : IFr H G H' G') (R : IdR H' d tl hl ts' I' G') : Wd K F H' h s d tl hl ts' I' G' l as xs := by
  have inF : ∀ a, F a → H' a = H a := fun a ha => by
    obtain ⟨ρ, _, R0⟩ := w.hall
    obtain ⟨o, ho⟩ := R0.al a ha
    rw [ho]
    exact f.out a o ho fun z => w.apart a z ha
  have nF : ∀ a, G' a → ¬ F a := fun a ha => by
    rcases f.own a ha with z | z
    · exact w.apart a z
    · exact w.hall.not_F z
  have keep : ∀ b u, outF F H b = some u → ¬ G b → outF F H' b = some u := fun b u hb hn => by
    obtain ⟨n, e⟩ := outF_some hb
    rw [outF_eq n]
    exact f.out b u e hn
  refine ⟨w.hall.outside inF, R.outF nF, ⟨keep _ _ w.acts.1 fun z => (w.sep _ z).1 rfl, w.acts.2.1, fun i x hx => ?_⟩, fun b hb => ?_⟩
  · obtain ⟨a, h1, h2⟩ := w.acts.2.2 i x hx
    exact ⟨a, h1, keep _ _ h2 fun z => (w.sep _ z).2 (List.mem_of_getElem? h1)⟩
  · rcases f.own b hb with z | z
    · exact w.sep b z
    · refine ⟨fun e => ?_, fun e => ?_⟩
      · rw [e, (outF_some w.acts.1).2] at z
        cases z
      · obtain ⟨i, hi⟩ := List.getElem?_of_mem e
        have lt : i < xs.length := by
          rw [← w.acts.2.1]
          exact (List.getElem?_eq_some_iff.mp hi).1
        obtain ⟨a, h1, h2⟩ := w.acts.2.2 i _ (List.getElem?_eq_getElem lt)
        rw [hi] at h1
        cases h1
        rw [(outF_some h2).2] at z
        cases z
theorem Wd.start (R : HallAt K F H h s) (al : ∀ b, G b → H b = none) {H1 H2 : Hp} (e1 : Same H H1) (id : IdR H1 d tl hl ts I G) (nl : H1 l = none) (hl' : H2 l = some (.lst (as.map V.ref))) (hA : ActsAt H1 H2 as xs) (e2 : Same H1 H2) : Wd K F H2 h s d tl hl ts I G l as xs := by
  have e := e1.trans e2
  obtain ⟨ρ, hρ, R0⟩ := R
  have R1 := R0.same e1
  refine ⟨⟨ρ, hρ, R0.same e⟩, (id.same e2).outF fun b hb => not_F R0.al (al b hb), ActsOut.mk' R1.al nl hl' hA, fun b hb => ⟨fun z => ?_, fun z => ?_⟩⟩
  · obtain ⟨o, ho⟩ := id.al b hb
    rw [z, nl] at ho
    cases ho
  · obtain ⟨i, hi⟩ := List.getElem?_of_mem z
    have lt : i < xs.length := by
      rw [← hA.1]
      exact (List.getElem?_eq_some_iff.mp hi).1
    obtain ⟨a, h1, h2, _⟩ := hA.2 i _ (List.getElem?_eq_getElem lt)
    rw [hi] at h1
    cases h1
    obtain ⟨o, ho⟩ := id.al b hb
    rw [h2] at ho
    cases ho
end
theorem told_ne {t : Told} (h : t ≠ .noRoom) : decide (toldV t = .str "no room") = false := told_noRoom h
/-- hands come to fewer than 64 things -/
theorem come_few {s : St} {L : Int → Prop} {f : Int → Int} {I : Ideal} {n : Nat} (sm : Sim L s f I) (c : Core s L) (hm : s.mem.length ≤ 1000) (fw : Few n I) (hn : n ≤ 64) : (comeS s).length ≤ 63 := by
  rw [come_ord sm c hm]
  exact few_ord fw hn (sm.vd c).1 (sm.dm c).cl (sm.dm c).ran (sm.begins c)
end G

/-! What is left by a make that is refused. -/
namespace G
open L2 PySem PyProof.Rows PySem.Spec
open Classical in
/-- a make that is refused -/
theorem refused {s : St} {L : Int → Prop} {f : Int → Int} {I : Ideal} (sm : Sim L s f I) (iv : G.Inv s L) (hz : s.size ≤ 200) {x y : Nat} (hy : y ≤ 6) (hm : (makeS s x y).1 = false) :
    doAct s (.make x y) = (.noRoom, collect s) ∧ s.size < liveI I + (2 + y) ∧ ∃ L' f' ws, G.Inv (collect s) L' ∧ Sim L' (collect s) f' I ∧ (collect s).size = s.size ∧ (collect s).ph = .idle ∧ blocksS (collect s) = pack (collect s).size 0 ws ∧ ws.sum = liveI I ∧ (comeS (collect s)).length = (collect s).mem.length ∧ (makeS (collect s) x y).1 = false := by
  obtain ⟨h1, h2⟩ := make_false sm iv (by omega) hm
  have e : doAct s (.make x y) = (.noRoom, collect s) := by
    have e1 : doAct s (.make x y) = if (makeS s x y).1 = true then (.none, (makeS s x y).2) else (.noRoom, (makeS s x y).2) := rfl
    rw [e1, hm, if_neg Bool.false_ne_true, h2]
  obtain ⟨L', f', i', m'⟩ := sm.collect iv
  have ht := collect_total sm iv (by omega)
  obtain ⟨s2, R, ec, hid, hs, i2, m2, hall, _⟩ := collect_full sm iv
  have hsz : (collect s).size = s.size := by rw [ec]; exact hs
  have hb : blocksS (collect s) = pack (collect s).size 0 (wids (collect s).mem) := by
    rw [ec, blocks_slid, wids_slid]
    rfl
  refine ⟨e, h1, L', f', _, i', m', hsz, by rw [ec]; exact hid, hb, ht, ?_, ?_⟩
  · have l1 := come_ord m' i'.core (small_mem i'.core.lay (by omega))
    have l2 := come_ord m2 i2.core (small_mem i2.core.lay (by omega))
    have l3 : (comeS s2).length = s2.mem.length := by
      rw [← live_len]
      unfold liveM
      rw [List.filter_eq_self.mpr fun z hz => decide_eq_true (hall z hz)]
    have l4 : (collect s).mem.length = s2.mem.length := by
      rw [← wids_len, ← wids_len, ec, wids_slid]
    omega
  · cases e2 : (makeS (collect s) x y).1 with
    | false => rfl
    | true =>
      have := make_true m' i' (by omega) hy e2
      omega
/-- what hands hold, as data -/
def valsI (I : Ideal) : PyData := .list ((List.range 8).map (valI I))
theorem sh_valI (I : Ideal) (i : Nat) : Sh 1 (valI I i) := by
  unfold valI
  split
  · exact sh_tup fun d hd => by
      simp only [List.mem_cons, List.not_mem_nil, or_false] at hd
      rcases hd with rfl | rfl
      · exact sh_str _
      · exact sh_int _ _
  · exact sh_tup fun d hd => by
      simp only [List.mem_cons, List.not_mem_nil, or_false] at hd
      rcases hd with rfl | rfl
      · exact sh_str _
      · exact sh_int _ _
theorem sh_vals (I : Ideal) : Sh 2 (valsI I) := sh_lst fun d hd => by
  obtain ⟨i, _, rfl⟩ := List.mem_map.mp hd
  exact sh_valI I i
theorem iteE {v : V} {A B : Prop} (a : A) : if decide (v = v) = true then A else B := by
  rw [if_pos (decide_eq_true rfl)]
  exact a
/-- len of a list or a tuple, as it stands in a comprehension -/
def rLenS (K : PySem.W.Frag) (xs : List V) (H : Hp) (Q : VK) : Prop := ∃ p ys, xs = [.ref p] ∧ (SqL K H p ys ∨ SqT K H p ys) ∧ Q (.int ys.length) H
def sp_l_live (K : PySem.W.Frag) : Sp := fun vs H Q _ => ∃ d tl hl ts I O D, vs = [.ref d] ∧ IdR H d tl hl ts I O ∧ Vd I ∧ (∀ n, (fieldsI I n).length ≤ 6) ∧ I.things.length ≤ 100 ∧ Dm I D ∧ (∀ q, .held q ∈ I.hands → D q) ∧ ∀ H', Same H H' → Q (.int (liveI I)) H'
def sp_l_tight (K : PySem.W.Frag) : Sp := fun vs H Q _ => ∃ F h s L live ws, vs = [.ref h, .int live] ∧ HallAt K F H h s ∧ G.Inv s L ∧ s.mem.length ≤ 200 ∧ blocksS s = pack s.size 0 ws ∧ ws.sum = live ∧ s.ph = .idle ∧ (comeS s).length = s.mem.length ∧ ∀ H', Same H H' → Q (.bl true) H'
def sp_l_by_base (K : PySem.W.Frag) : Sp := fun vs H Q _ => ∃ F h s L a x y, vs = [.ref h, .ref a] ∧ HallAt K F H h s ∧ G.Inv s L ∧ s.size ≤ 100000 ∧ ActOk (.make x y) ∧ (makeS s x y).1 = false ∧ outF F H a = some (.tup (actVs (.make x y))) ∧
  ∀ F' H', Kp F H F' H' → HallAt K F' H' h (makeS s x y).2 → Q (.bl true) H'
theorem call_isExT {X : Cx} {a : Addr} {oe : Obj} {cls : Value} {d : Option Addr} {pn : List (Addr × Obj)} (hz : Zc cls d oe) (hf : ∃ vs, oe.data = .fields vs) :
    CallR (X.suite a ((a, oe) :: pn)) (.builtin "isinstance") (fun xs H Q => ∃ D, cls = .ref D ∧ d = none ∧ ExcC X.K D ∧ ∃ (tp : Addr) (cs : List V) (us : List Value) (b : Bool), xs = [.ref a, .ref tp] ∧ H tp = some (.tup cs) ∧ Paired ClsV cs us ∧ PySem.W.kitAny X.K (.ref D) us = some b ∧ Q (.bl b) H) := by
  intro pins s σ H xs us Q I r h
  obtain ⟨D, rfl, rfl, C, tp, cs, ws, b, rfl, hT, k, e, q⟩ := h
  obtain ⟨u1, u2, rfl, rx, rt⟩ := vals2 r
  cases rx
  cases (show u2 = Value.ref tp from rt)
  obtain ⟨hget, _⟩ := I.pin (a, oe) (List.mem_append.mpr (.inl List.mem_cons_self))
  obtain ⟨vs, hv⟩ := hf
  have J : PySem.W.InstAt s.heap a oe D none := by
    obtain ⟨oc, od, oda, osl⟩ := oe
    obtain ⟨z1, z2⟩ := hz
    dsimp only at z1 z2 hv
    subst z1 z2 hv
    exact ⟨hget, rfl, rfl, trivial⟩
  obtain ⟨_, its, rv, o, h1, h2, n, h3⟩ := (show ObjOk X.prog X.w H s.heap tp (.tup cs) from I.hok tp _ hT)
  have e3 := ClsV.all k rv
  subst e3
  obtain ⟨oc, od, dt, sl⟩ := o
  simp only at h2 h3
  subst h2 h3
  exact PySem.W.kia_tup (PySem.W.handS_kitx_exc C.hg C.hk C.hs C.hd C.ha C.hn C.ht C.hm) I.kIn J h1 e (fun z => nomatch z) fun tk => ⟨.bl b, H, I.kept (t' := tk) fun _ _ z => z, rfl, q⟩
theorem pack_use (z : Int) : ∀ (ws : List Int) (a : Int), ∀ b ∈ pack z a ws, b.2.2 = 0 ∨ b.2.2 = 1
  | [], a, b, hb => by
    unfold pack at hb
    split at hb
    · obtain rfl := List.mem_singleton.mp hb
      exact .inl rfl
    · cases hb
  | w :: r, a, b, hb => by
    rcases List.mem_cons.mp hb with rfl | hb
    · exact .inr rfl
    · exact pack_use z r _ b hb
end G

/-! Shapes by kind; pairs of the hall without an end, as data. -/
namespace G
open L2 PySem PyProof.Rows PySem.Spec
def ivD : Vl → PyData
  | .num n => .tuple [.str "number", .int n]
  | .held q => .tuple [.str "thing", .int q]
theorem sh_iv (v : Vl) : Sh 1 (ivD v) := by
  cases v with
  | num n =>
    exact sh_tup fun d hd => by
      simp only [List.mem_cons, List.not_mem_nil, or_false] at hd
      rcases hd with rfl | rfl
      · exact sh_str _
      · exact sh_int _ _
  | held p =>
    exact sh_tup fun d hd => by
      simp only [List.mem_cons, List.not_mem_nil, or_false] at hd
      rcases hd with rfl | rfl
      · exact sh_str _
      · exact sh_int _ _
theorem tp_iv {H : Hp} {G : Addr → Prop} {v : V} {x : Vl} (h : IVal H G v x) : Tp H v (ivD x) := by
  obtain ⟨a, rfl, _, ha⟩ := h
  cases x with
  | num n => exact .tup ha (.cons (.str _) (.cons (.int _) .nil))
  | held q => exact .tup ha (.cons (.str _) (.cons (.int _) .nil))
theorem eqv_held (x : Int) (v : Vl) : PyData.eqv (ivD (.held x)) (ivD v) = alikeB (.held x) v := by
  cases v with
  | num n =>
    have e : PyData.eqv (.str "thing") (.str "number") = false := by decide +kernel
    show PyData.eqvAll [.str "thing", .int x] [.str "number", .int n] = false
    unfold PyData.eqvAll
    rw [e]
    rfl
  | held q =>
    have e : PyData.eqv (.str "thing") (.str "thing") = true := by decide +kernel
    show PyData.eqvAll [.str "thing", .int x] [.str "thing", .int q] = decide (x = q)
    unfold PyData.eqvAll
    rw [e]
    simp only [PyData.eqv, PyData.eqvAll, Bool.true_and, Bool.and_true]
    by_cases c : x = q
    · rw [c, decide_eq_true rfl, beq_self_eq_true]
    · rw [decide_eq_false c, beq_eq_false_iff_ne.mpr c]
def cutD (ds : List PyData) (lo hi : Option Int) : List PyData := (ds.drop (HT.sIx ds.length 0 lo)).take (HT.sIx ds.length ds.length hi - HT.sIx ds.length 0 lo)
/-- t[a:b] of data, told -/
def rSlE (K : PySem.W.Frag) : V → Option Int → Option Int → Hp → VK → Prop := fun x lo hi H Q => ∃ ds, Dp K H x (.tuple ds) ∧ ∀ v H', Same H H' → Dp K H' v (.tuple (cutD ds lo hi)) → Q v H'
theorem sl_E {X : Cx} : SlR X (rSlE X.K) := by
  intro pins s σ H x v vl vu lo hi sl Q I rx hs pl pu h
  obtain ⟨ds, hd, q⟩ := h
  obtain ⟨a, xs, rfl, hx, hall⟩ := dp_tup hd
  have hl := dpAll_len hall
  refine sl_tupA pins s σ H _ v vl vu lo hi sl Q I rx hs pl pu ⟨a, xs, rfl, hx, fun c => ?_, fun _ p hp => ?_⟩
  · refine q _ _ (fun _ _ h => h) ?_
    have e : cutD ds lo hi = ds := by
      unfold cutD
      rw [← hl, c.1, c.2, List.drop_zero, List.take_of_length_le (by omega)]
    rw [e]
    exact hd
  · refine q _ _ (same_new hp) (dp_newT upd_same (dpAll_same (same_new hp) _ ?_))
    have := dpAll_take (HT.sIx xs.length xs.length hi - HT.sIx xs.length 0 lo) (dpAll_drop (HT.sIx xs.length 0 lo) hall)
    unfold cutD
    rw [← hl]
    exact this
theorem cutD_to (ds : List PyData) (n : Nat) : cutD ds none (some (n : Int)) = ds.take n := by
  unfold cutD
  rw [HT.sIx_none, HT.sIx_nat, List.drop_zero, Nat.sub_zero]
  by_cases c : n ≤ ds.length
  · rw [Nat.min_eq_left c]
  · rw [Nat.min_eq_right (by omega), List.take_of_length_le (Nat.le_refl _), List.take_of_length_le (by omega)]
theorem cutD_one (ds : List PyData) : cutD ds none (some 1) = ds.take 1 := cutD_to ds 1
theorem sh_take {n : Nat} {ds : List PyData} (h : ∀ d ∈ ds, Sh n d) (k : Nat) : Sh (n + 1) (.tuple (ds.take k)) := sh_tup fun d hd => h d (List.mem_of_mem_take hd)
theorem sh_number : Sh 1 (.tuple [.str "number"]) := sh_tup fun d hd => by
  obtain rfl := List.mem_singleton.mp hd
  exact sh_str _
theorem rows_number (fd : Int → List Vl) (o o' : List Int) : PyData.eqv (.tuple ((o'.map fun x => rowD o (fd x)).take 1)) (.tuple [.str "number"]) = false := by
  cases o' with
  | nil => rfl
  | cons x r =>
    show PyData.eqv (.tuple [rowD o (fd x)]) (.tuple [.str "number"]) = false
    unfold rowD
    simp only [PyData.eqv, PyData.eqvAll, Bool.false_and]
def sp_l_kinds (K : PySem.W.Frag) : Sp := fun vs H Q _ => ∃ v fd x, vs = [v] ∧ Tp H v (shapeD fd x) ∧ ∀ H', Same H H' → Q (.bl true) H'
/-- the shape of a hand, told by the hall without an end -/
def sp_l_shape (K : PySem.W.Frag) : Sp := fun vs H Q _ => ∃ d tl hl ts I O D, ∃ i : Nat, vs = [.ref d, .int i] ∧ IdR H d tl hl ts I O ∧ Vd I ∧ (∀ n, (fieldsI I n).length ≤ 6) ∧ I.things.length ≤ 100 ∧ Dm I D ∧ (∀ q, .held q ∈ I.hands → D q) ∧ i < 8 ∧ ∀ v H', Same H H' → Tp H' v (shapeI I i) → Q v H'
/-- what is due of an act -/
def dueI (I : Ideal) (x : Act) (t : Told) : Told × Ideal := if t = .noRoom then (.noRoom, I) else if quiet x = false then (t, I) else wishI I x
def sp_l_due (K : PySem.W.Frag) : Sp := fun vs H Q _ => ∃ d tl hl ts I G a x t, vs = [.ref d, .ref a, toldV t] ∧ IdR H d tl hl ts I G ∧ Vd I ∧ ActOk x ∧ (t = .noRoom → ∃ h m, x = .make h m) ∧ I.things.length ≤ 900 ∧ (∀ n, (fieldsI I n).length ≤ 6) ∧ ¬ G a ∧ H a = some (.tup (actVs x)) ∧
  ∀ H' ts' G', IFr H G H' G' → IdR H' d tl hl ts' (dueI I x t).2 G' → Q (toldV (dueI I x t).1) H'
open Classical in
/-- the order from one thing on: closed, and as long as there are things at most -/
theorem ord_closed {I : Ideal} {D : Int → Prop} (dm : Dm I D) {q : Int} (hq : D q) (hl : I.things.length ≤ 1000) :
    (∀ x ∈ ordF (fieldsI I) 1000 0 [q], D x) ∧ (∀ x ∈ ordF (fieldsI I) 1000 0 [q], ∀ z, .held z ∈ fieldsI I x → z ∈ ordF (fieldsI I) 1000 0 [q]) ∧ (ordF (fieldsI I) 1000 0 [q]).length ≤ I.things.length := by
  have h1 : ∀ x ∈ [q], D x := fun x hx => by
    rw [List.mem_singleton.mp hx]
    exact hq
  have nd : [q].Nodup := List.nodup_cons.mpr ⟨fun z => (by cases z), List.nodup_nil⟩
  have hD := ordF_D dm.cl 1000 0 h1
  have mP : ∀ x, D x → x ∈ ((List.range I.things.length).map (fun n : Nat => (n : Int))).filter fun x => decide (D x) := fun x hx => by
    obtain ⟨n, rfl, hn⟩ := dm.ran x hx
    exact List.mem_filter.mpr ⟨List.mem_map.mpr ⟨n, List.mem_range.mpr hn, rfl⟩, decide_eq_true hx⟩
  have lP : (((List.range I.things.length).map (fun n : Nat => (n : Int))).filter fun x => decide (D x)).length ≤ I.things.length := by
    have := List.length_filter_le (fun x => decide (D x)) ((List.range I.things.length).map (fun n : Nat => (n : Int)))
    rw [List.length_map, List.length_range] at this
    exact this
  refine ⟨hD, ?_, ?_⟩
  · refine ordF_closed (P := ((List.range I.things.length).map (fun n : Nat => (n : Int))).filter fun x => decide (D x)) (fun z hz => ?_) 1000 0 nd (fun x hx => mP x (h1 x hx)) (Nat.zero_le _) (by omega) (fun x hx => by simp at hx)
    obtain ⟨x, hx, hz⟩ := hz
    exact mP z (dm.cl x z (of_decide_eq_true (List.mem_filter.mp hx).2) hz)
  · exact Nat.le_trans (nodup_len (ordF_nodup 1000 0 nd) fun x hx => mP x (hD x hx)) lP
theorem due_ok {I : Ideal} {x : Act} {t : Told} (td : quiet x = true → t ≠ .noRoom → t = (wishI I x).1) : (dueI I x t).1 = t ∧ (dueI I x t).2 = if t = .noRoom then I else (wishI I x).2 := by
  unfold dueI
  by_cases c : t = .noRoom
  · rw [if_pos c, if_pos c]
    exact ⟨c.symm, rfl⟩
  · rw [if_neg c, if_neg c]
    cases hx : quiet x with
    | false =>
      rw [if_pos rfl]
      refine ⟨rfl, ?_⟩
      cases x <;> first | rfl | cases hx
    | true =>
      rw [if_neg (fun z => by cases z)]
      exact ⟨(td hx c).symm, rfl⟩
end G

/-! The hall that is done by hand beside: a dict of size, things, hands, phase, finger. -/
namespace G
open L2 PySem PyProof.Rows PySem.Spec
def VB (m : Mem) : Tag → Prop
  | .hall => True
  | .hl => True
  | .dc => True
  | .th p => ∃ t, get m p = some t
  | .fl p => ∃ t, get m p = some t
  | .mem => False
  | .sw => False
structure DV (kvs : List (Key × V)) (s : St) (tl hl : Addr) : Prop where
  size : valV kvs (Sum.inr "size") = some (.int s.size)
  things : valV kvs (Sum.inr "things") = some (.ref tl)
  hands : valV kvs (Sum.inr "hands") = some (.ref hl)
  phase : valV kvs (Sum.inr "phase") = some (.str (phS s.ph))
  finger : valV kvs (Sum.inr "finger") = some (.int s.fin)
theorem inr_ne {x y : Str} (h : (x == y) = false) : ¬ (Sum.inr x : Key) = Sum.inr y := fun z => by
  have e := Sum.inr.inj z
  subst e
  simp at h
theorem putK_old {kvs : List (Key × V)} {k : Key} {v u : V} (h : valV kvs k = some u) : (putK kvs k v).length = kvs.length := by
  unfold putK
  rw [valV_any, h]
  simp
section
variable {kvs : List (Key × V)} {s : St} {tl hl : Addr}
theorem DV.setPhase (D : DV kvs s tl hl) (p : Ph) : DV (putK kvs (Sum.inr "phase") (.str (phS p))) { s with ph := p } tl hl := by
  constructor
  · rw [valV_put, if_neg (inr_ne (by decide +kernel))]; exact D.size
  · rw [valV_put, if_neg (inr_ne (by decide +kernel))]; exact D.things
  · rw [valV_put, if_neg (inr_ne (by decide +kernel))]; exact D.hands
  · rw [valV_put, if_pos rfl]
  · rw [valV_put, if_neg (inr_ne (by decide +kernel))]; exact D.finger
theorem DV.setFinger (D : DV kvs s tl hl) (p : Int) : DV (putK kvs (Sum.inr "finger") (.int p)) { s with fin := p } tl hl := by
  constructor
  · rw [valV_put, if_neg (inr_ne (by decide +kernel))]; exact D.size
  · rw [valV_put, if_neg (inr_ne (by decide +kernel))]; exact D.things
  · rw [valV_put, if_neg (inr_ne (by decide +kernel))]; exact D.hands
  · rw [valV_put, if_neg (inr_ne (by decide +kernel))]; exact D.phase
  · rw [valV_put, if_pos rfl]
theorem DV.setThings (D : DV kvs s tl hl) (t : Addr) : DV (putK kvs (Sum.inr "things") (.ref t)) s t hl := by
  constructor
  · rw [valV_put, if_neg (inr_ne (by decide +kernel))]; exact D.size
  · rw [valV_put, if_pos rfl]
  · rw [valV_put, if_neg (inr_ne (by decide +kernel))]; exact D.hands
  · rw [valV_put, if_neg (inr_ne (by decide +kernel))]; exact D.phase
  · rw [valV_put, if_neg (inr_ne (by decide +kernel))]; exact D.finger
theorem DV.setHands (D : DV kvs s tl hl) (t : Addr) : DV (putK kvs (Sum.inr "hands") (.ref t)) s tl t := by
  constructor
  · rw [valV_put, if_neg (inr_ne (by decide +kernel))]; exact D.size
  · rw [valV_put, if_neg (inr_ne (by decide +kernel))]; exact D.things
  · rw [valV_put, if_pos rfl]
  · rw [valV_put, if_neg (inr_ne (by decide +kernel))]; exact D.phase
  · rw [valV_put, if_neg (inr_ne (by decide +kernel))]; exact D.finger
end
structure ByR (H : Hp) (ρ : Tag → Addr) (s : St) (O : Addr → Prop) : Prop where
  inj : ∀ g g', VB s.mem g → VB s.mem g' → ρ g = ρ g' → g = g'
  own : ∀ g, VB s.mem g → O (ρ g)
  al : ∀ a, O a → ∃ o, H a = some o
  dict : ∃ kvs, H (ρ .hall) = some (.dK kvs) ∧ kvs.length ≤ 5 ∧ DV kvs s (ρ .dc) (ρ .hl)
  hl : ∃ vs, H (ρ .hl) = some (.lst vs) ∧ IVals H O vs s.hands
  dc : ∃ kvs, H (ρ .dc) = some (.dK kvs) ∧ kvs.Perm (pairs ρ s.mem)
  th : ∀ p t, get s.mem p = some t → H (ρ (.th p)) = some (.lst [.ref (ρ (.fl p)), .str (colS t.col)])
  fl : ∀ p t, get s.mem p = some t → ∃ vs, H (ρ (.fl p)) = some (.lst vs) ∧ IVals H O vs t.fs
def ByAt (H : Hp) (d : Addr) (s : St) (O : Addr → Prop) : Prop := ∃ ρ, ρ .hall = d ∧ ByR H ρ s O
theorem IFr.trans {H H1 H2 : Hp} {O G1 G2 : Addr → Prop} (al : ∀ a, O a → ∃ o, H a = some o) (a : IFr H O H1 G1) (b : IFr H1 G1 H2 G2) : IFr H O H2 G2 := by
  refine ⟨fun c u hc hn => b.out c u (a.out c u hc hn) fun z => ?_, fun c hc => ?_⟩
  · rcases a.own c z with z | z
    · exact hn z
    · rw [hc] at z; cases z
  · rcases b.own c hc with z | z
    · exact a.own c z
    · by_cases w : O c
      · exact .inl w
      · refine .inr ?_
        cases e : H c with
        | none => rfl
        | some o =>
          rw [a.out c o e w] at z
          cases z
theorem IFr.same {H H' : Hp} {O : Addr → Prop} (e : Same H H') : IFr H O H' O := ⟨fun b u hb _ => e b u hb, fun b hb => .inl hb⟩
theorem IFr.upd {H : Hp} {O : Addr → Prop} {a : Addr} {o : HO} (h : O a) : IFr H O (L2.upd H a o) O := ⟨fun b u hb hn => by
  rw [upd_ne (fun z => hn (by rw [z]; exact h))]
  exact hb, fun b hb => .inl hb⟩
theorem VB.modT {m : Mem} {p : Int} {f : Th → Th} {g : Tag} : VB (modT m p f) g ↔ VB m g := by
  have k := @VT.modT m p f g
  cases g <;> first | exact k | exact Iff.rfl
theorem VB.del {m : Mem} {p : Int} {g : Tag} (v : VB (del m p) g) : VB m g := by
  cases g with
  | th q => exact VT.del (g := .th q) v
  | fl q => exact VT.del (g := .fl q) v
  | hall => trivial
  | hl => trivial
  | dc => trivial
  | mem => cases v
  | sw => cases v
section
variable {H H' : Hp} {ρ : Tag → Addr} {s : St} {O : Addr → Prop}
theorem ByR.ne (R : ByR H ρ s O) {g g' : Tag} (v : VB s.mem g) (v' : VB s.mem g') (h : g ≠ g') : ρ g ≠ ρ g' := fun e => h (R.inj g g' v v' e)
theorem ByR.objAt (R : ByR H ρ s O) {g : Tag} (v : VB s.mem g) : ∃ o, H (ρ g) = some o := R.al _ (R.own g v)
theorem ByR.notTup (R : ByR H ρ s O) {g : Tag} (v : VB s.mem g) : ∀ xs, H (ρ g) ≠ some (.tup xs) := fun xs h => by
  cases g with
  | hall =>
    obtain ⟨kvs, e, _⟩ := R.dict
    rw [h] at e; cases e
  | hl =>
    obtain ⟨vs, e, _⟩ := R.hl
    rw [h] at e; cases e
  | dc =>
    obtain ⟨kvs, e, _⟩ := R.dc
    rw [h] at e; cases e
  | th p =>
    obtain ⟨t, g⟩ := v
    rw [R.th p t g] at h; cases h
  | fl p =>
    obtain ⟨t, g⟩ := v
    obtain ⟨vs, e, _⟩ := R.fl p t g
    rw [h] at e; cases e
  | mem => exact v
  | sw => exact v
theorem ByR.ktu (R : ByR H ρ s O) {g : Tag} (v : VB s.mem g) (o : HO) : KT H (upd H (ρ g) o) := KT.upd (R.notTup v)
theorem ByR.same (R : ByR H ρ s O) (e : Same H H') : ByR H' ρ s O where
  inj := R.inj
  own := R.own
  al := fun a h => by
    obtain ⟨o, h⟩ := R.al a h
    exact ⟨o, e _ _ h⟩
  dict := by
    obtain ⟨kvs, h, k⟩ := R.dict
    exact ⟨kvs, e _ _ h, k⟩
  hl := by
    obtain ⟨vs, h, k⟩ := R.hl
    exact ⟨vs, e _ _ h, k.kt (KT.of_same e) fun _ h => h⟩
  dc := by
    obtain ⟨kvs, h, k⟩ := R.dc
    exact ⟨kvs, e _ _ h, k⟩
  th := fun p t g => e _ _ (R.th p t g)
  fl := fun p t g => by
    obtain ⟨vs, h, k⟩ := R.fl p t g
    exact ⟨vs, e _ _ h, k.kt (KT.of_same e) fun _ h => h⟩
/-- the hall by hand where only what it does not own changed -/
theorem ByR.outside (R : ByR H ρ s O) (e : ∀ a, O a → H' a = H a) : ByR H' ρ s O := by
  have kv : ∀ {vs : List V} {xs : List Vl}, IVals H O vs xs → IVals H' O vs xs := fun {vs xs} h => ⟨h.1, fun i x hx => by
    obtain ⟨v, h1, a, h2, h3, h4⟩ := h.2 i x hx
    exact ⟨v, h1, a, h2, h3, by rw [e a h3]; exact h4⟩⟩
  refine ⟨R.inj, R.own, fun a h => by rw [e a h]; exact R.al a h, ?_, ?_, ?_, fun p t g => ?_, fun p t g => ?_⟩
  · rw [e _ (R.own .hall trivial)]; exact R.dict
  · rw [e _ (R.own .hl trivial)]
    obtain ⟨vs, h, k⟩ := R.hl
    exact ⟨vs, h, kv k⟩
  · rw [e _ (R.own .dc trivial)]; exact R.dc
  · rw [e _ (R.own (.th p) ⟨t, g⟩)]; exact R.th p t g
  · rw [e _ (R.own (.fl p) ⟨t, g⟩)]
    obtain ⟨vs, h, k⟩ := R.fl p t g
    exact ⟨vs, h, kv k⟩
/-- a thing's colour -/
theorem ByR.setCol (R : ByR H ρ s O) {p : Int} {t : Th} (g : get s.mem p = some t) (c : Col) :
    ByR (upd H (ρ (.th p)) (.lst [.ref (ρ (.fl p)), .str (colS c)])) ρ { s with mem := modT s.mem p (G.setCol c) } O := by
  have v : VB s.mem (.th p) := ⟨t, g⟩
  have kt := R.ktu v (.lst [.ref (ρ (.fl p)), .str (colS c)])
  have ne : ∀ g', VB s.mem g' → g' ≠ .th p → upd H (ρ (.th p)) (.lst [.ref (ρ (.fl p)), .str (colS c)]) (ρ g') = H (ρ g') := fun g' v' n => upd_ne (R.ne v' v n)
  refine ⟨fun g g' v v' => R.inj g g' (VB.modT.mp v) (VB.modT.mp v'), fun g v => R.own g (VB.modT.mp v), upd_al R.al, ?_, ?_, ?_, fun q u gu => ?_, fun q u gu => ?_⟩
  · obtain ⟨kvs, e, hl, d⟩ := R.dict
    exact ⟨kvs, (ne .hall trivial (by simp)).trans e, hl, ⟨d.1, d.2, d.3, d.4, d.5⟩⟩
  · obtain ⟨vs, e, k⟩ := R.hl
    exact ⟨vs, (ne .hl trivial (by simp)).trans e, k.kt kt fun _ h => h⟩
  · obtain ⟨kvs, e, k⟩ := R.dc
    exact ⟨kvs, (ne .dc trivial (by simp)).trans e, by rw [pairs_modT]; exact k⟩
  · have gu' : get (modT s.mem p (G.setCol c)) q = some u := gu
    rw [get_modT] at gu'
    split at gu'
    · rename_i eq
      subst eq
      rw [g] at gu'
      cases gu'
      exact upd_same
    · rename_i nq
      exact (ne (.th q) ⟨u, gu'⟩ (by simp [nq])).trans (R.th q u gu')
  · have gu' : get (modT s.mem p (G.setCol c)) q = some u := gu
    rw [get_modT] at gu'
    split at gu'
    · rename_i eq
      subst eq
      rw [g] at gu'
      cases gu'
      obtain ⟨vs, e, k⟩ := R.fl q t g
      exact ⟨vs, (ne (.fl q) ⟨t, g⟩ (by simp)).trans e, k.kt kt fun _ h => h⟩
    · obtain ⟨vs, e, k⟩ := R.fl q u gu'
      exact ⟨vs, (ne (.fl q) ⟨u, gu'⟩ (by simp)).trans e, k.kt kt fun _ h => h⟩
/-- a field of a thing -/
theorem ByR.setField (R : ByR H ρ s O) {p : Int} {t : Th} (g : get s.mem p = some t) {vs : List V} (hv : IVals H O vs t.fs) {i : Nat} {v : V} {x : Vl} (hx : IVal H O v x) :
    ByR (upd H (ρ (.fl p)) (.lst (vs.set i v))) ρ { s with mem := modT s.mem p (G.setField i x) } O := by
  have v0 : VB s.mem (.fl p) := ⟨t, g⟩
  have kt := R.ktu v0 (.lst (vs.set i v))
  have ne : ∀ g', VB s.mem g' → g' ≠ .fl p → upd H (ρ (.fl p)) (.lst (vs.set i v)) (ρ g') = H (ρ g') := fun g' v' n => upd_ne (R.ne v' v0 n)
  refine ⟨fun g g' v v' => R.inj g g' (VB.modT.mp v) (VB.modT.mp v'), fun g v => R.own g (VB.modT.mp v), upd_al R.al, ?_, ?_, ?_, fun q u gu => ?_, fun q u gu => ?_⟩
  · obtain ⟨kvs, e, hl, d⟩ := R.dict
    exact ⟨kvs, (ne .hall trivial (by simp)).trans e, hl, ⟨d.1, d.2, d.3, d.4, d.5⟩⟩
  · obtain ⟨vs, e, k⟩ := R.hl
    exact ⟨vs, (ne .hl trivial (by simp)).trans e, k.kt kt fun _ h => h⟩
  · obtain ⟨kvs, e, k⟩ := R.dc
    exact ⟨kvs, (ne .dc trivial (by simp)).trans e, by rw [pairs_modT]; exact k⟩
  · have gu' : get (modT s.mem p (G.setField i x)) q = some u := gu
    rw [get_modT] at gu'
    split at gu'
    · rename_i eq
      subst eq
      rw [g] at gu'
      cases gu'
      exact (ne (.th q) ⟨t, g⟩ (by simp)).trans (R.th q t g)
    · exact (ne (.th q) ⟨u, gu'⟩ (by simp)).trans (R.th q u gu')
  · have gu' : get (modT s.mem p (G.setField i x)) q = some u := gu
    rw [get_modT] at gu'
    split at gu'
    · rename_i eq
      subst eq
      rw [g] at gu'
      cases gu'
      exact ⟨_, upd_same, (hv.kt kt fun _ h => h).set (hx.kt kt fun _ h => h)⟩
    · rename_i nq
      obtain ⟨vs, e, k⟩ := R.fl q u gu'
      exact ⟨vs, (ne (.fl q) ⟨u, gu'⟩ (by simp [nq])).trans e, k.kt kt fun _ h => h⟩
/-- a hand -/
theorem ByR.setHand (R : ByR H ρ s O) {vs : List V} (hv : IVals H O vs s.hands) {i : Nat} {v : V} {x : Vl} (hx : IVal H O v x) :
    ByR (upd H (ρ .hl) (.lst (vs.set i v))) ρ { s with hands := s.hands.set i x } O := by
  have kt := R.ktu (g := .hl) trivial (.lst (vs.set i v))
  have ne : ∀ g', VB s.mem g' → g' ≠ .hl → upd H (ρ .hl) (.lst (vs.set i v)) (ρ g') = H (ρ g') := fun g' v' n => upd_ne (R.ne v' (g' := .hl) trivial n)
  refine ⟨R.inj, R.own, upd_al R.al, ?_, ?_, ?_, fun q u gu => ?_, fun q u gu => ?_⟩
  · obtain ⟨kvs, e, hl, d⟩ := R.dict
    exact ⟨kvs, (ne .hall trivial (by simp)).trans e, hl, ⟨d.1, d.2, d.3, d.4, d.5⟩⟩
  · exact ⟨_, upd_same, (hv.kt kt fun _ h => h).set (hx.kt kt fun _ h => h)⟩
  · obtain ⟨kvs, e, k⟩ := R.dc
    exact ⟨kvs, (ne .dc trivial (by simp)).trans e, k⟩
  · exact (ne (.th q) ⟨u, gu⟩ (by simp)).trans (R.th q u gu)
  · obtain ⟨vs, e, k⟩ := R.fl q u gu
    exact ⟨vs, (ne (.fl q) ⟨u, gu⟩ (by simp)).trans e, k.kt kt fun _ h => h⟩
/-- its own dict: phase and finger -/
theorem ByR.setDict (R : ByR H ρ s O) {kvs : List (Key × V)} {ph : Ph} {f : Int} (h5 : kvs.length ≤ 5) (dv : DV kvs { s with ph := ph, fin := f } (ρ .dc) (ρ .hl)) :
    ByR (upd H (ρ .hall) (.dK kvs)) ρ { s with ph := ph, fin := f } O := by
  have kt := R.ktu (g := .hall) trivial (.dK kvs)
  have ne : ∀ g', VB s.mem g' → g' ≠ .hall → upd H (ρ .hall) (.dK kvs) (ρ g') = H (ρ g') := fun g' v' n => upd_ne (R.ne v' (g' := .hall) trivial n)
  refine ⟨R.inj, R.own, upd_al R.al, ?_, ?_, ?_, fun q u gu => ?_, fun q u gu => ?_⟩
  · exact ⟨_, upd_same, h5, dv⟩
  · obtain ⟨vs, e, k⟩ := R.hl
    exact ⟨vs, (ne .hl trivial (by simp)).trans e, k.kt kt fun _ h => h⟩
  · obtain ⟨kvs, e, k⟩ := R.dc
    exact ⟨kvs, (ne .dc trivial (by simp)).trans e, k⟩
  · exact (ne (.th q) ⟨u, gu⟩ (by simp)).trans (R.th q u gu)
  · obtain ⟨vs, e, k⟩ := R.fl q u gu
    exact ⟨vs, (ne (.fl q) ⟨u, gu⟩ (by simp)).trans e, k.kt kt fun _ h => h⟩
/-- a thing is taken away -/
theorem ByR.drop (R : ByR H ρ s O) {p : Int} {kvs : List (Key × V)} (hp : kvs.Perm (pairs ρ s.mem)) :
    ByR (upd H (ρ .dc) (.dK (dropK kvs (Sum.inl p)))) ρ { s with mem := del s.mem p } O := by
  have kt := R.ktu (g := .dc) trivial (.dK (dropK kvs (Sum.inl p)))
  have ne : ∀ g', VB s.mem g' → g' ≠ .dc → upd H (ρ .dc) (.dK (dropK kvs (Sum.inl p))) (ρ g') = H (ρ g') := fun g' v' n => upd_ne (R.ne v' (g' := .dc) trivial n)
  have old : ∀ q u, get (G.del s.mem p) q = some u → get s.mem q = some u := fun q u h => by
    rw [get_del] at h
    split at h
    · cases h
    · exact h
  refine ⟨fun g g' v v' => R.inj g g' v.del v'.del, fun g v => R.own g v.del, upd_al R.al, ?_, ?_, ?_, fun q u gu => ?_, fun q u gu => ?_⟩
  · obtain ⟨kvs, e, hl, d⟩ := R.dict
    exact ⟨kvs, (ne .hall trivial (by simp)).trans e, hl, ⟨d.1, d.2, d.3, d.4, d.5⟩⟩
  · obtain ⟨vs, e, k⟩ := R.hl
    exact ⟨vs, (ne .hl trivial (by simp)).trans e, k.kt kt fun _ h => h⟩
  · refine ⟨_, upd_same, ?_⟩
    have h1 := hp.filter fun kv => decide (kv.1 ≠ (Sum.inl p : Key))
    have h2 : (pairs ρ s.mem).filter (fun kv => decide (kv.1 ≠ (Sum.inl p : Key))) = pairs ρ (G.del s.mem p) := by
      unfold pairs G.del
      rw [List.filter_map]
      congr 1
      refine List.filter_congr fun x _ => ?_
      simp
    rw [h2] at h1
    exact h1
  · exact (ne (.th q) ⟨u, old q u gu⟩ (by simp)).trans (R.th q u (old q u gu))
  · obtain ⟨vs, e, k⟩ := R.fl q u (old q u gu)
    exact ⟨vs, (ne (.fl q) ⟨u, old q u gu⟩ (by simp)).trans e, k.kt kt fun _ h => h⟩
/-- a thing is made -/
theorem ByR.make (R : ByR H ρ s O) {p : Int} {i m : Nat} (hn : get s.mem p = none) {ta la ha : Addr} {kvs : List (Key × V)} (hp : kvs.Perm (pairs ρ s.mem))
    {vs ys : List V} (hvs : IVals H O vs s.hands) (n1 : H ta = none) (n2 : H la = none) (n3 : H ha = none) (d12 : ta ≠ la)
    (e1 : H' ta = some (.lst [.ref la, .str (colS (colourAt s p))])) (e2 : H' la = some (.lst ys)) (e3 : H' ha = some (.tup [.str "thing", .int p]))
    (e4 : H' (ρ .dc) = some (.dK (putK kvs (Sum.inl p) (.ref ta)))) (e5 : H' (ρ .hl) = some (.lst (vs.set i (.ref ha)))) (keep : ∀ b o, H b = some o → b ≠ ρ .dc → b ≠ ρ .hl → H' b = some o)
    (hl' : ys.length = m) (hy : ∀ (i : Nat) (v : V), ys[i]? = some v → ∃ a, v = .ref a ∧ H a = none ∧ H' a = some (.tup [.str "number", .int 0])) :
    ByR H' (rhoMake ρ p ta la) (makeAt s p i m) (fun a => O a ∨ a = ta ∨ a = la ∨ a = ha ∨ H a = none ∧ ∃ i : Nat, ys[i]? = some (.ref a)) ∧
    IFr H O H' (fun a => O a ∨ a = ta ∨ a = la ∨ a = ha ∨ H a = none ∧ ∃ i : Nat, ys[i]? = some (.ref a)) := by
  have gg : ∀ q, get (makeAt s p i m).mem q = if q = p then some ⟨List.replicate m (.num 0), colourAt s p⟩ else get s.mem q := get_ins _ hn
  have vt : ∀ g, VB (makeAt s p i m).mem g → g = .th p ∨ g = .fl p ∨ (g ≠ .th p ∧ g ≠ .fl p ∧ VB s.mem g) := fun g v => by
    cases g with
    | th q =>
      obtain ⟨t, h⟩ := v
      rw [gg] at h
      by_cases e : q = p
      · exact .inl (by rw [e])
      · rw [if_neg e] at h
        exact .inr (.inr ⟨by simp [e], by simp, t, h⟩)
    | fl q =>
      obtain ⟨t, h⟩ := v
      rw [gg] at h
      by_cases e : q = p
      · exact .inr (.inl (by rw [e]))
      · rw [if_neg e] at h
        exact .inr (.inr ⟨by simp, by simp [e], t, h⟩)
    | hall => exact .inr (.inr ⟨by simp, by simp, trivial⟩)
    | hl => exact .inr (.inr ⟨by simp, by simp, trivial⟩)
    | dc => exact .inr (.inr ⟨by simp, by simp, trivial⟩)
    | mem => cases v
    | sw => cases v
  have r1 : rhoMake ρ p ta la (.th p) = ta := if_pos rfl
  have r2 : rhoMake ρ p ta la (.fl p) = la := by
    unfold rhoMake
    rw [if_neg (by simp), if_pos rfl]
  have r3 : ∀ g, g ≠ .th p → g ≠ .fl p → rhoMake ρ p ta la g = ρ g := fun g h1 h2 => by
    unfold rhoMake
    rw [if_neg h1, if_neg h2]
  have ne1 : ∀ g, VB s.mem g → ρ g ≠ ta := fun g v e => by
    obtain ⟨o, h⟩ := R.objAt v
    rw [e, n1] at h
    cases h
  have ne2 : ∀ g, VB s.mem g → ρ g ≠ la := fun g v e => by
    obtain ⟨o, h⟩ := R.objAt v
    rw [e, n2] at h
    cases h
  have old : ∀ g, VB s.mem g → g ≠ .dc → g ≠ .hl → ∀ o, H (ρ g) = some o → H' (ρ g) = some o := fun g v h1 h2 o h => keep _ o h (R.ne v (g' := .dc) trivial h1) (R.ne v (g' := .hl) trivial h2)
  have kt : KT H H' := fun a xs h => keep a _ h (fun z => R.notTup (g := .dc) trivial xs (by rw [← z]; exact h)) (fun z => R.notTup (g := .hl) trivial xs (by rw [← z]; exact h))
  refine ⟨⟨fun g g' v v' e => ?_, fun g v => ?_, fun a ha' => ?_, ?_, ?_, ?_, fun q t g => ?_, fun q t g => ?_⟩, fun b o hb nb => ?_, fun b hb => ?_⟩
  · rcases vt g v with h | h | ⟨h1, h2, h3⟩ <;> rcases vt g' v' with h' | h' | ⟨h1', h2', h3'⟩
    · rw [h, h']
    · rw [h, h', r1, r2] at e
      exact absurd e d12
    · rw [h, r1, r3 g' h1' h2'] at e
      exact absurd e.symm (ne1 g' h3')
    · rw [h, h', r1, r2] at e
      exact absurd e.symm d12
    · rw [h, h']
    · rw [h, r2, r3 g' h1' h2'] at e
      exact absurd e.symm (ne2 g' h3')
    · rw [h', r1, r3 g h1 h2] at e
      exact absurd e (ne1 g h3)
    · rw [h', r2, r3 g h1 h2] at e
      exact absurd e (ne2 g h3)
    · rw [r3 g h1 h2, r3 g' h1' h2'] at e
      exact R.inj g g' h3 h3' e
  · rcases vt g v with h | h | ⟨h1, h2, h3⟩
    · rw [h, r1]
      exact .inr (.inl rfl)
    · rw [h, r2]
      exact .inr (.inr (.inl rfl))
    · rw [r3 g h1 h2]
      exact .inl (R.own g h3)
  · rcases ha' with h | h | h | h | ⟨_, j, hj⟩
    · by_cases h1 : a = ρ .dc
      · exact ⟨_, by rw [h1]; exact e4⟩
      · by_cases h2 : a = ρ .hl
        · exact ⟨_, by rw [h2]; exact e5⟩
        · obtain ⟨o, e⟩ := R.al a h
          exact ⟨o, keep a o e h1 h2⟩
    · exact ⟨_, by rw [h]; exact e1⟩
    · exact ⟨_, by rw [h]; exact e2⟩
    · exact ⟨_, by rw [h]; exact e3⟩
    · obtain ⟨b, h1, _, h3⟩ := hy j _ hj
      cases h1
      exact ⟨_, h3⟩
  · rw [r3 .hall (by simp) (by simp), r3 .hl (by simp) (by simp), r3 .dc (by simp) (by simp)]
    obtain ⟨kvs, h, h5, d⟩ := R.dict
    exact ⟨kvs, old .hall trivial (by simp) (by simp) _ h, h5, ⟨d.1, d.2, d.3, d.4, d.5⟩⟩
  · rw [r3 .hl (by simp) (by simp)]
    exact ⟨_, e5, (hvs.kt kt fun _ h => .inl h).set (x := .held p) ⟨ha, rfl, .inr (.inr (.inr (.inl rfl))), e3⟩⟩
  · rw [r3 .dc (by simp) (by simp)]
    exact ⟨_, e4, putK_perm _ hp hn⟩
  · rw [gg] at g
    split at g
    · rename_i e
      subst e
      cases g
      rw [r1, r2]
      exact e1
    · rename_i e
      rw [r3 (.th q) (by simp [e]) (by simp), r3 (.fl q) (by simp) (by simp [e])]
      exact old (.th q) ⟨t, g⟩ (by simp) (by simp) _ (R.th q t g)
  · rw [gg] at g
    split at g
    · rename_i e
      subst e
      cases g
      rw [r2]
      refine ⟨_, e2, by rw [List.length_replicate]; exact hl', fun j x hx => ?_⟩
      obtain rfl := List.eq_of_mem_replicate (List.mem_of_getElem? hx)
      have hj : j < ys.length := by
        have := (List.getElem?_eq_some_iff.mp hx).1
        rw [List.length_replicate] at this
        omega
      obtain ⟨a, h3, h4, h5⟩ := hy j _ (List.getElem?_eq_getElem hj)
      exact ⟨.ref a, by rw [List.getElem?_eq_getElem hj, h3], a, rfl, .inr (.inr (.inr (.inr ⟨h4, j, by rw [List.getElem?_eq_getElem hj, h3]⟩))), h5⟩
    · rename_i e
      rw [r3 (.fl q) (by simp) (by simp [e])]
      obtain ⟨ws, h, k⟩ := R.fl q t g
      exact ⟨ws, old (.fl q) ⟨t, g⟩ (by simp) (by simp) _ h, k.kt kt fun a h => .inl h⟩
  · exact keep b o hb (fun z => nb (by rw [z]; exact R.own .dc trivial)) (fun z => nb (by rw [z]; exact R.own .hl trivial))
  · rcases hb with h | h | h | h | ⟨h, _⟩
    · exact .inl h
    · rw [h]; exact .inr n1
    · rw [h]; exact .inr n2
    · rw [h]; exact .inr n3
    · exact .inr h
/-! ### reading -/
theorem ByR.gSize (R : ByR H ρ s O) : DGet H (ρ .hall) (.str "size") (some (.int s.size)) := by
  obtain ⟨kvs, h, _, d⟩ := R.dict
  rw [← d.size]
  exact DGet.k (k := (Sum.inr "size" : Key)) h
theorem ByR.gThings (R : ByR H ρ s O) : DGet H (ρ .hall) (.str "things") (some (.ref (ρ .dc))) := by
  obtain ⟨kvs, h, _, d⟩ := R.dict
  rw [← d.things]
  exact DGet.k (k := (Sum.inr "things" : Key)) h
theorem ByR.gHands (R : ByR H ρ s O) : DGet H (ρ .hall) (.str "hands") (some (.ref (ρ .hl))) := by
  obtain ⟨kvs, h, _, d⟩ := R.dict
  rw [← d.hands]
  exact DGet.k (k := (Sum.inr "hands" : Key)) h
theorem ByR.gPhase (R : ByR H ρ s O) : DGet H (ρ .hall) (.str "phase") (some (.str (phS s.ph))) := by
  obtain ⟨kvs, h, _, d⟩ := R.dict
  rw [← d.phase]
  exact DGet.k (k := (Sum.inr "phase" : Key)) h
theorem ByR.gFinger (R : ByR H ρ s O) : DGet H (ρ .hall) (.str "finger") (some (.int s.fin)) := by
  obtain ⟨kvs, h, _, d⟩ := R.dict
  rw [← d.finger]
  exact DGet.k (k := (Sum.inr "finger" : Key)) h
theorem ByR.gThing (R : ByR H ρ s O) (hl : Lay s.size 0 s.mem) {p : Int} {t : Th} (g : get s.mem p = some t) : DGet H (ρ .dc) (.int p) (some (.ref (ρ (.th p)))) := by
  obtain ⟨kvs, h, k⟩ := R.dc
  exact dict_get hl h k g
/-- sorted(hand["things"]) -/
theorem ByR.sortedT (R : ByR H ρ s O) (hl : Lay s.size 0 s.mem) {Q : VK} (k : ∀ p, H p = none → Q (.ref p) (upd H p (.lst (s.mem.map fun x => V.int x.1)))) : rSortedDA [.ref (ρ .dc)] H Q := by
  obtain ⟨kvs, hd, hp⟩ := R.dc
  obtain ⟨ks, e1, e2⟩ := dict_keys hp
  refine ⟨_, kvs, ks, rfl, .inl hd, e1, fun ys p hy1 hy2 hn => ?_⟩
  have e : ys = s.mem.map (·.1) := sorted_eq hy2 (lay_sorted hl) (hy1.trans e2)
  have k1 := k p hn
  rw [show (s.mem.map fun x => V.int x.1) = ys.map V.int by rw [e, List.map_map]; rfl] at k1
  exact k1
end
end G

/-! What the defs of the hall by hand promise. -/
namespace G
open L2 PySem PyProof.Rows PySem.Spec
/-- all but the entries of things stay -/
def EntFr (H : Hp) (ρ : Tag → Addr) (m : Mem) (H' : Hp) : Prop := ∀ b u, H b = some u → (∀ p t, get m p = some t → b ≠ ρ (.th p)) → H' b = some u
theorem EntFr.refl (H : Hp) (ρ : Tag → Addr) (m : Mem) : EntFr H ρ m H := fun _ _ h _ => h
theorem EntFr.ifr {H H' : Hp} {ρ : Tag → Addr} {s : St} {O : Addr → Prop} (e : EntFr H ρ s.mem H') (R : ByR H ρ s O) : IFr H O H' O :=
  ⟨fun b u hb hn => e b u hb fun p t g z => hn (by rw [z]; exact R.own (.th p) ⟨t, g⟩), fun b h => .inl h⟩
def greyL (m : Mem) : List Int := (m.filter isGrey).map (·.1)
theorem greyL_nil {m : Mem} : greyL m = [] ↔ leastGrey m = none := by
  unfold greyL leastGrey
  rw [List.map_eq_nil_iff, List.filter_eq_nil_iff, Option.map_eq_none_iff, List.find?_eq_none]
theorem greyL_cons {m : Mem} {g : Int} (h : leastGrey m = some g) : ∃ r, greyL m = g :: r := by
  unfold leastGrey at h
  unfold greyL
  induction m with
  | nil => cases h
  | cons x r ih =>
    rw [List.find?_cons] at h
    rw [List.filter_cons]
    cases e : isGrey x with
    | true =>
      rw [e] at h
      obtain rfl : x.1 = g := by simpa using h
      exact ⟨_, by rw [if_pos rfl]; rfl⟩
    | false =>
      rw [e] at h
      rw [if_neg (by simp)]
      exact ih h
theorem ByR.srt {H : Hp} {ρ : Tag → Addr} {s : St} {O : Addr → Prop} (R : ByR H ρ s O) (hl : Lay s.size 0 s.mem) : ∃ (kvs : List (Key × V)) (ks : List Int), H (ρ .dc) = some (.dK kvs) ∧ kvs.map (·.1) = ks.map Sum.inl ∧ ∀ ys : List Int, ys.Perm ks → ys.Pairwise (· ≤ ·) → ys.map V.int = s.mem.map fun x => V.int x.1 := by
  obtain ⟨kvs, hd, hp⟩ := R.dc
  obtain ⟨ks, e1, e2⟩ := dict_keys hp
  refine ⟨kvs, ks, hd, e1, fun ys hy1 hy2 => ?_⟩
  have e : ys = s.mem.map (·.1) := sorted_eq hy2 (lay_sorted hl) (hy1.trans e2)
  rw [e, List.map_map]
  rfl
theorem grey_map (m : Mem) : m.filterMap (fun x => if isGrey x = true then some (V.int x.1) else none) = (greyL m).map V.int := by
  unfold greyL
  induction m with
  | nil => rfl
  | cons x r ih =>
    rw [List.filterMap_cons, List.filter_cons]
    cases e : isGrey x with
    | true =>
      rw [if_pos rfl, if_pos rfl, ih]
      rfl
    | false =>
      rw [if_neg (by simp), if_neg (by simp), ih]
def isTouch : Act → Bool
  | .store _ _ _ => true
  | .load _ _ _ => true
  | .copy _ _ => true
  | .number _ _ => true
  | _ => false
def fieldT (s : St) (i : Nat) (f : Int) : Told := match fres s i f with
  | .noThing => .noThing
  | .noField => .noField
  | .ok _ _ _ => .none
def sp_l_new (K : PySem.W.Frag) : Sp := fun vs H Q _ => ∃ n, vs = [.int n] ∧ ∀ d O H', Same H H' → (∀ b, O b → H b = none) → ByAt H' d (newS n) O → Q (.ref d) H'
def sp_l_gap (K : PySem.W.Frag) : Sp := fun vs H Q _ => ∃ ρ s O w, vs = [.ref (ρ .hall), .int w] ∧ ByR H ρ s O ∧ Lay s.size 0 s.mem ∧ ∀ H', Same H H' → Q (optV (gap s w)) H'
def sp_l_shade (K : PySem.W.Frag) : Sp := fun vs H Q _ => ∃ ρ s O v x, vs = [.ref (ρ .hall), v] ∧ ByR H ρ s O ∧ Lay s.size 0 s.mem ∧ IVal H O v x ∧ Dom s.mem [x] ∧ ∀ H', EntFr H ρ s.mem H' → ByR H' ρ { s with mem := shade s.mem x } O → Q .non H'
def sp_l_grey (K : PySem.W.Frag) : Sp := fun vs H Q _ => ∃ ρ s O, vs = [.ref (ρ .hall)] ∧ ByR H ρ s O ∧ Lay s.size 0 s.mem ∧ s.size ≤ 1000 ∧ ∀ l H', H l = none → Same H H' → H' l = some (.lst ((greyL s.mem).map V.int)) → Q (.ref l) H'
def sp_l_settle (K : PySem.W.Frag) : Sp := fun vs H Q _ => ∃ ρ s O, vs = [.ref (ρ .hall)] ∧ ByR H ρ s O ∧ Lay s.size 0 s.mem ∧ s.size ≤ 1000 ∧ ∀ H', IFr H O H' O → ByR H' ρ (settle s) O → Q .non H'
def sp_l_begin (K : PySem.W.Frag) : Sp := fun vs H Q _ => ∃ ρ s O L, vs = [.ref (ρ .hall)] ∧ ByR H ρ s O ∧ G.Inv s L ∧ s.size ≤ 1000 ∧ ∀ H', IFr H O H' O → ByR H' ρ (beginS s) O → Q .non H'
def sp_l_part (K : PySem.W.Frag) : Sp := fun vs H Q _ => ∃ ρ s O L, vs = [.ref (ρ .hall)] ∧ ByR H ρ s O ∧ G.Inv s L ∧ s.size ≤ 1000 ∧ s.ph ≠ .idle ∧ ∀ H', IFr H O H' O → ByR H' ρ (part s) O → Q .non H'
def sp_l_steps (K : PySem.W.Frag) : Sp := fun vs H Q _ => ∃ ρ s O L, ∃ n : Nat, vs = [.ref (ρ .hall), .int n] ∧ ByR H ρ s O ∧ G.Inv s L ∧ s.size ≤ 1000 ∧ ∀ H', IFr H O H' O → ByR H' ρ (stepN n s).2 O → Q (.int (stepN n s).1) H'
def sp_l_moved (K : PySem.W.Frag) : Sp := fun vs H Q _ => ∃ O v x P, ∃ (od : Obj) (kvs : List (Key × V)), vs = [v, .ref P] ∧ IVal H O v x ∧ (H P = some (.dK kvs) ∨ H P = some (.frz od (.dK kvs))) ∧ (∀ n, x = .num n → Q v H) ∧
  (∀ p, x = .held p → ∃ z, valV kvs (Sum.inl p) = some (.int z) ∧ ∀ a, H a = none → Q (.ref a) (upd H a (.tup [.str "thing", .int z])))
def sp_l_slide (K : PySem.W.Frag) : Sp := fun vs H Q _ => ∃ d s O L, vs = [.ref d] ∧ ByAt H d s O ∧ G.Inv s L ∧ s.size ≤ 1000 ∧ s.ph = .idle ∧ ∀ H' O', IFr H O H' O' → ByAt H' d (slideS s) O' → Q .non H'
def sp_l_made (K : PySem.W.Frag) : Sp := fun vs H Q _ => ∃ d s O L, ∃ i m : Nat, vs = [.ref d, .int i, .int m] ∧ ByAt H d s O ∧ G.Inv s L ∧ i < 8 ∧ m ≤ 6 ∧ s.size ≤ 1000 ∧ ∀ H' O', IFr H O H' O' → ByAt H' d (makeS s i m).2 O' → Q (toldV (doAct s (.make i m)).1) H'
def sp_l_field (K : PySem.W.Frag) : Sp := fun vs H Q _ => ∃ ρ s O, ∃ (i : Nat) (f : Int), vs = [.ref (ρ .hall), .int i, .int f] ∧ ByR H ρ s O ∧ Lay s.size 0 s.mem ∧ i < s.hands.length ∧ Dom s.mem [hand s i] ∧ 0 ≤ f ∧ Q (toldV (fieldT s i f)) H
def sp_l_touch (K : PySem.W.Frag) : Sp := fun vs H Q _ => ∃ d s O L a x, vs = [.ref d, .ref a] ∧ ByAt H d s O ∧ G.Inv s L ∧ ActOk x ∧ isTouch x = true ∧ ¬ O a ∧ H a = some (.tup (actVs x)) ∧ ∀ H' O', IFr H O H' O' → ByAt H' d (doAct s x).2 O' → Q (toldV (doAct s x).1) H'
def sp_l_by_hand (K : PySem.W.Frag) : Sp := fun vs H Q _ => ∃ d s O L a x, vs = [.ref d, .ref a] ∧ ByAt H d s O ∧ G.Inv s L ∧ s.size ≤ 1000 ∧ ActOk x ∧ ¬ O a ∧ H a = some (.tup (actVs x)) ∧ ∀ H' O', IFr H O H' O' → ByAt H' d (doAct s x).2 O' → Q (toldV (doAct s x).1) H'
def sp_l_blocks (K : PySem.W.Frag) : Sp := fun vs H Q _ => ∃ ρ s O, vs = [.ref (ρ .hall)] ∧ ByR H ρ s O ∧ Lay s.size 0 s.mem ∧ s.mem.length ≤ 200 ∧ ∀ v H', Same H H' → Tp H' v (pdBlocks (blocksS s)) → Q v H'
def sp_l_alike (K : PySem.W.Frag) : Sp := fun vs H Q _ => ∃ F h s L O d, vs = [.ref h, .ref d] ∧ HallAt K F H h s ∧ ByAt H d s O ∧ G.Inv s L ∧ s.mem.length ≤ 200 ∧ ∀ H', Same H H' → Q (.bl true) H'
theorem putK_le (c : List (Key × V)) (k : Key) (x : V) : (putK c k x).length ≤ c.length + 1 := by
  unfold putK
  split
  · rw [List.length_map]
    omega
  · rw [List.length_append]
    exact Nat.le_refl _
def newD (n : Int) (tl hl : Addr) : List (Key × V) := mergeK [] [(Sum.inr "size", .int n), (Sum.inr "things", .ref tl), (Sum.inr "hands", .ref hl), (Sum.inr "phase", .str "idle"), (Sum.inr "finger", .int 0)]
theorem newD_eq (n : Int) (tl hl : Addr) : newD n tl hl = putK (putK (putK (putK (putK ([] : List (Key × V)) (Sum.inr ("size" : Str) : Key) (.int n)) (Sum.inr ("things" : Str) : Key) (.ref tl)) (Sum.inr ("hands" : Str) : Key) (.ref hl)) (Sum.inr ("phase" : Str) : Key) (.str "idle")) (Sum.inr ("finger" : Str) : Key) (.int 0) := rfl
theorem newD_len (n : Int) (tl hl : Addr) : (newD n tl hl).length ≤ 5 := by
  rw [newD_eq]
  have h1 := putK_le ([] : List (Key × V)) (Sum.inr ("size" : Str) : Key) (.int n)
  have h2 := putK_le (putK ([] : List (Key × V)) (Sum.inr ("size" : Str) : Key) (.int n)) (Sum.inr ("things" : Str) : Key) (.ref tl)
  have h3 := putK_le (putK (putK ([] : List (Key × V)) (Sum.inr ("size" : Str) : Key) (.int n)) (Sum.inr ("things" : Str) : Key) (.ref tl)) (Sum.inr ("hands" : Str) : Key) (.ref hl)
  have h4 := putK_le (putK (putK (putK ([] : List (Key × V)) (Sum.inr ("size" : Str) : Key) (.int n)) (Sum.inr ("things" : Str) : Key) (.ref tl)) (Sum.inr ("hands" : Str) : Key) (.ref hl)) (Sum.inr ("phase" : Str) : Key) (.str "idle")
  have h5 := putK_le (putK (putK (putK (putK ([] : List (Key × V)) (Sum.inr ("size" : Str) : Key) (.int n)) (Sum.inr ("things" : Str) : Key) (.ref tl)) (Sum.inr ("hands" : Str) : Key) (.ref hl)) (Sum.inr ("phase" : Str) : Key) (.str "idle")) (Sum.inr ("finger" : Str) : Key) (.int 0)
  rw [List.length_nil] at h1
  omega
theorem newD_dv (n : Int) (tl hl : Addr) : DV (newD n tl hl) (newS n) tl hl := by
  rw [newD_eq]
  constructor
  · rw [valV_put, if_neg (inr_ne (by decide +kernel)), valV_put, if_neg (inr_ne (by decide +kernel)), valV_put, if_neg (inr_ne (by decide +kernel)), valV_put, if_neg (inr_ne (by decide +kernel)), valV_put, if_pos rfl]
    rfl
  · rw [valV_put, if_neg (inr_ne (by decide +kernel)), valV_put, if_neg (inr_ne (by decide +kernel)), valV_put, if_neg (inr_ne (by decide +kernel)), valV_put, if_pos rfl]
  · rw [valV_put, if_neg (inr_ne (by decide +kernel)), valV_put, if_neg (inr_ne (by decide +kernel)), valV_put, if_pos rfl]
  · rw [valV_put, if_neg (inr_ne (by decide +kernel)), valV_put, if_pos rfl]
    rfl
  · rw [valV_put, if_pos rfl]
    rfl
section
variable {K : PySem.W.Frag} {xs : List V} {g : TG} {tt : TT} {te : TE} {vs : List Nat} {σ : L2.St} {H1 : Hp} {D : Addr} {Qd : Hp → Prop}
/-- over a dict's keys -/
theorem lcK {d : Addr} {o : Obj} {kvs : List (Key × V)} {f : Key × V → Option V} (hx : H1 d = some (.frz o (.dK kvs))) (h1000 : kvs.length ≤ 1000) (hD : H1 D = none)
    (hs : ∀ (i : Nat) (kv : Key × V) (H' : Hp), kvs[i]? = some kv → Same H1 H' → LcStep g tt te vs σ (kV kv.1) (f kv) H')
    (q : ∀ H', Same H1 H' → H' D = some (.lst (kvs.filterMap f)) → Qd H') :
    ∃ W : Nat → Nat → Hp → Prop, (∃ m, W 0 m (upd H1 D (.lst []))) ∧ ∀ i m H, W i m H →
      ((Itk d o kvs).stop i H ∧ Qd H) ∨ ((Itk d o kvs).go i H ∧ ∃ Nx : Hp → Prop, (∀ H', Nx H' → ∃ m', m' < m ∧ W (i + 1) m' H') ∧ ∀ x H', (Itk d o kvs).yld i H x H' → g x (wipe σ vs) H' fun σ2 H2 => wipe σ2 vs = wipe σ vs ∧ tt σ2 H2 fun b H3 =>
        if b = true then te σ2 H3 fun y H4 => ∃ acc, H4 D = some (.lst acc) ∧ acc.length < sizeLine ∧ Nx (upd H4 D (.lst (acc ++ [y]))) else Nx H3) := by
  refine ⟨fun i m H => m = kvs.length - i ∧ i ≤ kvs.length ∧ Same H1 H ∧ H D = some (.lst ((kvs.take i).filterMap f)), ⟨kvs.length, by simp, Nat.zero_le _, same_new hD, by rw [upd_same]; rfl⟩, ?_⟩
  rintro i m H ⟨rfl, hi, e, hacc⟩
  by_cases hlt : i < kvs.length
  · refine .inr ⟨⟨e _ _ hx, hlt⟩, fun H => Same H1 H ∧ H D = some (.lst ((kvs.take (i + 1)).filterMap f)), fun H' p' => ⟨kvs.length - (i + 1), by omega, rfl, hlt, p'⟩, fun x H' y => ?_⟩
    obtain ⟨e0, k, v, hk, rfl⟩ := y
    subst e0
    exact lc_step h1000 hD hk e hacc (hs i (k, v) _ hk e)
  · obtain rfl : i = kvs.length := by omega
    refine .inl ⟨⟨e _ _ hx, Nat.le_refl _⟩, q H e ?_⟩
    rw [hacc, List.take_length]
end
end G

/-! The hall by hand: its things' keys while they are locked. -/
namespace G
open L2 PySem PyProof.Rows PySem.Spec
theorem vs_ne {x y : Str} (h : (x == y) = false) : ¬ V.str x = V.str y := fun z => by
  have e := V.str.inj z
  subst e
  simp at h
theorem touch_act {x : Act} (h : isTouch x = true) : (actS x == "make") = false ∧ (actS x == "step") = false ∧ (actS x == "finish") = false ∧ (actS x == "begin") = false ∧ (actS x == "slide") = false := by
  cases x with
  | store h f o => exact ((by decide +kernel : (("store" : Str) == "make") = false ∧ (("store" : Str) == "step") = false ∧ (("store" : Str) == "finish") = false ∧ (("store" : Str) == "begin") = false ∧ (("store" : Str) == "slide") = false))
  | load h o f => exact ((by decide +kernel : (("load" : Str) == "make") = false ∧ (("load" : Str) == "step") = false ∧ (("load" : Str) == "finish") = false ∧ (("load" : Str) == "begin") = false ∧ (("load" : Str) == "slide") = false))
  | copy h o => exact ((by decide +kernel : (("copy" : Str) == "make") = false ∧ (("copy" : Str) == "step") = false ∧ (("copy" : Str) == "finish") = false ∧ (("copy" : Str) == "begin") = false ∧ (("copy" : Str) == "slide") = false))
  | number h n => exact ((by decide +kernel : (("number" : Str) == "make") = false ∧ (("number" : Str) == "step") = false ∧ (("number" : Str) == "finish") = false ∧ (("number" : Str) == "begin") = false ∧ (("number" : Str) == "slide") = false))
  | make h m => cases h
  | begin => cases h
  | slide => cases h
  | finish => cases h
  | step n => cases h
def geF (z : Int) (kv : Key × V) : Option V := match kv.1 with
  | .inl p => if z ≤ p then some (.int p) else none
  | .inr _ => none
theorem geF_list (z : Int) : ∀ {kvs : List (Key × V)} {ks : List Int}, kvs.map (·.1) = ks.map Sum.inl → kvs.filterMap (geF z) = (ks.filter fun p => decide (z ≤ p)).map V.int
  | [], ks, h => by
    cases ks with
    | nil => rfl
    | cons k r => cases h
  | kv :: kvs, ks, h => by
    cases ks with
    | nil => cases h
    | cons k r =>
      have h1 : kv.1 = Sum.inl k := (List.cons.inj h).1
      have h2 := geF_list z (List.cons.inj h).2
      rw [List.filterMap_cons, List.filter_cons]
      have e : geF z kv = if z ≤ k then some (.int k) else none := by
        unfold geF
        rw [h1]
      by_cases c : z ≤ k
      · rw [e, if_pos c, if_pos (decide_eq_true c), h2]
        rfl
      · rw [e, if_neg c, if_neg (fun w => c (of_decide_eq_true w)), h2]
theorem key_int {kvs : List (Key × V)} {ks : List Int} (h : kvs.map (·.1) = ks.map Sum.inl) {i : Nat} {kv : Key × V} (hk : kvs[i]? = some kv) : ∃ p : Int, kv.1 = Sum.inl p := by
  have e : (kvs.map (·.1))[i]? = some kv.1 := by rw [List.getElem?_map, hk]; rfl
  rw [h, List.getElem?_map] at e
  obtain ⟨p, _, e⟩ := Option.map_eq_some_iff.mp e
  exact ⟨p, e.symm⟩
theorem ge_none {m : Mem} {ks : List Int} (hp : ks.Perm (m.map (·.1))) (z : Int) : (ks.filter fun p => decide (z ≤ p)) = [] ↔ nextFrom m z = none := by
  unfold nextFrom
  rw [List.filter_eq_nil_iff, Option.map_eq_none_iff, List.find?_eq_none]
  constructor
  · intro h x hx
    exact h x.1 (hp.mem_iff.mpr (List.mem_map.mpr ⟨x, hx, rfl⟩))
  · intro h p hpk
    obtain ⟨x, hx, rfl⟩ := List.mem_map.mp (hp.mem_iff.mp hpk)
    exact h x hx
theorem ge_min {sz a : Int} {m : Mem} {ks : List Int} (hl : Lay sz a m) (hp : ks.Perm (m.map (·.1))) {z g : Int} (hg : nextFrom m z = some g) : (ks.filter fun p => decide (z ≤ p)) ≠ [] ∧ ∀ w, w ∈ (ks.filter fun p => decide (z ≤ p)) → (∀ y, y ∈ (ks.filter fun p => decide (z ≤ p)) → w ≤ y) → w = g := by
  refine ⟨fun e => ?_, fun w hw hmin => ?_⟩
  · rw [(ge_none hp z).mp e] at hg
    cases hg
  · obtain ⟨hz, ⟨t, gt⟩, hnx⟩ := nf_some hl hg
    have h1 : g ∈ ks.filter fun p => decide (z ≤ p) := List.mem_filter.mpr ⟨hp.mem_iff.mpr (List.mem_map.mpr ⟨_, get_mem gt, rfl⟩), decide_eq_true hz⟩
    have h2 := hmin g h1
    obtain ⟨h3, h4⟩ := List.mem_filter.mp hw
    obtain ⟨x, hx, rfl⟩ := List.mem_map.mp (hp.mem_iff.mp h3)
    have h5 := hnx x.1 x.2 (mem_get hl hx) (of_decide_eq_true h4)
    omega
theorem unlock_same {H1 H2 : Hp} {d : Addr} {o : Obj} {u : HO} (hd : H1 d = some u) (e : Same (upd H1 d (.frz o u)) H2) : Same H1 (upd H2 d u) := fun b w hb => by
  by_cases c : b = d
  · rw [c] at hb ⊢
    rw [upd_same, ← hd, hb]
  · rw [upd_ne c]
    exact e _ _ (by rw [upd_ne c]; exact hb)
section
variable {H : Hp} {ρ : Tag → Addr} {s : St} {O : Addr → Prop}
/-- its dict and its keys, and what is read of it while they are locked -/
theorem ByR.keys (R : ByR H ρ s O) : ∃ (kvs : List (Key × V)) (ks : List Int), H (ρ .dc) = some (.dK kvs) ∧ kvs.map (·.1) = ks.map Sum.inl ∧ ks.Perm (s.mem.map (·.1)) ∧ kvs.Perm (pairs ρ s.mem) := by
  obtain ⟨kvs, hd, hp⟩ := R.dc
  obtain ⟨ks, e1, e2⟩ := dict_keys hp
  exact ⟨kvs, ks, hd, e1, e2, hp⟩
theorem ByR.lock (R : ByR H ρ s O) (u : HO) : ∀ H', Same (upd H (ρ .dc) u) H' → DGet H' (ρ .hall) (.str "things") (some (.ref (ρ .dc))) ∧ DGet H' (ρ .hall) (.str "finger") (some (.int s.fin)) := fun H' e => by
  obtain ⟨kvs, h, _, d⟩ := R.dict
  have h' := e _ _ (by rw [upd_ne (R.ne (g := .hall) (g' := .dc) trivial trivial (by simp))]; exact h)
  constructor
  · rw [← d.things]
    exact DGet.k (k := (Sum.inr "things" : Key)) h'
  · rw [← d.finger]
    exact DGet.k (k := (Sum.inr "finger" : Key)) h'
/-- more that is owned -/
theorem ByR.more (R : ByR H ρ s O) {q : Addr} {o : HO} (hq : H q = some o) : ByR H ρ s (fun b => O b ∨ b = q) := by
  refine ⟨R.inj, fun g v => .inl (R.own g v), fun a h => ?_, R.dict, ?_, R.dc, R.th, fun p t g => ?_⟩
  · rcases h with h | rfl
    · exact R.al a h
    · exact ⟨o, hq⟩
  · obtain ⟨vs, h, k⟩ := R.hl
    exact ⟨vs, h, k.kt (fun _ _ h => h) fun _ h => .inl h⟩
  · obtain ⟨vs, h, k⟩ := R.fl p t g
    exact ⟨vs, h, k.kt (fun _ _ h => h) fun _ h => .inl h⟩
end
end G

/-! The hall by hand: what a slide does to it. -/
namespace G
open L2 PySem PyProof.Rows PySem.Spec
theorem IVals.snoc {H : Hp} {O : Addr → Prop} {ws : List V} {ys : List Vl} {v : V} {y : Vl} (h : IVals H O ws ys) (k : IVal H O v y) : IVals H O (ws ++ [v]) (ys ++ [y]) := by
  refine ⟨by rw [List.length_append, List.length_append, h.1]; rfl, fun i x hx => ?_⟩
  by_cases c : i < ys.length
  · rw [List.getElem?_append_left c] at hx
    obtain ⟨u, h1, h2⟩ := h.2 i x hx
    exact ⟨u, by rw [List.getElem?_append_left (by rw [h.1]; exact c)]; exact h1, h2⟩
  · rw [List.getElem?_append_right (by omega)] at hx
    have e : i - ys.length = 0 := by
      have := (List.getElem?_eq_some_iff.mp hx).1
      simp at this
      omega
    rw [e] at hx
    cases hx
    refine ⟨v, ?_, k⟩
    rw [List.getElem?_append_right (by rw [h.1]; omega), h.1, e]
    rfl
/-- what is owned, narrowed to what stands -/
theorem IVals.live {H : Hp} {O O' : Addr → Prop} {ws : List V} {ys : List Vl} (h : IVals H O ws ys) (e : ∀ a o, O a → H a = some o → O' a) : IVals H O' ws ys :=
  ⟨h.1, fun i x hx => by
    obtain ⟨v, h1, a, h2, h3, h4⟩ := h.2 i x hx
    exact ⟨v, h1, a, h2, e a _ h3 h4, h4⟩⟩
/-- the list D of moved pairs, j of them -/
def MvB (Gs : Addr → Prop) (H2 : Hp) (D : Addr) (ρs : List (Int × Int)) (xs : List Vl) (j : Nat) (H3 : Hp) : Prop :=
  Same H2 H3 ∧ ∃ ws, H3 D = some (.lst ws) ∧ IVals H3 Gs ws ((xs.take j).map (mv ρs))
section
variable {K : PySem.W.Frag} {Gs : Addr → Prop} {H2 H3 : Hp} {D P : Addr} {od : Obj} {kvs : List (Key × V)} {ρs : List (Int × Int)} {xs : List Vl} {vs : List V} {j : Nat} {v : V}
theorem mvB_start (hD : H2 D = none) : MvB Gs H2 D ρs xs 0 (upd H2 D (.lst [])) :=
  ⟨same_new hD, [], upd_same, rfl, fun i x hx => by simp at hx⟩
theorem mvB_turn (hD : H2 D = none) (hG : ∀ a, H2 a = none → Gs a) (hP : H2 P = some (.dK kvs) ∨ H2 P = some (.frz od (.dK kvs))) (hk : ∀ p, .held p ∈ xs → valV kvs (Sum.inl p) = some (.int (look ρs p))) (hvs : IVals H2 Gs vs xs) (hx : xs.length ≤ 1000)
    (hv : vs[j]? = some v) (m : MvB Gs H2 D ρs xs j H3) (E : XK) :
    sp_l_moved K [v, .ref P] H3 (fun y H4 => ∃ acc, H4 D = some (.lst acc) ∧ acc.length < sizeLine ∧ MvB Gs H2 D ρs xs (j + 1) (upd H4 D (.lst (acc ++ [y])))) E := by
  obtain ⟨e3, ws, hD3, hws⟩ := m
  obtain ⟨x, hxj, hxv⟩ := hvs.get hv
  have hjx : j < xs.length := (List.getElem?_eq_some_iff.mp hxj).1
  have hxv3 := hxv.same e3
  have hlen : ws.length < sizeLine := by
    rw [hws.1, List.length_map, List.length_take]
    exact lt1000 (by omega)
  have et : (xs.take (j + 1)).map (mv ρs) = (xs.take j).map (mv ρs) ++ [mv ρs x] := by
    rw [List.take_add_one, hxj]
    simp
  have hP3 : H3 P = some (.dK kvs) ∨ H3 P = some (.frz od (.dK kvs)) := by
    rcases hP with q | q
    · exact .inl (e3 _ _ q)
    · exact .inr (e3 _ _ q)
  refine ⟨Gs, v, x, P, od, kvs, rfl, hxv3, hP3, fun n e => ?_, fun p e => ?_⟩
  · subst e
    have kt : KT H3 (upd H3 D (.lst (ws ++ [v]))) := KT.upd fun z hz => by
      rw [hD3] at hz
      cases hz
    refine ⟨ws, hD3, hlen, fun b o hb => ?_, ws ++ [v], upd_same, ?_⟩
    · rw [upd_ne (ne_of_none hb hD)]
      exact e3 b o hb
    · rw [et]
      exact (hws.kt kt fun _ h => h).snoc (hxv3.kt kt fun _ h => h)
  · subst e
    refine ⟨_, hk p (List.mem_of_getElem? hxj), fun a na => ?_⟩
    have sa := same_new (o := .tup [V.str "thing", .int (look ρs p)]) na
    have hD4 := sa _ _ hD3
    have kt : KT (upd H3 a (.tup [V.str "thing", .int (look ρs p)])) (upd (upd H3 a (.tup [V.str "thing", .int (look ρs p)])) D (.lst (ws ++ [.ref a]))) := KT.upd fun z hz => by
      rw [hD4] at hz
      cases hz
    refine ⟨ws, hD4, hlen, fun b o hb => ?_, ws ++ [.ref a], upd_same, ?_⟩
    · rw [upd_ne (ne_of_none hb hD)]
      exact sa _ _ (e3 b o hb)
    · rw [et]
      exact ((hws.kt (KT.of_same sa) fun _ h => h).kt kt fun _ h => h).snoc ⟨a, rfl, hG a (e3.free na), kt _ _ upd_same⟩
end
def rhoEn (ρ : Tag → Addr) (en : Int → Addr) : Tag → Addr := fun g => match g with
  | .th p => en p
  | g => ρ g
theorem ByR.slide {H H' : Hp} {ρ : Tag → Addr} {s : St} {O O' : Addr → Prop} (R : ByR H ρ s O) (hl : Lay s.size 0 s.mem) {D L : Addr} {en nl : Int → Addr} {ws : List V} {kvs d : List (Key × V)}
    (ho : ∀ a, O a → O' a) (al : ∀ a, O' a → ∃ o, H' a = some o) (nD : H D = none) (nL : H L = none)
    (nN : ∀ p t, get s.mem p = some t → H (nl p) = none ∧ H (en p) = none ∧ O' (nl p) ∧ O' (en p) ∧ nl p ≠ L ∧ en p ≠ L) (fD : O' D) (fL : O' L)
    (ni : ∀ p q t u, get s.mem p = some t → get s.mem q = some u → nl p = nl q → p = q) (ei : ∀ p q t u, get s.mem p = some t → get s.mem q = some u → en p = en q → p = q) (nei : ∀ p q t u, get s.mem p = some t → get s.mem q = some u → nl p ≠ en q)
    (hd : H' (ρ .hall) = some (.dK d)) (h5 : d.length ≤ 5) (dv : DV d s D L)
    (hL : H' L = some (.lst ws)) (hws : IVals H' O' ws (s.hands.map (mv (rho s)))) (hD : H' D = some (.dK kvs)) (hp : kvs.Perm (s.mem.map fun x => (Sum.inl (look (rho s) x.1), V.ref (en x.1))))
    (ht : ∀ p t, get s.mem p = some t → H' (en p) = some (.lst [.ref (nl p), .str (colS t.col)]) ∧ ∃ vs, H' (nl p) = some (.lst vs) ∧ IVals H' O' vs (t.fs.map (mv (rho s)))) :
    ByR H' (rhoSlide (rhoEn ρ en) s D L nl) (slideS s) O' := by
  have old : ∀ q, (∃ t, get (slideS s).mem q = some t) → ∃ p u, get s.mem p = some u ∧ q = look (rho s) p ∧ came s q = p ∧ get (slideS s).mem q = some (movT (rho s) u) := fun q ⟨t, h⟩ => by
    obtain ⟨p, u, h1, h2, h3⟩ := slide_get hl (show get (slideM (rho s) 0 s.mem) q = some t from h)
    refine ⟨p, u, h1, h2, by rw [h2]; exact came_look hl h1, ?_⟩
    rw [h2]
    exact get_slide (rho s) hl h1
  obtain ⟨oh, hoh⟩ := R.objAt (g := .hall) trivial
  have hne : ∀ {a : Addr}, H a = none → ρ .hall ≠ a := fun h => ne_of_none hoh h
  have nDL : D ≠ L := ne_of hD hL (by intro z; cases z)
  have cl : ∀ g, VB (slideS s).mem g → g = .hall ∨ g = .dc ∨ g = .hl ∨ (∃ p t, get s.mem p = some t ∧ g = .th (look (rho s) p) ∧ rhoSlide (rhoEn ρ en) s D L nl g = en p) ∨ ∃ p t, get s.mem p = some t ∧ g = .fl (look (rho s) p) ∧ rhoSlide (rhoEn ρ en) s D L nl g = nl p := fun g v => by
    cases g with
    | hall => exact .inl rfl
    | dc => exact .inr (.inl rfl)
    | hl => exact .inr (.inr (.inl rfl))
    | mem => exact v.elim
    | sw => exact v.elim
    | th q =>
      obtain ⟨p, u, h1, h2, h3, _⟩ := old q v
      refine .inr (.inr (.inr (.inl ⟨p, u, h1, by rw [h2], ?_⟩)))
      show en (came s q) = _
      rw [h3]
    | fl q =>
      obtain ⟨p, u, h1, h2, h3, _⟩ := old q v
      refine .inr (.inr (.inr (.inr ⟨p, u, h1, by rw [h2], ?_⟩)))
      show nl (came s q) = _
      rw [h3]
  have eD : ∀ p t, get s.mem p = some t → en p ≠ D := fun p t g => ne_of (ht p t g).1 hD (by intro z; cases z)
  have nD' : ∀ p t, get s.mem p = some t → nl p ≠ D := fun p t g => by
    obtain ⟨_, vs, h, _⟩ := ht p t g
    exact ne_of h hD (by intro z; cases z)
  refine ⟨fun g g' v v' e => ?_, fun g v => ?_, al, ⟨d, hd, h5, ⟨dv.1, dv.2, dv.3, dv.4, dv.5⟩⟩, ⟨ws, hL, hws⟩, ⟨kvs, hD, ?_⟩, fun q t g => ?_, fun q t g => ?_⟩
  · rcases cl g v with h | h | h | ⟨p, t, gp, h, hr⟩ | ⟨p, t, gp, h, hr⟩ <;> rcases cl g' v' with h' | h' | h' | ⟨p', t', gp', h', hr'⟩ | ⟨p', t', gp', h', hr'⟩
    · rw [h, h']
    · subst h h'; exact absurd e (hne nD)
    · subst h h'; exact absurd e (hne nL)
    · subst h; exact absurd (e.trans hr') (hne (nN p' t' gp').2.1)
    · subst h; exact absurd (e.trans hr') (hne (nN p' t' gp').1)
    · subst h h'; exact absurd e.symm (hne nD)
    · rw [h, h']
    · subst h h'; exact absurd e nDL
    · subst h; exact absurd (hr'.symm.trans e.symm) (eD p' t' gp')
    · subst h; exact absurd (hr'.symm.trans e.symm) (nD' p' t' gp')
    · subst h h'; exact absurd e.symm (hne nL)
    · subst h h'; exact absurd e.symm nDL
    · rw [h, h']
    · subst h; exact absurd (hr'.symm.trans e.symm) (nN p' t' gp').2.2.2.2.2
    · subst h; exact absurd (hr'.symm.trans e.symm) (nN p' t' gp').2.2.2.2.1
    · subst h'; exact absurd (e.symm.trans hr) (hne (nN p t gp).2.1)
    · subst h'; exact absurd (hr.symm.trans e) (eD p t gp)
    · subst h'; exact absurd (hr.symm.trans e) (nN p t gp).2.2.2.2.2
    · rw [hr, hr'] at e
      rw [h, h', ei p p' t t' gp gp' e]
    · rw [hr, hr'] at e
      exact absurd e.symm (nei p' p t' t gp' gp)
    · subst h'; exact absurd (e.symm.trans hr) (hne (nN p t gp).1)
    · subst h'; exact absurd (hr.symm.trans e) (nD' p t gp)
    · subst h'; exact absurd (hr.symm.trans e) (nN p t gp).2.2.2.2.1
    · rw [hr, hr'] at e
      exact absurd e (nei p p' t t' gp gp')
    · rw [hr, hr'] at e
      rw [h, h', ni p p' t t' gp gp' e]
  · rcases cl g v with h | h | h | ⟨p, t, gp, h, hr⟩ | ⟨p, t, gp, h, hr⟩
    · subst h; exact ho _ (R.own .hall trivial)
    · subst h; exact fD
    · subst h; exact fL
    · rw [hr]; exact (nN p t gp).2.2.2.1
    · rw [hr]; exact (nN p t gp).2.2.1
  · rw [pairs_slide (rhoEn ρ en) hl]
    exact hp
  · obtain ⟨p, u, h1, h2, h3, h4⟩ := old q ⟨t, g⟩
    rw [h4] at g
    cases g
    obtain ⟨e, _⟩ := ht p u h1
    show H' (en (came s q)) = some (.lst [.ref (nl (came s q)), .str (colS u.col)])
    rw [h3]
    exact e
  · obtain ⟨p, u, h1, h2, h3, h4⟩ := old q ⟨t, g⟩
    rw [h4] at g
    cases g
    obtain ⟨_, vs, e, k⟩ := ht p u h1
    refine ⟨vs, ?_, k⟩
    show H' (nl (came s q)) = _
    rw [h3]
    exact e
end G

/-! A hall, the hall that is done by hand beside, and the acts. -/
namespace G
open L2 PySem PyProof.Rows PySem.Spec
theorem ByR.outF {F : Addr → Prop} {H : Hp} {ρ : Tag → Addr} {s : St} {O : Addr → Prop} (R : ByR H ρ s O) (n : ∀ a, O a → ¬ F a) : ByR (outF F H) ρ s O := R.outside fun a h => outF_eq (n a h)
theorem ByAt.outF {F : Addr → Prop} {H : Hp} {d : Addr} {s : St} {O : Addr → Prop} (R : ByAt H d s O) (n : ∀ a, O a → ¬ F a) : ByAt (outF F H) d s O := by
  obtain ⟨ρ, e, R⟩ := R
  exact ⟨ρ, e, R.outF n⟩
theorem ByAt.same {H H' : Hp} {d : Addr} {s : St} {O : Addr → Prop} (R : ByAt H d s O) (e : Same H H') : ByAt H' d s O := by
  obtain ⟨ρ, e1, R⟩ := R
  exact ⟨ρ, e1, R.same e⟩
theorem ByAt.al {H : Hp} {d : Addr} {s : St} {O : Addr → Prop} (R : ByAt H d s O) {b : Addr} (hb : O b) : ∃ o, H b = some o := by
  obtain ⟨ρ, e1, R⟩ := R
  exact R.al b hb
structure WdB (K : PySem.W.Frag) (F : Addr → Prop) (H : Hp) (h : Addr) (s s2 : St) (d : Addr) (O : Addr → Prop) (l : Addr) (as : List Addr) (xs : List Act) : Prop where
  hall : HallAt K F H h s
  byh : ByAt (outF F H) d s2 O
  acts : ActsOut F H l as xs
  sep : ∀ b, O b → b ≠ l ∧ b ∉ as
section
variable {K : PySem.W.Frag} {F F' : Addr → Prop} {H H' : Hp} {h : Addr} {s s' s2 s2' : St} {d : Addr} {O O' : Addr → Prop} {l : Addr} {as : List Addr} {xs : List Act}
theorem WdB.kp (w : WdB K F H h s s2 d O l as xs) (k : Kp F H F' H') (R : HallAt K F' H' h s') : WdB K F' H' h s' s2 d O l as xs :=
  ⟨R, w.byh.same (outF_kp k), w.acts.same (outF_kp k), w.sep⟩
theorem WdB.same (w : WdB K F H h s s2 d O l as xs) (e : Same H H') : WdB K F H' h s s2 d O l as xs :=
  ⟨w.hall.same e, w.byh.same (outF_same e), w.acts.same (outF_same e), w.sep⟩
theorem WdB.byH (w : WdB K F H h s s2 d O l as xs) : ByAt H d s2 O := w.byh.same outF_le
theorem WdB.apart (w : WdB K F H h s s2 d O l as xs) : ∀ b, O b → ¬ F b := fun b hb => by
  obtain ⟨o, ho⟩ := w.byh.al hb
  exact (outF_some ho).1
theorem WdB.step (w : WdB K F H h s s2 d O l as xs) (f : IFr H O H' O') (R : ByAt H' d s2' O') : WdB K F H' h s s2' d O' l as xs := by
  have inF : ∀ a, F a → H' a = H a := fun a ha => by
    obtain ⟨ρ, _, R0⟩ := w.hall
    obtain ⟨o, ho⟩ := R0.al a ha
    rw [ho]
    exact f.out a o ho fun z => w.apart a z ha
  have nF : ∀ a, O' a → ¬ F a := fun a ha => by
    rcases f.own a ha with z | z
    · exact w.apart a z
    · exact w.hall.not_F z
  have keep : ∀ b u, outF F H b = some u → ¬ O b → outF F H' b = some u := fun b u hb hn => by
    obtain ⟨n, e⟩ := outF_some hb
    rw [outF_eq n]
    exact f.out b u e hn
  refine ⟨w.hall.outside inF, R.outF nF, ⟨keep _ _ w.acts.1 fun z => (w.sep _ z).1 rfl, w.acts.2.1, fun i x hx => ?_⟩, fun b hb => ?_⟩
  · obtain ⟨a, h1, h2⟩ := w.acts.2.2 i x hx
    exact ⟨a, h1, keep _ _ h2 fun z => (w.sep _ z).2 (List.mem_of_getElem? h1)⟩
  · rcases f.own b hb with z | z
    · exact w.sep b z
    · refine ⟨fun e => ?_, fun e => ?_⟩
      · rw [e, (outF_some w.acts.1).2] at z
        cases z
      · obtain ⟨i, hi⟩ := List.getElem?_of_mem e
        have lt : i < xs.length := by
          rw [← w.acts.2.1]
          exact (List.getElem?_eq_some_iff.mp hi).1
        obtain ⟨a, h1, h2⟩ := w.acts.2.2 i _ (List.getElem?_eq_getElem lt)
        rw [hi] at h1
        cases h1
        rw [(outF_some h2).2] at z
        cases z
theorem WdB.start (R : HallAt K F H h s) (al : ∀ b, O b → H b = none) {H1 H2 : Hp} (e1 : Same H H1) (B : ByAt H1 d s2 O) (nl : H1 l = none) (hl' : H2 l = some (.lst (as.map V.ref))) (hA : ActsAt H1 H2 as xs) (e2 : Same H1 H2) : WdB K F H2 h s s2 d O l as xs := by
  have e := e1.trans e2
  obtain ⟨ρ, hρ, R0⟩ := R
  have R1 := R0.same e1
  refine ⟨⟨ρ, hρ, R0.same e⟩, (B.same e2).outF fun b hb => not_F R0.al (al b hb), ActsOut.mk' R1.al nl hl' hA, fun b hb => ⟨fun z => ?_, fun z => ?_⟩⟩
  · obtain ⟨o, ho⟩ := B.al hb
    rw [z, nl] at ho
    cases ho
  · obtain ⟨i, hi⟩ := List.getElem?_of_mem z
    have lt : i < xs.length := by
      rw [← hA.1]
      exact (List.getElem?_eq_some_iff.mp hi).1
    obtain ⟨a, h1, h2, _⟩ := hA.2 i _ (List.getElem?_eq_getElem lt)
    rw [hi] at h1
    cases h1
    obtain ⟨o, ho⟩ := B.al hb
    rw [h2] at ho
    cases ho
end
/-- a test, by what it is asked behind it -/
theorem tAnd_via {A B : TT} {σ : L2.St} {H : Hp} {q : Bool → Hp → Prop} (P : (Bool → Hp → Prop) → Prop) (h : ∀ q', P q' → tAnd A B σ H q') (r : P q) : tAnd A B σ H q := h q r
def partAct : Act → Bool
  | .step _ => true
  | .finish => true
  | _ => false
theorem act_part (x : Act) : inV (.str (actS x)) [.str "step", .str "finish"] = partAct x := by
  cases x with
  | make h m => exact (by decide +kernel : inV (.str "make") [.str "step", .str "finish"] = false)
  | store h f o => exact (by decide +kernel : inV (.str "store") [.str "step", .str "finish"] = false)
  | load h o f => exact (by decide +kernel : inV (.str "load") [.str "step", .str "finish"] = false)
  | copy h o => exact (by decide +kernel : inV (.str "copy") [.str "step", .str "finish"] = false)
  | number h n => exact (by decide +kernel : inV (.str "number") [.str "step", .str "finish"] = false)
  | begin => exact (by decide +kernel : inV (.str "begin") [.str "step", .str "finish"] = false)
  | slide => exact (by decide +kernel : inV (.str "slide") [.str "step", .str "finish"] = false)
  | finish => exact (by decide +kernel : inV (.str "finish") [.str "step", .str "finish"] = true)
  | step n => exact (by decide +kernel : inV (.str "step") [.str "step", .str "finish"] = true)
theorem part_told (s : St) {x : Act} (h : partAct x = true) : ∃ n : Int, toldV (doAct s x).1 = .int n := by
  cases x with
  | step n => exact ⟨_, rfl⟩
  | finish => exact ⟨_, rfl⟩
  | make h m => cases h
  | store h f o => cases h
  | load h o f => cases h
  | copy h o => cases h
  | number h n => cases h
  | begin => cases h
  | slide => cases h
theorem finger_scal (s : St) : scal (fingerV s) (fingerV s) = true := by
  unfold fingerV
  split <;> rfl
theorem tp_colours {H : Hp} {q : Addr} (s : St) (h : H q = some (.tup (s.mem.map fun x => V.str (colS x.2.col)))) : Tp H (.ref q) (coloursD s) := by
  refine .tup h ?_
  clear h
  generalize s.mem = r
  induction r with
  | nil => exact .nil
  | cons x r ih => exact .cons (.str _) ih
end G

namespace G
open L2 PySem PyProof.Rows PySem.Spec
def top (i : Nat) : Stmt := PySem.Challenge.pw_greyhall_k08_whole_hall_by_hand.main.body.getD i (.Pass ⟨0, 0, 0, 0⟩)
abbrev s__wall : Stmt := top 0
abbrev s_Thing_init : Stmt := inClass (top 8) 0
abbrev s_Held_init : Stmt := inClass (top 9) 0
abbrev s_is_held : Stmt := top 10
abbrev s_Memory_init : Stmt := inClass (top 11) 0
abbrev s_Memory_places : Stmt := inClass (top 11) 1
abbrev s_Memory_words : Stmt := inClass (top 11) 2
abbrev s_Memory_gap : Stmt := inClass (top 11) 3
abbrev s_Memory_blocks : Stmt := inClass (top 11) 4
abbrev s_shade : Stmt := top 13
abbrev s_least_grey : Stmt := top 14
abbrev s_next_from : Stmt := top 15
abbrev s_Sweeper_init : Stmt := inClass (top 16) 0
abbrev s_Sweeper_begin : Stmt := inClass (top 16) 1
abbrev s_Sweeper_settle : Stmt := inClass (top 16) 2
abbrev s_Sweeper_mark_part : Stmt := inClass (top 16) 3
abbrev s_Sweeper_sweep_part : Stmt := inClass (top 16) 4
abbrev s_Sweeper_part : Stmt := inClass (top 16) 5
abbrev s_Sweeper_colour_at : Stmt := inClass (top 16) 6
abbrev s_Hall_init : Stmt := inClass (top 18) 0
abbrev s_Hall_number : Stmt := inClass (top 18) 1
abbrev s_Hall_copy : Stmt := inClass (top 18) 2
abbrev s_Hall_held_by : Stmt := inClass (top 18) 3
abbrev s_Hall_fields_of : Stmt := inClass (top 18) 4
abbrev s_Hall_load : Stmt := inClass (top 18) 5
abbrev s_Hall_store : Stmt := inClass (top 18) 6
abbrev s_Hall_make : Stmt := inClass (top 18) 7
abbrev s_Hall_value_of : Stmt := inClass (top 18) 8
abbrev s_Hall_alike : Stmt := inClass (top 18) 9
abbrev s_Hall_shape_of : Stmt := inClass (top 18) 10
abbrev s_Hall_told_fields : Stmt := inClass (top 18) 11
abbrev s_Hall_blocks : Stmt := inClass (top 18) 12
abbrev s_Hall_place_of : Stmt := inClass (top 18) 13
abbrev s_Hall_moved : Stmt := inClass (top 18) 14
abbrev s_Hall_slide : Stmt := inClass (top 18) 15
abbrev s_Hall_begin : Stmt := inClass (top 18) 16
abbrev s_Hall_step : Stmt := inClass (top 18) 17
abbrev s_Hall_finish : Stmt := inClass (top 18) 18
abbrev s_Hall_phase : Stmt := inClass (top 18) 19
abbrev s_Hall_colours : Stmt := inClass (top 18) 20
abbrev s_Hall_finger : Stmt := inClass (top 18) 21
abbrev s_l_cell : Stmt := top 20
abbrev s_l_mix : Stmt := top 21
abbrev s_l_whole : Stmt := top 22
abbrev s_l_act : Stmt := top 23
abbrev s_l_acts : Stmt := top 24
abbrev s_l_size : Stmt := top 25
abbrev s_l_call : Stmt := top 26
abbrev s_l_do : Stmt := top 27
abbrev s_l_new : Stmt := top 28
abbrev s_l_gap : Stmt := top 29
abbrev s_l_shade : Stmt := top 30
abbrev s_l_grey : Stmt := top 31
abbrev s_l_settle : Stmt := top 32
abbrev s_l_begin : Stmt := top 33
abbrev s_l_part : Stmt := top 34
abbrev s_l_steps : Stmt := top 35
abbrev s_l_moved : Stmt := top 36
abbrev s_l_slide : Stmt := top 37
abbrev s_l_made : Stmt := top 38
abbrev s_l_field : Stmt := top 39
abbrev s_l_touch : Stmt := top 40
abbrev s_l_by_hand : Stmt := top 41
abbrev s_l_blocks : Stmt := top 42
abbrev s_l_alike : Stmt := top 43
abbrev s_law : Stmt := top 44
abbrev lv_Thing_init : Nat := 1
abbrev lv_Held_init : Nat := 1
abbrev lv_is_held : Nat := 1
abbrev lv_Memory_init : Nat := 1
abbrev lv_Memory_places : Nat := 1
abbrev lv_Memory_words : Nat := 1
abbrev lv_Memory_gap : Nat := 2
abbrev lv_Memory_blocks : Nat := 2
abbrev lv_shade : Nat := 2
abbrev lv_least_grey : Nat := 2
abbrev lv_next_from : Nat := 2
abbrev lv_Sweeper_init : Nat := 1
abbrev lv_Sweeper_begin : Nat := 4
abbrev lv_Sweeper_settle : Nat := 3
abbrev lv_Sweeper_mark_part : Nat := 3
abbrev lv_Sweeper_sweep_part : Nat := 3
abbrev lv_Sweeper_part : Nat := 4
abbrev lv_Sweeper_colour_at : Nat := 1
abbrev lv_Hall_init : Nat := 3
abbrev lv_Hall_number : Nat := 1
abbrev lv_Hall_copy : Nat := 1
abbrev lv_Hall_held_by : Nat := 2
abbrev lv_Hall_fields_of : Nat := 3
abbrev lv_Hall_load : Nat := 4
abbrev lv_Hall_store : Nat := 4
abbrev lv_Hall_make : Nat := 6
abbrev lv_Hall_blocks : Nat := 3
abbrev lv_Hall_place_of : Nat := 3
abbrev lv_Hall_moved : Nat := 3
abbrev lv_Hall_slide : Nat := 4
abbrev lv_Hall_begin : Nat := 5
abbrev lv_Hall_step : Nat := 5
abbrev lv_Hall_finish : Nat := 5
abbrev lv_Hall_phase : Nat := 1
abbrev lv_Hall_colours : Nat := 2
abbrev lv_Hall_finger : Nat := 1
abbrev lv_l_cell : Nat := 1
abbrev lv_l_mix : Nat := 1
abbrev lv_l_whole : Nat := 1
abbrev lv_l_act : Nat := 2
abbrev lv_l_acts : Nat := 3
abbrev lv_l_size : Nat := 2
abbrev lv_l_call : Nat := 7
abbrev lv_l_do : Nat := 8
abbrev lv_l_new : Nat := 1
abbrev lv_l_gap : Nat := 1
abbrev lv_l_shade : Nat := 1
abbrev lv_l_grey : Nat := 1
abbrev lv_l_settle : Nat := 2
abbrev lv_l_begin : Nat := 3
abbrev lv_l_part : Nat := 3
abbrev lv_l_steps : Nat := 4
abbrev lv_l_moved : Nat := 1
abbrev lv_l_slide : Nat := 2
abbrev lv_l_made : Nat := 5
abbrev lv_l_field : Nat := 1
abbrev lv_l_touch : Nat := 2
abbrev lv_l_by_hand : Nat := 6
abbrev lv_l_blocks : Nat := 1
abbrev lv_l_alike : Nat := 4
abbrev lv_law : Nat := 9
end G

namespace G
open L2 PySem PyProof.Rows PySem.Spec
abbrev N_Thing_init : List Str := ["self", "many", "colour", "k"]
theorem sc_Thing_init : FnScope N_Thing_init ["self", "many", "colour"] (defScope s_Thing_init) := ⟨rfl, rfl, rfl, by decide +kernel, rfl, by decide +kernel, by decide +kernel⟩
set_option maxRecDepth 100000 in
theorem ok_Thing_init {P : Program} {w : World} {K : PySem.W.Frag} {mg : Str → Option Value} {base : Heap} (T : Txt K mg) (D : ∃ fd, FD K "__init__" "Thing.__init__" s_Thing_init (He.fAd K ("Thing", some "__init__")) fd) (hk : Mk K (He.ga K "Thing") (He.ma K (He.ga K "Thing") "__init__")) (hg : mg "Thing" = some (.ref (He.ga K "Thing")))  : MkC P w K mg base CX0 lv_Thing_init "Thing" (sp_Thing_init K) := by
  refine mkC_mk D hk hg (N := N_Thing_init) sc_Thing_init (fun fd F => FunD.bindsN F fun _ _ _ _ _ _ us hl => match us, hl with | [_, _, _], _ => rfl) (fun vs H Q E h => ?_) fun cdv A outer s0 H vs Q E hr h => ?_
  · obtain ⟨p, dx, m, c, rfl, hp, hm, k⟩ := h
    rfl
  · have hu := hu_of hr
    refine ⟨_, (PSs.nox (pss_cons (ps_fld (pv 0) (pe_lc (own := [("k", 3)]) (g := gName 3) (tt := tYes) rfl sc_Thing_init.nd (pi_range1 rfl T.b_range (pa_cons (pv 1) pa_nil)) (blkOk_by (N := N_Thing_init) (sc := defScope s_Thing_init) (by decide +kernel)) (fun _ _ _ _ _ => pg_name (i := 3) sc_Thing_init.nd rfl (Or.inl rfl)) (fun _ _ _ _ _ => by exact pts_nil) (fun _ _ _ _ _ => by exact pe_int)) rfl) (pss_one (ps_fld (pv 0) (pv 2) rfl)))), ?_⟩
    obtain ⟨p, dx, m, c, rfl, hp, hm, k⟩ := h
    refine ⟨_, rfl, _, rfl, by omega, by omega, fun D hD => ?_⟩
    have npd : p ≠ D := ne_of_none hp hD
    refine lc_range (lo := 0) (n := (m : Int).toNat) (fun i H1 => H1 = upd H D (.lst (List.replicate i (.int 0))) ∧ i ≤ m) ⟨rfl, Nat.zero_le _⟩ (fun i H1 hi e => ?_) (fun H1 e => ?_)
    · obtain ⟨rfl, e2⟩ := e
      refine ⟨rfl, _, upd_same, by rw [List.length_replicate]; exact lt1000 (by omega), ?_, by omega⟩
      rw [upd_upd, List.replicate_succ']
    · obtain ⟨rfl, _⟩ := e
      refine ⟨_, rfl, p, cThing K, dx, [], rfl, (by rw [upd_ne npd]; exact hp), T.cThing, T.nFields, by decide, _, rfl, _, rfl, p, cThing K, dx, _, rfl, upd_same, T.cThing, T.nColour, by show 1 < 1000; decide, ?_⟩
      refine k D _ hD ?_ ?_ fun b o hb ne => ?_
      · rw [upd_ne npd.symm, upd_ne npd.symm, upd_same, Int.toNat_natCast]
      · rw [upd_same]
        rfl
      · rw [upd_ne ne, upd_ne ne, upd_ne (ne_of_none hb hD)]
        exact hb
abbrev N_Held_init : List Str := ["self", "place"]
theorem sc_Held_init : FnScope N_Held_init ["self", "place"] (defScope s_Held_init) := ⟨rfl, rfl, rfl, by decide +kernel, rfl, by decide +kernel, by decide +kernel⟩
set_option maxRecDepth 100000 in
theorem ok_Held_init {P : Program} {w : World} {K : PySem.W.Frag} {mg : Str → Option Value} {base : Heap} (T : Txt K mg) (D : ∃ fd, FD K "__init__" "Held.__init__" s_Held_init (He.fAd K ("Held", some "__init__")) fd) (hk : Mk K (He.ga K "Held") (He.ma K (He.ga K "Held") "__init__")) (hg : mg "Held" = some (.ref (He.ga K "Held")))  : MkC P w K mg base CX0 lv_Held_init "Held" (sp_Held_init K) := by
  refine mkC_mk D hk hg (N := N_Held_init) sc_Held_init (fun fd F => FunD.bindsN F fun _ _ _ _ _ _ us hl => match us, hl with | [_, _], _ => rfl) (fun vs H Q E h => ?_) fun cdv A outer s0 H vs Q E hr h => ?_
  · obtain ⟨p, dx, n, rfl, hp, k⟩ := h
    rfl
  · have hu := hu_of hr
    refine ⟨_, (PSs.nox (pss_one (ps_fld (pv 0) (pv 1) rfl))), ?_⟩
    obtain ⟨p, dx, n, rfl, hp, k⟩ := h
    exact ⟨_, rfl, _, rfl, p, cHeld K, dx, [], rfl, hp, T.cHeld, T.nPlace, by decide, k⟩
abbrev N_is_held : List Str := ["value"]
theorem sc_is_held : FnScope N_is_held ["value"] (defScope s_is_held) := ⟨rfl, rfl, rfl, by decide +kernel, rfl, by decide +kernel, by decide +kernel⟩
set_option maxRecDepth 100000 in
theorem ok_is_held {P : Program} {w : World} {K : PySem.W.Frag} {mg : Str → Option Value} {base : Heap} (T : Txt K mg) (D : ∃ fd, FD K "is_held" "is_held" s_is_held (He.fAd K ("is_held", none)) fd) (hg : mg "is_held" = some (.ref (He.ga K "is_held")))  : FnC P w K mg base CX0 lv_is_held "is_held" (sp_is_held K) := by
  refine fnC_mk D hg (N := N_is_held) sc_is_held (fun fd F => FunD.bindsN F fun _ _ _ _ _ _ us hl => match us, hl with | [_], _ => rfl) (fun vs H Q E h => ?_) fun cdv A outer s0 H vs Q E hr h => ?_
  · obtain ⟨F, v, x, rfl, hv, k⟩ := h
    rfl
  · have hu := hu_of hr
    refine ⟨_, (PSs.nox (pss_one (ps_ret (pe_callB call_isi (by rfl) T.b_isinstance (by decide +kernel) (pa_cons (pv 0) (pa_cons (pe_glob (v := .ref (He.ga K "Held")) rfl T.gHeld rfl) pa_nil)))))), ?_⟩
    obtain ⟨F, v, x, rfl, hv, k⟩ := h
    refine ⟨_, rfl, ?_⟩
    cases x with
    | num n =>
      obtain rfl := hv
      exact ⟨_, _, _, _, _, rfl, .own _, .base (.int n), T.kInt, k⟩
    | held p =>
      obtain ⟨a, dx, rfl, _, h⟩ := hv
      exact ⟨_, _, _, _, _, rfl, .own _, .base (.ins h T.cHeld T.iHeld.ha T.gcls T.tcls T.iHeld.hm), kit_refl, k⟩
abbrev N_Memory_init : List Str := ["self", "size"]
theorem sc_Memory_init : FnScope N_Memory_init ["self", "size"] (defScope s_Memory_init) := ⟨rfl, rfl, rfl, by decide +kernel, rfl, by decide +kernel, by decide +kernel⟩
set_option maxRecDepth 100000 in
theorem ok_Memory_init {P : Program} {w : World} {K : PySem.W.Frag} {mg : Str → Option Value} {base : Heap} (T : Txt K mg) (D : ∃ fd, FD K "__init__" "Memory.__init__" s_Memory_init (He.fAd K ("Memory", some "__init__")) fd) (hk : Mk K (He.ga K "Memory") (He.ma K (He.ga K "Memory") "__init__")) (hg : mg "Memory" = some (.ref (He.ga K "Memory")))  : MkC P w K mg base CX0 lv_Memory_init "Memory" (sp_Memory_init K) := by
  refine mkC_mk D hk hg (N := N_Memory_init) sc_Memory_init (fun fd F => FunD.bindsN F fun _ _ _ _ _ _ us hl => match us, hl with | [_, _], _ => rfl) (fun vs H Q E h => ?_) fun cdv A outer s0 H vs Q E hr h => ?_
  · obtain ⟨p, dx, n, rfl, hp, k⟩ := h
    rfl
  · have hu := hu_of hr
    refine ⟨_, (PSs.nox (pss_cons (ps_fld (pv 0) (pv 1) rfl) (pss_one (ps_fld (pv 0) pe_dnewK rfl)))), ?_⟩
    obtain ⟨p, dx, n, rfl, hp, k⟩ := h
    refine ⟨_, rfl, _, rfl, p, cMem K, dx, [], rfl, hp, T.cMem, T.nSize, by decide, fun d hd => ?_⟩
    have npd : p ≠ d := by
      intro e
      rw [← e, upd_same] at hd
      cases hd
    have hd0 : H d = none := by
      rw [upd_ne npd.symm] at hd
      exact hd
    refine ⟨_, rfl, p, cMem K, dx, _, rfl, (by rw [upd_ne npd]; exact upd_same), T.cMem, T.nThings, by show 1 < 1000; decide, ?_⟩
    refine k d _ hd0 ?_ ?_ fun b o hb ne => ?_
    · rw [upd_ne npd.symm, upd_same]
    · rw [upd_same]
      rfl
    · rw [upd_ne ne, upd_ne (ne_of_none hb hd0), upd_ne ne]
      exact hb
abbrev N_Memory_places : List Str := ["self"]
theorem sc_Memory_places : FnScope N_Memory_places ["self"] (defScope s_Memory_places) := ⟨rfl, rfl, rfl, by decide +kernel, rfl, by decide +kernel, by decide +kernel⟩
set_option maxRecDepth 100000 in
theorem ok_Memory_places {P : Program} {w : World} {K : PySem.W.Frag} {mg : Str → Option Value} {base : Heap} (T : Txt K mg) (D : ∃ fd, FD K "places" "Memory.places" s_Memory_places (He.fAd K ("Memory", some "places")) fd) (me : Meth K (He.ga K "Memory") "places" (He.ma K (He.ga K "Memory") "places"))  : MtC P w K mg base CX0 lv_Memory_places "Memory" "places" (sp_Memory_places K) := by
  refine mtC_mk D T.cMem me (N := N_Memory_places) sc_Memory_places (fun fd F => FunD.bindsN F fun _ _ _ _ _ _ us hl => match us, hl with | [_], _ => rfl) (fun vs H Q E h => ?_) fun cdv A outer s0 H vs Q E hr h => ?_
  · obtain ⟨F, ρ, s, rfl, R, hl, k⟩ := h
    rfl
  · have hu := hu_of hr
    refine ⟨_, (PSs.nox (pss_one (ps_ret (pe_callB (call_sortedDA rfl) (by rfl) T.b_sorted (by decide +kernel) (pa_cons (pe_fld (pv 0) rfl) pa_nil))))), ?_⟩
    obtain ⟨F, ρ, s, rfl, R, hl, k⟩ := h
    refine ⟨_, rfl, f_mem_things T R ?_⟩
    obtain ⟨kvs, hd, hp⟩ := R.dc
    obtain ⟨ks, e1, e2⟩ := dict_keys hp
    refine ⟨_, kvs, ks, rfl, .inl hd, e1, fun ys p hy1 hy2 hn => ?_⟩
    have e : ys = s.mem.map (·.1) := sorted_eq hy2 (lay_sorted hl) (hy1.trans e2)
    have k1 := k p hn
    rw [show (s.mem.map fun x => V.int x.1) = ys.map V.int by rw [e, List.map_map]; rfl] at k1
    exact k1
abbrev N_Memory_words : List Str := ["self", "place"]
theorem sc_Memory_words : FnScope N_Memory_words ["self", "place"] (defScope s_Memory_words) := ⟨rfl, rfl, rfl, by decide +kernel, rfl, by decide +kernel, by decide +kernel⟩
set_option maxRecDepth 100000 in
theorem ok_Memory_words {P : Program} {w : World} {K : PySem.W.Frag} {mg : Str → Option Value} {base : Heap} (T : Txt K mg) (D : ∃ fd, FD K "words" "Memory.words" s_Memory_words (He.fAd K ("Memory", some "words")) fd) (me : Meth K (He.ga K "Memory") "words" (He.ma K (He.ga K "Memory") "words"))  : MtC P w K mg base CX0 lv_Memory_words "Memory" "words" (sp_Memory_words K) := by
  refine mtC_mk D T.cMem me (N := N_Memory_words) sc_Memory_words (fun fd F => FunD.bindsN F fun _ _ _ _ _ _ us hl => match us, hl with | [_, _], _ => rfl) (fun vs H Q E h => ?_) fun cdv A outer s0 H vs Q E hr h => ?_
  · obtain ⟨F, ρ, s, p, t, rfl, R, hl, g, k⟩ := h
    rfl
  · have hu := hu_of hr
    refine ⟨_, (PSs.nox (pss_one (ps_ret (pe_op op_add pe_int (pe_callB call_len_seq (by rfl) T.b_len (by decide +kernel) (pa_cons (pe_fld (pe_dget hu (pe_fld (pv 0) rfl) (pv 1) (fun _ _ => rfl)) rfl) pa_nil)))))), ?_⟩
    obtain ⟨F, ρ, s, p, t, rfl, R, hl, g, k⟩ := h
    refine ⟨_, rfl, f_mem_things T R ?_⟩
    refine ⟨_, rfl, d_thing R hl g (f_th_fields T R g ?_)⟩
    obtain ⟨vs, hv, hvs⟩ := R.fl p t g
    refine ⟨_, vs, rfl, .inl (.inl (.inl hv)), _, _, rfl, rfl, ?_⟩
    rw [hvs.1]
    exact k
abbrev N_Sweeper_init : List Str := ["self", "memory"]
theorem sc_Sweeper_init : FnScope N_Sweeper_init ["self", "memory"] (defScope s_Sweeper_init) := ⟨rfl, rfl, rfl, by decide +kernel, rfl, by decide +kernel, by decide +kernel⟩
set_option maxRecDepth 100000 in
theorem ok_Sweeper_init {P : Program} {w : World} {K : PySem.W.Frag} {mg : Str → Option Value} {base : Heap} (T : Txt K mg) (D : ∃ fd, FD K "__init__" "Sweeper.__init__" s_Sweeper_init (He.fAd K ("Sweeper", some "__init__")) fd) (hk : Mk K (He.ga K "Sweeper") (He.ma K (He.ga K "Sweeper") "__init__")) (hg : mg "Sweeper" = some (.ref (He.ga K "Sweeper")))  : MkC P w K mg base CX0 lv_Sweeper_init "Sweeper" (sp_Sweeper_init K) := by
  refine mkC_mk D hk hg (N := N_Sweeper_init) sc_Sweeper_init (fun fd F => FunD.bindsN F fun _ _ _ _ _ _ us hl => match us, hl with | [_, _], _ => rfl) (fun vs H Q E h => ?_) fun cdv A outer s0 H vs Q E hr h => ?_
  · obtain ⟨p, dx, m, rfl, hp, k⟩ := h
    rfl
  · have hu := hu_of hr
    refine ⟨_, (PSs.nox (pss_cons (ps_fld (pv 0) (pv 1) rfl) (pss_cons (ps_fld (pv 0) pe_str rfl) (pss_one (ps_fld (pv 0) pe_int rfl))))), ?_⟩
    obtain ⟨p, dx, m, rfl, hp, k⟩ := h
    refine ⟨_, rfl, _, rfl, p, cSw K, dx, [], rfl, hp, T.cSw, T.nMemS, by decide, ?_⟩
    refine ⟨_, rfl, p, cSw K, dx, _, rfl, upd_same, T.cSw, T.nStanding, by show 1 < 1000; decide, ?_⟩
    refine ⟨_, rfl, p, cSw K, dx, _, rfl, upd_same, T.cSw, T.nAtWord, by show 2 < 1000; decide, ?_⟩
    rw [upd_upd, upd_upd]
    exact k
end G

namespace G
open L2 PySem PyProof.Rows PySem.Spec
abbrev N_Memory_gap : List Str := ["self", "words", "at", "place"]
theorem sc_Memory_gap : FnScope N_Memory_gap ["self", "words"] (defScope s_Memory_gap) := ⟨rfl, rfl, rfl, by decide +kernel, rfl, by decide +kernel, by decide +kernel⟩
set_option maxRecDepth 100000 in
theorem ok_Memory_gap {P : Program} {w : World} {K : PySem.W.Frag} {mg : Str → Option Value} {base : Heap} (T : Txt K mg) (D : ∃ fd, FD K "gap" "Memory.gap" s_Memory_gap (He.fAd K ("Memory", some "gap")) fd) (me : Meth K (He.ga K "Memory") "gap" (He.ma K (He.ga K "Memory") "gap")) (m_Memory_places : MtC P w K mg base CX0 lv_Memory_places "Memory" "places" (sp_Memory_places K)) (m_Memory_words : MtC P w K mg base CX0 lv_Memory_words "Memory" "words" (sp_Memory_words K)) : MtC P w K mg base CX0 lv_Memory_gap "Memory" "gap" (sp_Memory_gap K) := by
  refine mtC_mk D T.cMem me (N := N_Memory_gap) sc_Memory_gap (fun fd F => FunD.bindsN F fun _ _ _ _ _ _ us hl => match us, hl with | [_, _], _ => rfl) (fun vs H Q E h => ?_) fun cdv A outer s0 H vs Q E hr h => ?_
  · obtain ⟨F, ρ, s, w, rfl, R, hl, k⟩ := h
    rfl
  · have hu := hu_of hr
    refine ⟨_, (PSs.nox (pss_cons (ps_set (i := 2) sc_Memory_gap.nd rfl (Or.inl rfl) pe_int) (pss_cons (ps_for PassesOwn.never rfl (pi_list (pf_meth0 m_Memory_places hr (by decide) pass0 (pv 0))) (pg_name (i := 3) sc_Memory_gap.nd rfl (Or.inl rfl)) (pss_cons (ps_if (pt_cmpR op_ge (pe_op op_sub (pv 3) (pv 2)) (pv 1) (nomark _)) (pss_one (ps_ret (pv 2))) pss_nil) (pss_one (ps_set (i := 2) sc_Memory_gap.nd rfl (Or.inl rfl) (pe_op op_add (pv 3) (pf_meth m_Memory_words hr (by decide) pass0 (pv 0) (pa_cons (pv 3) pa_nil))))))) (pss_cons (ps_if (pt_cmpR op_ge (pe_op op_sub (pe_fld (pv 0) rfl) (pv 2)) (pv 1) (nomark _)) (pss_one (ps_ret (pv 2))) pss_nil) (pss_one (ps_ret pe_non)))))), ?_⟩
    obtain ⟨F, ρ, s, w, rfl, R, hl, k⟩ := h
    refine ⟨_, rfl, m_mem R ⟨F, ρ, s, rfl, R, hl, fun p hn => ?_⟩⟩
    have s1 := same_new (o := .lst (s.mem.map fun x => V.int x.1)) hn
    have R1 := R.same s1
    refine ⟨p, rfl, ⟨_, .inl (.inl upd_same)⟩, for_list (K := K) (a := p) (xs := s.mem.map fun x => V.int x.1)
      (fun i σ H1 => ∃ (at' : Int) (v : Option V), σ = [some (.ref (ρ .mem)), some (.int w), some (.int at'), v] ∧ H1 = upd H p (.lst (s.mem.map fun x => V.int x.1)) ∧ gapF s.size w 0 s.mem = gapF s.size w at' (s.mem.drop i))
      ⟨0, none, rfl, rfl, rfl⟩ (fun i σ H1 _ ⟨_, _, _, e, _⟩ => by rw [e]; exact .inl (.inl upd_same)) ?_ ?_⟩
    · rintro i y σ H1 hi ⟨at', v, rfl, rfl, hg⟩
      obtain ⟨x, hx, rfl, hd⟩ := map_get hi
      rw [hd, gapF_cons] at hg
      have gx := mem_get hl (List.mem_of_getElem? hx)
      refine ⟨_, rfl, _, rfl, _, _, rfl, rfl, _, rfl, _, _, rfl, rfl, _, rfl, ?_⟩
      refine ite2 (fun c => ?_) (fun c => ?_)
      · have c' := of_decide_eq_true c
        refine ⟨_, rfl, ?_⟩
        have k1 := k _ s1
        unfold gap at k1
        rw [hg, if_pos c'] at k1
        exact k1
      · have c' : ¬ w ≤ x.1 - at' := fun z => c (decide_eq_true z)
        rw [if_neg c'] at hg
        refine ⟨_, rfl, _, rfl, m_mem R1 ⟨_, rfl, F, ρ, s, x.1, x.2, rfl, R1, hl, gx, _, _, rfl, rfl, ?_⟩⟩
        exact ⟨_, _, rfl, rfl, hg⟩
    · rintro σ H1 ⟨at', v, rfl, rfl, hg⟩
      rw [drop_all, gapF_nil] at hg
      refine ⟨_, rfl, f_mem_size T R1 ⟨_, rfl, _, _, rfl, rfl, _, rfl, _, _, rfl, rfl, _, rfl, ?_⟩⟩
      have k1 := k _ s1
      unfold gap at k1
      refine ite2 (fun c => ?_) (fun c => ?_)
      · rw [hg, if_pos (of_decide_eq_true c)] at k1
        exact ⟨_, rfl, k1⟩
      · rw [hg, if_neg (fun z => c (decide_eq_true z))] at k1
        exact k1
abbrev N_shade : List Str := ["memory", "value"]
theorem sc_shade : FnScope N_shade ["memory", "value"] (defScope s_shade) := ⟨rfl, rfl, rfl, by decide +kernel, rfl, by decide +kernel, by decide +kernel⟩
set_option maxRecDepth 100000 in
theorem ok_shade {P : Program} {w : World} {K : PySem.W.Frag} {mg : Str → Option Value} {base : Heap} (T : Txt K mg) (D : ∃ fd, FD K "shade" "shade" s_shade (He.fAd K ("shade", none)) fd) (hg : mg "shade" = some (.ref (He.ga K "shade"))) (m_is_held : FnC P w K mg base CX0 lv_is_held "is_held" (sp_is_held K)) : FnC P w K mg base CX0 lv_shade "shade" (sp_shade K) := by
  refine fnC_mk D hg (N := N_shade) sc_shade (fun fd F => FunD.bindsN F fun _ _ _ _ _ _ us hl => match us, hl with | [_, _], _ => rfl) (fun vs H Q E h => ?_) fun cdv A outer s0 H vs Q E hr h => ?_
  · obtain ⟨F, ρ, s, v, x, rfl, R, hl, hv, hd, k⟩ := h
    rfl
  · have hu := hu_of hr
    refine ⟨_, (PSs.nox (pss_one (ps_if (PW.pt (pw_and (pt_val (pf_call m_is_held hr (by decide) pass0 (pa_cons (pv 1) pa_nil))) (pw_and1 (pt_cmpR op_eq (pe_fld (pe_dget hu (pe_fld (pv 0) rfl) (pe_fld (pv 1) rfl) (fun _ _ => rfl)) rfl) pe_str (nomark _))))) (pss_one (ps_fld (pe_dget hu (pe_fld (pv 0) rfl) (pe_fld (pv 1) rfl) (fun _ _ => rfl)) pe_str rfl)) pss_nil))), ?_⟩
    obtain ⟨F, ρ, s, v, x, rfl, R, hl, hv, hd, k⟩ := h
    refine ⟨_, rfl, F, v, x, rfl, hv, _, rfl, ?_⟩
    cases x with
    | num n => exact k H (Kp.refl F H) (fun _ _ h => h) R
    | held p =>
      obtain ⟨t, g⟩ := hd p (List.mem_singleton.mpr rfl)
      obtain ⟨a, dx, rfl, hF, ha⟩ := id hv
      refine ⟨_, rfl, f_mem_things T R ⟨_, rfl, f_held T ha (d_thing R hl g (f_th_colour T R g ⟨rfl, _, rfl, ?_⟩))⟩⟩
      refine ite2 (fun c => ?_) (fun c => ?_)
      · have c' : t.col = .white := colS_inj.mp (V.str.inj (of_decide_eq_true c))
        obtain ⟨dxt, ht⟩ := R.th p t g
        refine ⟨_, rfl, f_mem_things T R ⟨_, rfl, f_held T ha (d_thing R hl g ⟨_, cThing K, dxt, _, rfl, ht, T.cThing, T.nColour, by show 2 < 1000; decide, ?_⟩)⟩⟩
        have R1 := R.setCol T g .grey (dx := dxt)
        rw [show modT s.mem p (G.setCol .grey) = modT s.mem p toGrey from modT_congr hl fun u gu => by
          rw [g] at gu
          cases gu
          unfold toGrey
          rw [if_pos c']
          rfl] at R1
        have k1 := k _ (Kp.upd (R.own (.th p) ⟨t, g⟩)) (fun b xs hb => by rw [upd_ne (ne_of hb ht (by intro z; cases z))]; exact hb) R1
        rw [← thF_put (c := t.col) (d := .grey)] at k1
        exact k1
      · have c' : ¬ t.col = .white := fun z => c (decide_eq_true (by rw [z]; rfl))
        have e : shade s.mem (.held p) = s.mem := by
          show modT s.mem p toGrey = s.mem
          rw [modT_congr (g := id) hl, modT_id]
          intro u gu
          rw [g] at gu
          cases gu
          unfold toGrey
          rw [if_neg c']
          rfl
        refine k H (Kp.refl F H) (fun _ _ h => h) ?_
        rw [e]
        exact R
abbrev N_least_grey : List Str := ["memory", "place"]
theorem sc_least_grey : FnScope N_least_grey ["memory"] (defScope s_least_grey) := ⟨rfl, rfl, rfl, by decide +kernel, rfl, by decide +kernel, by decide +kernel⟩
set_option maxRecDepth 100000 in
theorem ok_least_grey {P : Program} {w : World} {K : PySem.W.Frag} {mg : Str → Option Value} {base : Heap} (T : Txt K mg) (D : ∃ fd, FD K "least_grey" "least_grey" s_least_grey (He.fAd K ("least_grey", none)) fd) (hg : mg "least_grey" = some (.ref (He.ga K "least_grey"))) (m_Memory_places : MtC P w K mg base CX0 lv_Memory_places "Memory" "places" (sp_Memory_places K)) : FnC P w K mg base CX0 lv_least_grey "least_grey" (sp_least_grey K) := by
  refine fnC_mk D hg (N := N_least_grey) sc_least_grey (fun fd F => FunD.bindsN F fun _ _ _ _ _ _ us hl => match us, hl with | [_], _ => rfl) (fun vs H Q E h => ?_) fun cdv A outer s0 H vs Q E hr h => ?_
  · obtain ⟨F, ρ, s, rfl, R, hl, k⟩ := h
    rfl
  · have hu := hu_of hr
    refine ⟨_, (PSs.nox (pss_cons (ps_for PassesOwn.never rfl (pi_list (pf_meth0 m_Memory_places hr (by decide) pass0 (pv 0))) (pg_name (i := 1) sc_least_grey.nd rfl (Or.inl rfl)) (pss_one (ps_if (pt_cmpR op_eq (pe_fld (pe_dget hu (pe_fld (pv 0) rfl) (pv 1) (fun _ _ => rfl)) rfl) pe_str (nomark _)) (pss_one (ps_ret (pv 1))) pss_nil))) (pss_one (ps_ret pe_non)))), ?_⟩
    obtain ⟨F, ρ, s, rfl, R, hl, k⟩ := h
    refine ⟨_, rfl, m_mem R ⟨F, ρ, s, rfl, R, hl, fun p hn => ?_⟩⟩
    have s1 := same_new (o := .lst (s.mem.map fun x => V.int x.1)) hn
    have R1 := R.same s1
    refine ⟨p, rfl, ⟨_, .inl (.inl upd_same)⟩, for_list (K := K) (a := p) (xs := s.mem.map fun x => V.int x.1)
      (fun i σ H1 => ∃ (v : Option V), σ = [some (.ref (ρ .mem)), v] ∧ H1 = upd H p (.lst (s.mem.map fun x => V.int x.1)) ∧ leastGrey s.mem = leastGrey (s.mem.drop i))
      ⟨none, rfl, rfl, rfl⟩ (fun i σ H1 _ ⟨_, _, e, _⟩ => by rw [e]; exact .inl (.inl upd_same)) ?_ ?_⟩
    · rintro i y σ H1 hi ⟨v, rfl, rfl, hg⟩
      obtain ⟨x, hx, rfl, hd⟩ := map_get hi
      rw [hd] at hg
      unfold leastGrey at hg
      rw [List.find?_cons] at hg
      have gx := mem_get hl (List.mem_of_getElem? hx)
      refine ⟨_, rfl, f_mem_things T R1 ⟨_, rfl, d_thing R1 hl gx (f_th_colour T R1 gx ⟨rfl, _, rfl, ?_⟩)⟩⟩
      refine ite2 (fun c => ?_) (fun c => ?_)
      · have c' : x.2.col = .grey := colS_inj.mp (V.str.inj (of_decide_eq_true c))
        refine ⟨_, rfl, ?_⟩
        have e : isGrey x = true := decide_eq_true c'
        rw [e] at hg
        have k1 := k _ s1
        rw [show leastGrey s.mem = some x.1 from hg] at k1
        exact k1
      · have c' : ¬ x.2.col = .grey := fun z => c (decide_eq_true (by rw [z]; rfl))
        have e : isGrey x = false := decide_eq_false c'
        rw [e] at hg
        exact ⟨_, rfl, rfl, hg⟩
    · rintro σ H1 ⟨v, rfl, rfl, hg⟩
      rw [drop_all] at hg
      have k1 := k _ s1
      rw [show leastGrey s.mem = none from hg] at k1
      exact k1
abbrev N_next_from : List Str := ["memory", "finger", "place"]
theorem sc_next_from : FnScope N_next_from ["memory", "finger"] (defScope s_next_from) := ⟨rfl, rfl, rfl, by decide +kernel, rfl, by decide +kernel, by decide +kernel⟩
set_option maxRecDepth 100000 in
theorem ok_next_from {P : Program} {w : World} {K : PySem.W.Frag} {mg : Str → Option Value} {base : Heap} (T : Txt K mg) (D : ∃ fd, FD K "next_from" "next_from" s_next_from (He.fAd K ("next_from", none)) fd) (hg : mg "next_from" = some (.ref (He.ga K "next_from"))) (m_Memory_places : MtC P w K mg base CX0 lv_Memory_places "Memory" "places" (sp_Memory_places K)) : FnC P w K mg base CX0 lv_next_from "next_from" (sp_next_from K) := by
  refine fnC_mk D hg (N := N_next_from) sc_next_from (fun fd F => FunD.bindsN F fun _ _ _ _ _ _ us hl => match us, hl with | [_, _], _ => rfl) (fun vs H Q E h => ?_) fun cdv A outer s0 H vs Q E hr h => ?_
  · obtain ⟨F, ρ, s, a, rfl, R, hl, k⟩ := h
    rfl
  · have hu := hu_of hr
    refine ⟨_, (PSs.nox (pss_cons (ps_for PassesOwn.never rfl (pi_list (pf_meth0 m_Memory_places hr (by decide) pass0 (pv 0))) (pg_name (i := 2) sc_next_from.nd rfl (Or.inl rfl)) (pss_one (ps_if (pt_cmpR op_ge (pv 2) (pv 1) (nomark _)) (pss_one (ps_ret (pv 2))) pss_nil))) (pss_one (ps_ret pe_non)))), ?_⟩
    obtain ⟨F, ρ, s, a, rfl, R, hl, k⟩ := h
    refine ⟨_, rfl, m_mem R ⟨F, ρ, s, rfl, R, hl, fun p hn => ?_⟩⟩
    have s1 := same_new (o := .lst (s.mem.map fun x => V.int x.1)) hn
    have R1 := R.same s1
    refine ⟨p, rfl, ⟨_, .inl (.inl upd_same)⟩, for_list (K := K) (a := p) (xs := s.mem.map fun x => V.int x.1)
      (fun i σ H1 => ∃ (v : Option V), σ = [some (.ref (ρ .mem)), some (.int a), v] ∧ H1 = upd H p (.lst (s.mem.map fun x => V.int x.1)) ∧ nextFrom s.mem a = nextFrom (s.mem.drop i) a)
      ⟨none, rfl, rfl, rfl⟩ (fun i σ H1 _ ⟨_, _, e, _⟩ => by rw [e]; exact .inl (.inl upd_same)) ?_ ?_⟩
    · rintro i y σ H1 hi ⟨v, rfl, rfl, hg⟩
      obtain ⟨x, hx, rfl, hd⟩ := map_get hi
      rw [hd] at hg
      unfold nextFrom at hg
      rw [List.find?_cons] at hg
      refine ⟨_, rfl, _, rfl, _, _, rfl, rfl, _, rfl, ?_⟩
      refine ite2 (fun c => ?_) (fun c => ?_)
      · refine ⟨_, rfl, ?_⟩
        rw [c] at hg
        have k1 := k _ s1
        rw [show nextFrom s.mem a = some x.1 from hg] at k1
        exact k1
      · have e : decide (a ≤ x.1) = false := by simpa using c
        rw [e] at hg
        exact ⟨_, rfl, rfl, hg⟩
    · rintro σ H1 ⟨v, rfl, rfl, hg⟩
      rw [drop_all] at hg
      have k1 := k _ s1
      rw [show nextFrom s.mem a = none from hg] at k1
      exact k1
end G

namespace G
open L2 PySem PyProof.Rows PySem.Spec
abbrev N_Sweeper_begin : List Str := ["self", "hands", "value"]
theorem sc_Sweeper_begin : FnScope N_Sweeper_begin ["self", "hands"] (defScope s_Sweeper_begin) := ⟨rfl, rfl, rfl, by decide +kernel, rfl, by decide +kernel, by decide +kernel⟩
set_option maxRecDepth 100000 in
theorem ok_Sweeper_begin {P : Program} {w : World} {K : PySem.W.Frag} {mg : Str → Option Value} {base : Heap} (T : Txt K mg) (D : ∃ fd, FD K "begin" "Sweeper.begin" s_Sweeper_begin (He.fAd K ("Sweeper", some "begin")) fd) (me : Meth K (He.ga K "Sweeper") "begin" (He.ma K (He.ga K "Sweeper") "begin")) (m_Sweeper_settle : MtC P w K mg base CX0 lv_Sweeper_settle "Sweeper" "settle" (sp_Sweeper_settle K)) (m_shade : FnC P w K mg base CX0 lv_shade "shade" (sp_shade K)) : MtC P w K mg base CX0 lv_Sweeper_begin "Sweeper" "begin" (sp_Sweeper_begin K) := by
  refine mtC_mk D T.cSw me (N := N_Sweeper_begin) sc_Sweeper_begin (fun fd F => FunD.bindsN F fun _ _ _ _ _ _ us hl => match us, hl with | [_, _], _ => rfl) (fun vs H Q E h => ?_) fun cdv A outer s0 H vs Q E hr h => ?_
  · obtain ⟨F, ρ, s, rfl, R, hl, hd, k⟩ := h
    rfl
  · have hu := hu_of hr
    refine ⟨_, (PSs.nox (pss_cons (ps_fld (pv 0) pe_str rfl) (pss_cons (ps_for PassesOwn.never rfl (pi_list (pv 1)) (pg_name (i := 2) sc_Sweeper_begin.nd rfl (Or.inl rfl)) (pss_one (ps_expr (pf_call m_shade hr (by decide) pass0 (pa_cons (pe_fld (pv 0) rfl) (pa_cons (pv 2) pa_nil)))))) (pss_one (ps_expr (pf_meth0 m_Sweeper_settle hr (by decide) pass0 (pv 0))))))), ?_⟩
    obtain ⟨F, ρ, s, rfl, R, hl, hd, k⟩ := h
    obtain ⟨dx, hs⟩ := R.sw
    refine ⟨_, rfl, _, cSw K, dx, _, rfl, hs, T.cSw, T.nStanding, by show 3 < 1000; decide, ?_⟩
    have R0 := R.setSw T .mark s.fin (dx := dx)
    rw [← swF_putS (p := s.ph)] at R0
    have kp0 : Kp F H F _ := Kp.upd (o := .ins (cSw K) dx (putF ("standing" : Str) (V.str (phS .mark)) (swF (ρ .mem) s.ph s.fin))) (R.own .sw trivial)
    obtain ⟨vs, hv, hvs⟩ := R0.hl
    refine ⟨_, rfl, _, rfl, ⟨_, .inl (.inl hv)⟩, for_list (K := K) (a := ρ .hl) (xs := vs)
      (fun i σ H1 => ∃ (v : Option V), σ = [some (.ref (ρ .sw)), some (.ref (ρ .hl)), v] ∧ Kp F H F H1 ∧ H1 (ρ .hl) = some (.lst vs) ∧ HallR K F H1 ρ { s with ph := .mark, mem := shadeAll s.mem (s.hands.take i) })
      ⟨none, rfl, kp0, hv, R0⟩ (fun i σ H1 _ ⟨_, _, _, e, _⟩ => .inl (.inl e)) ?_ ?_⟩
    · rintro i y σ H1 hi ⟨v, rfl, kp, hv1, R1⟩
      obtain ⟨vs1, e1, hvs1⟩ := R1.hl
      rw [hv1] at e1
      cases e1
      obtain ⟨x, hx, hxv⟩ := hvs1.get hi
      have hl1 : Lay s.size 0 (shadeAll s.mem (s.hands.take i)) := lay_shadeAll _ hl
      refine ⟨_, rfl, f_sw_memory T R1 ⟨_, rfl, F, ρ, _, y, x, rfl, R1, hl1, hxv, fun p hp => ?_, fun H2 kp2 kl R2 => ?_⟩⟩
      · obtain rfl := List.mem_singleton.mp hp
        obtain ⟨t, g⟩ := hd p (List.mem_of_getElem? hx)
        obtain ⟨t', h, _⟩ := (shadeAll_shd (s.hands.take i) s.mem).get g
        exact ⟨t', h⟩
      · refine ⟨_, rfl, kp.trans kp2, kl _ _ hv1, ?_⟩
        have hx' : s.hands[i]? = some x := hx
        rw [List.take_add_one, hx']
        show HallR K F H2 ρ { s with ph := .mark, mem := (s.hands.take i ++ [x]).foldl shade s.mem }
        rw [List.foldl_append]
        exact R2
    · rintro σ H1 ⟨v, rfl, kp, hv1, R1⟩
      have e : s.hands.take vs.length = s.hands := List.take_of_length_le (by rw [hvs.1]; exact Nat.le_refl _)
      rw [e] at R1
      refine ⟨_, rfl, m_sw R1 ⟨F, ρ, _, rfl, R1, lay_shadeAll _ hl, fun H2 kp2 R2 => ?_⟩⟩
      exact k H2 (kp.trans kp2) R2
abbrev N_Sweeper_settle : List Str := ["self"]
theorem sc_Sweeper_settle : FnScope N_Sweeper_settle ["self"] (defScope s_Sweeper_settle) := ⟨rfl, rfl, rfl, by decide +kernel, rfl, by decide +kernel, by decide +kernel⟩
set_option maxRecDepth 100000 in
theorem ok_Sweeper_settle {P : Program} {w : World} {K : PySem.W.Frag} {mg : Str → Option Value} {base : Heap} (T : Txt K mg) (D : ∃ fd, FD K "settle" "Sweeper.settle" s_Sweeper_settle (He.fAd K ("Sweeper", some "settle")) fd) (me : Meth K (He.ga K "Sweeper") "settle" (He.ma K (He.ga K "Sweeper") "settle")) (m_next_from : FnC P w K mg base CX0 lv_next_from "next_from" (sp_next_from K)) (m_least_grey : FnC P w K mg base CX0 lv_least_grey "least_grey" (sp_least_grey K)) : MtC P w K mg base CX0 lv_Sweeper_settle "Sweeper" "settle" (sp_Sweeper_settle K) := by
  refine mtC_mk D T.cSw me (N := N_Sweeper_settle) sc_Sweeper_settle (fun fd F => FunD.bindsN F fun _ _ _ _ _ _ us hl => match us, hl with | [_], _ => rfl) (fun vs H Q E h => ?_) fun cdv A outer s0 H vs Q E hr h => ?_
  · obtain ⟨F, ρ, s, rfl, R, hl, k⟩ := h
    rfl
  · have hu := hu_of hr
    refine ⟨_, (PSs.nox (pss_cons (ps_mid (ps_if (PW.pt (pw_and (pt_cmpR op_eq (pe_fld (pv 0) rfl) pe_str (nomark _)) (pw_and1 (pt_cmp (pc_isN (pf_call m_least_grey hr (by decide) pass0 (pa_cons (pe_fld (pv 0) rfl) pa_nil))))))) (pss_cons (ps_fld (pv 0) pe_str rfl) (pss_one (ps_fld (pv 0) pe_int rfl))) pss_nil)) (pss_one (ps_if (PW.pt (pw_and (pt_cmpR op_eq (pe_fld (pv 0) rfl) pe_str (nomark _)) (pw_and1 (pt_cmp (pc_isN (pf_call m_next_from hr (by decide) pass0 (pa_cons (pe_fld (pv 0) rfl) (pa_cons (pe_fld (pv 0) rfl) pa_nil)))))))) (pss_one (ps_fld (pv 0) pe_str rfl)) pss_nil)))), ?_⟩
    obtain ⟨F, ρ, s, rfl, R, hl, k⟩ := h
    refine ⟨fun σ H1 => σ = [some (.ref (ρ .sw))] ∧ Kp F H F H1 ∧ HallR K F H1 ρ (settle1 s), ?_, ?_⟩
    · refine ⟨_, rfl, f_sw_standing T R ⟨rfl, _, rfl, ?_⟩⟩
      refine ite2 (fun c => ?_) (fun c => ?_)
      · have c' : s.ph = .mark := phS_inj.mp (V.str.inj (of_decide_eq_true c))
        refine ⟨_, rfl, f_sw_memory T R ⟨F, ρ, s, rfl, R, hl, fun H1 s1 => ⟨_, rfl, ?_⟩⟩⟩
        have R1 := R.same s1
        refine ite2 (fun d => ?_) (fun d => ?_)
        · have d' : leastGrey s.mem = none := optV_non.mp (of_decide_eq_true d)
          obtain ⟨dx, hs⟩ := R1.sw
          have hs2 := (R1.setSw T .sweep s.fin (dx := dx)).sw
          refine ⟨_, rfl, _, cSw K, dx, _, rfl, hs, T.cSw, T.nStanding, by show 3 < 1000; decide, _, rfl, _, cSw K, dx, _, rfl, upd_same, T.cSw, T.nAtWord, by show 3 < 1000; decide, rfl, ?_, ?_⟩
          · exact ((Kp.same s1).trans (Kp.upd (R1.own .sw trivial))).trans (Kp.upd (R1.own .sw trivial))
          · rw [upd_upd]
            have e : (putF ("at_word" : Str) (V.int 0) (putF ("standing" : Str) (V.str (phS .sweep)) (swF (ρ .mem) s.ph s.fin))) = swF (ρ .mem) .sweep 0 := by rw [swF_putS, swF_putA]
            have R2 := R1.setSw T .sweep 0 (dx := dx)
            rw [← e] at R2
            unfold settle1
            rw [if_pos ⟨c', d'⟩]
            exact R2
        · have d' : ¬ leastGrey s.mem = none := fun z => d (decide_eq_true (optV_non.mpr z))
          refine ⟨rfl, Kp.same s1, ?_⟩
          unfold settle1
          rw [if_neg (fun z => d' z.2)]
          exact R1
      · have c' : ¬ s.ph = .mark := fun z => c (decide_eq_true (by rw [z]; rfl))
        refine ⟨rfl, Kp.refl F H, ?_⟩
        unfold settle1
        rw [if_neg (fun z => c' z.1)]
        exact R
    · rintro σ H1 ⟨rfl, kp, R1⟩
      have hl1 : Lay (settle1 s).size 0 (settle1 s).mem := by
        unfold settle1
        split <;> exact hl
      refine ⟨_, rfl, f_sw_standing T R1 ⟨rfl, _, rfl, ?_⟩⟩
      refine ite2 (fun c => ?_) (fun c => ?_)
      · have c' : (settle1 s).ph = .sweep := phS_inj.mp (V.str.inj (of_decide_eq_true c))
        refine ⟨_, rfl, f_sw_memory T R1 ⟨_, rfl, f_sw_at T R1 ⟨F, ρ, settle1 s, _, rfl, R1, hl1, fun H2 s2 => ⟨_, rfl, ?_⟩⟩⟩⟩
        have R2 := R1.same s2
        refine ite2 (fun d => ?_) (fun d => ?_)
        · have d' : nextFrom (settle1 s).mem (settle1 s).fin = none := optV_non.mp (of_decide_eq_true d)
          obtain ⟨dx, hs⟩ := R2.sw
          refine ⟨_, rfl, _, cSw K, dx, _, rfl, hs, T.cSw, T.nStanding, by show 3 < 1000; decide, ?_⟩
          refine k _ (kp.trans ((Kp.same s2).trans (Kp.upd (R2.own .sw trivial)))) ?_
          have R3 := R2.setSw T .idle (settle1 s).fin (dx := dx)
          rw [← swF_putS (p := (settle1 s).ph)] at R3
          unfold settle settle2
          rw [if_pos ⟨c', d'⟩]
          exact R3
        · have d' : ¬ nextFrom (settle1 s).mem (settle1 s).fin = none := fun z => d (decide_eq_true (optV_non.mpr z))
          refine k _ (kp.trans (Kp.same s2)) ?_
          unfold settle settle2
          rw [if_neg (fun z => d' z.2)]
          exact R2
      · have c' : ¬ (settle1 s).ph = .sweep := fun z => c (decide_eq_true (by rw [z]; rfl))
        refine k _ kp ?_
        unfold settle settle2
        rw [if_neg (fun z => c' z.1)]
        exact R1
abbrev N_Sweeper_mark_part : List Str := ["self", "thing", "value"]
theorem sc_Sweeper_mark_part : FnScope N_Sweeper_mark_part ["self"] (defScope s_Sweeper_mark_part) := ⟨rfl, rfl, rfl, by decide +kernel, rfl, by decide +kernel, by decide +kernel⟩
set_option maxRecDepth 100000 in
theorem ok_Sweeper_mark_part {P : Program} {w : World} {K : PySem.W.Frag} {mg : Str → Option Value} {base : Heap} (T : Txt K mg) (D : ∃ fd, FD K "mark_part" "Sweeper.mark_part" s_Sweeper_mark_part (He.fAd K ("Sweeper", some "mark_part")) fd) (me : Meth K (He.ga K "Sweeper") "mark_part" (He.ma K (He.ga K "Sweeper") "mark_part")) (m_shade : FnC P w K mg base CX0 lv_shade "shade" (sp_shade K)) (m_least_grey : FnC P w K mg base CX0 lv_least_grey "least_grey" (sp_least_grey K)) : MtC P w K mg base CX0 lv_Sweeper_mark_part "Sweeper" "mark_part" (sp_Sweeper_mark_part K) := by
  refine mtC_mk D T.cSw me (N := N_Sweeper_mark_part) sc_Sweeper_mark_part (fun fd F => FunD.bindsN F fun _ _ _ _ _ _ us hl => match us, hl with | [_], _ => rfl) (fun vs H Q E h => ?_) fun cdv A outer s0 H vs Q E hr h => ?_
  · obtain ⟨F, ρ, s, g, t, rfl, R, hl, hg, gt, hd, k⟩ := h
    rfl
  · have hu := hu_of hr
    refine ⟨_, (PSs.nox (pss_cons (ps_set (i := 1) sc_Sweeper_mark_part.nd rfl (Or.inl rfl) (pe_dget hu (pe_fld (pe_fld (pv 0) rfl) rfl) (pf_call m_least_grey hr (by decide) pass0 (pa_cons (pe_fld (pv 0) rfl) pa_nil)) (fun _ _ => rfl))) (pss_cons (ps_for PassesOwn.never rfl (pi_list (pe_fld (pv 1) rfl)) (pg_name (i := 2) sc_Sweeper_mark_part.nd rfl (Or.inl rfl)) (pss_one (ps_expr (pf_call m_shade hr (by decide) pass0 (pa_cons (pe_fld (pv 0) rfl) (pa_cons (pv 2) pa_nil)))))) (pss_one (ps_fld (pv 1) pe_str rfl))))), ?_⟩
    obtain ⟨F, ρ, s, g, t, rfl, R, hl, hg, gt, hd, k⟩ := h
    refine ⟨_, rfl, f_sw_memory T R (f_mem_things T R ⟨_, rfl, f_sw_memory T R ⟨F, ρ, s, rfl, R, hl, fun H0 s0' => ?_⟩⟩)⟩
    have R0 := R.same s0'
    rw [hg]
    refine d_thing R0 hl gt ?_
    obtain ⟨vs, hv, hvs⟩ := R0.fl g t gt
    refine ⟨_, rfl, f_th_fields T R0 gt ⟨_, rfl, ⟨_, .inl (.inl hv)⟩, for_list (K := K) (a := ρ (.fl g)) (xs := vs)
      (fun i σ H1 => ∃ (v : Option V), σ = [some (.ref (ρ .sw)), some (.ref (ρ (.th g))), v] ∧ Kp F H F H1 ∧ H1 (ρ (.fl g)) = some (.lst vs) ∧ HallR K F H1 ρ { s with mem := shadeAll s.mem (t.fs.take i) })
      ⟨none, rfl, Kp.same s0', hv, R0⟩ (fun i σ H1 _ ⟨_, _, _, e, _⟩ => .inl (.inl e)) ?_ ?_⟩⟩
    · rintro i y σ H1 hi ⟨v, rfl, kp, hv1, R1⟩
      have sh := shadeAll_shd (t.fs.take i) s.mem
      obtain ⟨t1, gt1, _, ef⟩ := sh.get gt
      obtain ⟨vs1, e1, hvs1⟩ := R1.fl g t1 gt1
      rw [hv1] at e1
      cases e1
      obtain ⟨x, hx, hxv⟩ := hvs1.get hi
      rw [ef] at hx
      have hl1 : Lay s.size 0 (shadeAll s.mem (t.fs.take i)) := lay_shadeAll _ hl
      refine ⟨_, rfl, f_sw_memory T R1 ⟨_, rfl, F, ρ, _, y, x, rfl, R1, hl1, hxv, fun p hp => ?_, fun H2 kp2 kl R2 => ?_⟩⟩
      · obtain rfl := List.mem_singleton.mp hp
        obtain ⟨u, gu⟩ := hd p (List.mem_of_getElem? hx)
        obtain ⟨u', h, _⟩ := sh.get gu
        exact ⟨u', h⟩
      · refine ⟨_, rfl, kp.trans kp2, kl _ _ hv1, ?_⟩
        rw [List.take_add_one, hx]
        show HallR K F H2 ρ { s with mem := (t.fs.take i ++ [x]).foldl shade s.mem }
        rw [List.foldl_append]
        exact R2
    · rintro σ H1 ⟨v, rfl, kp, hv1, R1⟩
      have e : t.fs.take vs.length = t.fs := List.take_of_length_le (by rw [hvs.1]; exact Nat.le_refl _)
      rw [e] at R1
      obtain ⟨t1, gt1, _, ef⟩ := (shadeAll_shd t.fs s.mem).get gt
      obtain ⟨dx, ht⟩ := R1.th g t1 gt1
      refine ⟨_, rfl, _, cThing K, dx, _, rfl, ht, T.cThing, T.nColour, by show 2 < 1000; decide, ?_⟩
      have R2 := R1.setCol T gt1 .black (dx := dx)
      rw [← thF_put (c := t1.col)] at R2
      refine k _ (kp.trans (Kp.upd (R1.own (.th g) ⟨t1, gt1⟩))) ?_
      unfold markPart
      rw [hg]
      simp only [gt]
      exact R2
end G

namespace G
open L2 PySem PyProof.Rows PySem.Spec
abbrev N_Sweeper_sweep_part : List Str := ["self", "place"]
theorem sc_Sweeper_sweep_part : FnScope N_Sweeper_sweep_part ["self"] (defScope s_Sweeper_sweep_part) := ⟨rfl, rfl, rfl, by decide +kernel, rfl, by decide +kernel, by decide +kernel⟩
set_option maxRecDepth 100000 in
theorem ok_Sweeper_sweep_part {P : Program} {w : World} {K : PySem.W.Frag} {mg : Str → Option Value} {base : Heap} (T : Txt K mg) (D : ∃ fd, FD K "sweep_part" "Sweeper.sweep_part" s_Sweeper_sweep_part (He.fAd K ("Sweeper", some "sweep_part")) fd) (me : Meth K (He.ga K "Sweeper") "sweep_part" (He.ma K (He.ga K "Sweeper") "sweep_part")) (m_Memory_words : MtC P w K mg base CX0 lv_Memory_words "Memory" "words" (sp_Memory_words K)) (m_next_from : FnC P w K mg base CX0 lv_next_from "next_from" (sp_next_from K)) : MtC P w K mg base CX0 lv_Sweeper_sweep_part "Sweeper" "sweep_part" (sp_Sweeper_sweep_part K) := by
  refine mtC_mk D T.cSw me (N := N_Sweeper_sweep_part) sc_Sweeper_sweep_part (fun fd F => FunD.bindsN F fun _ _ _ _ _ _ us hl => match us, hl with | [_], _ => rfl) (fun vs H Q E h => ?_) fun cdv A outer s0 H vs Q E hr h => ?_
  · obtain ⟨F, ρ, s, g, t, rfl, R, hl, hg, gt, k⟩ := h
    rfl
  · have hu := hu_of hr
    refine ⟨_, (PSs.nox (pss_cons (ps_set (i := 1) sc_Sweeper_sweep_part.nd rfl (Or.inl rfl) (pf_call m_next_from hr (by decide) pass0 (pa_cons (pe_fld (pv 0) rfl) (pa_cons (pe_fld (pv 0) rfl) pa_nil)))) (pss_cons (ps_fld (pv 0) (pe_op op_add (pv 1) (pf_meth m_Memory_words hr (by decide) pass0 (pe_fld (pv 0) rfl) (pa_cons (pv 1) pa_nil))) rfl) (pss_one (ps_if (pt_cmpR op_eq (pe_fld (pe_dget hu (pe_fld (pe_fld (pv 0) rfl) rfl) (pv 1) (fun _ _ => rfl)) rfl) pe_str (nomark _)) (pss_one (ps_expr (pe_dpop1 (pe_fld (pe_fld (pv 0) rfl) rfl) (pv 1) ⟨rfl, rfl, rfl, rfl⟩))) (pss_one (ps_fld (pe_dget hu (pe_fld (pe_fld (pv 0) rfl) rfl) (pv 1) (fun _ _ => rfl)) pe_str rfl))))))), ?_⟩
    obtain ⟨F, ρ, s, g, t, rfl, R, hl, hg, gt, k⟩ := h
    refine ⟨_, rfl, f_sw_memory T R ⟨_, rfl, f_sw_at T R ⟨F, ρ, s, _, rfl, R, hl, fun H0 s0' => ?_⟩⟩⟩
    have R0 := R.same s0'
    rw [hg]
    obtain ⟨dx, hs⟩ := R0.sw
    refine ⟨_, rfl, _, rfl, f_sw_memory T R0 (m_mem R0 ⟨_, rfl, F, ρ, s, g, t, rfl, R0, hl, gt, _, _, rfl, rfl, ?_⟩)⟩
    refine ⟨_, rfl, _, cSw K, dx, _, rfl, hs, T.cSw, T.nAtWord, by show 3 < 1000; decide, ?_⟩
    have R1 := R0.setSw T s.ph (g + wd t) (dx := dx)
    rw [← swF_putA (f := s.fin)] at R1
    have kp1 : Kp F H F _ := (Kp.same s0').trans (Kp.upd (o := .ins (cSw K) dx (putF ("at_word" : Str) (V.int (g + wd t)) (swF (ρ .mem) s.ph s.fin))) (R0.own .sw trivial))
    have es : sweepPart s = { s with fin := g + wd t, mem := if t.col = .white then del s.mem g else modT s.mem g (G.setCol .white) } := by
      unfold sweepPart
      rw [hg]
      simp only [gt]
    have gt1 : get ({ s with ph := s.ph, fin := g + wd t } : St).mem g = some t := gt
    refine ⟨_, rfl, f_sw_memory T R1 (f_mem_things T R1 ⟨_, rfl, d_thing R1 hl gt1 (f_th_colour T R1 gt1 ⟨rfl, _, rfl, ?_⟩)⟩)⟩
    refine ite2 (fun c => ?_) (fun c => ?_)
    · have c' : t.col = .white := colS_inj.mp (V.str.inj (of_decide_eq_true c))
      obtain ⟨kvs, hd, hp⟩ := R1.dc
      refine ⟨_, rfl, f_sw_memory T R1 (f_mem_things T R1 ⟨_, rfl, ?_, _, rfl, kvs, Sum.inl g, _, hd, rfl, dict_some hl hp gt1, ?_⟩)⟩
      · exact .inl ⟨_, .inl hd⟩
      · refine k _ (kp1.trans (Kp.upd (R1.own .dc trivial))) ?_
        rw [es, if_pos c']
        exact R1.drop T hp
    · have c' : ¬ t.col = .white := fun z => c (decide_eq_true (by rw [z]; rfl))
      obtain ⟨dxt, ht⟩ := R1.th g t gt1
      refine ⟨_, rfl, f_sw_memory T R1 (f_mem_things T R1 ⟨_, rfl, d_thing R1 hl gt1 ⟨_, cThing K, dxt, _, rfl, ht, T.cThing, T.nColour, by show 2 < 1000; decide, ?_⟩⟩)⟩
      have R2 := R1.setCol T gt1 .white (dx := dxt)
      rw [← thF_put (c := t.col)] at R2
      refine k _ (kp1.trans (Kp.upd (R1.own (.th g) ⟨t, gt1⟩))) ?_
      rw [es, if_neg c']
      exact R2
abbrev N_Sweeper_part : List Str := ["self"]
theorem sc_Sweeper_part : FnScope N_Sweeper_part ["self"] (defScope s_Sweeper_part) := ⟨rfl, rfl, rfl, by decide +kernel, rfl, by decide +kernel, by decide +kernel⟩
set_option maxRecDepth 100000 in
theorem ok_Sweeper_part {P : Program} {w : World} {K : PySem.W.Frag} {mg : Str → Option Value} {base : Heap} (T : Txt K mg) (D : ∃ fd, FD K "part" "Sweeper.part" s_Sweeper_part (He.fAd K ("Sweeper", some "part")) fd) (me : Meth K (He.ga K "Sweeper") "part" (He.ma K (He.ga K "Sweeper") "part")) (m_Sweeper_settle : MtC P w K mg base CX0 lv_Sweeper_settle "Sweeper" "settle" (sp_Sweeper_settle K)) (m_Sweeper_mark_part : MtC P w K mg base CX0 lv_Sweeper_mark_part "Sweeper" "mark_part" (sp_Sweeper_mark_part K)) (m_Sweeper_sweep_part : MtC P w K mg base CX0 lv_Sweeper_sweep_part "Sweeper" "sweep_part" (sp_Sweeper_sweep_part K)) : MtC P w K mg base CX0 lv_Sweeper_part "Sweeper" "part" (sp_Sweeper_part K) := by
  refine mtC_mk D T.cSw me (N := N_Sweeper_part) sc_Sweeper_part (fun fd F => FunD.bindsN F fun _ _ _ _ _ _ us hl => match us, hl with | [_], _ => rfl) (fun vs H Q E h => ?_) fun cdv A outer s0 H vs Q E hr h => ?_
  · obtain ⟨F, ρ, s, L, rfl, R, i, hp, k⟩ := h
    rfl
  · have hu := hu_of hr
    refine ⟨_, (PSs.nox (pss_cons (ps_mid (ps_if (pt_cmpR op_eq (pe_fld (pv 0) rfl) pe_str (nomark _)) (pss_one (ps_expr (pf_meth0 m_Sweeper_mark_part hr (by decide) pass0 (pv 0)))) (pss_one (ps_expr (pf_meth0 m_Sweeper_sweep_part hr (by decide) pass0 (pv 0)))))) (pss_one (ps_expr (pf_meth0 m_Sweeper_settle hr (by decide) pass0 (pv 0)))))), ?_⟩
    obtain ⟨F, ρ, s, L, rfl, R, i, hp, k⟩ := h
    have hl := i.core.lay
    refine ⟨fun σ H1 => σ = [some (.ref (ρ .sw))] ∧ Kp F H F H1 ∧ HallR K F H1 ρ (if s.ph = .mark then markPart s else sweepPart s), ?_, ?_⟩
    · refine ⟨_, rfl, f_sw_standing T R ⟨rfl, _, rfl, ?_⟩⟩
      refine ite2 (fun c => ?_) (fun c => ?_)
      · have c' : s.ph = .mark := phS_inj.mp (V.str.inj (of_decide_eq_true c))
        obtain ⟨h, hgr⟩ := i.mark c'
        cases e : leastGrey s.mem with
        | none => exact absurd e hgr
        | some g =>
          obtain ⟨t, gt, ct⟩ := lg_some hl e
          have hL := h.1 g t gt (by rw [ct]; decide)
          refine ⟨_, rfl, m_sw R ⟨F, ρ, s, g, t, rfl, R, hl, e, gt, fun p hm => i.core.inL p (i.core.fL g p t hL gt hm), fun H1 kp R1 => ?_⟩⟩
          refine ⟨rfl, kp, ?_⟩
          rw [if_pos c']
          exact R1
      · have c' : ¬ s.ph = .mark := fun z => c (decide_eq_true (by rw [z]; rfl))
        have c2 : s.ph = .sweep := by cases e : s.ph <;> simp_all
        obtain ⟨h, hgr⟩ := i.sweep c2
        cases e : nextFrom s.mem s.fin with
        | none => exact absurd e hgr
        | some g =>
          obtain ⟨_, ⟨t, gt⟩, _⟩ := nf_some hl e
          refine ⟨_, rfl, m_sw R ⟨F, ρ, s, g, t, rfl, R, hl, e, gt, fun H1 kp R1 => ?_⟩⟩
          refine ⟨rfl, kp, ?_⟩
          rw [if_neg c']
          exact R1
    · rintro σ H1 ⟨rfl, kp, R1⟩
      have hl1 : Lay (if s.ph = .mark then markPart s else sweepPart s).size 0 (if s.ph = .mark then markPart s else sweepPart s).mem := by
        split
        · exact lay_markPart hl
        · exact lay_sweepPart hl
      refine ⟨_, rfl, m_sw R1 ⟨F, ρ, _, rfl, R1, hl1, fun H2 kp2 R2 => ?_⟩⟩
      exact k H2 (kp.trans kp2) R2
abbrev N_Sweeper_colour_at : List Str := ["self", "place"]
theorem sc_Sweeper_colour_at : FnScope N_Sweeper_colour_at ["self", "place"] (defScope s_Sweeper_colour_at) := ⟨rfl, rfl, rfl, by decide +kernel, rfl, by decide +kernel, by decide +kernel⟩
set_option maxRecDepth 100000 in
theorem ok_Sweeper_colour_at {P : Program} {w : World} {K : PySem.W.Frag} {mg : Str → Option Value} {base : Heap} (T : Txt K mg) (D : ∃ fd, FD K "colour_at" "Sweeper.colour_at" s_Sweeper_colour_at (He.fAd K ("Sweeper", some "colour_at")) fd) (me : Meth K (He.ga K "Sweeper") "colour_at" (He.ma K (He.ga K "Sweeper") "colour_at"))  : MtC P w K mg base CX0 lv_Sweeper_colour_at "Sweeper" "colour_at" (sp_Sweeper_colour_at K) := by
  refine mtC_mk D T.cSw me (N := N_Sweeper_colour_at) sc_Sweeper_colour_at (fun fd F => FunD.bindsN F fun _ _ _ _ _ _ us hl => match us, hl with | [_, _], _ => rfl) (fun vs H Q E h => ?_) fun cdv A outer s0 H vs Q E hr h => ?_
  · obtain ⟨F, ρ, s, p, rfl, R, k⟩ := h
    rfl
  · have hu := hu_of hr
    refine ⟨_, (PSs.nox (pss_cons (ps_if (PW.pt (pw_or (pt_cmpR op_eq (pe_fld (pv 0) rfl) pe_str (nomark _)) (pw_or1 (PW.pt (pw_and (pt_cmpR op_eq (pe_fld (pv 0) rfl) pe_str (nomark _)) (pw_and1 (pt_cmpR op_ge (pv 1) (pe_fld (pv 0) rfl) (nomark _)))))))) (pss_one (ps_ret pe_str)) pss_nil) (pss_one (ps_ret pe_str)))), ?_⟩
    obtain ⟨F, ρ, s, p, rfl, R, k⟩ := h
    unfold colourAt at k
    refine ⟨_, rfl, f_sw_standing T R ⟨rfl, _, rfl, ?_⟩⟩
    refine ite2 (fun c => ?_) (fun c => ?_)
    · have c' : s.ph = .mark := phS_inj.mp (V.str.inj (of_decide_eq_true c))
      rw [if_pos (.inl c')] at k
      exact k
    · have c' : ¬ s.ph = .mark := fun z => c (decide_eq_true (by rw [z]; rfl))
      refine ⟨_, rfl, f_sw_standing T R ⟨rfl, _, rfl, ?_⟩⟩
      refine ite2 (fun d => ?_) (fun d => ?_)
      · have d' : s.ph = .sweep := phS_inj.mp (V.str.inj (of_decide_eq_true d))
        refine ⟨_, rfl, _, rfl, f_sw_at T R ⟨_, _, rfl, rfl, _, rfl, ?_⟩⟩
        refine ite2 (fun e => ?_) (fun e => ?_)
        · rw [if_pos (.inr ⟨d', of_decide_eq_true e⟩)] at k
          exact k
        · rw [if_neg (fun z => by
            rcases z with z | z
            · exact c' z
            · exact e (decide_eq_true z.2))] at k
          exact k
      · have d' : ¬ s.ph = .sweep := fun z => d (decide_eq_true (by rw [z]; rfl))
        rw [if_neg (fun z => by
          rcases z with z | z
          · exact c' z
          · exact d' z.1)] at k
        exact k
end G

namespace G
open L2 PySem PyProof.Rows PySem.Spec
abbrev N_Memory_blocks : List Str := ["self", "found", "at", "place"]
theorem sc_Memory_blocks : FnScope N_Memory_blocks ["self"] (defScope s_Memory_blocks) := ⟨rfl, rfl, rfl, by decide +kernel, rfl, by decide +kernel, by decide +kernel⟩
set_option maxRecDepth 100000 in
theorem ok_Memory_blocks {P : Program} {w : World} {K : PySem.W.Frag} {mg : Str → Option Value} {base : Heap} (T : Txt K mg) (D : ∃ fd, FD K "blocks" "Memory.blocks" s_Memory_blocks (He.fAd K ("Memory", some "blocks")) fd) (me : Meth K (He.ga K "Memory") "blocks" (He.ma K (He.ga K "Memory") "blocks")) (m_Memory_places : MtC P w K mg base CX0 lv_Memory_places "Memory" "places" (sp_Memory_places K)) (m_Memory_words : MtC P w K mg base CX0 lv_Memory_words "Memory" "words" (sp_Memory_words K)) : MtC P w K mg base CX0 lv_Memory_blocks "Memory" "blocks" (sp_Memory_blocks K) := by
  refine mtC_mk D T.cMem me (N := N_Memory_blocks) sc_Memory_blocks (fun fd F => FunD.bindsN F fun _ _ _ _ _ _ us hl => match us, hl with | [_], _ => rfl) (fun vs H Q E h => ?_) fun cdv A outer s0 H vs Q E hr h => ?_
  · obtain ⟨F, ρ, s, rfl, R, hl, hs, k⟩ := h
    rfl
  · have hu := hu_of hr
    refine ⟨_, (PSs.nox (pss_cons (ps_set (i := 1) sc_Memory_blocks.nd rfl (Or.inl rfl) (pe_lst pa_nil)) (pss_cons (ps_set (i := 2) sc_Memory_blocks.nd rfl (Or.inl rfl) pe_int) (pss_cons (ps_for PassesOwn.never rfl (pi_list (pf_meth0 m_Memory_places hr (by decide) pass0 (pv 0))) (pg_name (i := 3) sc_Memory_blocks.nd rfl (Or.inl rfl)) (pss_cons (ps_mid (ps_if (pt_cmpR op_gt (pv 3) (pv 2) (nomark _)) (pss_one (ps_expr (pe_bm PySem.F.plainAttrs_list PySem.F.slot_list_append PySem.F.type_list_append mt_append (pv 1) (pa_cons (pe_tup (pa_cons (pv 2) (pa_cons (pe_op op_sub (pv 3) (pv 2)) (pa_cons pe_int pa_nil)))) pa_nil)))) pss_nil)) (pss_cons (ps_expr (pe_bm PySem.F.plainAttrs_list PySem.F.slot_list_append PySem.F.type_list_append mt_append (pv 1) (pa_cons (pe_tup (pa_cons (pv 3) (pa_cons (pf_meth m_Memory_words hr (by decide) pass0 (pv 0) (pa_cons (pv 3) pa_nil)) (pa_cons pe_int pa_nil)))) pa_nil))) (pss_one (ps_set (i := 2) sc_Memory_blocks.nd rfl (Or.inl rfl) (pe_op op_add (pv 3) (pf_meth m_Memory_words hr (by decide) pass0 (pv 0) (pa_cons (pv 3) pa_nil)))))))) (pss_cons (ps_mid (ps_if (pt_cmpR op_lt (pv 2) (pe_fld (pv 0) rfl) (nomark _)) (pss_one (ps_expr (pe_bm PySem.F.plainAttrs_list PySem.F.slot_list_append PySem.F.type_list_append mt_append (pv 1) (pa_cons (pe_tup (pa_cons (pv 2) (pa_cons (pe_op op_sub (pe_fld (pv 0) rfl) (pv 2)) (pa_cons pe_int pa_nil)))) pa_nil)))) pss_nil)) (pss_one (ps_ret (pe_tupleOf rfl T.b_tuple (pv 1))))))))), ?_⟩
    obtain ⟨F, ρ, s, rfl, R, hl, hs, k⟩ := h
    refine ⟨by show 0 ≤ sizeLine; decide, fun f hf => ?_⟩
    have s1 := same_new (o := .lst []) hf
    have R1 := R.same s1
    refine ⟨_, rfl, m_mem R1 ⟨F, ρ, s, rfl, R1, hl, fun p hn => ?_⟩⟩
    have npf : p ≠ f := by
      intro e
      rw [e, upd_same] at hn
      cases hn
    have hp0 : H p = none := by
      rw [upd_ne npf] at hn
      exact hn
    have nfF : ¬ F f := not_F R.al hf
    have npF : ¬ F p := not_F R.al hp0
    refine ⟨p, rfl, ⟨_, .inl (.inl upd_same)⟩, for_list (K := K) (a := p) (xs := s.mem.map fun x => V.int x.1)
      (fun i σ H1 => ∃ (at' : Int) (v : Option V) (vs : List V) (bs : List (Int × Int × Int)), σ = [some (.ref (ρ .mem)), some (.ref f), some (.int at'), v] ∧ Same H H1 ∧ H1 p = some (.lst (s.mem.map fun x => V.int x.1)) ∧ H1 f = some (.lst vs) ∧
        TpAll (outF F H1) vs (bs.map pdBlock) ∧ bs.length ≤ 2 * i ∧ i ≤ s.mem.length ∧ blocksS s = bs ++ blocksF s.size at' (s.mem.drop i))
      ⟨0, none, [], [], rfl, s1.trans (same_new hn), upd_same, by rw [upd_ne npf.symm, upd_same], .nil, Nat.zero_le _, Nat.zero_le _, rfl⟩ (fun i σ H1 _ ⟨_, _, _, _, _, _, e, _⟩ => .inl (.inl e)) ?_ ?_⟩
    · rintro i y σ H1 hi ⟨at', v, vs, bs, rfl, e1, hp1, hf1, htp, hbl, him, hb⟩
      obtain ⟨x, hx, rfl, hd⟩ := map_get hi
      rw [hd, blocksF_cons] at hb
      have gx := mem_get hl (List.mem_of_getElem? hx)
      have hix : i < s.mem.length := (List.getElem?_eq_some_iff.mp hx).1
      refine ⟨fun σ H2 => σ = [some (.ref (ρ .mem)), some (.ref f), some (.int at'), some (.int x.1)] ∧ ∃ vs bs, Same H H2 ∧ H2 p = some (.lst (s.mem.map fun x => V.int x.1)) ∧ H2 f = some (.lst vs) ∧
        TpAll (outF F H2) vs (bs.map pdBlock) ∧ bs.length ≤ 2 * i + 1 ∧ blocksS s = bs ++ (x.1, wd x.2, 1) :: blocksF s.size (x.1 + wd x.2) (s.mem.drop (i + 1)), ?_, ?_⟩
      · refine ⟨_, rfl, _, rfl, _, _, rfl, rfl, _, rfl, ?_⟩
        refine ite2 (fun c => ?_) (fun c => ?_)
        · have c' := of_decide_eq_true c
          rw [if_pos c'] at hb
          refine ⟨_, rfl, .inl ⟨rfl, _, .inl (.inl hf1)⟩, _, rfl, _, rfl, _, rfl, _, _, rfl, rfl, by show 3 ≤ sizeLine; decide, fun t ht => ?_⟩
          have ntf : f ≠ t := ne_of_none hf1 ht
          have ntp : p ≠ t := ne_of_none hp1 ht
          have ht0 : H t = none := e1.free ht
          have ntF : ¬ F t := not_F R.al ht0
          refine ⟨f, vs, _, rfl, rfl, by rw [upd_ne ntf]; exact hf1, small_lt ?_, ?_⟩
          · rw [htp.len, List.length_map]
            omega
          · refine ⟨rfl, _, bs ++ [(at', x.1 - at', 0)], ?_, ?_, upd_same, ?_, ?_, ?_⟩
            · intro b o hb'
              rw [upd_ne (ne_of_none hb' hf), upd_ne (ne_of_none hb' ht0)]
              exact e1 b o hb'
            · rw [upd_ne npf, upd_ne ntp]
              exact hp1
            · rw [List.map_append]
              have kt : KT (outF F H1) (outF F (upd (upd H1 t (.tup [V.int at', V.int (x.1 - at'), V.int 0])) f (.lst (vs ++ [V.ref t])))) := outF_kt fun b xs hb' => by
                rw [upd_ne (ne_of hb' hf1 (by intro z; cases z)), upd_ne (ne_of_none hb' ht)]
                exact hb'
              refine (htp.kt kt).snoc (.tup (xs := [V.int at', V.int (x.1 - at'), V.int 0]) ?_ (.cons (.int _) (.cons (.int _) (.cons (.int _) .nil))))
              rw [outF_eq ntF, upd_ne ntf.symm, upd_same]
            · rw [List.length_append]
              show bs.length + 1 ≤ _
              omega
            · rw [hb]
              simp
        · have c' : ¬ at' < x.1 := fun z => c (decide_eq_true z)
          rw [if_neg c'] at hb
          exact ⟨rfl, vs, bs, e1, hp1, hf1, htp, by omega, hb⟩
      · rintro σ H2 ⟨rfl, vs, bs, e2, hp2, hf2, htp2, hbl2, hb2⟩
        have R2 := R.same e2
        refine ⟨_, rfl, .inl ⟨rfl, _, .inl (.inl hf2)⟩, _, rfl, _, rfl, m_mem R2 ⟨_, rfl, F, ρ, s, x.1, x.2, rfl, R2, hl, gx, by show 3 ≤ sizeLine; decide, fun t ht => ?_⟩⟩
        have ntf : f ≠ t := ne_of_none hf2 ht
        have ntp : p ≠ t := ne_of_none hp2 ht
        have ht0 : H t = none := e2.free ht
        have ntF : ¬ F t := not_F R.al ht0
        refine ⟨f, vs, _, rfl, rfl, by rw [upd_ne ntf]; exact hf2, small_lt ?_, ?_⟩
        · rw [htp2.len, List.length_map]
          omega
        · have e3 : Same H (upd (upd H2 t (.tup [V.int x.1, V.int (wd x.2), V.int 1])) f (.lst (vs ++ [V.ref t]))) := by
            intro b o hb'
            rw [upd_ne (ne_of_none hb' hf), upd_ne (ne_of_none hb' ht0)]
            exact e2 b o hb'
          have R3 := R.same e3
          refine ⟨_, rfl, _, rfl, m_mem R3 ⟨_, rfl, F, ρ, s, x.1, x.2, rfl, R3, hl, gx, _, _, rfl, rfl, ?_⟩⟩
          refine ⟨_, _, _, bs ++ [(x.1, wd x.2, 1)], rfl, e3, ?_, upd_same, ?_, ?_, by omega, ?_⟩
          · rw [upd_ne npf, upd_ne ntp]
            exact hp2
          · rw [List.map_append]
            have kt : KT (outF F H2) (outF F (upd (upd H2 t (.tup [V.int x.1, V.int (wd x.2), V.int 1])) f (.lst (vs ++ [V.ref t])))) := outF_kt fun b xs hb' => by
              rw [upd_ne (ne_of hb' hf2 (by intro z; cases z)), upd_ne (ne_of_none hb' ht)]
              exact hb'
            refine (htp2.kt kt).snoc (.tup (xs := [V.int x.1, V.int (wd x.2), V.int 1]) ?_ (.cons (.int _) (.cons (.int _) (.cons (.int _) .nil))))
            rw [outF_eq ntF, upd_ne ntf.symm, upd_same]
          · rw [List.length_append]
            show bs.length + 1 ≤ _
            omega
          · rw [hb2]
            simp
    · rintro σ H1 ⟨at', v, vs, bs, rfl, e1, hp1, hf1, htp, hbl, him, hb⟩
      rw [drop_all, blocksF_nil] at hb
      rw [List.length_map] at hbl
      have R1' := R.same e1
      refine ⟨fun σ H2 => σ = [some (.ref (ρ .mem)), some (.ref f), some (.int at'), v] ∧ ∃ vs, Same H H2 ∧ H2 f = some (.lst vs) ∧ TpAll (outF F H2) vs ((blocksS s).map pdBlock), ?_, ?_⟩
      · refine ⟨_, rfl, _, rfl, f_mem_size T R1' ⟨_, _, rfl, rfl, _, rfl, ?_⟩⟩
        refine ite2 (fun c => ?_) (fun c => ?_)
        · have c' := of_decide_eq_true c
          rw [if_pos c'] at hb
          refine ⟨_, rfl, .inl ⟨rfl, _, .inl (.inl hf1)⟩, _, rfl, _, rfl, f_mem_size T R1' ⟨_, rfl, _, _, rfl, rfl, by show 3 ≤ sizeLine; decide, fun t ht => ?_⟩⟩
          have ntf : f ≠ t := ne_of_none hf1 ht
          have ht0 : H t = none := e1.free ht
          have ntF : ¬ F t := not_F R.al ht0
          refine ⟨f, vs, _, rfl, rfl, by rw [upd_ne ntf]; exact hf1, small_lt ?_, ?_⟩
          · rw [htp.len, List.length_map]
            omega
          · refine ⟨rfl, _, ?_, upd_same, ?_⟩
            · intro b o hb'
              rw [upd_ne (ne_of_none hb' hf), upd_ne (ne_of_none hb' ht0)]
              exact e1 b o hb'
            · rw [hb, List.map_append]
              have kt : KT (outF F H1) (outF F (upd (upd H1 t (.tup [V.int at', V.int (s.size - at'), V.int 0])) f (.lst (vs ++ [V.ref t])))) := outF_kt fun b xs hb' => by
                rw [upd_ne (ne_of hb' hf1 (by intro z; cases z)), upd_ne (ne_of_none hb' ht)]
                exact hb'
              refine (htp.kt kt).snoc (.tup (xs := [V.int at', V.int (s.size - at'), V.int 0]) ?_ (.cons (.int _) (.cons (.int _) (.cons (.int _) .nil))))
              rw [outF_eq ntF, upd_ne ntf.symm, upd_same]
        · have c' : ¬ at' < s.size := fun z => c (decide_eq_true z)
          rw [if_neg c', List.append_nil] at hb
          refine ⟨rfl, vs, e1, hf1, ?_⟩
          rw [hb]
          exact htp
      · rintro σ H2 ⟨rfl, vs, e2, hf2, htp2⟩
        refine ⟨_, rfl, .inl ⟨f, vs, rfl, .inl (.inl hf2), fun q hq => ?_⟩⟩
        have nqF : ¬ F q := not_F R.al (e2.free hq)
        refine k _ _ (e2.trans (same_new hq)) (.tup (xs := vs) ?_ (htp2.kt (outF_kt (KT.of_same (same_new hq)))))
        rw [outF_eq nqF, upd_same]
end G

namespace G
open L2 PySem PyProof.Rows PySem.Spec
abbrev N_Hall_number : List Str := ["self", "hand", "n"]
theorem sc_Hall_number : FnScope N_Hall_number ["self", "hand", "n"] (defScope s_Hall_number) := ⟨rfl, rfl, rfl, by decide +kernel, rfl, by decide +kernel, by decide +kernel⟩
set_option maxRecDepth 100000 in
theorem ok_Hall_number {P : Program} {w : World} {K : PySem.W.Frag} {mg : Str → Option Value} {base : Heap} (T : Txt K mg) (D : ∃ fd, FD K "number" "Hall.number" s_Hall_number (He.fAd K ("Hall", some "number")) fd) (me : Meth K (He.ga K "Hall") "number" (He.ma K (He.ga K "Hall") "number"))  : MtC P w K mg base CX0 lv_Hall_number "Hall" "number" (sp_Hall_number K) := by
  refine mtC_mk D T.cHall me (N := N_Hall_number) sc_Hall_number (fun fd F => FunD.bindsN F fun _ _ _ _ _ _ us hl => match us, hl with | [_, _, _], _ => rfl) (fun vs H Q E h => ?_) fun cdv A outer s0 H vs Q E hr h => ?_
  · obtain ⟨F, h, s, i, n, rfl, ⟨ρ, rfl, R⟩, hi, k⟩ := h
    rfl
  · have hu := hu_of hr
    refine ⟨_, (PSs.nox (pss_one (ps_asg (pv 2) (pg_sub (pe_fld (pv 0) rfl) (pv 1) set_list)))), ?_⟩
    obtain ⟨F, h, s, i, n, rfl, ⟨ρ, rfl, R⟩, hi, k⟩ := h
    obtain ⟨vs, hv, hvs⟩ := R.hl
    refine ⟨_, rfl, _, rfl, f_hall_hands T R ⟨_, rfl, _, vs, _, i, rfl, rfl, hv, ix_nat (by rw [hvs.1]; exact hi), ?_⟩⟩
    exact k _ (Kp.upd (R.own .hl trivial)) ⟨ρ, rfl, R.setHand T hvs (x := .num n) rfl⟩
abbrev N_Hall_copy : List Str := ["self", "hand", "other"]
theorem sc_Hall_copy : FnScope N_Hall_copy ["self", "hand", "other"] (defScope s_Hall_copy) := ⟨rfl, rfl, rfl, by decide +kernel, rfl, by decide +kernel, by decide +kernel⟩
set_option maxRecDepth 100000 in
theorem ok_Hall_copy {P : Program} {w : World} {K : PySem.W.Frag} {mg : Str → Option Value} {base : Heap} (T : Txt K mg) (D : ∃ fd, FD K "copy" "Hall.copy" s_Hall_copy (He.fAd K ("Hall", some "copy")) fd) (me : Meth K (He.ga K "Hall") "copy" (He.ma K (He.ga K "Hall") "copy"))  : MtC P w K mg base CX0 lv_Hall_copy "Hall" "copy" (sp_Hall_copy K) := by
  refine mtC_mk D T.cHall me (N := N_Hall_copy) sc_Hall_copy (fun fd F => FunD.bindsN F fun _ _ _ _ _ _ us hl => match us, hl with | [_, _, _], _ => rfl) (fun vs H Q E h => ?_) fun cdv A outer s0 H vs Q E hr h => ?_
  · obtain ⟨F, h, s, i, j, rfl, ⟨ρ, rfl, R⟩, hi, hj, k⟩ := h
    rfl
  · have hu := hu_of hr
    refine ⟨_, (PSs.nox (pss_one (ps_asg (pe_ix ix_list (pe_fld (pv 0) rfl) (pv 2) (fun _ _ => rfl)) (pg_sub (pe_fld (pv 0) rfl) (pv 1) set_list)))), ?_⟩
    obtain ⟨F, h, s, i, j, rfl, ⟨ρ, rfl, R⟩, hi, hj, k⟩ := h
    obtain ⟨vs, hv, hvs⟩ := R.hl
    refine ⟨_, rfl, f_hall_hands T R ⟨_, rfl, d_hand R hj fun v hvv => ?_⟩⟩
    refine ⟨_, rfl, f_hall_hands T R ⟨_, rfl, _, vs, _, i, rfl, rfl, hv, ix_nat (by rw [hvs.1]; exact hi), ?_⟩⟩
    exact k _ (Kp.upd (R.own .hl trivial)) ⟨ρ, rfl, R.setHand T hvs hvv⟩
abbrev N_Hall_held_by : List Str := ["self", "hand"]
theorem sc_Hall_held_by : FnScope N_Hall_held_by ["self", "hand"] (defScope s_Hall_held_by) := ⟨rfl, rfl, rfl, by decide +kernel, rfl, by decide +kernel, by decide +kernel⟩
set_option maxRecDepth 100000 in
theorem ok_Hall_held_by {P : Program} {w : World} {K : PySem.W.Frag} {mg : Str → Option Value} {base : Heap} (T : Txt K mg) (D : ∃ fd, FD K "held_by" "Hall.held_by" s_Hall_held_by (He.fAd K ("Hall", some "held_by")) fd) (me : Meth K (He.ga K "Hall") "held_by" (He.ma K (He.ga K "Hall") "held_by")) (m_is_held : FnC P w K mg base CX0 lv_is_held "is_held" (sp_is_held K)) : MtC P w K mg base (L2.CX P w) lv_Hall_held_by "Hall" "held_by" (sp_Hall_held_by K) := by
  refine mtC_mk D T.cHall me (N := N_Hall_held_by) sc_Hall_held_by (fun fd F => FunD.bindsN F fun _ _ _ _ _ _ us hl => match us, hl with | [_, _], _ => rfl) (fun vs H Q E h => ?_) fun cdv A outer s0 H vs Q E hr h => ?_
  · obtain ⟨F, ρ, s, i, rfl, R, hl, hi, hd, kE, k⟩ := h
    rfl
  · have hu := hu_of hr
    refine ⟨_, (pss_cons (ps_if (pt_not (pt_val (pf_call m_is_held hr (by decide) pass0 (pa_cons (pe_ix ix_list (pe_fld (pv 0) rfl) (pv 1) (fun _ _ => rfl)) pa_nil)))) (pss_one (ps_raise rfl (takes_of rfl rfl rfl rfl) (pmk_own PySem.F.excBase_ValueError T.xThing.e T.xThing.g T.xThing.k (raises_own T.xThing.b T.xThing.t) rfl))) pss_nil) (pss_one (ps_ret (pe_dget hu (pe_fld (pe_fld (pv 0) rfl) rfl) (pe_fld (pe_ix ix_list (pe_fld (pv 0) rfl) (pv 1) (fun _ _ => rfl)) rfl) (fun _ _ => rfl))))), ?_⟩
    obtain ⟨F, ρ, s, i, rfl, R, hl, hi, hd, kE, k⟩ := h
    refine ⟨_, rfl, f_hall_hands T R ⟨_, rfl, d_hand R hi fun v hv => ⟨F, v, hand s i, rfl, hv, _, rfl, ?_⟩⟩⟩
    cases e : hand s i with
    | num n => exact kE n e
    | held p =>
      obtain ⟨t, g⟩ := hd p (by rw [e]; exact List.mem_singleton.mpr rfl)
      refine ⟨_, rfl, f_hall_memory T R (f_mem_things T R ⟨_, rfl, f_hall_hands T R ⟨_, rfl, d_hand R hi fun v' hv' => ?_⟩⟩)⟩
      rw [e] at hv'
      obtain ⟨a, dx, rfl, hF, ha⟩ := hv'
      exact f_held T ha (d_thing R hl g (k p t e g))
abbrev N_Hall_fields_of : List Str := ["self", "hand", "field", "fields"]
theorem sc_Hall_fields_of : FnScope N_Hall_fields_of ["self", "hand", "field"] (defScope s_Hall_fields_of) := ⟨rfl, rfl, rfl, by decide +kernel, rfl, by decide +kernel, by decide +kernel⟩
set_option maxRecDepth 100000 in
theorem ok_Hall_fields_of {P : Program} {w : World} {K : PySem.W.Frag} {mg : Str → Option Value} {base : Heap} (T : Txt K mg) (D : ∃ fd, FD K "fields_of" "Hall.fields_of" s_Hall_fields_of (He.fAd K ("Hall", some "fields_of")) fd) (me : Meth K (He.ga K "Hall") "fields_of" (He.ma K (He.ga K "Hall") "fields_of")) (m_Hall_held_by : MtC P w K mg base (L2.CX P w) lv_Hall_held_by "Hall" "held_by" (sp_Hall_held_by K)) : MtC P w K mg base (L2.CX P w) lv_Hall_fields_of "Hall" "fields_of" (sp_Hall_fields_of K) := by
  refine mtC_mk D T.cHall me (N := N_Hall_fields_of) sc_Hall_fields_of (fun fd F => FunD.bindsN F fun _ _ _ _ _ _ us hl => match us, hl with | [_, _, _], _ => rfl) (fun vs H Q E h => ?_) fun cdv A outer s0 H vs Q E hr h => ?_
  · obtain ⟨F, ρ, s, i, f, rfl, R, hl, hi, hd, kT, kF, k⟩ := h
    rfl
  · have hu := hu_of hr
    refine ⟨_, (pss_cons (ps_set (i := 3) sc_Hall_fields_of.nd rfl (Or.inl rfl) (pe_fld (pf_meth m_Hall_held_by hr (by decide) (passes_call (takes_of rfl rfl rfl rfl) (fun _ _ _ _ h => h)) (pv 0) (pa_cons (pv 1) pa_nil)) rfl)) (pss_cons (ps_if (pt_not (pt_chain op_le op_lt pe_int (pv 2) (pe_callB call_len_seq (by rfl) T.b_len (by decide +kernel) (pa_cons (pv 3) pa_nil)))) (pss_one (ps_raise rfl (takes_of rfl rfl rfl rfl) (pmk_own PySem.F.excBase_ValueError T.xField.e T.xField.g T.xField.k (raises_own T.xField.b T.xField.t) rfl))) pss_nil) (pss_one (ps_ret (pv 3))))), ?_⟩
    obtain ⟨F, ρ, s, i, f, rfl, R, hl, hi, hd, kT, kF, k⟩ := h
    refine ⟨_, rfl, m_hall R ⟨_, rfl, F, ρ, s, i, rfl, R, hl, hi, hd, fun n e => kT ?_, fun p t e g => f_th_fields T R g ?_⟩⟩
    · unfold fres
      rw [e]
    · obtain ⟨vs, hv, hvs⟩ := R.fl p t g
      refine ⟨_, rfl, _, _, rfl, rfl, _, rfl, ?_⟩
      have len : ∀ {Q : V → Prop}, Q (.int (t.fs.length : Int)) → Q (.int (vs.length : Int)) := fun {Q} q => by rw [hvs.1]; exact q
      refine ite2 (fun c => ?_) (fun c => ?_)
      · refine ⟨_, rfl, _, vs, rfl, .inl (.inl (.inl hv)), _, _, rfl, rfl, _, rfl, ?_⟩
        have c' := of_decide_eq_true c
        by_cases d : f < (t.fs.length : Int)
        · have e2 : decide (f < (vs.length : Int)) = true := by rw [hvs.1]; exact decide_eq_true d
          rw [e2]
          have hlt : f.toNat < t.fs.length := by omega
          refine ⟨_, rfl, k p t t.fs[f.toNat] ?_⟩
          unfold fres
          rw [e]
          simp only [g]
          rw [if_pos ⟨c', d⟩, List.getElem?_eq_getElem hlt]
        · have e2 : decide (f < (vs.length : Int)) = false := by rw [hvs.1]; exact decide_eq_false d
          rw [e2]
          refine kF ?_
          unfold fres
          rw [e]
          simp only [g]
          rw [if_neg (fun z => d z.2)]
      · have c' : ¬ 0 ≤ f := fun z => c (decide_eq_true z)
        refine ⟨_, rfl, kF ?_⟩
        unfold fres
        rw [e]
        simp only [g]
        rw [if_neg (fun z => c' z.1)]
end G

namespace G
open L2 PySem PyProof.Rows PySem.Spec
abbrev N_Hall_init : List Str := ["self", "size", "k"]
theorem sc_Hall_init : FnScope N_Hall_init ["self", "size"] (defScope s_Hall_init) := ⟨rfl, rfl, rfl, by decide +kernel, rfl, by decide +kernel, by decide +kernel⟩
set_option maxRecDepth 100000 in
theorem ok_Hall_init {P : Program} {w : World} {K : PySem.W.Frag} {mg : Str → Option Value} {base : Heap} (T : Txt K mg) (D : ∃ fd, FD K "__init__" "Hall.__init__" s_Hall_init (He.fAd K ("Hall", some "__init__")) fd) (hk : Mk K (He.ga K "Hall") (He.ma K (He.ga K "Hall") "__init__")) (hg : mg "Hall" = some (.ref (He.ga K "Hall"))) (m_Sweeper_init : MkC P w K mg base CX0 lv_Sweeper_init "Sweeper" (sp_Sweeper_init K)) (m_Memory_init : MkC P w K mg base CX0 lv_Memory_init "Memory" (sp_Memory_init K)) : MkC P w K mg base CX0 lv_Hall_init "Hall" (sp_Hall_init K) := by
  refine mkC_mk D hk hg (N := N_Hall_init) sc_Hall_init (fun fd F => FunD.bindsN F fun _ _ _ _ _ _ us hl => match us, hl with | [_, _], _ => rfl) (fun vs H Q E h => ?_) fun cdv A outer s0 H vs Q E hr h => ?_
  · obtain ⟨p, dx, n, rfl, hp, k⟩ := h
    rfl
  · have hu := hu_of hr
    refine ⟨_, (PSs.nox (pss_cons (ps_fld (pv 0) (pf_make m_Memory_init hr (by decide) pass0 (pa_cons (pv 1) pa_nil)) rfl) (pss_cons (ps_fld (pv 0) (pe_lc (own := [("k", 2)]) (g := gName 2) (tt := tYes) rfl sc_Hall_init.nd (pi_range1 rfl T.b_range (pa_cons pe_int pa_nil)) (blkOk_by (N := N_Hall_init) (sc := defScope s_Hall_init) (by decide +kernel)) (fun _ _ _ _ _ => pg_name (i := 2) sc_Hall_init.nd rfl (Or.inl rfl)) (fun _ _ _ _ _ => by exact pts_nil) (fun _ _ _ _ _ => by exact pe_int)) rfl) (pss_one (ps_fld (pv 0) (pf_make m_Sweeper_init hr (by decide) pass0 (pa_cons (pe_fld (pv 0) rfl) pa_nil)) rfl))))), ?_⟩
    obtain ⟨p, dx, n, rfl, hp, k⟩ := h
    refine ⟨_, rfl, fun m dm nm ndm nem => ?_⟩
    have npm : p ≠ m := ne_of_none hp nm
    have npdm : p ≠ dm := ne_of_none hp ndm
    refine ⟨m, dm, n, rfl, upd_same, fun d H1 hd hd1 hm1 but1 => ⟨rfl, ?_⟩⟩
    have ndm' : d ≠ m := by
      intro e
      rw [e, upd_same] at hd
      cases hd
    have nddm : d ≠ dm := by
      intro e
      rw [e, upd_ne nem, upd_same] at hd
      cases hd
    have hd0 : H d = none := by
      rw [upd_ne ndm', upd_ne nddm] at hd
      exact hd
    have old1 : ∀ b o, H b = some o → H1 b = some o := fun b o h => but1 b o (by rw [upd_ne (ne_of_none h nm), upd_ne (ne_of_none h ndm)]; exact h) (ne_of_none h nm)
    have npd : p ≠ d := ne_of_none hp hd0
    refine ⟨_, rfl, p, cHall K, dx, [], rfl, old1 _ _ hp, T.cHall, T.nMemH, by show 0 < 1000; decide, ?_⟩
    refine ⟨8, rfl, by decide, by decide, fun D hD => ?_⟩
    have nDp : D ≠ p := by
      intro e
      rw [e, upd_same] at hD
      cases hD
    have hD1 : H1 D = none := by
      rw [upd_ne nDp] at hD
      exact hD
    have hD0 : H D = none := by
      cases e : H D with
      | none => rfl
      | some o => rw [old1 _ _ e] at hD1; cases hD1
    have nDm : D ≠ m := (ne_of_none hm1 hD1).symm
    have nDd : D ≠ d := (ne_of_none hd1 hD1).symm
    refine lc_range (lo := 0) (n := (8 : Int).toNat) (fun i H2 => H2 = upd (upd H1 p (.ins (cHall K) dx (putF ("memory" : Str) (V.ref m) []))) D (.lst (List.replicate i (.int 0)))) rfl (fun i H2 hi e => ?_) (fun H2 e => ?_)
    · subst e
      have hi8 : i < 8 := hi
      refine ⟨rfl, _, upd_same, by rw [List.length_replicate]; exact lt1000 (by omega), ?_⟩
      rw [upd_upd, List.replicate_succ']
    · subst e
      refine ⟨_, rfl, p, cHall K, dx, _, rfl, (by rw [upd_ne nDp.symm]; exact upd_same), T.cHall, T.nHands, by show 1 < 1000; decide, ?_⟩
      have e2 : (putF ("hands" : Str) (V.ref D) (putF ("memory" : Str) (V.ref m) [])) = hallF0 m D := by
        rw [pfN, pf1 (by decide +kernel), pfN]
        rfl
      rw [e2]
      refine ⟨_, rfl, ⟨p, cHall K, dx, _, _, rfl, upd_same, T.cHall, T.nMemH, lk0, fun w dw nw ndw new => ?_⟩⟩
      refine ⟨w, dw, m, rfl, upd_same, ⟨rfl, ?_⟩⟩
      have nwp : w ≠ p := by
        intro e
        rw [e, upd_same] at nw
        cases nw
      have nwD : w ≠ D := by
        intro e
        rw [e, upd_ne nDp, upd_same] at nw
        cases nw
      have ndwp : dw ≠ p := by
        intro e
        rw [e, upd_same] at ndw
        cases ndw
      have ndwD : dw ≠ D := by
        intro e
        rw [e, upd_ne nDp, upd_same] at ndw
        cases ndw
      have nw1 : H1 w = none := by
        rw [upd_ne nwp, upd_ne nwD, upd_ne nwp] at nw
        exact nw
      have ndw1 : H1 dw = none := by
        rw [upd_ne ndwp, upd_ne ndwD, upd_ne ndwp] at ndw
        exact ndw
      have nwm : w ≠ m := (ne_of_none hm1 nw1).symm
      have nwd : w ≠ d := (ne_of_none hd1 nw1).symm
      have ndwm : dw ≠ m := (ne_of_none hm1 ndw1).symm
      have ndwd : dw ≠ d := (ne_of_none hd1 ndw1).symm
      have nw0 : H w = none := by
        cases e : H w with
        | none => rfl
        | some o => rw [old1 _ _ e] at nw1; cases nw1
      have ndw0 : H dw = none := by
        cases e : H dw with
        | none => rfl
        | some o => rw [old1 _ _ e] at ndw1; cases ndw1
      refine ⟨_, rfl, p, cHall K, dx, _, rfl, (by rw [upd_ne nwp.symm, upd_ne nwp.symm, upd_ne ndwp.symm]; exact upd_same), T.cHall, T.nSweeper, by show 2 < 1000; decide, ?_⟩
      have e3 : (putF ("sweeper" : Str) (V.ref w) (hallF0 m D)) = hallF m D w := by
        unfold hallF0
        rw [pf1 (by decide +kernel), pf1 (by decide +kernel), pfN]
        rfl
      rw [e3, upd_upd]
      refine k (fun a => a = p ∨ a = m ∨ a = w ∨ a = D ∨ a = d) _ (fun b o hb ne => ?_) (fun a ha => ?_) ?_
      · rw [upd_ne ne, upd_ne (ne_of_none hb nw0), upd_ne (ne_of_none hb ndw0), upd_ne ne, upd_ne (ne_of_none hb hD0), upd_ne ne]
        exact old1 b o hb
      · rcases ha with rfl | rfl | rfl | rfl | rfl
        · exact .inl rfl
        · exact .inr nm
        · exact .inr nw0
        · exact .inr hD0
        · exact .inr hd0
      · have hh : ∀ a, a ≠ p → a ≠ w → a ≠ dw → a ≠ D → (upd (upd (upd (upd (upd (upd H1 p (.ins (cHall K) dx (putF ("memory" : Str) (V.ref m) []))) D (.lst (List.replicate (8 : Int).toNat (.int 0)))) p (.ins (cHall K) dx (hallF0 m D))) dw (.own w)) w (.ins (cSw K) dw (swF m .idle 0))) p (.ins (cHall K) dx (hallF m D w))) a = H1 a := fun a h1 h2 h3 h4 => by
          rw [upd_ne h1, upd_ne h2, upd_ne h3, upd_ne h1, upd_ne h4, upd_ne h1]
        have hw : (upd (upd (upd (upd (upd (upd H1 p (.ins (cHall K) dx (putF ("memory" : Str) (V.ref m) []))) D (.lst (List.replicate (8 : Int).toNat (.int 0)))) p (.ins (cHall K) dx (hallF0 m D))) dw (.own w)) w (.ins (cSw K) dw (swF m .idle 0))) p (.ins (cHall K) dx (hallF m D w))) w = some (.ins (cSw K) dw (swF m .idle 0)) := by
          rw [upd_ne nwp, upd_same]
        have hDD : (upd (upd (upd (upd (upd (upd H1 p (.ins (cHall K) dx (putF ("memory" : Str) (V.ref m) []))) D (.lst (List.replicate (8 : Int).toNat (.int 0)))) p (.ins (cHall K) dx (hallF0 m D))) dw (.own w)) w (.ins (cSw K) dw (swF m .idle 0))) p (.ins (cHall K) dx (hallF m D w))) D = some (.lst (List.replicate 8 (.int 0))) := by
          rw [upd_ne nDp, upd_ne nwD.symm, upd_ne ndwD.symm, upd_ne nDp, upd_same]
          rfl
        refine ⟨fun g => match g with
          | .hall => p
          | .mem => m
          | .sw => w
          | .hl => D
          | .dc => d
          | _ => p, rfl, ⟨?_, ?_, ?_, ⟨dx, upd_same⟩, ⟨dm, ?_⟩, ⟨dw, hw⟩, ⟨_, hDD, ?_⟩, ⟨[], ?_, List.Perm.refl _⟩, fun q t g => (by cases g), fun q t g => (by cases g)⟩⟩
        · intro g g' v v' e
          have no : ∀ q, ¬ ∃ t, get (newS n).mem q = some t := fun q ⟨t, h⟩ => by cases h
          cases g <;> cases g' <;> first
            | rfl
            | exact absurd v (no _)
            | exact absurd v' (no _)
            | exact absurd e npm
            | exact absurd e npm.symm
            | exact absurd e nwp
            | exact absurd e nwp.symm
            | exact absurd e nDp
            | exact absurd e nDp.symm
            | exact absurd e npd
            | exact absurd e npd.symm
            | exact absurd e nwm
            | exact absurd e nwm.symm
            | exact absurd e nDm
            | exact absurd e nDm.symm
            | exact absurd e ndm'
            | exact absurd e ndm'.symm
            | exact absurd e nwD
            | exact absurd e nwD.symm
            | exact absurd e nwd
            | exact absurd e nwd.symm
            | exact absurd e nDd
            | exact absurd e nDd.symm
        · intro g v
          have no : ∀ q, ¬ ∃ t, get (newS n).mem q = some t := fun q ⟨t, h⟩ => by cases h
          cases g with
          | hall => exact .inl rfl
          | mem => exact .inr (.inl rfl)
          | sw => exact .inr (.inr (.inl rfl))
          | hl => exact .inr (.inr (.inr (.inl rfl)))
          | dc => exact .inr (.inr (.inr (.inr rfl)))
          | th q => exact absurd v (no q)
          | fl q => exact absurd v (no q)
        · intro a ha
          rcases ha with rfl | rfl | rfl | rfl | rfl
          · exact ⟨_, upd_same⟩
          · exact ⟨_, (hh _ npm.symm nwm.symm ndwm.symm nDm.symm).trans hm1⟩
          · exact ⟨_, hw⟩
          · exact ⟨_, hDD⟩
          · exact ⟨_, (hh _ npd.symm nwd.symm ndwd.symm nDd.symm).trans hd1⟩
        · exact (hh _ npm.symm nwm.symm ndwm.symm nDm.symm).trans hm1
        · refine ⟨rfl, fun i x hx => ?_⟩
          have hx2 : x = .num 0 := List.eq_of_mem_replicate (List.mem_of_getElem? (show (List.replicate 8 (Vl.num 0))[i]? = some x from hx))
          have hi : i < 8 := by
            have := (List.getElem?_eq_some_iff.mp (show (List.replicate 8 (Vl.num 0))[i]? = some x from hx)).1
            simpa using this
          refine ⟨.int 0, ?_, by rw [hx2]; rfl⟩
          rw [List.getElem?_replicate, if_pos hi]
        · exact (hh _ npd.symm nwd.symm ndwd.symm nDd.symm).trans hd1
end G

namespace G
open L2 PySem PyProof.Rows PySem.Spec
abbrev N_Hall_load : List Str := ["self", "hand", "other", "field"]
theorem sc_Hall_load : FnScope N_Hall_load ["self", "hand", "other", "field"] (defScope s_Hall_load) := ⟨rfl, rfl, rfl, by decide +kernel, rfl, by decide +kernel, by decide +kernel⟩
set_option maxRecDepth 100000 in
theorem ok_Hall_load {P : Program} {w : World} {K : PySem.W.Frag} {mg : Str → Option Value} {base : Heap} (T : Txt K mg) (D : ∃ fd, FD K "load" "Hall.load" s_Hall_load (He.fAd K ("Hall", some "load")) fd) (me : Meth K (He.ga K "Hall") "load" (He.ma K (He.ga K "Hall") "load")) (m_Hall_fields_of : MtC P w K mg base (L2.CX P w) lv_Hall_fields_of "Hall" "fields_of" (sp_Hall_fields_of K)) : MtC P w K mg base (L2.CX P w) lv_Hall_load "Hall" "load" (sp_Hall_load K) := by
  refine mtC_mk D T.cHall me (N := N_Hall_load) sc_Hall_load (fun fd F => FunD.bindsN F fun _ _ _ _ _ _ us hl => match us, hl with | [_, _, _, _], _ => rfl) (fun vs H Q E h => ?_) fun cdv A outer s0 H vs Q E hr h => ?_
  · obtain ⟨F, h, s, i, j, f, rfl, ⟨ρ, rfl, R⟩, hl, hi, hj, hd, kT, kF, k⟩ := h
    rfl
  · have hu := hu_of hr
    refine ⟨_, (pss_one (ps_asg (pe_ix ix_list (pf_meth m_Hall_fields_of hr (by decide) (passes_call (takes_of rfl rfl rfl rfl) (fun _ _ _ _ h => h)) (pv 0) (pa_cons (pv 2) (pa_cons (pv 3) pa_nil))) (pv 3) (fun _ _ => rfl)) (pg_sub (pe_fld (pv 0) rfl) (pv 1) set_list))), ?_⟩
    obtain ⟨F, h, s, i, j, f, rfl, ⟨ρ, rfl, R⟩, hl, hi, hj, hd, kT, kF, k⟩ := h
    refine ⟨_, rfl, m_hall R ⟨_, rfl, _, rfl, F, ρ, s, j, f, rfl, R, hl, hj, hd, kT, kF, fun p t v e => ?_⟩⟩
    obtain ⟨e1, g, h0, h1, hv0⟩ := fres_ok e
    obtain ⟨ws, hw, hws⟩ := R.fl p t g
    obtain ⟨u, hu1, hu2⟩ := hws.2 f.toNat v hv0
    obtain ⟨vs, hv, hvs⟩ := R.hl
    have ef : f = ((f.toNat : Nat) : Int) := by omega
    refine ⟨_, rfl, _, ws, f, u, rfl, rfl, .inl (.inl hw), (by rw [ef]; exact atI_nat hu1), ?_⟩
    refine ⟨_, rfl, f_hall_hands T R ⟨_, rfl, _, vs, _, i, rfl, rfl, hv, ix_nat (by rw [hvs.1]; exact hi), ?_⟩⟩
    exact k p t v e _ (Kp.upd (R.own .hl trivial)) ⟨ρ, rfl, R.setHand T hvs hu2⟩
abbrev N_Hall_store : List Str := ["self", "hand", "field", "other", "fields"]
theorem sc_Hall_store : FnScope N_Hall_store ["self", "hand", "field", "other"] (defScope s_Hall_store) := ⟨rfl, rfl, rfl, by decide +kernel, rfl, by decide +kernel, by decide +kernel⟩
set_option maxRecDepth 100000 in
theorem ok_Hall_store {P : Program} {w : World} {K : PySem.W.Frag} {mg : Str → Option Value} {base : Heap} (T : Txt K mg) (D : ∃ fd, FD K "store" "Hall.store" s_Hall_store (He.fAd K ("Hall", some "store")) fd) (me : Meth K (He.ga K "Hall") "store" (He.ma K (He.ga K "Hall") "store")) (m_shade : FnC P w K mg base CX0 lv_shade "shade" (sp_shade K)) (m_Hall_fields_of : MtC P w K mg base (L2.CX P w) lv_Hall_fields_of "Hall" "fields_of" (sp_Hall_fields_of K)) : MtC P w K mg base (L2.CX P w) lv_Hall_store "Hall" "store" (sp_Hall_store K) := by
  refine mtC_mk D T.cHall me (N := N_Hall_store) sc_Hall_store (fun fd F => FunD.bindsN F fun _ _ _ _ _ _ us hl => match us, hl with | [_, _, _, _], _ => rfl) (fun vs H Q E h => ?_) fun cdv A outer s0 H vs Q E hr h => ?_
  · obtain ⟨F, h, s, L, i, j, f, rfl, ⟨ρ, rfl, R⟩, iv, hi, hj, kT, kF, k⟩ := h
    rfl
  · have hu := hu_of hr
    refine ⟨_, (pss_cons (ps_set (i := 4) sc_Hall_store.nd rfl (Or.inl rfl) (pf_meth m_Hall_fields_of hr (by decide) (passes_call (takes_of rfl rfl rfl rfl) (fun _ _ _ _ h => h)) (pv 0) (pa_cons (pv 1) (pa_cons (pv 2) pa_nil)))) (pss_cons (ps_mid (ps_if (pt_cmpR op_eq (pe_fld (pe_fld (pv 0) rfl) rfl) pe_str (nomark _)) (pss_one (ps_expr (pf_call m_shade hr (by decide) pass0 (pa_cons (pe_fld (pv 0) rfl) (pa_cons (pe_ix ix_list (pv 4) (pv 2) (fun _ _ => rfl)) pa_nil))))) pss_nil)) (pss_one (ps_asg (pe_ix ix_list (pe_fld (pv 0) rfl) (pv 3) (fun _ _ => rfl)) (pg_sub (pv 4) (pv 2) set_list))))), ?_⟩
    obtain ⟨F, h, s, L, i, j, f, rfl, ⟨ρ, rfl, R⟩, iv, hi, hj, kT, kF, k⟩ := h
    have hl := iv.core.lay
    have hd : Dom s.mem [hand s i] := fun p hp => iv.core.inL p (hand_L iv.core (List.mem_singleton.mp hp).symm)
    refine ⟨_, rfl, m_hall R ⟨_, rfl, _, rfl, F, ρ, s, i, f, rfl, R, hl, hi, hd, kT, kF, fun p t v e => ?_⟩⟩
    obtain ⟨e1, g, h0, h1, hv0⟩ := fres_ok e
    have ef : f = ((f.toNat : Nat) : Int) := by omega
    have hL : L p := hand_L iv.core e1
    obtain ⟨t1, hm1⟩ : ∃ t1, get (if s.ph = .mark then shade s.mem v else s.mem) p = some t1 ∧ t1.fs = t.fs := by
      split
      · obtain ⟨t1, h, _, h3⟩ := (shade_shd s.mem v).get g
        exact ⟨t1, h, h3⟩
      · exact ⟨t, g, rfl⟩
    refine ⟨fun σ H1 => σ = [some (.ref (ρ .hall)), some (.int i), some (.int f), some (.int j), some (.ref (ρ (.fl p)))] ∧ Kp F H F H1 ∧ HallR K F H1 ρ { s with mem := if s.ph = .mark then shade s.mem v else s.mem }, ?_, ?_⟩
    · refine ⟨_, rfl, f_hall_sweeper T R (f_sw_standing T R ⟨rfl, _, rfl, ?_⟩)⟩
      refine ite2 (fun c => ?_) (fun c => ?_)
      · have c' : s.ph = .mark := phS_inj.mp (V.str.inj (of_decide_eq_true c))
        obtain ⟨ws, hw, hws⟩ := R.fl p t g
        obtain ⟨u, hu1, hu2⟩ := hws.2 f.toNat v hv0
        refine ⟨_, rfl, f_hall_memory T R ⟨_, rfl, _, rfl, _, ws, f, u, rfl, rfl, .inl (.inl hw), (by rw [ef]; exact atI_nat hu1), ?_⟩⟩
        refine ⟨F, ρ, s, u, v, rfl, R, hl, hu2, fun q hq => ?_, fun H1 kp kl R1 => ?_⟩
        · have e3 := (List.mem_singleton.mp hq).symm
          exact iv.core.inL q (iv.core.fL p q t hL g (by rw [← e3]; exact List.mem_of_getElem? hv0))
        · refine ⟨rfl, kp, ?_⟩
          rw [if_pos c']
          exact R1
      · have c' : ¬ s.ph = .mark := fun z => c (decide_eq_true (by rw [z]; rfl))
        refine ⟨rfl, Kp.refl F H, ?_⟩
        rw [if_neg c']
        exact R
    · rintro σ H1 ⟨rfl, kp, R1⟩
      obtain ⟨ws, hw, hws⟩ := R1.fl p t1 hm1.1
      have hjs : j < ({ s with mem := if s.ph = .mark then shade s.mem v else s.mem } : St).hands.length := hj
      have hlt : f.toNat < ws.length := by
        rw [hws.1, hm1.2]
        exact (List.getElem?_eq_some_iff.mp hv0).1
      refine ⟨_, rfl, f_hall_hands T R1 ⟨_, rfl, d_hand R1 hjs fun u hu => ?_⟩⟩
      refine ⟨_, rfl, _, rfl, _, ws, f, f.toNat, rfl, rfl, hw, (by rw [ef]; exact ix_nat (by omega)), ?_⟩
      have R2 := R1.setField T hm1.1 hws (i := f.toNat) hu
      exact k p t v e _ (kp.trans (Kp.upd (R1.own (.fl p) ⟨t1, hm1.1⟩))) ⟨ρ, rfl, R2⟩
abbrev N_Hall_blocks : List Str := ["self"]
theorem sc_Hall_blocks : FnScope N_Hall_blocks ["self"] (defScope s_Hall_blocks) := ⟨rfl, rfl, rfl, by decide +kernel, rfl, by decide +kernel, by decide +kernel⟩
set_option maxRecDepth 100000 in
theorem ok_Hall_blocks {P : Program} {w : World} {K : PySem.W.Frag} {mg : Str → Option Value} {base : Heap} (T : Txt K mg) (D : ∃ fd, FD K "blocks" "Hall.blocks" s_Hall_blocks (He.fAd K ("Hall", some "blocks")) fd) (me : Meth K (He.ga K "Hall") "blocks" (He.ma K (He.ga K "Hall") "blocks")) (m_Memory_blocks : MtC P w K mg base CX0 lv_Memory_blocks "Memory" "blocks" (sp_Memory_blocks K)) : MtC P w K mg base CX0 lv_Hall_blocks "Hall" "blocks" (sp_Hall_blocks K) := by
  refine mtC_mk D T.cHall me (N := N_Hall_blocks) sc_Hall_blocks (fun fd F => FunD.bindsN F fun _ _ _ _ _ _ us hl => match us, hl with | [_], _ => rfl) (fun vs H Q E h => ?_) fun cdv A outer s0 H vs Q E hr h => ?_
  · obtain ⟨F, h, s, rfl, ⟨ρ, rfl, R⟩, hl, hs, k⟩ := h
    rfl
  · have hu := hu_of hr
    refine ⟨_, (PSs.nox (pss_one (ps_ret (pf_meth0 m_Memory_blocks hr (by decide) pass0 (pe_fld (pv 0) rfl))))), ?_⟩
    obtain ⟨F, h, s, rfl, ⟨ρ, rfl, R⟩, hl, hs, k⟩ := h
    exact ⟨_, rfl, f_hall_memory T R (m_mem R ⟨F, ρ, s, rfl, R, hl, hs, k⟩)⟩
abbrev N_Hall_place_of : List Str := ["self", "hand"]
theorem sc_Hall_place_of : FnScope N_Hall_place_of ["self", "hand"] (defScope s_Hall_place_of) := ⟨rfl, rfl, rfl, by decide +kernel, rfl, by decide +kernel, by decide +kernel⟩
set_option maxRecDepth 100000 in
theorem ok_Hall_place_of {P : Program} {w : World} {K : PySem.W.Frag} {mg : Str → Option Value} {base : Heap} (T : Txt K mg) (D : ∃ fd, FD K "place_of" "Hall.place_of" s_Hall_place_of (He.fAd K ("Hall", some "place_of")) fd) (me : Meth K (He.ga K "Hall") "place_of" (He.ma K (He.ga K "Hall") "place_of")) (m_Hall_held_by : MtC P w K mg base (L2.CX P w) lv_Hall_held_by "Hall" "held_by" (sp_Hall_held_by K)) : MtC P w K mg base (L2.CX P w) lv_Hall_place_of "Hall" "place_of" (sp_Hall_place_of K) := by
  refine mtC_mk D T.cHall me (N := N_Hall_place_of) sc_Hall_place_of (fun fd F => FunD.bindsN F fun _ _ _ _ _ _ us hl => match us, hl with | [_, _], _ => rfl) (fun vs H Q E h => ?_) fun cdv A outer s0 H vs Q E hr h => ?_
  · obtain ⟨F, h, s, i, rfl, ⟨ρ, rfl, R⟩, hl, hi, hd, kE, k⟩ := h
    rfl
  · have hu := hu_of hr
    refine ⟨_, (pss_cons (ps_expr (pf_meth m_Hall_held_by hr (by decide) (passes_call (takes_of rfl rfl rfl rfl) (fun _ _ _ _ h => h)) (pv 0) (pa_cons (pv 1) pa_nil))) (pss_one (ps_ret (pe_fld (pe_ix ix_list (pe_fld (pv 0) rfl) (pv 1) (fun _ _ => rfl)) rfl)))), ?_⟩
    obtain ⟨F, h, s, i, rfl, ⟨ρ, rfl, R⟩, hl, hi, hd, kE, k⟩ := h
    refine ⟨_, rfl, m_hall R ⟨_, rfl, F, ρ, s, i, rfl, R, hl, hi, hd, kE, fun p t e g => ?_⟩⟩
    refine ⟨_, rfl, f_hall_hands T R ⟨_, rfl, d_hand R hi fun v hv => ?_⟩⟩
    rw [e] at hv
    obtain ⟨a, dx, rfl, hF, ha⟩ := hv
    exact f_held T ha (k p e)
end G

namespace G
open L2 PySem PyProof.Rows PySem.Spec
abbrev N_Hall_moved : List Str := ["self", "value", "places"]
theorem sc_Hall_moved : FnScope N_Hall_moved ["self", "value", "places"] (defScope s_Hall_moved) := ⟨rfl, rfl, rfl, by decide +kernel, rfl, by decide +kernel, by decide +kernel⟩
set_option maxRecDepth 100000 in
theorem ok_Hall_moved {P : Program} {w : World} {K : PySem.W.Frag} {mg : Str → Option Value} {base : Heap} (T : Txt K mg) (D : ∃ fd, FD K "moved" "Hall.moved" s_Hall_moved (He.fAd K ("Hall", some "moved")) fd) (me : Meth K (He.ga K "Hall") "moved" (He.ma K (He.ga K "Hall") "moved")) (m_is_held : FnC P w K mg base CX0 lv_is_held "is_held" (sp_is_held K)) (m_Held_init : MkC P w K mg base CX0 lv_Held_init "Held" (sp_Held_init K)) : MtC P w K mg base CX0 lv_Hall_moved "Hall" "moved" (sp_Hall_moved K) := by
  refine mtC_mk D T.cHall me (N := N_Hall_moved) sc_Hall_moved (fun fd F => FunD.bindsN F fun _ _ _ _ _ _ us hl => match us, hl with | [_, _, _], _ => rfl) (fun vs H Q E h => ?_) fun cdv A outer s0 H vs Q E hr h => ?_
  · obtain ⟨F, h, v, x, d, o, kvs, rfl, hv, hd, kN, kH⟩ := h
    rfl
  · have hu := hu_of hr
    refine ⟨_, (PSs.nox (pss_cons (ps_if (pt_val (pf_call m_is_held hr (by decide) pass0 (pa_cons (pv 1) pa_nil))) (pss_one (ps_ret (pf_make m_Held_init hr (by decide) pass0 (pa_cons (pe_dget hu (pv 2) (pe_fld (pv 1) rfl) (fun _ _ => rfl)) pa_nil)))) pss_nil) (pss_one (ps_ret (pv 1))))), ?_⟩
    obtain ⟨F, h, v, x, d, o, kvs, rfl, hv, hd, kN, kH⟩ := h
    refine ⟨_, rfl, F, v, x, rfl, hv, _, rfl, ?_⟩
    cases x with
    | num n => exact ⟨_, rfl, kN n rfl⟩
    | held p =>
      obtain ⟨a, dx, rfl, hF, ha⟩ := hv
      obtain ⟨q, hq, kk⟩ := kH p rfl
      have hg : DGet H d (.int p) (some (.int q)) := by
        have e0 : DGet H d (kV (Sum.inl p)) (valV kvs (Sum.inl p)) := by
          rcases hd with hd | hd
          · exact .inl ⟨kvs, Sum.inl p, .inl hd, rfl, rfl⟩
          · exact .inl ⟨kvs, Sum.inl p, .inr ⟨o, hd⟩, rfl, rfl⟩
        rw [hq] at e0
        exact e0
      refine ⟨_, rfl, _, rfl, f_held T ha ?_⟩
      refine ⟨_, _, rfl, hg, fun b db nb ndb neb => ⟨b, db, q, rfl, upd_same, rfl, ?_⟩⟩
      refine kk b db _ nb ndb upd_same (fun c u hc => ?_) (fun c hc => ?_)
      · rw [upd_ne (ne_of_none hc nb), upd_ne (ne_of_none hc nb), upd_ne (ne_of_none hc ndb)]
        exact hc
      · by_cases e1 : c = b
        · exact .inr (.inl e1)
        · by_cases e2 : c = db
          · exact .inr (.inr e2)
          · rw [upd_ne e1, upd_ne e1, upd_ne e2] at hc
            exact .inl hc
abbrev N_Hall_begin : List Str := ["self"]
theorem sc_Hall_begin : FnScope N_Hall_begin ["self"] (defScope s_Hall_begin) := ⟨rfl, rfl, rfl, by decide +kernel, rfl, by decide +kernel, by decide +kernel⟩
set_option maxRecDepth 100000 in
theorem ok_Hall_begin {P : Program} {w : World} {K : PySem.W.Frag} {mg : Str → Option Value} {base : Heap} (T : Txt K mg) (D : ∃ fd, FD K "begin" "Hall.begin" s_Hall_begin (He.fAd K ("Hall", some "begin")) fd) (me : Meth K (He.ga K "Hall") "begin" (He.ma K (He.ga K "Hall") "begin")) (m_Sweeper_begin : MtC P w K mg base CX0 lv_Sweeper_begin "Sweeper" "begin" (sp_Sweeper_begin K)) : MtC P w K mg base (L2.CX P w) lv_Hall_begin "Hall" "begin" (sp_Hall_begin K) := by
  refine mtC_mk D T.cHall me (N := N_Hall_begin) sc_Hall_begin (fun fd F => FunD.bindsN F fun _ _ _ _ _ _ us hl => match us, hl with | [_], _ => rfl) (fun vs H Q E h => ?_) fun cdv A outer s0 H vs Q E hr h => ?_
  · obtain ⟨F, h, s, L, rfl, ⟨ρ, rfl, R⟩, i, kE, k⟩ := h
    rfl
  · have hu := hu_of hr
    refine ⟨_, (pss_cons (ps_if (pt_cmpR op_ne (pe_fld (pe_fld (pv 0) rfl) rfl) pe_str (nomark _)) (pss_one (ps_raise rfl (takes_of rfl rfl rfl rfl) (pmk_own PySem.F.excBase_ValueError T.xNow.e T.xNow.g T.xNow.k (raises_own T.xNow.b T.xNow.t) rfl))) pss_nil) (pss_one (ps_expr (pf_meth m_Sweeper_begin hr (by decide) pass0 (pe_fld (pv 0) rfl) (pa_cons (pe_fld (pv 0) rfl) pa_nil))))), ?_⟩
    obtain ⟨F, h, s, L, rfl, ⟨ρ, rfl, R⟩, i, kE, k⟩ := h
    refine ⟨_, rfl, f_hall_sweeper T R (f_sw_standing T R ⟨rfl, _, rfl, ?_⟩)⟩
    by_cases c : s.ph = .idle
    · refine iteNS (by rw [c]; rfl) ?_
      refine ⟨_, rfl, f_hall_sweeper T R (m_sw R ⟨_, rfl, f_hall_hands T R ⟨F, ρ, s, rfl, R, i.core.lay, fun p hp => i.core.inL p (i.core.hL p hp), fun H' kp R' => ?_⟩⟩)⟩
      exact k c H' kp ⟨ρ, rfl, R'⟩
    · exact iteNN (ph_ne (b := .idle) c) (kE c)
abbrev N_Hall_step : List Str := ["self", "n", "done"]
theorem sc_Hall_step : FnScope N_Hall_step ["self", "n"] (defScope s_Hall_step) := ⟨rfl, rfl, rfl, by decide +kernel, rfl, by decide +kernel, by decide +kernel⟩
set_option maxRecDepth 100000 in
theorem ok_Hall_step {P : Program} {w : World} {K : PySem.W.Frag} {mg : Str → Option Value} {base : Heap} (T : Txt K mg) (D : ∃ fd, FD K "step" "Hall.step" s_Hall_step (He.fAd K ("Hall", some "step")) fd) (me : Meth K (He.ga K "Hall") "step" (He.ma K (He.ga K "Hall") "step")) (m_Sweeper_part : MtC P w K mg base CX0 lv_Sweeper_part "Sweeper" "part" (sp_Sweeper_part K)) : MtC P w K mg base CX0 lv_Hall_step "Hall" "step" (sp_Hall_step K) := by
  refine mtC_mk D T.cHall me (N := N_Hall_step) sc_Hall_step (fun fd F => FunD.bindsN F fun _ _ _ _ _ _ us hl => match us, hl with | [_, _], _ => rfl) (fun vs H Q E h => ?_) fun cdv A outer s0 H vs Q E hr h => ?_
  · obtain ⟨F, h, s, L, n, rfl, ⟨ρ, rfl, R⟩, i, k⟩ := h
    rfl
  · have hu := hu_of hr
    refine ⟨_, (PSs.nox (pss_cons (ps_set (i := 2) sc_Hall_step.nd rfl (Or.inl rfl) pe_int) (pss_cons (ps_while PassesOwn.never (PW.pt (pw_and (pt_cmpR op_lt (pv 2) (pv 1) (nomark _)) (pw_and1 (pt_cmpR op_ne (pe_fld (pe_fld (pv 0) rfl) rfl) pe_str (nomark _))))) (pss_cons (ps_expr (pf_meth0 m_Sweeper_part hr (by decide) pass0 (pe_fld (pv 0) rfl))) (pss_one (ps_set (i := 2) sc_Hall_step.nd rfl (Or.inl rfl) (pe_op op_add (pv 2) pe_int))))) (pss_one (ps_ret (pv 2)))))), ?_⟩
    obtain ⟨F, h, s, L, n, rfl, ⟨ρ, rfl, R⟩, i, k⟩ := h
    refine ⟨fun m σ H1 => ∃ (d : Nat) (s1 : St), σ = [some (.ref (ρ .hall)), some (.int n), some (.int d)] ∧ Kp F H F H1 ∧ HallR K F H1 ρ s1 ∧ G.Inv s1 L ∧ d + m = n ∧ stepN n s = (d + (stepN m s1).1, (stepN m s1).2), ⟨n, 0, s, rfl, Kp.refl F H, R, i, by omega, by simp⟩, ?_⟩
    rintro m σ H1 ⟨d, s1, rfl, kp, R1, i1, hd, hs⟩
    have fin : stepN m s1 = (0, s1) → Q (.int d) H1 := fun e => by
      have k1 := k H1 kp
      rw [hs, e] at k1
      exact k1 ⟨ρ, rfl, R1⟩
    refine ⟨_, rfl, _, rfl, _, _, rfl, rfl, _, rfl, ?_⟩
    refine ite2 (fun c => ?_) (fun c => ?_)
    · have c' : (d : Int) < n := of_decide_eq_true c
      refine ⟨_, rfl, f_hall_sweeper T R1 (f_sw_standing T R1 ⟨rfl, _, rfl, ?_⟩)⟩
      by_cases e : s1.ph = .idle
      · refine iteNS (by rw [e]; rfl) ⟨_, rfl, fin ?_⟩
        cases m with
        | zero => rfl
        | succ m =>
          unfold stepN
          rw [if_pos e]
      · refine iteNN (ph_ne (b := .idle) e) ?_
        obtain ⟨m', rfl⟩ : ∃ m', m = m' + 1 := ⟨m - 1, by omega⟩
        refine ⟨fun σ2 H2 => ∃ (d : Nat) (s1 : St), σ2 = [some (.ref (ρ .hall)), some (.int n), some (.int d)] ∧ Kp F H F H2 ∧ HallR K F H2 ρ s1 ∧ G.Inv s1 L ∧ d + m' = n ∧ stepN n s = (d + (stepN m' s1).1, (stepN m' s1).2), fun σ2 H2 w => ⟨m', by omega, w⟩, ?_⟩
        refine ⟨_, rfl, f_hall_sweeper T R1 (m_sw R1 ⟨F, ρ, s1, L, rfl, R1, i1, e, fun H2 kp2 R2 => ?_⟩)⟩
        refine ⟨_, rfl, _, _, rfl, rfl, d + 1, part s1, rfl, kp.trans kp2, R2, (part_ok i1 e).1, by omega, ?_⟩
        rw [hs]
        conv => lhs; unfold stepN
        rw [if_neg e]
        simp only [Prod.mk.injEq, and_true]
        omega
    · have c' : ¬ (d : Int) < n := fun z => c (decide_eq_true z)
      obtain rfl : m = 0 := by omega
      exact ⟨_, rfl, fin rfl⟩
abbrev N_Hall_finish : List Str := ["self", "done"]
theorem sc_Hall_finish : FnScope N_Hall_finish ["self"] (defScope s_Hall_finish) := ⟨rfl, rfl, rfl, by decide +kernel, rfl, by decide +kernel, by decide +kernel⟩
set_option maxRecDepth 100000 in
theorem ok_Hall_finish {P : Program} {w : World} {K : PySem.W.Frag} {mg : Str → Option Value} {base : Heap} (T : Txt K mg) (D : ∃ fd, FD K "finish" "Hall.finish" s_Hall_finish (He.fAd K ("Hall", some "finish")) fd) (me : Meth K (He.ga K "Hall") "finish" (He.ma K (He.ga K "Hall") "finish")) (m_Sweeper_part : MtC P w K mg base CX0 lv_Sweeper_part "Sweeper" "part" (sp_Sweeper_part K)) : MtC P w K mg base CX0 lv_Hall_finish "Hall" "finish" (sp_Hall_finish K) := by
  refine mtC_mk D T.cHall me (N := N_Hall_finish) sc_Hall_finish (fun fd F => FunD.bindsN F fun _ _ _ _ _ _ us hl => match us, hl with | [_], _ => rfl) (fun vs H Q E h => ?_) fun cdv A outer s0 H vs Q E hr h => ?_
  · obtain ⟨F, h, s, L, rfl, ⟨ρ, rfl, R⟩, i, k⟩ := h
    rfl
  · have hu := hu_of hr
    refine ⟨_, (PSs.nox (pss_cons (ps_set (i := 1) sc_Hall_finish.nd rfl (Or.inl rfl) pe_int) (pss_cons (ps_while PassesOwn.never (pt_cmpR op_ne (pe_fld (pe_fld (pv 0) rfl) rfl) pe_str (nomark _)) (pss_cons (ps_expr (pf_meth0 m_Sweeper_part hr (by decide) pass0 (pe_fld (pv 0) rfl))) (pss_one (ps_set (i := 1) sc_Hall_finish.nd rfl (Or.inl rfl) (pe_op op_add (pv 1) pe_int))))) (pss_one (ps_ret (pv 1)))))), ?_⟩
    obtain ⟨F, h, s, L, rfl, ⟨ρ, rfl, R⟩, i, k⟩ := h
    refine ⟨fun m σ H1 => ∃ (d : Nat) (s1 : St), σ = [some (.ref (ρ .hall)), some (.int d)] ∧ Kp F H F H1 ∧ HallR K F H1 ρ s1 ∧ G.Inv s1 L ∧ m = nu L s1 ∧ finishS s = (d + (stepN m s1).1, (stepN m s1).2), ⟨_, 0, s, rfl, Kp.refl F H, R, i, rfl, by rw [finish_eq i]; simp⟩, ?_⟩
    rintro m σ H1 ⟨d, s1, rfl, kp, R1, i1, hm, hs⟩
    refine ⟨_, rfl, f_hall_sweeper T R1 (f_sw_standing T R1 ⟨rfl, _, rfl, ?_⟩)⟩
    by_cases e : s1.ph = .idle
    · refine iteNS (by rw [e]; rfl) ⟨_, rfl, ?_⟩
      have k1 := k H1 kp
      rw [nu_idle L e] at hm
      subst hm
      rw [hs] at k1
      exact k1 ⟨ρ, rfl, R1⟩
    · refine iteNN (ph_ne (b := .idle) e) ?_
      have n1 := (part_ok i1 e).2.2
      obtain ⟨m', rfl⟩ : ∃ m', m = m' + 1 := ⟨m - 1, by omega⟩
      refine ⟨fun σ2 H2 => ∃ (d : Nat) (s1 : St), σ2 = [some (.ref (ρ .hall)), some (.int d)] ∧ Kp F H F H2 ∧ HallR K F H2 ρ s1 ∧ G.Inv s1 L ∧ m' = nu L s1 ∧ finishS s = (d + (stepN m' s1).1, (stepN m' s1).2), fun σ2 H2 w => ⟨m', by omega, w⟩, ?_⟩
      refine ⟨_, rfl, f_hall_sweeper T R1 (m_sw R1 ⟨F, ρ, s1, L, rfl, R1, i1, e, fun H2 kp2 R2 => ?_⟩)⟩
      refine ⟨_, rfl, _, _, rfl, rfl, d + 1, part s1, rfl, kp.trans kp2, R2, (part_ok i1 e).1, by omega, ?_⟩
      rw [hs]
      conv => lhs; unfold stepN
      rw [if_neg e]
      simp only [Prod.mk.injEq, and_true]
      omega
abbrev N_Hall_phase : List Str := ["self"]
theorem sc_Hall_phase : FnScope N_Hall_phase ["self"] (defScope s_Hall_phase) := ⟨rfl, rfl, rfl, by decide +kernel, rfl, by decide +kernel, by decide +kernel⟩
set_option maxRecDepth 100000 in
theorem ok_Hall_phase {P : Program} {w : World} {K : PySem.W.Frag} {mg : Str → Option Value} {base : Heap} (T : Txt K mg) (D : ∃ fd, FD K "phase" "Hall.phase" s_Hall_phase (He.fAd K ("Hall", some "phase")) fd) (me : Meth K (He.ga K "Hall") "phase" (He.ma K (He.ga K "Hall") "phase"))  : MtC P w K mg base CX0 lv_Hall_phase "Hall" "phase" (sp_Hall_phase K) := by
  refine mtC_mk D T.cHall me (N := N_Hall_phase) sc_Hall_phase (fun fd F => FunD.bindsN F fun _ _ _ _ _ _ us hl => match us, hl with | [_], _ => rfl) (fun vs H Q E h => ?_) fun cdv A outer s0 H vs Q E hr h => ?_
  · obtain ⟨F, h, s, rfl, ⟨ρ, rfl, R⟩, k⟩ := h
    rfl
  · have hu := hu_of hr
    refine ⟨_, (PSs.nox (pss_one (ps_ret (pe_fld (pe_fld (pv 0) rfl) rfl)))), ?_⟩
    obtain ⟨F, h, s, rfl, ⟨ρ, rfl, R⟩, k⟩ := h
    exact ⟨_, rfl, f_hall_sweeper T R (f_sw_standing T R k)⟩
abbrev N_Hall_colours : List Str := ["self", "place"]
theorem sc_Hall_colours : FnScope N_Hall_colours ["self"] (defScope s_Hall_colours) := ⟨rfl, rfl, rfl, by decide +kernel, rfl, by decide +kernel, by decide +kernel⟩
set_option maxRecDepth 100000 in
theorem ok_Hall_colours {P : Program} {w : World} {K : PySem.W.Frag} {mg : Str → Option Value} {base : Heap} (T : Txt K mg) (D : ∃ fd, FD K "colours" "Hall.colours" s_Hall_colours (He.fAd K ("Hall", some "colours")) fd) (me : Meth K (He.ga K "Hall") "colours" (He.ma K (He.ga K "Hall") "colours")) (m_Memory_places : MtC P w K mg base CX0 lv_Memory_places "Memory" "places" (sp_Memory_places K)) : MtC P w K mg base CX0 lv_Hall_colours "Hall" "colours" (sp_Hall_colours K) := by
  refine mtC_mk D T.cHall me (N := N_Hall_colours) sc_Hall_colours (fun fd F => FunD.bindsN F fun _ _ _ _ _ _ us hl => match us, hl with | [_], _ => rfl) (fun vs H Q E h => ?_) fun cdv A outer s0 H vs Q E hr h => ?_
  · obtain ⟨F, h, s, rfl, ⟨ρ, rfl, R⟩, hl, hs, k⟩ := h
    rfl
  · have hu := hu_of hr
    refine ⟨_, (PSs.nox (pss_one (ps_ret (pe_tupleOf rfl T.b_tuple (pe_lc (own := [("place", 1)]) (g := gName 1) (tt := tYes) rfl sc_Hall_colours.nd (pi_list (pf_meth0 m_Memory_places hr (by decide) pass0 (pe_fld (pv 0) rfl))) (blkOk_by (N := N_Hall_colours) (sc := defScope s_Hall_colours) (by decide +kernel)) (fun _ _ _ _ _ => pg_name (i := 1) sc_Hall_colours.nd rfl (Or.inl rfl)) (fun _ _ _ _ _ => by exact pts_nil) (fun _ _ _ _ _ => by exact (show PE _ _ (tFld K _ _) from (pe_fld (pe_dget hu (show PE _ _ (tFld K _ _) from (pe_fld (show PE _ _ (tFld K _ _) from (pe_fld (pv 0) rfl)) rfl)) (pv 1) (fun _ _ => rfl)) rfl)))))))), ?_⟩
    obtain ⟨F, h, s, rfl, ⟨ρ, rfl, R⟩, hl, hs, k⟩ := h
    refine ⟨_, rfl, f_hall_memory T R (m_mem R ⟨F, ρ, s, rfl, R, hl, fun p hn => ?_⟩)⟩
    refine ⟨p, rfl, ⟨_, .inl (.inl upd_same)⟩, fun D hD => ?_⟩
    have nDp : D ≠ p := by
      intro e
      rw [e, upd_same] at hD
      cases hD
    have hD0 : H D = none := by
      rw [upd_ne nDp] at hD
      exact hD
    have e0 : Same H (upd (upd H p (.lst (s.mem.map fun x => V.int x.1))) D (.lst [])) := (same_new hn).trans (same_new hD)
    refine lc_list (K := K) (a := p) (xs := s.mem.map fun x => V.int x.1) (fun i H1 => Same H H1 ∧ H1 p = some (.lst (s.mem.map fun x => V.int x.1)) ∧ H1 D = some (.lst ((s.mem.take i).map fun x => V.str (colS x.2.col))))
      ⟨e0, by rw [upd_ne nDp.symm, upd_same], upd_same⟩ (fun i H1 _ w => .inl (.inl w.2.1)) ?_ ?_
    · rintro i y H1 hi ⟨e1, hp1, hD1⟩
      obtain ⟨x, hx, rfl, hd⟩ := map_get hi
      have gx := mem_get hl (List.mem_of_getElem? hx)
      have hix : i < s.mem.length := (List.getElem?_eq_some_iff.mp hx).1
      have R1 := R.same e1
      refine ⟨rfl, _, rfl, f_hall_memory T R1 (f_mem_things T R1 ⟨_, rfl, d_thing R1 hl gx (f_th_colour T R1 gx ?_)⟩)⟩
      refine ⟨_, hD1, lt1000 ?_, fun b o hb => ?_, ?_, ?_⟩
      · rw [List.length_map, List.length_take]
        omega
      · rw [upd_ne (ne_of_none hb hD0)]
        exact e1 b o hb
      · rw [upd_ne nDp.symm]
        exact hp1
      · rw [upd_same, List.take_add_one, hx]
        simp
    · rintro H1 ⟨e1, hp1, hD1⟩
      rw [List.length_map, List.take_length] at hD1
      refine .inl ⟨D, _, rfl, .inl (.inl hD1), fun q hq => ?_⟩
      have nqF : ¬ F q := not_F R.al (e1.free hq)
      refine k _ _ (e1.trans (same_new hq)) (.tup (xs := s.mem.map fun x => V.str (colS x.2.col)) (by rw [outF_eq nqF, upd_same]) ?_)
      have key : ∀ (H2 : Hp) (r : Mem), TpAll H2 (r.map fun x => V.str (colS x.2.col)) (r.map fun x => PyData.str (colS x.2.col)) := fun H2 r => by
        induction r with
        | nil => exact .nil
        | cons x r ih => exact .cons (.str _) ih
      exact key _ s.mem
abbrev N_Hall_finger : List Str := ["self"]
theorem sc_Hall_finger : FnScope N_Hall_finger ["self"] (defScope s_Hall_finger) := ⟨rfl, rfl, rfl, by decide +kernel, rfl, by decide +kernel, by decide +kernel⟩
set_option maxRecDepth 100000 in
theorem ok_Hall_finger {P : Program} {w : World} {K : PySem.W.Frag} {mg : Str → Option Value} {base : Heap} (T : Txt K mg) (D : ∃ fd, FD K "finger" "Hall.finger" s_Hall_finger (He.fAd K ("Hall", some "finger")) fd) (me : Meth K (He.ga K "Hall") "finger" (He.ma K (He.ga K "Hall") "finger"))  : MtC P w K mg base CX0 lv_Hall_finger "Hall" "finger" (sp_Hall_finger K) := by
  refine mtC_mk D T.cHall me (N := N_Hall_finger) sc_Hall_finger (fun fd F => FunD.bindsN F fun _ _ _ _ _ _ us hl => match us, hl with | [_], _ => rfl) (fun vs H Q E h => ?_) fun cdv A outer s0 H vs Q E hr h => ?_
  · obtain ⟨F, h, s, rfl, ⟨ρ, rfl, R⟩, k⟩ := h
    rfl
  · have hu := hu_of hr
    refine ⟨_, (PSs.nox (pss_cons (ps_if (pt_cmpR op_eq (pe_fld (pe_fld (pv 0) rfl) rfl) pe_str (nomark _)) (pss_one (ps_ret (pe_fld (pe_fld (pv 0) rfl) rfl))) pss_nil) (pss_one (ps_ret pe_non)))), ?_⟩
    obtain ⟨F, h, s, rfl, ⟨ρ, rfl, R⟩, k⟩ := h
    refine ⟨_, rfl, f_hall_sweeper T R (f_sw_standing T R ⟨rfl, _, rfl, ?_⟩)⟩
    unfold fingerV at k
    refine ite2 (fun c => ?_) (fun c => ?_)
    · rw [if_pos (phS_inj.mp (V.str.inj (of_decide_eq_true c)))] at k
      exact ⟨_, rfl, f_hall_sweeper T R (f_sw_at T R k)⟩
    · rw [if_neg (fun z => c (decide_eq_true (by rw [z]; rfl)))] at k
      exact k
end G

namespace G
open L2 PySem PyProof.Rows PySem.Spec
abbrev N_Hall_make : List Str := ["self", "hand", "many", "place"]
theorem sc_Hall_make : FnScope N_Hall_make ["self", "hand", "many"] (defScope s_Hall_make) := ⟨rfl, rfl, rfl, by decide +kernel, rfl, by decide +kernel, by decide +kernel⟩
set_option maxRecDepth 100000 in
theorem ok_Hall_make {P : Program} {w : World} {K : PySem.W.Frag} {mg : Str → Option Value} {base : Heap} (T : Txt K mg) (D : ∃ fd, FD K "make" "Hall.make" s_Hall_make (He.fAd K ("Hall", some "make")) fd) (me : Meth K (He.ga K "Hall") "make" (He.ma K (He.ga K "Hall") "make")) (m_Held_init : MkC P w K mg base CX0 lv_Held_init "Held" (sp_Held_init K)) (m_Thing_init : MkC P w K mg base CX0 lv_Thing_init "Thing" (sp_Thing_init K)) (m_Sweeper_colour_at : MtC P w K mg base CX0 lv_Sweeper_colour_at "Sweeper" "colour_at" (sp_Sweeper_colour_at K)) (m_Memory_gap : MtC P w K mg base CX0 lv_Memory_gap "Memory" "gap" (sp_Memory_gap K)) (m_Hall_slide : MtC P w K mg base (L2.CX P w) lv_Hall_slide "Hall" "slide" (sp_Hall_slide K)) (m_Hall_finish : MtC P w K mg base CX0 lv_Hall_finish "Hall" "finish" (sp_Hall_finish K)) (m_Hall_begin : MtC P w K mg base (L2.CX P w) lv_Hall_begin "Hall" "begin" (sp_Hall_begin K)) : MtC P w K mg base (L2.CX P w) lv_Hall_make "Hall" "make" (sp_Hall_make K) := by
  refine mtC_mk D T.cHall me (N := N_Hall_make) sc_Hall_make (fun fd F => FunD.bindsN F fun _ _ _ _ _ _ us hl => match us, hl with | [_, _, _], _ => rfl) (fun vs H Q E h => ?_) fun cdv A outer s0 H vs Q E hr h => ?_
  · obtain ⟨F, h, s, L, i, m, rfl, ⟨ρ, rfl, R⟩, iv, hi, hm, hz, k, kE⟩ := h
    rfl
  · have hu := hu_of hr
    refine ⟨_, (pss_cons (ps_set (i := 3) sc_Hall_make.nd rfl (Or.inl rfl) (pf_meth m_Memory_gap hr (by decide) pass0 (pe_fld (pv 0) rfl) (pa_cons (pe_op op_add pe_int (pv 2)) pa_nil))) (pss_cons (ps_mid (ps_if (pt_cmp (pc_isN (pv 3))) (pss_cons (ps_expr (pf_meth0 m_Hall_finish hr (by decide) pass0 (pv 0))) (pss_cons (ps_expr (pf_meth0 m_Hall_begin hr (by decide) passL (pv 0))) (pss_cons (ps_expr (pf_meth0 m_Hall_finish hr (by decide) pass0 (pv 0))) (pss_cons (ps_expr (pf_meth0 m_Hall_slide hr (by decide) passL (pv 0))) (pss_one (ps_set (i := 3) sc_Hall_make.nd rfl (Or.inl rfl) (pf_meth m_Memory_gap hr (by decide) pass0 (pe_fld (pv 0) rfl) (pa_cons (pe_op op_add pe_int (pv 2)) pa_nil)))))))) pss_nil)) (pss_cons (ps_if (pt_cmp (pc_isN (pv 3))) (pss_one (ps_raise rfl (takes_of rfl rfl rfl rfl) (pmk_own PySem.F.excBase_ValueError T.xRoom.e T.xRoom.g T.xRoom.k (raises_own T.xRoom.b T.xRoom.t) rfl))) pss_nil) (pss_cons (ps_dput hu (pe_fld (pe_fld (pv 0) rfl) rfl) (pv 3) (pf_make m_Thing_init hr (by decide) pass0 (pa_cons (pv 2) (pa_cons (pf_meth m_Sweeper_colour_at hr (by decide) pass0 (pe_fld (pv 0) rfl) (pa_cons (pv 3) pa_nil)) pa_nil))) rfl) (pss_one (ps_asg (pf_make m_Held_init hr (by decide) pass0 (pa_cons (pv 3) pa_nil)) (pg_sub (pe_fld (pv 0) rfl) (pv 1) set_list))))))), ?_⟩
    obtain ⟨F, h, s, L, i, m, rfl, ⟨ρ, rfl, R⟩, iv, hi, hm, hz, k, kE⟩ := h
    have hl := iv.core.lay
    refine ⟨_, rfl, f_hall_memory T R (m_mem R ⟨_, rfl, _, _, rfl, rfl, F, ρ, s, 2 + (m : Int), rfl, R, hl, fun H0 e0 => ?_⟩)⟩
    have R0 := R.same e0
    refine ⟨fun σ H1 => ∃ F1 ρ1 s1 L1 o, σ = [some (.ref (ρ .hall)), some (.int i), some (.int m), some (optV o)] ∧ Kp F H F1 H1 ∧ ρ1 .hall = ρ .hall ∧ HallR K F1 H1 ρ1 s1 ∧ G.Inv s1 L1 ∧ i < s1.hands.length ∧ s1.size = s.size ∧ gap s1 (2 + (m : Int)) = o ∧
      makeS s i m = (match o with | some p => (true, makeAt s1 p i m) | none => (false, s1)), ?_, ?_⟩
    · refine ⟨_, rfl, _, rfl, ?_⟩
      refine ite2 (fun c => ?_) (fun c => ?_)
      · have c' : gap s (2 + (m : Int)) = none := optV_non.mp (of_decide_eq_true c)
        obtain ⟨i1, k1, _, p1⟩ := finish_ok iv
        refine ⟨_, rfl, m_hall R0 ⟨F, _, s, L, rfl, ⟨ρ, rfl, R0⟩, iv, fun H1 kp1 ⟨ρ1, h1, R1⟩ => ?_⟩⟩
        obtain ⟨i2, k2, _⟩ := begin_ok i1 p1
        refine ⟨_, rfl, ?_⟩
        rw [← h1]
        refine m_hall R1 ⟨F, _, _, L, rfl, ⟨ρ1, rfl, R1⟩, i1, fun z => absurd p1 z, fun _ H2 kp2 ⟨ρ2, h2, R2⟩ => ?_⟩
        obtain ⟨i3, k3, _, p3⟩ := finish_ok i2
        refine ⟨_, rfl, ?_⟩
        rw [← h2]
        refine m_hall R2 ⟨F, _, _, _, rfl, ⟨ρ2, rfl, R2⟩, i2, fun H3 kp3 ⟨ρ3, h3, R3⟩ => ?_⟩
        refine ⟨_, rfl, ?_⟩
        rw [← h3]
        refine m_hall R3 ⟨F, _, _, _, rfl, ⟨ρ3, rfl, R3⟩, i3, (by rw [k3.size, k2.size, k1.size]; exact hz), fun z => absurd p3 z, fun _ F4 H4 kp4 ⟨ρ4, h4, R4⟩ => ?_⟩
        have i4 := slide_ok i3 p3
        refine ⟨_, rfl, ?_⟩
        rw [← h4]
        refine f_hall_memory T R4 (m_mem R4 ⟨_, rfl, _, _, rfl, rfl, F4, ρ4, _, 2 + (m : Int), rfl, R4, i4.core.lay, fun H5 e5 => ?_⟩)
        refine ⟨F4, ρ4, _, _, _, rfl, ((((Kp.same e0).trans kp1).trans kp2).trans kp3).trans (kp4.trans (Kp.same e5)), ?_, R4.same e5, i4, ?_, ?_, rfl, ?_⟩
        · rfl
        · rw [i4.core.h8]
          rw [iv.core.h8] at hi
          exact hi
        · exact k3.size.trans (k2.size.trans k1.size)
        · unfold makeS
          rw [c']
          show (match gap (collect s) (2 + (m : Int)) with | some p => _ | none => _) = _
          rfl
      · have c' : ¬ gap s (2 + (m : Int)) = none := fun z => c (decide_eq_true (optV_non.mpr z))
        refine ⟨F, ρ, s, L, _, rfl, Kp.same e0, rfl, R0, iv, hi, rfl, rfl, ?_⟩
        unfold makeS
        cases e : gap s (2 + (m : Int)) with
        | none => exact absurd e c'
        | some p => rfl
    · rintro σ H1 ⟨F1, ρ1, s1, L1, o, rfl, kp, h1, R1, i1, hi1, hz1, hg, hms⟩
      refine ⟨_, rfl, _, rfl, ?_⟩
      rw [← h1]
      cases o with
      | none =>
        have k2 := kE (by rw [hms]) F1 H1 kp
        rw [hms] at k2
        exact k2 ⟨ρ1, h1, R1⟩
      | some p =>
        have hn := (make_ok (h := i) i1 hm hg).2
        have e2 : 2 + (m : Int) = 2 + (m : Int) := rfl
        refine ⟨_, rfl, _, rfl, f_hall_sweeper T R1 (m_sw R1 ⟨_, rfl, F1, ρ1, s1, p, rfl, R1, fun ta dt nta ndt nne => ?_⟩)⟩
        refine ⟨ta, dt, m, _, rfl, upd_same, by omega, fun la H2 nla hla hta but => ⟨rfl, ?_⟩⟩
        have e02 : Same H1 H2 := fun b o hb => but b o (by rw [upd_ne (ne_of_none hb nta), upd_ne (ne_of_none hb ndt)]; exact hb) (ne_of_none hb nta)
        have nlat : la ≠ ta := by
          intro z
          rw [z, upd_same] at nla
          cases nla
        have nlad : la ≠ dt := by
          intro z
          rw [z, upd_ne nne, upd_same] at nla
          cases nla
        have nla1 : H1 la = none := by
          rw [upd_ne nlat, upd_ne nlad] at nla
          exact nla
        have R2 := R1.same e02
        obtain ⟨kvs, hd, hp⟩ := R1.dc
        obtain ⟨vs, hv, hvs⟩ := R1.hl
        obtain ⟨dh, hh⟩ := R1.hall
        have hlen : kvs.length ≤ 100000 := by
          rw [hp.length_eq]
          unfold pairs
          rw [List.length_map]
          have := lay_len i1.core.lay
          omega
        refine ⟨_, rfl, f_hall_memory T R2 (f_mem_things T R2 ⟨_, rfl, _, _, rfl, DPut.k (k := (Sum.inl p : Key)) (e02 _ _ hd) (small_lt hlen), ?_⟩)⟩
        have ndc : ∀ g, g ≠ .dc → VT s1.mem g → ρ1 g ≠ ρ1 .dc := fun g n v => R1.ne v (g' := .dc) trivial n
        refine ⟨_, rfl, fun ha dha nha ndha nne2 => ⟨ha, dha, p, rfl, upd_same, rfl, ?_⟩⟩
        have nhdc : ha ≠ ρ1 .dc := by
          intro z
          rw [z, upd_same] at nha
          cases nha
        have ndhdc : dha ≠ ρ1 .dc := by
          intro z
          rw [z, upd_same] at ndha
          cases ndha
        have nha2 : H2 ha = none := by
          rw [upd_ne nhdc] at nha
          exact nha
        have ndha2 : H2 dha = none := by
          rw [upd_ne ndhdc] at ndha
          exact ndha
        have nha1 : H1 ha = none := e02.free nha2
        have ndha1 : H1 dha = none := e02.free ndha2
        have at3 : ∀ b o, H2 b = some o → b ≠ ρ1 .dc → (upd (upd (upd (upd H2 (ρ1 .dc) (.dK (putK kvs (Sum.inl p) (.ref ta)))) dha (.own ha)) ha (.ins (cHeld K) dha [])) ha (.ins (cHeld K) dha (heldF p))) b = some o := fun b o hb n => by
          rw [upd_ne (ne_of_none hb nha2), upd_ne (ne_of_none hb nha2), upd_ne (ne_of_none hb ndha2), upd_ne n]
          exact hb
        refine ⟨_, rfl, ⟨_, cHall K, dh, _, _, rfl, at3 _ _ (e02 _ _ hh) (ndc .hall (by simp) trivial), T.cHall, T.nHands, hallF_hands, ?_⟩⟩
        refine ⟨_, rfl, _, vs, _, i, rfl, rfl, at3 _ _ (e02 _ _ hv) (ndc .hl (by simp) trivial), ix_nat (by rw [hvs.1]; exact hi1), ?_⟩
        have nhl : ∀ b o, H1 b = some o → b ≠ ha := fun b o hb => ne_of_none hb nha1
        have key : HallR K (fun a => F1 a ∨ a = ta ∨ a = la ∨ a = ha) (upd (upd (upd (upd (upd H2 (ρ1 .dc) (.dK (putK kvs (Sum.inl p) (.ref ta)))) dha (.own ha)) ha (.ins (cHeld K) dha [])) ha (.ins (cHeld K) dha (heldF p))) (ρ1 .hl) (.lst (vs.set i (.ref ha)))) (rhoMake ρ1 p ta la) (makeAt s1 p i m) ∧
            Kp F1 H1 (fun a => F1 a ∨ a = ta ∨ a = la ∨ a = ha) (upd (upd (upd (upd (upd H2 (ρ1 .dc) (.dK (putK kvs (Sum.inl p) (.ref ta)))) dha (.own ha)) ha (.ins (cHeld K) dha [])) ha (.ins (cHeld K) dha (heldF p))) (ρ1 .hl) (.lst (vs.set i (.ref ha)))) := by
          refine R1.make T (dx := dt) (dxh := dha) hn hd hp hv hvs nta nla1 nha1 nlat.symm ?_ ?_ ?_ ?_ upd_same fun b o hb n1 n2 => ?_
          · have ntl : ta ≠ ρ1 .hl := (ne_of_none hv nta).symm
            have ntc : ta ≠ ρ1 .dc := (ne_of_none hd nta).symm
            rw [upd_ne ntl]
            exact at3 _ _ hta ntc
          · have ntl : la ≠ ρ1 .hl := (ne_of_none hv nla1).symm
            have ntc : la ≠ ρ1 .dc := (ne_of_none hd nla1).symm
            rw [upd_ne ntl]
            exact at3 _ _ hla ntc
          · have ntl : ha ≠ ρ1 .hl := (ne_of_none hv nha1).symm
            rw [upd_ne ntl, upd_same]
          · rw [upd_ne (ndc .hl (by simp) trivial).symm, upd_ne nhdc.symm, upd_ne nhdc.symm, upd_ne ndhdc.symm, upd_same]
          · rw [upd_ne n2]
            exact at3 _ _ (e02 _ _ hb) n1
        obtain ⟨R3, kp3⟩ := key
        have k2 := k (by rw [hms]) _ _ (kp.trans kp3)
        rw [hms] at k2
        exact k2 ⟨_, (by show rhoMake ρ1 p ta la .hall = _; unfold rhoMake; rw [if_neg (by simp), if_neg (by simp)]; exact h1), R3⟩
end G

namespace G
open L2 PySem PyProof.Rows PySem.Spec
abbrev N_Hall_slide : List Str := ["self", "places", "at", "place", "things", "thing", "value"]
theorem sc_Hall_slide : FnScope N_Hall_slide ["self"] (defScope s_Hall_slide) := ⟨rfl, rfl, rfl, by decide +kernel, rfl, by decide +kernel, by decide +kernel⟩
set_option maxRecDepth 100000 in
theorem ok_Hall_slide {P : Program} {w : World} {K : PySem.W.Frag} {mg : Str → Option Value} {base : Heap} (T : Txt K mg) (D : ∃ fd, FD K "slide" "Hall.slide" s_Hall_slide (He.fAd K ("Hall", some "slide")) fd) (me : Meth K (He.ga K "Hall") "slide" (He.ma K (He.ga K "Hall") "slide")) (m_Hall_moved : MtC P w K mg base CX0 lv_Hall_moved "Hall" "moved" (sp_Hall_moved K)) (m_Memory_places : MtC P w K mg base CX0 lv_Memory_places "Memory" "places" (sp_Memory_places K)) (m_Memory_words : MtC P w K mg base CX0 lv_Memory_words "Memory" "words" (sp_Memory_words K)) : MtC P w K mg base (L2.CX P w) lv_Hall_slide "Hall" "slide" (sp_Hall_slide K) := by
  refine mtC_mk D T.cHall me (N := N_Hall_slide) sc_Hall_slide (fun fd F => FunD.bindsN F fun _ _ _ _ _ _ us hl => match us, hl with | [_], _ => rfl) (fun vs H Q E h => ?_) fun cdv A outer s0 H vs Q E hr h => ?_
  · obtain ⟨F, h, s, L, rfl, ⟨ρ, rfl, R⟩, iv, hz, kE, k⟩ := h
    rfl
  · have hu := hu_of hr
    refine ⟨_, (pss_cons (ps_if (pt_cmpR op_ne (pe_fld (pe_fld (pv 0) rfl) rfl) pe_str (nomark _)) (pss_one (ps_raise rfl (takes_of rfl rfl rfl rfl) (pmk_own PySem.F.excBase_ValueError T.xNow.e T.xNow.g T.xNow.k (raises_own T.xNow.b T.xNow.t) rfl))) pss_nil) (PSs.nox (pss_cons (ps_set (i := 1) sc_Hall_slide.nd rfl (Or.inr rfl) pe_dnewK) (pss_cons (ps_set (i := 2) sc_Hall_slide.nd rfl (Or.inl rfl) pe_int) (pss_cons (ps_for PassesOwn.never rfl (pi_list (pf_meth0 m_Memory_places hr (by decide) pass0 (pe_fld (pv 0) rfl))) (pg_name (i := 3) sc_Hall_slide.nd rfl (Or.inl rfl)) (pss_cons (ps_dput hu (pv 1) (pv 3) (pv 2) rfl) (pss_one (ps_set (i := 2) sc_Hall_slide.nd rfl (Or.inl rfl) (pe_op op_add (pv 2) (pf_meth m_Memory_words hr (by decide) pass0 (pe_fld (pv 0) rfl) (pa_cons (pv 3) pa_nil))))))) (pss_cons (ps_set (i := 4) sc_Hall_slide.nd rfl (Or.inl rfl) pe_dnewK) (pss_cons (ps_lock (ps_for PassesOwn.never rfl (pi_keys (pv 1)) (pg_name (i := 3) sc_Hall_slide.nd rfl (Or.inl rfl)) (pss_cons (ps_set (i := 5) sc_Hall_slide.nd rfl (Or.inl rfl) (pe_dget hu (pe_fld (pe_fld (pv 0) rfl) rfl) (pv 3) (fun _ _ => rfl))) (pss_cons (ps_fld (pv 5) (pe_lc (own := [("value", 6)]) (g := gName 6) (tt := tYes) rfl sc_Hall_slide.nd (pi_list (pe_fld (pv 5) rfl)) (blkOk_by (N := N_Hall_slide) (sc := defScope s_Hall_slide) (by decide +kernel)) (fun _ _ _ _ _ => pg_name (i := 6) sc_Hall_slide.nd rfl (Or.inl rfl)) (fun _ _ _ _ _ => by exact pts_nil) (fun _ _ _ _ _ => by exact (show PE _ _ (tMeth (He.ga K "Hall") _ _ _ _ _ _) from (pf_meth m_Hall_moved hr (by decide) pass0 (pv 0) (pa_cons (pv 6) (pa_cons (pv 1) pa_nil)))))) rfl) (pss_one (ps_dput hu (pv 4) (pe_dget hu (pv 1) (pv 3) (fun _ _ => rfl)) (pv 5) rfl)))))) (pss_cons (ps_fld (pe_fld (pv 0) rfl) (pv 4) rfl) (pss_one (ps_fld (pv 0) (pe_lc (own := [("value", 6)]) (g := gName 6) (tt := tYes) rfl sc_Hall_slide.nd (pi_list (pe_fld (pv 0) rfl)) (blkOk_by (N := N_Hall_slide) (sc := defScope s_Hall_slide) (by decide +kernel)) (fun _ _ _ _ _ => pg_name (i := 6) sc_Hall_slide.nd rfl (Or.inl rfl)) (fun _ _ _ _ _ => by exact pts_nil) (fun _ _ _ _ _ => by exact (show PE _ _ (tMeth (He.ga K "Hall") _ _ _ _ _ _) from (pf_meth m_Hall_moved hr (by decide) pass0 (pv 0) (pa_cons (pv 6) (pa_cons (pv 1) pa_nil)))))) rfl)))))))))), ?_⟩
    obtain ⟨F, h, s, L, rfl, ⟨ρ, rfl, R⟩, iv, hz, kE, k⟩ := h
    have hl := iv.core.lay
    obtain ⟨dh, hh⟩ := R.hall
    obtain ⟨dm, hm⟩ := R.mem
    obtain ⟨dsw, hsw⟩ := R.sw
    obtain ⟨kvs0, hd0, hp0⟩ := R.dc
    obtain ⟨hvs, hhl, hhv⟩ := R.hl
    refine ⟨_, rfl, f_hall_sweeper T R (f_sw_standing T R ⟨rfl, _, rfl, ?_⟩)⟩
    by_cases c : s.ph = .idle
    case neg => exact iteNN (ph_ne (b := .idle) c) (kE c)
    refine iteNS (by rw [c]; rfl) ?_
    have w := iv.idle c
    have kF := k c
    have hlen : s.mem.length ≤ 50000 := by
      have := lay_len hl
      omega
    refine fun P hP => ?_
    have R1 := R.same (same_new (o := .dK []) hP)
    refine ⟨_, rfl, f_hall_memory T R1 (m_mem R1 ⟨F, ρ, s, rfl, R1, hl, fun p hn => ?_⟩)⟩
    have nPp : P ≠ p := by
      intro e
      rw [← e, upd_same] at hn
      cases hn
    have e1 : Same H (upd (upd H P (.dK [])) p (.lst (s.mem.map fun x => V.int x.1))) := (same_new hP).trans (same_new hn)
    refine ⟨p, rfl, ⟨_, .inl (.inl upd_same)⟩, for_list (K := K) (a := p) (xs := s.mem.map fun x => V.int x.1)
      (fun i σ H1 => ∃ (at' : Int) (v : Option V) (done : List (Int × Int)), σ = [some (.ref (ρ .hall)), some (.ref P), some (.int at'), v, none, none, none] ∧ Same H H1 ∧ H1 p = some (.lst (s.mem.map fun x => V.int x.1)) ∧
        H1 P = some (.dK (done.map plV)) ∧ newPl 0 s.mem = done ++ newPl at' (s.mem.drop i))
      ⟨0, none, [], rfl, e1, upd_same, by rw [upd_ne nPp, upd_same]; rfl, rfl⟩ (fun i σ H1 _ ⟨_, _, _, _, _, e, _⟩ => .inl (.inl e)) ?_ ?_⟩
    · rintro i y σ H1 hi ⟨at', v, done, rfl, e2, hp1, hP1, hn1⟩
      obtain ⟨x, hx, rfl, hd⟩ := map_get hi
      rw [hd] at hn1
      have hn2 : newPl 0 s.mem = done ++ (x.1, at') :: newPl (at' + wd x.2) (s.mem.drop (i + 1)) := hn1
      have gx := mem_get hl (List.mem_of_getElem? hx)
      have nk : valV (done.map plV) (Sum.inl x.1) = none := by
        refine valV_no fun hmem => ?_
        have nd := lay_nodup hl
        rw [← newPl_keys s.mem 0, hn2, List.map_append, List.map_cons] at nd
        obtain ⟨z, hz1, ez⟩ := List.mem_map.mp hmem
        obtain ⟨d, hd1, ed⟩ := List.mem_map.mp hz1
        have e3 : d.1 = x.1 := by
          rw [← ed] at ez
          exact Sum.inl.inj ez
        exact (List.nodup_append.mp nd).2.2 d.1 (List.mem_map.mpr ⟨d, hd1, rfl⟩) x.1 List.mem_cons_self e3
      have dl : done.length ≤ 50000 := by
        have e3 := congrArg List.length (newPl_keys s.mem 0)
        rw [hn2] at e3
        simp at e3
        omega
      refine ⟨_, rfl, _, rfl, _, rfl, _, _, rfl, DPut.k (k := (Sum.inl x.1 : Key)) hP1 (small_lt (by rw [List.length_map]; omega)), ?_⟩
      rw [putK_new _ nk]
      have e4 : Same H (upd H1 P (.dK (done.map plV ++ [((Sum.inl x.1 : Key), V.int at')]))) := fun b o hb => by
        rw [upd_ne (ne_of_none hb hP)]
        exact e2 b o hb
      have R2 := R.same e4
      refine ⟨_, rfl, _, rfl, f_hall_memory T R2 (m_mem R2 ⟨_, rfl, F, ρ, s, x.1, x.2, rfl, R2, hl, gx, _, _, rfl, rfl, ?_⟩)⟩
      refine ⟨_, _, done ++ [(x.1, at')], rfl, e4, ?_, ?_, ?_⟩
      · rw [upd_ne nPp.symm]
        exact hp1
      · rw [upd_same, List.map_append]
        rfl
      · rw [hn2]
        simp
    · rintro σ H1 ⟨at', v, done, rfl, e2, hp1, hP1, hn1⟩
      rw [drop_all] at hn1
      have hpl : newPl 0 s.mem = done := by
        rw [hn1]
        exact List.append_nil _
      subst hpl
      refine fun D2 hD2 => ?_
      have nD2P : D2 ≠ P := (ne_of_none hP1 hD2).symm
      have hD20 : H D2 = none := e2.free hD2
      have nth : ∀ {g : Tag}, VT s.mem g → (∀ q, g ≠ .th q) → ∀ q t, get s.mem q = some t → ρ g ≠ ρ (.th q) := fun {g} v n q t g' => R.ne v (g' := .th q) ⟨t, g'⟩ (n q)
      refine ⟨P, .dK ((newPl 0 s.mem).map plV), by rw [upd_ne nD2P.symm]; exact hP1, trivial, fun od => ?_⟩
      have e5 : ∀ b o, H b = some o → (upd (upd H1 D2 (.dK [])) P (.frz od (.dK ((newPl 0 s.mem).map plV)))) b = some o := fun b o hb => by
        rw [upd_ne (ne_of_none hb hP), upd_ne (ne_of_none hb hD20)]
        exact e2 b o hb
      refine ⟨_, rfl, P, od, rfl, .inl ⟨_, upd_same, for_keys (d := P) (o := od) (kvs := (newPl 0 s.mem).map plV)
        (fun i σ H2 => ∃ (v vt : Option V) (nl : Int → Addr) (F2 : Addr → Prop), σ = [some (.ref (ρ .hall)), some (.ref P), some (.int at'), v, some (.ref D2), vt, none] ∧
          H2 P = some (.frz od (.dK ((newPl 0 s.mem).map plV))) ∧ (∀ b o, H b = some o → (∀ q t, get s.mem q = some t → b ≠ ρ (.th q)) → H2 b = some o) ∧
          (∀ x ∈ s.mem.drop i, H2 (ρ (.th x.1)) = H (ρ (.th x.1))) ∧ H2 D2 = some (.dK ((s.mem.take i).map fun x => (Sum.inl (look (rho s) x.1), V.ref (ρ (.th x.1))))) ∧
          (∀ x ∈ s.mem.take i, (∃ dx, H2 (ρ (.th x.1)) = some (.ins (cThing K) dx (thF (nl x.1) x.2.col))) ∧ (∃ vs, H2 (nl x.1) = some (.lst vs) ∧ VlsAt K F2 H2 vs (x.2.fs.map (mv (rho s)))) ∧ H (nl x.1) = none ∧ F2 (nl x.1)) ∧
          (∀ x ∈ s.mem.take i, ∀ y ∈ s.mem.take i, nl x.1 = nl y.1 → x.1 = y.1) ∧ (∀ a, F a → F2 a) ∧ (∀ a, F2 a → F a ∨ H a = none) ∧ (∀ a, F2 a → ∃ o, H2 a = some o) ∧ ∀ b o, H b = some o → ∃ o', H2 b = some o')
        ⟨v, none, fun _ => 0, F, rfl, upd_same, fun b o hb _ => e5 b o hb, fun x hx => ?_, ?_, fun x hx => (by simp at hx), fun x hx => (by simp at hx), fun _ z => z, fun _ z => .inl z, fun a ha => ?_, fun b o hb => ⟨o, e5 b o hb⟩⟩
        (fun i σ H2 _ ⟨_, _, _, _, _, e, _⟩ => e) ?_ ?_⟩⟩
      · obtain ⟨o, ho⟩ := R.objAt (g := .th x.1) ⟨x.2, mem_get hl (by simpa using hx)⟩
        rw [ho]
        exact e5 _ _ ho
      · rw [upd_ne nD2P, upd_same]
        rfl
      · obtain ⟨o, ho⟩ := R.al a ha
        exact ⟨o, e5 _ _ ho⟩
      · rintro i kk vv σ H2 hk ⟨v2, vt, nl, F2, rfl, hP2, old, rest, hDD, done, inj, f1, f2, al2, gg⟩
        obtain ⟨x, hx, ek, hxd⟩ : ∃ x, s.mem[i]? = some x ∧ kk = Sum.inl x.1 ∧ s.mem.drop i = x :: s.mem.drop (i + 1) := by
          obtain ⟨y, hy, ey⟩ := Option.map_eq_some_iff.mp (show ((newPl 0 s.mem)[i]?).map plV = some (kk, vv) by rw [← List.getElem?_map]; exact hk)
          have h1 : ((newPl 0 s.mem).map (·.1))[i]? = some y.1 := by rw [List.getElem?_map, hy]; rfl
          rw [newPl_keys, List.getElem?_map] at h1
          obtain ⟨x, hx, ex⟩ := Option.map_eq_some_iff.mp h1
          obtain ⟨hi, e3⟩ := List.getElem?_eq_some_iff.mp hx
          exact ⟨x, hx, by rw [ex]; exact (Prod.mk.inj ey).1.symm, by rw [List.drop_eq_getElem_cons hi, e3]⟩
        subst ek
        have gx := mem_get hl (List.mem_of_getElem? hx)
        have hix : i < s.mem.length := (List.getElem?_eq_some_iff.mp hx).1
        have hallO : H2 (ρ .hall) = some (.ins (cHall K) dh (hallF (ρ .mem) (ρ .hl) (ρ .sw))) := old _ _ hh (nth (g := .hall) trivial (by simp))
        have memO : H2 (ρ .mem) = some (.ins (cMem K) dm (memF s.size (ρ .dc))) := old _ _ hm (nth (g := .mem) trivial (by simp))
        have dcO : H2 (ρ .dc) = some (.dK kvs0) := old _ _ hd0 (nth (g := .dc) trivial (by simp))
        obtain ⟨dxt, hth0⟩ := R.th x.1 x.2 gx
        have hth : H2 (ρ (.th x.1)) = some (.ins (cThing K) dxt (thF (ρ (.fl x.1)) x.2.col)) := (rest x (by rw [hxd]; exact List.mem_cons_self)).trans hth0
        obtain ⟨vs, hv0, hvv0⟩ := R.fl x.1 x.2 gx
        have hv : H2 (ρ (.fl x.1)) = some (.lst vs) := old _ _ hv0 (nth (g := .fl x.1) ⟨x.2, gx⟩ (by simp))
        have heldO : ∀ a dx fs, H a = some (.ins (cHeld K) dx fs) → H2 a = some (.ins (cHeld K) dx fs) := fun a dx fs q => old _ _ q fun q' t g' z => R.notHeld T (g := .th q') ⟨t, g'⟩ (by rw [← z]; exact q)
        have hvv : VlsAt K F2 H2 vs x.2.fs := hvv0.same f1 heldO
        refine ⟨_, rfl, rd_fld hallO T.cHall T.nMemH hallF_memory (rd_fld memO T.cMem T.nThings memF_things ⟨_, rfl, _, _, rfl, dict_get hl dcO hp0 gx, ?_⟩)⟩
        refine ⟨_, rfl, rd_fld hth T.cThing T.nFields thF_fields ⟨_, rfl, ⟨vs, .inl (.inl hv)⟩, fun LD hLD => ?_⟩⟩
        have hkk : ∀ q, .held q ∈ x.2.fs → valV ((newPl 0 s.mem).map plV) (Sum.inl q) = some (.int (look (rho s) q)) := fun q hq => by
          obtain ⟨u, gu⟩ := iv.core.inL q (iv.core.fL x.1 q x.2 (w x.1 x.2 gx).1 gx hq)
          exact valV_place gu 0
        have f6 : x.2.fs.length ≤ 1000 := by
          have := (lay_get hl gx).2.2
          omega
        refine lc_list (K := K) (a := ρ (.fl x.1)) (xs := vs) (fun j H3 => MvP K F2 H2 LD (rho s) x.2.fs j H3) (mv_start hLD al2) (fun j H3 _ m => .inl (.inl (m.choose_spec.choose_spec.1 _ _ hv))) ?_ ?_
        · intro j u H3 hu m
          exact ⟨rfl, _, rfl, _, _, _, rfl, m.choose_spec.choose_spec.1 _ _ hallO, hallF_no (by decide +kernel) (by decide +kernel) (by decide +kernel), _, rfl, _, rfl, mv_turn hLD al2 (.inr hP2) hkk hvv f6 hu m E0⟩
        · intro H3 m
          obtain ⟨F3, ws, e3, hLD3, hws, g1, g2, al3⟩ := m
          rw [List.take_of_length_le (by rw [hvv.1]; exact Nat.le_refl _)] at hws
          have nthD : ρ (.th x.1) ≠ D2 := ne_of_none hth0 hD20
          have nLDth : ∀ q t, get s.mem q = some t → LD ≠ ρ (.th q) := fun q t g' z => by
            obtain ⟨o, ho⟩ := R.objAt (g := .th q) ⟨t, g'⟩
            obtain ⟨o', ho'⟩ := gg _ _ ho
            rw [← z, hLD] at ho'
            cases ho'
          have hLD0 : H LD = none := by
            cases q : H LD with
            | none => rfl
            | some o =>
              obtain ⟨o', ho'⟩ := gg _ _ q
              rw [hLD] at ho'
              cases ho'
          have nLDD : LD ≠ D2 := (ne_of_none hDD hLD).symm
          have nPth : P ≠ ρ (.th x.1) := (ne_of_none hth0 hP).symm
          refine ⟨_, rfl, _, cThing K, dxt, _, rfl, e3 _ _ hth, T.cThing, T.nFields, by show 2 < 1000; decide, ?_⟩
          rw [thF_putF]
          have hP3 : (upd H3 (ρ (.th x.1)) (.ins (cThing K) dxt (thF LD x.2.col))) P = some (.frz od (.dK ((newPl 0 s.mem).map plV))) := by
            rw [upd_ne nPth]
            exact e3 _ _ hP2
          have hD3 : (upd H3 (ρ (.th x.1)) (.ins (cThing K) dxt (thF LD x.2.col))) D2 = some (.dK ((s.mem.take i).map fun x => (Sum.inl (look (rho s) x.1), V.ref (ρ (.th x.1))))) := by
            rw [upd_ne nthD.symm]
            exact e3 _ _ hDD
          have hg : DGet (upd H3 (ρ (.th x.1)) (.ins (cThing K) dxt (thF LD x.2.col))) P (.int x.1) (some (.int (look (rho s) x.1))) := by
            rw [← valV_place gx 0]
            exact .inl ⟨_, Sum.inl x.1, .inr ⟨od, hP3⟩, rfl, rfl⟩
          have tl : (s.mem.take i).length ≤ 50000 := by
            rw [List.length_take]
            omega
          refine ⟨_, rfl, _, rfl, _, rfl, _, rfl, _, _, rfl, hg, _, _, rfl, DPut.k (k := (Sum.inl (look (rho s) x.1) : Key)) hD3 (small_lt (by rw [List.length_map]; omega)), ?_⟩
          have ntake : ∀ y ∈ s.mem.take i, y.1 ≠ x.1 := fun y hy z => by
            have nd := lay_nodup hl
            rw [← List.take_append_drop i s.mem, hxd, List.map_append, List.map_cons] at nd
            exact (List.nodup_append.mp nd).2.2 y.1 (List.mem_map.mpr ⟨y, hy, rfl⟩) x.1 List.mem_cons_self z
          have ndrop : ∀ y ∈ s.mem.drop (i + 1), y.1 ≠ x.1 := fun y hy z => by
            have nd := lay_nodup hl
            rw [← List.take_append_drop i s.mem, hxd, List.map_append, List.map_cons] at nd
            have nd2 := (List.nodup_cons.mp (List.nodup_append.mp nd).2.1).1
            exact nd2 (by rw [← z]; exact List.mem_map.mpr ⟨y, hy, rfl⟩)
          have gy : ∀ y ∈ s.mem.take i, get s.mem y.1 = some y.2 := fun y hy => mem_get hl (List.mem_of_mem_take hy)
          have gyd : ∀ y ∈ s.mem.drop (i + 1), get s.mem y.1 = some y.2 := fun y hy => mem_get hl (List.mem_of_mem_drop hy)
          have nk : valV ((s.mem.take i).map fun x => ((Sum.inl (look (rho s) x.1) : Key), V.ref (ρ (.th x.1)))) (Sum.inl (look (rho s) x.1)) = none := by
            refine valV_no fun hmem => ?_
            obtain ⟨z, hz1, ez⟩ := List.mem_map.mp hmem
            obtain ⟨y, hy, ey⟩ := List.mem_map.mp hz1
            rw [← ey] at ez
            exact ntake y hy (look_inj hl (gy y hy) gx (Sum.inl.inj ez))
          rw [putK_new _ nk]
          have etk : s.mem.take (i + 1) = s.mem.take i ++ [x] := by
            rw [List.take_add_one, hx]
            rfl
          have up : ∀ b o, H3 b = some o → b ≠ ρ (.th x.1) → b ≠ D2 → (upd (upd H3 (ρ (.th x.1)) (.ins (cThing K) dxt (thF LD x.2.col))) D2 (.dK (((s.mem.take i).map fun x => ((Sum.inl (look (rho s) x.1) : Key), V.ref (ρ (.th x.1)))) ++ [((Sum.inl (look (rho s) x.1) : Key), V.ref (ρ (.th x.1)))]))) b = some o := fun b o hb n1 n2 => by
            rw [upd_ne n2, upd_ne n1]
            exact hb
          have heldU : ∀ a dx fs, H3 a = some (.ins (cHeld K) dx fs) → (upd (upd H3 (ρ (.th x.1)) (.ins (cThing K) dxt (thF LD x.2.col))) D2 (.dK (((s.mem.take i).map fun x => ((Sum.inl (look (rho s) x.1) : Key), V.ref (ρ (.th x.1)))) ++ [((Sum.inl (look (rho s) x.1) : Key), V.ref (ρ (.th x.1)))]))) a = some (.ins (cHeld K) dx fs) := fun a dx fs q =>
            up a _ q (fun z => by
              rw [z, e3 _ _ hth] at q
              exact T.neHT (HO.ins.inj (Option.some.inj q)).1.symm) (ne_of q (e3 _ _ hDD) (by intro z; cases z))
          have eF : ∀ a, F3 a → H2 a = none → H a = none := fun a _ q => by
            cases q2 : H a with
            | none => rfl
            | some o =>
              obtain ⟨o', ho'⟩ := gg _ _ q2
              rw [q] at ho'
              cases ho'
          refine ⟨_, _, fun q => if q = x.1 then LD else nl q, fun a => F3 a ∨ a = LD, rfl, ?_, fun b o hb nb => ?_, fun y hy => ?_, ?_, fun y hy => ?_, fun y hy z hz1 e => ?_, fun a ha => .inl (g1 a (f1 a ha)), fun a ha => ?_, fun a ha => ?_, fun b o hb => ?_⟩
          · rw [upd_ne nD2P.symm]
            exact hP3
          · exact up b o (e3 _ _ (old b o hb nb)) (nb x.1 x.2 gx) (ne_of_none hb hD20)
          · have gyy := gyd y hy
            obtain ⟨o, ho⟩ := R.objAt (g := .th y.1) ⟨y.2, gyy⟩
            rw [ho]
            refine up _ o (e3 _ _ ?_) (R.ne (g := .th y.1) (g' := .th x.1) ⟨y.2, gyy⟩ ⟨x.2, gx⟩ (by simp [ndrop y hy])) (ne_of_none ho hD20)
            rw [rest y (by rw [hxd]; exact List.mem_cons_of_mem _ hy)]
            exact ho
          · rw [upd_same, etk, List.map_append]
            rfl
          · rw [etk] at hy
            rcases List.mem_append.mp hy with hy | hy
            · obtain ⟨⟨dx, h1⟩, ⟨us, h2, h3⟩, h4, h5⟩ := done y hy
              have gyy := gy y hy
              dsimp only
              rw [if_neg (ntake y hy)]
              refine ⟨⟨dx, up _ _ (e3 _ _ h1) (R.ne (g := .th y.1) (g' := .th x.1) ⟨y.2, gyy⟩ ⟨x.2, gx⟩ (by simp [ntake y hy])) (ne_of h1 hDD (by intro z; cases z))⟩, ⟨us, up _ _ (e3 _ _ h2) (ne_of_none hth0 h4).symm (ne_of h2 hDD (by intro z; cases z)), ?_⟩, h4, .inl (g1 _ h5)⟩
              exact h3.same (fun a ha => .inl (g1 a ha)) fun a dx fs q => heldU a dx fs (e3 _ _ q)
            · obtain rfl := List.mem_singleton.mp hy
              dsimp only
              rw [if_pos rfl]
              refine ⟨⟨dxt, by rw [upd_ne nthD, upd_same]⟩, ⟨ws, up _ _ hLD3 (nLDth _ _ gx) nLDD, hws.same (fun a ha => .inl ha) heldU⟩, hLD0, .inr rfl⟩
          · rw [etk] at hy hz1
            dsimp only at e
            rcases List.mem_append.mp hy with hy | hy <;> rcases List.mem_append.mp hz1 with hz1 | hz1
            · rw [if_neg (ntake y hy), if_neg (ntake z hz1)] at e
              exact inj y hy z hz1 e
            · rw [if_neg (ntake y hy), if_pos (by rw [List.mem_singleton.mp hz1])] at e
              obtain ⟨_, ⟨us, h2, _⟩, _⟩ := done y hy
              rw [e, hLD] at h2
              cases h2
            · rw [if_neg (ntake z hz1), if_pos (by rw [List.mem_singleton.mp hy])] at e
              obtain ⟨_, ⟨us, h2, _⟩, _⟩ := done z hz1
              rw [← e, hLD] at h2
              cases h2
            · rw [List.mem_singleton.mp hy, List.mem_singleton.mp hz1]
          · rcases ha with ha | rfl
            · rcases g2 a ha with q | q
              · exact f2 a q
              · exact .inr (eF a ha q.1)
            · exact .inr hLD0
          · refine upd_al (F := fun a => F3 a ∨ a = LD) (upd_al (F := fun a => F3 a ∨ a = LD) fun b hb => ?_) a ha
            rcases hb with hb | rfl
            · exact al3 b hb
            · exact ⟨_, hLD3⟩
          · obtain ⟨o', ho'⟩ := gg b o hb
            exact upd_al (F := fun a => ∃ o, H3 a = some o) (upd_al (F := fun a => ∃ o, H3 a = some o) fun _ z => z) b ⟨o', e3 _ _ ho'⟩
      · rintro σ H2 ⟨v2, vt, nl, F2, rfl, hP2, old, rest, hDD, done, inj, f1, f2, al2, gg⟩
        have lenk : ((newPl 0 s.mem).map plV).length = s.mem.length := by
          have e3 := congrArg List.length (newPl_keys s.mem 0)
          simpa using e3
        rw [lenk, List.take_length] at hDD done inj
        refine ⟨hP2, ?_⟩
        have nP : ∀ b o, H b = some o → b ≠ P := fun b o hb => ne_of_none hb hP
        have hallO : (upd H2 P (.dK ((newPl 0 s.mem).map plV))) (ρ .hall) = some (.ins (cHall K) dh (hallF (ρ .mem) (ρ .hl) (ρ .sw))) := by
          rw [upd_ne (nP _ _ hh)]
          exact old _ _ hh (nth (g := .hall) trivial (by simp))
        have memO : (upd H2 P (.dK ((newPl 0 s.mem).map plV))) (ρ .mem) = some (.ins (cMem K) dm (memF s.size (ρ .dc))) := by
          rw [upd_ne (nP _ _ hm)]
          exact old _ _ hm (nth (g := .mem) trivial (by simp))
        refine ⟨_, rfl, _, rfl, rd_fld hallO T.cHall T.nMemH hallF_memory ⟨_, cMem K, dm, _, rfl, memO, T.cMem, T.nThings, by show 2 < 1000; decide, ?_⟩⟩
        rw [memF_put]
        have nhm : ρ .hall ≠ ρ .mem := R.ne (g := .hall) (g' := .mem) trivial trivial (by simp)
        have hall6 : (upd (upd H2 P (.dK ((newPl 0 s.mem).map plV))) (ρ .mem) (.ins (cMem K) dm (memF s.size D2))) (ρ .hall) = some (.ins (cHall K) dh (hallF (ρ .mem) (ρ .hl) (ρ .sw))) := by
          rw [upd_ne nhm]
          exact hallO
        have hl6 : (upd (upd H2 P (.dK ((newPl 0 s.mem).map plV))) (ρ .mem) (.ins (cMem K) dm (memF s.size D2))) (ρ .hl) = some (.lst hvs) := by
          rw [upd_ne (R.ne (g := .hl) (g' := .mem) trivial trivial (by simp)), upd_ne (nP _ _ hhl)]
          exact old _ _ hhl (nth (g := .hl) trivial (by simp))
        have P6 : (upd (upd H2 P (.dK ((newPl 0 s.mem).map plV))) (ρ .mem) (.ins (cMem K) dm (memF s.size D2))) P = some (.dK ((newPl 0 s.mem).map plV)) := by
          rw [upd_ne (nP _ _ hm).symm, upd_same]
        have g6 : ∀ b, b ≠ P → b ≠ ρ .mem → (upd (upd H2 P (.dK ((newPl 0 s.mem).map plV))) (ρ .mem) (.ins (cMem K) dm (memF s.size D2))) b = H2 b := fun b n1 n2 => by
          rw [upd_ne n2, upd_ne n1]
        have held6 : ∀ a dx fs, H2 a = some (.ins (cHeld K) dx fs) → (upd (upd H2 P (.dK ((newPl 0 s.mem).map plV))) (ρ .mem) (.ins (cMem K) dm (memF s.size D2))) a = some (.ins (cHeld K) dx fs) := fun a dx fs q => by
          rw [g6 a (ne_of q hP2 (by intro z; cases z)) (fun z => by
            have h1 := old _ _ hm (nth (g := .mem) trivial (by simp))
            rw [z, h1] at q
            exact T.neHM (HO.ins.inj (Option.some.inj q)).1.symm)]
          exact q
        have heldO : ∀ a dx fs, H a = some (.ins (cHeld K) dx fs) → H2 a = some (.ins (cHeld K) dx fs) := fun a dx fs q => old _ _ q fun q' t g' z => R.notHeld T (g := .th q') ⟨t, g'⟩ (by rw [← z]; exact q)
        have al6 : ∀ a, F2 a → ∃ o, (upd (upd H2 P (.dK ((newPl 0 s.mem).map plV))) (ρ .mem) (.ins (cMem K) dm (memF s.size D2))) a = some o := upd_al (upd_al al2)
        have hvv6 : VlsAt K F2 (upd (upd H2 P (.dK ((newPl 0 s.mem).map plV))) (ρ .mem) (.ins (cMem K) dm (memF s.size D2))) hvs s.hands := hhv.same f1 fun a dx fs q => held6 a dx fs (heldO a dx fs q)
        refine ⟨_, rfl, rd_fld hall6 T.cHall T.nHands hallF_hands ⟨_, rfl, ⟨hvs, .inl (.inl hl6)⟩, fun LH hLH => ?_⟩⟩
        have hkk : ∀ q, .held q ∈ s.hands → valV ((newPl 0 s.mem).map plV) (Sum.inl q) = some (.int (look (rho s) q)) := fun q hq => by
          obtain ⟨u, gu⟩ := iv.core.inL q (iv.core.hL q hq)
          exact valV_place gu 0
        have h6 : s.hands.length ≤ 1000 := by
          rw [iv.core.h8]
          decide
        refine lc_list (K := K) (a := ρ .hl) (xs := hvs) (fun j H3 => MvP K F2 (upd (upd H2 P (.dK ((newPl 0 s.mem).map plV))) (ρ .mem) (.ins (cMem K) dm (memF s.size D2))) LH (rho s) s.hands j H3) (mv_start hLH al6) (fun j H3 _ m => .inl (.inl (m.choose_spec.choose_spec.1 _ _ hl6))) ?_ ?_
        · intro j u H3 hu m
          exact ⟨rfl, _, rfl, _, _, _, rfl, m.choose_spec.choose_spec.1 _ _ hall6, hallF_no (by decide +kernel) (by decide +kernel) (by decide +kernel), _, rfl, _, rfl, mv_turn (od := od) hLH al6 (.inl P6) hkk hvv6 h6 hu m E0⟩
        · intro H3 m
          obtain ⟨F3, ws, e3, hLH3, hws, g1, g2, al3⟩ := m
          rw [List.take_of_length_le (by rw [hvv6.1]; exact Nat.le_refl _)] at hws
          refine ⟨_, rfl, _, cHall K, dh, _, rfl, e3 _ _ hall6, T.cHall, T.nHands, by show 3 < 1000; decide, ?_⟩
          rw [hallF_put]
          have back : ∀ b, (upd (upd H2 P (.dK ((newPl 0 s.mem).map plV))) (ρ .mem) (.ins (cMem K) dm (memF s.size D2))) b = none → H b = none := fun b q => by
            cases q2 : H b with
            | none => rfl
            | some o =>
              obtain ⟨o', ho'⟩ := gg _ _ q2
              obtain ⟨o2, ho2⟩ := upd_al (F := fun a => ∃ o, H2 a = some o) (a := ρ .mem) (o := .ins (cMem K) dm (memF s.size D2)) (upd_al (F := fun a => ∃ o, H2 a = some o) (a := P) (o := .dK ((newPl 0 s.mem).map plV)) fun _ z => z) b ⟨o', ho'⟩
              rw [q] at ho2
              cases ho2
          have hLH0 := back _ hLH
          have nLHall : LH ≠ ρ .hall := (ne_of_none hall6 hLH).symm
          have nDall : D2 ≠ ρ .hall := (ne_of_none hh hD20).symm
          have nDmem : D2 ≠ ρ .mem := (ne_of_none hm hD20).symm
          have hD6 := (g6 D2 nD2P nDmem).trans hDD
          have up8 : ∀ b o, H3 b = some o → b ≠ ρ .hall → (upd H3 (ρ .hall) (.ins (cHall K) dh (hallF (ρ .mem) LH (ρ .sw)))) b = some o := fun b o hb n => by
            rw [upd_ne n]
            exact hb
          have held8 : ∀ a dx fs, H3 a = some (.ins (cHeld K) dx fs) → (upd H3 (ρ .hall) (.ins (cHall K) dh (hallF (ρ .mem) LH (ρ .sw)))) a = some (.ins (cHeld K) dx fs) := fun a dx fs q => up8 _ _ q fun z => by
            rw [z, e3 _ _ hall6] at q
            exact T.neHH (HO.ins.inj (Option.some.inj q)).1.symm
          have F3H : ∀ a, F3 a → F a ∨ H a = none := fun a ha => by
            rcases g2 a ha with q | q
            · exact f2 a q
            · exact .inr (back a q.1)
          refine kF (fun a => F3 a ∨ a = D2 ∨ a = LH) _ (fun b o hb nb => ⟨?_, ?_⟩) ⟨rhoSlide ρ s D2 LH nl, rfl, R.slide T hl (D := D2) (L := LH) (dh := dh) (dm := dm) (nl := nl) (ws := ws)
            (fun a ha => .inl (g1 a (f1 a ha))) (fun a ha => ?_) hD20 hLH0 (fun q t g => ?_) (.inr (.inl rfl)) (.inr (.inr rfl)) (fun q q' t u g g' e => ?_) upd_same ?_ ?_ ?_ ?_ ?_ (List.Perm.refl _) (fun q t g => ?_)⟩
          · have n1 : ∀ {g : Tag}, VT s.mem g → b ≠ ρ g := fun {g} v z => nb (by rw [z]; exact R.own g v)
            refine up8 _ _ (e3 _ _ ?_) (n1 (g := .hall) trivial)
            rw [g6 b (nP b o hb) (n1 (g := .mem) trivial)]
            exact old b o hb fun q t g => n1 (g := .th q) ⟨t, g⟩
          · rintro (z | z | z)
            · rcases F3H b z with q | q
              · exact nb q
              · rw [hb] at q; cases q
            · rw [z, hD20] at hb; cases hb
            · rw [z, hLH0] at hb; cases hb
          · refine upd_al (F := fun a => F3 a ∨ a = D2 ∨ a = LH) (fun b hb => ?_) a ha
            rcases hb with hb | rfl | rfl
            · exact al3 b hb
            · exact ⟨_, e3 _ _ hD6⟩
            · exact ⟨_, hLH3⟩
          · obtain ⟨_, ⟨us, h2, _⟩, h4, h5⟩ := done (q, t) (get_mem g)
            refine ⟨h4, .inl (g1 _ h5), ?_⟩
            intro z
            have n1 : nl q ≠ P := ne_of h2 hP2 (by intro z; cases z)
            have n2 : nl q ≠ ρ .mem := (ne_of_none hm h4).symm
            rw [← z, g6 _ n1 n2, h2] at hLH
            cases hLH
          · exact inj (q, t) (get_mem g) (q', u) (get_mem g') e
          · refine up8 _ _ (e3 _ _ ?_) nhm.symm
            exact upd_same
          · rw [hsw]
            refine up8 _ _ (e3 _ _ ?_) (R.ne (g := .sw) (g' := .hall) trivial trivial (by simp))
            rw [g6 _ (nP _ _ hsw) (R.ne (g := .sw) (g' := .mem) trivial trivial (by simp))]
            exact old _ _ hsw (nth (g := .sw) trivial (by simp))
          · exact up8 _ _ hLH3 nLHall
          · exact hws.same (fun a ha => .inl ha) held8
          · exact up8 _ _ (e3 _ _ hD6) nDall
          · obtain ⟨⟨dx, h1⟩, ⟨us, h2, h3⟩, h4, h5⟩ := done (q, t) (get_mem g)
            have h1' : H2 (ρ (.th q)) = some (.ins (cThing K) dx (thF (nl q) t.col)) := h1
            have h2' : H2 (nl q) = some (.lst us) := h2
            obtain ⟨o, ho⟩ := R.objAt (g := .th q) ⟨t, g⟩
            have h4' : H (nl q) = none := h4
            refine ⟨⟨dx, up8 _ _ (e3 _ _ ?_) (R.ne (g := .th q) (g' := .hall) ⟨t, g⟩ trivial (by simp))⟩, us, up8 _ _ (e3 _ _ ?_) (ne_of_none hh h4').symm, ?_⟩
            · rw [g6 _ (nP _ _ ho) (R.ne (g := .th q) (g' := .mem) ⟨t, g⟩ trivial (by simp))]
              exact h1'
            · rw [g6 _ (ne_of h2' hP2 (by intro z; cases z)) (ne_of_none hm h4').symm]
              exact h2'
            · exact h3.same (fun a ha => .inl (g1 a ha)) fun a dx fs q => held8 _ _ _ (e3 _ _ (held6 _ _ _ q))
end G

namespace G
open L2 PySem PyProof.Rows PySem.Spec
abbrev N_l_cell : List Str := ["_law_script", "_law_k"]
theorem sc_l_cell : FnScope N_l_cell ["_law_script", "_law_k"] (defScope s_l_cell) := ⟨rfl, rfl, rfl, by decide +kernel, rfl, by decide +kernel, by decide +kernel⟩
set_option maxRecDepth 100000 in
theorem ok_l_cell {P : Program} {w : World} {K : PySem.W.Frag} {mg : Str → Option Value} {base : Heap} (T : Txt K mg) (D : ∃ fd, FD K "_law_cell" "_law_cell" s_l_cell (He.fAd K ("_law_cell", none)) fd) (hg : mg "_law_cell" = some (.ref (He.ga K "_law_cell")))  : FnC P w K mg base CX0 lv_l_cell "_law_cell" (sp_l_cell K) := by
  refine fnC_mk D hg (N := N_l_cell) sc_l_cell (fun fd F => FunD.bindsN F fun _ _ _ _ _ _ us hl => match us, hl with | [_, _], _ => rfl) (fun vs H Q E h => ?_) fun cdv A outer s0 H vs Q E hr h => ?_
  · obtain ⟨a, ns, n, rfl, hs, hlen, kk⟩ := h
    rfl
  · have hu := hu_of hr
    refine ⟨_, (PSs.nox (pss_cons (ps_if (pt_cmpR op_lt (pv 1) (pe_callB call_len_seq (by rfl) T.b_len (by decide +kernel) (pa_cons (pv 0) pa_nil)) (nomark _)) (pss_one (ps_ret (pe_ix ix_list (pv 0) (pv 1) (fun _ _ => rfl)))) pss_nil) (pss_one (ps_ret pe_int)))), ?_⟩
    obtain ⟨a, ns, n, rfl, hs, hlen, kk⟩ := h
    refine ⟨_, rfl, _, rfl, a, _, rfl, .inl hs, _, _, rfl, rfl, _, rfl, ?_⟩
    rw [List.length_map]
    refine ite2 (fun c => ?_) (fun c => ?_)
    · have c' : (n : Int) < ns.length := of_decide_eq_true c
      have hn : n < ns.length := by omega
      refine ⟨_, rfl, _, rfl, a, _, _, .int ns[n], rfl, rfl, hs, atI_nat (by rw [List.getElem?_map, List.getElem?_eq_getElem hn]; rfl), ?_⟩
      rw [List.getD_eq_getElem?_getD, List.getElem?_eq_getElem hn] at kk
      exact kk
    · have c' : ¬ (n : Int) < ns.length := fun z => c (decide_eq_true z)
      rw [List.getD_eq_getElem?_getD, List.getElem?_eq_none (by omega)] at kk
      exact kk
abbrev N_l_mix : List Str := ["_law_cell_here", "_law_prime", "_law_many"]
theorem sc_l_mix : FnScope N_l_mix ["_law_cell_here", "_law_prime", "_law_many"] (defScope s_l_mix) := ⟨rfl, rfl, rfl, by decide +kernel, rfl, by decide +kernel, by decide +kernel⟩
set_option maxRecDepth 100000 in
theorem ok_l_mix {P : Program} {w : World} {K : PySem.W.Frag} {mg : Str → Option Value} {base : Heap} (T : Txt K mg) (D : ∃ fd, FD K "_law_mix" "_law_mix" s_l_mix (He.fAd K ("_law_mix", none)) fd) (hg : mg "_law_mix" = some (.ref (He.ga K "_law_mix")))  : FnC P w K mg base CX0 lv_l_mix "_law_mix" (sp_l_mix K) := by
  refine fnC_mk D hg (N := N_l_mix) sc_l_mix (fun fd F => FunD.bindsN F fun _ _ _ _ _ _ us hl => match us, hl with | [_, _, _], _ => rfl) (fun vs H Q E h => ?_) fun cdv A outer s0 H vs Q E hr h => ?_
  · obtain ⟨c, p, m, rfl, hp, hm, kk⟩ := h
    rfl
  · have hu := hu_of hr
    refine ⟨_, (PSs.nox (pss_one (ps_ret (pe_op op_mod (pe_op op_mod (pe_op op_mul (pv 0) pe_int) (pv 1)) (pv 2))))), ?_⟩
    obtain ⟨c, p, m, rfl, hp, hm, kk⟩ := h
    exact ⟨_, rfl, _, _, rfl, rfl, .inr ⟨by decide, by decide⟩, _, rfl, _, _, rfl, rfl, hp, _, rfl, _, _, rfl, rfl, hm, kk⟩
abbrev N_l_size : List Str := ["_law_script"]
theorem sc_l_size : FnScope N_l_size ["_law_script"] (defScope s_l_size) := ⟨rfl, rfl, rfl, by decide +kernel, rfl, by decide +kernel, by decide +kernel⟩
set_option maxRecDepth 100000 in
theorem ok_l_size {P : Program} {w : World} {K : PySem.W.Frag} {mg : Str → Option Value} {base : Heap} (T : Txt K mg) (D : ∃ fd, FD K "_law_size" "_law_size" s_l_size (He.fAd K ("_law_size", none)) fd) (hg : mg "_law_size" = some (.ref (He.ga K "_law_size"))) (m_l_mix : FnC P w K mg base CX0 lv_l_mix "_law_mix" (sp_l_mix K)) (m_l_cell : FnC P w K mg base CX0 lv_l_cell "_law_cell" (sp_l_cell K)) : FnC P w K mg base CX0 lv_l_size "_law_size" (sp_l_size K) := by
  refine fnC_mk D hg (N := N_l_size) sc_l_size (fun fd F => FunD.bindsN F fun _ _ _ _ _ _ us hl => match us, hl with | [_], _ => rfl) (fun vs H Q E h => ?_) fun cdv A outer s0 H vs Q E hr h => ?_
  · obtain ⟨a, ns, rfl, hs, hlen, kk⟩ := h
    rfl
  · have hu := hu_of hr
    refine ⟨_, (PSs.nox (pss_cons (ps_if (pt_cmpR op_eq (pe_op op_mod (pf_call m_l_cell hr (by decide) pass0 (pa_cons (pv 0) (pa_cons pe_int pa_nil))) pe_int) pe_int (nomark _)) (pss_one (ps_ret (pe_op op_add pe_int (pf_call m_l_mix hr (by decide) pass0 (pa_cons (pf_call m_l_cell hr (by decide) pass0 (pa_cons (pv 0) (pa_cons pe_int pa_nil))) (pa_cons pe_int (pa_cons pe_int pa_nil))))))) pss_nil) (pss_one (ps_ret (pe_op op_add pe_int (pf_call m_l_mix hr (by decide) pass0 (pa_cons (pf_call m_l_cell hr (by decide) pass0 (pa_cons (pv 0) (pa_cons pe_int pa_nil))) (pa_cons pe_int (pa_cons pe_int pa_nil))))))))), ?_⟩
    obtain ⟨a, ns, rfl, hs, hlen, kk⟩ := h
    unfold sizeOfS at kk
    refine ⟨_, rfl, a, ns, 0, rfl, hs, hlen, _, _, rfl, rfl, (by show (0 : Int) < 4; decide), rfl, _, rfl, ?_⟩
    refine ite2 (fun c => ?_) (fun c => ?_)
    · have c' := V.int.inj (of_decide_eq_true c)
      rw [if_pos c'] at kk
      exact ⟨_, rfl, a, ns, 0, rfl, hs, hlen, _, _, _, rfl, by decide, by decide, _, _, rfl, rfl, kk⟩
    · have c' : ¬ ns.getD 0 0 % 4 = 0 := fun z => c (decide_eq_true (by show V.int (ns.getD 0 0 % 4) = V.int 0; rw [z]))
      rw [if_neg c'] at kk
      exact ⟨_, rfl, a, ns, 0, rfl, hs, hlen, _, _, _, rfl, by decide, by decide, _, _, rfl, rfl, kk⟩
end G

namespace G
open L2 PySem PyProof.Rows PySem.Spec
abbrev N_l_act : List Str := ["_law_cell_here", "_law_sweeps", "_law_hand", "_law_other", "_law_field_here", "_law_turn"]
theorem sc_l_act : FnScope N_l_act ["_law_cell_here", "_law_sweeps"] (defScope s_l_act) := ⟨rfl, rfl, rfl, by decide +kernel, rfl, by decide +kernel, by decide +kernel⟩
set_option maxRecDepth 100000 in
theorem ok_l_act {P : Program} {w : World} {K : PySem.W.Frag} {mg : Str → Option Value} {base : Heap} (T : Txt K mg) (D : ∃ fd, FD K "_law_act" "_law_act" s_l_act (He.fAd K ("_law_act", none)) fd) (hg : mg "_law_act" = some (.ref (He.ga K "_law_act"))) (m_l_mix : FnC P w K mg base CX0 lv_l_mix "_law_mix" (sp_l_mix K)) : FnC P w K mg base CX0 lv_l_act "_law_act" (sp_l_act K) := by
  refine fnC_mk D hg (N := N_l_act) sc_l_act (fun fd F => FunD.bindsN F fun _ _ _ _ _ _ us hl => match us, hl with | [_, _], _ => rfl) (fun vs H Q E h => ?_) fun cdv A outer s0 H vs Q E hr h => ?_
  · obtain ⟨c, sw, rfl, kk⟩ := h
    rfl
  · have hu := hu_of hr
    refine ⟨_, (PSs.nox (pss_cons (ps_set (i := 2) sc_l_act.nd rfl (Or.inl rfl) (pf_call m_l_mix hr (by decide) pass0 (pa_cons (pv 0) (pa_cons pe_int (pa_cons (pe_ix ix_list (pe_lst (pa_cons pe_int (pa_cons pe_int pa_nil))) (pe_callTy call_int1 (by rfl) T.b_int (by decide +kernel) (pa_cons (pe_cmpR op_eq (pe_op op_mod (pv 0) pe_int) pe_int (nomark _)) pa_nil)) (fun _ _ => rfl)) pa_nil))))) (pss_cons (ps_set (i := 3) sc_l_act.nd rfl (Or.inl rfl) (pf_call m_l_mix hr (by decide) pass0 (pa_cons (pv 0) (pa_cons pe_int (pa_cons (pe_ix ix_list (pe_lst (pa_cons pe_int (pa_cons pe_int pa_nil))) (pe_callTy call_int1 (by rfl) T.b_int (by decide +kernel) (pa_cons (pe_cmpR op_eq (pe_op op_mod (pv 0) pe_int) pe_int (nomark _)) pa_nil)) (fun _ _ => rfl)) pa_nil))))) (pss_cons (ps_set (i := 4) sc_l_act.nd rfl (Or.inl rfl) (pf_call m_l_mix hr (by decide) pass0 (pa_cons (pv 0) (pa_cons pe_int (pa_cons (pe_ix ix_list (pe_lst (pa_cons pe_int (pa_cons pe_int pa_nil))) (pe_op op_mod (pv 0) pe_int) (fun _ _ => rfl)) pa_nil))))) (pss_cons (ps_set (i := 5) sc_l_act.nd rfl (Or.inl rfl) (pf_call m_l_mix hr (by decide) pass0 (pa_cons (pv 0) (pa_cons pe_int (pa_cons pe_int pa_nil))))) (pss_cons (ps_if (pt_cmpR op_lt (pv 5) pe_int (nomark _)) (pss_one (ps_ret (pe_tup (pa_cons pe_str (pa_cons (pv 2) (pa_cons (pf_call m_l_mix hr (by decide) pass0 (pa_cons (pv 0) (pa_cons pe_int (pa_cons pe_int pa_nil)))) pa_nil)))))) pss_nil) (pss_cons (ps_if (pt_cmpR op_lt (pv 5) pe_int (nomark _)) (pss_one (ps_ret (pe_tup (pa_cons pe_str (pa_cons (pv 2) (pa_cons (pv 4) (pa_cons (pv 3) pa_nil))))))) pss_nil) (pss_cons (ps_if (pt_cmpR op_lt (pv 5) pe_int (nomark _)) (pss_one (ps_ret (pe_tup (pa_cons pe_str (pa_cons (pv 2) (pa_cons (pv 3) (pa_cons (pv 4) pa_nil))))))) pss_nil) (pss_cons (ps_if (pt_cmpR op_eq (pv 5) pe_int (nomark _)) (pss_one (ps_ret (pe_tup (pa_cons pe_str (pa_cons (pv 2) (pa_cons (pv 3) pa_nil)))))) pss_nil) (pss_cons (ps_if (PW.pt (pw_or (pt_cmpR op_eq (pv 5) pe_int (nomark _)) (pw_or1 (pt_not (pt_val (pv 1)))))) (pss_one (ps_ret (pe_tup (pa_cons pe_str (pa_cons (pv 2) (pa_cons (pv 0) pa_nil)))))) pss_nil) (pss_cons (ps_if (pt_cmpR op_eq (pv 5) pe_int (nomark _)) (pss_one (ps_ret (pe_tup (pa_cons pe_str pa_nil)))) pss_nil) (pss_cons (ps_if (pt_cmpR op_eq (pv 5) pe_int (nomark _)) (pss_one (ps_ret (pe_tup (pa_cons pe_str pa_nil)))) pss_nil) (pss_cons (ps_if (pt_cmpR op_eq (pv 5) pe_int (nomark _)) (pss_one (ps_ret (pe_tup (pa_cons pe_str pa_nil)))) pss_nil) (pss_one (ps_ret (pe_tup (pa_cons pe_str (pa_cons (pf_call m_l_mix hr (by decide) pass0 (pa_cons (pv 0) (pa_cons pe_int (pa_cons (pe_ix ix_list (pe_lst (pa_cons pe_int (pa_cons pe_int pa_nil))) (pe_callTy call_int1 (by rfl) T.b_int (by decide +kernel) (pa_cons (pe_cmpR op_eq (pe_op op_mod (pv 0) pe_int) pe_int (nomark _)) pa_nil)) (fun _ _ => rfl)) pa_nil)))) pa_nil)))))))))))))))))), ?_⟩
    obtain ⟨c, sw, rfl, kk⟩ := h
    unfold actOf at kk
    refine ⟨_, rfl, by show 2 ≤ sizeLine; decide, fun p1 hp1 => ⟨_, rfl, _, _, rfl, rfl, (by show (0 : Int) < 3; decide), rfl, .inr ⟨_, rfl, rd_pick upd_same ⟨c, 9973, _, rfl, by decide, pos_pick (by decide) (by decide), ?_⟩⟩⟩⟩
    rw [show mixI c 9973 (if decide (V.int (c % 3) = V.int 0) = true then 8 else 5) = handOf c by unfold handOf; rw [dec_int]]
    refine ⟨_, rfl, by show 2 ≤ sizeLine; decide, fun p2 hp2 => ⟨_, rfl, _, _, rfl, rfl, (by show (0 : Int) < 3; decide), rfl, .inr ⟨_, rfl, rd_pick upd_same ⟨c, 9967, _, rfl, by decide, pos_pick (by decide) (by decide), ?_⟩⟩⟩⟩
    rw [show mixI c 9967 (if decide (V.int (c % 3) = V.int 1) = true then 8 else 5) = otherOf c by unfold otherOf; rw [dec_int]]
    refine ⟨_, rfl, by show 2 ≤ sizeLine; decide, fun p3 hp3 => ⟨_, rfl, _, _, rfl, rfl, (by show (0 : Int) < 2; decide), p3, [.int 4, .int 6], c % 2, .int (if c % 2 = 0 then 4 else 6), rfl, rfl, .inl (.inl upd_same), ?_, c, 9931, _, rfl, by decide, ?_, ?_⟩⟩
    · have h0 := Int.emod_nonneg c (show (2 : Int) ≠ 0 by decide)
      have h1 := Int.emod_lt_of_pos c (show (0 : Int) < 2 by decide)
      by_cases e : c % 2 = 0
      · rw [e]
        rfl
      · have e2 : c % 2 = 1 := by omega
        rw [e2]
        rfl
    · split <;> decide
    rw [show mixI c 9931 (if c % 2 = 0 then 4 else 6) = fieldOf c from rfl]
    refine ⟨_, rfl, c, 9949, 17, rfl, by decide, by decide, ?_⟩
    rw [show mixI c 9949 17 = turnOf c from rfl]
    have s3 : Same H (upd (upd (upd H p1 (.lst [.int 5, .int 8])) p2 (.lst [.int 5, .int 8])) p3 (.lst [.int 4, .int 6])) := ((same_new hp1).trans (same_new hp2)).trans (same_new hp3)
    obtain ⟨_, _, hn0, ho0⟩ := hand_lt c
    have fin : ∀ {a : Act} {xs : List V}, xs = actVs a → (∀ q H', H q = none → H' q = some (.tup (actVs a)) → Same H H' → Q (.ref q) H') → ∀ q, (upd (upd (upd H p1 (.lst [.int 5, .int 8])) p2 (.lst [.int 5, .int 8])) p3 (.lst [.int 4, .int 6])) q = none →
        Q (.ref q) (upd (upd (upd (upd H p1 (.lst [.int 5, .int 8])) p2 (.lst [.int 5, .int 8])) p3 (.lst [.int 4, .int 6])) q (.tup xs)) := fun {a xs} e k q hq => by
      refine k q _ (s3.free hq) ?_ (s3.trans (same_new hq))
      rw [upd_same, e]
    refine ⟨_, rfl, _, _, rfl, rfl, _, rfl, ite2 (fun c1 => ?_) (fun c1 => ?_)⟩
    · rw [if_pos (of_decide_eq_true c1)] at kk
      refine ⟨_, rfl, _, rfl, c, 9941, 7, rfl, by decide, by decide, by show 3 ≤ sizeLine; decide, fin ?_ kk⟩
      show [_, _, _] = [V.str "make", V.int ((handOf c).toNat : Int), V.int ((mixI c 9941 7).toNat : Int)]
      rw [Int.toNat_of_nonneg hn0, mixI_nat (by decide)]
    · rw [if_neg (fun z => c1 (decide_eq_true z))] at kk
      refine ⟨_, rfl, _, _, rfl, rfl, _, rfl, ite2 (fun c1 => ?_) (fun c1 => ?_)⟩
      · rw [if_pos (of_decide_eq_true c1)] at kk
        refine ⟨_, rfl, _, rfl, _, rfl, by show 4 ≤ sizeLine; decide, fin ?_ kk⟩
        show [_, _, _, _] = [V.str "store", V.int ((handOf c).toNat : Int), V.int (fieldOf c), V.int ((otherOf c).toNat : Int)]
        rw [Int.toNat_of_nonneg hn0, Int.toNat_of_nonneg ho0]
      · rw [if_neg (fun z => c1 (decide_eq_true z))] at kk
        refine ⟨_, rfl, _, _, rfl, rfl, _, rfl, ite2 (fun c1 => ?_) (fun c1 => ?_)⟩
        · rw [if_pos (of_decide_eq_true c1)] at kk
          refine ⟨_, rfl, _, rfl, _, rfl, by show 4 ≤ sizeLine; decide, fin ?_ kk⟩
          show [_, _, _, _] = [V.str "load", V.int ((handOf c).toNat : Int), V.int ((otherOf c).toNat : Int), V.int (fieldOf c)]
          rw [Int.toNat_of_nonneg hn0, Int.toNat_of_nonneg ho0]
        · rw [if_neg (fun z => c1 (decide_eq_true z))] at kk
          refine ⟨_, rfl, rfl, _, rfl, ite2 (fun c1 => ?_) (fun c1 => ?_)⟩
          · rw [if_pos (V.int.inj (of_decide_eq_true c1))] at kk
            refine ⟨_, rfl, _, rfl, by show 3 ≤ sizeLine; decide, fin ?_ kk⟩
            show [_, _, _] = [V.str "copy", V.int ((handOf c).toNat : Int), V.int ((otherOf c).toNat : Int)]
            rw [Int.toNat_of_nonneg hn0, Int.toNat_of_nonneg ho0]
          · rw [if_neg (fun z => c1 (decide_eq_true (by rw [z])))] at kk
            have num : turnOf c = 11 ∨ sw = false → ∀ q, (upd (upd (upd H p1 (.lst [.int 5, .int 8])) p2 (.lst [.int 5, .int 8])) p3 (.lst [.int 4, .int 6])) q = none → Q (.ref q) (upd (upd (upd (upd H p1 (.lst [.int 5, .int 8])) p2 (.lst [.int 5, .int 8])) p3 (.lst [.int 4, .int 6])) q (.tup [V.str "number", V.int (handOf c), V.int c])) := fun z => by
              rw [if_pos z] at kk
              refine fin ?_ kk
              show [_, _, _] = [V.str "number", V.int ((handOf c).toNat : Int), V.int c]
              rw [Int.toNat_of_nonneg hn0]
            refine ⟨_, rfl, rfl, _, rfl, ite2 (fun c1 => ?_) (fun c1 => ?_)⟩
            · exact ⟨_, rfl, _, rfl, by show 3 ≤ sizeLine; decide, num (.inl (V.int.inj (of_decide_eq_true c1)))⟩
            · refine ⟨_, rfl, _, rfl, ?_⟩
              cases sw with
              | false => exact ⟨_, rfl, _, rfl, by show 3 ≤ sizeLine; decide, num (.inr rfl)⟩
              | true =>
                have n11 : ¬ (turnOf c = 11 ∨ true = false) := fun z => by
                  rcases z with z | z
                  · exact c1 (decide_eq_true (by rw [z]))
                  · cases z
                rw [if_neg n11] at kk
                refine ⟨_, rfl, rfl, _, rfl, ite2 (fun c1 => ?_) (fun c1 => ?_)⟩
                · rw [if_pos (V.int.inj (of_decide_eq_true c1))] at kk
                  exact ⟨by show 1 ≤ sizeLine; decide, fin rfl kk⟩
                · rw [if_neg (fun z => c1 (decide_eq_true (by rw [z])))] at kk
                  refine ⟨_, rfl, rfl, _, rfl, ite2 (fun c1 => ?_) (fun c1 => ?_)⟩
                  · rw [if_pos (V.int.inj (of_decide_eq_true c1))] at kk
                    exact ⟨by show 1 ≤ sizeLine; decide, fin rfl kk⟩
                  · rw [if_neg (fun z => c1 (decide_eq_true (by rw [z])))] at kk
                    refine ⟨_, rfl, rfl, _, rfl, ite2 (fun c1 => ?_) (fun c1 => ?_)⟩
                    · rw [if_pos (V.int.inj (of_decide_eq_true c1))] at kk
                      exact ⟨by show 1 ≤ sizeLine; decide, fin rfl kk⟩
                    · rw [if_neg (fun z => c1 (decide_eq_true (by rw [z])))] at kk
                      refine ⟨_, rfl, by show 2 ≤ sizeLine; decide, fun p4 hp4 => ⟨_, rfl, _, _, rfl, rfl, (by show (0 : Int) < 8; decide), rfl, .inr ⟨_, rfl, rd_pick upd_same ⟨c, 9929, _, rfl, by decide, pos_pick (by decide) (by decide), by show 2 ≤ sizeLine; decide, fun q hq => ?_⟩⟩⟩⟩
                      have s4 := s3.trans (same_new (o := .lst [.int 7, .int 41]) hp4)
                      refine kk q _ (s4.free hq) ?_ (s4.trans (same_new hq))
                      rw [upd_same]
                      show some (HO.tup [V.str "step", _]) = some (HO.tup [V.str "step", V.int ((mixI c 9929 (if c % 8 = 0 then 41 else 7)).toNat : Int)])
                      rw [mixI_nat (by split <;> decide), dec_int]
end G

namespace G
open L2 PySem PyProof.Rows PySem.Spec
abbrev N_l_acts : List Str := ["_law_script", "_law_sweeps", "_law_found", "_law_cell_here"]
theorem sc_l_acts : FnScope N_l_acts ["_law_script", "_law_sweeps"] (defScope s_l_acts) := ⟨rfl, rfl, rfl, by decide +kernel, rfl, by decide +kernel, by decide +kernel⟩
set_option maxRecDepth 100000 in
theorem ok_l_acts {P : Program} {w : World} {K : PySem.W.Frag} {mg : Str → Option Value} {base : Heap} (T : Txt K mg) (D : ∃ fd, FD K "_law_acts" "_law_acts" s_l_acts (He.fAd K ("_law_acts", none)) fd) (hg : mg "_law_acts" = some (.ref (He.ga K "_law_acts"))) (m_l_act : FnC P w K mg base CX0 lv_l_act "_law_act" (sp_l_act K)) : FnC P w K mg base CX0 lv_l_acts "_law_acts" (sp_l_acts K) := by
  refine fnC_mk D hg (N := N_l_acts) sc_l_acts (fun fd F => FunD.bindsN F fun _ _ _ _ _ _ us hl => match us, hl with | [_, _], _ => rfl) (fun vs H Q E h => ?_) fun cdv A outer s0 H vs Q E hr h => ?_
  · obtain ⟨b, ns, sw, rfl, hs, hlen, k⟩ := h
    rfl
  · have hu := hu_of hr
    refine ⟨_, (PSs.nox (pss_cons (ps_set (i := 2) sc_l_acts.nd rfl (Or.inl rfl) (pe_lst (pa_cons (pe_tup (pa_cons pe_str (pa_cons pe_int (pa_cons pe_int pa_nil)))) (pa_cons (pe_tup (pa_cons pe_str (pa_cons pe_int (pa_cons pe_int pa_nil)))) pa_nil)))) (pss_cons (ps_for PassesOwn.never rfl (pi_list (pe_slice sl_list (pv 0) (po_some pe_int) (po_some pe_int))) (pg_name (i := 3) sc_l_acts.nd rfl (Or.inl rfl)) (pss_one (ps_expr (pe_bm PySem.F.plainAttrs_list PySem.F.slot_list_append PySem.F.type_list_append mt_append (pv 2) (pa_cons (pf_call m_l_act hr (by decide) pass0 (pa_cons (pv 3) (pa_cons (pv 1) pa_nil))) pa_nil))))) (pss_one (ps_ret (pv 2)))))), ?_⟩
    obtain ⟨b, ns, sw, rfl, hs, hlen, k⟩ := h
    refine ⟨by show 3 ≤ sizeLine; decide, fun p1 h1 => ⟨by show 3 ≤ sizeLine; decide, fun p2 h2 => ⟨by show 2 ≤ sizeLine; decide, fun l hl => ?_⟩⟩⟩
    have s1 : Same H (upd H p1 (.tup [.str "make", .int 0, .int 3])) := same_new h1
    have h2' : H p2 = none := s1.free h2
    have s2 : Same H (upd (upd H p1 (.tup [.str "make", .int 0, .int 3])) p2 (.tup [.str "make", .int 1, .int 2])) := s1.trans (same_new h2)
    have hl' : H l = none := s2.free hl
    have nlp1 : p1 ≠ l := fun z => by
      rw [← z, upd_ne (fun z2 => by rw [← z2, upd_same] at h2; cases h2), upd_same] at hl
      cases hl
    have nlp2 : p2 ≠ l := fun z => by
      rw [← z, upd_same] at hl
      cases hl
    have n12 : p1 ≠ p2 := fun z => by
      rw [← z, upd_same] at h2
      cases h2
    have s3 := s2.trans (same_new (o := .lst [.ref p1, .ref p2]) hl)
    refine ⟨_, rfl, _, rfl, _, rfl, b, _, rfl, s3.seq hs, fun q hq => ?_⟩
    have ecut : cutV (ns.map V.int) (some 1) (some 63) = ((ns.drop 1).take 62).map V.int := by
      rw [show cutV (ns.map V.int) (some 1) (some 63) = ((ns.map V.int).drop 1).take (63 - 1) from cut_nat _ (by decide), List.map_take, List.map_drop]
    have nql : l ≠ q := fun z => by
      rw [← z, upd_same] at hq
      cases hq
    have hq' : H q = none := s3.free hq
    have s4 := s3.trans (same_new (o := .lst (cutV (ns.map V.int) (some 1) (some 63))) hq)
    refine ⟨q, rfl, ⟨_, .inl (.inl upd_same)⟩, for_list (K := K) (a := q) (xs := ((ns.drop 1).take 62).map V.int)
      (fun i σ H1 => ∃ (c : Option V) (as : List Addr), σ = [some (.ref b), some (.bl sw), some (.ref l), c] ∧ Same H H1 ∧ H1 q = some (.lst (((ns.drop 1).take 62).map V.int)) ∧ H1 l = some (.lst (as.map V.ref)) ∧
        i ≤ 62 ∧ ActsAt H H1 as (.make 0 3 :: .make 1 2 :: (((ns.drop 1).take 62).take i).map fun c => actOf c sw))
      ⟨none, [p1, p2], rfl, s4, by rw [upd_same, ecut], by rw [upd_ne nql, upd_same]; rfl, Nat.zero_le _, ?_⟩ (fun i σ H1 _ ⟨_, _, _, _, e, _⟩ => .inl (.inl e)) ?_ ?_⟩
    · have a1 : ActsAt H (upd (upd (upd (upd H p1 (.tup [.str "make", .int 0, .int 3])) p2 (.tup [.str "make", .int 1, .int 2])) l (.lst [.ref p1, .ref p2])) q (.lst (cutV (ns.map V.int) (some 1) (some 63)))) ([] ++ [p1]) ([] ++ [.make 0 3]) := by
        refine ActsAt.snoc ⟨rfl, fun i x hx => by simp at hx⟩ h1 ?_
        rw [upd_ne (ne_of_none (by rw [upd_ne nlp1, upd_ne n12, upd_same]) hq), upd_ne nlp1, upd_ne n12, upd_same]
        rfl
      refine a1.snoc h2' ?_
      rw [upd_ne (ne_of_none (by rw [upd_ne nlp2, upd_same]) hq), upd_ne nlp2, upd_same]
      rfl
    · rintro i y σ H1 hi ⟨c, as, rfl, e1, hq1, hl1, hi62, hA⟩
      obtain ⟨x, hx, rfl, hd⟩ := map_get hi
      refine ⟨_, rfl, .inl ⟨rfl, _, .inl (.inl hl1)⟩, _, rfl, _, rfl, x, sw, rfl, fun a H2 na ha2 e2 => ?_⟩
      have hl2 := e2 _ _ hl1
      have hi2 : i < ((ns.drop 1).take 62).length := (List.getElem?_eq_some_iff.mp hx).1
      rw [List.length_take] at hi2
      have hal : as.length = i + 2 := by
        rw [hA.1]
        simp only [List.length_cons, List.length_map, List.length_take]
        omega
      refine ⟨l, _, _, rfl, rfl, hl2, small_lt (by rw [List.length_map, hal]; omega), ?_⟩
      have nal : a ≠ l := (ne_of_none hl1 na).symm
      refine ⟨_, as ++ [a], rfl, ?_, ?_, ?_, by omega, ?_⟩
      · intro u o hu
        rw [upd_ne (ne_of_none hu hl')]
        exact e2 _ _ (e1 _ _ hu)
      · rw [upd_ne nql.symm]
        exact e2 _ _ hq1
      · rw [upd_same, List.map_append]
        rfl
      · have ha0 : H a = none := e1.free na
        have k1 : KT H1 (upd H2 l (.lst (as.map V.ref ++ [V.ref a]))) := fun u xs hu => by
          rw [upd_ne (ne_of hu hl1 (by intro z; cases z))]
          exact e2 _ _ hu
        have a2 := (hA.kt k1).snoc (x := actOf x sw) ha0 (by rw [upd_ne nal]; exact ha2)
        rw [List.take_add_one, hx]
        simpa using a2
    · rintro σ H1 ⟨c, as, rfl, e1, hq1, hl1, hi62, hA⟩
      refine ⟨_, rfl, k l as H1 hl' hl1 ?_ e1⟩
      rw [List.length_map, List.take_length] at hA
      exact hA
end G

namespace G
open L2 PySem PyProof.Rows PySem.Spec
abbrev N_l_call : List Str := ["_law_hall", "_law_act_here"]
theorem sc_l_call : FnScope N_l_call ["_law_hall", "_law_act_here"] (defScope s_l_call) := ⟨rfl, rfl, rfl, by decide +kernel, rfl, by decide +kernel, by decide +kernel⟩
set_option maxRecDepth 100000 in
theorem ok_l_call {P : Program} {w : World} {K : PySem.W.Frag} {mg : Str → Option Value} {base : Heap} (T : Txt K mg) (D : ∃ fd, FD K "_law_call" "_law_call" s_l_call (He.fAd K ("_law_call", none)) fd) (hg : mg "_law_call" = some (.ref (He.ga K "_law_call"))) (m_Hall_step : MtC P w K mg base CX0 lv_Hall_step "Hall" "step" (sp_Hall_step K)) (m_Hall_finish : MtC P w K mg base CX0 lv_Hall_finish "Hall" "finish" (sp_Hall_finish K)) (m_Hall_slide : MtC P w K mg base (L2.CX P w) lv_Hall_slide "Hall" "slide" (sp_Hall_slide K)) (m_Hall_begin : MtC P w K mg base (L2.CX P w) lv_Hall_begin "Hall" "begin" (sp_Hall_begin K)) (m_Hall_number : MtC P w K mg base CX0 lv_Hall_number "Hall" "number" (sp_Hall_number K)) (m_Hall_copy : MtC P w K mg base CX0 lv_Hall_copy "Hall" "copy" (sp_Hall_copy K)) (m_Hall_load : MtC P w K mg base (L2.CX P w) lv_Hall_load "Hall" "load" (sp_Hall_load K)) (m_Hall_store : MtC P w K mg base (L2.CX P w) lv_Hall_store "Hall" "store" (sp_Hall_store K)) (m_Hall_make : MtC P w K mg base (L2.CX P w) lv_Hall_make "Hall" "make" (sp_Hall_make K)) : FnC P w K mg base (L2.CX P w) lv_l_call "_law_call" (sp_l_call K) := by
  refine fnC_mk D hg (N := N_l_call) sc_l_call (fun fd F => FunD.bindsN F fun _ _ _ _ _ _ us hl => match us, hl with | [_, _], _ => rfl) (fun vs H Q E h => ?_) fun cdv A outer s0 H vs Q E hr h => ?_
  · obtain ⟨F, h, s, L, a, x, rfl, ⟨ρ, rfl, R⟩, iv, hz, ok, ha, kk⟩ := h
    rfl
  · have hu := hu_of hr
    refine ⟨_, (pss_cons (ps_if (pt_cmpR op_eq (pe_ix ix_tup (pv 1) pe_int (fun _ _ => rfl)) pe_str (nomark _)) (pss_one (ps_ret (pf_meth m_Hall_make hr (by decide) (passes_call (takes_of rfl rfl rfl rfl) (fun _ _ _ _ h => h)) (pv 0) (pa_cons (pe_ix ix_tup (pv 1) pe_int (fun _ _ => rfl)) (pa_cons (pe_ix ix_tup (pv 1) pe_int (fun _ _ => rfl)) pa_nil))))) pss_nil) (pss_cons (ps_if (pt_cmpR op_eq (pe_ix ix_tup (pv 1) pe_int (fun _ _ => rfl)) pe_str (nomark _)) (pss_one (ps_ret (pf_meth m_Hall_store hr (by decide) (passes_call (takes_of rfl rfl rfl rfl) (fun _ _ _ _ h => h)) (pv 0) (pa_cons (pe_ix ix_tup (pv 1) pe_int (fun _ _ => rfl)) (pa_cons (pe_ix ix_tup (pv 1) pe_int (fun _ _ => rfl)) (pa_cons (pe_ix ix_tup (pv 1) pe_int (fun _ _ => rfl)) pa_nil)))))) pss_nil) (pss_cons (ps_if (pt_cmpR op_eq (pe_ix ix_tup (pv 1) pe_int (fun _ _ => rfl)) pe_str (nomark _)) (pss_one (ps_ret (pf_meth m_Hall_load hr (by decide) (passes_call (takes_of rfl rfl rfl rfl) (fun _ _ _ _ h => h)) (pv 0) (pa_cons (pe_ix ix_tup (pv 1) pe_int (fun _ _ => rfl)) (pa_cons (pe_ix ix_tup (pv 1) pe_int (fun _ _ => rfl)) (pa_cons (pe_ix ix_tup (pv 1) pe_int (fun _ _ => rfl)) pa_nil)))))) pss_nil) (pss_cons (ps_if (pt_cmpR op_eq (pe_ix ix_tup (pv 1) pe_int (fun _ _ => rfl)) pe_str (nomark _)) (pss_one (ps_ret (pf_meth m_Hall_copy hr (by decide) pass0 (pv 0) (pa_cons (pe_ix ix_tup (pv 1) pe_int (fun _ _ => rfl)) (pa_cons (pe_ix ix_tup (pv 1) pe_int (fun _ _ => rfl)) pa_nil))))) pss_nil) (pss_cons (ps_if (pt_cmpR op_eq (pe_ix ix_tup (pv 1) pe_int (fun _ _ => rfl)) pe_str (nomark _)) (pss_one (ps_ret (pf_meth m_Hall_number hr (by decide) pass0 (pv 0) (pa_cons (pe_ix ix_tup (pv 1) pe_int (fun _ _ => rfl)) (pa_cons (pe_ix ix_tup (pv 1) pe_int (fun _ _ => rfl)) pa_nil))))) pss_nil) (pss_cons (ps_if (pt_cmpR op_eq (pe_ix ix_tup (pv 1) pe_int (fun _ _ => rfl)) pe_str (nomark _)) (pss_one (ps_ret (pf_meth0 m_Hall_begin hr (by decide) (passes_call (takes_of rfl rfl rfl rfl) (fun _ _ _ _ h => h)) (pv 0)))) pss_nil) (pss_cons (ps_if (pt_cmpR op_eq (pe_ix ix_tup (pv 1) pe_int (fun _ _ => rfl)) pe_str (nomark _)) (pss_one (ps_ret (pf_meth0 m_Hall_slide hr (by decide) (passes_call (takes_of rfl rfl rfl rfl) (fun _ _ _ _ h => h)) (pv 0)))) pss_nil) (pss_cons (ps_if (pt_cmpR op_eq (pe_ix ix_tup (pv 1) pe_int (fun _ _ => rfl)) pe_str (nomark _)) (pss_one (ps_ret (pf_meth0 m_Hall_finish hr (by decide) pass0 (pv 0)))) pss_nil) (pss_one (ps_ret (pf_meth m_Hall_step hr (by decide) pass0 (pv 0) (pa_cons (pe_ix ix_tup (pv 1) pe_int (fun _ _ => rfl)) pa_nil)))))))))))), ?_⟩
    obtain ⟨F, h, s, L, a, x, rfl, ⟨ρ, rfl, R⟩, iv, hz, ok, ha, kk⟩ := h
    have hA : H a = some (.tup (actVs x)) := (outF_some ha).2
    have hT : SqT K H a (actVs x) := .inl (.inl hA)
    cases x with
    | make hd m =>
      refine ⟨_, rfl, a, _, 0, _, rfl, rfl, hT, rfl, rfl, _, rfl, iteSe ?_⟩
      refine ⟨_, rfl, m_hall R ⟨_, rfl, a, _, 1, _, rfl, rfl, hT, rfl, _, rfl, a, _, 2, _, rfl, rfl, hT, rfl, F, _, s, L, hd, m, rfl, ⟨ρ, rfl, R⟩, iv, inv_hands iv ok.1, ok.2, hz, fun c F' H' kp R' => ?_, fun c F' H' kp R' => ?_⟩⟩
      · have e : doAct s (.make hd m) = (.none, (makeS s hd m).2) := by unfold doAct; exact if_pos c
        rw [e] at kk
        exact kk F' H' kp R'
      · have e : doAct s (.make hd m) = (.noRoom, (makeS s hd m).2) := by unfold doAct; exact if_neg (by rw [c]; decide)
        rw [e] at kk
        exact kk F' H' kp R'
    | store hd f ot =>
      iterate 1 (refine ⟨_, rfl, a, _, 0, _, rfl, rfl, hT, rfl, rfl, _, rfl, iteSn (by decide +kernel) ?_⟩)
      refine ⟨_, rfl, a, _, 0, _, rfl, rfl, hT, rfl, rfl, _, rfl, iteSe ?_⟩
      refine ⟨_, rfl, m_hall R ⟨_, rfl, a, _, 1, _, rfl, rfl, hT, rfl, _, rfl, a, _, 2, _, rfl, rfl, hT, rfl, _, rfl, a, _, 3, _, rfl, rfl, hT, rfl, F, _, s, L, hd, ot, f, rfl, ⟨ρ, rfl, R⟩, iv, inv_hands iv ok.1, inv_hands iv ok.2.1, fun e => ?_, fun e => ?_, fun p t v e H' kp R' => ?_⟩⟩
      · rw [doAct_store, e] at kk
        exact kk F H (Kp.refl F H) ⟨ρ, rfl, R⟩
      · rw [doAct_store, e] at kk
        exact kk F H (Kp.refl F H) ⟨ρ, rfl, R⟩
      · rw [doAct_store, e] at kk
        exact kk F H' kp R'
    | load hd ot f =>
      iterate 2 (refine ⟨_, rfl, a, _, 0, _, rfl, rfl, hT, rfl, rfl, _, rfl, iteSn (by decide +kernel) ?_⟩)
      refine ⟨_, rfl, a, _, 0, _, rfl, rfl, hT, rfl, rfl, _, rfl, iteSe ?_⟩
      refine ⟨_, rfl, m_hall R ⟨_, rfl, a, _, 1, _, rfl, rfl, hT, rfl, _, rfl, a, _, 2, _, rfl, rfl, hT, rfl, _, rfl, a, _, 3, _, rfl, rfl, hT, rfl, F, _, s, hd, ot, f, rfl, ⟨ρ, rfl, R⟩, iv.core.lay, inv_hands iv ok.1, inv_hands iv ok.2.1, inv_dom iv ot, fun e => ?_, fun e => ?_, fun p t v e H' kp R' => ?_⟩⟩
      · rw [doAct_load, e] at kk
        exact kk F H (Kp.refl F H) ⟨ρ, rfl, R⟩
      · rw [doAct_load, e] at kk
        exact kk F H (Kp.refl F H) ⟨ρ, rfl, R⟩
      · rw [doAct_load, e] at kk
        exact kk F H' kp R'
    | copy hd ot =>
      iterate 3 (refine ⟨_, rfl, a, _, 0, _, rfl, rfl, hT, rfl, rfl, _, rfl, iteSn (by decide +kernel) ?_⟩)
      refine ⟨_, rfl, a, _, 0, _, rfl, rfl, hT, rfl, rfl, _, rfl, iteSe ?_⟩
      exact ⟨_, rfl, m_hall R ⟨_, rfl, a, _, 1, _, rfl, rfl, hT, rfl, _, rfl, a, _, 2, _, rfl, rfl, hT, rfl, F, _, s, hd, ot, rfl, ⟨ρ, rfl, R⟩, inv_hands iv ok.1, inv_hands iv ok.2, fun H' kp R' => kk F H' kp R'⟩⟩
    | number hd n =>
      iterate 4 (refine ⟨_, rfl, a, _, 0, _, rfl, rfl, hT, rfl, rfl, _, rfl, iteSn (by decide +kernel) ?_⟩)
      refine ⟨_, rfl, a, _, 0, _, rfl, rfl, hT, rfl, rfl, _, rfl, iteSe ?_⟩
      exact ⟨_, rfl, m_hall R ⟨_, rfl, a, _, 1, _, rfl, rfl, hT, rfl, _, rfl, a, _, 2, _, rfl, rfl, hT, rfl, F, _, s, hd, n, rfl, ⟨ρ, rfl, R⟩, inv_hands iv ok, fun H' kp R' => kk F H' kp R'⟩⟩
    | begin =>
      iterate 5 (refine ⟨_, rfl, a, _, 0, _, rfl, rfl, hT, rfl, rfl, _, rfl, iteSn (by decide +kernel) ?_⟩)
      refine ⟨_, rfl, a, _, 0, _, rfl, rfl, hT, rfl, rfl, _, rfl, iteSe ?_⟩
      refine ⟨_, rfl, m_hall R ⟨F, _, s, L, rfl, ⟨ρ, rfl, R⟩, iv, fun c => ?_, fun c H' kp R' => ?_⟩⟩
      · have e : doAct s .begin = (.notNow, s) := by unfold doAct; exact if_neg c
        rw [e] at kk
        exact kk F H (Kp.refl F H) ⟨ρ, rfl, R⟩
      · have e : doAct s .begin = (.none, beginS s) := by unfold doAct; exact if_pos c
        rw [e] at kk
        exact kk F H' kp R'
    | slide =>
      iterate 6 (refine ⟨_, rfl, a, _, 0, _, rfl, rfl, hT, rfl, rfl, _, rfl, iteSn (by decide +kernel) ?_⟩)
      refine ⟨_, rfl, a, _, 0, _, rfl, rfl, hT, rfl, rfl, _, rfl, iteSe ?_⟩
      refine ⟨_, rfl, m_hall R ⟨F, _, s, L, rfl, ⟨ρ, rfl, R⟩, iv, hz, fun c => ?_, fun c F' H' kp R' => ?_⟩⟩
      · have e : doAct s .slide = (.notNow, s) := by unfold doAct; exact if_neg c
        rw [e] at kk
        exact kk F H (Kp.refl F H) ⟨ρ, rfl, R⟩
      · have e : doAct s .slide = (.none, slideS s) := by unfold doAct; exact if_pos c
        rw [e] at kk
        exact kk F' H' kp R'
    | finish =>
      iterate 7 (refine ⟨_, rfl, a, _, 0, _, rfl, rfl, hT, rfl, rfl, _, rfl, iteSn (by decide +kernel) ?_⟩)
      refine ⟨_, rfl, a, _, 0, _, rfl, rfl, hT, rfl, rfl, _, rfl, iteSe ?_⟩
      exact ⟨_, rfl, m_hall R ⟨F, _, s, L, rfl, ⟨ρ, rfl, R⟩, iv, fun H' kp R' => kk F H' kp R'⟩⟩
    | step n =>
      iterate 8 (refine ⟨_, rfl, a, _, 0, _, rfl, rfl, hT, rfl, rfl, _, rfl, iteSn (by decide +kernel) ?_⟩)
      exact ⟨_, rfl, m_hall R ⟨_, rfl, a, _, 1, _, rfl, rfl, hT, rfl, F, _, s, L, n, rfl, ⟨ρ, rfl, R⟩, iv, fun H' kp R' => kk F H' kp R'⟩⟩
end G

namespace G
open L2 PySem PyProof.Rows PySem.Spec
abbrev N_l_do : List Str := ["_law_hall", "_law_act_here", "_law_told"]
theorem sc_l_do : FnScope N_l_do ["_law_hall", "_law_act_here"] (defScope s_l_do) := ⟨rfl, rfl, rfl, by decide +kernel, rfl, by decide +kernel, by decide +kernel⟩
set_option maxRecDepth 100000 in
theorem ok_l_do {P : Program} {w : World} {K : PySem.W.Frag} {mg : Str → Option Value} {base : Heap} (T : Txt K mg) (D : ∃ fd, FD K "_law_do" "_law_do" s_l_do (He.fAd K ("_law_do", none)) fd) (hg : mg "_law_do" = some (.ref (He.ga K "_law_do"))) (m_l_call : FnC P w K mg base (L2.CX P w) lv_l_call "_law_call" (sp_l_call K)) : FnC P w K mg base CX0 lv_l_do "_law_do" (sp_l_do K) := by
  refine fnC_mk D hg (N := N_l_do) sc_l_do (fun fd F => FunD.bindsN F fun _ _ _ _ _ _ us hl => match us, hl with | [_, _], _ => rfl) (fun vs H Q E h => ?_) fun cdv A outer s0 H vs Q E hr h => ?_
  · obtain ⟨F, h, s, L, a, x, rfl, R, iv, hz, ok, ha, kk⟩ := h
    rfl
  · have hu := hu_of hr
    refine ⟨_, (PSs.nox (pss_cons (ps_set (i := 2) sc_l_do.nd rfl (Or.inl rfl) pe_non) (pss_cons (ps_try_many rfl rfl takes_none5 (fun W pn xe tk _ => (pss_one (ps_set (i := 2) sc_l_do.nd rfl (Or.inl rfl) (pf_callS m_l_call hr (by decide) (fun σ => passAt tk σ) (pa_cons (pv 0) (pa_cons (pv 1) pa_nil)))))) (.cons ⟨rfl, by decide, .inl T.xThing.g⟩ (fun a oe cls d pn _ _ => (pss_one (ps_set (i := 2) sc_l_do.nd rfl (Or.inl rfl) pe_str))) (.cons ⟨rfl, by decide, .inl T.xField.g⟩ (fun a oe cls d pn _ _ => (pss_one (ps_set (i := 2) sc_l_do.nd rfl (Or.inl rfl) pe_str))) (.cons ⟨rfl, by decide, .inl T.xRoom.g⟩ (fun a oe cls d pn _ _ => (pss_one (ps_set (i := 2) sc_l_do.nd rfl (Or.inl rfl) pe_str))) (.cons ⟨rfl, by decide, .inl T.xNow.g⟩ (fun a oe cls d pn _ _ => (pss_one (ps_set (i := 2) sc_l_do.nd rfl (Or.inl rfl) pe_str))) .nil))))) (pss_one (ps_ret (pv 2)))))), ?_⟩
    obtain ⟨F, h, s, L, a, x, rfl, R, iv, hz, ok, ha, kk⟩ := h
    refine ⟨_, rfl, _, rfl, F, h, s, L, a, x, rfl, R, iv, hz, ok, ha, fun F' H' kp R' => ?_⟩
    have k := kk F' H' kp R'
    revert k
    generalize (doAct s x).1 = t
    intro k
    cases t with
    | none => exact ⟨_, rfl, k⟩
    | int n => exact ⟨_, rfl, k⟩
    | noThing => exact ⟨true, T.eTT, fun _ e he => ⟨_, rfl, k⟩, fun z => (by cases z)⟩
    | noField => exact ⟨false, T.eFT, fun z => (by cases z), fun _ => ⟨true, T.eFF, fun _ e he => ⟨_, rfl, k⟩, fun z => (by cases z)⟩⟩
    | noRoom => exact ⟨false, T.eRT, fun z => (by cases z), fun _ => ⟨false, T.eRF, fun z => (by cases z), fun _ => ⟨true, T.eRR, fun _ e he => ⟨_, rfl, k⟩, fun z => (by cases z)⟩⟩⟩
    | notNow => exact ⟨false, T.eNT, fun z => (by cases z), fun _ => ⟨false, T.eNF, fun z => (by cases z), fun _ => ⟨false, T.eNR, fun z => (by cases z), fun _ => ⟨true, T.eNN, fun _ e he => ⟨_, rfl, k⟩, fun z => (by cases z)⟩⟩⟩⟩
end G

namespace G
open L2 PySem PyProof.Rows PySem.Spec
abbrev N_l_whole : List Str := ["_law_found"]
theorem sc_l_whole : FnScope N_l_whole ["_law_found"] (defScope s_l_whole) := ⟨rfl, rfl, rfl, by decide +kernel, rfl, by decide +kernel, by decide +kernel⟩
set_option maxRecDepth 100000 in
theorem ok_l_whole {P : Program} {w : World} {K : PySem.W.Frag} {mg : Str → Option Value} {base : Heap} (T : Txt K mg) (D : ∃ fd, FD K "_law_whole" "_law_whole" s_l_whole (He.fAd K ("_law_whole", none)) fd) (hg : mg "_law_whole" = some (.ref (He.ga K "_law_whole")))  : FnC P w K mg base CX0 lv_l_whole "_law_whole" (sp_l_whole K) := by
  refine fnC_mk D hg (N := N_l_whole) sc_l_whole (fun fd F => FunD.bindsN F fun _ _ _ _ _ _ us hl => match us, hl with | [_], _ => rfl) (fun vs H Q E h => ?_) fun cdv A outer s0 H vs Q E hr h => ?_
  · obtain ⟨v, d, rfl, hd, k⟩ := h
    rfl
  · have hu := hu_of hr
    refine ⟨_, (PSs.nox (pss_one (ps_ret (pe_and (pe_callB call_isi (by rfl) T.b_isinstance (by decide +kernel) (pa_cons (pv 0) (pa_cons (pe_bltn (v := .ty "int") rfl T.b_int (by decide +kernel) rfl) pa_nil))) (pe_one (pe_not (pe_callB call_isi (by rfl) T.b_isinstance (by decide +kernel) (pa_cons (pv 0) (pa_cons (pe_bltn (v := .ty "bool") rfl T.b_bool (by decide +kernel) rfl) pa_nil))))))))), ?_⟩
    obtain ⟨v, d, rfl, hd, k⟩ := h
    refine ⟨_, rfl, is_int hd ⟨_, rfl, ite2 (fun c => ⟨_, rfl, is_bool hd ⟨_, rfl, ?_⟩⟩) (fun c => ?_)⟩⟩
    · cases d <;> first | exact k | exact absurd c Bool.false_ne_true
    · cases d <;> first | exact k | exact absurd rfl c
end G

namespace G
open L2 PySem PyProof.Rows PySem.Spec
abbrev N_l_new : List Str := ["_law_size_here", "_law_k"]
theorem sc_l_new : FnScope N_l_new ["_law_size_here"] (defScope s_l_new) := ⟨rfl, rfl, rfl, by decide +kernel, rfl, by decide +kernel, by decide +kernel⟩
set_option maxRecDepth 100000 in
theorem ok_l_new {P : Program} {w : World} {K : PySem.W.Frag} {mg : Str → Option Value} {base : Heap} (T : Txt K mg) (D : ∃ fd, FD K "_law_new" "_law_new" s_l_new (He.fAd K ("_law_new", none)) fd) (hg : mg "_law_new" = some (.ref (He.ga K "_law_new")))  : FnC P w K mg base CX0 lv_l_new "_law_new" (sp_l_new K) := by
  refine fnC_mk D hg (N := N_l_new) sc_l_new (fun fd F => FunD.bindsN F fun _ _ _ _ _ _ us hl => match us, hl with | [_], _ => rfl) (fun vs H Q E h => ?_) fun cdv A outer s0 H vs Q E hr h => ?_
  · obtain ⟨n, rfl, k⟩ := h
    rfl
  · have hu := hu_of hr
    refine ⟨_, (PSs.nox (pss_one (ps_ret (pe_disp (pps_cons pe_str (pv 0) (pps_cons pe_str pe_dnewK (pps_cons pe_str (pe_lc (own := [("_law_k", 1)]) (g := gName 1) (tt := tYes) rfl sc_l_new.nd (pi_range1 rfl T.b_range (pa_cons pe_int pa_nil)) (blkOk_by (N := N_l_new) (sc := defScope s_l_new) (by decide +kernel)) (fun _ _ _ _ _ => pg_name (i := 1) sc_l_new.nd rfl (Or.inl rfl)) (fun _ _ _ _ _ => by exact pts_nil) (fun _ _ _ _ _ => by exact (pe_tup (pa_cons pe_str (pa_cons pe_int pa_nil))))) (pps_cons pe_str pe_str (pps_cons pe_str pe_int pps_nil))))) (by rfl) (by rfl) (fun z => by cases z) (by decide))))), ?_⟩
    obtain ⟨n, rfl, k⟩ := h
    refine fun d nd => ⟨_, rfl, fun tl ntl => ⟨8, rfl, by decide, by decide, fun hl nhl => lcR (n := 8) (fun i v H' => ∃ a, v = .ref a ∧ H a = none ∧ H' a = some (.tup [.str "number", .int 0])) (fun i v H0 H1 e ⟨a, h1, h2, h3⟩ => ⟨a, h1, h2, e _ _ h3⟩) (by decide) nhl (fun i H1 hi e KK Qn h1 => ?_) fun H1 ys e1 hl1 hys hyv => ?_⟩⟩
    · have s0 := (same_new (o := .dK []) nd).trans (same_new (o := .dK []) ntl)
      refine ⟨rfl, by show 2 ≤ sizeLine; decide, fun q hq => h1 _ _ (same_new hq) ⟨q, rfl, (s0.trans e).free hq, upd_same⟩⟩
    · have ndt : d ≠ tl := ne_of_none upd_same ntl
      have hd0 : (upd (upd H d (.dK [])) tl (.dK [])) d = some (.dK []) := by rw [upd_ne ndt, upd_same]
      have htl0 : (upd (upd H d (.dK [])) tl (.dK [])) tl = some (.dK []) := upd_same
      have s0 := (same_new (o := .dK []) nd).trans (same_new (o := .dK []) ntl)
      have ntl' : H tl = none := (same_new (o := .dK []) nd).free ntl
      have nhl' : H hl = none := s0.free nhl
      have ndh : d ≠ hl := ne_of_none hd0 nhl
      have nth : tl ≠ hl := ne_of_none htl0 nhl
      have hd1 := e1 _ _ hd0
      refine ⟨hd1, [(Sum.inr "size", .int n), (Sum.inr "things", .ref tl), (Sum.inr "hands", .ref hl), (Sum.inr "phase", .str "idle"), (Sum.inr "finger", .int 0)], rfl, (by show 5 ≤ 15; decide), ?_⟩
      have e01 := s0.trans e1
      have htl1 := e1 _ _ htl0
      refine k d (fun b => b = d ∨ b = tl ∨ b = hl ∨ H b = none ∧ ∃ i : Nat, ys[i]? = some (.ref b)) _ (fun b u hb => ?_) (fun b hb => ?_) ⟨fun g => if g = .hall then d else if g = .dc then tl else hl, rfl, fun g g' v v' e => ?_, fun g v => ?_, fun b hb => ?_, ⟨newD n tl hl, upd_same, newD_len n tl hl, newD_dv n tl hl⟩, ⟨ys, ?_, hys, fun i x hx => ?_⟩, ⟨[], ?_, List.Perm.refl _⟩, fun p t g => (by cases g), fun p t g => (by cases g)⟩
      · rw [upd_ne (ne_of_none hb nd)]
        exact e01 _ _ hb
      · rcases hb with rfl | rfl | rfl | hb
        · exact nd
        · exact ntl'
        · exact nhl'
        · exact hb.1
      · have nov : ∀ {q : Int} {t : Th}, get (newS n).mem q = some t → False := fun h => by cases h
        cases g <;> cases g' <;> first | rfl | exact v.elim | exact v'.elim | exact (nov v.choose_spec).elim | exact (nov v'.choose_spec).elim | exact absurd e ndt | exact absurd e.symm ndt | exact absurd e ndh | exact absurd e.symm ndh | exact absurd e nth | exact absurd e.symm nth
      · have nov : ∀ {q : Int} {t : Th}, get (newS n).mem q = some t → False := fun h => by cases h
        cases g <;> first | exact v.elim | exact (nov v.choose_spec).elim | exact .inl rfl | exact .inr (.inl rfl) | exact .inr (.inr (.inl rfl))
      · by_cases c : b = d
        · exact ⟨_, by rw [c, upd_same]⟩
        rw [upd_ne c]
        rcases hb with rfl | rfl | rfl | ⟨_, i, hi⟩
        · exact absurd rfl c
        · exact ⟨_, htl1⟩
        · exact ⟨_, hl1⟩
        · obtain ⟨a, h1, _, h3⟩ := hyv i _ hi
          cases h1
          exact ⟨_, h3⟩
      · show (upd H1 d _) hl = _
        rw [upd_ne ndh.symm]
        exact hl1
      · have hx0 : x = .num 0 := List.eq_of_mem_replicate (List.mem_of_getElem? hx)
        subst hx0
        have hi : i < ys.length := by
          rw [hys]
          exact (List.getElem?_eq_some_iff.mp hx).1
        obtain ⟨a, h1, h2, h3⟩ := hyv i _ (List.getElem?_eq_getElem hi)
        refine ⟨.ref a, by rw [List.getElem?_eq_getElem hi, h1], a, rfl, .inr (.inr (.inr ⟨h2, i, by rw [List.getElem?_eq_getElem hi, h1]⟩)), ?_⟩
        rw [upd_ne (ne_of h3 hd1 (by intro z; cases z))]
        exact h3
      · show (upd H1 d _) tl = _
        rw [upd_ne ndt.symm]
        exact htl1
end G

namespace G
open L2 PySem PyProof.Rows PySem.Spec
abbrev N_l_gap : List Str := ["_law_hand", "_law_words", "_law_at", "_law_place"]
theorem sc_l_gap : FnScope N_l_gap ["_law_hand", "_law_words"] (defScope s_l_gap) := ⟨rfl, rfl, rfl, by decide +kernel, rfl, by decide +kernel, by decide +kernel⟩
set_option maxRecDepth 100000 in
theorem ok_l_gap {P : Program} {w : World} {K : PySem.W.Frag} {mg : Str → Option Value} {base : Heap} (T : Txt K mg) (D : ∃ fd, FD K "_law_gap" "_law_gap" s_l_gap (He.fAd K ("_law_gap", none)) fd) (hg : mg "_law_gap" = some (.ref (He.ga K "_law_gap")))  : FnC P w K mg base CX0 lv_l_gap "_law_gap" (sp_l_gap K) := by
  refine fnC_mk D hg (N := N_l_gap) sc_l_gap (fun fd F => FunD.bindsN F fun _ _ _ _ _ _ us hl => match us, hl with | [_, _], _ => rfl) (fun vs H Q E h => ?_) fun cdv A outer s0 H vs Q E hr h => ?_
  · obtain ⟨ρ, s, O, w, rfl, R, hl, k⟩ := h
    rfl
  · have hu := hu_of hr
    refine ⟨_, (PSs.nox (pss_cons (ps_set (i := 2) sc_l_gap.nd rfl (Or.inl rfl) pe_int) (pss_cons (ps_for PassesOwn.never rfl (pi_list (pe_callB (call_sortedDA rfl) (by rfl) T.b_sorted (by decide +kernel) (pa_cons (pe_dget hu (pv 0) pe_str (fun _ _ => rfl)) pa_nil))) (pg_name (i := 3) sc_l_gap.nd rfl (Or.inl rfl)) (pss_cons (ps_if (pt_cmpR op_ge (pe_op op_sub (pv 3) (pv 2)) (pv 1) (nomark _)) (pss_one (ps_ret (pv 2))) pss_nil) (pss_one (ps_set (i := 2) sc_l_gap.nd rfl (Or.inl rfl) (pe_op op_add (pe_op op_add (pv 3) pe_int) (pe_callB call_len_seq (by rfl) T.b_len (by decide +kernel) (pa_cons (pe_ix ix_list (pe_dget hu (pe_dget hu (pv 0) pe_str (fun _ _ => rfl)) (pv 3) (fun _ _ => rfl)) pe_int (fun _ _ => rfl)) pa_nil))))))) (pss_cons (ps_if (pt_cmpR op_ge (pe_op op_sub (pe_dget hu (pv 0) pe_str (fun _ _ => rfl)) (pv 2)) (pv 1) (nomark _)) (pss_one (ps_ret (pv 2))) pss_nil) (pss_one (ps_ret pe_non)))))), ?_⟩
    obtain ⟨ρ, s, O, w, rfl, R, hl, k⟩ := h
    obtain ⟨kvs, ks, hd, hks, hys⟩ := R.srt hl
    refine ⟨_, rfl, _, _, rfl, R.gThings, _, kvs, ks, rfl, .inl hd, hks, fun ys p hy1 hy2 hn => ?_⟩
    rw [hys ys hy1 hy2]
    have s1 := same_new (o := .lst (s.mem.map fun x => V.int x.1)) hn
    have R1 := R.same s1
    refine ⟨p, rfl, ⟨_, .inl (.inl upd_same)⟩, for_list (K := K) (a := p) (xs := s.mem.map fun x => V.int x.1)
      (fun i σ H1 => ∃ (at' : Int) (v : Option V), σ = [some (.ref (ρ .hall)), some (.int w), some (.int at'), v] ∧ H1 = upd H p (.lst (s.mem.map fun x => V.int x.1)) ∧ gapF s.size w 0 s.mem = gapF s.size w at' (s.mem.drop i))
      ⟨0, none, rfl, rfl, rfl⟩ (fun i σ H1 _ ⟨_, _, _, e, _⟩ => by rw [e]; exact .inl (.inl upd_same)) ?_ ?_⟩
    · rintro i y σ H1 hi ⟨at', v, rfl, rfl, hg⟩
      obtain ⟨x, hx, rfl, hd⟩ := map_get hi
      rw [hd, gapF_cons] at hg
      have gx := mem_get hl (List.mem_of_getElem? hx)
      obtain ⟨vs, hv, hvs⟩ := R1.fl _ _ gx
      refine ⟨_, rfl, _, rfl, _, _, rfl, rfl, _, rfl, _, _, rfl, rfl, _, rfl, ?_⟩
      refine ite2 (fun c => ?_) (fun c => ?_)
      · have c' := of_decide_eq_true c
        refine ⟨_, rfl, ?_⟩
        have k1 := k _ s1
        unfold gap at k1
        rw [hg, if_pos c'] at k1
        exact k1
      · have c' : ¬ w ≤ x.1 - at' := fun z => c (decide_eq_true z)
        rw [if_neg c'] at hg
        refine ⟨_, rfl, _, _, rfl, rfl, _, rfl, _, _, rfl, R1.gThings, _, rfl, _, _, rfl, R1.gThing hl gx, _, _, _, _, rfl, rfl, .inl (.inl (R1.th _ _ gx)), rfl, _, vs, rfl, .inl (.inl (.inl hv)), _, _, rfl, rfl, _, _, rfl, rfl, ?_⟩
        rw [hg, hvs.1]
        unfold wd
        rw [Int.add_assoc]
    · rintro σ H1 ⟨at', v, rfl, rfl, hg⟩
      rw [drop_all, gapF_nil] at hg
      refine ⟨_, rfl, _, _, rfl, R1.gSize, _, rfl, _, _, rfl, rfl, _, rfl, _, _, rfl, rfl, _, rfl, ?_⟩
      have k1 := k _ s1
      unfold gap at k1
      refine ite2 (fun c => ?_) (fun c => ?_)
      · rw [hg, if_pos (of_decide_eq_true c)] at k1
        exact ⟨_, rfl, k1⟩
      · rw [hg, if_neg (fun z => c (decide_eq_true z))] at k1
        exact k1
end G

namespace G
open L2 PySem PyProof.Rows PySem.Spec
abbrev N_l_shade : List Str := ["_law_hand", "_law_value"]
theorem sc_l_shade : FnScope N_l_shade ["_law_hand", "_law_value"] (defScope s_l_shade) := ⟨rfl, rfl, rfl, by decide +kernel, rfl, by decide +kernel, by decide +kernel⟩
set_option maxRecDepth 100000 in
theorem ok_l_shade {P : Program} {w : World} {K : PySem.W.Frag} {mg : Str → Option Value} {base : Heap} (T : Txt K mg) (D : ∃ fd, FD K "_law_shade" "_law_shade" s_l_shade (He.fAd K ("_law_shade", none)) fd) (hg : mg "_law_shade" = some (.ref (He.ga K "_law_shade")))  : FnC P w K mg base CX0 lv_l_shade "_law_shade" (sp_l_shade K) := by
  refine fnC_mk D hg (N := N_l_shade) sc_l_shade (fun fd F => FunD.bindsN F fun _ _ _ _ _ _ us hl => match us, hl with | [_, _], _ => rfl) (fun vs H Q E h => ?_) fun cdv A outer s0 H vs Q E hr h => ?_
  · obtain ⟨ρ, s, O, v, x, rfl, R, hl, hv, hd, k⟩ := h
    rfl
  · have hu := hu_of hr
    refine ⟨_, (PSs.nox (pss_one (ps_if (PW.pt (pw_and (pt_cmpR op_eq (pe_ix ix_tup (pv 1) pe_int (fun _ _ => rfl)) pe_str (nomark _)) (pw_and1 (pt_cmpR op_eq (pe_ix ix_list (pe_dget hu (pe_dget hu (pv 0) pe_str (fun _ _ => rfl)) (pe_ix ix_tup (pv 1) pe_int (fun _ _ => rfl)) (fun _ _ => rfl)) pe_int (fun _ _ => rfl)) pe_str (nomark _))))) (pss_one (ps_asg pe_str (pg_sub (pe_dget hu (pe_dget hu (pv 0) pe_str (fun _ _ => rfl)) (pe_ix ix_tup (pv 1) pe_int (fun _ _ => rfl)) (fun _ _ => rfl)) pe_int set_list))) pss_nil))), ?_⟩
    obtain ⟨ρ, s, O, v, x, rfl, R, hl, hv, hd, k⟩ := h
    obtain ⟨va, rfl, _, hva⟩ := hv
    cases x with
    | num n => exact ⟨_, rfl, va, _, 0, _, rfl, rfl, .inl (.inl hva), rfl, rfl, _, rfl, iteSn (by decide +kernel) (k H (EntFr.refl _ _ _) R)⟩
    | held p =>
      obtain ⟨t, g⟩ := hd p (List.mem_singleton.mpr rfl)
      refine ⟨_, rfl, va, _, 0, _, rfl, rfl, .inl (.inl hva), rfl, rfl, _, rfl, iteSe ?_⟩
      refine ⟨_, rfl, _, _, rfl, R.gThings, _, rfl, va, _, 1, _, rfl, rfl, .inl (.inl hva), rfl, _, _, rfl, R.gThing hl g, _, _, _, _, rfl, rfl, .inl (.inl (R.th _ _ g)), rfl, rfl, _, rfl, ?_⟩
      have hid : (∀ u, get s.mem p = some u → toGrey u = u) → shade s.mem (.held p) = s.mem := fun h => by
        show modT s.mem p toGrey = s.mem
        rw [modT_congr (g := id) hl h, modT_id]
      refine ite2 (fun c => ?_) (fun c => ?_)
      · have c' : t.col = .white := colS_inj.mp (V.str.inj (of_decide_eq_true c))
        have R1 := R.setCol g .grey
        rw [show modT s.mem p (G.setCol .grey) = modT s.mem p toGrey from modT_congr hl fun u gu => by
          rw [g] at gu
          cases gu
          unfold toGrey
          rw [if_pos c']
          rfl] at R1
        refine ⟨_, rfl, _, _, rfl, R.gThings, _, rfl, va, _, 1, _, rfl, rfl, .inl (.inl hva), rfl, _, _, rfl, R.gThing hl g, _, _, _, 1, rfl, rfl, R.th _ _ g, ix_nat (by show 1 < 2; decide), k _ (fun b u hb hn => ?_) R1⟩
        rw [upd_ne (hn p t g)]
        exact hb
      · have c' : ¬ t.col = .white := fun z => c (decide_eq_true (by rw [z]; rfl))
        have e : shade s.mem (.held p) = s.mem := hid fun u gu => by
          rw [g] at gu
          cases gu
          unfold toGrey
          rw [if_neg c']
        rw [e] at k
        exact k H (EntFr.refl _ _ _) R
end G

namespace G
open L2 PySem PyProof.Rows PySem.Spec
abbrev N_l_grey : List Str := ["_law_hand", "_law_place"]
theorem sc_l_grey : FnScope N_l_grey ["_law_hand"] (defScope s_l_grey) := ⟨rfl, rfl, rfl, by decide +kernel, rfl, by decide +kernel, by decide +kernel⟩
set_option maxRecDepth 100000 in
theorem ok_l_grey {P : Program} {w : World} {K : PySem.W.Frag} {mg : Str → Option Value} {base : Heap} (T : Txt K mg) (D : ∃ fd, FD K "_law_grey" "_law_grey" s_l_grey (He.fAd K ("_law_grey", none)) fd) (hg : mg "_law_grey" = some (.ref (He.ga K "_law_grey")))  : FnC P w K mg base CX0 lv_l_grey "_law_grey" (sp_l_grey K) := by
  refine fnC_mk D hg (N := N_l_grey) sc_l_grey (fun fd F => FunD.bindsN F fun _ _ _ _ _ _ us hl => match us, hl with | [_], _ => rfl) (fun vs H Q E h => ?_) fun cdv A outer s0 H vs Q E hr h => ?_
  · obtain ⟨ρ, s, O, rfl, R, hl, hz, k⟩ := h
    rfl
  · have hu := hu_of hr
    refine ⟨_, (PSs.nox (pss_one (ps_ret (pe_lc (own := [("_law_place", 1)]) (g := gName 1) rfl sc_l_grey.nd (pi_list (pe_callB (call_sortedDA rfl) (by rfl) T.b_sorted (by decide +kernel) (pa_cons (pe_dget hu (pv 0) pe_str (fun _ _ => rfl)) pa_nil))) (blkOk_by (N := N_l_grey) (sc := defScope s_l_grey) (by decide +kernel)) (fun _ _ _ _ _ => pg_name (i := 1) sc_l_grey.nd rfl (Or.inl rfl)) (fun _ _ _ _ _ => by exact (pts_one (pt_cmpR op_eq (show PE _ _ (tOp (rIxL K) _ _) from (pe_ix ix_list (pe_dget hu (pe_dget hu (pv 0) pe_str (fun _ _ => rfl)) (pv 1) (fun _ _ => rfl)) pe_int (fun _ _ => rfl))) pe_str (nomark _)))) (fun _ _ _ _ _ => by exact (pv 1)))))), ?_⟩
    obtain ⟨ρ, s, O, rfl, R, hl, hz, k⟩ := h
    have h1000 := small_mem hl hz
    obtain ⟨kvs, ks, hd, hks, hys⟩ := R.srt hl
    refine ⟨_, rfl, _, _, rfl, R.gThings, _, kvs, ks, rfl, .inl hd, hks, fun ys p hy1 hy2 hn => ?_⟩
    rw [hys ys hy1 hy2]
    have s1 := same_new (o := .lst (s.mem.map fun x => V.int x.1)) hn
    have R1 := R.same s1
    refine ⟨p, rfl, ⟨_, .inl (.inl upd_same)⟩, fun D hD => lcL (ds := s.mem) (f := fun x => if isGrey x = true then some (.int x.1) else none) (.inl (.inl upd_same)) (by rw [List.length_map]) h1000 hD (fun j y x H2 hy hx e KK Qn q1 q2 => ?_) fun H2 e2 hD2 => ?_⟩
    · rw [List.getElem?_map, hx] at hy
      obtain rfl := Option.some.inj hy
      have R2 := R1.same e
      have gx := mem_get hl (List.mem_of_getElem? hx)
      refine ⟨rfl, _, rfl, _, _, rfl, R2.gThings, _, rfl, _, _, rfl, R2.gThing hl gx, _, _, _, _, rfl, rfl, .inl (.inl (R2.th _ _ gx)), rfl, rfl, _, rfl, ?_⟩
      refine ite2 (fun c => ?_) (fun c => ?_)
      · have c' : x.2.col = .grey := colS_inj.mp (V.str.inj (of_decide_eq_true c))
        exact ⟨_, rfl, q2 _ (if_pos (decide_eq_true c')) H2 (fun _ _ h => h)⟩
      · have c' : ¬ x.2.col = .grey := fun z => c (decide_eq_true (by rw [z]; rfl))
        exact q1 (if_neg (fun z => c' (of_decide_eq_true z))) H2 (fun _ _ h => h)
    · refine k D H2 (s1.free hD) (s1.trans e2) ?_
      rw [hD2, grey_map]
end G

namespace G
open L2 PySem PyProof.Rows PySem.Spec
abbrev N_l_settle : List Str := ["_law_hand", "_law_place"]
theorem sc_l_settle : FnScope N_l_settle ["_law_hand"] (defScope s_l_settle) := ⟨rfl, rfl, rfl, by decide +kernel, rfl, by decide +kernel, by decide +kernel⟩
set_option maxRecDepth 100000 in
theorem ok_l_settle {P : Program} {w : World} {K : PySem.W.Frag} {mg : Str → Option Value} {base : Heap} (T : Txt K mg) (D : ∃ fd, FD K "_law_settle" "_law_settle" s_l_settle (He.fAd K ("_law_settle", none)) fd) (hg : mg "_law_settle" = some (.ref (He.ga K "_law_settle"))) (m_l_grey : FnC P w K mg base CX0 lv_l_grey "_law_grey" (sp_l_grey K)) : FnC P w K mg base CX0 lv_l_settle "_law_settle" (sp_l_settle K) := by
  refine fnC_mk D hg (N := N_l_settle) sc_l_settle (fun fd F => FunD.bindsN F fun _ _ _ _ _ _ us hl => match us, hl with | [_], _ => rfl) (fun vs H Q E h => ?_) fun cdv A outer s0 H vs Q E hr h => ?_
  · obtain ⟨ρ, s, O, rfl, R, hl, hz, k⟩ := h
    rfl
  · have hu := hu_of hr
    refine ⟨_, (PSs.nox (pss_cons (ps_mid (ps_if (PW.pt (pw_and (pt_cmpR op_eq (pe_dget hu (pv 0) pe_str (fun _ _ => rfl)) pe_str (nomark _)) (pw_and1 (pt_not (pt_truth (pf_call m_l_grey hr (by decide) pass0 (pa_cons (pv 0) pa_nil)) (fun _ => rfl)))))) (pss_cons (ps_dput hu (pv 0) pe_str pe_str rfl) (pss_one (ps_dput hu (pv 0) pe_str pe_int rfl))) pss_nil)) (pss_one (ps_if (PW.pt (pw_and (pt_cmpR op_eq (pe_dget hu (pv 0) pe_str (fun _ _ => rfl)) pe_str (nomark _)) (pw_and1 (pt_not (pt_truth (pe_lock (pe_lc (own := [("_law_place", 1)]) (g := gName 1) rfl sc_l_settle.nd (pi_keys (pe_dget hu (pv 0) pe_str (fun _ _ => rfl))) (blkOk_by (N := N_l_settle) (sc := defScope s_l_settle) (by decide +kernel)) (fun _ _ _ _ _ => pg_name (i := 1) sc_l_settle.nd rfl (Or.inl rfl)) (fun _ _ _ _ _ => by exact (pts_one (pt_cmpR op_ge (pv 1) (pe_dget hu (pv 0) pe_str (fun _ _ => rfl)) (nomark _)))) (fun _ _ _ _ _ => by exact (pv 1)))) (fun _ => rfl)))))) (pss_one (ps_dput hu (pv 0) pe_str pe_str rfl)) pss_nil)))), ?_⟩
    obtain ⟨ρ, s, O, rfl, R, hl, hz, k⟩ := h
    refine ⟨fun σ H1 => σ = [some (.ref (ρ .hall)), none] ∧ IFr H O H1 O ∧ ByR H1 ρ (settle1 s) O, ?_, ?_⟩
    · refine ⟨_, rfl, _, _, rfl, R.gPhase, rfl, _, rfl, ?_⟩
      refine ite2 (fun c => ?_) (fun c => ?_)
      · have c' : s.ph = .mark := phS_inj.mp (V.str.inj (of_decide_eq_true c))
        refine ⟨_, rfl, ρ, s, O, rfl, R, hl, hz, fun l H1 nl e1 hl1 => ⟨_, .inl ⟨_, .inl (.inl hl1), rfl⟩, ?_⟩⟩
        have R1 := R.same e1
        cases eg : greyL s.mem with
        | nil =>
          have d' := greyL_nil.mp eg
          obtain ⟨kvs, hd, h5, dv⟩ := R1.dict
          refine iteT ⟨_, rfl, _, _, rfl, DPut.k (k := (Sum.inr "phase" : Key)) hd (lt1000 (by omega)), ?_⟩
          have h5' : (putK kvs (Sum.inr "phase" : Key) (V.str (phS .sweep))).length ≤ 5 := by rw [putK_old dv.phase]; exact h5
          have R2 := R1.setDict (ph := .sweep) (f := s.fin) h5' (dv.setPhase .sweep)
          obtain ⟨kvs2, hd2, h52, dv2⟩ := R2.dict
          refine ⟨_, rfl, _, _, rfl, DPut.k (k := (Sum.inr "finger" : Key)) hd2 (lt1000 (by omega)), ?_⟩
          have h52' : (putK kvs2 (Sum.inr "finger" : Key) (V.int 0)).length ≤ 5 := by rw [putK_old dv2.finger]; exact h52
          have R3 := R2.setDict (ph := .sweep) (f := 0) h52' (dv2.setFinger 0)
          refine ⟨rfl, ((IFr.same e1).trans R.al (IFr.upd (R1.own .hall trivial))).trans R.al (IFr.upd (R2.own .hall trivial)), ?_⟩
          unfold settle1
          rw [if_pos ⟨c', d'⟩]
          exact R3
        | cons g r =>
          refine iteF ⟨rfl, IFr.same e1, ?_⟩
          unfold settle1
          rw [if_neg (fun z => by rw [greyL_nil.mpr z.2] at eg; cases eg)]
          exact R1
      · have c' : ¬ s.ph = .mark := fun z => c (decide_eq_true (by rw [z]; rfl))
        refine ⟨rfl, IFr.refl H O, ?_⟩
        unfold settle1
        rw [if_neg (fun z => c' z.1)]
        exact R
    · rintro σ H1 ⟨rfl, fr, R1⟩
      have hl1 : Lay (settle1 s).size 0 (settle1 s).mem := by
        unfold settle1
        split <;> exact hl
      have h1000' : (settle1 s).mem.length ≤ 1000 := small_mem hl1 (by
        unfold settle1
        split <;> exact hz)
      unfold settle at k
      revert R1 hl1 h1000' k
      generalize settle1 s = s1
      intro k R1 hl1 h1000'
      refine ⟨_, rfl, _, _, rfl, R1.gPhase, rfl, _, rfl, ?_⟩
      refine ite2 (fun c => ?_) (fun c => ?_)
      · have c' : s1.ph = .sweep := phS_inj.mp (V.str.inj (of_decide_eq_true c))
        obtain ⟨kvs, ks, hd, hks, hp, hpp⟩ := R1.keys
        have hlen : kvs.length ≤ 1000 := by
          rw [hpp.length_eq]
          unfold pairs
          rw [List.length_map]
          exact h1000'
        refine ⟨_, _, hd, trivial, fun od => ?_⟩
        have lk := R1.lock (.frz od (.dK kvs))
        refine ⟨_, rfl, _, _, rfl, (lk _ (fun _ _ h => h)).1, _, od, rfl, .inl ⟨kvs, upd_same, fun D hD => lcK (f := geF s1.fin) upd_same hlen hD (fun i kv H2 hk e KK Qn q1 q2 => ?_) fun H2 e2 hD2 => ?_⟩⟩
        · obtain ⟨p, ep⟩ := key_int hks hk
          have eg : geF s1.fin kv = if s1.fin ≤ p then some (.int p) else none := by
            unfold geF
            rw [ep]
          rw [eg] at q1 q2
          rw [ep]
          refine ⟨rfl, _, rfl, _, rfl, _, _, rfl, (lk _ e).2, _, _, rfl, rfl, _, rfl, ite2 (fun c2 => ?_) (fun c2 => ?_)⟩
          · exact ⟨_, rfl, q2 _ (if_pos (of_decide_eq_true c2)) H2 (fun _ _ h => h)⟩
          · exact q1 (if_neg (fun z => c2 (decide_eq_true z))) H2 (fun _ _ h => h)
        · rw [geF_list s1.fin hks] at hD2
          have hdc := e2 _ _ (show (upd H1 (ρ .dc) (.frz od (.dK kvs))) (ρ .dc) = _ from upd_same)
          have e13 := unlock_same hd e2
          have nD : D ≠ ρ .dc := ne_of hD2 hdc (by intro z; cases z)
          have hD3 : (upd H2 (ρ .dc) (.dK kvs)) D = some (.lst ((ks.filter fun p => decide (s1.fin ≤ p)).map V.int)) := by
            rw [upd_ne nD]
            exact hD2
          refine ⟨hdc, _, .inl ⟨_, .inl (.inl hD3), rfl⟩, ?_⟩
          have R3 := R1.same e13
          cases en : (ks.filter fun p => decide (s1.fin ≤ p)) with
          | nil =>
            have d' := (ge_none hp s1.fin).mp en
            obtain ⟨kvs2, hd2, h52, dv2⟩ := R3.dict
            refine iteT ⟨_, rfl, _, _, rfl, DPut.k (k := (Sum.inr "phase" : Key)) hd2 (lt1000 (by omega)), ?_⟩
            have h52' : (putK kvs2 (Sum.inr "phase" : Key) (V.str (phS .idle))).length ≤ 5 := by rw [putK_old dv2.phase]; exact h52
            refine k _ ((fr.trans R.al (IFr.same e13)).trans R.al (IFr.upd (R3.own .hall trivial))) ?_
            unfold settle2
            rw [if_pos ⟨c', d'⟩]
            exact R3.setDict (ph := .idle) (f := s1.fin) h52' (dv2.setPhase .idle)
          | cons g r =>
            refine iteF (k _ (fr.trans R.al (IFr.same e13)) ?_)
            unfold settle2
            rw [if_neg (fun z => by rw [(ge_none hp s1.fin).mpr z.2] at en; cases en)]
            exact R3
      · have c' : ¬ s1.ph = .sweep := fun z => c (decide_eq_true (by rw [z]; rfl))
        refine k _ fr ?_
        unfold settle2
        rw [if_neg (fun z => c' z.1)]
        exact R1
end G

namespace G
open L2 PySem PyProof.Rows PySem.Spec
abbrev N_l_begin : List Str := ["_law_hand", "_law_value"]
theorem sc_l_begin : FnScope N_l_begin ["_law_hand"] (defScope s_l_begin) := ⟨rfl, rfl, rfl, by decide +kernel, rfl, by decide +kernel, by decide +kernel⟩
set_option maxRecDepth 100000 in
theorem ok_l_begin {P : Program} {w : World} {K : PySem.W.Frag} {mg : Str → Option Value} {base : Heap} (T : Txt K mg) (D : ∃ fd, FD K "_law_begin" "_law_begin" s_l_begin (He.fAd K ("_law_begin", none)) fd) (hg : mg "_law_begin" = some (.ref (He.ga K "_law_begin"))) (m_l_settle : FnC P w K mg base CX0 lv_l_settle "_law_settle" (sp_l_settle K)) (m_l_shade : FnC P w K mg base CX0 lv_l_shade "_law_shade" (sp_l_shade K)) : FnC P w K mg base CX0 lv_l_begin "_law_begin" (sp_l_begin K) := by
  refine fnC_mk D hg (N := N_l_begin) sc_l_begin (fun fd F => FunD.bindsN F fun _ _ _ _ _ _ us hl => match us, hl with | [_], _ => rfl) (fun vs H Q E h => ?_) fun cdv A outer s0 H vs Q E hr h => ?_
  · obtain ⟨ρ, s, O, L, rfl, R, iv, hz, k⟩ := h
    rfl
  · have hu := hu_of hr
    refine ⟨_, (PSs.nox (pss_cons (ps_dput hu (pv 0) pe_str pe_str rfl) (pss_cons (ps_for PassesOwn.never rfl (pi_list (pe_dget hu (pv 0) pe_str (fun _ _ => rfl))) (pg_name (i := 1) sc_l_begin.nd rfl (Or.inl rfl)) (pss_one (ps_expr (pf_call m_l_shade hr (by decide) pass0 (pa_cons (pv 0) (pa_cons (pv 1) pa_nil)))))) (pss_one (ps_expr (pf_call m_l_settle hr (by decide) pass0 (pa_cons (pv 0) pa_nil))))))), ?_⟩
    obtain ⟨ρ, s, O, L, rfl, R, iv, hz, k⟩ := h
    have hl := iv.core.lay
    obtain ⟨kvs, hd, h5, dv⟩ := R.dict
    refine ⟨_, rfl, _, _, rfl, DPut.k (k := (Sum.inr "phase" : Key)) hd (lt1000 (by omega)), ?_⟩
    have h5' : (putK kvs (Sum.inr "phase" : Key) (V.str (phS .mark))).length ≤ 5 := by rw [putK_old dv.phase]; exact h5
    have R1 := R.setDict (ph := .mark) (f := s.fin) h5' (dv.setPhase .mark)
    have fr1 : IFr H O _ O := IFr.upd (o := .dK (putK kvs (Sum.inr "phase" : Key) (V.str (phS .mark)))) (R.own .hall trivial)
    obtain ⟨vs, hv, hvs⟩ := R1.hl
    refine ⟨_, rfl, _, _, rfl, R1.gHands, _, rfl, ⟨_, .inl (.inl hv)⟩, for_list (K := K) (a := ρ .hl) (xs := vs)
      (fun i σ H2 => ∃ v, σ = [some (.ref (ρ .hall)), v] ∧ IFr H O H2 O ∧ H2 (ρ .hl) = some (.lst vs) ∧ ByR H2 ρ { s with ph := .mark, mem := shadeAll s.mem (s.hands.take i) } O)
      ⟨none, rfl, fr1, hv, R1⟩ (fun i σ H2 _ ⟨_, _, _, e, _⟩ => .inl (.inl e)) ?_ ?_⟩
    · rintro i y σ H2 hi ⟨v, rfl, fr, hv2, R2⟩
      have sh := shadeAll_shd (s.hands.take i) s.mem
      obtain ⟨vs2, e2, hvs2⟩ := R2.hl
      rw [hv2] at e2
      cases e2
      obtain ⟨x, hx, hxv⟩ := hvs2.get hi
      have hx' : s.hands[i]? = some x := hx
      have hl2 : Lay s.size 0 (shadeAll s.mem (s.hands.take i)) := lay_shadeAll _ hl
      refine ⟨_, rfl, _, rfl, ρ, _, O, y, x, rfl, R2, hl2, hxv, fun p hp => ?_, fun H3 ent R3 => ?_⟩
      · obtain rfl := List.mem_singleton.mp hp
        obtain ⟨u, gu⟩ := iv.core.inL p (iv.core.hL p (List.mem_of_getElem? hx'))
        obtain ⟨u', h, _⟩ := sh.get gu
        exact ⟨u', h⟩
      · refine ⟨_, rfl, fr.trans R.al (ent.ifr R2), ent _ _ hv2 fun p t g => R2.ne (g := .hl) (g' := .th p) trivial ⟨t, g⟩ (by simp), ?_⟩
        rw [List.take_add_one, hx']
        show ByR H3 ρ { s with ph := .mark, mem := (s.hands.take i ++ [x]).foldl shade s.mem } O
        rw [List.foldl_append]
        exact R3
    · rintro σ H2 ⟨v, rfl, fr, hv2, R2⟩
      have e : s.hands.take vs.length = s.hands := List.take_of_length_le (by rw [hvs.1]; exact Nat.le_refl _)
      rw [e] at R2
      refine ⟨_, rfl, ρ, _, O, rfl, R2, lay_shadeAll _ hl, hz, fun H3 fr3 R3 => k H3 (fr.trans R.al fr3) R3⟩
end G

namespace G
open L2 PySem PyProof.Rows PySem.Spec
abbrev N_l_part : List Str := ["_law_hand", "_law_thing", "_law_value", "_law_place"]
theorem sc_l_part : FnScope N_l_part ["_law_hand"] (defScope s_l_part) := ⟨rfl, rfl, rfl, by decide +kernel, rfl, by decide +kernel, by decide +kernel⟩
set_option maxRecDepth 100000 in
theorem ok_l_part {P : Program} {w : World} {K : PySem.W.Frag} {mg : Str → Option Value} {base : Heap} (T : Txt K mg) (D : ∃ fd, FD K "_law_part" "_law_part" s_l_part (He.fAd K ("_law_part", none)) fd) (hg : mg "_law_part" = some (.ref (He.ga K "_law_part"))) (m_l_settle : FnC P w K mg base CX0 lv_l_settle "_law_settle" (sp_l_settle K)) (m_l_shade : FnC P w K mg base CX0 lv_l_shade "_law_shade" (sp_l_shade K)) (m_l_grey : FnC P w K mg base CX0 lv_l_grey "_law_grey" (sp_l_grey K)) : FnC P w K mg base CX0 lv_l_part "_law_part" (sp_l_part K) := by
  refine fnC_mk D hg (N := N_l_part) sc_l_part (fun fd F => FunD.bindsN F fun _ _ _ _ _ _ us hl => match us, hl with | [_], _ => rfl) (fun vs H Q E h => ?_) fun cdv A outer s0 H vs Q E hr h => ?_
  · obtain ⟨ρ, s, O, L, rfl, R, iv, hz, hp, k⟩ := h
    rfl
  · have hu := hu_of hr
    refine ⟨_, (PSs.nox (pss_cons (ps_mid (ps_if (pt_cmpR op_eq (pe_dget hu (pv 0) pe_str (fun _ _ => rfl)) pe_str (nomark _)) (pss_cons (ps_set (i := 1) sc_l_part.nd rfl (Or.inl rfl) (pe_dget hu (pe_dget hu (pv 0) pe_str (fun _ _ => rfl)) (pe_ix ix_list (pf_call m_l_grey hr (by decide) pass0 (pa_cons (pv 0) pa_nil)) pe_int (fun _ _ => rfl)) (fun _ _ => rfl))) (pss_cons (ps_for PassesOwn.never rfl (pi_list (pe_ix ix_list (pv 1) pe_int (fun _ _ => rfl))) (pg_name (i := 2) sc_l_part.nd rfl (Or.inl rfl)) (pss_one (ps_expr (pf_call m_l_shade hr (by decide) pass0 (pa_cons (pv 0) (pa_cons (pv 2) pa_nil)))))) (pss_one (ps_asg pe_str (pg_sub (pv 1) pe_int set_list))))) (pss_cons (ps_set (i := 3) sc_l_part.nd rfl (Or.inl rfl) (pe_callB (cr_min rfl) (by rfl) T.b_min (by decide +kernel) (pa_cons (pe_lock (pe_lc (own := [("_law_place", 3)]) (g := gName 3) rfl sc_l_part.nd (pi_keys (pe_dget hu (pv 0) pe_str (fun _ _ => rfl))) (blkOk_by (N := N_l_part) (sc := defScope s_l_part) (by decide +kernel)) (fun _ _ _ _ _ => pg_name (i := 3) sc_l_part.nd rfl (Or.inl rfl)) (fun _ _ _ _ _ => by exact (pts_one (pt_cmpR op_ge (pv 3) (pe_dget hu (pv 0) pe_str (fun _ _ => rfl)) (nomark _)))) (fun _ _ _ _ _ => by exact (pv 3)))) pa_nil))) (pss_cons (ps_dput hu (pv 0) pe_str (pe_op op_add (pe_op op_add (pv 3) pe_int) (pe_callB call_len_seq (by rfl) T.b_len (by decide +kernel) (pa_cons (pe_ix ix_list (pe_dget hu (pe_dget hu (pv 0) pe_str (fun _ _ => rfl)) (pv 3) (fun _ _ => rfl)) pe_int (fun _ _ => rfl)) pa_nil))) rfl) (pss_one (ps_if (pt_cmpR op_eq (pe_ix ix_list (pe_dget hu (pe_dget hu (pv 0) pe_str (fun _ _ => rfl)) (pv 3) (fun _ _ => rfl)) pe_int (fun _ _ => rfl)) pe_str (nomark _)) (pss_one (ps_expr (pe_dpop1 (pe_dget hu (pv 0) pe_str (fun _ _ => rfl)) (pv 3) ⟨rfl, rfl, rfl, rfl⟩))) (pss_one (ps_asg pe_str (pg_sub (pe_dget hu (pe_dget hu (pv 0) pe_str (fun _ _ => rfl)) (pv 3) (fun _ _ => rfl)) pe_int set_list))))))))) (pss_one (ps_expr (pf_call m_l_settle hr (by decide) pass0 (pa_cons (pv 0) pa_nil)))))), ?_⟩
    obtain ⟨ρ, s, O, L, rfl, R, iv, hz, hp, k⟩ := h
    have hl := iv.core.lay
    refine ⟨fun σ H1 => ∃ y1 y2 y3, σ = [some (.ref (ρ .hall)), y1, y2, y3] ∧ IFr H O H1 O ∧ ByR H1 ρ (if s.ph = .mark then markPart s else sweepPart s) O, ?_, ?_⟩
    · refine ⟨_, rfl, _, _, rfl, R.gPhase, rfl, _, rfl, ?_⟩
      refine ite2 (fun c => ?_) (fun c => ?_)
      · have c' : s.ph = .mark := phS_inj.mp (V.str.inj (of_decide_eq_true c))
        obtain ⟨h, hgr⟩ := iv.mark c'
        cases e : leastGrey s.mem with
        | none => exact absurd e hgr
        | some g =>
          obtain ⟨t, gt, ct⟩ := lg_some hl e
          have hL := h.1 g t gt (by rw [ct]; decide)
          have hd : Dom s.mem t.fs := fun p hm => iv.core.inL p (iv.core.fL g p t hL gt hm)
          obtain ⟨r, eg⟩ := greyL_cons e
          refine ⟨_, rfl, _, _, rfl, R.gThings, _, rfl, ρ, s, O, rfl, R, hl, hz, fun l H1 nl e1 hl1 => ?_⟩
          rw [eg] at hl1
          have R1 := R.same e1
          obtain ⟨vs, hv, hvs⟩ := R1.fl g t gt
          refine ⟨_, _, _, _, rfl, rfl, .inl (.inl hl1), atI_nat (j := 0) rfl, _, _, rfl, R1.gThing hl gt, ?_⟩
          refine ⟨_, rfl, _, _, _, _, rfl, rfl, .inl (.inl (R1.th _ _ gt)), rfl, _, rfl, ⟨_, .inl (.inl hv)⟩, for_list (K := K) (a := ρ (.fl g)) (xs := vs)
            (fun i σ H2 => ∃ v, σ = [some (.ref (ρ .hall)), some (.ref (ρ (.th g))), v, none] ∧ IFr H O H2 O ∧ H2 (ρ (.fl g)) = some (.lst vs) ∧ ByR H2 ρ { s with mem := shadeAll s.mem (t.fs.take i) } O)
            ⟨none, rfl, IFr.same e1, hv, R1⟩ (fun i σ H2 _ ⟨_, _, _, e, _⟩ => .inl (.inl e)) ?_ ?_⟩
          · rintro i y σ H2 hi ⟨v, rfl, fr, hv2, R2⟩
            have sh := shadeAll_shd (t.fs.take i) s.mem
            obtain ⟨t1, gt1, _, ef⟩ := sh.get gt
            obtain ⟨vs2, e2, hvs2⟩ := R2.fl g t1 gt1
            rw [hv2] at e2
            cases e2
            obtain ⟨x, hx, hxv⟩ := hvs2.get hi
            rw [ef] at hx
            have hl2 : Lay s.size 0 (shadeAll s.mem (t.fs.take i)) := lay_shadeAll _ hl
            refine ⟨_, rfl, _, rfl, ρ, _, O, y, x, rfl, R2, hl2, hxv, fun p hp => ?_, fun H3 ent R3 => ?_⟩
            · obtain rfl := List.mem_singleton.mp hp
              obtain ⟨u, gu⟩ := hd p (List.mem_of_getElem? hx)
              obtain ⟨u', h, _⟩ := sh.get gu
              exact ⟨u', h⟩
            · refine ⟨_, rfl, fr.trans R.al (ent.ifr R2), ent _ _ hv2 fun p t g' => R2.ne (g := .fl g) (g' := .th p) ⟨t1, gt1⟩ ⟨t, g'⟩ (by simp), ?_⟩
              rw [List.take_add_one, hx]
              show ByR H3 ρ { s with mem := (t.fs.take i ++ [x]).foldl shade s.mem } O
              rw [List.foldl_append]
              exact R3
          · rintro σ H2 ⟨v, rfl, fr, hv2, R2⟩
            have e' : t.fs.take vs.length = t.fs := List.take_of_length_le (by rw [hvs.1]; exact Nat.le_refl _)
            rw [e'] at R2
            obtain ⟨t1, gt1, _, ef⟩ := (shadeAll_shd t.fs s.mem).get gt
            have R3 := R2.setCol gt1 .black
            refine ⟨_, rfl, _, _, _, 1, rfl, rfl, R2.th _ _ gt1, ix_nat (by show 1 < 2; decide), _, _, _, rfl, fr.trans R.al (IFr.upd (R2.own (.th g) ⟨t1, gt1⟩)), ?_⟩
            rw [if_pos c']
            unfold markPart
            rw [e]
            simp only [gt]
            exact R3
      · have c' : ¬ s.ph = .mark := fun z => c (decide_eq_true (by rw [z]; rfl))
        have c2 : s.ph = .sweep := by cases e : s.ph <;> simp_all
        obtain ⟨h, hgr⟩ := iv.sweep c2
        cases e : nextFrom s.mem s.fin with
        | none => exact absurd e hgr
        | some g =>
          obtain ⟨_, ⟨t, gt⟩, _⟩ := nf_some hl e
          obtain ⟨kvs, ks, hd, hks, hp', hpp⟩ := R.keys
          have h1000 := small_mem hl hz
          have hlen : kvs.length ≤ 1000 := by
            rw [hpp.length_eq]
            unfold pairs
            rw [List.length_map]
            exact h1000
          obtain ⟨hne, hmin⟩ := ge_min hl hp' e
          refine ⟨_, _, hd, trivial, fun od => ?_⟩
          have lk := R.lock (.frz od (.dK kvs))
          refine ⟨_, rfl, _, _, rfl, (lk _ (fun _ _ h => h)).1, _, od, rfl, .inl ⟨kvs, upd_same, fun D hD => lcK (f := geF s.fin) upd_same hlen hD (fun i kv H2 hk e KK Qn q1 q2 => ?_) fun H2 e2 hD2 => ?_⟩⟩
          · obtain ⟨p, ep⟩ := key_int hks hk
            have eg : geF s.fin kv = if s.fin ≤ p then some (.int p) else none := by
              unfold geF
              rw [ep]
            rw [eg] at q1 q2
            rw [ep]
            refine ⟨rfl, _, rfl, _, rfl, _, _, rfl, (lk _ e).2, _, _, rfl, rfl, _, rfl, ite2 (fun c2 => ?_) (fun c2 => ?_)⟩
            · exact ⟨_, rfl, q2 _ (if_pos (of_decide_eq_true c2)) H2 (fun _ _ h => h)⟩
            · exact q1 (if_neg (fun z => c2 (decide_eq_true z))) H2 (fun _ _ h => h)
          · rw [geF_list s.fin hks] at hD2
            have hdc := e2 _ _ (show (upd H (ρ .dc) (.frz od (.dK kvs))) (ρ .dc) = _ from upd_same)
            have e13 := unlock_same hd e2
            have nD : D ≠ ρ .dc := ne_of hD2 hdc (by intro z; cases z)
            have hD3 : (upd H2 (ρ .dc) (.dK kvs)) D = some (.lst ((ks.filter fun p => decide (s.fin ≤ p)).map V.int)) := by
              rw [upd_ne nD]
              exact hD2
            refine ⟨hdc, D, _, rfl, .inl (.inl hD3), List.length_pos_iff.mpr hne, fun w hw hw2 => ?_⟩
            obtain rfl := hmin w hw hw2
            revert e13
            generalize upd H2 (ρ .dc) (.dK kvs) = H3
            intro e13
            have R3 := R.same e13
            obtain ⟨vs, hv, hvs⟩ := R3.fl w t gt
            obtain ⟨kvs2, hd2, h52, dv2⟩ := R3.dict
            refine ⟨_, rfl, _, _, rfl, rfl, _, rfl, _, _, rfl, R3.gThings, _, rfl, _, _, rfl, R3.gThing hl gt, _, _, _, _, rfl, rfl, .inl (.inl (R3.th _ _ gt)), rfl, _, vs, rfl, .inl (.inl (.inl hv)), _, _, rfl, rfl, _, rfl, _, _, rfl, DPut.k (k := (Sum.inr "finger" : Key)) hd2 (lt1000 (by omega)), ?_⟩
            have ew : w + 2 + (vs.length : Int) = w + wd t := by
              rw [hvs.1]
              unfold wd
              rw [Int.add_assoc]
            have h52' : (putK kvs2 (Sum.inr "finger" : Key) (V.int (w + 2 + (vs.length : Int)))).length ≤ 5 := by rw [putK_old dv2.finger]; exact h52
            have R4 := R3.setDict (ph := s.ph) (f := w + 2 + (vs.length : Int)) h52' (dv2.setFinger (w + 2 + (vs.length : Int)))
            have fr4 := (IFr.same e13 (O := O)).trans R.al (IFr.upd (o := .dK (putK kvs2 (Sum.inr "finger" : Key) (V.int (w + 2 + (vs.length : Int))))) (R3.own .hall trivial))
            revert R4 fr4
            generalize upd H3 (ρ .hall) (.dK (putK kvs2 (Sum.inr "finger" : Key) (V.int (w + 2 + (vs.length : Int))))) = H4
            intro R4 fr4
            rw [ew] at R4
            have es : sweepPart s = { s with fin := w + wd t, mem := if t.col = .white then del s.mem w else modT s.mem w (G.setCol .white) } := by
              unfold sweepPart
              rw [e]
              simp only [gt]
            have gt1 : get ({ s with ph := s.ph, fin := w + wd t } : St).mem w = some t := gt
            have hl1 : Lay ({ s with ph := s.ph, fin := w + wd t } : St).size 0 ({ s with ph := s.ph, fin := w + wd t } : St).mem := hl
            refine ⟨_, rfl, _, _, rfl, R4.gThings, _, rfl, _, _, rfl, R4.gThing hl1 gt1, _, _, _, _, rfl, rfl, .inl (.inl (R4.th _ _ gt1)), rfl, rfl, _, rfl, ?_⟩
            refine ite2 (fun c => ?_) (fun c => ?_)
            · have c' : t.col = .white := colS_inj.mp (V.str.inj (of_decide_eq_true c))
              obtain ⟨kvs5, hd5, hp5⟩ := R4.dc
              refine ⟨_, rfl, _, _, rfl, R4.gThings, _, rfl, .inl ⟨_, .inl hd5⟩, _, rfl, kvs5, Sum.inl w, _, hd5, rfl, dict_some hl1 hp5 gt1, _, _, _, rfl, fr4.trans R.al (IFr.upd (R4.own .dc trivial)), ?_⟩
              rw [if_neg ‹_›, es, if_pos c']
              exact R4.drop hp5
            · have c' : ¬ t.col = .white := fun z => c (decide_eq_true (by rw [z]; rfl))
              refine ⟨_, rfl, _, _, rfl, R4.gThings, _, rfl, _, _, rfl, R4.gThing hl1 gt1, _, _, _, 1, rfl, rfl, R4.th _ _ gt1, ix_nat (by show 1 < 2; decide), _, _, _, rfl, fr4.trans R.al (IFr.upd (R4.own (.th w) ⟨t, gt1⟩)), ?_⟩
              rw [if_neg ‹_›, es, if_neg c']
              exact R4.setCol gt1 .white
    · rintro σ H1 ⟨y1, y2, y3, rfl, fr, R1⟩
      have hl1 : Lay (if s.ph = .mark then markPart s else sweepPart s).size 0 (if s.ph = .mark then markPart s else sweepPart s).mem := by
        split
        · exact lay_markPart hl
        · exact lay_sweepPart hl
      have hz1 : (if s.ph = .mark then markPart s else sweepPart s).size ≤ 1000 := by
        have h1 : (markPart s).size = s.size := by
          unfold markPart
          split
          · rfl
          · split <;> rfl
        have h2 : (sweepPart s).size = s.size := by
          unfold sweepPart
          split
          · rfl
          · split <;> rfl
        split
        · rw [h1]; exact hz
        · rw [h2]; exact hz
      exact ⟨_, rfl, ρ, _, O, rfl, R1, hl1, hz1, fun H2 fr2 R2 => k H2 (fr.trans R.al fr2) R2⟩
end G

namespace G
open L2 PySem PyProof.Rows PySem.Spec
abbrev N_l_steps : List Str := ["_law_hand", "_law_n", "_law_many"]
theorem sc_l_steps : FnScope N_l_steps ["_law_hand", "_law_n"] (defScope s_l_steps) := ⟨rfl, rfl, rfl, by decide +kernel, rfl, by decide +kernel, by decide +kernel⟩
set_option maxRecDepth 100000 in
theorem ok_l_steps {P : Program} {w : World} {K : PySem.W.Frag} {mg : Str → Option Value} {base : Heap} (T : Txt K mg) (D : ∃ fd, FD K "_law_steps" "_law_steps" s_l_steps (He.fAd K ("_law_steps", none)) fd) (hg : mg "_law_steps" = some (.ref (He.ga K "_law_steps"))) (m_l_part : FnC P w K mg base CX0 lv_l_part "_law_part" (sp_l_part K)) : FnC P w K mg base CX0 lv_l_steps "_law_steps" (sp_l_steps K) := by
  refine fnC_mk D hg (N := N_l_steps) sc_l_steps (fun fd F => FunD.bindsN F fun _ _ _ _ _ _ us hl => match us, hl with | [_, _], _ => rfl) (fun vs H Q E h => ?_) fun cdv A outer s0 H vs Q E hr h => ?_
  · obtain ⟨ρ, s, O, L, n, rfl, R, i, hz, k⟩ := h
    rfl
  · have hu := hu_of hr
    refine ⟨_, (PSs.nox (pss_cons (ps_set (i := 2) sc_l_steps.nd rfl (Or.inl rfl) pe_int) (pss_cons (ps_while PassesOwn.never (PW.pt (pw_and (pt_cmpR op_lt (pv 2) (pv 1) (nomark _)) (pw_and1 (pt_cmpR op_ne (pe_dget hu (pv 0) pe_str (fun _ _ => rfl)) pe_str (nomark _))))) (pss_cons (ps_expr (pf_call m_l_part hr (by decide) pass0 (pa_cons (pv 0) pa_nil))) (pss_one (ps_set (i := 2) sc_l_steps.nd rfl (Or.inl rfl) (pe_op op_add (pv 2) pe_int))))) (pss_one (ps_ret (pv 2)))))), ?_⟩
    obtain ⟨ρ, s, O, L, n, rfl, R, i, hz, k⟩ := h
    refine ⟨fun m σ H1 => ∃ (d : Nat) (s1 : St), σ = [some (.ref (ρ .hall)), some (.int n), some (.int d)] ∧ IFr H O H1 O ∧ ByR H1 ρ s1 O ∧ G.Inv s1 L ∧ s1.size ≤ 1000 ∧ d + m = n ∧ stepN n s = (d + (stepN m s1).1, (stepN m s1).2), ⟨n, 0, s, rfl, IFr.refl H O, R, i, hz, by omega, by simp⟩, ?_⟩
    rintro m σ H1 ⟨d, s1, rfl, fr, R1, i1, hz1, hd, hs⟩
    have fin : stepN m s1 = (0, s1) → Q (.int d) H1 := fun e => by
      have k1 := k H1 fr
      rw [hs, e] at k1
      exact k1 R1
    refine ⟨_, rfl, _, rfl, _, _, rfl, rfl, _, rfl, ?_⟩
    refine ite2 (fun c => ?_) (fun c => ?_)
    · have c' : (d : Int) < n := of_decide_eq_true c
      refine ⟨_, rfl, _, _, rfl, R1.gPhase, rfl, _, rfl, ?_⟩
      by_cases e : s1.ph = .idle
      · refine iteNS (by rw [e]; rfl) ⟨_, rfl, fin ?_⟩
        cases m with
        | zero => rfl
        | succ m =>
          unfold stepN
          rw [if_pos e]
      · refine iteNN (ph_ne (b := .idle) e) ?_
        obtain ⟨m', rfl⟩ : ∃ m', m = m' + 1 := ⟨m - 1, by omega⟩
        refine ⟨fun σ2 H2 => ∃ (d : Nat) (s1 : St), σ2 = [some (.ref (ρ .hall)), some (.int n), some (.int d)] ∧ IFr H O H2 O ∧ ByR H2 ρ s1 O ∧ G.Inv s1 L ∧ s1.size ≤ 1000 ∧ d + m' = n ∧ stepN n s = (d + (stepN m' s1).1, (stepN m' s1).2), fun σ2 H2 w => ⟨m', by omega, w⟩, ?_⟩
        refine ⟨_, rfl, ρ, s1, O, L, rfl, R1, i1, hz1, e, fun H2 fr2 R2 => ?_⟩
        refine ⟨_, rfl, _, _, rfl, rfl, d + 1, part s1, rfl, fr.trans R.al fr2, R2, (part_ok i1 e).1, ?_, by omega, ?_⟩
        · have hk := (part_ok i1 e).2.1.size
          omega
        rw [hs]
        conv => lhs; unfold stepN
        rw [if_neg e]
        simp only [Prod.mk.injEq, and_true]
        omega
    · have c' : ¬ (d : Int) < n := fun z => c (decide_eq_true z)
      obtain rfl : m = 0 := by omega
      exact ⟨_, rfl, fin rfl⟩
end G

namespace G
open L2 PySem PyProof.Rows PySem.Spec
abbrev N_l_moved : List Str := ["_law_value", "_law_places"]
theorem sc_l_moved : FnScope N_l_moved ["_law_value", "_law_places"] (defScope s_l_moved) := ⟨rfl, rfl, rfl, by decide +kernel, rfl, by decide +kernel, by decide +kernel⟩
set_option maxRecDepth 100000 in
theorem ok_l_moved {P : Program} {w : World} {K : PySem.W.Frag} {mg : Str → Option Value} {base : Heap} (T : Txt K mg) (D : ∃ fd, FD K "_law_moved" "_law_moved" s_l_moved (He.fAd K ("_law_moved", none)) fd) (hg : mg "_law_moved" = some (.ref (He.ga K "_law_moved")))  : FnC P w K mg base CX0 lv_l_moved "_law_moved" (sp_l_moved K) := by
  refine fnC_mk D hg (N := N_l_moved) sc_l_moved (fun fd F => FunD.bindsN F fun _ _ _ _ _ _ us hl => match us, hl with | [_, _], _ => rfl) (fun vs H Q E h => ?_) fun cdv A outer s0 H vs Q E hr h => ?_
  · obtain ⟨O, v, x, P, od, kvs, rfl, hv, hP, kn, kh⟩ := h
    rfl
  · have hu := hu_of hr
    refine ⟨_, (PSs.nox (pss_cons (ps_if (pt_cmpR op_eq (pe_ix ix_tup (pv 0) pe_int (fun _ _ => rfl)) pe_str (nomark _)) (pss_one (ps_ret (pe_tup (pa_cons pe_str (pa_cons (pe_dget hu (pv 1) (pe_ix ix_tup (pv 0) pe_int (fun _ _ => rfl)) (fun _ _ => rfl)) pa_nil))))) pss_nil) (pss_one (ps_ret (pv 0))))), ?_⟩
    obtain ⟨O, v, x, P, od, kvs, rfl, hv, hP, kn, kh⟩ := h
    obtain ⟨va, rfl, _, hva⟩ := hv
    cases x with
    | num n => exact ⟨_, rfl, va, _, 0, _, rfl, rfl, .inl (.inl hva), rfl, rfl, _, rfl, iteSn (by decide +kernel) ⟨_, rfl, kn n rfl⟩⟩
    | held p =>
      obtain ⟨z, hz, kk⟩ := kh p rfl
      refine ⟨_, rfl, va, _, 0, _, rfl, rfl, .inl (.inl hva), rfl, rfl, _, rfl, iteSe ?_⟩
      refine ⟨_, rfl, _, rfl, va, _, 1, _, rfl, rfl, .inl (.inl hva), rfl, P, _, rfl, ?_, by show 2 ≤ sizeLine; decide, fun q hq => kk q hq⟩
      rw [← hz]
      rcases hP with hP | hP
      · exact .inl ⟨_, Sum.inl p, .inl hP, rfl, rfl⟩
      · exact .inl ⟨_, Sum.inl p, .inr ⟨od, hP⟩, rfl, rfl⟩
end G

namespace G
open L2 PySem PyProof.Rows PySem.Spec
abbrev N_l_slide : List Str := ["_law_hand", "_law_places", "_law_at", "_law_place", "_law_things", "_law_fields", "_law_value"]
theorem sc_l_slide : FnScope N_l_slide ["_law_hand"] (defScope s_l_slide) := ⟨rfl, rfl, rfl, by decide +kernel, rfl, by decide +kernel, by decide +kernel⟩
set_option maxRecDepth 100000 in
theorem ok_l_slide {P : Program} {w : World} {K : PySem.W.Frag} {mg : Str → Option Value} {base : Heap} (T : Txt K mg) (D : ∃ fd, FD K "_law_slide" "_law_slide" s_l_slide (He.fAd K ("_law_slide", none)) fd) (hg : mg "_law_slide" = some (.ref (He.ga K "_law_slide"))) (m_l_moved : FnC P w K mg base CX0 lv_l_moved "_law_moved" (sp_l_moved K)) : FnC P w K mg base CX0 lv_l_slide "_law_slide" (sp_l_slide K) := by
  refine fnC_mk D hg (N := N_l_slide) sc_l_slide (fun fd F => FunD.bindsN F fun _ _ _ _ _ _ us hl => match us, hl with | [_], _ => rfl) (fun vs H Q E h => ?_) fun cdv A outer s0 H vs Q E hr h => ?_
  · obtain ⟨d, s, O, L, rfl, ⟨ρ, rfl, R⟩, iv, hz, hid, k⟩ := h
    rfl
  · have hu := hu_of hr
    refine ⟨_, (PSs.nox (pss_cons (ps_set (i := 1) sc_l_slide.nd rfl (Or.inr rfl) pe_dnewK) (pss_cons (ps_set (i := 2) sc_l_slide.nd rfl (Or.inl rfl) pe_int) (pss_cons (ps_for PassesOwn.never rfl (pi_list (pe_callB (call_sortedDA rfl) (by rfl) T.b_sorted (by decide +kernel) (pa_cons (pe_dget hu (pv 0) pe_str (fun _ _ => rfl)) pa_nil))) (pg_name (i := 3) sc_l_slide.nd rfl (Or.inl rfl)) (pss_cons (ps_dput hu (pv 1) (pv 3) (pv 2) rfl) (pss_one (ps_set (i := 2) sc_l_slide.nd rfl (Or.inl rfl) (pe_op op_add (pe_op op_add (pv 2) pe_int) (pe_callB call_len_seq (by rfl) T.b_len (by decide +kernel) (pa_cons (pe_ix ix_list (pe_dget hu (pe_dget hu (pv 0) pe_str (fun _ _ => rfl)) (pv 3) (fun _ _ => rfl)) pe_int (fun _ _ => rfl)) pa_nil))))))) (pss_cons (ps_set (i := 4) sc_l_slide.nd rfl (Or.inl rfl) pe_dnewK) (pss_cons (ps_lock (ps_for PassesOwn.never rfl (pi_keys (pv 1)) (pg_name (i := 3) sc_l_slide.nd rfl (Or.inl rfl)) (pss_cons (ps_setLc (i := 5) (own := [("_law_value", 6)]) (g := gName 6) (tt := tYes) rfl sc_l_slide.nd rfl rfl (sw_true rfl rfl rfl (by decide +kernel)) (pi_list (pe_ix ix_list (pe_dget hu (pe_dget hu (pv 0) pe_str (fun _ _ => rfl)) (pv 3) (fun _ _ => rfl)) pe_int (fun _ _ => rfl))) (blkOk_by (N := N_l_slide) (sc := defScope s_l_slide) (by decide +kernel)) (fun _ _ _ _ _ => pg_name (i := 6) sc_l_slide.nd rfl (Or.inl rfl)) (fun _ _ _ _ _ => by exact pts_nil) (fun _ _ _ _ _ => by exact (pf_call m_l_moved hr (by decide) pass0 (pa_cons (pv 6) (pa_cons (pv 1) pa_nil))))) (pss_one (ps_dput hu (pv 4) (pe_dget hu (pv 1) (pv 3) (fun _ _ => rfl)) (pe_lst (pa_cons (pv 5) (pa_cons (pe_ix ix_list (pe_dget hu (pe_dget hu (pv 0) pe_str (fun _ _ => rfl)) (pv 3) (fun _ _ => rfl)) pe_int (fun _ _ => rfl)) pa_nil))) rfl))))) (pss_cons (ps_dput hu (pv 0) pe_str (pv 4) rfl) (pss_one (ps_dput hu (pv 0) pe_str (pe_lc (own := [("_law_value", 6)]) (g := gName 6) (tt := tYes) rfl sc_l_slide.nd (pi_list (pe_dget hu (pv 0) pe_str (fun _ _ => rfl))) (blkOk_by (N := N_l_slide) (sc := defScope s_l_slide) (by decide +kernel)) (fun _ _ _ _ _ => pg_name (i := 6) sc_l_slide.nd rfl (Or.inl rfl)) (fun _ _ _ _ _ => by exact pts_nil) (fun _ _ _ _ _ => by exact (pf_call m_l_moved hr (by decide) pass0 (pa_cons (pv 6) (pa_cons (pv 1) pa_nil))))) rfl))))))))), ?_⟩
    obtain ⟨d, s, O, L, rfl, ⟨ρ, rfl, R⟩, iv, hz, hid, k⟩ := h
    have hl := iv.core.lay
    have hlen : s.mem.length ≤ 1000 := small_mem hl hz
    have hdom : ∀ p t, get s.mem p = some t → ∀ q, .held q ∈ t.fs → ∃ u, get s.mem q = some u := fun p t g q hq => iv.core.inL q (iv.core.fL p q t ((iv.idle hid) p t g).1 g hq)
    refine fun P hP => ?_
    have R1 := R.same (same_new (o := .dK []) hP)
    obtain ⟨kvs, ks, hd, hks, hys⟩ := R1.srt hl
    refine ⟨_, rfl, _, _, rfl, R1.gThings, _, kvs, ks, rfl, .inl hd, hks, fun ys p hy1 hy2 hn => ?_⟩
    rw [hys ys hy1 hy2]
    have nPp : P ≠ p := by
      intro e
      rw [← e, upd_same] at hn
      cases hn
    have e1 : Same H (upd (upd H P (.dK [])) p (.lst (s.mem.map fun x => V.int x.1))) := (same_new hP).trans (same_new hn)
    refine ⟨p, rfl, ⟨_, .inl (.inl upd_same)⟩, for_list (K := K) (a := p) (xs := s.mem.map fun x => V.int x.1)
      (fun i σ H1 => ∃ (at' : Int) (v : Option V) (done : List (Int × Int)), σ = [some (.ref (ρ .hall)), some (.ref P), some (.int at'), v, none, none, none] ∧ Same H H1 ∧ H1 p = some (.lst (s.mem.map fun x => V.int x.1)) ∧
        H1 P = some (.dK (done.map plV)) ∧ newPl 0 s.mem = done ++ newPl at' (s.mem.drop i))
      ⟨0, none, [], rfl, e1, upd_same, by rw [upd_ne nPp, upd_same]; rfl, rfl⟩ (fun i σ H1 _ ⟨_, _, _, _, _, e, _⟩ => .inl (.inl e)) ?_ ?_⟩
    · rintro i y σ H1 hi ⟨at', v, done, rfl, e2, hp1, hP1, hn1⟩
      obtain ⟨x, hx, rfl, hd⟩ := map_get hi
      rw [hd] at hn1
      have hn2 : newPl 0 s.mem = done ++ (x.1, at') :: newPl (at' + wd x.2) (s.mem.drop (i + 1)) := hn1
      have gx := mem_get hl (List.mem_of_getElem? hx)
      have nk : valV (done.map plV) (Sum.inl x.1) = none := by
        refine valV_no fun hmem => ?_
        have nd := lay_nodup hl
        rw [← newPl_keys s.mem 0, hn2, List.map_append, List.map_cons] at nd
        obtain ⟨z, hz1, ez⟩ := List.mem_map.mp hmem
        obtain ⟨d, hd1, ed⟩ := List.mem_map.mp hz1
        have e3 : d.1 = x.1 := by
          rw [← ed] at ez
          exact Sum.inl.inj ez
        exact (List.nodup_append.mp nd).2.2 d.1 (List.mem_map.mpr ⟨d, hd1, rfl⟩) x.1 List.mem_cons_self e3
      have dl : done.length ≤ 1000 := by
        have e3 := congrArg List.length (newPl_keys s.mem 0)
        rw [hn2] at e3
        simp at e3
        omega
      refine ⟨_, rfl, _, rfl, _, rfl, _, _, rfl, DPut.k (k := (Sum.inl x.1 : Key)) hP1 (small_lt (by rw [List.length_map]; omega)), ?_⟩
      rw [putK_new _ nk]
      have e4 : Same H (upd H1 P (.dK (done.map plV ++ [((Sum.inl x.1 : Key), V.int at')]))) := fun b o hb => by
        rw [upd_ne (ne_of_none hb hP)]
        exact e2 b o hb
      have R2 := R.same e4
      obtain ⟨vs, hv, hvs⟩ := R2.fl _ _ gx
      refine ⟨_, rfl, _, _, rfl, rfl, _, rfl, _, _, rfl, R2.gThings, _, rfl, _, _, rfl, R2.gThing hl gx, _, _, _, _, rfl, rfl, .inl (.inl (R2.th _ _ gx)), rfl, _, vs, rfl, .inl (.inl (.inl hv)), _, _, rfl, rfl, ?_⟩
      refine ⟨_, _, done ++ [(x.1, at')], rfl, e4, ?_, ?_, ?_⟩
      · rw [upd_ne nPp.symm]
        exact hp1
      · rw [upd_same, List.map_append]
        rfl
      · rw [hn2, hvs.1]
        unfold wd
        simp [Int.add_assoc]
    · rintro σ H1 ⟨at', v, done, rfl, e2, hp1, hP1, hn1⟩
      rw [drop_all] at hn1
      have hpl : newPl 0 s.mem = done := by
        rw [hn1]
        exact List.append_nil _
      subst hpl
      refine fun D2 hD2 => ?_
      have nD2P : D2 ≠ P := (ne_of_none hP1 hD2).symm
      have hD20 : H D2 = none := e2.free hD2
      refine ⟨P, .dK ((newPl 0 s.mem).map plV), by rw [upd_ne nD2P.symm]; exact hP1, trivial, fun od => ?_⟩
      have e5 : Same H (upd (upd H1 D2 (.dK [])) P (.frz od (.dK ((newPl 0 s.mem).map plV)))) := fun b o hb => by
        rw [upd_ne (ne_of_none hb hP), upd_ne (ne_of_none hb hD20)]
        exact e2 b o hb
      refine ⟨_, rfl, P, od, rfl, .inl ⟨_, upd_same, for_keys (d := P) (o := od) (kvs := (newPl 0 s.mem).map plV)
        (fun i σ H2 => ∃ (v vt : Option V) (en nl : Int → Addr), σ = [some (.ref (ρ .hall)), some (.ref P), some (.int at'), v, some (.ref D2), vt, none] ∧
          H2 P = some (.frz od (.dK ((newPl 0 s.mem).map plV))) ∧ Same H H2 ∧ H2 D2 = some (.dK ((s.mem.take i).map fun x => (Sum.inl (look (rho s) x.1), V.ref (en x.1)))) ∧
          (∀ x ∈ s.mem.take i, H2 (en x.1) = some (.lst [.ref (nl x.1), .str (colS x.2.col)]) ∧ (∃ vs, H2 (nl x.1) = some (.lst vs) ∧ IVals H2 (fun a => O a ∨ H a = none) vs (x.2.fs.map (mv (rho s)))) ∧ H (nl x.1) = none ∧ H (en x.1) = none) ∧
          (∀ x ∈ s.mem.take i, ∀ y ∈ s.mem.take i, (nl x.1 = nl y.1 → x.1 = y.1) ∧ (en x.1 = en y.1 → x.1 = y.1) ∧ nl x.1 ≠ en y.1))
        ⟨v, none, fun _ => 0, fun _ => 0, rfl, upd_same, e5, ?_, fun x hx => (by simp at hx), fun x hx => (by simp at hx)⟩
        (fun i σ H2 _ ⟨_, _, _, _, _, e, _⟩ => e) ?_ ?_⟩⟩
      · rw [upd_ne nD2P, upd_same]
        rfl
      · rintro i kk vv σ H2 hk ⟨v2, vt, en, nl, rfl, hP2, e3, hDD, done, inj⟩
        obtain ⟨x, hx, ek⟩ : ∃ x, s.mem[i]? = some x ∧ kk = Sum.inl x.1 := by
          obtain ⟨y, hy, ey⟩ := Option.map_eq_some_iff.mp (show ((newPl 0 s.mem)[i]?).map plV = some (kk, vv) by rw [← List.getElem?_map]; exact hk)
          have h1 : ((newPl 0 s.mem).map (·.1))[i]? = some y.1 := by rw [List.getElem?_map, hy]; rfl
          rw [newPl_keys, List.getElem?_map] at h1
          obtain ⟨x, hx, ex⟩ := Option.map_eq_some_iff.mp h1
          exact ⟨x, hx, by rw [ex]; exact (Prod.mk.inj ey).1.symm⟩
        subst ek
        have gx := mem_get hl (List.mem_of_getElem? hx)
        have R3 := R.same e3
        obtain ⟨vs, hv, hvs⟩ := R3.fl _ _ gx
        refine ⟨_, rfl, _, _, rfl, R3.gThings, _, rfl, _, _, rfl, R3.gThing hl gx, _, _, _, _, rfl, rfl, .inl (.inl (R3.th _ _ gx)), rfl, _, rfl, ⟨vs, .inl (.inl hv)⟩, fun LD hLD => ?_⟩
        have w : ∀ q, .held q ∈ x.2.fs → ∃ u, get s.mem q = some u := fun q hq => hdom x.1 x.2 gx q hq
        have hkk : ∀ q, .held q ∈ x.2.fs → valV ((newPl 0 s.mem).map plV) (Sum.inl q) = some (.int (look (rho s) q)) := fun q hq => by
          obtain ⟨u, gu⟩ := w q hq
          exact valV_place gu 0
        have f6 : x.2.fs.length ≤ 1000 := by
          have := (lay_get hl gx).2.2
          omega
        have hvs2 : IVals H2 (fun a => O a ∨ H a = none) vs x.2.fs := hvs.kt (fun _ _ h => h) fun _ h => .inl h
        refine lc_list (K := K) (a := ρ (.fl x.1)) (xs := vs) (fun j H3 => MvB (fun a => O a ∨ H a = none) H2 LD (rho s) x.2.fs j H3) (mvB_start hLD) (fun j H3 _ m => .inl (.inl (m.1 _ _ hv))) ?_ ?_
        · intro j u H3 hu m
          exact ⟨rfl, _, rfl, _, rfl, mvB_turn (K := K) hLD (fun a ha => .inr (e3.free ha)) (.inr hP2) hkk hvs2 f6 hu m E0⟩
        · intro H3 m
          obtain ⟨e23, ws, hLD3, hws⟩ := m
          rw [List.take_of_length_le (by rw [hvs2.1]; exact Nat.le_refl _)] at hws
          have R4 := R.same (e3.trans e23)
          refine ⟨_, rfl, _, rfl, _, _, rfl, R4.gThings, _, rfl, _, _, rfl, R4.gThing hl gx, _, _, _, _, rfl, rfl, .inl (.inl (R4.th _ _ gx)), rfl, by show 2 ≤ sizeLine; decide, fun EN hE => ?_⟩
          have sE := same_new (o := .lst [V.ref LD, .str (colS x.2.col)]) hE
          have e24 := e23.trans sE
          have hg : DGet (upd H3 EN (.lst [V.ref LD, .str (colS x.2.col)])) P (.int x.1) (some (.int (look (rho s) x.1))) := by
            rw [← valV_place gx 0]
            exact .inl ⟨_, Sum.inl x.1, .inr ⟨od, e24 _ _ hP2⟩, rfl, rfl⟩
          have tl : (s.mem.take i).length ≤ 1000 := by
            rw [List.length_take]
            omega
          refine ⟨_, rfl, _, rfl, _, rfl, _, _, rfl, hg, _, _, rfl, DPut.k (k := (Sum.inl (look (rho s) x.1) : Key)) (e24 _ _ hDD) (small_lt (by rw [List.length_map]; omega)), ?_⟩
          have hix : i < s.mem.length := (List.getElem?_eq_some_iff.mp hx).1
          have hxd : s.mem.drop i = x :: s.mem.drop (i + 1) := by
            rw [List.drop_eq_getElem_cons hix, (List.getElem?_eq_some_iff.mp hx).2]
          have ntake : ∀ y ∈ s.mem.take i, y.1 ≠ x.1 := fun y hy z => by
            have nd := lay_nodup hl
            rw [← List.take_append_drop i s.mem, hxd, List.map_append, List.map_cons] at nd
            exact (List.nodup_append.mp nd).2.2 y.1 (List.mem_map.mpr ⟨y, hy, rfl⟩) x.1 List.mem_cons_self z
          have gy : ∀ y ∈ s.mem.take i, get s.mem y.1 = some y.2 := fun y hy => mem_get hl (List.mem_of_mem_take hy)
          have nk : valV ((s.mem.take i).map fun x => ((Sum.inl (look (rho s) x.1) : Key), V.ref (en x.1))) (Sum.inl (look (rho s) x.1)) = none := by
            refine valV_no fun hmem => ?_
            obtain ⟨z, hz1, ez⟩ := List.mem_map.mp hmem
            obtain ⟨y, hy, ey⟩ := List.mem_map.mp hz1
            rw [← ey] at ez
            exact ntake y hy (look_inj hl (gy y hy) gx (Sum.inl.inj ez))
          rw [putK_new _ nk]
          have etk : s.mem.take (i + 1) = s.mem.take i ++ [x] := by
            rw [List.take_add_one, hx]
            rfl
          have hE2 : H2 EN = none := e23.free hE
          have nLE : LD ≠ EN := ne_of_none hLD3 hE
          have nD : ∀ b o, H2 b = some o → b ≠ D2 → (upd (upd H3 EN (.lst [V.ref LD, .str (colS x.2.col)])) D2 (.dK (((s.mem.take i).map fun x => ((Sum.inl (look (rho s) x.1) : Key), V.ref (en x.1))) ++ [((Sum.inl (look (rho s) x.1) : Key), V.ref EN)]))) b = some o := fun b o hb n => by
            rw [upd_ne n]
            exact e24 _ _ hb
          have kt3 : KT H3 (upd (upd H3 EN (.lst [V.ref LD, .str (colS x.2.col)])) D2 (.dK (((s.mem.take i).map fun x => ((Sum.inl (look (rho s) x.1) : Key), V.ref (en x.1))) ++ [((Sum.inl (look (rho s) x.1) : Key), V.ref EN)]))) := fun b xs hb => by
            rw [upd_ne (ne_of hb (e23 _ _ hDD) (by intro z; cases z))]
            exact sE _ _ hb
          have kt2 := (KT.of_same e23)
          have nLD2 : LD ≠ D2 := (ne_of_none hDD hLD).symm
          have nED2 : EN ≠ D2 := (ne_of_none hDD hE2).symm
          refine ⟨_, _, fun q => if q = x.1 then EN else en q, fun q => if q = x.1 then LD else nl q, rfl, nD _ _ hP2 nD2P.symm, fun b o hb => nD _ _ (e3 _ _ hb) (ne_of_none hb hD20), ?_, fun y hy => ?_, fun y hy z hz1 => ?_⟩
          · rw [upd_same, etk, List.map_append]
            have e6 : (s.mem.take i).map (fun y => ((Sum.inl (look (rho s) y.1) : Key), V.ref (if y.1 = x.1 then EN else en y.1))) = (s.mem.take i).map fun y => ((Sum.inl (look (rho s) y.1) : Key), V.ref (en y.1)) := List.map_congr_left fun y hy => by rw [if_neg (ntake y hy)]
            rw [e6]
            show some (HO.dK (_ ++ [((Sum.inl (look (rho s) x.1) : Key), V.ref EN)])) = some (HO.dK (_ ++ [((Sum.inl (look (rho s) x.1) : Key), V.ref (if x.1 = x.1 then EN else en x.1))]))
            rw [if_pos rfl]
          · rw [etk] at hy
            rcases List.mem_append.mp hy with hy | hy
            · obtain ⟨h1, ⟨us, h2, h3⟩, h4, h5⟩ := done y hy
              dsimp only
              rw [if_neg (ntake y hy), if_neg (ntake y hy)]
              exact ⟨nD _ _ h1 (ne_of h1 hDD (by intro z; cases z)), ⟨us, nD _ _ h2 (ne_of h2 hDD (by intro z; cases z)), (h3.kt kt2 fun _ h => h).kt kt3 fun _ h => h⟩, h4, h5⟩
            · obtain rfl := List.mem_singleton.mp hy
              dsimp only
              rw [if_pos rfl, if_pos rfl]
              refine ⟨?_, ⟨ws, ?_, hws.kt kt3 fun _ h => h⟩, e3.free hLD, (e3.trans e23).free hE⟩
              · rw [upd_ne nED2, upd_same]
              · rw [upd_ne nLD2]
                exact sE _ _ hLD3
          · rw [etk] at hy hz1
            dsimp only
            rcases List.mem_append.mp hy with hy | hy <;> rcases List.mem_append.mp hz1 with hz1 | hz1
            · rw [if_neg (ntake y hy), if_neg (ntake z hz1), if_neg (ntake y hy), if_neg (ntake z hz1)]
              exact inj y hy z hz1
            · rw [if_neg (ntake y hy), if_neg (ntake y hy), if_pos (by rw [List.mem_singleton.mp hz1]), if_pos (by rw [List.mem_singleton.mp hz1])]
              obtain ⟨h1, ⟨us, h2, _⟩, _⟩ := done y hy
              exact ⟨fun e => absurd e (ne_of_none h2 hLD), fun e => absurd e (ne_of_none h1 hE2), ne_of_none h2 hE2⟩
            · rw [if_neg (ntake z hz1), if_neg (ntake z hz1), if_pos (by rw [List.mem_singleton.mp hy]), if_pos (by rw [List.mem_singleton.mp hy])]
              obtain ⟨h1, ⟨us, h2, _⟩, _⟩ := done z hz1
              exact ⟨fun e => absurd e.symm (ne_of_none h2 hLD), fun e => absurd e.symm (ne_of_none h1 hE2), (ne_of_none h1 hLD).symm⟩
            · have ey := List.mem_singleton.mp hy
              have ez := List.mem_singleton.mp hz1
              rw [ey, ez, if_pos rfl, if_pos rfl]
              exact ⟨fun _ => rfl, fun _ => rfl, nLE⟩
      · rintro σ H2 ⟨v2, vt, en, nl, rfl, hP2, e3, hDD, done, inj⟩
        have lenk : ((newPl 0 s.mem).map plV).length = s.mem.length := by
          have e3 := congrArg List.length (newPl_keys s.mem 0)
          simpa using e3
        rw [lenk, List.take_length] at hDD done inj
        refine ⟨hP2, ?_⟩
        have nP : ∀ b o, H b = some o → b ≠ P := fun b o hb => ne_of_none hb hP
        obtain ⟨kd, hdd, h5, dv⟩ := R.dict
        obtain ⟨hvs, hhl, hhv⟩ := R.hl
        have hdd2 := e3 _ _ hdd
        have hall6 : (upd H2 P (.dK ((newPl 0 s.mem).map plV))) (ρ .hall) = some (.dK kd) := by
          rw [upd_ne (nP _ _ hdd)]
          exact hdd2
        refine ⟨_, rfl, _, rfl, _, _, rfl, DPut.k (k := (Sum.inr "things" : Key)) hall6 (lt1000 (by omega)), ?_⟩
        have dv7 := dv.setThings D2
        have h57 : (putK kd (Sum.inr "things" : Key) (V.ref D2)).length ≤ 5 := by
          rw [putK_old dv.things]
          exact h5
        have hall7 : (upd (upd H2 P (.dK ((newPl 0 s.mem).map plV))) (ρ .hall) (.dK (putK kd (Sum.inr "things" : Key) (V.ref D2)))) (ρ .hall) = some (.dK (putK kd (Sum.inr "things" : Key) (V.ref D2))) := upd_same
        have P7 : (upd (upd H2 P (.dK ((newPl 0 s.mem).map plV))) (ρ .hall) (.dK (putK kd (Sum.inr "things" : Key) (V.ref D2)))) P = some (.dK ((newPl 0 s.mem).map plV)) := by
          rw [upd_ne (nP _ _ hdd).symm, upd_same]
        have new7 : ∀ b o, H2 b = some o → b ≠ P → b ≠ ρ .hall → (upd (upd H2 P (.dK ((newPl 0 s.mem).map plV))) (ρ .hall) (.dK (putK kd (Sum.inr "things" : Key) (V.ref D2)))) b = some o := fun b o hb n1 n2 => by
          rw [upd_ne n2, upd_ne n1]
          exact hb
        have back7 : ∀ b, (upd (upd H2 P (.dK ((newPl 0 s.mem).map plV))) (ρ .hall) (.dK (putK kd (Sum.inr "things" : Key) (V.ref D2)))) b = none → H2 b = none := fun b hb => by
          by_cases n2 : b = ρ .hall
          · rw [n2, upd_same] at hb
            cases hb
          rw [upd_ne n2] at hb
          by_cases n1 : b = P
          · rw [n1, upd_same] at hb
            cases hb
          rw [upd_ne n1] at hb
          exact hb
        revert hall7 P7 new7 back7
        generalize upd (upd H2 P (.dK ((newPl 0 s.mem).map plV))) (ρ .hall) (.dK (putK kd (Sum.inr "things" : Key) (V.ref D2))) = H7
        intro hall7 P7 new7 back7
        have old7 : ∀ b o, H b = some o → b ≠ ρ .hall → H7 b = some o := fun b o hb n => new7 b o (e3 _ _ hb) (nP _ _ hb) n
        have kt7 : KT H2 H7 := fun b xs hb => new7 _ _ hb (ne_of hb hP2 (by intro z; cases z)) (ne_of hb hdd2 (by intro z; cases z))
        have hl7 := old7 _ _ hhl (R.ne (g := .hl) (g' := .hall) trivial trivial (by simp))
        have gh7 : DGet H7 (ρ .hall) (.str "hands") (some (.ref (ρ .hl))) := by
          rw [← dv7.hands]
          exact DGet.k (k := (Sum.inr "hands" : Key)) hall7
        have hvs7 : IVals H7 (fun a => O a ∨ H a = none) hvs s.hands := (hhv.kt (KT.of_same e3) fun _ h => .inl h).kt kt7 fun _ h => h
        refine ⟨_, rfl, _, _, rfl, gh7, _, rfl, ⟨hvs, .inl (.inl hl7)⟩, fun LH hLH => ?_⟩
        have hkk : ∀ q, .held q ∈ s.hands → valV ((newPl 0 s.mem).map plV) (Sum.inl q) = some (.int (look (rho s) q)) := fun q hq => by
          obtain ⟨u, gu⟩ := iv.core.inL q (iv.core.hL q hq)
          exact valV_place gu 0
        have h6 : s.hands.length ≤ 1000 := by
          rw [iv.core.h8]
          decide
        refine lc_list (K := K) (a := ρ .hl) (xs := hvs) (fun j H3 => MvB (fun a => O a ∨ H a = none) H7 LH (rho s) s.hands j H3) (mvB_start hLH) (fun j H3 _ m => .inl (.inl (m.1 _ _ hl7))) ?_ ?_
        · intro j u H3 hu m
          exact ⟨rfl, _, rfl, _, rfl, mvB_turn (K := K) (od := od) hLH (fun a ha => .inr (e3.free (back7 a ha))) (.inl P7) hkk hvs7 h6 hu m E0⟩
        · intro H3 m
          obtain ⟨e8, ws, hLH3, hws⟩ := m
          rw [List.take_of_length_le (by rw [hvs7.1]; exact Nat.le_refl _)] at hws
          have hall8 := e8 _ _ hall7
          refine ⟨_, rfl, _, _, rfl, DPut.k (k := (Sum.inr "hands" : Key)) hall8 (lt1000 (by omega)), ?_⟩
          have dv9 := dv7.setHands LH
          have h59 : (putK (putK kd (Sum.inr "things" : Key) (V.ref D2)) (Sum.inr "hands" : Key) (V.ref LH)).length ≤ 5 := by
            rw [putK_old dv7.hands]
            exact h57
          have hall9 : (upd H3 (ρ .hall) (.dK (putK (putK kd (Sum.inr "things" : Key) (V.ref D2)) (Sum.inr "hands" : Key) (V.ref LH)))) (ρ .hall) = some (.dK (putK (putK kd (Sum.inr "things" : Key) (V.ref D2)) (Sum.inr "hands" : Key) (V.ref LH))) := upd_same
          have up9 : ∀ b o, H3 b = some o → b ≠ ρ .hall → (upd H3 (ρ .hall) (.dK (putK (putK kd (Sum.inr "things" : Key) (V.ref D2)) (Sum.inr "hands" : Key) (V.ref LH)))) b = some o := fun b o hb n => by
            rw [upd_ne n]
            exact hb
          revert hall9 up9
          generalize upd H3 (ρ .hall) (.dK (putK (putK kd (Sum.inr "things" : Key) (V.ref D2)) (Sum.inr "hands" : Key) (V.ref LH))) = H9
          intro hall9 up9
          have kt9 : KT H3 H9 := fun b xs hb => up9 _ _ hb (ne_of hb hall8 (by intro z; cases z))
          have up2 : ∀ b o, H2 b = some o → b ≠ P → b ≠ ρ .hall → H9 b = some o := fun b o hb n1 n2 => up9 _ _ (e8 _ _ (new7 b o hb n1 n2)) n2
          have kt29 : KT H2 H9 := fun b xs hb => up2 _ _ hb (ne_of hb hP2 (by intro z; cases z)) (ne_of hb hdd2 (by intro z; cases z))
          have hLH9 : H9 LH = some (.lst ws) := up9 _ _ hLH3 (ne_of hLH3 hall8 (by intro z; cases z))
          have hD9 := up2 _ _ hDD nD2P (ne_of_none hdd hD20).symm
          have hLH2 := back7 _ hLH
          have e0 : ∀ p t, get s.mem p = some t → H2 (en p) = some (.lst [.ref (nl p), .str (colS t.col)]) ∧ (∃ vs, H2 (nl p) = some (.lst vs) ∧ IVals H2 (fun a => O a ∨ H a = none) vs (t.fs.map (mv (rho s)))) ∧ H (nl p) = none ∧ H (en p) = none := fun p t g => done (p, t) (get_mem g)
          have lst9 : ∀ b vs, H2 b = some (.lst vs) → H9 b = some (.lst vs) := fun b vs hb => up2 _ _ hb (ne_of hb hP2 (by intro z; cases z)) (ne_of hb hdd2 (by intro z; cases z))
          refine k H9 (fun a => O a ∨ H a = none ∧ ∃ o, H9 a = some o) ⟨fun c u hc hn => up2 _ _ (e3 _ _ hc) (nP _ _ hc) fun z => hn (by rw [z]; exact R.own .hall trivial), fun c hc => hc.elim .inl fun z => .inr z.1⟩ ⟨rhoSlide (rhoEn ρ en) s D2 LH nl, rfl, R.slide hl (D := D2) (L := LH) (en := en) (nl := nl) (ws := ws)
            (fun a h => .inl h) (fun a ha => ?_) hD20 (e3.free hLH2) (fun p t g => ?_) (.inr ⟨hD20, _, hD9⟩) (.inr ⟨e3.free hLH2, _, hLH9⟩) (fun p q t u g g' => (inj (p, t) (get_mem g) (q, u) (get_mem g')).1) (fun p q t u g g' => (inj (p, t) (get_mem g) (q, u) (get_mem g')).2.1) (fun p q t u g g' => (inj (p, t) (get_mem g) (q, u) (get_mem g')).2.2)
            hall9 h59 dv9 hLH9 ((hws.kt kt9 fun _ h => h).live fun a o h h' => h.imp id fun z => ⟨z, _, h'⟩) hD9 (List.Perm.refl _) (fun p t g => ?_)⟩
          · rcases ha with ha | ha
            · obtain ⟨o, ho⟩ := R.al a ha
              by_cases n : a = ρ .hall
              · exact ⟨_, by rw [n]; exact hall9⟩
              · exact ⟨o, up2 _ _ (e3 _ _ ho) (nP _ _ ho) n⟩
            · exact ha.2
          · obtain ⟨h1, ⟨vs, h2, _⟩, h3, h4⟩ := e0 p t g
            exact ⟨h3, h4, .inr ⟨h3, _, lst9 _ _ h2⟩, .inr ⟨h4, _, lst9 _ _ h1⟩, ne_of_none h2 hLH2, ne_of_none h1 hLH2⟩
          · obtain ⟨h1, ⟨vs, h2, h3⟩, _⟩ := e0 p t g
            exact ⟨lst9 _ _ h1, vs, lst9 _ _ h2, (h3.kt kt29 fun _ h => h).live fun a o h h' => h.imp id fun z => ⟨z, _, h'⟩⟩
end G

namespace G
open L2 PySem PyProof.Rows PySem.Spec
abbrev N_l_made : List Str := ["_law_hand", "_law_which", "_law_many", "_law_place", "_law_colour", "_law_k"]
theorem sc_l_made : FnScope N_l_made ["_law_hand", "_law_which", "_law_many"] (defScope s_l_made) := ⟨rfl, rfl, rfl, by decide +kernel, rfl, by decide +kernel, by decide +kernel⟩
set_option maxRecDepth 100000 in
theorem ok_l_made {P : Program} {w : World} {K : PySem.W.Frag} {mg : Str → Option Value} {base : Heap} (T : Txt K mg) (D : ∃ fd, FD K "_law_made" "_law_made" s_l_made (He.fAd K ("_law_made", none)) fd) (hg : mg "_law_made" = some (.ref (He.ga K "_law_made"))) (m_l_gap : FnC P w K mg base CX0 lv_l_gap "_law_gap" (sp_l_gap K)) (m_l_slide : FnC P w K mg base CX0 lv_l_slide "_law_slide" (sp_l_slide K)) (m_l_steps : FnC P w K mg base CX0 lv_l_steps "_law_steps" (sp_l_steps K)) (m_l_begin : FnC P w K mg base CX0 lv_l_begin "_law_begin" (sp_l_begin K)) : FnC P w K mg base CX0 lv_l_made "_law_made" (sp_l_made K) := by
  refine fnC_mk D hg (N := N_l_made) sc_l_made (fun fd F => FunD.bindsN F fun _ _ _ _ _ _ us hl => match us, hl with | [_, _, _], _ => rfl) (fun vs H Q E h => ?_) fun cdv A outer s0 H vs Q E hr h => ?_
  · obtain ⟨d, s, O, L, i, m, rfl, ⟨ρ, rfl, R⟩, iv, hi, hm, hz, k⟩ := h
    rfl
  · have hu := hu_of hr
    refine ⟨_, (PSs.nox (pss_cons (ps_set (i := 3) sc_l_made.nd rfl (Or.inl rfl) (pf_call m_l_gap hr (by decide) pass0 (pa_cons (pv 0) (pa_cons (pe_op op_add pe_int (pv 2)) pa_nil)))) (pss_cons (ps_mid (ps_if (pt_cmp (pc_isN (pv 3))) (pss_cons (ps_expr (pf_call m_l_steps hr (by decide) pass0 (pa_cons (pv 0) (pa_cons (pe_op op_pow pe_int pe_int) pa_nil)))) (pss_cons (ps_expr (pf_call m_l_begin hr (by decide) pass0 (pa_cons (pv 0) pa_nil))) (pss_cons (ps_expr (pf_call m_l_steps hr (by decide) pass0 (pa_cons (pv 0) (pa_cons (pe_op op_pow pe_int pe_int) pa_nil)))) (pss_cons (ps_expr (pf_call m_l_slide hr (by decide) pass0 (pa_cons (pv 0) pa_nil))) (pss_one (ps_set (i := 3) sc_l_made.nd rfl (Or.inl rfl) (pf_call m_l_gap hr (by decide) pass0 (pa_cons (pv 0) (pa_cons (pe_op op_add pe_int (pv 2)) pa_nil))))))))) pss_nil)) (pss_cons (ps_if (pt_cmp (pc_isN (pv 3))) (pss_one (ps_ret pe_str)) pss_nil) (pss_cons (ps_set (i := 4) sc_l_made.nd rfl (Or.inl rfl) pe_str) (pss_cons (ps_mid (ps_if (PW.pt (pw_or (pt_cmpR op_eq (pe_dget hu (pv 0) pe_str (fun _ _ => rfl)) pe_str (nomark _)) (pw_or1 (PW.pt (pw_and (pt_cmpR op_eq (pe_dget hu (pv 0) pe_str (fun _ _ => rfl)) pe_str (nomark _)) (pw_and1 (pt_cmpR op_ge (pv 3) (pe_dget hu (pv 0) pe_str (fun _ _ => rfl)) (nomark _)))))))) (pss_one (ps_set (i := 4) sc_l_made.nd rfl (Or.inl rfl) pe_str)) pss_nil)) (pss_cons (ps_dput hu (pe_dget hu (pv 0) pe_str (fun _ _ => rfl)) (pv 3) (pe_lst (pa_cons (pe_lc (own := [("_law_k", 5)]) (g := gName 5) (tt := tYes) rfl sc_l_made.nd (pi_range1 rfl T.b_range (pa_cons (pv 2) pa_nil)) (blkOk_by (N := N_l_made) (sc := defScope s_l_made) (by decide +kernel)) (fun _ _ _ _ _ => pg_name (i := 5) sc_l_made.nd rfl (Or.inl rfl)) (fun _ _ _ _ _ => by exact pts_nil) (fun _ _ _ _ _ => by exact (pe_tup (pa_cons pe_str (pa_cons pe_int pa_nil))))) (pa_cons (pv 4) pa_nil))) rfl) (pss_cons (ps_asg (pe_tup (pa_cons pe_str (pa_cons (pv 3) pa_nil))) (pg_sub (pe_dget hu (pv 0) pe_str (fun _ _ => rfl)) (pv 1) set_list)) (pss_one (ps_ret pe_non)))))))))), ?_⟩
    obtain ⟨d, s, O, L, i, m, rfl, ⟨ρ, rfl, R⟩, iv, hi, hm, hz, k⟩ := h
    have hl := iv.core.lay
    have hdo : (doAct s (.make i m)).1 = if (makeS s i m).1 = true then .none else .noRoom := by
      show (if (makeS s i m).1 = true then ((Told.none, (makeS s i m).2) : Told × St) else (Told.noRoom, (makeS s i m).2)).1 = _
      split <;> rfl
    rw [hdo] at k
    refine ⟨_, rfl, _, rfl, _, _, rfl, rfl, ρ, s, O, 2 + (m : Int), rfl, R, hl, fun H0 e0 => ?_⟩
    have R0 := R.same e0
    refine ⟨fun σ H1 => ∃ O1 ρ1 s1 L1 o, σ = [some (.ref (ρ .hall)), some (.int i), some (.int m), some (optV o), none, none] ∧ IFr H O H1 O1 ∧ ρ1 .hall = ρ .hall ∧ ByR H1 ρ1 s1 O1 ∧ G.Inv s1 L1 ∧ i < s1.hands.length ∧ s1.size = s.size ∧ gap s1 (2 + (m : Int)) = o ∧
      makeS s i m = (match o with | some p => (true, makeAt s1 p i m) | none => (false, s1)), ?_, ?_⟩
    · refine ⟨_, rfl, _, rfl, ?_⟩
      refine ite2 (fun c => ?_) (fun c => ?_)
      · have c' : gap s (2 + (m : Int)) = none := optV_non.mp (of_decide_eq_true c)
        have fin : ∀ {t : St} {L : Int → Prop}, G.Inv t L → t.size ≤ 1000 → stepN 1000000 t = finishS t := fun it hzt => stepN_finish it (by
          have := small_mem it.core.lay hzt
          omega)
        obtain ⟨i1, k1, _, p1⟩ := finish_ok iv
        refine ⟨_, rfl, _, _, rfl, rfl, ⟨by decide, by decide, by decide⟩, ρ, s, O, L, 1000000, rfl, R0, iv, hz, fun H1 fr1 R1 => ?_⟩
        rw [fin iv hz] at R1
        have hz1 : (finishS s).2.size ≤ 1000 := by rw [k1.size]; exact hz
        obtain ⟨i2, k2, _⟩ := begin_ok i1 p1
        refine ⟨_, rfl, ρ, _, O, L, rfl, R1, i1, hz1, fun H2 fr2 R2 => ?_⟩
        have hz2 : (beginS (finishS s).2).size ≤ 1000 := by rw [k2.size]; exact hz1
        obtain ⟨i3, k3, _, p3⟩ := finish_ok i2
        refine ⟨_, rfl, _, _, rfl, rfl, ⟨by decide, by decide, by decide⟩, ρ, _, O, _, 1000000, rfl, R2, i2, hz2, fun H3 fr3 R3 => ?_⟩
        rw [fin i2 hz2] at R3
        have hz3 : (finishS (beginS (finishS s).2)).2.size ≤ 1000 := by rw [k3.size]; exact hz2
        refine ⟨_, rfl, _, _, O, _, rfl, ⟨ρ, rfl, R3⟩, i3, hz3, p3, fun H4 O4 fr4 R4' => ?_⟩
        obtain ⟨ρ4, h4, R4⟩ := R4'
        have i4 := slide_ok i3 p3
        refine ⟨_, rfl, _, rfl, _, _, rfl, rfl, ρ4, _, O4, 2 + (m : Int), ?_, R4, i4.core.lay, fun H5 e5 => ?_⟩
        · rw [h4]
          rfl
        refine ⟨O4, ρ4, _, _, _, rfl, ((((IFr.same e0).trans R.al fr1).trans R.al fr2).trans R.al fr3).trans R.al (fr4.trans R3.al (IFr.same e5)), h4, R4.same e5, i4, ?_, ?_, rfl, ?_⟩
        · rw [i4.core.h8]
          exact hi
        · exact k3.size.trans (k2.size.trans k1.size)
        · unfold makeS
          rw [c']
          show (match gap (collect s) (2 + (m : Int)) with | some p => _ | none => _) = _
          rfl
      · have c' : ¬ gap s (2 + (m : Int)) = none := fun z => c (decide_eq_true (optV_non.mpr z))
        refine ⟨O, ρ, s, L, _, rfl, IFr.same e0, rfl, R0, iv, inv_hands iv hi, rfl, rfl, ?_⟩
        unfold makeS
        cases e : gap s (2 + (m : Int)) with
        | none => exact absurd e c'
        | some p => rfl
    · rintro σ H1 ⟨O1, ρ1, s1, L1, o, rfl, fr, h1, R1, i1, hi1, hz1, hg, hms⟩
      refine ⟨_, rfl, _, rfl, ?_⟩
      rw [← h1]
      cases o with
      | none =>
        have k2 := k H1 O1 fr
        rw [hms] at k2
        exact iteT (k2 ⟨ρ1, h1, R1⟩)
      | some p =>
        have hn := (make_ok (h := i) i1 hm hg).2
        refine iteF ?_
        refine ⟨fun σ H2 => σ = [some (.ref (ρ1 .hall)), some (.int i), some (.int m), some (.int p), some (.str (colS (colourAt s1 p))), none] ∧ H2 = H1, ?_, ?_⟩
        · refine ⟨_, rfl, _, _, rfl, R1.gPhase, rfl, _, rfl, ite2 (fun c => ?_) (fun c => ?_)⟩
          · have c' : s1.ph = .mark := phS_inj.mp (V.str.inj (of_decide_eq_true c))
            have e : colourAt s1 p = .black := if_pos (.inl c')
            rw [e]
            exact iteT ⟨rfl, rfl⟩
          · have c' : ¬ s1.ph = .mark := fun z => c (decide_eq_true (by rw [z]; rfl))
            refine ⟨_, rfl, _, _, rfl, R1.gPhase, rfl, _, rfl, ite2 (fun c2 => ?_) (fun c2 => ?_)⟩
            · have c2' : s1.ph = .sweep := phS_inj.mp (V.str.inj (of_decide_eq_true c2))
              refine ⟨_, rfl, _, rfl, _, _, rfl, R1.gFinger, _, _, rfl, rfl, _, rfl, ite2 (fun c3 => ?_) (fun c3 => ?_)⟩
              · have e : colourAt s1 p = .black := if_pos (.inr ⟨c2', of_decide_eq_true c3⟩)
                rw [e]
                exact ⟨rfl, rfl⟩
              · have e : colourAt s1 p = .white := if_neg (fun z => z.elim c' fun z => c3 (decide_eq_true z.2))
                rw [e]
                exact ⟨rfl, rfl⟩
            · have c2' : ¬ s1.ph = .sweep := fun z => c2 (decide_eq_true (by rw [z]; rfl))
              have e : colourAt s1 p = .white := if_neg (fun z => z.elim c' fun z => c2' z.1)
              rw [e]
              exact iteF ⟨rfl, rfl⟩
        · rintro σ H2 ⟨rfl, rfl⟩
          refine ⟨_, rfl, m, rfl, by omega, by omega, fun la nla => lcR (n := m) (fun i v H' => ∃ a, v = .ref a ∧ H2 a = none ∧ H' a = some (.tup [.str "number", .int 0])) (fun i v H0 H1 e ⟨a, h1, h2, h3⟩ => ⟨a, h1, h2, e _ _ h3⟩) (by omega) nla (fun j H3 hj e KK Qn q1 => ?_) fun H3 ys e23 hla hys hyv => ?_⟩
          · exact ⟨rfl, by show 2 ≤ sizeLine; decide, fun q hq => q1 _ _ (same_new hq) ⟨q, rfl, e.free hq, upd_same⟩⟩
          refine ⟨_, rfl, by show 2 ≤ sizeLine; decide, fun ta nta => ?_⟩
          have s34 := same_new (o := .lst [V.ref la, .str (colS (colourAt s1 p))]) nta
          have e24 := e23.trans s34
          have R4 := R1.same e24
          obtain ⟨kvs, hd, hp⟩ := R1.dc
          obtain ⟨vs, hv, hvs⟩ := R1.hl
          obtain ⟨kvs0, hd0, _, dv0⟩ := R1.dict
          have hlen : kvs.length ≤ 1000 := by
            rw [hp.length_eq]
            unfold pairs
            rw [List.length_map]
            exact small_mem i1.core.lay (by omega)
          refine ⟨_, rfl, _, _, rfl, R4.gThings, _, rfl, _, _, rfl, DPut.k (k := (Sum.inl p : Key)) (e24 _ _ hd) (lt1000 (by omega)), ?_⟩
          refine ⟨_, rfl, by show 2 ≤ sizeLine; decide, fun ha nha => ?_⟩
          have nhdc : ha ≠ ρ1 .dc := by
            intro z
            rw [z, upd_same] at nha
            cases nha
          have nha4 : (upd H3 ta (.lst [V.ref la, .str (colS (colourAt s1 p))])) ha = none := by
            rw [upd_ne nhdc] at nha
            exact nha
          have ndc : ∀ g, g ≠ .dc → VB s1.mem g → ρ1 g ≠ ρ1 .dc := fun g n v => R1.ne v (g' := .dc) trivial n
          have at5 : ∀ b o, (upd H3 ta (.lst [V.ref la, .str (colS (colourAt s1 p))])) b = some o → b ≠ ρ1 .dc → (upd (upd (upd H3 ta (.lst [V.ref la, .str (colS (colourAt s1 p))])) (ρ1 .dc) (.dK (putK kvs (Sum.inl p) (.ref ta)))) ha (.tup [.str "thing", .int p])) b = some o := fun b o hb n => by
            rw [upd_ne (ne_of_none hb nha4), upd_ne n]
            exact hb
          have gh : DGet (upd (upd (upd H3 ta (.lst [V.ref la, .str (colS (colourAt s1 p))])) (ρ1 .dc) (.dK (putK kvs (Sum.inl p) (.ref ta)))) ha (.tup [.str "thing", .int p])) (ρ1 .hall) (.str "hands") (some (.ref (ρ1 .hl))) := by
            rw [← dv0.hands]
            exact DGet.k (k := (Sum.inr "hands" : Key)) (at5 _ _ (e24 _ _ hd0) (ndc .hall (by simp) trivial))
          refine ⟨_, rfl, _, _, rfl, gh, _, rfl, _, vs, _, i, rfl, rfl, at5 _ _ (e24 _ _ hv) (ndc .hl (by simp) trivial), ix_nat (by rw [hvs.1]; exact hi1), ?_⟩
          have nta2 : H2 ta = none := e23.free nta
          have nha2 : H2 ha = none := e24.free nha4
          have nlat : ta ≠ la := (ne_of_none hla nta).symm
          have dc4 := e24 _ _ hd
          have hl4 := e24 _ _ hv
          have key := R1.make (i := i) (m := m) hn hp hvs nta2 nla nha2 nlat (H' := upd (upd (upd (upd H3 ta (.lst [V.ref la, .str (colS (colourAt s1 p))])) (ρ1 .dc) (.dK (putK kvs (Sum.inl p) (.ref ta)))) ha (.tup [.str "thing", .int p])) (ρ1 .hl) (.lst (vs.set i (.ref ha)))) (ys := ys)
            (by rw [upd_ne (ne_of_none hv nta2).symm]; exact at5 _ _ upd_same (ne_of_none hd nta2).symm)
            (by rw [upd_ne (ne_of_none hv nla).symm]; exact at5 _ _ (s34 _ _ hla) (ne_of_none hd nla).symm)
            (by rw [upd_ne (ne_of_none hv nha2).symm, upd_same])
            (by rw [upd_ne (ndc .hl (by simp) trivial).symm, upd_ne nhdc.symm, upd_same])
            upd_same
            (fun b o hb n1 n2 => by rw [upd_ne n2]; exact at5 _ _ (e24 _ _ hb) n1)
            hys (fun j v hj => by
              obtain ⟨a, h1, h2, h3⟩ := hyv j v hj
              refine ⟨a, h1, h2, ?_⟩
              have h4 := s34 _ _ h3
              rw [upd_ne (ne_of h4 hl4 (by intro z; cases z))]
              exact at5 _ _ h4 (ne_of h4 dc4 (by intro z; cases z)))
          obtain ⟨R6, fr6⟩ := key
          have k2 := k _ _ (IFr.trans R.al fr fr6)
          rw [hms] at k2
          exact k2 ⟨_, (by show rhoMake ρ1 p ta la .hall = _; unfold rhoMake; rw [if_neg (by simp), if_neg (by simp)]; exact h1), R6⟩
end G

namespace G
open L2 PySem PyProof.Rows PySem.Spec
abbrev N_l_field : List Str := ["_law_hand", "_law_which", "_law_field_here", "_law_value"]
theorem sc_l_field : FnScope N_l_field ["_law_hand", "_law_which", "_law_field_here"] (defScope s_l_field) := ⟨rfl, rfl, rfl, by decide +kernel, rfl, by decide +kernel, by decide +kernel⟩
set_option maxRecDepth 100000 in
theorem ok_l_field {P : Program} {w : World} {K : PySem.W.Frag} {mg : Str → Option Value} {base : Heap} (T : Txt K mg) (D : ∃ fd, FD K "_law_field" "_law_field" s_l_field (He.fAd K ("_law_field", none)) fd) (hg : mg "_law_field" = some (.ref (He.ga K "_law_field")))  : FnC P w K mg base CX0 lv_l_field "_law_field" (sp_l_field K) := by
  refine fnC_mk D hg (N := N_l_field) sc_l_field (fun fd F => FunD.bindsN F fun _ _ _ _ _ _ us hl => match us, hl with | [_, _, _], _ => rfl) (fun vs H Q E h => ?_) fun cdv A outer s0 H vs Q E hr h => ?_
  · obtain ⟨ρ, s, O, i, f, rfl, R, hl, hi, hd, hf, k⟩ := h
    rfl
  · have hu := hu_of hr
    refine ⟨_, (PSs.nox (pss_cons (ps_set (i := 3) sc_l_field.nd rfl (Or.inl rfl) (pe_ix ix_list (pe_dget hu (pv 0) pe_str (fun _ _ => rfl)) (pv 1) (fun _ _ => rfl))) (pss_cons (ps_if (pt_cmpR op_eq (pe_ix ix_tup (pv 3) pe_int (fun _ _ => rfl)) pe_str (nomark _)) (pss_one (ps_ret pe_str)) pss_nil) (pss_cons (ps_if (pt_cmpR op_ge (pv 2) (pe_callB call_len_seq (by rfl) T.b_len (by decide +kernel) (pa_cons (pe_ix ix_list (pe_dget hu (pe_dget hu (pv 0) pe_str (fun _ _ => rfl)) (pe_ix ix_tup (pv 3) pe_int (fun _ _ => rfl)) (fun _ _ => rfl)) pe_int (fun _ _ => rfl)) pa_nil)) (nomark _)) (pss_one (ps_ret pe_str)) pss_nil) (pss_one (ps_ret pe_non)))))), ?_⟩
    obtain ⟨ρ, s, O, i, f, rfl, R, hl, hi, hd, hf, k⟩ := h
    obtain ⟨hv, hh, hhv⟩ := R.hl
    have ei : s.hands[i]? = some (hand s i) := hand_some hi
    obtain ⟨v, hv1, va, rfl, _, hva⟩ := hhv.2 i _ ei
    refine ⟨_, rfl, _, _, rfl, R.gHands, _, rfl, _, hv, _, _, rfl, rfl, .inl (.inl hh), atI_nat hv1, ?_⟩
    unfold fieldT fres at k
    cases e : hand s i with
    | num n =>
      rw [e] at hva k
      exact ⟨_, rfl, va, _, 0, _, rfl, rfl, .inl (.inl hva), rfl, rfl, _, rfl, iteSe k⟩
    | held p =>
      rw [e] at hva k hd
      obtain ⟨t, g⟩ := hd p (List.mem_singleton.mpr rfl)
      simp only [g] at k
      obtain ⟨vs, h2, hvs⟩ := R.fl p t g
      refine ⟨_, rfl, va, _, 0, _, rfl, rfl, .inl (.inl hva), rfl, rfl, _, rfl, iteSn (by decide +kernel) ?_⟩
      refine ⟨_, rfl, _, rfl, _, _, rfl, R.gThings, _, rfl, va, _, 1, _, rfl, rfl, .inl (.inl hva), rfl, _, _, rfl, R.gThing hl g, _, _, _, _, rfl, rfl, .inl (.inl (R.th _ _ g)), rfl, _, vs, rfl, .inl (.inl (.inl h2)), _, _, rfl, rfl, _, rfl, ?_⟩
      rw [hvs.1]
      by_cases c : (t.fs.length : Int) ≤ f
      · rw [decide_eq_true c]
        rw [if_neg (fun z => by omega)] at k
        exact iteT k
      · rw [decide_eq_false c]
        rw [if_pos ⟨hf, by omega⟩] at k
        rw [List.getElem?_eq_getElem (by omega)] at k
        exact iteF k
end G

namespace G
open L2 PySem PyProof.Rows PySem.Spec
abbrev N_l_touch : List Str := ["_law_hand", "_law_act_here", "_law_hands", "_law_fields"]
theorem sc_l_touch : FnScope N_l_touch ["_law_hand", "_law_act_here"] (defScope s_l_touch) := ⟨rfl, rfl, rfl, by decide +kernel, rfl, by decide +kernel, by decide +kernel⟩
set_option maxRecDepth 100000 in
theorem ok_l_touch {P : Program} {w : World} {K : PySem.W.Frag} {mg : Str → Option Value} {base : Heap} (T : Txt K mg) (D : ∃ fd, FD K "_law_touch" "_law_touch" s_l_touch (He.fAd K ("_law_touch", none)) fd) (hg : mg "_law_touch" = some (.ref (He.ga K "_law_touch"))) (m_l_shade : FnC P w K mg base CX0 lv_l_shade "_law_shade" (sp_l_shade K)) (m_l_field : FnC P w K mg base CX0 lv_l_field "_law_field" (sp_l_field K)) : FnC P w K mg base CX0 lv_l_touch "_law_touch" (sp_l_touch K) := by
  refine fnC_mk D hg (N := N_l_touch) sc_l_touch (fun fd F => FunD.bindsN F fun _ _ _ _ _ _ us hl => match us, hl with | [_, _], _ => rfl) (fun vs H Q E h => ?_) fun cdv A outer s0 H vs Q E hr h => ?_
  · obtain ⟨d, s, O, L, a, x, rfl, ⟨ρ, rfl, R⟩, iv, ok, ht, hO, hA, k⟩ := h
    rfl
  · have hu := hu_of hr
    refine ⟨_, (PSs.nox (pss_cons (ps_set (i := 2) sc_l_touch.nd rfl (Or.inl rfl) (pe_dget hu (pv 0) pe_str (fun _ _ => rfl))) (pss_cons (ps_if (pt_cmpR op_eq (pe_ix ix_tup (pv 1) pe_int (fun _ _ => rfl)) pe_str (nomark _)) (pss_cons (ps_if (pt_cmp (pc_notN (pf_call m_l_field hr (by decide) pass0 (pa_cons (pv 0) (pa_cons (pe_ix ix_tup (pv 1) pe_int (fun _ _ => rfl)) (pa_cons (pe_ix ix_tup (pv 1) pe_int (fun _ _ => rfl)) pa_nil)))))) (pss_one (ps_ret (pf_call m_l_field hr (by decide) pass0 (pa_cons (pv 0) (pa_cons (pe_ix ix_tup (pv 1) pe_int (fun _ _ => rfl)) (pa_cons (pe_ix ix_tup (pv 1) pe_int (fun _ _ => rfl)) pa_nil)))))) pss_nil) (pss_cons (ps_set (i := 3) sc_l_touch.nd rfl (Or.inl rfl) (pe_ix ix_list (pe_dget hu (pe_dget hu (pv 0) pe_str (fun _ _ => rfl)) (pe_ix ix_tup (pe_ix ix_list (pv 2) (pe_ix ix_tup (pv 1) pe_int (fun _ _ => rfl)) (fun _ _ => rfl)) pe_int (fun _ _ => rfl)) (fun _ _ => rfl)) pe_int (fun _ _ => rfl))) (pss_cons (ps_mid (ps_if (pt_cmpR op_eq (pe_dget hu (pv 0) pe_str (fun _ _ => rfl)) pe_str (nomark _)) (pss_one (ps_expr (pf_call m_l_shade hr (by decide) pass0 (pa_cons (pv 0) (pa_cons (pe_ix ix_list (pv 3) (pe_ix ix_tup (pv 1) pe_int (fun _ _ => rfl)) (fun _ _ => rfl)) pa_nil))))) pss_nil)) (pss_one (ps_asg (pe_ix ix_list (pv 2) (pe_ix ix_tup (pv 1) pe_int (fun _ _ => rfl)) (fun _ _ => rfl)) (pg_sub (pv 3) (pe_ix ix_tup (pv 1) pe_int (fun _ _ => rfl)) set_list)))))) (pss_one (ps_if (pt_cmpR op_eq (pe_ix ix_tup (pv 1) pe_int (fun _ _ => rfl)) pe_str (nomark _)) (pss_cons (ps_if (pt_cmp (pc_notN (pf_call m_l_field hr (by decide) pass0 (pa_cons (pv 0) (pa_cons (pe_ix ix_tup (pv 1) pe_int (fun _ _ => rfl)) (pa_cons (pe_ix ix_tup (pv 1) pe_int (fun _ _ => rfl)) pa_nil)))))) (pss_one (ps_ret (pf_call m_l_field hr (by decide) pass0 (pa_cons (pv 0) (pa_cons (pe_ix ix_tup (pv 1) pe_int (fun _ _ => rfl)) (pa_cons (pe_ix ix_tup (pv 1) pe_int (fun _ _ => rfl)) pa_nil)))))) pss_nil) (pss_one (ps_asg (pe_ix ix_list (pe_ix ix_list (pe_dget hu (pe_dget hu (pv 0) pe_str (fun _ _ => rfl)) (pe_ix ix_tup (pe_ix ix_list (pv 2) (pe_ix ix_tup (pv 1) pe_int (fun _ _ => rfl)) (fun _ _ => rfl)) pe_int (fun _ _ => rfl)) (fun _ _ => rfl)) pe_int (fun _ _ => rfl)) (pe_ix ix_tup (pv 1) pe_int (fun _ _ => rfl)) (fun _ _ => rfl)) (pg_sub (pv 2) (pe_ix ix_tup (pv 1) pe_int (fun _ _ => rfl)) set_list)))) (pss_one (ps_if (pt_cmpR op_eq (pe_ix ix_tup (pv 1) pe_int (fun _ _ => rfl)) pe_str (nomark _)) (pss_one (ps_asg (pe_ix ix_list (pv 2) (pe_ix ix_tup (pv 1) pe_int (fun _ _ => rfl)) (fun _ _ => rfl)) (pg_sub (pv 2) (pe_ix ix_tup (pv 1) pe_int (fun _ _ => rfl)) set_list))) (pss_one (ps_asg (pe_tup (pa_cons pe_str (pa_cons (pe_ix ix_tup (pv 1) pe_int (fun _ _ => rfl)) pa_nil))) (pg_sub (pv 2) (pe_ix ix_tup (pv 1) pe_int (fun _ _ => rfl)) set_list)))))))) (pss_one (ps_ret pe_non))))), ?_⟩
    obtain ⟨d, s, O, L, a, x, rfl, ⟨ρ, rfl, R⟩, iv, ok, ht, hO, hA, k⟩ := h
    have hl := iv.core.lay
    have hT : SqT K H a (actVs x) := .inl (.inl hA)
    obtain ⟨hv, hh, hhv⟩ := R.hl
    refine ⟨_, rfl, _, _, rfl, R.gHands, ?_⟩
    cases x with
    | make hd m => cases ht
    | begin => cases ht
    | slide => cases ht
    | finish => cases ht
    | step n => cases ht
    | copy hd ot =>
      iterate 2 (refine ⟨_, rfl, a, _, 0, _, rfl, rfl, hT, rfl, rfl, _, rfl, iteSn (by decide +kernel) ?_⟩)
      refine ⟨_, rfl, a, _, 0, _, rfl, rfl, hT, rfl, rfl, _, rfl, iteSe ?_⟩
      obtain ⟨v, hv2, hvo⟩ := hhv.2 ot _ (hand_some (inv_hands iv ok.2))
      have h1 : hd < hv.length := by rw [hhv.1]; exact inv_hands iv ok.1
      refine ⟨_, rfl, _, rfl, a, _, 2, _, rfl, rfl, hT, rfl, _, hv, _, v, rfl, rfl, .inl (.inl hh), atI_nat hv2, ?_⟩
      refine ⟨_, rfl, _, rfl, a, _, 1, _, rfl, rfl, hT, rfl, _, hv, _, hd, rfl, rfl, hh, ix_nat h1, ?_⟩
      exact k _ O (IFr.upd (R.own .hl trivial)) ⟨ρ, rfl, R.setHand hhv hvo⟩
    | number hd n =>
      iterate 3 (refine ⟨_, rfl, a, _, 0, _, rfl, rfl, hT, rfl, rfl, _, rfl, iteSn (by decide +kernel) ?_⟩)
      have h1 : hd < hv.length := by rw [hhv.1]; exact inv_hands iv ok
      refine ⟨_, rfl, a, _, 2, _, rfl, rfl, hT, rfl, by show 2 ≤ sizeLine; decide, fun q hq => ?_⟩
      have sq := same_new (o := .tup [.str "number", .int n]) hq
      have hT2 : SqT K (upd H q (.tup [.str "number", .int n])) a (actVs (.number hd n)) := .inl (.inl (sq _ _ hA))
      refine ⟨_, rfl, _, rfl, a, _, 1, _, rfl, rfl, hT2, rfl, _, hv, _, hd, rfl, rfl, sq _ _ hh, ix_nat h1, ?_⟩
      have hq1 : (upd H q (.tup [.str "number", .int n])) q = some (.tup (ivT (.num n))) := upd_same
      have R1 := (R.same sq).more hq1
      have hhv1 : IVals (upd H q (.tup [.str "number", .int n])) (fun b => O b ∨ b = q) hv s.hands := hhv.kt (KT.of_same sq) fun _ h => .inl h
      refine k _ (fun b => O b ∨ b = q) ⟨fun b u hb hn => ?_, fun b hb => hb.elim .inl fun z => .inr (z ▸ hq)⟩ ⟨ρ, rfl, R1.setHand (x := .num n) hhv1 ⟨q, rfl, .inr rfl, hq1⟩⟩
      rw [upd_ne (fun z => hn (by rw [z]; exact R.own .hl trivial))]
      exact sq _ _ hb
    | store hd f ot =>
      refine ⟨_, rfl, a, _, 0, _, rfl, rfl, hT, rfl, rfl, _, rfl, iteSe ?_⟩
      have hf0 : 0 ≤ f := ok.2.2
      refine ⟨_, rfl, _, rfl, a, _, 1, _, rfl, rfl, hT, rfl, _, rfl, a, _, 2, _, rfl, rfl, hT, rfl, ρ, s, O, hd, f, rfl, R, hl, inv_hands iv ok.1, inv_dom iv hd, hf0, ?_⟩
      rw [doAct_store] at k
      unfold fieldT
      cases e : fres s hd f with
      | noThing =>
        rw [e] at k
        refine ⟨_, rfl, iteT ⟨_, rfl, _, rfl, a, _, 1, _, rfl, rfl, hT, rfl, _, rfl, a, _, 2, _, rfl, rfl, hT, rfl, ρ, s, O, hd, f, rfl, R, hl, inv_hands iv ok.1, inv_dom iv hd, hf0, ?_⟩⟩
        unfold fieldT
        rw [e]
        exact k H O (IFr.refl H O) ⟨ρ, rfl, R⟩
      | noField =>
        rw [e] at k
        refine ⟨_, rfl, iteT ⟨_, rfl, _, rfl, a, _, 1, _, rfl, rfl, hT, rfl, _, rfl, a, _, 2, _, rfl, rfl, hT, rfl, ρ, s, O, hd, f, rfl, R, hl, inv_hands iv ok.1, inv_dom iv hd, hf0, ?_⟩⟩
        unfold fieldT
        rw [e]
        exact k H O (IFr.refl H O) ⟨ρ, rfl, R⟩
      | ok p t v =>
        rw [e] at k
        refine ⟨_, rfl, iteF ?_⟩
        obtain ⟨e1, g, h0, h1, hv0⟩ := fres_ok e
        have hL : L p := hand_L iv.core e1
        obtain ⟨t1, hm1⟩ : ∃ t1, get (if s.ph = .mark then shade s.mem v else s.mem) p = some t1 ∧ t1.fs = t.fs := by
          split
          · obtain ⟨t1, h, _, h3⟩ := (shade_shd s.mem v).get g
            exact ⟨t1, h, h3⟩
          · exact ⟨t, g, rfl⟩
        obtain ⟨w, hw, hwo⟩ := hhv.2 hd _ (hand_some (inv_hands iv ok.1))
        rw [e1] at hwo
        obtain ⟨wa, rfl, _, hwa⟩ := hwo
        obtain ⟨j, rfl⟩ : ∃ j : Nat, f = j := ⟨f.toNat, by omega⟩
        have hv0' : t.fs[j]? = some v := hv0
        refine ⟨_, rfl, _, _, rfl, R.gThings, _, rfl, _, rfl, a, _, 1, _, rfl, rfl, hT, rfl, _, hv, _, _, rfl, rfl, .inl (.inl hh), atI_nat hw, wa, _, 1, _, rfl, rfl, .inl (.inl hwa), rfl, _, _, rfl, R.gThing hl g, _, _, _, _, rfl, rfl, .inl (.inl (R.th _ _ g)), rfl, ?_⟩
        refine ⟨fun σ H1 => σ = [some (.ref (ρ .hall)), some (.ref a), some (.ref (ρ .hl)), some (.ref (ρ (.fl p)))] ∧ IFr H O H1 O ∧ ByR H1 ρ { s with mem := if s.ph = .mark then shade s.mem v else s.mem } O, ?_, ?_⟩
        · refine ⟨_, rfl, _, _, rfl, R.gPhase, rfl, _, rfl, ?_⟩
          refine ite2 (fun c => ?_) (fun c => ?_)
          · have c' : s.ph = .mark := phS_inj.mp (V.str.inj (of_decide_eq_true c))
            obtain ⟨ws, hws1, hws⟩ := R.fl p t g
            obtain ⟨u, hu1, hu2⟩ := hws.2 j v hv0'
            refine ⟨_, rfl, _, rfl, _, rfl, a, _, 2, _, rfl, rfl, hT, rfl, _, ws, _, u, rfl, rfl, .inl (.inl hws1), atI_nat hu1, ρ, s, O, u, v, rfl, R, hl, hu2, fun q hq => ?_, fun H1 ent R1 => ?_⟩
            · have e3 := (List.mem_singleton.mp hq).symm
              exact iv.core.inL q (iv.core.fL p q t hL g (by rw [← e3]; exact List.mem_of_getElem? hv0'))
            · refine ⟨rfl, ent.ifr R, ?_⟩
              rw [if_pos c']
              exact R1
          · have c' : ¬ s.ph = .mark := fun z => c (decide_eq_true (by rw [z]; rfl))
            refine ⟨rfl, IFr.refl H O, ?_⟩
            rw [if_neg c']
            exact R
        · rintro σ H1 ⟨rfl, fr, R1⟩
          obtain ⟨ws, hws1, hws⟩ := R1.fl p t1 hm1.1
          obtain ⟨hv1, hh1, hhv1⟩ := R1.hl
          have hA1 := fr.out _ _ hA hO
          have hT1 : SqT K H1 a (actVs (.store hd (j : Int) ot)) := .inl (.inl hA1)
          have hot : s.hands[ot]? = some (hand s ot) := hand_some (inv_hands iv ok.2.1)
          obtain ⟨u, hu1, hu2⟩ := hhv1.2 ot _ hot
          have hlt : j < ws.length := by
            rw [hws.1, hm1.2]
            exact (List.getElem?_eq_some_iff.mp hv0').1
          refine ⟨_, rfl, _, rfl, a, _, 3, _, rfl, rfl, hT1, rfl, _, hv1, _, u, rfl, rfl, .inl (.inl hh1), atI_nat hu1, ?_⟩
          refine ⟨_, rfl, _, rfl, a, _, 2, _, rfl, rfl, hT1, rfl, _, ws, _, j, rfl, rfl, hws1, ix_nat hlt, ?_⟩
          exact k _ O (fr.trans R.al (IFr.upd (R1.own (.fl p) ⟨t1, hm1.1⟩))) ⟨ρ, rfl, R1.setField hm1.1 hws hu2⟩
    | load hd ot f =>
      iterate 1 (refine ⟨_, rfl, a, _, 0, _, rfl, rfl, hT, rfl, rfl, _, rfl, iteSn (by decide +kernel) ?_⟩)
      refine ⟨_, rfl, a, _, 0, _, rfl, rfl, hT, rfl, rfl, _, rfl, iteSe ?_⟩
      have hf0 : 0 ≤ f := ok.2.2
      refine ⟨_, rfl, _, rfl, a, _, 2, _, rfl, rfl, hT, rfl, _, rfl, a, _, 3, _, rfl, rfl, hT, rfl, ρ, s, O, ot, f, rfl, R, hl, inv_hands iv ok.2.1, inv_dom iv ot, hf0, ?_⟩
      rw [doAct_load] at k
      unfold fieldT
      cases e : fres s ot f with
      | noThing =>
        rw [e] at k
        refine ⟨_, rfl, iteT ⟨_, rfl, _, rfl, a, _, 2, _, rfl, rfl, hT, rfl, _, rfl, a, _, 3, _, rfl, rfl, hT, rfl, ρ, s, O, ot, f, rfl, R, hl, inv_hands iv ok.2.1, inv_dom iv ot, hf0, ?_⟩⟩
        unfold fieldT
        rw [e]
        exact k H O (IFr.refl H O) ⟨ρ, rfl, R⟩
      | noField =>
        rw [e] at k
        refine ⟨_, rfl, iteT ⟨_, rfl, _, rfl, a, _, 2, _, rfl, rfl, hT, rfl, _, rfl, a, _, 3, _, rfl, rfl, hT, rfl, ρ, s, O, ot, f, rfl, R, hl, inv_hands iv ok.2.1, inv_dom iv ot, hf0, ?_⟩⟩
        unfold fieldT
        rw [e]
        exact k H O (IFr.refl H O) ⟨ρ, rfl, R⟩
      | ok p t v =>
        rw [e] at k
        refine ⟨_, rfl, iteF ?_⟩
        obtain ⟨e1, g, h0, h1, hv0⟩ := fres_ok e
        obtain ⟨w, hw, hwo⟩ := hhv.2 ot _ (hand_some (inv_hands iv ok.2.1))
        rw [e1] at hwo
        obtain ⟨wa, rfl, _, hwa⟩ := hwo
        obtain ⟨j, rfl⟩ : ∃ j : Nat, f = j := ⟨f.toNat, by omega⟩
        have hv0' : t.fs[j]? = some v := hv0
        obtain ⟨ws, hws1, hws⟩ := R.fl p t g
        obtain ⟨u, hu1, hu2⟩ := hws.2 j v hv0'
        have hlt : hd < hv.length := by rw [hhv.1]; exact inv_hands iv ok.1
        refine ⟨_, rfl, _, _, rfl, R.gThings, _, rfl, _, rfl, a, _, 2, _, rfl, rfl, hT, rfl, _, hv, _, _, rfl, rfl, .inl (.inl hh), atI_nat hw, wa, _, 1, _, rfl, rfl, .inl (.inl hwa), rfl, _, _, rfl, R.gThing hl g, _, _, _, _, rfl, rfl, .inl (.inl (R.th _ _ g)), rfl, ?_⟩
        refine ⟨_, rfl, a, _, 3, _, rfl, rfl, hT, rfl, _, ws, _, u, rfl, rfl, .inl (.inl hws1), atI_nat hu1, ?_⟩
        refine ⟨_, rfl, _, rfl, a, _, 1, _, rfl, rfl, hT, rfl, _, hv, _, hd, rfl, rfl, hh, ix_nat hlt, ?_⟩
        exact k _ O (IFr.upd (R.own .hl trivial)) ⟨ρ, rfl, R.setHand hhv hu2⟩
end G

namespace G
open L2 PySem PyProof.Rows PySem.Spec
abbrev N_l_by_hand : List Str := ["_law_hand", "_law_act_here"]
theorem sc_l_by_hand : FnScope N_l_by_hand ["_law_hand", "_law_act_here"] (defScope s_l_by_hand) := ⟨rfl, rfl, rfl, by decide +kernel, rfl, by decide +kernel, by decide +kernel⟩
set_option maxRecDepth 100000 in
theorem ok_l_by_hand {P : Program} {w : World} {K : PySem.W.Frag} {mg : Str → Option Value} {base : Heap} (T : Txt K mg) (D : ∃ fd, FD K "_law_by_hand" "_law_by_hand" s_l_by_hand (He.fAd K ("_law_by_hand", none)) fd) (hg : mg "_law_by_hand" = some (.ref (He.ga K "_law_by_hand"))) (m_l_begin : FnC P w K mg base CX0 lv_l_begin "_law_begin" (sp_l_begin K)) (m_l_slide : FnC P w K mg base CX0 lv_l_slide "_law_slide" (sp_l_slide K)) (m_l_touch : FnC P w K mg base CX0 lv_l_touch "_law_touch" (sp_l_touch K)) (m_l_steps : FnC P w K mg base CX0 lv_l_steps "_law_steps" (sp_l_steps K)) (m_l_made : FnC P w K mg base CX0 lv_l_made "_law_made" (sp_l_made K)) : FnC P w K mg base CX0 lv_l_by_hand "_law_by_hand" (sp_l_by_hand K) := by
  refine fnC_mk D hg (N := N_l_by_hand) sc_l_by_hand (fun fd F => FunD.bindsN F fun _ _ _ _ _ _ us hl => match us, hl with | [_, _], _ => rfl) (fun vs H Q E h => ?_) fun cdv A outer s0 H vs Q E hr h => ?_
  · obtain ⟨d, s, O, L, a, x, rfl, hR, iv, hz, ok, hO, hA, k⟩ := h
    rfl
  · have hu := hu_of hr
    refine ⟨_, (PSs.nox (pss_cons (ps_if (pt_cmpR op_eq (pe_ix ix_tup (pv 1) pe_int (fun _ _ => rfl)) pe_str (nomark _)) (pss_one (ps_ret (pf_call m_l_made hr (by decide) pass0 (pa_cons (pv 0) (pa_cons (pe_ix ix_tup (pv 1) pe_int (fun _ _ => rfl)) (pa_cons (pe_ix ix_tup (pv 1) pe_int (fun _ _ => rfl)) pa_nil)))))) pss_nil) (pss_cons (ps_if (pt_cmpR op_eq (pe_ix ix_tup (pv 1) pe_int (fun _ _ => rfl)) pe_str (nomark _)) (pss_one (ps_ret (pf_call m_l_steps hr (by decide) pass0 (pa_cons (pv 0) (pa_cons (pe_ix ix_tup (pv 1) pe_int (fun _ _ => rfl)) pa_nil))))) pss_nil) (pss_cons (ps_if (pt_cmpR op_eq (pe_ix ix_tup (pv 1) pe_int (fun _ _ => rfl)) pe_str (nomark _)) (pss_one (ps_ret (pf_call m_l_steps hr (by decide) pass0 (pa_cons (pv 0) (pa_cons (pe_op op_pow pe_int pe_int) pa_nil))))) pss_nil) (pss_cons (ps_if (PW.pt (pw_and (pt_cmpR op_ne (pe_ix ix_tup (pv 1) pe_int (fun _ _ => rfl)) pe_str (nomark _)) (pw_and1 (pt_cmpR op_ne (pe_ix ix_tup (pv 1) pe_int (fun _ _ => rfl)) pe_str (nomark _))))) (pss_one (ps_ret (pf_call m_l_touch hr (by decide) pass0 (pa_cons (pv 0) (pa_cons (pv 1) pa_nil))))) pss_nil) (pss_cons (ps_if (pt_cmpR op_ne (pe_dget hu (pv 0) pe_str (fun _ _ => rfl)) pe_str (nomark _)) (pss_one (ps_ret pe_str)) pss_nil) (pss_cons (ps_if (pt_cmpR op_eq (pe_ix ix_tup (pv 1) pe_int (fun _ _ => rfl)) pe_str (nomark _)) (pss_one (ps_expr (pf_call m_l_begin hr (by decide) pass0 (pa_cons (pv 0) pa_nil)))) (pss_one (ps_expr (pf_call m_l_slide hr (by decide) pass0 (pa_cons (pv 0) pa_nil))))) (pss_one (ps_ret pe_non))))))))), ?_⟩
    obtain ⟨d, s, O, L, a, x, rfl, hR, iv, hz, ok, hO, hA, k⟩ := h
    have hl := iv.core.lay
    have hT : SqT K H a (actVs x) := .inl (.inl hA)
    have fin : stepN 1000000 s = finishS s := stepN_finish iv (by
      have := small_mem iv.core.lay hz
      omega)
    cases ht : isTouch x with
    | true =>
      obtain ⟨t1, t2, t3, t4, t5⟩ := touch_act ht
      refine ⟨_, rfl, a, _, 0, _, rfl, rfl, hT, act_0 x, rfl, _, rfl, iteSn t1 ?_⟩
      refine ⟨_, rfl, a, _, 0, _, rfl, rfl, hT, act_0 x, rfl, _, rfl, iteSn t2 ?_⟩
      refine ⟨_, rfl, a, _, 0, _, rfl, rfl, hT, act_0 x, rfl, _, rfl, iteSn t3 ?_⟩
      refine ⟨_, rfl, a, _, 0, _, rfl, rfl, hT, act_0 x, rfl, _, rfl, iteNN (vs_ne t4) ?_⟩
      refine ⟨_, rfl, a, _, 0, _, rfl, rfl, hT, act_0 x, rfl, _, rfl, iteNN (vs_ne t5) ?_⟩
      exact ⟨_, rfl, _, rfl, d, s, O, L, a, x, rfl, hR, iv, ok, ht, hO, hA, k⟩
    | false =>
      cases x with
      | copy h o => cases ht
      | number h o => cases ht
      | store h f o => cases ht
      | load h o f => cases ht
      | make h m =>
        refine ⟨_, rfl, a, _, 0, _, rfl, rfl, hT, rfl, rfl, _, rfl, iteSe ?_⟩
        refine ⟨_, rfl, _, rfl, a, _, 1, _, rfl, rfl, hT, rfl, _, rfl, a, _, 2, _, rfl, rfl, hT, rfl, d, s, O, L, h, m, rfl, hR, iv, ok.1, ok.2, hz, fun H' O' fr R' => k H' O' fr ?_⟩
        have e : (doAct s (.make h m)).2 = (makeS s h m).2 := by
          show (if (makeS s h m).1 = true then ((Told.none, (makeS s h m).2) : Told × St) else (Told.noRoom, (makeS s h m).2)).2 = _
          split <;> rfl
        rw [e]
        exact R'
      | step n =>
        obtain ⟨ρ, rfl, R⟩ := hR
        refine ⟨_, rfl, a, _, 0, _, rfl, rfl, hT, rfl, rfl, _, rfl, iteSn (by decide +kernel) ?_⟩
        refine ⟨_, rfl, a, _, 0, _, rfl, rfl, hT, rfl, rfl, _, rfl, iteSe ?_⟩
        exact ⟨_, rfl, _, rfl, a, _, 1, _, rfl, rfl, hT, rfl, ρ, s, O, L, n, rfl, R, iv, hz, fun H' fr R' => k H' O fr ⟨ρ, rfl, R'⟩⟩
      | finish =>
        obtain ⟨ρ, rfl, R⟩ := hR
        iterate 2 (refine ⟨_, rfl, a, _, 0, _, rfl, rfl, hT, rfl, rfl, _, rfl, iteSn (by decide +kernel) ?_⟩)
        refine ⟨_, rfl, a, _, 0, _, rfl, rfl, hT, rfl, rfl, _, rfl, iteSe ?_⟩
        refine ⟨_, rfl, _, _, rfl, rfl, ⟨by decide, by decide, by decide⟩, ρ, s, O, L, 1000000, rfl, R, iv, hz, fun H' fr R' => ?_⟩
        rw [fin] at R' ⊢
        exact k H' O fr ⟨ρ, rfl, R'⟩
      | begin =>
        obtain ⟨ρ, rfl, R⟩ := hR
        iterate 3 (refine ⟨_, rfl, a, _, 0, _, rfl, rfl, hT, rfl, rfl, _, rfl, iteSn (by decide +kernel) ?_⟩)
        refine ⟨_, rfl, a, _, 0, _, rfl, rfl, hT, rfl, rfl, _, rfl, iteNS rfl (iteF ?_)⟩
        refine ⟨_, rfl, _, _, rfl, R.gPhase, rfl, _, rfl, ?_⟩
        by_cases c : s.ph = .idle
        · have e : doAct s .begin = (.none, beginS s) := if_pos c
          rw [e] at k
          refine iteNS (by rw [c]; rfl) ?_
          refine ⟨_, rfl, a, _, 0, _, rfl, rfl, hT, rfl, rfl, _, rfl, iteSe ?_⟩
          exact ⟨_, rfl, ρ, s, O, L, rfl, R, iv, hz, fun H' fr R' => k H' O fr ⟨ρ, rfl, R'⟩⟩
        · have e : doAct s .begin = (.notNow, s) := if_neg c
          rw [e] at k
          exact iteNN (ph_ne (b := .idle) c) (k H O (IFr.refl H O) ⟨ρ, rfl, R⟩)
      | slide =>
        obtain ⟨ρ, rfl, R⟩ := hR
        iterate 3 (refine ⟨_, rfl, a, _, 0, _, rfl, rfl, hT, rfl, rfl, _, rfl, iteSn (by decide +kernel) ?_⟩)
        refine ⟨_, rfl, a, _, 0, _, rfl, rfl, hT, rfl, rfl, _, rfl, iteNN (vs_ne (by decide +kernel)) ?_⟩
        refine ⟨_, rfl, a, _, 0, _, rfl, rfl, hT, rfl, rfl, _, rfl, iteNS rfl ?_⟩
        refine ⟨_, rfl, _, _, rfl, R.gPhase, rfl, _, rfl, ?_⟩
        by_cases c : s.ph = .idle
        · have e : doAct s .slide = (.none, slideS s) := if_pos c
          rw [e] at k
          refine iteNS (by rw [c]; rfl) ?_
          refine ⟨_, rfl, a, _, 0, _, rfl, rfl, hT, rfl, rfl, _, rfl, iteSn (by decide +kernel) ?_⟩
          exact ⟨_, rfl, _, s, O, L, rfl, ⟨ρ, rfl, R⟩, iv, hz, c, fun H' O' fr R' => k H' O' fr R'⟩
        · have e : doAct s .slide = (.notNow, s) := if_neg c
          rw [e] at k
          exact iteNN (ph_ne (b := .idle) c) (k H O (IFr.refl H O) ⟨ρ, rfl, R⟩)
end G

namespace G
open L2 PySem PyProof.Rows PySem.Spec
abbrev N_l_blocks : List Str := ["_law_hand", "_law_found", "_law_at", "_law_place"]
theorem sc_l_blocks : FnScope N_l_blocks ["_law_hand"] (defScope s_l_blocks) := ⟨rfl, rfl, rfl, by decide +kernel, rfl, by decide +kernel, by decide +kernel⟩
set_option maxRecDepth 100000 in
theorem ok_l_blocks {P : Program} {w : World} {K : PySem.W.Frag} {mg : Str → Option Value} {base : Heap} (T : Txt K mg) (D : ∃ fd, FD K "_law_blocks" "_law_blocks" s_l_blocks (He.fAd K ("_law_blocks", none)) fd) (hg : mg "_law_blocks" = some (.ref (He.ga K "_law_blocks")))  : FnC P w K mg base CX0 lv_l_blocks "_law_blocks" (sp_l_blocks K) := by
  refine fnC_mk D hg (N := N_l_blocks) sc_l_blocks (fun fd F => FunD.bindsN F fun _ _ _ _ _ _ us hl => match us, hl with | [_], _ => rfl) (fun vs H Q E h => ?_) fun cdv A outer s0 H vs Q E hr h => ?_
  · obtain ⟨ρ, s, O, rfl, R, hl, h200, k⟩ := h
    rfl
  · have hu := hu_of hr
    refine ⟨_, (PSs.nox (pss_cons (ps_set (i := 1) sc_l_blocks.nd rfl (Or.inl rfl) (pe_lst pa_nil)) (pss_cons (ps_set (i := 2) sc_l_blocks.nd rfl (Or.inl rfl) pe_int) (pss_cons (ps_for PassesOwn.never rfl (pi_list (pe_callB (call_sortedDA rfl) (by rfl) T.b_sorted (by decide +kernel) (pa_cons (pe_dget hu (pv 0) pe_str (fun _ _ => rfl)) pa_nil))) (pg_name (i := 3) sc_l_blocks.nd rfl (Or.inl rfl)) (pss_cons (ps_mid (ps_if (pt_cmpR op_gt (pv 3) (pv 2) (nomark _)) (pss_one (ps_expr (pe_bm PySem.F.plainAttrs_list PySem.F.slot_list_append PySem.F.type_list_append mt_append (pv 1) (pa_cons (pe_tup (pa_cons (pv 2) (pa_cons (pe_op op_sub (pv 3) (pv 2)) (pa_cons pe_int pa_nil)))) pa_nil)))) pss_nil)) (pss_cons (ps_set (i := 2) sc_l_blocks.nd rfl (Or.inl rfl) (pe_op op_add (pe_op op_add (pv 3) pe_int) (pe_callB call_len_seq (by rfl) T.b_len (by decide +kernel) (pa_cons (pe_ix ix_list (pe_dget hu (pe_dget hu (pv 0) pe_str (fun _ _ => rfl)) (pv 3) (fun _ _ => rfl)) pe_int (fun _ _ => rfl)) pa_nil)))) (pss_one (ps_expr (pe_bm PySem.F.plainAttrs_list PySem.F.slot_list_append PySem.F.type_list_append mt_append (pv 1) (pa_cons (pe_tup (pa_cons (pv 3) (pa_cons (pe_op op_sub (pv 2) (pv 3)) (pa_cons pe_int pa_nil)))) pa_nil))))))) (pss_cons (ps_mid (ps_if (pt_cmpR op_lt (pv 2) (pe_dget hu (pv 0) pe_str (fun _ _ => rfl)) (nomark _)) (pss_one (ps_expr (pe_bm PySem.F.plainAttrs_list PySem.F.slot_list_append PySem.F.type_list_append mt_append (pv 1) (pa_cons (pe_tup (pa_cons (pv 2) (pa_cons (pe_op op_sub (pe_dget hu (pv 0) pe_str (fun _ _ => rfl)) (pv 2)) (pa_cons pe_int pa_nil)))) pa_nil)))) pss_nil)) (pss_one (ps_ret (pe_tupleOf rfl T.b_tuple (pv 1))))))))), ?_⟩
    obtain ⟨ρ, s, O, rfl, R, hl, h200, k⟩ := h
    refine ⟨by show 0 ≤ sizeLine; decide, fun f hf => ?_⟩
    have s1 := same_new (o := .lst []) hf
    have R1 := R.same s1
    obtain ⟨kvs, ks, hd, hks, hys⟩ := R1.srt hl
    refine ⟨_, rfl, _, _, rfl, R1.gThings, _, kvs, ks, rfl, .inl hd, hks, fun ys p hy1 hy2 hn => ?_⟩
    rw [hys ys hy1 hy2]
    have npf : p ≠ f := by
      intro e
      rw [e, upd_same] at hn
      cases hn
    have hp0 : H p = none := by
      rw [upd_ne npf] at hn
      exact hn
    refine ⟨p, rfl, ⟨_, .inl (.inl upd_same)⟩, for_list (K := K) (a := p) (xs := s.mem.map fun x => V.int x.1)
      (fun i σ H1 => ∃ (at' : Int) (v : Option V) (vs : List V) (bs : List (Int × Int × Int)), σ = [some (.ref (ρ .hall)), some (.ref f), some (.int at'), v] ∧ Same H H1 ∧ H1 p = some (.lst (s.mem.map fun x => V.int x.1)) ∧ H1 f = some (.lst vs) ∧
        TpAll H1 vs (bs.map pdBlock) ∧ bs.length ≤ 2 * i ∧ i ≤ s.mem.length ∧ blocksS s = bs ++ blocksF s.size at' (s.mem.drop i))
      ⟨0, none, [], [], rfl, s1.trans (same_new hn), upd_same, by rw [upd_ne npf.symm, upd_same], .nil, Nat.zero_le _, Nat.zero_le _, rfl⟩ (fun i σ H1 _ ⟨_, _, _, _, _, _, e, _⟩ => .inl (.inl e)) ?_ ?_⟩
    · rintro i y σ H1 hi ⟨at', v, vs, bs, rfl, e1, hp1, hf1, htp, hbl, him, hb⟩
      obtain ⟨x, hx, rfl, hd⟩ := map_get hi
      rw [hd, blocksF_cons] at hb
      have gx := mem_get hl (List.mem_of_getElem? hx)
      have hix : i < s.mem.length := (List.getElem?_eq_some_iff.mp hx).1
      refine ⟨fun σ H2 => σ = [some (.ref (ρ .hall)), some (.ref f), some (.int at'), some (.int x.1)] ∧ ∃ vs bs, Same H H2 ∧ H2 p = some (.lst (s.mem.map fun x => V.int x.1)) ∧ H2 f = some (.lst vs) ∧
        TpAll H2 vs (bs.map pdBlock) ∧ bs.length ≤ 2 * i + 1 ∧ blocksS s = bs ++ (x.1, wd x.2, 1) :: blocksF s.size (x.1 + wd x.2) (s.mem.drop (i + 1)), ?_, ?_⟩
      · refine ⟨_, rfl, _, rfl, _, _, rfl, rfl, _, rfl, ?_⟩
        refine ite2 (fun c => ?_) (fun c => ?_)
        · have c' := of_decide_eq_true c
          rw [if_pos c'] at hb
          refine ⟨_, rfl, .inl ⟨rfl, _, .inl (.inl hf1)⟩, _, rfl, _, rfl, _, rfl, _, _, rfl, rfl, by show 3 ≤ sizeLine; decide, fun t ht => ?_⟩
          have ntf : f ≠ t := ne_of_none hf1 ht
          have ntp : p ≠ t := ne_of_none hp1 ht
          have ht0 : H t = none := e1.free ht
          refine ⟨f, vs, _, rfl, rfl, by rw [upd_ne ntf]; exact hf1, small_lt ?_, ?_⟩
          · rw [htp.len, List.length_map]
            omega
          · refine ⟨rfl, _, bs ++ [(at', x.1 - at', 0)], ?_, ?_, upd_same, ?_, ?_, ?_⟩
            · intro b o hb'
              rw [upd_ne (ne_of_none hb' hf), upd_ne (ne_of_none hb' ht0)]
              exact e1 b o hb'
            · rw [upd_ne npf, upd_ne ntp]
              exact hp1
            · rw [List.map_append]
              have kt : KT H1 (upd (upd H1 t (.tup [V.int at', V.int (x.1 - at'), V.int 0])) f (.lst (vs ++ [V.ref t]))) := fun b xs hb' => by
                rw [upd_ne (ne_of hb' hf1 (by intro z; cases z)), upd_ne (ne_of_none hb' ht)]
                exact hb'
              refine (htp.kt kt).snoc (.tup (xs := [V.int at', V.int (x.1 - at'), V.int 0]) ?_ (.cons (.int _) (.cons (.int _) (.cons (.int _) .nil))))
              rw [upd_ne ntf.symm, upd_same]
            · rw [List.length_append]
              show bs.length + 1 ≤ _
              omega
            · rw [hb]
              simp
        · have c' : ¬ at' < x.1 := fun z => c (decide_eq_true z)
          rw [if_neg c'] at hb
          exact ⟨rfl, vs, bs, e1, hp1, hf1, htp, by omega, hb⟩
      · rintro σ H2 ⟨rfl, vs, bs, e2, hp2, hf2, htp2, hbl2, hb2⟩
        have R2 := R.same e2
        obtain ⟨fs, hv, hvs⟩ := R2.fl _ _ gx
        refine ⟨_, rfl, _, _, rfl, rfl, _, rfl, _, _, rfl, R2.gThings, _, rfl, _, _, rfl, R2.gThing hl gx, _, _, _, _, rfl, rfl, .inl (.inl (R2.th _ _ gx)), rfl, _, fs, rfl, .inl (.inl (.inl hv)), _, _, rfl, rfl, ?_⟩
        refine ⟨_, rfl, .inl ⟨rfl, _, .inl (.inl hf2)⟩, _, rfl, _, rfl, _, rfl, _, _, rfl, rfl, by show 3 ≤ sizeLine; decide, fun t ht => ?_⟩
        have ew : x.1 + 2 + (fs.length : Int) = x.1 + wd x.2 := by
          rw [hvs.1]
          unfold wd
          rw [Int.add_assoc]
        have ew2 : x.1 + 2 + (fs.length : Int) - x.1 = wd x.2 := by omega
        have ntf : f ≠ t := ne_of_none hf2 ht
        have ntp : p ≠ t := ne_of_none hp2 ht
        have ht0 : H t = none := e2.free ht
        refine ⟨f, vs, _, rfl, rfl, by rw [upd_ne ntf]; exact hf2, small_lt ?_, ?_⟩
        · rw [htp2.len, List.length_map]
          omega
        · refine ⟨_, _, _, bs ++ [(x.1, wd x.2, 1)], rfl, ?_, ?_, upd_same, ?_, ?_, by omega, ?_⟩
          · intro b o hb'
            rw [upd_ne (ne_of_none hb' hf), upd_ne (ne_of_none hb' ht0)]
            exact e2 b o hb'
          · rw [upd_ne npf, upd_ne ntp]
            exact hp2
          · rw [List.map_append]
            have kt : KT H2 (upd (upd H2 t (.tup [V.int x.1, V.int (x.1 + 2 + (fs.length : Int) - x.1), V.int 1])) f (.lst (vs ++ [V.ref t]))) := fun b xs hb' => by
              rw [upd_ne (ne_of hb' hf2 (by intro z; cases z)), upd_ne (ne_of_none hb' ht)]
              exact hb'
            refine (htp2.kt kt).snoc (.tup (xs := [V.int x.1, V.int (x.1 + 2 + (fs.length : Int) - x.1), V.int 1]) ?_ (.cons (.int _) (.cons (by rw [ew2]; exact .int _) (.cons (.int _) .nil))))
            rw [upd_ne ntf.symm, upd_same]
          · rw [List.length_append]
            show bs.length + 1 ≤ _
            omega
          · rw [hb2, ew]
            simp
    · rintro σ H1 ⟨at', v, vs, bs, rfl, e1, hp1, hf1, htp, hbl, him, hb⟩
      rw [drop_all, blocksF_nil] at hb
      rw [List.length_map] at hbl
      have R1' := R.same e1
      refine ⟨fun σ H2 => σ = [some (.ref (ρ .hall)), some (.ref f), some (.int at'), v] ∧ ∃ vs, Same H H2 ∧ H2 f = some (.lst vs) ∧ TpAll H2 vs ((blocksS s).map pdBlock), ?_, ?_⟩
      · refine ⟨_, rfl, _, rfl, _, _, rfl, R1'.gSize, _, _, rfl, rfl, _, rfl, ?_⟩
        refine ite2 (fun c => ?_) (fun c => ?_)
        · have c' := of_decide_eq_true c
          rw [if_pos c'] at hb
          refine ⟨_, rfl, .inl ⟨rfl, _, .inl (.inl hf1)⟩, _, rfl, _, rfl, _, _, rfl, R1'.gSize, _, rfl, _, _, rfl, rfl, by show 3 ≤ sizeLine; decide, fun t ht => ?_⟩
          have ntf : f ≠ t := ne_of_none hf1 ht
          have ht0 : H t = none := e1.free ht
          refine ⟨f, vs, _, rfl, rfl, by rw [upd_ne ntf]; exact hf1, small_lt ?_, ?_⟩
          · rw [htp.len, List.length_map]
            omega
          · refine ⟨rfl, _, ?_, upd_same, ?_⟩
            · intro b o hb'
              rw [upd_ne (ne_of_none hb' hf), upd_ne (ne_of_none hb' ht0)]
              exact e1 b o hb'
            · rw [hb, List.map_append]
              have kt : KT H1 (upd (upd H1 t (.tup [V.int at', V.int (s.size - at'), V.int 0])) f (.lst (vs ++ [V.ref t]))) := fun b xs hb' => by
                rw [upd_ne (ne_of hb' hf1 (by intro z; cases z)), upd_ne (ne_of_none hb' ht)]
                exact hb'
              refine (htp.kt kt).snoc (.tup (xs := [V.int at', V.int (s.size - at'), V.int 0]) ?_ (.cons (.int _) (.cons (.int _) (.cons (.int _) .nil))))
              rw [upd_ne ntf.symm, upd_same]
        · have c' : ¬ at' < s.size := fun z => c (decide_eq_true z)
          rw [if_neg c', List.append_nil] at hb
          refine ⟨rfl, vs, e1, hf1, ?_⟩
          rw [hb]
          exact htp
      · rintro σ H2 ⟨rfl, vs, e2, hf2, htp2⟩
        refine ⟨_, rfl, .inl ⟨f, vs, rfl, .inl (.inl hf2), fun q hq => ?_⟩⟩
        exact k _ _ (e2.trans (same_new hq)) (.tup (xs := vs) upd_same (htp2.kt (KT.of_same (same_new hq))))
end G

namespace G
open L2 PySem PyProof.Rows PySem.Spec
abbrev N_l_alike : List Str := ["_law_hall", "_law_hand", "_law_colours", "_law_due", "_law_which", "_law_value", "_law_place"]
theorem sc_l_alike : FnScope N_l_alike ["_law_hall", "_law_hand"] (defScope s_l_alike) := ⟨rfl, rfl, rfl, by decide +kernel, rfl, by decide +kernel, by decide +kernel⟩
set_option maxRecDepth 100000 in
theorem ok_l_alike {P : Program} {w : World} {K : PySem.W.Frag} {mg : Str → Option Value} {base : Heap} (T : Txt K mg) (D : ∃ fd, FD K "_law_alike" "_law_alike" s_l_alike (He.fAd K ("_law_alike", none)) fd) (hg : mg "_law_alike" = some (.ref (He.ga K "_law_alike"))) (m_Hall_place_of : MtC P w K mg base (L2.CX P w) lv_Hall_place_of "Hall" "place_of" (sp_Hall_place_of K)) (m_l_whole : FnC P w K mg base CX0 lv_l_whole "_law_whole" (sp_l_whole K)) (m_Hall_finger : MtC P w K mg base CX0 lv_Hall_finger "Hall" "finger" (sp_Hall_finger K)) (m_Hall_colours : MtC P w K mg base CX0 lv_Hall_colours "Hall" "colours" (sp_Hall_colours K)) (m_Hall_phase : MtC P w K mg base CX0 lv_Hall_phase "Hall" "phase" (sp_Hall_phase K)) (m_Hall_blocks : MtC P w K mg base CX0 lv_Hall_blocks "Hall" "blocks" (sp_Hall_blocks K)) (m_l_blocks : FnC P w K mg base CX0 lv_l_blocks "_law_blocks" (sp_l_blocks K)) : FnC P w K mg base CX0 lv_l_alike "_law_alike" (sp_l_alike K) := by
  refine fnC_mk D hg (N := N_l_alike) sc_l_alike (fun fd F => FunD.bindsN F fun _ _ _ _ _ _ us hl => match us, hl with | [_, _], _ => rfl) (fun vs H Q E h => ?_) fun cdv A outer s0 H vs Q E hr h => ?_
  · obtain ⟨F, h, s, L, O, d, rfl, hR, ⟨ρ, rfl, R⟩, iv, h200, k⟩ := h
    rfl
  · have hu := hu_of hr
    refine ⟨_, (PSs.nox (pss_cons (ps_if (PW.pt (pw_or (pt_cmpR (op_neD (hu64 hr)) (pf_meth0 m_Hall_blocks hr (by decide) pass0 (pv 0)) (pf_call m_l_blocks hr (by decide) pass0 (pa_cons (pv 1) pa_nil)) (nomark _)) (pw_or1 (pt_cmpR op_ne (pf_meth0 m_Hall_phase hr (by decide) pass0 (pv 0)) (pe_dget hu (pv 1) pe_str (fun _ _ => rfl)) (nomark _))))) (pss_one (ps_ret pe_bl)) pss_nil) (pss_cons (ps_set (i := 2) sc_l_alike.nd rfl (Or.inl rfl) (pe_tupleOf rfl T.b_tuple (pe_lc (own := [("_law_place", 6)]) (g := gName 6) (tt := tYes) rfl sc_l_alike.nd (pi_list (pe_callB (call_sortedDA rfl) (by rfl) T.b_sorted (by decide +kernel) (pa_cons (pe_dget hu (pv 1) pe_str (fun _ _ => rfl)) pa_nil))) (blkOk_by (N := N_l_alike) (sc := defScope s_l_alike) (by decide +kernel)) (fun _ _ _ _ _ => pg_name (i := 6) sc_l_alike.nd rfl (Or.inl rfl)) (fun _ _ _ _ _ => by exact pts_nil) (fun _ _ _ _ _ => by exact (show PE _ _ (tOp (rIxL K) _ _) from (pe_ix ix_list (pe_dget hu (pe_dget hu (pv 1) pe_str (fun _ _ => rfl)) (pv 6) (fun _ _ => rfl)) pe_int (fun _ _ => rfl))))))) (pss_cons (ps_if (PW.pt (pw_or (pt_not (pt_val (pe_callB call_isi (by rfl) T.b_isinstance (by decide +kernel) (pa_cons (pf_meth0 m_Hall_colours hr (by decide) pass0 (pv 0)) (pa_cons (pe_bltn (v := .ty "tuple") rfl T.b_tuple (by decide +kernel) rfl) pa_nil))))) (pw_or1 (pt_cmpR (op_neD (hu64 hr)) (pf_meth0 m_Hall_colours hr (by decide) pass0 (pv 0)) (pv 2) (nomark _))))) (pss_one (ps_ret pe_bl)) pss_nil) (pss_cons (ps_set (i := 3) sc_l_alike.nd rfl (Or.inl rfl) pe_non) (pss_cons (ps_mid (ps_if (pt_cmpR op_eq (pe_dget hu (pv 1) pe_str (fun _ _ => rfl)) pe_str (nomark _)) (pss_one (ps_set (i := 3) sc_l_alike.nd rfl (Or.inl rfl) (pe_dget hu (pv 1) pe_str (fun _ _ => rfl)))) pss_nil)) (pss_cons (ps_if (PW.pt (pw_or (pt_cmpR op_ne (pf_meth0 m_Hall_finger hr (by decide) pass0 (pv 0)) (pv 3) (nomark _)) (pw_or1 (PW.pt (pw_and (pt_cmp (pc_notN (pv 3))) (pw_and1 (pt_not (pt_val (pf_call m_l_whole hr (by decide) pass0 (pa_cons (pf_meth0 m_Hall_finger hr (by decide) pass0 (pv 0)) pa_nil)))))))))) (pss_one (ps_ret pe_bl)) pss_nil) (pss_cons (ps_for PassesOwn.never rfl (pi_range1 rfl T.b_range (pa_cons pe_int pa_nil)) (pg_name (i := 4) sc_l_alike.nd rfl (Or.inl rfl)) (pss_cons (ps_set (i := 5) sc_l_alike.nd rfl (Or.inl rfl) (pe_ix ix_list (pe_dget hu (pv 1) pe_str (fun _ _ => rfl)) (pv 4) (fun _ _ => rfl))) (pss_one (ps_if (PW.pt (pw_and (pt_cmpR op_eq (pe_ix ix_tup (pv 5) pe_int (fun _ _ => rfl)) pe_str (nomark _)) (pw_and1 (pt_cmpR op_ne (pf_meth m_Hall_place_of hr (by decide) passL (pv 0) (pa_cons (pv 4) pa_nil)) (pe_ix ix_tup (pv 5) pe_int (fun _ _ => rfl)) (nomark _))))) (pss_one (ps_ret pe_bl)) pss_nil)))) (pss_one (ps_ret pe_bl)))))))))), ?_⟩
    obtain ⟨F, h, s, L, O, d, rfl, hR, ⟨ρ, rfl, R⟩, iv, h200, k⟩ := h
    have hl := iv.core.lay
    have h1000 : s.mem.length ≤ 1000 := by omega
    refine ⟨_, rfl, m_hallA hR ⟨F, h, s, rfl, hR, hl, h1000, fun v H1 e1 tv => ?_⟩⟩
    refine ⟨_, rfl, ρ, s, O, rfl, R.same e1, hl, h200, fun w H2 e2 tw => ?_⟩
    have e02 := e1.trans e2
    refine ⟨_, _, dp_same e2 _ (tp_dp tv), Tp.dp _ tw, sh_ok (sh_blocks _), sh_ok (sh_blocks _), _, rfl, ?_⟩
    rw [show PyData.eqv (pdBlocks (blocksS s)) (pdBlocks (blocksS s)) = true from eqv_self (sh_blocks _)]
    refine iteF ?_
    have hR2 := hR.same e02
    have R2 := R.same e02
    refine ⟨_, rfl, m_hallA hR2 ⟨F, h, s, rfl, hR2, ?_⟩⟩
    refine ⟨_, rfl, _, _, rfl, R2.gPhase, rfl, _, rfl, iteNS rfl ?_⟩
    obtain ⟨kvs, ks, hd, hks, hys⟩ := R2.srt hl
    refine ⟨_, rfl, _, _, rfl, R2.gThings, _, kvs, ks, rfl, .inl hd, hks, fun ys p hy1 hy2 hn => ?_⟩
    rw [hys ys hy1 hy2]
    refine ⟨p, rfl, ⟨_, .inl (.inl upd_same)⟩, fun D hD => ?_⟩
    have nDp : D ≠ p := by
      intro e
      rw [e, upd_same] at hD
      cases hD
    have hD0 : H2 D = none := by
      rw [upd_ne nDp] at hD
      exact hD
    have e23 : Same H2 (upd (upd H2 p (.lst (s.mem.map fun x => V.int x.1))) D (.lst [])) := (same_new hn).trans (same_new hD)
    refine lc_list (K := K) (a := p) (xs := s.mem.map fun x => V.int x.1) (fun i H3 => Same H2 H3 ∧ H3 p = some (.lst (s.mem.map fun x => V.int x.1)) ∧ H3 D = some (.lst ((s.mem.take i).map fun x => V.str (colS x.2.col))))
      ⟨e23, by rw [upd_ne nDp.symm, upd_same], upd_same⟩ (fun i H3 _ w => .inl (.inl w.2.1)) ?_ ?_
    · rintro i y H3 hi ⟨e3, hp3, hD3⟩
      obtain ⟨x, hx, rfl, hd⟩ := map_get hi
      have gx := mem_get hl (List.mem_of_getElem? hx)
      have hix : i < s.mem.length := (List.getElem?_eq_some_iff.mp hx).1
      have R3 := R2.same e3
      refine ⟨rfl, _, rfl, _, _, rfl, R3.gThings, _, rfl, _, _, rfl, R3.gThing hl gx, _, _, 1, _, rfl, rfl, .inl (.inl (R3.th _ _ gx)), rfl, ?_⟩
      refine ⟨_, hD3, lt1000 ?_, fun b o hb => ?_, ?_, ?_⟩
      · rw [List.length_map, List.length_take]
        omega
      · rw [upd_ne (ne_of_none hb hD0)]
        exact e3 b o hb
      · rw [upd_ne nDp.symm]
        exact hp3
      · rw [upd_same, List.take_add_one, hx]
        simp
    · rintro H3 ⟨e3, hp3, hD3⟩
      rw [List.length_map, List.take_length] at hD3
      refine .inl ⟨D, _, rfl, .inl (.inl hD3), fun q hq => ?_⟩
      have tq := tp_colours (H := upd H3 q (.tup (s.mem.map fun x => V.str (colS x.2.col)))) s upd_same
      have e04 := e02.trans (e3.trans (same_new (o := .tup (s.mem.map fun x => V.str (colS x.2.col))) hq))
      revert tq e04
      generalize upd H3 q (.tup (s.mem.map fun x => V.str (colS x.2.col))) = H4
      intro tq e04
      have hR4 := hR.same e04
      refine ⟨_, rfl, m_hallA hR4 ⟨F, h, s, rfl, hR4, hl, h1000, fun c H5 e5 tc => is_tup (tp_dp tc) ⟨_, rfl, iteF ?_⟩⟩⟩
      have hR5 := hR4.same e5
      refine ⟨_, rfl, m_hallA hR5 ⟨F, h, s, rfl, hR5, hl, h1000, fun c2 H6 e6 tc2 => ?_⟩⟩
      have tq6 := tq.kt (KT.of_same (e5.trans e6))
      refine ⟨_, rfl, _, _, tp_dp tc2, Tp.dp _ tq6, sh_ok (sh_colours s), sh_ok (sh_colours s), _, rfl, ?_⟩
      rw [show PyData.eqv (coloursD s) (coloursD s) = true from eqv_self (sh_colours s)]
      refine iteF ?_
      have e06 := e04.trans (e5.trans e6)
      have hR6 := hR.same e06
      have R6 := R.same e06
      refine ⟨fun σ H7 => σ = [some (.ref h), some (.ref (ρ .hall)), some (.ref q), some (fingerV s), none, none, none] ∧ H7 = H6, ?_, ?_⟩
      · refine ⟨_, rfl, _, _, rfl, R6.gPhase, rfl, _, rfl, ite2 (fun c => ?_) (fun c => ?_)⟩
        · have c' : s.ph = .sweep := phS_inj.mp (V.str.inj (of_decide_eq_true c))
          refine ⟨_, rfl, _, _, rfl, R6.gFinger, ?_⟩
          have ef : fingerV s = .int s.fin := if_pos c'
          rw [ef]
          exact ⟨rfl, rfl⟩
        · have c' : ¬ s.ph = .sweep := fun z => c (decide_eq_true (by rw [z]; rfl))
          have ef : fingerV s = .non := if_neg c'
          rw [ef]
          exact ⟨rfl, rfl⟩
      · rintro σ H7 ⟨rfl, rfl⟩
        refine ⟨_, rfl, m_hallA hR6 ⟨F, h, s, rfl, hR6, _, rfl, finger_scal s, _, rfl, iteNS rfl ?_⟩⟩
        refine tAnd_via (fun q' => q' false H7) (fun q' hq' => ?_) ?_
        · by_cases c : s.ph = .sweep
          · have ef : fingerV s = .int s.fin := if_pos c
            rw [ef]
            refine ⟨_, rfl, _, rfl, iteNN (by intro z; cases z) ⟨_, rfl, m_hallA hR6 ⟨F, h, s, rfl, hR6, ?_⟩⟩⟩
            rw [ef]
            exact ⟨_, _, rfl, .int _, _, rfl, hq'⟩
          · have ef : fingerV s = .non := if_neg c
            rw [ef]
            exact ⟨_, rfl, _, rfl, iteNS rfl hq'⟩
        refine iteF ⟨8, rfl, by decide, by decide, for_range (lo := 0) (n := 8) (fun i σ H8 => ∃ x v, σ = [some (.ref h), some (.ref (ρ .hall)), some (.ref q), some (fingerV s), x, v, none] ∧ Same H7 H8) ⟨none, none, rfl, fun _ _ h => h⟩ ?_ ?_⟩
        · rintro i σ H8 hi ⟨x, v, rfl, e8⟩
          rw [Int.zero_add]
          have R8 := R6.same e8
          have hR8 := hR6.same e8
          obtain ⟨hv, hh, hhv⟩ := R8.hl
          have hi8 := inv_hands iv hi
          obtain ⟨v, hv1, va, rfl, _, hva⟩ := hhv.2 i _ (hand_some hi8)
          refine ⟨_, rfl, _, _, rfl, R8.gHands, _, rfl, _, hv, _, _, rfl, rfl, .inl (.inl hh), atI_nat hv1, ?_⟩
          cases e : hand s i with
          | num n =>
            rw [e] at hva
            exact ⟨_, rfl, va, _, 0, _, rfl, rfl, .inl (.inl hva), rfl, rfl, _, rfl, iteSn (by decide +kernel) ⟨_, _, rfl, e8⟩⟩
          | held p =>
            rw [e] at hva
            refine ⟨_, rfl, va, _, 0, _, rfl, rfl, .inl (.inl hva), rfl, rfl, _, rfl, iteSe ?_⟩
            refine ⟨_, rfl, m_hallA hR8 ⟨_, rfl, F, h, s, i, rfl, hR8, hl, hi8, inv_dom iv i, fun n z => (by rw [e] at z; cases z), fun p' z => ?_⟩⟩
            rw [e] at z
            cases z
            exact ⟨_, rfl, va, _, 1, _, rfl, rfl, .inl (.inl hva), rfl, rfl, _, rfl, iteNS rfl ⟨_, _, rfl, e8⟩⟩
        · rintro σ H8 ⟨x, v, rfl, e8⟩
          exact k H8 (e06.trans e8)
end G

namespace G
open L2 PySem PyProof.Rows PySem.Spec
abbrev N_law : List Str := ["_law_script", "_law_size_here", "_law_hall", "_law_hand", "_law_act_here", "_law_found"]
theorem sc_law : FnScope N_law ["_law_script"] (defScope s_law) := ⟨rfl, rfl, rfl, by decide +kernel, rfl, by decide +kernel, by decide +kernel⟩
set_option maxRecDepth 100000 in
theorem ok_law {P : Program} {w : World} {K : PySem.W.Frag} {mg : Str → Option Value} {base : Heap} {f : Addr} {fd : FuncData} (T : Txt K mg) (F : FD K "law" "law" s_law f fd) (m_l_acts : FnC P w K mg base CX0 lv_l_acts "_law_acts" (sp_l_acts K)) (m_l_alike : FnC P w K mg base CX0 lv_l_alike "_law_alike" (sp_l_alike K)) (m_l_whole : FnC P w K mg base CX0 lv_l_whole "_law_whole" (sp_l_whole K)) (m_l_by_hand : FnC P w K mg base CX0 lv_l_by_hand "_law_by_hand" (sp_l_by_hand K)) (m_l_do : FnC P w K mg base CX0 lv_l_do "_law_do" (sp_l_do K)) (m_l_new : FnC P w K mg base CX0 lv_l_new "_law_new" (sp_l_new K)) (m_Hall_init : MkC P w K mg base CX0 lv_Hall_init "Hall" (sp_Hall_init K)) (m_l_size : FnC P w K mg base CX0 lv_l_size "_law_size" (sp_l_size K)) : FnOk P w K mg base CX0 lv_law f fd ["_law_script"] (sp_law K) := by
  refine fnL_mk F (N := N_law) sc_law (fun vs H Q E h => ?_) fun cdv A outer s0 H vs Q E hr h => ?_
  · obtain ⟨a, ns, rfl, hs, hlen, k⟩ := h
    rfl
  · have hu := hu_of hr
    refine ⟨_, (PSs.nox (pss_cons (ps_set (i := 1) sc_law.nd rfl (Or.inl rfl) (pf_call m_l_size hr (by decide) pass0 (pa_cons (pv 0) pa_nil))) (pss_cons (ps_set (i := 2) sc_law.nd rfl (Or.inl rfl) (pf_make m_Hall_init hr (by decide) pass0 (pa_cons (pv 1) pa_nil))) (pss_cons (ps_set (i := 3) sc_law.nd rfl (Or.inl rfl) (pf_call m_l_new hr (by decide) pass0 (pa_cons (pv 1) pa_nil))) (pss_cons (ps_for PassesOwn.never rfl (pi_list (pf_call m_l_acts hr (by decide) pass0 (pa_cons (pv 0) (pa_cons pe_bl pa_nil)))) (pg_name (i := 4) sc_law.nd rfl (Or.inl rfl)) (pss_cons (ps_set (i := 5) sc_law.nd rfl (Or.inl rfl) (pf_call m_l_do hr (by decide) pass0 (pa_cons (pv 2) (pa_cons (pv 4) pa_nil)))) (pss_cons (ps_if (PW.pt (pw_or (pt_cmpR op_ne (pv 5) (pf_call m_l_by_hand hr (by decide) pass0 (pa_cons (pv 3) (pa_cons (pv 4) pa_nil))) (nomark _)) (pw_or1 (PW.pt (pw_and (pt_cmpR op_in_seq (pe_ix ix_tup (pv 4) pe_int (fun _ _ => rfl)) (pe_lst (pa_cons pe_str (pa_cons pe_str pa_nil))) (by rfl)) (pw_and1 (pt_not (pt_val (pf_call m_l_whole hr (by decide) pass0 (pa_cons (pv 5) pa_nil)))))))))) (pss_one (ps_ret pe_bl)) pss_nil) (pss_one (ps_if (pt_not (pt_val (pf_call m_l_alike hr (by decide) pass0 (pa_cons (pv 2) (pa_cons (pv 3) pa_nil))))) (pss_one (ps_ret pe_bl)) pss_nil))))) (pss_one (ps_ret pe_bl))))))), ?_⟩
    obtain ⟨a, ns, rfl, hs, hlen, k⟩ := h
    have hz := sizeOfS_ge ns
    refine ⟨_, rfl, a, ns, rfl, hs, by omega, _, rfl, fun h dh nh ndh nne => ⟨h, dh, sizeOfS ns, rfl, upd_same, fun F0 H1 but hF hall1 => ⟨rfl, ?_⟩⟩⟩
    have e01 : Same H H1 := fun b o hb => but b o (by rw [upd_ne (ne_of_none hb nh), upd_ne (ne_of_none hb ndh)]; exact hb) (ne_of_none hb nh)
    refine ⟨_, rfl, sizeOfS ns, rfl, fun d O0 H2 e12 fr0 R0 => ?_⟩
    refine ⟨_, rfl, a, ns, true, rfl, (e01.trans e12).seq hs, hlen, fun l as H3 nl hl' hA e23 => ?_⟩
    have wd0 := WdB.start hall1 fr0 e12 R0 nl hl' hA e23
    refine ⟨l, rfl, ⟨_, wd0.acts.sq⟩, for_list (K := K) (a := l) (xs := as.map V.ref)
      (fun i σ H => ∃ F s L O y4 y5, σ = [some (.ref a), some (.int (sizeOfS ns)), some (.ref h), some (.ref d), y4, y5] ∧ WdB K F H h s s d O l as (acts ns true) ∧ G.Inv s L ∧ s.size = sizeOfS ns)
      ⟨F0, newS (sizeOfS ns), _, O0, none, none, rfl, wd0, inv_new (by omega), rfl⟩ (fun i σ H _ ⟨_, _, _, _, _, _, _, w, _⟩ => w.acts.sq) ?_ ?_⟩
    · rintro i y σ H4 hi ⟨F, s, L, O, y4, y5, rfl, wd, iv, hsz⟩
      obtain ⟨x, aa, hx, rfl, haa⟩ := wd.acts.item hi
      have okx : ActOk x := acts_ok (List.mem_of_getElem? hx)
      have haas : aa ∈ as := by
        rw [List.getElem?_map] at hi
        obtain ⟨b, hb, e⟩ := Option.map_eq_some_iff.mp hi
        cases e
        exact List.mem_of_getElem? hb
      have nO : ¬ O aa := fun z => (wd.sep aa z).2 haas
      refine ⟨_, rfl, _, rfl, F, h, s, L, aa, x, rfl, wd.hall, iv, by omega, okx, haa, fun F' H5 kp R5 => ?_⟩
      have wd5 := wd.kp kp R5
      have haa5 := outF_kp kp _ _ haa
      obtain ⟨L', iv'⟩ := act_inv iv okx
      have hsz' : (doAct s x).2.size = sizeOfS ns := (act_size iv x).trans hsz
      refine ⟨_, rfl, _, rfl, _, rfl, d, s, O, L, aa, x, rfl, wd5.byH, iv, by omega, okx, nO, (outF_some haa5).2, fun H6 O' fr R6 => ?_⟩
      have wd6 := wd5.step fr R6
      obtain ⟨bb, hbb, haa6⟩ := wd6.acts.2.2 i x hx
      have ebb : bb = aa := by
        rw [List.getElem?_map, hbb] at hi
        exact V.ref.inj (Option.some.inj hi)
      subst ebb
      have hT6 : SqT K H6 bb (actVs x) := .inl (.inl (outF_some haa6).2)
      refine ⟨told_scal _, _, rfl, iteNS rfl ?_⟩
      refine tAnd_via (fun q' => ∀ c, H6 c = none → q' false (upd H6 c (.lst [.str "step", .str "finish"]))) (fun q' hq' => ?_) fun c hc => ?_
      · refine ⟨_, rfl, bb, _, 0, _, rfl, rfl, hT6, act_0 x, by show 2 ≤ sizeLine; decide, fun c hc => ?_⟩
        refine ⟨c, _, rfl, .inl (.inl (.inl upd_same)), rfl, rfl, _, rfl, ?_⟩
        rw [if_neg (by decide), act_part]
        cases hpa : partAct x with
        | false => exact iteF (hq' c hc)
        | true =>
          obtain ⟨n, en⟩ := part_told s hpa
          rw [en]
          exact iteT ⟨_, rfl, _, _, rfl, .int n, _, rfl, hq' c hc⟩
      · have sc := same_new (o := .lst [.str "step", .str "finish"]) hc
        have wd8 := wd6.same sc
        revert wd8
        generalize upd H6 c (.lst [.str "step", .str "finish"]) = H8
        intro wd8
        have h200 : (doAct s x).2.mem.length ≤ 200 := by
          have := lay_len iv'.core.lay
          omega
        refine iteF ⟨_, rfl, _, rfl, F', h, _, L', O', d, rfl, wd8.hall, wd8.byH, iv', h200, fun H9 e9 => ⟨_, rfl, iteF ?_⟩⟩
        exact ⟨F', _, L', O', _, _, rfl, wd8.same e9, iv', hsz'⟩
    · rintro σ H3 ⟨F, s, L, O, y4, y5, rfl, _⟩
      exact k H3
end G

namespace G
open L2 PySem PyProof.Rows PySem.Spec
def d_Thing_init : He.DefD := ⟨("Thing", some "__init__"), "__init__", "Thing.__init__", defArgs s_Thing_init, defBody s_Thing_init, defScope s_Thing_init, [], []⟩
def d_Held_init : He.DefD := ⟨("Held", some "__init__"), "__init__", "Held.__init__", defArgs s_Held_init, defBody s_Held_init, defScope s_Held_init, [], []⟩
def d_is_held : He.DefD := ⟨("is_held", none), "is_held", "is_held", defArgs s_is_held, defBody s_is_held, defScope s_is_held, [], []⟩
def d_Memory_init : He.DefD := ⟨("Memory", some "__init__"), "__init__", "Memory.__init__", defArgs s_Memory_init, defBody s_Memory_init, defScope s_Memory_init, [], []⟩
def d_Memory_places : He.DefD := ⟨("Memory", some "places"), "places", "Memory.places", defArgs s_Memory_places, defBody s_Memory_places, defScope s_Memory_places, [], []⟩
def d_Memory_words : He.DefD := ⟨("Memory", some "words"), "words", "Memory.words", defArgs s_Memory_words, defBody s_Memory_words, defScope s_Memory_words, [], []⟩
def d_Sweeper_init : He.DefD := ⟨("Sweeper", some "__init__"), "__init__", "Sweeper.__init__", defArgs s_Sweeper_init, defBody s_Sweeper_init, defScope s_Sweeper_init, [], []⟩
def d_Sweeper_colour_at : He.DefD := ⟨("Sweeper", some "colour_at"), "colour_at", "Sweeper.colour_at", defArgs s_Sweeper_colour_at, defBody s_Sweeper_colour_at, defScope s_Sweeper_colour_at, [], []⟩
def d_Hall_number : He.DefD := ⟨("Hall", some "number"), "number", "Hall.number", defArgs s_Hall_number, defBody s_Hall_number, defScope s_Hall_number, [], []⟩
def d_Hall_copy : He.DefD := ⟨("Hall", some "copy"), "copy", "Hall.copy", defArgs s_Hall_copy, defBody s_Hall_copy, defScope s_Hall_copy, [], []⟩
def d_Hall_phase : He.DefD := ⟨("Hall", some "phase"), "phase", "Hall.phase", defArgs s_Hall_phase, defBody s_Hall_phase, defScope s_Hall_phase, [], []⟩
def d_Hall_finger : He.DefD := ⟨("Hall", some "finger"), "finger", "Hall.finger", defArgs s_Hall_finger, defBody s_Hall_finger, defScope s_Hall_finger, [], []⟩
def d_l_cell : He.DefD := ⟨("_law_cell", none), "_law_cell", "_law_cell", defArgs s_l_cell, defBody s_l_cell, defScope s_l_cell, [], []⟩
def d_l_mix : He.DefD := ⟨("_law_mix", none), "_law_mix", "_law_mix", defArgs s_l_mix, defBody s_l_mix, defScope s_l_mix, [], []⟩
def d_l_whole : He.DefD := ⟨("_law_whole", none), "_law_whole", "_law_whole", defArgs s_l_whole, defBody s_l_whole, defScope s_l_whole, [], []⟩
def d_l_new : He.DefD := ⟨("_law_new", none), "_law_new", "_law_new", defArgs s_l_new, defBody s_l_new, defScope s_l_new, [], []⟩
def d_l_gap : He.DefD := ⟨("_law_gap", none), "_law_gap", "_law_gap", defArgs s_l_gap, defBody s_l_gap, defScope s_l_gap, [], []⟩
def d_l_shade : He.DefD := ⟨("_law_shade", none), "_law_shade", "_law_shade", defArgs s_l_shade, defBody s_l_shade, defScope s_l_shade, [], []⟩
def d_l_grey : He.DefD := ⟨("_law_grey", none), "_law_grey", "_law_grey", defArgs s_l_grey, defBody s_l_grey, defScope s_l_grey, [], []⟩
def d_l_moved : He.DefD := ⟨("_law_moved", none), "_law_moved", "_law_moved", defArgs s_l_moved, defBody s_l_moved, defScope s_l_moved, [], []⟩
def d_l_field : He.DefD := ⟨("_law_field", none), "_law_field", "_law_field", defArgs s_l_field, defBody s_l_field, defScope s_l_field, [], []⟩
def d_l_blocks : He.DefD := ⟨("_law_blocks", none), "_law_blocks", "_law_blocks", defArgs s_l_blocks, defBody s_l_blocks, defScope s_l_blocks, [], []⟩
def d_Memory_gap : He.DefD := ⟨("Memory", some "gap"), "gap", "Memory.gap", defArgs s_Memory_gap, defBody s_Memory_gap, defScope s_Memory_gap, [], []⟩
def d_Memory_blocks : He.DefD := ⟨("Memory", some "blocks"), "blocks", "Memory.blocks", defArgs s_Memory_blocks, defBody s_Memory_blocks, defScope s_Memory_blocks, [], []⟩
def d_shade : He.DefD := ⟨("shade", none), "shade", "shade", defArgs s_shade, defBody s_shade, defScope s_shade, [], []⟩
def d_least_grey : He.DefD := ⟨("least_grey", none), "least_grey", "least_grey", defArgs s_least_grey, defBody s_least_grey, defScope s_least_grey, [], []⟩
def d_next_from : He.DefD := ⟨("next_from", none), "next_from", "next_from", defArgs s_next_from, defBody s_next_from, defScope s_next_from, [], []⟩
def d_Hall_held_by : He.DefD := ⟨("Hall", some "held_by"), "held_by", "Hall.held_by", defArgs s_Hall_held_by, defBody s_Hall_held_by, defScope s_Hall_held_by, [], []⟩
def d_Hall_colours : He.DefD := ⟨("Hall", some "colours"), "colours", "Hall.colours", defArgs s_Hall_colours, defBody s_Hall_colours, defScope s_Hall_colours, [], []⟩
def d_l_act : He.DefD := ⟨("_law_act", none), "_law_act", "_law_act", defArgs s_l_act, defBody s_l_act, defScope s_l_act, [], []⟩
def d_l_size : He.DefD := ⟨("_law_size", none), "_law_size", "_law_size", defArgs s_l_size, defBody s_l_size, defScope s_l_size, [], []⟩
def d_l_settle : He.DefD := ⟨("_law_settle", none), "_law_settle", "_law_settle", defArgs s_l_settle, defBody s_l_settle, defScope s_l_settle, [], []⟩
def d_l_slide : He.DefD := ⟨("_law_slide", none), "_law_slide", "_law_slide", defArgs s_l_slide, defBody s_l_slide, defScope s_l_slide, [], []⟩
def d_l_touch : He.DefD := ⟨("_law_touch", none), "_law_touch", "_law_touch", defArgs s_l_touch, defBody s_l_touch, defScope s_l_touch, [], []⟩
def d_Sweeper_settle : He.DefD := ⟨("Sweeper", some "settle"), "settle", "Sweeper.settle", defArgs s_Sweeper_settle, defBody s_Sweeper_settle, defScope s_Sweeper_settle, [], []⟩
def d_Sweeper_mark_part : He.DefD := ⟨("Sweeper", some "mark_part"), "mark_part", "Sweeper.mark_part", defArgs s_Sweeper_mark_part, defBody s_Sweeper_mark_part, defScope s_Sweeper_mark_part, [], []⟩
def d_Sweeper_sweep_part : He.DefD := ⟨("Sweeper", some "sweep_part"), "sweep_part", "Sweeper.sweep_part", defArgs s_Sweeper_sweep_part, defBody s_Sweeper_sweep_part, defScope s_Sweeper_sweep_part, [], []⟩
def d_Hall_init : He.DefD := ⟨("Hall", some "__init__"), "__init__", "Hall.__init__", defArgs s_Hall_init, defBody s_Hall_init, defScope s_Hall_init, [], []⟩
def d_Hall_fields_of : He.DefD := ⟨("Hall", some "fields_of"), "fields_of", "Hall.fields_of", defArgs s_Hall_fields_of, defBody s_Hall_fields_of, defScope s_Hall_fields_of, [], []⟩
def d_Hall_blocks : He.DefD := ⟨("Hall", some "blocks"), "blocks", "Hall.blocks", defArgs s_Hall_blocks, defBody s_Hall_blocks, defScope s_Hall_blocks, [], []⟩
def d_Hall_place_of : He.DefD := ⟨("Hall", some "place_of"), "place_of", "Hall.place_of", defArgs s_Hall_place_of, defBody s_Hall_place_of, defScope s_Hall_place_of, [], []⟩
def d_Hall_moved : He.DefD := ⟨("Hall", some "moved"), "moved", "Hall.moved", defArgs s_Hall_moved, defBody s_Hall_moved, defScope s_Hall_moved, [], []⟩
def d_l_acts : He.DefD := ⟨("_law_acts", none), "_law_acts", "_law_acts", defArgs s_l_acts, defBody s_l_acts, defScope s_l_acts, [], []⟩
def d_l_begin : He.DefD := ⟨("_law_begin", none), "_law_begin", "_law_begin", defArgs s_l_begin, defBody s_l_begin, defScope s_l_begin, [], []⟩
def d_l_part : He.DefD := ⟨("_law_part", none), "_law_part", "_law_part", defArgs s_l_part, defBody s_l_part, defScope s_l_part, [], []⟩
def d_Sweeper_begin : He.DefD := ⟨("Sweeper", some "begin"), "begin", "Sweeper.begin", defArgs s_Sweeper_begin, defBody s_Sweeper_begin, defScope s_Sweeper_begin, [], []⟩
def d_Sweeper_part : He.DefD := ⟨("Sweeper", some "part"), "part", "Sweeper.part", defArgs s_Sweeper_part, defBody s_Sweeper_part, defScope s_Sweeper_part, [], []⟩
def d_Hall_load : He.DefD := ⟨("Hall", some "load"), "load", "Hall.load", defArgs s_Hall_load, defBody s_Hall_load, defScope s_Hall_load, [], []⟩
def d_Hall_store : He.DefD := ⟨("Hall", some "store"), "store", "Hall.store", defArgs s_Hall_store, defBody s_Hall_store, defScope s_Hall_store, [], []⟩
def d_Hall_slide : He.DefD := ⟨("Hall", some "slide"), "slide", "Hall.slide", defArgs s_Hall_slide, defBody s_Hall_slide, defScope s_Hall_slide, [], []⟩
def d_l_steps : He.DefD := ⟨("_law_steps", none), "_law_steps", "_law_steps", defArgs s_l_steps, defBody s_l_steps, defScope s_l_steps, [], []⟩
def d_l_alike : He.DefD := ⟨("_law_alike", none), "_law_alike", "_law_alike", defArgs s_l_alike, defBody s_l_alike, defScope s_l_alike, [], []⟩
def d_Hall_begin : He.DefD := ⟨("Hall", some "begin"), "begin", "Hall.begin", defArgs s_Hall_begin, defBody s_Hall_begin, defScope s_Hall_begin, [], []⟩
def d_Hall_step : He.DefD := ⟨("Hall", some "step"), "step", "Hall.step", defArgs s_Hall_step, defBody s_Hall_step, defScope s_Hall_step, [], []⟩
def d_Hall_finish : He.DefD := ⟨("Hall", some "finish"), "finish", "Hall.finish", defArgs s_Hall_finish, defBody s_Hall_finish, defScope s_Hall_finish, [], []⟩
def d_l_made : He.DefD := ⟨("_law_made", none), "_law_made", "_law_made", defArgs s_l_made, defBody s_l_made, defScope s_l_made, [], []⟩
def d_Hall_make : He.DefD := ⟨("Hall", some "make"), "make", "Hall.make", defArgs s_Hall_make, defBody s_Hall_make, defScope s_Hall_make, [], []⟩
def d_l_by_hand : He.DefD := ⟨("_law_by_hand", none), "_law_by_hand", "_law_by_hand", defArgs s_l_by_hand, defBody s_l_by_hand, defScope s_l_by_hand, [], []⟩
def d_l_call : He.DefD := ⟨("_law_call", none), "_law_call", "_law_call", defArgs s_l_call, defBody s_l_call, defScope s_l_call, [], []⟩
def d_l_do : He.DefD := ⟨("_law_do", none), "_law_do", "_law_do", defArgs s_l_do, defBody s_l_do, defScope s_l_do, [], []⟩
def d_law : He.DefD := ⟨("law", none), "law", "law", defArgs s_law, defBody s_law, defScope s_law, [], []⟩
def fn : List He.DefD := [d_Thing_init, d_Held_init, d_is_held, d_Memory_init, d_Memory_places, d_Memory_words, d_Sweeper_init, d_Sweeper_colour_at, d_Hall_number, d_Hall_copy, d_Hall_phase, d_Hall_finger, d_l_cell, d_l_mix, d_l_whole, d_l_new, d_l_gap, d_l_shade, d_l_grey, d_l_moved, d_l_field, d_l_blocks, d_Memory_gap, d_Memory_blocks, d_shade, d_least_grey, d_next_from, d_Hall_held_by, d_Hall_colours, d_l_act, d_l_size, d_l_settle, d_l_slide, d_l_touch, d_Sweeper_settle, d_Sweeper_mark_part, d_Sweeper_sweep_part, d_Hall_init, d_Hall_fields_of, d_Hall_blocks, d_Hall_place_of, d_Hall_moved, d_l_acts, d_l_begin, d_l_part, d_Sweeper_begin, d_Sweeper_part, d_Hall_load, d_Hall_store, d_Hall_slide, d_l_steps, d_l_alike, d_Hall_begin, d_Hall_step, d_Hall_finish, d_l_made, d_Hall_make, d_l_by_hand, d_l_call, d_l_do, d_law]
def fa : List He.Fa := [.glo "Thing", .cls "Thing", .noat "Thing" "fields", .noat "Thing" "colour", .mkr "Thing", .glo "Held",
  .cls "Held", .noat "Held" "place", .mkr "Held", .glo "Memory", .cls "Memory", .noat "Memory" "size",
  .noat "Memory" "things", .meth "Memory" "places", .meth "Memory" "words", .meth "Memory" "gap", .meth "Memory" "blocks", .mkr "Memory",
  .glo "Sweeper", .cls "Sweeper", .noat "Sweeper" "memory", .noat "Sweeper" "standing", .noat "Sweeper" "at_word", .meth "Sweeper" "begin",
  .meth "Sweeper" "settle", .meth "Sweeper" "mark_part", .meth "Sweeper" "sweep_part", .meth "Sweeper" "part", .meth "Sweeper" "colour_at", .mkr "Sweeper",
  .glo "Hall", .cls "Hall", .noat "Hall" "memory", .noat "Hall" "hands", .noat "Hall" "sweeper", .meth "Hall" "number",
  .meth "Hall" "copy", .meth "Hall" "held_by", .meth "Hall" "fields_of", .meth "Hall" "load", .meth "Hall" "store", .meth "Hall" "make",
  .meth "Hall" "value_of", .meth "Hall" "alike", .meth "Hall" "shape_of", .meth "Hall" "told_fields", .meth "Hall" "blocks", .meth "Hall" "place_of",
  .meth "Hall" "moved", .meth "Hall" "slide", .meth "Hall" "begin", .meth "Hall" "step", .meth "Hall" "finish", .meth "Hall" "phase",
  .meth "Hall" "colours", .meth "Hall" "finger", .mkr "Hall", .glo "HallError", .exc "HallError", .glo "NoThing",
  .exc "NoThing", .glo "NoField", .exc "NoField", .glo "NoRoom", .exc "NoRoom", .glo "NotNow",
  .exc "NotNow", .exm "NoThing" "HallError" true, .exm "NoThing" "NoThing" true, .exm "NoThing" "NoField" false, .exm "NoThing" "NoRoom" false, .exm "NoThing" "NotNow" false,
  .exm "NoField" "HallError" true, .exm "NoField" "NoThing" false, .exm "NoField" "NoField" true, .exm "NoField" "NoRoom" false, .exm "NoField" "NotNow" false, .exm "NoRoom" "HallError" true,
  .exm "NoRoom" "NoThing" false, .exm "NoRoom" "NoField" false, .exm "NoRoom" "NoRoom" true, .exm "NoRoom" "NotNow" false, .exm "NotNow" "HallError" true, .exm "NotNow" "NoThing" false,
  .exm "NotNow" "NoField" false, .exm "NotNow" "NoRoom" false, .exm "NotNow" "NotNow" true, .glo "is_held", .glo "shade", .glo "least_grey",
  .glo "next_from", .glo "_law_cell", .glo "_law_mix", .glo "_law_whole", .glo "_law_act", .glo "_law_acts",
  .glo "_law_size", .glo "_law_call", .glo "_law_do", .glo "_law_new", .glo "_law_gap", .glo "_law_shade",
  .glo "_law_grey", .glo "_law_settle", .glo "_law_begin", .glo "_law_part", .glo "_law_steps", .glo "_law_moved",
  .glo "_law_slide", .glo "_law_made", .glo "_law_field", .glo "_law_touch", .glo "_law_by_hand", .glo "_law_blocks",
  .glo "_law_alike", .glo "law", .free "len", .free "sorted", .free "isinstance", .free "tuple",
  .free "range", .free "list", .free "int", .free "sum", .free "all", .free "any",
  .free "min", .free "str", .free "set", .free "enumerate", .free "bool", .free "ValueError"]
def exL (K : PySem.W.Frag) : List Bool := [
  He.eqO (PySem.W.findIn K (.ref (He.ga K "Held")) "__class__") (some (some (.builtin "object.__class__"))),
  decide (PySem.W.mroIn K (He.ga K "Held") (.type "object") = some true),
  He.eqO (PySem.W.specialIn K (.builtin "object.__class__") "__get__") (some (some (.builtin "getset_descriptor.__get__"))),
  decide (PySem.W.takesIn K (.builtin "object.__class__") = some true),
  decide (PySem.W.kitOne K (.type "int") (.ref (He.ga K "Held")) = some false),
  decide (He.ga K "Held" ≠ He.ga K "Thing"), decide (He.ga K "Held" ≠ He.ga K "Memory"), decide (He.ga K "Held" ≠ He.ga K "Sweeper"), decide (He.ga K "Held" ≠ He.ga K "Hall"),
  decide (He.ga K "Thing" ≠ He.ga K "Memory"), decide (He.ga K "Thing" ≠ He.ga K "Sweeper"), decide (He.ga K "Thing" ≠ He.ga K "Hall"),
  decide (He.ga K "Memory" ≠ He.ga K "Sweeper"), decide (He.ga K "Memory" ≠ He.ga K "Hall"), decide (He.ga K "Sweeper" ≠ He.ga K "Hall")] ++ (["NoThing", "NoField", "NoRoom", "NotNow"].flatMap fun x : String => [
  He.eqO (PySem.W.findIn K (.ref (He.ga K x)) "__getattribute__") (some (some (.builtin "BaseException.__getattribute__"))),
  He.eqO (PySem.W.findIn K (.ref (He.ga K x)) "__getattr__") (some none),
  PySem.W.hasDictIn K (He.ga K x),
  He.eqO (PySem.W.findIn K (.ref (He.ga K x)) "__class__") (some (some (.builtin "object.__class__"))),
  decide (PySem.W.mroIn K (He.ga K x) (.type "object") = some true),
  decide (PySem.W.kitOne K (.ref (He.ga K x)) (.ref (He.ga K "NoThing")) = some (x == "NoThing")),
  decide (PySem.W.kitOne K (.ref (He.ga K x)) (.ref (He.ga K "NoField")) = some (x == "NoField")),
  decide (PySem.W.kitOne K (.ref (He.ga K x)) (.ref (He.ga K "NoRoom")) = some (x == "NoRoom")),
  decide (PySem.W.kitOne K (.ref (He.ga K x)) (.ref (He.ga K "NotNow")) = some (x == "NotNow")),
  decide (PySem.W.kitOne K (.ref (He.ga K x)) (.type "ValueError") = some true)])
theorem ex_at {K : PySem.W.Frag} (e : (exL K).all id = true) (i : Nat) {b : Bool} (h : (exL K)[i]? = some b := by rfl) : b = true := List.all_eq_true.mp e b (List.mem_of_getElem? h)
def obX (K : PySem.W.Frag) : He.AlD × Bool := (He.obsD fa fn K, (exL K).all id)
def obXG (g : Addr → Option Obj) : He.AlD × Bool := obX (He.frG g (He.asD g 5))
def hk : PySem.W.Hook where
  α := He.AlD × Bool
  obs := fun s => obXG s.heap.get?
  val := fun _ => (He.valD fn, true)
  says := fun _ h => ∃ K : PySem.W.Frag, K.In h ∧ He.SaysD fa fn K ∧ (exL K).all id = true
  of := fun _ _ e => ⟨_, He.frG_in, congrArg Prod.fst e, congrArg Prod.snd e⟩
  keeps := fun _ _ _ ⟨K, hK, c⟩ k => ⟨K, PySem.W.Frag.In.keeps hK k, c⟩
def ob (s : PySem.W.SharedT) : He.AlD × Bool := obXG (HandSHeadRun.getT s)
theorem ob_eq (s : PySem.W.SharedT) : ob s = hk.obs s.abs := by
  have e : HandSHeadRun.getT s = s.abs.heap.get? := funext (HandSHeadRun.getT_eq s)
  show obXG (HandSHeadRun.getT s) = obXG s.abs.heap.get?
  rw [e]
abbrev R : PySem.W.OpenRow := PySem.W.OpenLaw.row PySem.Challenge.rw_greyhall_k08_whole_hall_by_hand
def loose1 : List PySem.Str := ["__name__", "_wall", "HallError", "NoThing", "NoField", "NoRoom", "NotNow", "Thing", "Held", "is_held", "Memory", "shade", "least_grey", "next_from", "Sweeper", "Hall", "_law_cell", "_law_mix", "_law_whole", "_law_act", "_law_acts", "_law_size", "_law_call", "_law_do", "_law_new", "_law_gap", "_law_shade", "_law_grey", "_law_settle", "_law_begin"]
def loose2 : List PySem.Str := ["_law_part", "_law_steps", "_law_moved", "_law_slide", "_law_made", "_law_field", "_law_touch", "_law_by_hand", "_law_blocks", "_law_alike"]
def loose : List PySem.Str := loose1 ++ loose2
theorem run (w : World) : HandSHeadRun.RunEq R (PySem.W.view R.prog [44]) hk ob 20000 loose w := by
  intro os
  kernel_rfl
theorem txt {K : PySem.W.Frag} {h : Heap} {mg : Str → Option Value} (X : K.In h) (N : h.Ns mainGlobals mg) (c : He.SaysD fa fn K) (e : (exL K).all id = true) : Txt K mg where
  cThing := (He.cls_ok (c.fact 1 (f := .cls "Thing") rfl))
  cHeld := (He.cls_ok (c.fact 6 (f := .cls "Held") rfl))
  cMem := (He.cls_ok (c.fact 10 (f := .cls "Memory") rfl))
  cSw := (He.cls_ok (c.fact 19 (f := .cls "Sweeper") rfl))
  cHall := (He.cls_ok (c.fact 31 (f := .cls "Hall") rfl))
  nFields := (He.noat_ok (c.fact 2 (f := .noat "Thing" "fields") rfl))
  nColour := (He.noat_ok (c.fact 3 (f := .noat "Thing" "colour") rfl))
  nPlace := (He.noat_ok (c.fact 7 (f := .noat "Held" "place") rfl))
  nSize := (He.noat_ok (c.fact 11 (f := .noat "Memory" "size") rfl))
  nThings := (He.noat_ok (c.fact 12 (f := .noat "Memory" "things") rfl))
  nMemS := (He.noat_ok (c.fact 20 (f := .noat "Sweeper" "memory") rfl))
  nStanding := (He.noat_ok (c.fact 21 (f := .noat "Sweeper" "standing") rfl))
  nAtWord := (He.noat_ok (c.fact 22 (f := .noat "Sweeper" "at_word") rfl))
  nMemH := (He.noat_ok (c.fact 32 (f := .noat "Hall" "memory") rfl))
  nHands := (He.noat_ok (c.fact 33 (f := .noat "Hall" "hands") rfl))
  nSweeper := (He.noat_ok (c.fact 34 (f := .noat "Hall" "sweeper") rfl))
  gHeld := (He.glo_ok X N (c.fact 5 (f := .glo "Held") rfl))
  iHeld := ⟨He.eqO_ok (ex_at e 0), of_decide_eq_true (ex_at e 1)⟩
  gcls := He.eqO_ok (ex_at e 2)
  tcls := of_decide_eq_true (ex_at e 3)
  kInt := of_decide_eq_true (ex_at e 4)
  neHT := of_decide_eq_true (ex_at e 5)
  neHM := of_decide_eq_true (ex_at e 6)
  neHS := of_decide_eq_true (ex_at e 7)
  neHH := of_decide_eq_true (ex_at e 8)
  neTM := of_decide_eq_true (ex_at e 9)
  neTS := of_decide_eq_true (ex_at e 10)
  neTH := of_decide_eq_true (ex_at e 11)
  neMS := of_decide_eq_true (ex_at e 12)
  neMH := of_decide_eq_true (ex_at e 13)
  neSH := of_decide_eq_true (ex_at e 14)
  cT := ⟨He.eqO_ok (ex_at e 15), He.eqO_ok (ex_at e 16), (He.exc_ok (c.fact 60 (f := .exc "NoThing") rfl)).2.2.1, ex_at e 17, He.eqO_ok (ex_at e 18), He.eqO_ok (ex_at e 2), of_decide_eq_true (ex_at e 3), of_decide_eq_true (ex_at e 19)⟩
  kTT := of_decide_eq_true (ex_at e 20)
  kTF := of_decide_eq_true (ex_at e 21)
  kTR := of_decide_eq_true (ex_at e 22)
  kTN := of_decide_eq_true (ex_at e 23)
  kTV := of_decide_eq_true (ex_at e 24)
  eTH := (He.exm_ok (c.fact 67 (f := .exm "NoThing" "HallError" true) rfl))
  cF := ⟨He.eqO_ok (ex_at e 25), He.eqO_ok (ex_at e 26), (He.exc_ok (c.fact 62 (f := .exc "NoField") rfl)).2.2.1, ex_at e 27, He.eqO_ok (ex_at e 28), He.eqO_ok (ex_at e 2), of_decide_eq_true (ex_at e 3), of_decide_eq_true (ex_at e 29)⟩
  kFT := of_decide_eq_true (ex_at e 30)
  kFF := of_decide_eq_true (ex_at e 31)
  kFR := of_decide_eq_true (ex_at e 32)
  kFN := of_decide_eq_true (ex_at e 33)
  kFV := of_decide_eq_true (ex_at e 34)
  eFH := (He.exm_ok (c.fact 72 (f := .exm "NoField" "HallError" true) rfl))
  cR := ⟨He.eqO_ok (ex_at e 35), He.eqO_ok (ex_at e 36), (He.exc_ok (c.fact 64 (f := .exc "NoRoom") rfl)).2.2.1, ex_at e 37, He.eqO_ok (ex_at e 38), He.eqO_ok (ex_at e 2), of_decide_eq_true (ex_at e 3), of_decide_eq_true (ex_at e 39)⟩
  kRT := of_decide_eq_true (ex_at e 40)
  kRF := of_decide_eq_true (ex_at e 41)
  kRR := of_decide_eq_true (ex_at e 42)
  kRN := of_decide_eq_true (ex_at e 43)
  kRV := of_decide_eq_true (ex_at e 44)
  eRH := (He.exm_ok (c.fact 77 (f := .exm "NoRoom" "HallError" true) rfl))
  cN := ⟨He.eqO_ok (ex_at e 45), He.eqO_ok (ex_at e 46), (He.exc_ok (c.fact 66 (f := .exc "NotNow") rfl)).2.2.1, ex_at e 47, He.eqO_ok (ex_at e 48), He.eqO_ok (ex_at e 2), of_decide_eq_true (ex_at e 3), of_decide_eq_true (ex_at e 49)⟩
  kNT := of_decide_eq_true (ex_at e 50)
  kNF := of_decide_eq_true (ex_at e 51)
  kNR := of_decide_eq_true (ex_at e 52)
  kNN := of_decide_eq_true (ex_at e 53)
  kNV := of_decide_eq_true (ex_at e 54)
  eNH := (He.exm_ok (c.fact 82 (f := .exm "NotNow" "HallError" true) rfl))
  gHE := (He.glo_ok X N (c.fact 57 (f := .glo "HallError") rfl))
  eTT := (He.exm_ok (c.fact 68 (f := .exm "NoThing" "NoThing" true) rfl))
  eFT := (He.exm_ok (c.fact 73 (f := .exm "NoField" "NoThing" false) rfl))
  eFF := (He.exm_ok (c.fact 74 (f := .exm "NoField" "NoField" true) rfl))
  eRT := (He.exm_ok (c.fact 78 (f := .exm "NoRoom" "NoThing" false) rfl))
  eRF := (He.exm_ok (c.fact 79 (f := .exm "NoRoom" "NoField" false) rfl))
  eRR := (He.exm_ok (c.fact 80 (f := .exm "NoRoom" "NoRoom" true) rfl))
  eNT := (He.exm_ok (c.fact 83 (f := .exm "NotNow" "NoThing" false) rfl))
  eNF := (He.exm_ok (c.fact 84 (f := .exm "NotNow" "NoField" false) rfl))
  eNR := (He.exm_ok (c.fact 85 (f := .exm "NotNow" "NoRoom" false) rfl))
  eNN := (He.exm_ok (c.fact 86 (f := .exm "NotNow" "NotNow" true) rfl))
  xThing := ⟨(He.glo_ok X N (c.fact 59 (f := .glo "NoThing") rfl)), (He.exc_ok (c.fact 60 (f := .exc "NoThing") rfl)).1, (He.exc_ok (c.fact 60 (f := .exc "NoThing") rfl)).2.1, (He.exc_ok (c.fact 60 (f := .exc "NoThing") rfl)).2.2.1, (He.exc_ok (c.fact 60 (f := .exc "NoThing") rfl)).2.2.2⟩
  xField := ⟨(He.glo_ok X N (c.fact 61 (f := .glo "NoField") rfl)), (He.exc_ok (c.fact 62 (f := .exc "NoField") rfl)).1, (He.exc_ok (c.fact 62 (f := .exc "NoField") rfl)).2.1, (He.exc_ok (c.fact 62 (f := .exc "NoField") rfl)).2.2.1, (He.exc_ok (c.fact 62 (f := .exc "NoField") rfl)).2.2.2⟩
  xRoom := ⟨(He.glo_ok X N (c.fact 63 (f := .glo "NoRoom") rfl)), (He.exc_ok (c.fact 64 (f := .exc "NoRoom") rfl)).1, (He.exc_ok (c.fact 64 (f := .exc "NoRoom") rfl)).2.1, (He.exc_ok (c.fact 64 (f := .exc "NoRoom") rfl)).2.2.1, (He.exc_ok (c.fact 64 (f := .exc "NoRoom") rfl)).2.2.2⟩
  xNow := ⟨(He.glo_ok X N (c.fact 65 (f := .glo "NotNow") rfl)), (He.exc_ok (c.fact 66 (f := .exc "NotNow") rfl)).1, (He.exc_ok (c.fact 66 (f := .exc "NotNow") rfl)).2.1, (He.exc_ok (c.fact 66 (f := .exc "NotNow") rfl)).2.2.1, (He.exc_ok (c.fact 66 (f := .exc "NotNow") rfl)).2.2.2⟩
  b_len := (He.free_ok X N (c.fact 116 (f := .free "len") rfl))
  b_sorted := (He.free_ok X N (c.fact 117 (f := .free "sorted") rfl))
  b_isinstance := (He.free_ok X N (c.fact 118 (f := .free "isinstance") rfl))
  b_tuple := (He.free_ok X N (c.fact 119 (f := .free "tuple") rfl))
  b_range := (He.free_ok X N (c.fact 120 (f := .free "range") rfl))
  b_list := (He.free_ok X N (c.fact 121 (f := .free "list") rfl))
  b_int := (He.free_ok X N (c.fact 122 (f := .free "int") rfl))
  b_sum := (He.free_ok X N (c.fact 123 (f := .free "sum") rfl))
  b_all := (He.free_ok X N (c.fact 124 (f := .free "all") rfl))
  b_any := (He.free_ok X N (c.fact 125 (f := .free "any") rfl))
  b_min := (He.free_ok X N (c.fact 126 (f := .free "min") rfl))
  b_str := (He.free_ok X N (c.fact 127 (f := .free "str") rfl))
  b_set := (He.free_ok X N (c.fact 128 (f := .free "set") rfl))
  b_enumerate := (He.free_ok X N (c.fact 129 (f := .free "enumerate") rfl))
  b_bool := (He.free_ok X N (c.fact 130 (f := .free "bool") rfl))
  b_ValueError := (He.free_ok X N (c.fact 131 (f := .free "ValueError") rfl))
theorem walk {P : Program} {w : World} {K : PySem.W.Frag} {h : Heap} {mg : Str → Option Value} {f : Addr} (X : K.In h) (N : h.Ns mainGlobals mg) (hfa : mg ("law" : Str) = some (.ref f)) (c : He.SaysD fa fn K) (e : (exL K).all id = true) :
    ∃ fd : FuncData, (∀ (s : Shared) (v : Value), BindsTo s fd ⟨[v], []⟩ [("_law_script", v)]) ∧ ∀ base : Heap, K.In base → base.Ns mainGlobals mg → FnOk P w K mg base CX0 lv_law f fd ["_law_script"] (sp_law K) := by
  have T : Txt K mg := txt X N c e
  have e0 := hfa.symm.trans (He.glo_ok X N (c.fact 115 (f := .glo "law") rfl))
  cases e0
  obtain ⟨fd, F⟩ := c.def_ 60 (d := d_law) rfl
  refine ⟨fd, fun s v => FunD.bindsA (ps := ["_law_script"]) F (fun _ _ _ _ _ _ us hl => match us, hl with | [_], _ => rfl) s [v] rfl, fun base _ _ => ?_⟩
  have m_Thing_init : MkC P w K mg base CX0 lv_Thing_init "Thing" (sp_Thing_init K) := ok_Thing_init T (c.def_ 0 (d := d_Thing_init) rfl) (He.mkr_ok (c.fact 4 (f := .mkr "Thing") rfl)) (He.glo_ok X N (c.fact 0 (f := .glo "Thing") rfl)) 
  have m_Held_init : MkC P w K mg base CX0 lv_Held_init "Held" (sp_Held_init K) := ok_Held_init T (c.def_ 1 (d := d_Held_init) rfl) (He.mkr_ok (c.fact 8 (f := .mkr "Held") rfl)) (He.glo_ok X N (c.fact 5 (f := .glo "Held") rfl)) 
  have m_is_held : FnC P w K mg base CX0 lv_is_held "is_held" (sp_is_held K) := ok_is_held T (c.def_ 2 (d := d_is_held) rfl) (He.glo_ok X N (c.fact 87 (f := .glo "is_held") rfl)) 
  have m_Memory_init : MkC P w K mg base CX0 lv_Memory_init "Memory" (sp_Memory_init K) := ok_Memory_init T (c.def_ 3 (d := d_Memory_init) rfl) (He.mkr_ok (c.fact 17 (f := .mkr "Memory") rfl)) (He.glo_ok X N (c.fact 9 (f := .glo "Memory") rfl)) 
  have m_Memory_places : MtC P w K mg base CX0 lv_Memory_places "Memory" "places" (sp_Memory_places K) := ok_Memory_places T (c.def_ 4 (d := d_Memory_places) rfl) (He.meth_ok (c.fact 13 (f := .meth "Memory" "places") rfl)) 
  have m_Memory_words : MtC P w K mg base CX0 lv_Memory_words "Memory" "words" (sp_Memory_words K) := ok_Memory_words T (c.def_ 5 (d := d_Memory_words) rfl) (He.meth_ok (c.fact 14 (f := .meth "Memory" "words") rfl)) 
  have m_Sweeper_init : MkC P w K mg base CX0 lv_Sweeper_init "Sweeper" (sp_Sweeper_init K) := ok_Sweeper_init T (c.def_ 6 (d := d_Sweeper_init) rfl) (He.mkr_ok (c.fact 29 (f := .mkr "Sweeper") rfl)) (He.glo_ok X N (c.fact 18 (f := .glo "Sweeper") rfl)) 
  have m_Sweeper_colour_at : MtC P w K mg base CX0 lv_Sweeper_colour_at "Sweeper" "colour_at" (sp_Sweeper_colour_at K) := ok_Sweeper_colour_at T (c.def_ 7 (d := d_Sweeper_colour_at) rfl) (He.meth_ok (c.fact 28 (f := .meth "Sweeper" "colour_at") rfl)) 
  have m_Hall_number : MtC P w K mg base CX0 lv_Hall_number "Hall" "number" (sp_Hall_number K) := ok_Hall_number T (c.def_ 8 (d := d_Hall_number) rfl) (He.meth_ok (c.fact 35 (f := .meth "Hall" "number") rfl)) 
  have m_Hall_copy : MtC P w K mg base CX0 lv_Hall_copy "Hall" "copy" (sp_Hall_copy K) := ok_Hall_copy T (c.def_ 9 (d := d_Hall_copy) rfl) (He.meth_ok (c.fact 36 (f := .meth "Hall" "copy") rfl)) 
  have m_Hall_phase : MtC P w K mg base CX0 lv_Hall_phase "Hall" "phase" (sp_Hall_phase K) := ok_Hall_phase T (c.def_ 10 (d := d_Hall_phase) rfl) (He.meth_ok (c.fact 53 (f := .meth "Hall" "phase") rfl)) 
  have m_Hall_finger : MtC P w K mg base CX0 lv_Hall_finger "Hall" "finger" (sp_Hall_finger K) := ok_Hall_finger T (c.def_ 11 (d := d_Hall_finger) rfl) (He.meth_ok (c.fact 55 (f := .meth "Hall" "finger") rfl)) 
  have m_l_cell : FnC P w K mg base CX0 lv_l_cell "_law_cell" (sp_l_cell K) := ok_l_cell T (c.def_ 12 (d := d_l_cell) rfl) (He.glo_ok X N (c.fact 91 (f := .glo "_law_cell") rfl)) 
  have m_l_mix : FnC P w K mg base CX0 lv_l_mix "_law_mix" (sp_l_mix K) := ok_l_mix T (c.def_ 13 (d := d_l_mix) rfl) (He.glo_ok X N (c.fact 92 (f := .glo "_law_mix") rfl)) 
  have m_l_whole : FnC P w K mg base CX0 lv_l_whole "_law_whole" (sp_l_whole K) := ok_l_whole T (c.def_ 14 (d := d_l_whole) rfl) (He.glo_ok X N (c.fact 93 (f := .glo "_law_whole") rfl)) 
  have m_l_new : FnC P w K mg base CX0 lv_l_new "_law_new" (sp_l_new K) := ok_l_new T (c.def_ 15 (d := d_l_new) rfl) (He.glo_ok X N (c.fact 99 (f := .glo "_law_new") rfl)) 
  have m_l_gap : FnC P w K mg base CX0 lv_l_gap "_law_gap" (sp_l_gap K) := ok_l_gap T (c.def_ 16 (d := d_l_gap) rfl) (He.glo_ok X N (c.fact 100 (f := .glo "_law_gap") rfl)) 
  have m_l_shade : FnC P w K mg base CX0 lv_l_shade "_law_shade" (sp_l_shade K) := ok_l_shade T (c.def_ 17 (d := d_l_shade) rfl) (He.glo_ok X N (c.fact 101 (f := .glo "_law_shade") rfl)) 
  have m_l_grey : FnC P w K mg base CX0 lv_l_grey "_law_grey" (sp_l_grey K) := ok_l_grey T (c.def_ 18 (d := d_l_grey) rfl) (He.glo_ok X N (c.fact 102 (f := .glo "_law_grey") rfl)) 
  have m_l_moved : FnC P w K mg base CX0 lv_l_moved "_law_moved" (sp_l_moved K) := ok_l_moved T (c.def_ 19 (d := d_l_moved) rfl) (He.glo_ok X N (c.fact 107 (f := .glo "_law_moved") rfl)) 
  have m_l_field : FnC P w K mg base CX0 lv_l_field "_law_field" (sp_l_field K) := ok_l_field T (c.def_ 20 (d := d_l_field) rfl) (He.glo_ok X N (c.fact 110 (f := .glo "_law_field") rfl)) 
  have m_l_blocks : FnC P w K mg base CX0 lv_l_blocks "_law_blocks" (sp_l_blocks K) := ok_l_blocks T (c.def_ 21 (d := d_l_blocks) rfl) (He.glo_ok X N (c.fact 113 (f := .glo "_law_blocks") rfl)) 
  have m_Memory_gap : MtC P w K mg base CX0 lv_Memory_gap "Memory" "gap" (sp_Memory_gap K) := ok_Memory_gap T (c.def_ 22 (d := d_Memory_gap) rfl) (He.meth_ok (c.fact 15 (f := .meth "Memory" "gap") rfl)) m_Memory_places m_Memory_words
  have m_Memory_blocks : MtC P w K mg base CX0 lv_Memory_blocks "Memory" "blocks" (sp_Memory_blocks K) := ok_Memory_blocks T (c.def_ 23 (d := d_Memory_blocks) rfl) (He.meth_ok (c.fact 16 (f := .meth "Memory" "blocks") rfl)) m_Memory_places m_Memory_words
  have m_shade : FnC P w K mg base CX0 lv_shade "shade" (sp_shade K) := ok_shade T (c.def_ 24 (d := d_shade) rfl) (He.glo_ok X N (c.fact 88 (f := .glo "shade") rfl)) m_is_held
  have m_least_grey : FnC P w K mg base CX0 lv_least_grey "least_grey" (sp_least_grey K) := ok_least_grey T (c.def_ 25 (d := d_least_grey) rfl) (He.glo_ok X N (c.fact 89 (f := .glo "least_grey") rfl)) m_Memory_places
  have m_next_from : FnC P w K mg base CX0 lv_next_from "next_from" (sp_next_from K) := ok_next_from T (c.def_ 26 (d := d_next_from) rfl) (He.glo_ok X N (c.fact 90 (f := .glo "next_from") rfl)) m_Memory_places
  have m_Hall_held_by : MtC P w K mg base (L2.CX P w) lv_Hall_held_by "Hall" "held_by" (sp_Hall_held_by K) := ok_Hall_held_by T (c.def_ 27 (d := d_Hall_held_by) rfl) (He.meth_ok (c.fact 37 (f := .meth "Hall" "held_by") rfl)) m_is_held
  have m_Hall_colours : MtC P w K mg base CX0 lv_Hall_colours "Hall" "colours" (sp_Hall_colours K) := ok_Hall_colours T (c.def_ 28 (d := d_Hall_colours) rfl) (He.meth_ok (c.fact 54 (f := .meth "Hall" "colours") rfl)) m_Memory_places
  have m_l_act : FnC P w K mg base CX0 lv_l_act "_law_act" (sp_l_act K) := ok_l_act T (c.def_ 29 (d := d_l_act) rfl) (He.glo_ok X N (c.fact 94 (f := .glo "_law_act") rfl)) m_l_mix
  have m_l_size : FnC P w K mg base CX0 lv_l_size "_law_size" (sp_l_size K) := ok_l_size T (c.def_ 30 (d := d_l_size) rfl) (He.glo_ok X N (c.fact 96 (f := .glo "_law_size") rfl)) m_l_mix m_l_cell
  have m_l_settle : FnC P w K mg base CX0 lv_l_settle "_law_settle" (sp_l_settle K) := ok_l_settle T (c.def_ 31 (d := d_l_settle) rfl) (He.glo_ok X N (c.fact 103 (f := .glo "_law_settle") rfl)) m_l_grey
  have m_l_slide : FnC P w K mg base CX0 lv_l_slide "_law_slide" (sp_l_slide K) := ok_l_slide T (c.def_ 32 (d := d_l_slide) rfl) (He.glo_ok X N (c.fact 108 (f := .glo "_law_slide") rfl)) m_l_moved
  have m_l_touch : FnC P w K mg base CX0 lv_l_touch "_law_touch" (sp_l_touch K) := ok_l_touch T (c.def_ 33 (d := d_l_touch) rfl) (He.glo_ok X N (c.fact 111 (f := .glo "_law_touch") rfl)) m_l_shade m_l_field
  have m_Sweeper_settle : MtC P w K mg base CX0 lv_Sweeper_settle "Sweeper" "settle" (sp_Sweeper_settle K) := ok_Sweeper_settle T (c.def_ 34 (d := d_Sweeper_settle) rfl) (He.meth_ok (c.fact 24 (f := .meth "Sweeper" "settle") rfl)) m_next_from m_least_grey
  have m_Sweeper_mark_part : MtC P w K mg base CX0 lv_Sweeper_mark_part "Sweeper" "mark_part" (sp_Sweeper_mark_part K) := ok_Sweeper_mark_part T (c.def_ 35 (d := d_Sweeper_mark_part) rfl) (He.meth_ok (c.fact 25 (f := .meth "Sweeper" "mark_part") rfl)) m_shade m_least_grey
  have m_Sweeper_sweep_part : MtC P w K mg base CX0 lv_Sweeper_sweep_part "Sweeper" "sweep_part" (sp_Sweeper_sweep_part K) := ok_Sweeper_sweep_part T (c.def_ 36 (d := d_Sweeper_sweep_part) rfl) (He.meth_ok (c.fact 26 (f := .meth "Sweeper" "sweep_part") rfl)) m_Memory_words m_next_from
  have m_Hall_init : MkC P w K mg base CX0 lv_Hall_init "Hall" (sp_Hall_init K) := ok_Hall_init T (c.def_ 37 (d := d_Hall_init) rfl) (He.mkr_ok (c.fact 56 (f := .mkr "Hall") rfl)) (He.glo_ok X N (c.fact 30 (f := .glo "Hall") rfl)) m_Sweeper_init m_Memory_init
  have m_Hall_fields_of : MtC P w K mg base (L2.CX P w) lv_Hall_fields_of "Hall" "fields_of" (sp_Hall_fields_of K) := ok_Hall_fields_of T (c.def_ 38 (d := d_Hall_fields_of) rfl) (He.meth_ok (c.fact 38 (f := .meth "Hall" "fields_of") rfl)) m_Hall_held_by
  have m_Hall_blocks : MtC P w K mg base CX0 lv_Hall_blocks "Hall" "blocks" (sp_Hall_blocks K) := ok_Hall_blocks T (c.def_ 39 (d := d_Hall_blocks) rfl) (He.meth_ok (c.fact 46 (f := .meth "Hall" "blocks") rfl)) m_Memory_blocks
  have m_Hall_place_of : MtC P w K mg base (L2.CX P w) lv_Hall_place_of "Hall" "place_of" (sp_Hall_place_of K) := ok_Hall_place_of T (c.def_ 40 (d := d_Hall_place_of) rfl) (He.meth_ok (c.fact 47 (f := .meth "Hall" "place_of") rfl)) m_Hall_held_by
  have m_Hall_moved : MtC P w K mg base CX0 lv_Hall_moved "Hall" "moved" (sp_Hall_moved K) := ok_Hall_moved T (c.def_ 41 (d := d_Hall_moved) rfl) (He.meth_ok (c.fact 48 (f := .meth "Hall" "moved") rfl)) m_is_held m_Held_init
  have m_l_acts : FnC P w K mg base CX0 lv_l_acts "_law_acts" (sp_l_acts K) := ok_l_acts T (c.def_ 42 (d := d_l_acts) rfl) (He.glo_ok X N (c.fact 95 (f := .glo "_law_acts") rfl)) m_l_act
  have m_l_begin : FnC P w K mg base CX0 lv_l_begin "_law_begin" (sp_l_begin K) := ok_l_begin T (c.def_ 43 (d := d_l_begin) rfl) (He.glo_ok X N (c.fact 104 (f := .glo "_law_begin") rfl)) m_l_settle m_l_shade
  have m_l_part : FnC P w K mg base CX0 lv_l_part "_law_part" (sp_l_part K) := ok_l_part T (c.def_ 44 (d := d_l_part) rfl) (He.glo_ok X N (c.fact 105 (f := .glo "_law_part") rfl)) m_l_settle m_l_shade m_l_grey
  have m_Sweeper_begin : MtC P w K mg base CX0 lv_Sweeper_begin "Sweeper" "begin" (sp_Sweeper_begin K) := ok_Sweeper_begin T (c.def_ 45 (d := d_Sweeper_begin) rfl) (He.meth_ok (c.fact 23 (f := .meth "Sweeper" "begin") rfl)) m_Sweeper_settle m_shade
  have m_Sweeper_part : MtC P w K mg base CX0 lv_Sweeper_part "Sweeper" "part" (sp_Sweeper_part K) := ok_Sweeper_part T (c.def_ 46 (d := d_Sweeper_part) rfl) (He.meth_ok (c.fact 27 (f := .meth "Sweeper" "part") rfl)) m_Sweeper_settle m_Sweeper_mark_part m_Sweeper_sweep_part
  have m_Hall_load : MtC P w K mg base (L2.CX P w) lv_Hall_load "Hall" "load" (sp_Hall_load K) := ok_Hall_load T (c.def_ 47 (d := d_Hall_load) rfl) (He.meth_ok (c.fact 39 (f := .meth "Hall" "load") rfl)) m_Hall_fields_of
  have m_Hall_store : MtC P w K mg base (L2.CX P w) lv_Hall_store "Hall" "store" (sp_Hall_store K) := ok_Hall_store T (c.def_ 48 (d := d_Hall_store) rfl) (He.meth_ok (c.fact 40 (f := .meth "Hall" "store") rfl)) m_shade m_Hall_fields_of
  have m_Hall_slide : MtC P w K mg base (L2.CX P w) lv_Hall_slide "Hall" "slide" (sp_Hall_slide K) := ok_Hall_slide T (c.def_ 49 (d := d_Hall_slide) rfl) (He.meth_ok (c.fact 49 (f := .meth "Hall" "slide") rfl)) m_Hall_moved m_Memory_places m_Memory_words
  have m_l_steps : FnC P w K mg base CX0 lv_l_steps "_law_steps" (sp_l_steps K) := ok_l_steps T (c.def_ 50 (d := d_l_steps) rfl) (He.glo_ok X N (c.fact 106 (f := .glo "_law_steps") rfl)) m_l_part
  have m_l_alike : FnC P w K mg base CX0 lv_l_alike "_law_alike" (sp_l_alike K) := ok_l_alike T (c.def_ 51 (d := d_l_alike) rfl) (He.glo_ok X N (c.fact 114 (f := .glo "_law_alike") rfl)) m_Hall_place_of m_l_whole m_Hall_finger m_Hall_colours m_Hall_phase m_Hall_blocks m_l_blocks
  have m_Hall_begin : MtC P w K mg base (L2.CX P w) lv_Hall_begin "Hall" "begin" (sp_Hall_begin K) := ok_Hall_begin T (c.def_ 52 (d := d_Hall_begin) rfl) (He.meth_ok (c.fact 50 (f := .meth "Hall" "begin") rfl)) m_Sweeper_begin
  have m_Hall_step : MtC P w K mg base CX0 lv_Hall_step "Hall" "step" (sp_Hall_step K) := ok_Hall_step T (c.def_ 53 (d := d_Hall_step) rfl) (He.meth_ok (c.fact 51 (f := .meth "Hall" "step") rfl)) m_Sweeper_part
  have m_Hall_finish : MtC P w K mg base CX0 lv_Hall_finish "Hall" "finish" (sp_Hall_finish K) := ok_Hall_finish T (c.def_ 54 (d := d_Hall_finish) rfl) (He.meth_ok (c.fact 52 (f := .meth "Hall" "finish") rfl)) m_Sweeper_part
  have m_l_made : FnC P w K mg base CX0 lv_l_made "_law_made" (sp_l_made K) := ok_l_made T (c.def_ 55 (d := d_l_made) rfl) (He.glo_ok X N (c.fact 109 (f := .glo "_law_made") rfl)) m_l_gap m_l_slide m_l_steps m_l_begin
  have m_Hall_make : MtC P w K mg base (L2.CX P w) lv_Hall_make "Hall" "make" (sp_Hall_make K) := ok_Hall_make T (c.def_ 56 (d := d_Hall_make) rfl) (He.meth_ok (c.fact 41 (f := .meth "Hall" "make") rfl)) m_Held_init m_Thing_init m_Sweeper_colour_at m_Memory_gap m_Hall_slide m_Hall_finish m_Hall_begin
  have m_l_by_hand : FnC P w K mg base CX0 lv_l_by_hand "_law_by_hand" (sp_l_by_hand K) := ok_l_by_hand T (c.def_ 57 (d := d_l_by_hand) rfl) (He.glo_ok X N (c.fact 112 (f := .glo "_law_by_hand") rfl)) m_l_begin m_l_slide m_l_touch m_l_steps m_l_made
  have m_l_call : FnC P w K mg base (L2.CX P w) lv_l_call "_law_call" (sp_l_call K) := ok_l_call T (c.def_ 58 (d := d_l_call) rfl) (He.glo_ok X N (c.fact 97 (f := .glo "_law_call") rfl)) m_Hall_step m_Hall_finish m_Hall_slide m_Hall_begin m_Hall_number m_Hall_copy m_Hall_load m_Hall_store m_Hall_make
  have m_l_do : FnC P w K mg base CX0 lv_l_do "_law_do" (sp_l_do K) := ok_l_do T (c.def_ 59 (d := d_l_do) rfl) (He.glo_ok X N (c.fact 98 (f := .glo "_law_do") rfl)) m_l_call
  exact ok_law T F m_l_acts m_l_alike m_l_whole m_l_by_hand m_l_do m_l_new m_Hall_init m_l_size
end G
open PySem PyProof.Rows PySem.W PySem.Calls
theorem PySem.Challenge.cw_greyhall_k08_whole_hall_by_hand_holds : PySem.Challenge.rw_greyhall_k08_whole_hall_by_hand.Holds := by
  w_on; o_law
  refine HandSHeadRun.head_any (r := OpenLaw.row PySem.Challenge.rw_greyhall_k08_whole_hall_by_hand) (q := view (OpenLaw.row PySem.Challenge.rw_greyhall_k08_whole_hall_by_hand).prog [44]) (H := G.hk) (ob := G.ob) (M := 20000) (loose := G.loose) (d := HandSHeadRun.topDef (OpenLaw.row PySem.Challenge.rw_greyhall_k08_whole_hall_by_hand).prog 44) (kwd := []) G.ob_eq
    (by kernel_rfl) (fun s => by kernel_rfl) G.run (by kernel_rfl) (by kernel_rfl) (by kernel_rfl) (by rfl) (by first | assumption | decide +kernel) (by decide +kernel) ⟨rfl, rfl, rfl, rfl, rfl, by decide +kernel⟩ ?hw ?hc
  case hw => w_witness2
  case hc =>
    refine L2.walk_ofE (l := PySem.Challenge.rw_greyhall_k08_whole_hall_by_hand) (n := 63) (k := G.lv_law) (x := "_law_script") (CX := L2.CX0) rfl (by decide) (by kernel_rfl) ⟨rfl, by decide, by decide⟩ ?F (fun _ _ _ _ z => z)
    intro w mg fa h Y N hmg0
    obtain ⟨K, KX, c, e⟩ := Y
    have hmg : mg ("law" : PySem.Str) = some (.ref fa) := by
      have e : (HandSHeadRun.topDef (OpenLaw.row PySem.Challenge.rw_greyhall_k08_whole_hall_by_hand).prog 44).name = ("law" : PySem.Str) := by kernel_rfl
      rw [← e]
      exact hmg0
    obtain ⟨fd, hb, hF⟩ := G.walk (P := (PySem.Challenge.rw_greyhall_k08_whole_hall_by_hand).prog) (w := w) KX N hmg c e
    exact ⟨K, fd, G.sp_law K, KX, hb, fun H a ns hl _ hS => ⟨a, ns, rfl, hS, hl, fun _ => rfl⟩, hF⟩
