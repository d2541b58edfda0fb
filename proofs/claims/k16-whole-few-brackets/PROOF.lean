import PyProof.Rows.All
import Wide.All
import OpenK.AllK
import Wide.FinOn
import HandS.ForMost
import KE.KStateDown
import HandS.ForExc
import HandS.Defaults
import HandS.ExcInit
import HandS.ExcField
import HandS.Head0
import HandS.Head1
import HandS.Head2
import HandS.HeadEnd
import HandS.HeadHook1
import HandS.HeadHook2
import HandS.HeadHook3
import HandS.HeadHook4
import PySem.Challenge.RW_elderhouse_k16_whole_few_brackets
import HandS.Text
import HandS.Steps
import HandS.Walk
import HandS.Style
import HandS.Iter
import KE.GoesMore
import HandS.TryMany
import HandS.IsInst
import PyProof.StrOps2
import HandS.RaiseMore
import PyProof.ReprText
import PyProof.StrLawsRepr
import HandS.ExcOwn
import HandS.CallSlots
import PyProof.ReprRoads
import HandS.Ends
set_option Elab.async false
set_option maxRecDepth 100000
set_option maxHeartbeats 4000000
/-! Elderhouse, the plain part: terms, words, the reader as relations. -/
namespace EH
open PySem L2 TL

/-! ### terms -/
inductive T where
  | num (n : Nat) | tru (b : Bool) | nam (x : Str) | slf
  | new (x : Str) (ts : List T) | eld (x : Str) (ts : List T)
  | fld (t : T) (x : Str) | cal (t : T) (x : Str) (ts : List T)
  | nt (t : T) | two (g : Str) (a b : T) | ite (a b c : T)
  | lt (x : Str) (a b : T) | st (t : T) (x : Str) (b : T)

theorem T.ind {P : T → Prop} (hnum : ∀ n, P (.num n)) (htru : ∀ b, P (.tru b)) (hnam : ∀ x, P (.nam x)) (hslf : P .slf)
    (hnew : ∀ x ts, (∀ t ∈ ts, P t) → P (.new x ts)) (held : ∀ x ts, (∀ t ∈ ts, P t) → P (.eld x ts))
    (hfld : ∀ t x, P t → P (.fld t x)) (hcal : ∀ t x ts, P t → (∀ t ∈ ts, P t) → P (.cal t x ts))
    (hnt : ∀ t, P t → P (.nt t)) (htwo : ∀ g a b, P a → P b → P (.two g a b)) (hite : ∀ a b c, P a → P b → P c → P (.ite a b c))
    (hlt : ∀ x a b, P a → P b → P (.lt x a b)) (hst : ∀ t x b, P t → P b → P (.st t x b)) : ∀ t, P t
  | .num n => hnum n
  | .tru b => htru b
  | .nam x => hnam x
  | .slf => hslf
  | .new x ts => hnew x ts fun t _ => T.ind hnum htru hnam hslf hnew held hfld hcal hnt htwo hite hlt hst t
  | .eld x ts => held x ts fun t _ => T.ind hnum htru hnam hslf hnew held hfld hcal hnt htwo hite hlt hst t
  | .fld t x => hfld t x (T.ind hnum htru hnam hslf hnew held hfld hcal hnt htwo hite hlt hst t)
  | .cal t x ts => hcal t x ts (T.ind hnum htru hnam hslf hnew held hfld hcal hnt htwo hite hlt hst t) fun t _ => T.ind hnum htru hnam hslf hnew held hfld hcal hnt htwo hite hlt hst t
  | .nt t => hnt t (T.ind hnum htru hnam hslf hnew held hfld hcal hnt htwo hite hlt hst t)
  | .two g a b => htwo g a b (T.ind hnum htru hnam hslf hnew held hfld hcal hnt htwo hite hlt hst a) (T.ind hnum htru hnam hslf hnew held hfld hcal hnt htwo hite hlt hst b)
  | .ite a b c => hite a b c (T.ind hnum htru hnam hslf hnew held hfld hcal hnt htwo hite hlt hst a) (T.ind hnum htru hnam hslf hnew held hfld hcal hnt htwo hite hlt hst b) (T.ind hnum htru hnam hslf hnew held hfld hcal hnt htwo hite hlt hst c)
  | .lt x a b => hlt x a b (T.ind hnum htru hnam hslf hnew held hfld hcal hnt htwo hite hlt hst a) (T.ind hnum htru hnam hslf hnew held hfld hcal hnt htwo hite hlt hst b)
  | .st t x b => hst t x b (T.ind hnum htru hnam hslf hnew held hfld hcal hnt htwo hite hlt hst t) (T.ind hnum htru hnam hslf hnew held hfld hcal hnt htwo hite hlt hst b)

mutual
def T.depth : T → Nat
  | .num _ => 1
  | .tru _ => 1
  | .nam _ => 1
  | .slf => 1
  | .new _ ts => 1 + depthL ts
  | .eld _ ts => 1 + depthL ts
  | .fld t _ => 1 + t.depth
  | .cal t _ ts => 1 + max t.depth (depthL ts)
  | .nt t => 1 + t.depth
  | .two _ a b => 1 + max a.depth b.depth
  | .ite a b c => 1 + max a.depth (max b.depth c.depth)
  | .lt _ a b => 1 + max a.depth b.depth
  | .st t _ b => 1 + max t.depth b.depth
def depthL : List T → Nat
  | [] => 0
  | t :: ts => max t.depth (depthL ts)
end
mutual
def T.size : T → Nat
  | .num _ => 1
  | .tru _ => 1
  | .nam _ => 1
  | .slf => 1
  | .new _ ts => 1 + sizeL ts
  | .eld _ ts => 1 + sizeL ts
  | .fld t _ => 1 + t.size
  | .cal t _ ts => 1 + (t.size + sizeL ts)
  | .nt t => 1 + t.size
  | .two _ a b => 1 + (a.size + b.size)
  | .ite a b c => 1 + (a.size + (b.size + c.size))
  | .lt _ a b => 1 + (a.size + b.size)
  | .st t _ b => 1 + (t.size + b.size)
def sizeL : List T → Nat
  | [] => 0
  | t :: ts => t.size + sizeL ts
end
theorem depthL_le {t : T} : ∀ {ts : List T}, t ∈ ts → t.depth ≤ depthL ts
  | _ :: r, h => by
    rw [depthL]
    rcases List.mem_cons.mp h with e | h
    · rw [e]; omega
    · have := depthL_le (ts := r) h; omega
theorem depth_pos (t : T) : 1 ≤ t.depth := by cases t <;> simp only [T.depth] <;> omega

/-! ### words -/
def isLow (c : Nat) : Bool := decide (97 ≤ c ∧ c ≤ 122)
def isUp (c : Nat) : Bool := decide (65 ≤ c ∧ c ≤ 90)
def isDig (c : Nat) : Bool := decide (48 ≤ c ∧ c ≤ 57)
def headWords : List Str := ["house", "of", "has", "can", "main", "number", "truth"]
def termWords : List Str := ["let", "in", "if", "then", "else", "new", "self", "elder", "set", "not", "yes", "no"]
def isTold (x : Str) : Bool := headWords.contains x || termWords.contains x
def isNumRow (x : Str) : Bool := decide (x.length ≠ 0 ∧ x.length ≤ 9) && (tl x).all isDig && (decide (x = ("0" : Str)) || !decide ((tl x).head? = some 48))
def isNameRow (x : Str) : Bool := decide (x.length ≤ 8) && (match tl x with | [] => false | c :: _ => isLow c) && (tl x).all fun c => isLow c || isDig c
def isName (x : Str) : Bool := isNameRow x && !isTold x
def kindOk (x : Str) : Bool := decide (x = ("number" : Str)) || decide (x = ("truth" : Str)) || isName x
def numTok (n : Nat) : Str := Str.ofString (toString ((n : Nat) : Int))
def strength (g : Str) : Nat :=
  if g = (";" : Str) then 1 else if g = ("<" : Str) ∨ g = ("=" : Str) then 2 else if g = ("+" : Str) ∨ g = ("-" : Str) then 3 else if g = ("*" : Str) ∨ g = ("/" : Str) then 4 else 0

/-! ### the reader, as relations -/
structure Src where
  ts : List Str
  op : Int
  md : Int
def Src.now (s : Src) : Str := s.ts.headD ("" : Str)
abbrev RT := Nat → Nat → Src → T → Src → Prop
/-- the term is let by: not too many, not too deep -/
def bu (t : T) (s s' : Src) : Prop := s.md + 1 ≤ 400 ∧ t.depth ≤ 14 ∧ s' = ⟨s.ts, s.op, s.md + 1⟩
section
variable (rt : RT)
inductive GivenL : Nat → List T → Src → List T → Src → Prop
  | stop {m acc s r} : s.ts = (")" : Str) :: r → GivenL m acc s acc s
  | one {m s t s1 out s2} : s.now ≠ (")" : Str) → rt 1 1 s t s1 → GivenL m [t] s1 out s2 → GivenL (m + 1) [] s out s2
  | more {m acc r op md t s1 out s2} : acc ≠ [] → rt 1 1 ⟨r, op, md⟩ t s1 → (acc ++ [t]).length ≤ 8 → GivenL m (acc ++ [t]) s1 out s2 → GivenL (m + 1) acc ⟨("," : Str) :: r, op, md⟩ out s2
def Given (s : Src) (out : List T) (s' : Src) : Prop := ∃ r m s1 r1, s.ts = ("(" : Str) :: r ∧ s.op + 1 ≤ 14 ∧ GivenL rt m [] ⟨r, s.op + 1, s.md⟩ out s1 ∧ s1.ts = (")" : Str) :: r1 ∧ s' = ⟨r1, s1.op - 1, s1.md⟩
inductive Atom : Src → T → Src → Prop
  | paren {r op md t s1 r1} : op + 1 ≤ 14 → rt 1 1 ⟨r, op + 1, md⟩ t s1 → s1.ts = (")" : Str) :: r1 → Atom ⟨("(" : Str) :: r, op, md⟩ t ⟨r1, s1.op - 1, s1.md⟩
  | yes {r op md s'} : bu (.tru true) ⟨r, op, md⟩ s' → Atom ⟨("yes" : Str) :: r, op, md⟩ (.tru true) s'
  | no {r op md s'} : bu (.tru false) ⟨r, op, md⟩ s' → Atom ⟨("no" : Str) :: r, op, md⟩ (.tru false) s'
  | slf {r op md s'} : bu .slf ⟨r, op, md⟩ s' → Atom ⟨("self" : Str) :: r, op, md⟩ .slf s'
  | new {x r op md ts s1 s'} : isName x = true → Given rt ⟨r, op, md⟩ ts s1 → bu (.new x ts) s1 s' → Atom ⟨("new" : Str) :: x :: r, op, md⟩ (.new x ts) s'
  | eld {x r op md ts s1 s'} : isName x = true → Given rt ⟨r, op, md⟩ ts s1 → bu (.eld x ts) s1 s' → Atom ⟨("elder" : Str) :: ("." : Str) :: x :: r, op, md⟩ (.eld x ts) s'
  | num {n r op md s'} : isNumRow (numTok n) = true → bu (.num n) ⟨r, op, md⟩ s' → Atom ⟨numTok n :: r, op, md⟩ (.num n) s'
  | nam {x r op md s'} : isName x = true → bu (.nam x) ⟨r, op, md⟩ s' → Atom ⟨x :: r, op, md⟩ (.nam x) s'
inductive ChainL : Nat → T → Src → T → Src → Prop
  | stop {m t s} : s.now ≠ ("." : Str) → ChainL m t s t s
  | fld {m t x r op md s1 t' s'} : isName x = true → Src.now ⟨r, op, md⟩ ≠ ("(" : Str) → bu (.fld t x) ⟨r, op, md⟩ s1 → ChainL m (.fld t x) s1 t' s' → ChainL (m + 1) t ⟨("." : Str) :: x :: r, op, md⟩ t' s'
  | cal {m t x r op md ts s1 s2 t' s'} : isName x = true → Given rt ⟨r, op, md⟩ ts s1 → bu (.cal t x ts) s1 s2 → ChainL m (.cal t x ts) s2 t' s' → ChainL (m + 1) t ⟨("." : Str) :: x :: r, op, md⟩ t' s'
def Chain (s : Src) (t : T) (s' : Src) : Prop := ∃ m a s1, Atom rt s a s1 ∧ ChainL rt m a s1 t s'
inductive SetL : Nat → T → Str → Src → T → Str → Src → Prop
  | stop {m t x s r} : s.ts = ("=" : Str) :: r → SetL m t x s t x s
  | fld {m t x y s r op md t' x' s'} : s.now ≠ ("=" : Str) → s.now ≠ ("(" : Str) → bu (.fld t x) s ⟨("." : Str) :: y :: r, op, md⟩ → isName y = true → SetL m (.fld t x) y ⟨r, op, md⟩ t' x' s' → SetL (m + 1) t x s t' x' s'
  | cal {m t x y s s1 ts r op md t' x' s'} : Given rt s ts s1 → bu (.cal t x ts) s1 ⟨("." : Str) :: y :: r, op, md⟩ → isName y = true → SetL m (.cal t x ts) y ⟨r, op, md⟩ t' x' s' → SetL (m + 1) t x s t' x' s'
def SetR (s : Src) (t : T) (s' : Src) : Prop := ∃ a x r op md m u f r2 op2 md2 b s3, Atom rt s a ⟨("." : Str) :: x :: r, op, md⟩ ∧ isName x = true ∧ SetL rt m a x ⟨r, op, md⟩ u f ⟨("=" : Str) :: r2, op2, md2⟩ ∧ rt 2 2 ⟨r2, op2, md2⟩ b s3 ∧ bu (.st u f b) s3 s' ∧ t = .st u f b
inductive Start (floor : Nat) : Src → T → Src → Prop
  | chain {s t s'} : s.now ≠ ("not" : Str) → s.now ≠ ("if" : Str) → s.now ≠ ("let" : Str) → s.now ≠ ("set" : Str) → Chain rt s t s' → Start floor s t s'
  | nt {r op md a s1 s'} : rt 5 floor ⟨r, op, md⟩ a s1 → bu (.nt a) s1 s' → Start floor ⟨("not" : Str) :: r, op, md⟩ (.nt a) s'
  | st {r op md t s'} : SetR rt ⟨r, op, md⟩ t s' → Start floor ⟨("set" : Str) :: r, op, md⟩ t s'
  | lt {x r op md a r1 op1 md1 b s2 s'} : isName x = true → rt 1 1 ⟨r, op, md⟩ a ⟨("in" : Str) :: r1, op1, md1⟩ → rt floor floor ⟨r1, op1, md1⟩ b s2 → bu (.lt x a b) s2 s' → Start floor ⟨("let" : Str) :: x :: ("=" : Str) :: r, op, md⟩ (.lt x a b) s'
  | ite {r op md a r1 op1 md1 b r2 op2 md2 c s3 s'} : rt 1 1 ⟨r, op, md⟩ a ⟨("then" : Str) :: r1, op1, md1⟩ → rt 1 1 ⟨r1, op1, md1⟩ b ⟨("else" : Str) :: r2, op2, md2⟩ → rt 2 2 ⟨r2, op2, md2⟩ c s3 → bu (.ite a b c) s3 s' → Start floor ⟨("if" : Str) :: r, op, md⟩ (.ite a b c) s'
def rl (g : Str) : Nat := strength g + if g = (";" : Str) then 0 else 1
inductive TermL (least floor : Nat) : Nat → T → Src → T → Src → Prop
  | stop {m t s} : strength s.now < least → TermL least floor m t s t s
  | step {m t g r op md b s1 s2 t' s'} : least ≤ strength g → rt (rl g) floor ⟨r, op, md⟩ b s1 → bu (.two g t b) s1 s2 → ¬ (strength g = 2 ∧ strength s2.now = 2) → TermL least floor m (.two g t b) s2 t' s' → TermL least floor (m + 1) t ⟨g :: r, op, md⟩ t' s'
end
def Term : Nat → RT
  | 0 => fun _ _ _ _ _ => False
  | n + 1 => fun least floor s t s' => ∃ m a s1, Start (Term n) floor s a s1 ∧ TermL (Term n) least floor m a s1 t s'

/-! ### the words of a term, with as few brackets as can be -/
def pw (g : Str) : Nat := if g = (";" : Str) then 1 else if g = ("<" : Str) then 2 else if g = ("=" : Str) then 2 else if g = ("+" : Str) then 3 else if g = ("-" : Str) then 3 else 4
def power : T → Nat
  | .two g _ _ => pw g
  | .ite _ _ _ => 2
  | .lt _ _ _ => 1
  | .st _ _ _ => 2
  | .nt _ => 5
  | _ => 6
def wrT (p least : Nat) (l : List Str) : List Str := if p < least then ("(" : Str) :: (l ++ [(")" : Str)]) else l
def joinT : List (List Str) → List Str
  | [] => []
  | [x] => x
  | x :: y :: r => x ++ ("," : Str) :: joinT (y :: r)
mutual
def tk : T → List Str
  | .num n => [numTok n]
  | .tru b => [if b then ("yes" : Str) else ("no" : Str)]
  | .nam x => [x]
  | .slf => [("self" : Str)]
  | .new x ts => ("new" : Str) :: x :: ("(" : Str) :: (joinT (tkL ts) ++ [(")" : Str)])
  | .eld x ts => ("elder" : Str) :: ("." : Str) :: x :: ("(" : Str) :: (joinT (tkL ts) ++ [(")" : Str)])
  | .fld t x => wrT (power t) 6 (tk t) ++ [("." : Str), x]
  | .cal t x ts => wrT (power t) 6 (tk t) ++ ("." : Str) :: x :: ("(" : Str) :: (joinT (tkL ts) ++ [(")" : Str)])
  | .nt t => ("not" : Str) :: wrT (power t) 5 (tk t)
  | .two g a b => wrT (power a) (pw g + if pw g < 3 then 1 else 0) (tk a) ++ g :: wrT (power b) (pw g + if pw g > 1 then 1 else 0) (tk b)
  | .st t x b => ("set" : Str) :: (wrT (power t) 6 (tk t) ++ ("." : Str) :: x :: ("=" : Str) :: wrT (power b) 2 (tk b))
  | .lt x a b => ("let" : Str) :: x :: ("=" : Str) :: (wrT (power a) 1 (tk a) ++ ("in" : Str) :: wrT (power b) 1 (tk b))
  | .ite a b c => ("if" : Str) :: (wrT (power a) 1 (tk a) ++ ("then" : Str) :: (wrT (power b) 1 (tk b) ++ ("else" : Str) :: wrT (power c) 2 (tk c)))
def tkL : List T → List (List Str)
  | [] => []
  | t :: ts => wrT (power t) 1 (tk t) :: tkL ts
end
def tkB (t : T) (least : Nat) : List Str := wrT (power t) least (tk t)
def signs : List Str := ["+", "-", "*", "/", "<", "=", ";"]
mutual
def T.wf : T → Prop
  | .num n => n < 1000000000
  | .tru _ => True
  | .nam x => isName x = true
  | .slf => True
  | .new x ts => isName x = true ∧ wfL ts ∧ ts.length ≤ 8
  | .eld x ts => isName x = true ∧ wfL ts ∧ ts.length ≤ 8
  | .fld t x => t.wf ∧ isName x = true
  | .cal t x ts => t.wf ∧ isName x = true ∧ wfL ts ∧ ts.length ≤ 8
  | .nt t => t.wf
  | .two g a b => g ∈ signs ∧ a.wf ∧ b.wf
  | .ite a b c => a.wf ∧ b.wf ∧ c.wf
  | .lt x a b => isName x = true ∧ a.wf ∧ b.wf
  | .st t x b => t.wf ∧ isName x = true ∧ b.wf
def wfL : List T → Prop
  | [] => True
  | t :: ts => t.wf ∧ wfL ts
end
end EH

set_option Elab.async false
set_option maxRecDepth 100000
set_option maxHeartbeats 4000000
namespace EH
open PySem L2 TL

/-! ### facts of words -/
theorem name_low {x : Str} (h : isName x = true) : ∃ c r, tl x = c :: r ∧ isLow c = true := by
  unfold isName isNameRow at h
  simp only [Bool.and_eq_true] at h
  obtain ⟨⟨⟨_, h2⟩, _⟩, _⟩ := h
  cases e : tl x with
  | nil => rw [e] at h2; cases h2
  | cons c r => rw [e] at h2; exact ⟨c, r, rfl, h2⟩
/-- does a word begin with a small letter -/
def lowB (w : Str) : Bool := match tl w with | [] => false | c :: _ => isLow c
theorem name_ne {x w : Str} (h : isName x = true) (hw : lowB w = false := by decide +kernel) : x ≠ w := fun e => by
  obtain ⟨c, r, e1, e2⟩ := name_low h
  subst e
  unfold lowB at hw
  rw [e1] at hw
  have hw2 : isLow c = false := hw
  rw [e2] at hw2
  cases hw2
theorem name_told {x w : Str} (h : isName x = true) (hw : isTold w = true := by decide +kernel) : x ≠ w := fun e => by
  subst e
  unfold isName at h
  rw [hw] at h
  simp at h
theorem str_name {x : Str} (h : isName x = true) : strength x = 0 := by
  unfold strength
  rw [if_neg (name_ne h), if_neg (not_or.mpr ⟨name_ne h, name_ne h⟩), if_neg (not_or.mpr ⟨name_ne h, name_ne h⟩), if_neg (not_or.mpr ⟨name_ne h, name_ne h⟩)]
theorem str_le (g : Str) : strength g ≤ 4 := by
  unfold strength
  repeat' split
  all_goals omega
theorem str_cl : strength (")" : Str) = 0 := by decide +kernel
theorem str_co : strength ("," : Str) = 0 := by decide +kernel
theorem str_em : strength ("" : Str) = 0 := by decide +kernel
theorem str_dot : strength ("." : Str) = 0 := by decide +kernel
theorem str_in : strength ("in" : Str) = 0 := by decide +kernel
theorem str_then : strength ("then" : Str) = 0 := by decide +kernel
theorem str_else : strength ("else" : Str) = 0 := by decide +kernel
theorem numTok_tl (n : Nat) : tl (numTok n) = numL n := tl_num n
theorem numTok_head (n : Nat) : ∃ c r, tl (numTok n) = c :: r ∧ isDig c = true := by
  rw [numTok_tl]
  cases e : numL n with
  | nil => exact absurd e (numL_ne n)
  | cons c r =>
    have h := numL_digits n
    rw [e] at h
    have h1 := h c List.mem_cons_self
    refine ⟨c, r, rfl, ?_⟩
    unfold isDig
    exact decide_eq_true ⟨by omega, by omega⟩
def digB (w : Str) : Bool := match tl w with | [] => false | c :: _ => isDig c
theorem num_ne {n : Nat} {w : Str} (hw : digB w = false := by decide +kernel) : numTok n ≠ w := fun e => by
  obtain ⟨c, r, e1, e2⟩ := numTok_head n
  rw [e] at e1
  unfold digB at hw
  rw [e1] at hw
  have hw2 : isDig c = false := hw
  rw [e2] at hw2
  cases hw2
theorem numRow_ok {n : Nat} (h : n < 1000000000) : isNumRow (numTok n) = true := by
  have h1 : tl (numTok n) = numL n := numTok_tl n
  have hl : (numTok n).length = (numL n).length := by rw [len_tl, h1]
  have h2 : (numL n).length ≤ 9 := numL_len (by decide) h
  have h3 : (numL n).length ≠ 0 := fun e => numL_ne n (List.length_eq_zero_iff.mp e)
  unfold isNumRow
  simp only [Bool.and_eq_true]
  refine ⟨⟨decide_eq_true (by rw [hl]; exact ⟨h3, h2⟩), ?_⟩, ?_⟩
  · rw [h1]
    refine List.all_eq_true.mpr fun c hc => ?_
    have q := numL_digits n c hc
    exact decide_eq_true ⟨by omega, by omega⟩
  · rw [h1]
    by_cases h0 : n = 0
    · subst h0
      decide +kernel
    · rw [Bool.or_eq_true]
      right
      have key : ∀ k : Nat, 0 < k → (numL k).head? ≠ some 48 := by
        intro k
        induction k using Nat.strongRecOn with
        | ind k ih =>
          intro hk
          by_cases h10 : k < 10
          · rw [numL_lt h10]
            intro e
            have e' : 48 + k = 48 := by simpa using e
            omega
          · rw [numL_step (by omega)]
            have q := ih (k / 10) (by omega) (by omega)
            cases e : numL (k / 10) with
            | nil => exact absurd e (numL_ne _)
            | cons c r =>
              rw [e] at q
              simpa using q
      have := key n (by omega)
      rw [decide_eq_false this]
      rfl

/-! ### how far a term binds -/
def lim : T → Nat
  | .two g _ _ => if pw g = 1 then 1 else if pw g = 2 then 2 else pw g + 1
  | .ite _ _ _ => 2
  | .lt _ _ _ => 1
  | .st _ _ _ => 2
  | _ => 5
def limB (t : T) (lb : Nat) : Nat := if power t < lb then 5 else lim t
theorem lim_pos (t : T) : 1 ≤ lim t := by
  cases t with
  | two g a b =>
    simp only [lim]
    split
    · omega
    · split <;> omega
  | _ => simp only [lim] <;> decide
theorem pw_le (g : Str) : 1 ≤ pw g ∧ pw g ≤ 4 := by
  unfold pw
  repeat' split
  all_goals omega
theorem power_pos (t : T) : 1 ≤ power t := by
  cases t with
  | two g a b => exact (pw_le g).1
  | _ => simp only [power] <;> omega
theorem str_pow {g : Str} (h : g ∈ signs) : strength g = pw g ∧ rl g = pw g + (if pw g > 1 then 1 else 0) := by
  simp only [signs, List.mem_cons, List.not_mem_nil, or_false] at h
  rcases h with rfl | rfl | rfl | rfl | rfl | rfl | rfl <;> exact ⟨(by decide +kernel), (by decide +kernel)⟩
/-- a term that binds by at least lb holds what binds by less than this -/
theorem lim_of {t : T} {lb : Nat} (h : lb ≤ power t) : (2 ≤ lb → 2 ≤ lim t) ∧ (3 ≤ lb → 4 ≤ lim t) ∧ (4 ≤ lb → 5 ≤ lim t) := by
  cases t with
  | two g a b =>
    have hp := pw_le g
    simp only [power] at h
    simp only [lim]
    refine ⟨fun h2 => ?_, fun h2 => ?_, fun h2 => ?_⟩
    all_goals
      split
      · omega
      · split <;> omega
  | _ => simp only [power] at h <;> simp only [lim] <;> omega
theorem limB_of (t : T) (lb : Nat) : 1 ≤ limB t lb ∧ (2 ≤ lb → 2 ≤ limB t lb) ∧ (3 ≤ lb → 4 ≤ limB t lb) ∧ (4 ≤ lb → 5 ≤ limB t lb) := by
  unfold limB
  by_cases c : power t < lb
  · rw [if_pos c]; omega
  · rw [if_neg c]
    have := lim_of (t := t) (lb := lb) (by omega)
    have := lim_pos t
    omega
def hd (l : List Str) : Str := l.headD ("" : Str)
theorem now_mk (l : List Str) (op md : Int) : Src.now ⟨l, op, md⟩ = hd l := rfl
theorem hd_cons (x : Str) (l : List Str) : hd (x :: l) = x := rfl
def HOK (rest : List Str) (L : Nat) : Prop := strength (hd rest) < L ∧ hd rest ≠ ("." : Str) ∧ hd rest ≠ ("(" : Str)
theorem HOK.mono {rest : List Str} {L M : Nat} (h : HOK rest L) (hl : L ≤ M) : HOK rest M := ⟨by have := h.1; omega, h.2⟩
/-- the brackets around -/
def br (t : T) (lb : Nat) : Nat := if power t < lb then 1 else 0
theorem wr_yes {t : T} {lb : Nat} (h : power t < lb) : tkB t lb = ("(" : Str) :: (tk t ++ [(")" : Str)]) := by unfold tkB wrT; rw [if_pos h]
theorem wr_no {t : T} {lb : Nat} (h : ¬ power t < lb) : tkB t lb = tk t := by unfold tkB wrT; rw [if_neg h]

/-! ### the reader reads it -/
def PA (t : T) : Prop := ∀ (n lb least floor : Nat) (rest : List Str) (op md : Int) (m : Nat) (t' : T) (s' : Src), t.wf → least ≤ lb → 1 ≤ floor → floor ≤ lb → lb ≤ power t →
  HOK rest (lim t) → 2 * t.depth ≤ n + 1 → 0 ≤ op → op + t.depth ≤ 14 → md + t.size ≤ 400 →
  TermL (Term n) least floor m t ⟨rest, op, md + t.size⟩ t' s' → Term (n + 1) least floor ⟨tk t ++ rest, op, md⟩ t' s'
def QA (t : T) : Prop := ∀ (n : Nat) (rest : List Str) (op md : Int) (m : Nat) (t' : T) (s' : Src), t.wf → hd rest ≠ ("(" : Str) →
  2 * t.depth + br t 6 ≤ n + 1 → 0 ≤ op → op + t.depth + br t 6 ≤ 14 → md + t.size ≤ 400 →
  ChainL (Term n) m t ⟨rest, op, md + t.size⟩ t' s' → Chain (Term n) ⟨tkB t 6 ++ rest, op, md⟩ t' s'
def RA (t : T) : Prop := ∀ (n : Nat) (x : Str) (rest : List Str) (op md : Int) (m : Nat) (u : T) (f : Str) (s' : Src), t.wf → isName x = true →
  2 * t.depth + br t 6 ≤ n + 1 → 0 ≤ op → op + t.depth + br t 6 ≤ 14 → md + t.size ≤ 400 →
  SetL (Term n) m t x ⟨rest, op, md + t.size⟩ u f s' →
  ∃ a y r op' md' m', Atom (Term n) ⟨tkB t 6 ++ ("." : Str) :: x :: rest, op, md⟩ a ⟨("." : Str) :: y :: r, op', md'⟩ ∧ isName y = true ∧ SetL (Term n) m' a y ⟨r, op', md'⟩ u f s'

theorem hok_cl (rest : List Str) {L : Nat} (h : 1 ≤ L) : HOK ((")" : Str) :: rest) L := ⟨by rw [hd_cons, str_cl]; omega, by rw [hd_cons]; decide +kernel, by rw [hd_cons]; decide +kernel⟩
/-- a term in brackets is an atom -/
theorem paren_of {t : T} (h : PA t) {n : Nat} {rest : List Str} {op md : Int} (hw : t.wf) (hn : 2 * t.depth ≤ n) (h0 : 0 ≤ op) (ho : op + t.depth + 1 ≤ 14) (hm : md + t.size ≤ 400) :
    Atom (Term n) ⟨("(" : Str) :: (tk t ++ (")" : Str) :: rest), op, md⟩ t ⟨rest, op, md + t.size⟩ := by
  have hp := power_pos t
  have hd1 := depth_pos t
  obtain ⟨k, rfl⟩ : ∃ k, n = k + 1 := ⟨n - 1, by omega⟩
  have q : Term (k + 1) 1 1 ⟨tk t ++ (")" : Str) :: rest, op + 1, md⟩ t ⟨(")" : Str) :: rest, op + 1, md + t.size⟩ :=
    h k 1 1 1 _ _ _ 0 _ _ hw (by omega) (by omega) (by omega) hp (hok_cl rest (lim_pos t)) (by omega) (by omega) (by omega) (by omega) (.stop (by rw [now_mk, hd_cons, str_cl]; omega))
  have z := Atom.paren (rt := Term (k + 1)) (op := op) (by omega) q rfl
  rw [show op + 1 - 1 = op by omega] at z
  exact z
theorem bare_of {t : T} (h : PA t) {n lb least floor : Nat} {rest : List Str} {op md : Int} {m : Nat} {t' : T} {s' : Src} (hw : t.wf) (hl : least ≤ lb) (hf : 1 ≤ floor) (hf2 : floor ≤ lb)
    (hk : HOK rest (limB t lb)) (hn : 2 * t.depth + br t lb ≤ n + 1) (h0 : 0 ≤ op) (ho : op + t.depth + br t lb ≤ 14) (hm : md + t.size ≤ 400)
    (q : TermL (Term n) least floor m t ⟨rest, op, md + t.size⟩ t' s') : Term (n + 1) least floor ⟨tkB t lb ++ rest, op, md⟩ t' s' := by
  unfold br at hn ho
  by_cases c : power t < lb
  · rw [if_pos c] at hn ho
    rw [wr_yes c, List.cons_append, List.append_assoc]
    exact ⟨m, t, _, .chain (by rw [now_mk, hd_cons]; decide +kernel) (by rw [now_mk, hd_cons]; decide +kernel) (by rw [now_mk, hd_cons]; decide +kernel) (by rw [now_mk, hd_cons]; decide +kernel)
      ⟨0, t, _, paren_of h hw (by omega) h0 (by omega) hm, .stop (by rw [now_mk]; exact hk.2.1)⟩, q⟩
  · rw [if_neg c] at hn ho
    rw [wr_no c]
    unfold limB at hk
    rw [if_neg c] at hk
    exact h n lb least floor rest op md m t' s' hw hl hf hf2 (by omega) hk (by omega) h0 (by omega) hm q
/-- .. and nothing behind it belongs to it -/
theorem close_of {t : T} (h : PA t) {n lb floor : Nat} {rest : List Str} {op md : Int} (hw : t.wf) (hf : 1 ≤ floor) (hf2 : floor ≤ lb)
    (hk : HOK rest (limB t lb)) (hs : strength (hd rest) < lb) (hn : 2 * t.depth + br t lb ≤ n + 1) (h0 : 0 ≤ op) (ho : op + t.depth + br t lb ≤ 14) (hm : md + t.size ≤ 400) :
    Term (n + 1) lb floor ⟨tkB t lb ++ rest, op, md⟩ t ⟨rest, op, md + t.size⟩ :=
  bare_of h (m := 0) hw (Nat.le_refl _) hf hf2 hk hn h0 ho hm (.stop (by rw [now_mk]; exact hs))
theorem br_le (t : T) (lb : Nat) : br t lb ≤ 1 := by
  unfold br
  split <;> omega
theorem br_one (t : T) : br t 1 = 0 := by
  unfold br
  rw [if_neg (by have := power_pos t; omega)]
/-- a term whose place wants nothing of it: in brackets, between words -/
theorem free_of {t : T} (h : PA t) {n : Nat} {rest : List Str} {op md : Int} (hw : t.wf) (h1 : strength (hd rest) = 0) (h2 : hd rest ≠ ("." : Str)) (h3 : hd rest ≠ ("(" : Str)) (hn : 2 * t.depth ≤ n + 1) (h0 : 0 ≤ op) (ho : op + t.depth ≤ 14)
    (hm : md + t.size ≤ 400) : Term (n + 1) 1 1 ⟨tkB t 1 ++ rest, op, md⟩ t ⟨rest, op, md + t.size⟩ :=
  close_of h hw (by omega) (by omega) ⟨by rw [h1]; exact (limB_of t 1).1, h2, h3⟩ (by rw [h1]; omega) (by rw [br_one]; omega) h0 (by rw [br_one]; omega) hm

/-! ### terms between brackets, with commas -/
def sepT : List T → List Str
  | [] => []
  | t :: ts => ("," : Str) :: (tkB t 1 ++ sepT ts)
theorem join_sep : ∀ (ts : List T) (t : T), joinT (tkL (t :: ts)) = tkB t 1 ++ sepT ts
  | [], t => by
    show tkB t 1 = tkB t 1 ++ []
    rw [List.append_nil]
  | u :: us, t => by
    have ih := join_sep us u
    show tkB t 1 ++ ("," : Str) :: joinT (tkL (u :: us)) = tkB t 1 ++ ("," : Str) :: (tkB u 1 ++ sepT us)
    rw [ih]
theorem hd_sep (ts : List T) (rest : List Str) : hd (sepT ts ++ (")" : Str) :: rest) = (")" : Str) ∨ hd (sepT ts ++ (")" : Str) :: rest) = ("," : Str) := by
  cases ts with
  | nil => exact .inl rfl
  | cons t ts => exact .inr rfl
theorem sep_ok (ts : List T) (rest : List Str) : strength (hd (sepT ts ++ (")" : Str) :: rest)) = 0 ∧ hd (sepT ts ++ (")" : Str) :: rest) ≠ ("." : Str) ∧ hd (sepT ts ++ (")" : Str) :: rest) ≠ ("(" : Str) := by
  rcases hd_sep ts rest with e | e <;> rw [e] <;> exact ⟨(by decide +kernel), (by decide +kernel), (by decide +kernel)⟩
theorem loop_of {n : Nat} {rest : List Str} {op : Int} (h0 : 0 ≤ op) : ∀ (us acc : List T) (md : Int), (∀ t ∈ us, PA t) → wfL us → acc ≠ [] → (acc ++ us).length ≤ 8 → 2 * depthL us ≤ n + 1 → op + depthL us ≤ 14 → md + sizeL us ≤ 400 →
    GivenL (Term (n + 1)) us.length acc ⟨sepT us ++ (")" : Str) :: rest, op, md⟩ (acc ++ us) ⟨(")" : Str) :: rest, op, md + sizeL us⟩
  | [], acc, md, _, _, _, _, _, _, _ => by
    rw [List.append_nil, show sizeL [] = 0 from rfl, show md + ((0 : Nat) : Int) = md by omega]
    exact .stop rfl
  | u :: us, acc, md, hp, hw, ha, hl, hn, ho, hm => by
    have hn' : 2 * max u.depth (depthL us) ≤ n + 1 := hn
    have ho' : op + ((max u.depth (depthL us) : Nat) : Int) ≤ 14 := ho
    have hm' : md + ((u.size + sizeL us : Nat) : Int) ≤ 400 := hm
    have hw' : u.wf ∧ wfL us := hw
    obtain ⟨k1, k2, k3⟩ := sep_ok us rest
    have q := free_of (n := n) (rest := sepT us ++ (")" : Str) :: rest) (op := op) (md := md) (hp u List.mem_cons_self) hw'.1 k1 k2 k3 (by omega) h0 (by omega) (by omega)
    have ih := loop_of (n := n) (rest := rest) h0 us (acc ++ [u]) (md + u.size) (fun t ht => hp t (List.mem_cons_of_mem _ ht)) hw'.2 (by simp) (by simpa using hl) (by omega) (by omega) (by omega)
    have z := GivenL.more (rt := Term (n + 1)) ha q (by
      have : (acc ++ u :: us).length ≤ 8 := hl
      simp only [List.length_append, List.length_cons, List.length_nil] at this ⊢
      omega) ih
    rw [show (acc ++ [u]) ++ us = acc ++ u :: us by simp] at z
    rw [show md + ((u.size : Nat) : Int) + ((sizeL us : Nat) : Int) = md + ((sizeL (u :: us) : Nat) : Int) by
      show _ = md + ((u.size + sizeL us : Nat) : Int)
      omega] at z
    show GivenL (Term (n + 1)) (us.length + 1) acc ⟨("," : Str) :: (tkB u 1 ++ sepT us) ++ (")" : Str) :: rest, op, md⟩ _ _
    rw [List.cons_append, List.append_assoc]
    exact z
/-- how a term begins -/
theorem first_of : ∀ t : T, t.wf → ∃ w l, tk t = w :: l ∧ w ≠ (")" : Str) := by
  have wrap : ∀ (t : T) (lb : Nat), (∃ w l, tk t = w :: l ∧ w ≠ (")" : Str)) → ∀ r : List Str, ∃ w l, wrT (power t) lb (tk t) ++ r = w :: l ∧ w ≠ (")" : Str) := fun t lb ⟨w, l, e, h⟩ r => by
    unfold wrT
    split
    · exact ⟨_, _, rfl, by decide +kernel⟩
    · rw [e]
      exact ⟨_, _, rfl, h⟩
  intro t
  induction t using T.ind with
  | hnum n => exact fun _ => ⟨_, _, rfl, num_ne⟩
  | htru b => exact fun _ => ⟨_, _, rfl, by cases b <;> decide +kernel⟩
  | hnam x => exact fun h => ⟨_, _, rfl, name_ne h⟩
  | hslf => exact fun _ => ⟨_, _, rfl, by decide +kernel⟩
  | hnew x ts ih => exact fun _ => ⟨_, _, rfl, by decide +kernel⟩
  | held x ts ih => exact fun _ => ⟨_, _, rfl, by decide +kernel⟩
  | hfld t x ih => exact fun h => wrap t 6 (ih h.1) _
  | hcal t x ts ih _ => exact fun h => wrap t 6 (ih h.1) _
  | hnt t ih => exact fun _ => ⟨_, _, rfl, by decide +kernel⟩
  | htwo g a b iha ihb => exact fun h => wrap a _ (iha h.2.1) _
  | hite a b c _ _ _ => exact fun _ => ⟨_, _, rfl, by decide +kernel⟩
  | hlt x a b _ _ => exact fun _ => ⟨_, _, rfl, by decide +kernel⟩
  | hst t x b _ _ => exact fun _ => ⟨_, _, rfl, by decide +kernel⟩
theorem hd_tk {t : T} (h : t.wf) (lb : Nat) (r : List Str) : hd (tkB t lb ++ r) ≠ (")" : Str) := by
  unfold tkB wrT
  split
  · rw [List.cons_append, hd_cons]
    decide +kernel
  · obtain ⟨w, l, e, hw⟩ := first_of t h
    rw [e, List.cons_append, hd_cons]
    exact hw
def kwFree (w : Str) : Prop := w ≠ ("not" : Str) ∧ w ≠ ("if" : Str) ∧ w ≠ ("let" : Str) ∧ w ≠ ("set" : Str)
theorem first6_of : ∀ t : T, t.wf → ∀ r : List Str, ∃ w l, tkB t 6 ++ r = w :: l ∧ kwFree w := by
  have par : kwFree ("(" : Str) := ⟨by decide +kernel, by decide +kernel, by decide +kernel, by decide +kernel⟩
  have low : ∀ t : T, power t < 6 → ∀ r : List Str, ∃ w l, tkB t 6 ++ r = w :: l ∧ kwFree w := fun t h r => by
    rw [wr_yes h]
    exact ⟨_, _, rfl, par⟩
  intro t
  induction t using T.ind with
  | hnum n => exact fun _ r => ⟨numTok n, r, rfl, num_ne, num_ne, num_ne, num_ne⟩
  | htru b => exact fun _ r => ⟨_, r, rfl, by cases b <;> exact ⟨by decide +kernel, by decide +kernel, by decide +kernel, by decide +kernel⟩⟩
  | hnam x => exact fun h r => ⟨x, r, rfl, name_told h, name_told h, name_told h, name_told h⟩
  | hslf => exact fun _ r => ⟨_, r, rfl, by decide +kernel, by decide +kernel, by decide +kernel, by decide +kernel⟩
  | hnew x ts ih => exact fun _ r => ⟨_, _, rfl, by decide +kernel, by decide +kernel, by decide +kernel, by decide +kernel⟩
  | held x ts ih => exact fun _ r => ⟨_, _, rfl, by decide +kernel, by decide +kernel, by decide +kernel, by decide +kernel⟩
  | hfld t x ih =>
    intro h r
    obtain ⟨w, l, e, k⟩ := ih h.1 ([("." : Str), x] ++ r)
    exact ⟨w, l, by show (wrT (power t) 6 (tk t) ++ [("." : Str), x]) ++ r = _; rw [List.append_assoc]; exact e, k⟩
  | hcal t x ts ih _ =>
    intro h r
    obtain ⟨w, l, e, k⟩ := ih h.1 ((("." : Str) :: x :: ("(" : Str) :: (joinT (tkL ts) ++ [(")" : Str)])) ++ r)
    exact ⟨w, l, by show (wrT (power t) 6 (tk t) ++ (("." : Str) :: x :: ("(" : Str) :: (joinT (tkL ts) ++ [(")" : Str)]))) ++ r = _; rw [List.append_assoc]; exact e, k⟩
  | hnt t ih => exact fun _ => low _ (by show 5 < 6; omega)
  | htwo g a b iha ihb => exact fun _ => low _ (by show pw g < 6; have := pw_le g; omega)
  | hite a b c _ _ _ => exact fun _ => low _ (by show 2 < 6; omega)
  | hlt x a b _ _ => exact fun _ => low _ (by show 1 < 6; omega)
  | hst t x b _ _ => exact fun _ => low _ (by show 2 < 6; omega)
theorem given_of {n : Nat} {rest : List Str} {op md : Int} (h0 : 0 ≤ op) (ts : List T) (hp : ∀ t ∈ ts, PA t) (hw : wfL ts) (hl : ts.length ≤ 8) (hn : 2 * depthL ts ≤ n) (ho : op + 1 + depthL ts ≤ 14) (hm : md + sizeL ts ≤ 400) :
    Given (Term n) ⟨("(" : Str) :: (joinT (tkL ts) ++ (")" : Str) :: rest), op, md⟩ ts ⟨rest, op, md + sizeL ts⟩ := by
  cases ts with
  | nil =>
    have ho0 : op + 1 + ((0 : Nat) : Int) ≤ 14 := ho
    refine ⟨_, 0, _, rest, rfl, (by show op + 1 ≤ 14; omega), .stop (r := rest) rfl, rfl, ?_⟩
    show (⟨rest, op, md + ((0 : Nat) : Int)⟩ : Src) = ⟨rest, op + 1 - 1, md⟩
    congr 1 <;> omega
  | cons t ts =>
    have hn' : 2 * max t.depth (depthL ts) ≤ n := hn
    have ho' : op + 1 + ((max t.depth (depthL ts) : Nat) : Int) ≤ 14 := ho
    have hm' : md + ((t.size + sizeL ts : Nat) : Int) ≤ 400 := hm
    have hw' : t.wf ∧ wfL ts := hw
    have hd1 := depth_pos t
    obtain ⟨k, rfl⟩ : ∃ k, n = k + 1 := ⟨n - 1, by omega⟩
    obtain ⟨k1, k2, k3⟩ := sep_ok ts rest
    have q := free_of (n := k) (rest := sepT ts ++ (")" : Str) :: rest) (op := op + 1) (md := md) (hp t List.mem_cons_self) hw'.1 k1 k2 k3 (by omega) (by omega) (by omega) (by omega)
    have lo := loop_of (n := k) (rest := rest) (op := op + 1) (by omega) ts [t] (md + t.size) (fun u hu => hp u (List.mem_cons_of_mem _ hu)) hw'.2 (by simp) (by simpa using hl) (by omega) (by omega) (by omega)
    have ne : Src.now ⟨tkB t 1 ++ (sepT ts ++ (")" : Str) :: rest), op + 1, md⟩ ≠ (")" : Str) := by
      rw [now_mk]
      exact hd_tk hw'.1 1 _
    refine ⟨_, ts.length + 1, _, rest, rfl, (by show op + 1 ≤ 14; omega), .one ?_ ?_ lo, rfl, ?_⟩
    · rw [join_sep, List.append_assoc]
      exact ne
    · rw [join_sep, List.append_assoc]
      exact q
    · show (⟨rest, op, md + ((t.size + sizeL ts : Nat) : Int)⟩ : Src) = ⟨rest, op + 1 - 1, md + t.size + ((sizeL ts : Nat) : Int)⟩
      congr 1 <;> omega
end EH

set_option Elab.async false
set_option maxRecDepth 100000
set_option maxHeartbeats 4000000
namespace EH
open PySem L2 TL

theorem bu_mk {t : T} {ts : List Str} {op md : Int} {s' : Src} (h1 : md + 1 ≤ 400) (h2 : t.depth ≤ 14) (e : s' = ⟨ts, op, md + 1⟩) : bu t ⟨ts, op, md⟩ s' := ⟨h1, h2, e⟩
/-- Pu of a term that binds by 6, from the chain -/
theorem pa_of_qa {t : T} (h6 : power t = 6) (_hl : lim t = 5) (q : QA t) : PA t := by
  intro n lb least floor rest op md m t' s' hw hl1 hf hf2 hlp hk hn h0 ho hm h
  obtain ⟨w, l, e, k1, k2, k3, k4⟩ := first6_of t hw rest
  have hb : br t 6 = 0 := by unfold br; rw [if_neg (by omega)]
  have c : Chain (Term n) ⟨tkB t 6 ++ rest, op, md⟩ t ⟨rest, op, md + t.size⟩ :=
    q n rest op md 0 t _ hw hk.2.2 (by omega) h0 (by omega) hm (.stop (by rw [now_mk]; exact hk.2.1))
  have e6 : tkB t 6 = tk t := wr_no (by omega)
  rw [e] at c
  have et : tk t ++ rest = w :: l := by rw [← e6]; exact e
  rw [et]
  exact ⟨m, t, _, .chain (by rw [now_mk, hd_cons]; exact k1) (by rw [now_mk, hd_cons]; exact k2) (by rw [now_mk, hd_cons]; exact k3) (by rw [now_mk, hd_cons]; exact k4) c, h⟩
/-- Q, R of a term that stands in brackets ahead of a point -/
theorem q_of_pa {t : T} (h6 : power t < 6) (p : PA t) : QA t := by
  intro n rest op md m t' s' hw hk hn h0 ho hm h
  have hb : br t 6 = 1 := by unfold br; rw [if_pos h6]
  rw [wr_yes h6, List.cons_append, List.append_assoc]
  exact ⟨m, t, _, paren_of p hw (by omega) h0 (by omega) hm, h⟩
theorem r_of_pa {t : T} (h6 : power t < 6) (p : PA t) : RA t := by
  intro n x rest op md m u f s' hw hx hn h0 ho hm h
  have hb : br t 6 = 1 := by unfold br; rw [if_pos h6]
  rw [wr_yes h6, List.cons_append, List.append_assoc]
  exact ⟨t, x, rest, op, md + t.size, m, paren_of p hw (by omega) h0 (by omega) hm, hx, h⟩
/-- Q, R of an atom -/
theorem q_of_atom {t : T} (h6 : power t = 6) (a : ∀ (n : Nat) (rest : List Str) (op md : Int), t.wf → 2 * t.depth ≤ n + 1 → 0 ≤ op → op + t.depth ≤ 14 → md + t.size ≤ 400 → Atom (Term n) ⟨tk t ++ rest, op, md⟩ t ⟨rest, op, md + t.size⟩) : QA t ∧ RA t := by
  have hb : br t 6 = 0 := by unfold br; rw [if_neg (by omega)]
  refine ⟨fun n rest op md m t' s' hw hk hn h0 ho hm h => ?_, fun n x rest op md m u f s' hw hx hn h0 ho hm h => ?_⟩
  · rw [wr_no (by omega)]
    exact ⟨m, t, _, a n rest op md hw (by omega) h0 (by omega) hm, h⟩
  · rw [wr_no (by omega)]
    exact ⟨t, x, rest, op, md + t.size, m, a n _ op md hw (by omega) h0 (by omega) hm, hx, h⟩
theorem wfL_of {ts : List T} (h : wfL ts) : ∀ t ∈ ts, t.wf := by
  induction ts with
  | nil => intro t ht; cases ht
  | cons u us ih =>
    intro t ht
    rcases List.mem_cons.mp ht with e | ht
    · rw [e]; exact h.1
    · exact ih h.2 t ht
theorem all_of : ∀ t : T, PA t ∧ QA t ∧ RA t := by
  have atom : ∀ t : T, power t = 6 → lim t = 5 → (∀ (n : Nat) (rest : List Str) (op md : Int), t.wf → 2 * t.depth ≤ n + 1 → 0 ≤ op → op + t.depth ≤ 14 → md + t.size ≤ 400 → Atom (Term n) ⟨tk t ++ rest, op, md⟩ t ⟨rest, op, md + t.size⟩) → PA t ∧ QA t ∧ RA t := fun t h6 hl a =>
    let ⟨q, r⟩ := q_of_atom h6 a
    ⟨pa_of_qa h6 hl q, q, r⟩
  have low : ∀ t : T, power t < 6 → PA t → PA t ∧ QA t ∧ RA t := fun t h6 p => ⟨p, q_of_pa h6 p, r_of_pa h6 p⟩
  intro t
  induction t using T.ind with
  | hnum n =>
    refine atom _ rfl rfl fun k rest op md hw hn h0 ho hm => ?_
    exact .num (numRow_ok hw) ⟨hm, (show 1 ≤ 14 by omega), rfl⟩
  | htru b =>
    refine atom _ rfl rfl fun k rest op md hw hn h0 ho hm => ?_
    cases b with
    | true => exact .yes ⟨hm, by decide, rfl⟩
    | false => exact .no ⟨hm, by decide, rfl⟩
  | hnam x =>
    refine atom _ rfl rfl fun k rest op md hw hn h0 ho hm => ?_
    exact .nam hw ⟨hm, (show 1 ≤ 14 by omega), rfl⟩
  | hslf =>
    refine atom _ rfl rfl fun k rest op md hw hn h0 ho hm => ?_
    exact .slf ⟨hm, by decide, rfl⟩
  | hnew x ts ih =>
    refine atom _ rfl rfl fun k rest op md hw hn h0 ho hm => ?_
    obtain ⟨hx, hwl, hl⟩ : isName x = true ∧ wfL ts ∧ ts.length ≤ 8 := hw
    have hn' : 2 * (1 + depthL ts) ≤ k + 1 := hn
    have ho' : op + ((1 + depthL ts : Nat) : Int) ≤ 14 := ho
    have hm' : md + ((1 + sizeL ts : Nat) : Int) ≤ 400 := hm
    have g := given_of (n := k) (rest := rest) (op := op) (md := md) h0 ts (fun t ht => (ih t ht).1) hwl hl (by omega) (by omega) (by omega)
    show Atom (Term k) ⟨("new" : Str) :: x :: ("(" : Str) :: (joinT (tkL ts) ++ [(")" : Str)]) ++ rest, op, md⟩ _ _
    rw [List.cons_append, List.cons_append, List.cons_append, List.append_assoc]
    refine .new hx g ⟨by show md + ((sizeL ts : Nat) : Int) + 1 ≤ 400; omega, by show 1 + depthL ts ≤ 14; omega, ?_⟩
    show (⟨rest, op, md + ((1 + sizeL ts : Nat) : Int)⟩ : Src) = ⟨rest, op, md + ((sizeL ts : Nat) : Int) + 1⟩
    congr 1
    omega
  | held x ts ih =>
    refine atom _ rfl rfl fun k rest op md hw hn h0 ho hm => ?_
    obtain ⟨hx, hwl, hl⟩ : isName x = true ∧ wfL ts ∧ ts.length ≤ 8 := hw
    have hn' : 2 * (1 + depthL ts) ≤ k + 1 := hn
    have ho' : op + ((1 + depthL ts : Nat) : Int) ≤ 14 := ho
    have hm' : md + ((1 + sizeL ts : Nat) : Int) ≤ 400 := hm
    have g := given_of (n := k) (rest := rest) (op := op) (md := md) h0 ts (fun t ht => (ih t ht).1) hwl hl (by omega) (by omega) (by omega)
    show Atom (Term k) ⟨("elder" : Str) :: ("." : Str) :: x :: ("(" : Str) :: (joinT (tkL ts) ++ [(")" : Str)]) ++ rest, op, md⟩ _ _
    rw [List.cons_append, List.cons_append, List.cons_append, List.cons_append, List.append_assoc]
    refine .eld hx g ⟨by show md + ((sizeL ts : Nat) : Int) + 1 ≤ 400; omega, by show 1 + depthL ts ≤ 14; omega, ?_⟩
    show (⟨rest, op, md + ((1 + sizeL ts : Nat) : Int)⟩ : Src) = ⟨rest, op, md + ((sizeL ts : Nat) : Int) + 1⟩
    congr 1
    omega
  | hfld t x ih =>
    obtain ⟨_, ihq, ihr⟩ := ih
    have hbr := br_le t 6
    have hb : br (.fld t x) 6 = 0 := rfl
    have e6 : tkB (.fld t x) 6 = tkB t 6 ++ [("." : Str), x] := wr_no (show ¬ 6 < 6 by omega)
    have q : QA (.fld t x) := by
      intro n rest op md m t' s' hw hk hn h0 ho hm h
      obtain ⟨hwt, hx⟩ : t.wf ∧ isName x = true := hw
      have hn' : 2 * (1 + t.depth) + br (.fld t x) 6 ≤ n + 1 := hn
      have ho' : op + ((1 + t.depth : Nat) : Int) + br (.fld t x) 6 ≤ 14 := ho
      have hm' : md + ((1 + t.size : Nat) : Int) ≤ 400 := hm
      rw [e6, List.append_assoc]
      refine ihq n _ op md (m + 1) t' s' hwt (by rw [List.cons_append, hd_cons]; decide +kernel) (by omega) h0 (by omega) (by omega) ?_
      refine .fld hx (by rw [now_mk]; exact hk) ⟨by show md + ((t.size : Nat) : Int) + 1 ≤ 400; omega, by show 1 + t.depth ≤ 14; omega, rfl⟩ ?_
      rw [show md + ((t.size : Nat) : Int) + 1 = md + (((T.fld t x).size : Nat) : Int) by show _ = md + ((1 + t.size : Nat) : Int); omega]
      exact h
    refine ⟨pa_of_qa rfl rfl q, q, ?_⟩
    intro n y rest op md m u f s' hw hy hn h0 ho hm h
    obtain ⟨hwt, hx⟩ : t.wf ∧ isName x = true := hw
    have hn' : 2 * (1 + t.depth) + br (.fld t x) 6 ≤ n + 1 := hn
    have ho' : op + ((1 + t.depth : Nat) : Int) + br (.fld t x) 6 ≤ 14 := ho
    have hm' : md + ((1 + t.size : Nat) : Int) ≤ 400 := hm
    rw [e6, List.append_assoc]
    refine ihr n x (("." : Str) :: y :: rest) op md (m + 1) u f s' hwt hx (by omega) h0 (by omega) (by omega) ?_
    refine .fld (by rw [now_mk, hd_cons]; decide +kernel) (by rw [now_mk, hd_cons]; decide +kernel) (op := op) (md := md + ((t.size : Nat) : Int) + 1) ⟨by show md + ((t.size : Nat) : Int) + 1 ≤ 400; omega, by show 1 + t.depth ≤ 14; omega, rfl⟩ hy ?_
    rw [show md + ((t.size : Nat) : Int) + 1 = md + (((T.fld t x).size : Nat) : Int) by show _ = md + ((1 + t.size : Nat) : Int); omega]
    exact h
  | hcal t x ts ih iht =>
    obtain ⟨_, ihq, ihr⟩ := ih
    have hbr := br_le t 6
    have hb : br (.cal t x ts) 6 = 0 := rfl
    have e6 : tkB (.cal t x ts) 6 = tkB t 6 ++ (("." : Str) :: x :: ("(" : Str) :: (joinT (tkL ts) ++ [(")" : Str)])) := wr_no (show ¬ 6 < 6 by omega)
    have ez : ∀ rest : List Str, (("." : Str) :: x :: ("(" : Str) :: (joinT (tkL ts) ++ [(")" : Str)])) ++ rest = ("." : Str) :: x :: ("(" : Str) :: (joinT (tkL ts) ++ (")" : Str) :: rest) := fun rest => by
      rw [List.cons_append, List.cons_append, List.cons_append, List.append_assoc]
      rfl
    have q : QA (.cal t x ts) := by
      intro n rest op md m t' s' hw hk hn h0 ho hm h
      obtain ⟨hwt, hx, hwl, hl⟩ : t.wf ∧ isName x = true ∧ wfL ts ∧ ts.length ≤ 8 := hw
      have hn' : 2 * (1 + max t.depth (depthL ts)) + br (.cal t x ts) 6 ≤ n + 1 := hn
      have ho' : op + ((1 + max t.depth (depthL ts) : Nat) : Int) + br (.cal t x ts) 6 ≤ 14 := ho
      have hm' : md + ((1 + (t.size + sizeL ts) : Nat) : Int) ≤ 400 := hm
      rw [e6, List.append_assoc, ez]
      refine ihq n _ op md (m + 1) t' s' hwt (by rw [hd_cons]; decide +kernel) (by omega) h0 (by omega) (by omega) ?_
      have g := given_of (n := n) (rest := rest) (op := op) (md := md + t.size) h0 ts (fun t ht => (iht t ht).1) hwl hl (by omega) (by omega) (by omega)
      refine .cal hx g ⟨by show md + ((t.size : Nat) : Int) + ((sizeL ts : Nat) : Int) + 1 ≤ 400; omega, by show 1 + max t.depth (depthL ts) ≤ 14; omega, rfl⟩ ?_
      show ChainL (Term n) m _ ⟨rest, op, md + ((t.size : Nat) : Int) + ((sizeL ts : Nat) : Int) + 1⟩ t' s'
      rw [show md + ((t.size : Nat) : Int) + ((sizeL ts : Nat) : Int) + 1 = md + (((T.cal t x ts).size : Nat) : Int) by show _ = md + ((1 + (t.size + sizeL ts) : Nat) : Int); omega]
      exact h
    refine ⟨pa_of_qa rfl rfl q, q, ?_⟩
    intro n y rest op md m u f s' hw hy hn h0 ho hm h
    obtain ⟨hwt, hx, hwl, hl⟩ : t.wf ∧ isName x = true ∧ wfL ts ∧ ts.length ≤ 8 := hw
    have hn' : 2 * (1 + max t.depth (depthL ts)) + br (.cal t x ts) 6 ≤ n + 1 := hn
    have ho' : op + ((1 + max t.depth (depthL ts) : Nat) : Int) + br (.cal t x ts) 6 ≤ 14 := ho
    have hm' : md + ((1 + (t.size + sizeL ts) : Nat) : Int) ≤ 400 := hm
    rw [e6, List.append_assoc, ez]
    refine ihr n x _ op md (m + 1) u f s' hwt hx (by omega) h0 (by omega) (by omega) ?_
    have g := given_of (n := n) (rest := ("." : Str) :: y :: rest) (op := op) (md := md + t.size) h0 ts (fun t ht => (iht t ht).1) hwl hl (by omega) (by omega) (by omega)
    refine .cal (op := op) (md := md + ((t.size : Nat) : Int) + ((sizeL ts : Nat) : Int) + 1) g ⟨by show md + ((t.size : Nat) : Int) + ((sizeL ts : Nat) : Int) + 1 ≤ 400; omega, by show 1 + max t.depth (depthL ts) ≤ 14; omega, rfl⟩ hy ?_
    rw [show md + ((t.size : Nat) : Int) + ((sizeL ts : Nat) : Int) + 1 = md + (((T.cal t x ts).size : Nat) : Int) by show _ = md + ((1 + (t.size + sizeL ts) : Nat) : Int); omega]
    exact h
  | hnt t ih =>
    refine low _ (by show 5 < 6; omega) ?_
    intro n lb least floor rest op md m t' s' hw hl1 hf hf2 hlp hk hn h0 ho hm h
    have hn' : 2 * (1 + t.depth) ≤ n + 1 := hn
    have ho' : op + ((1 + t.depth : Nat) : Int) ≤ 14 := ho
    have hm' : md + ((1 + t.size : Nat) : Int) ≤ 400 := hm
    have hlp' : lb ≤ 5 := hlp
    have hd1 := depth_pos t
    have hbr := br_le t 5
    obtain ⟨k, rfl⟩ : ∃ k, n = k + 1 := ⟨n - 1, by omega⟩
    have hk' : HOK rest 5 := hk
    have c := close_of ih.1 (n := k) (lb := 5) (floor := floor) (rest := rest) (op := op) (md := md) hw hf (by omega) (hk'.mono ((limB_of t 5).2.2.2 (by omega))) hk'.1 (by omega) h0 (by omega) (by omega)
    exact ⟨m, _, _, .nt c ⟨by show md + ((t.size : Nat) : Int) + 1 ≤ 400; omega, by show 1 + t.depth ≤ 14; omega, rfl⟩, by
      show TermL _ _ _ _ _ ⟨rest, op, md + ((t.size : Nat) : Int) + 1⟩ _ _
      rw [show md + ((t.size : Nat) : Int) + 1 = md + (((T.nt t).size : Nat) : Int) by show _ = md + ((1 + t.size : Nat) : Int); omega]
      exact h⟩
  | htwo g a b iha ihb =>
    refine low _ (by show pw g < 6; have := pw_le g; omega) ?_
    intro n lb least floor rest op md m t' s' hw hl1 hf hf2 hlp hk hn h0 ho hm h
    obtain ⟨hg, hwa, hwb⟩ : g ∈ signs ∧ a.wf ∧ b.wf := hw
    have hn' : 2 * (1 + max a.depth b.depth) ≤ n + 1 := hn
    have ho' : op + ((1 + max a.depth b.depth : Nat) : Int) ≤ 14 := ho
    have hm' : md + ((1 + (a.size + b.size) : Nat) : Int) ≤ 400 := hm
    have hlp' : lb ≤ pw g := hlp
    have hd1 := depth_pos a
    have hp := pw_le g
    obtain ⟨es, er⟩ := str_pow hg
    have hdot : g ≠ ("." : Str) ∧ g ≠ ("(" : Str) := by
      simp only [signs, List.mem_cons, List.not_mem_nil, or_false] at hg
      rcases hg with rfl | rfl | rfl | rfl | rfl | rfl | rfl <;> exact ⟨by decide +kernel, by decide +kernel⟩
    obtain ⟨k, rfl⟩ : ∃ k, n = k + 1 := ⟨n - 1, by omega⟩
    have hk' : HOK rest (if pw g = 1 then 1 else if pw g = 2 then 2 else pw g + 1) := hk
    -- the right one
    have hba := br_le a (pw g + if pw g < 3 then 1 else 0)
    have hbb := br_le b (pw g + if pw g > 1 then 1 else 0)
    have la := limB_of a (pw g + if pw g < 3 then 1 else 0)
    have lb' := limB_of b (pw g + if pw g > 1 then 1 else 0)
    have cb : Term (k + 1) (rl g) floor ⟨tkB b (rl g) ++ rest, op, md + a.size⟩ b ⟨rest, op, md + a.size + b.size⟩ := by
      rw [er]
      refine close_of ihb.1 hwb hf ?_ (hk'.mono ?_) ?_ (by omega) h0 (by omega) (by omega)
      · split <;> omega
      · revert lb'
        have : pw g = 1 ∨ pw g = 2 ∨ pw g = 3 ∨ pw g = 4 := by omega
        rcases this with e | e | e | e <;> simp only [e] <;> simp <;> intros <;> omega
      · have z := hk'.1
        revert z
        have : pw g = 1 ∨ pw g = 2 ∨ pw g = 3 ∨ pw g = 4 := by omega
        rcases this with e | e | e | e <;> simp only [e] <;> simp <;> omega
    have e1 : tk (.two g a b) ++ rest = tkB a (pw g + if pw g < 3 then 1 else 0) ++ (g :: (tkB b (rl g) ++ rest)) := by
      rw [er]
      show (tkB a (pw g + if pw g < 3 then 1 else 0) ++ g :: tkB b (pw g + if pw g > 1 then 1 else 0)) ++ rest = _
      rw [List.append_assoc]
      rfl
    rw [e1]
    refine bare_of iha.1 (n := k + 1) (m := m + 1) hwa ?_ hf ?_ ⟨?_, ?_, ?_⟩ (by omega) h0 (by omega) (by omega) ?_
    · split <;> omega
    · split <;> omega
    · rw [hd_cons, es]
      revert la
      have : pw g = 1 ∨ pw g = 2 ∨ pw g = 3 ∨ pw g = 4 := by omega
      rcases this with e | e | e | e <;> simp only [e] <;> simp <;> intros <;> omega
    · rw [hd_cons]; exact hdot.1
    · rw [hd_cons]; exact hdot.2
    · refine .step (by omega) cb ⟨by show md + ((a.size : Nat) : Int) + ((b.size : Nat) : Int) + 1 ≤ 400; omega, by show 1 + max a.depth b.depth ≤ 14; omega, rfl⟩ ?_ ?_
      · rintro ⟨z1, z2⟩
        have z := hk'.1
        have z2' : strength (hd rest) = 2 := z2
        rw [es] at z1
        rw [z1, z2'] at z
        simp at z
      · show TermL _ _ _ _ _ ⟨rest, op, md + ((a.size : Nat) : Int) + ((b.size : Nat) : Int) + 1⟩ _ _
        rw [show md + ((a.size : Nat) : Int) + ((b.size : Nat) : Int) + 1 = md + (((T.two g a b).size : Nat) : Int) by show _ = md + ((1 + (a.size + b.size) : Nat) : Int); omega]
        exact h
  | hite a b c iha ihb ihc =>
    refine low _ (by show 2 < 6; omega) ?_
    intro n lb least floor rest op md m t' s' hw hl1 hf hf2 hlp hk hn h0 ho hm h
    obtain ⟨hwa, hwb, hwc⟩ : a.wf ∧ b.wf ∧ c.wf := hw
    have hn' : 2 * (1 + max a.depth (max b.depth c.depth)) ≤ n + 1 := hn
    have ho' : op + ((1 + max a.depth (max b.depth c.depth) : Nat) : Int) ≤ 14 := ho
    have hm' : md + ((1 + (a.size + (b.size + c.size)) : Nat) : Int) ≤ 400 := hm
    have hd1 := depth_pos a
    have hbc := br_le c 2
    have hk' : HOK rest 2 := hk
    obtain ⟨k, rfl⟩ : ∃ k, n = k + 1 := ⟨n - 1, by omega⟩
    have qa := free_of iha.1 (n := k) (rest := ("then" : Str) :: (tkB b 1 ++ ("else" : Str) :: (tkB c 2 ++ rest))) (op := op) (md := md) hwa str_then (by rw [hd_cons]; decide +kernel) (by rw [hd_cons]; decide +kernel) (by omega) h0 (by omega) (by omega)
    have qb := free_of ihb.1 (n := k) (rest := ("else" : Str) :: (tkB c 2 ++ rest)) (op := op) (md := md + a.size) hwb str_else (by rw [hd_cons]; decide +kernel) (by rw [hd_cons]; decide +kernel) (by omega) h0 (by omega) (by omega)
    have qc := close_of ihc.1 (n := k) (lb := 2) (floor := 2) (rest := rest) (op := op) (md := md + a.size + b.size) hwc (by omega) (by omega) (hk'.mono ((limB_of c 2).2.1 (by omega))) hk'.1 (by omega) h0 (by omega) (by omega)
    have e1 : tk (.ite a b c) ++ rest = ("if" : Str) :: (tkB a 1 ++ ("then" : Str) :: (tkB b 1 ++ ("else" : Str) :: (tkB c 2 ++ rest))) := by
      show (("if" : Str) :: (tkB a 1 ++ ("then" : Str) :: (tkB b 1 ++ ("else" : Str) :: tkB c 2))) ++ rest = _
      simp only [List.cons_append, List.append_assoc]
    rw [e1]
    refine ⟨m, _, _, .ite qa qb qc ⟨by show md + ((a.size : Nat) : Int) + ((b.size : Nat) : Int) + ((c.size : Nat) : Int) + 1 ≤ 400; omega, by show 1 + max a.depth (max b.depth c.depth) ≤ 14; omega, rfl⟩, ?_⟩
    show TermL _ _ _ _ _ ⟨rest, op, md + ((a.size : Nat) : Int) + ((b.size : Nat) : Int) + ((c.size : Nat) : Int) + 1⟩ _ _
    rw [show md + ((a.size : Nat) : Int) + ((b.size : Nat) : Int) + ((c.size : Nat) : Int) + 1 = md + (((T.ite a b c).size : Nat) : Int) by show _ = md + ((1 + (a.size + (b.size + c.size)) : Nat) : Int); omega]
    exact h
  | hlt x a b iha ihb =>
    refine low _ (by show 1 < 6; omega) ?_
    intro n lb least floor rest op md m t' s' hw hl1 hf hf2 hlp hk hn h0 ho hm h
    obtain ⟨hx, hwa, hwb⟩ : isName x = true ∧ a.wf ∧ b.wf := hw
    have hn' : 2 * (1 + max a.depth b.depth) ≤ n + 1 := hn
    have ho' : op + ((1 + max a.depth b.depth : Nat) : Int) ≤ 14 := ho
    have hm' : md + ((1 + (a.size + b.size) : Nat) : Int) ≤ 400 := hm
    have hd1 := depth_pos a
    have hlp' : lb ≤ 1 := hlp
    have hk' : HOK rest 1 := hk
    obtain rfl : floor = 1 := by omega
    obtain ⟨k, rfl⟩ : ∃ k, n = k + 1 := ⟨n - 1, by omega⟩
    have qa := free_of iha.1 (n := k) (rest := ("in" : Str) :: (tkB b 1 ++ rest)) (op := op) (md := md) hwa str_in (by rw [hd_cons]; decide +kernel) (by rw [hd_cons]; decide +kernel) (by omega) h0 (by omega) (by omega)
    have qb := free_of ihb.1 (n := k) (rest := rest) (op := op) (md := md + a.size) hwb (by have := hk'.1; omega) hk'.2.1 hk'.2.2 (by omega) h0 (by omega) (by omega)
    have e1 : tk (.lt x a b) ++ rest = ("let" : Str) :: x :: ("=" : Str) :: (tkB a 1 ++ ("in" : Str) :: (tkB b 1 ++ rest)) := by
      show (("let" : Str) :: x :: ("=" : Str) :: (tkB a 1 ++ ("in" : Str) :: tkB b 1)) ++ rest = _
      simp only [List.cons_append, List.append_assoc]
    rw [e1]
    refine ⟨m, _, _, .lt hx qa qb ⟨by show md + ((a.size : Nat) : Int) + ((b.size : Nat) : Int) + 1 ≤ 400; omega, by show 1 + max a.depth b.depth ≤ 14; omega, rfl⟩, ?_⟩
    show TermL _ _ _ _ _ ⟨rest, op, md + ((a.size : Nat) : Int) + ((b.size : Nat) : Int) + 1⟩ _ _
    rw [show md + ((a.size : Nat) : Int) + ((b.size : Nat) : Int) + 1 = md + (((T.lt x a b).size : Nat) : Int) by show _ = md + ((1 + (a.size + b.size) : Nat) : Int); omega]
    exact h
  | hst t x b iht ihb =>
    refine low _ (by show 2 < 6; omega) ?_
    intro n lb least floor rest op md m t' s' hw hl1 hf hf2 hlp hk hn h0 ho hm h
    obtain ⟨hwt, hx, hwb⟩ : t.wf ∧ isName x = true ∧ b.wf := hw
    have hn' : 2 * (1 + max t.depth b.depth) ≤ n + 1 := hn
    have ho' : op + ((1 + max t.depth b.depth : Nat) : Int) ≤ 14 := ho
    have hm' : md + ((1 + (t.size + b.size) : Nat) : Int) ≤ 400 := hm
    have hd1 := depth_pos t
    have hbt := br_le t 6
    have hbb := br_le b 2
    have hk' : HOK rest 2 := hk
    obtain ⟨k, rfl⟩ : ∃ k, n = k + 1 := ⟨n - 1, by omega⟩
    have qb := close_of ihb.1 (n := k) (lb := 2) (floor := 2) (rest := rest) (op := op) (md := md + t.size) hwb (by omega) (by omega) (hk'.mono ((limB_of b 2).2.1 (by omega))) hk'.1 (by omega) h0 (by omega) (by omega)
    obtain ⟨a, y, r, op', md', m', qa, hy, ql⟩ := iht.2.2 (k + 1) x (("=" : Str) :: (tkB b 2 ++ rest)) op md 0 t x _ hwt hx (by omega) h0 (by omega) (by omega) (.stop rfl)
    have e1 : tk (.st t x b) ++ rest = ("set" : Str) :: (tkB t 6 ++ ("." : Str) :: x :: ("=" : Str) :: (tkB b 2 ++ rest)) := by
      show (("set" : Str) :: (tkB t 6 ++ ("." : Str) :: x :: ("=" : Str) :: tkB b 2)) ++ rest = _
      simp only [List.cons_append, List.append_assoc]
    rw [e1]
    refine ⟨m, _, _, .st ⟨a, y, r, op', md', m', t, x, _, _, _, b, _, qa, hy, ql, qb, ⟨by show md + ((t.size : Nat) : Int) + ((b.size : Nat) : Int) + 1 ≤ 400; omega, by show 1 + max t.depth b.depth ≤ 14; omega, rfl⟩, rfl⟩, ?_⟩
    show TermL _ _ _ _ _ ⟨rest, op, md + ((t.size : Nat) : Int) + ((b.size : Nat) : Int) + 1⟩ _ _
    rw [show md + ((t.size : Nat) : Int) + ((b.size : Nat) : Int) + 1 = md + (((T.st t x b).size : Nat) : Int) by show _ = md + ((1 + (t.size + b.size) : Nat) : Int); omega]
    exact h
end EH

set_option Elab.async false
set_option maxRecDepth 100000
set_option maxHeartbeats 4000000
namespace EH
open PySem L2 TL

/-! ### programs -/
structure Wd where
  name : Str
  params : List (Str × Str)
  kind : Str
  body : T
structure Hs where
  name : Str
  elder : Option Str
  fields : List (Str × Str)
  words : List Wd
structure Pg where
  houses : List Hs
  params : List (Str × Str)
  kind : Str
  body : T
inductive ParamsL : Nat → List (Str × Str) → Src → List (Str × Str) → Src → Prop
  | stop {m acc s r} : s.ts = (")" : Str) :: r → ParamsL m acc s acc s
  | one {m x k r op md out s'} : isName x = true → kindOk k = true → ParamsL m [(x, k)] ⟨r, op, md⟩ out s' → ParamsL (m + 1) [] ⟨x :: k :: r, op, md⟩ out s'
  | more {m acc x k r op md out s'} : acc ≠ [] → isName x = true → kindOk k = true → (acc ++ [(x, k)]).length ≤ 4 → ParamsL m (acc ++ [(x, k)]) ⟨r, op, md⟩ out s' → ParamsL (m + 1) acc ⟨("," : Str) :: x :: k :: r, op, md⟩ out s'
def ParamsR (s : Src) (out : List (Str × Str)) (s' : Src) : Prop := ∃ r m s1 r1, s.ts = ("(" : Str) :: r ∧ s.op + 1 ≤ 14 ∧ ParamsL m [] ⟨r, s.op + 1, s.md⟩ out s1 ∧ s1.ts = (")" : Str) :: r1 ∧ s' = ⟨r1, s1.op - 1, s1.md⟩
inductive FieldsL : Nat → List (Str × Str) → Src → List (Str × Str) → Src → Prop
  | stop {m acc s} : s.now ≠ ("has" : Str) → FieldsL m acc s acc s
  | step {m acc x k r op md out s'} : isName x = true → kindOk k = true → FieldsL m (acc ++ [(x, k)]) ⟨r, op, md⟩ out s' → FieldsL (m + 1) acc ⟨("has" : Str) :: x :: k :: r, op, md⟩ out s'
inductive WordsL : Nat → List Wd → Src → List Wd → Src → Prop
  | stop {m acc s} : s.now ≠ ("can" : Str) → WordsL m acc s acc s
  | step {m acc x r op md ps k r1 op1 md1 t s2 out s'} : isName x = true → ParamsR ⟨r, op, md⟩ ps ⟨k :: ("=" : Str) :: r1, op1, md1⟩ → kindOk k = true → Term 32 1 1 ⟨r1, op1, md1⟩ t s2 →
      WordsL m (acc ++ [⟨x, ps, k, t⟩]) s2 out s' → WordsL (m + 1) acc ⟨("can" : Str) :: x :: r, op, md⟩ out s'
inductive HouseR : Src → Hs → Src → Prop
  | plain {x r op md m1 fs s1 m2 ws r2 op2 md2} : isName x = true → FieldsL m1 [] ⟨r, op, md⟩ fs s1 → WordsL m2 [] s1 ws ⟨("}" : Str) :: r2, op2, md2⟩ → fs.length ≤ 4 → ws.length ≤ 8 →
      HouseR ⟨("house" : Str) :: x :: ("{" : Str) :: r, op, md⟩ ⟨x, none, fs, ws⟩ ⟨r2, op2, md2⟩
  | elder {x y r op md m1 fs s1 m2 ws r2 op2 md2} : isName x = true → isName y = true → FieldsL m1 [] ⟨r, op, md⟩ fs s1 → WordsL m2 [] s1 ws ⟨("}" : Str) :: r2, op2, md2⟩ → fs.length ≤ 4 → ws.length ≤ 8 →
      HouseR ⟨("house" : Str) :: x :: ("of" : Str) :: y :: ("{" : Str) :: r, op, md⟩ ⟨x, some y, fs, ws⟩ ⟨r2, op2, md2⟩
inductive HousesL : Nat → List Hs → Src → List Hs → Src → Prop
  | stop {m acc s} : s.now ≠ ("house" : Str) → HousesL m acc s acc s
  | step {m acc s h s1 out s'} : HouseR s h s1 → HousesL m (acc ++ [h]) s1 out s' → HousesL (m + 1) acc s out s'
def ProgR (s : Src) (p : Pg) : Prop := ∃ m r op md r1 op1 md1 s2, HousesL m [] s p.houses ⟨("main" : Str) :: r, op, md⟩ ∧ p.houses.length ≤ 12 ∧ ParamsR ⟨r, op, md⟩ p.params ⟨p.kind :: ("=" : Str) :: r1, op1, md1⟩ ∧ kindOk p.kind = true ∧
  Term 32 1 1 ⟨r1, op1, md1⟩ p.body s2 ∧ s2.ts = [] ∧ ∀ q ∈ p.params, q.2 = ("number" : Str)

/-! ### its words -/
def parT (ps : List (Str × Str)) : List Str := ("(" : Str) :: (joinT (ps.map fun p => [p.1, p.2]) ++ [(")" : Str)])
def fldT (p : Str × Str) : List Str := [("has" : Str), p.1, p.2]
def wdT (w : Wd) : List Str := ("can" : Str) :: w.name :: (parT w.params ++ (w.kind :: ("=" : Str) :: tkB w.body 1))
def eldT : Option Str → List Str
  | none => []
  | some e => [("of" : Str), e]
def hsT (h : Hs) : List Str := ("house" : Str) :: h.name :: (eldT h.elder ++ ("{" : Str) :: (h.fields.flatMap fldT ++ (h.words.flatMap wdT ++ [("}" : Str)])))
def pgT (p : Pg) : List Str := p.houses.flatMap hsT ++ ("main" : Str) :: (parT p.params ++ (p.kind :: ("=" : Str) :: tkB p.body 1))
def parOk (ps : List (Str × Str)) : Prop := ps.length ≤ 4 ∧ ∀ p ∈ ps, isName p.1 = true ∧ kindOk p.2 = true
def Wd.wf (w : Wd) : Prop := isName w.name = true ∧ parOk w.params ∧ kindOk w.kind = true ∧ w.body.wf ∧ w.body.depth ≤ 14
def Hs.wf (h : Hs) : Prop := isName h.name = true ∧ (∀ e, h.elder = some e → isName e = true) ∧ parOk h.fields ∧ h.words.length ≤ 8 ∧ ∀ w ∈ h.words, w.wf
def sizeW (ws : List Wd) : Nat := (ws.map fun w => w.body.size).sum
def sizeH (hs : List Hs) : Nat := (hs.map fun h => sizeW h.words).sum
def Pg.wf (p : Pg) : Prop := p.houses.length ≤ 12 ∧ (∀ h ∈ p.houses, h.wf) ∧ parOk p.params ∧ (∀ q ∈ p.params, q.2 = ("number" : Str)) ∧ kindOk p.kind = true ∧ p.body.wf ∧ p.body.depth ≤ 14 ∧ sizeH p.houses + p.body.size ≤ 400

theorem sizeW_cons (w : Wd) (ws : List Wd) : sizeW (w :: ws) = w.body.size + sizeW ws := by unfold sizeW; rw [List.map_cons, List.sum_cons]
theorem sizeH_cons (h : Hs) (hs : List Hs) : sizeH (h :: hs) = sizeW h.words + sizeH hs := by unfold sizeH; rw [List.map_cons, List.sum_cons]
/-- a kind is a word that no sign is -/
theorem kind_ne {k w : Str} (h : kindOk k = true) (h1 : w ≠ ("number" : Str) := by decide +kernel) (h2 : w ≠ ("truth" : Str) := by decide +kernel) (h3 : lowB w = false := by decide +kernel) : k ≠ w := by
  unfold kindOk at h
  simp only [Bool.or_eq_true, decide_eq_true_eq] at h
  rcases h with (h | h) | h
  · rw [h]; exact fun e => h1 e.symm
  · rw [h]; exact fun e => h2 e.symm
  · exact name_ne h h3
def pairT (p : Str × Str) : List Str := ("," : Str) :: [p.1, p.2]
theorem parJ : ∀ (ps : List (Str × Str)) (p : Str × Str), joinT ((p :: ps).map fun p => [p.1, p.2]) = p.1 :: p.2 :: ps.flatMap pairT
  | [], p => rfl
  | q :: qs, p => by
    have ih := parJ qs q
    show [p.1, p.2] ++ ("," : Str) :: joinT ((q :: qs).map fun p => [p.1, p.2]) = _
    rw [ih]
    rfl
theorem parLoop {rest : List Str} {op md : Int} : ∀ (ps acc : List (Str × Str)), (∀ p ∈ ps, isName p.1 = true ∧ kindOk p.2 = true) → acc ≠ [] → (acc ++ ps).length ≤ 4 →
    ParamsL ps.length acc ⟨ps.flatMap pairT ++ (")" : Str) :: rest, op, md⟩ (acc ++ ps) ⟨(")" : Str) :: rest, op, md⟩
  | [], acc, _, _, _ => by
    rw [List.append_nil]
    exact .stop rfl
  | p :: ps, acc, h, ha, hl => by
    have ih := parLoop (rest := rest) (op := op) (md := md) ps (acc ++ [p]) (fun q hq => h q (List.mem_cons_of_mem _ hq)) (by simp) (by simpa using hl)
    have hp := h p List.mem_cons_self
    rw [show (acc ++ [p]) ++ ps = acc ++ p :: ps by simp] at ih
    have z := ParamsL.more (x := p.1) (k := p.2) ha hp.1 hp.2 (by
      simp only [List.length_append, List.length_cons, List.length_nil] at hl ⊢
      omega) ih
    exact z
theorem par_of {ps : List (Str × Str)} (h : parOk ps) (rest : List Str) {op md : Int} (h0 : op + 1 ≤ 14) : ParamsR ⟨parT ps ++ rest, op, md⟩ ps ⟨rest, op, md⟩ := by
  cases ps with
  | nil =>
    refine ⟨_, 0, _, rest, rfl, h0, .stop rfl, rfl, ?_⟩
    show (⟨rest, op, md⟩ : Src) = ⟨rest, op + 1 - 1, md⟩
    congr 1
    omega
  | cons p ps =>
    have hp := h.2 p List.mem_cons_self
    have e : parT (p :: ps) ++ rest = ("(" : Str) :: (p.1 :: p.2 :: (ps.flatMap pairT ++ (")" : Str) :: rest)) := by
      unfold parT
      rw [parJ]
      simp only [List.cons_append, List.append_assoc, List.nil_append]
    rw [e]
    have lo := parLoop (rest := rest) (op := op + 1) (md := md) ps [p] (fun q hq => h.2 q (List.mem_cons_of_mem _ hq)) (by simp) h.1
    refine ⟨_, ps.length + 1, _, rest, rfl, h0, .one (x := p.1) (k := p.2) hp.1 hp.2 lo, rfl, ?_⟩
    show (⟨rest, op, md⟩ : Src) = ⟨rest, op + 1 - 1, md⟩
    congr 1
    omega
theorem fldLoop {rest : List Str} {op md : Int} (hr : hd rest ≠ ("has" : Str)) : ∀ (ps acc : List (Str × Str)), (∀ p ∈ ps, isName p.1 = true ∧ kindOk p.2 = true) → FieldsL ps.length acc ⟨ps.flatMap fldT ++ rest, op, md⟩ (acc ++ ps) ⟨rest, op, md⟩
  | [], acc, _ => by
    rw [List.append_nil]
    exact .stop (by rw [now_mk]; exact hr)
  | p :: ps, acc, h => by
    have ih := fldLoop (op := op) (md := md) hr ps (acc ++ [p]) fun q hq => h q (List.mem_cons_of_mem _ hq)
    have hp := h p List.mem_cons_self
    rw [show (acc ++ [p]) ++ ps = acc ++ p :: ps by simp] at ih
    exact .step (x := p.1) (k := p.2) hp.1 hp.2 ih
/-- a body, with nothing behind it that goes on -/
theorem body_of {t : T} (hw : t.wf) (hd' : t.depth ≤ 14) {rest : List Str} {md : Int} (h1 : strength (hd rest) = 0) (h2 : hd rest ≠ ("." : Str)) (h3 : hd rest ≠ ("(" : Str)) (hm : md + t.size ≤ 400) :
    Term 32 1 1 ⟨tkB t 1 ++ rest, 0, md⟩ t ⟨rest, 0, md + t.size⟩ := free_of (n := 31) (all_of t).1 hw h1 h2 h3 (by omega) (by omega) (by omega) hm
theorem wdLoop {rest : List Str} (h1 : strength (hd rest) = 0) (h2 : hd rest ≠ ("." : Str)) (h3 : hd rest ≠ ("(" : Str)) (h4 : hd rest ≠ ("can" : Str)) : ∀ (ws acc : List Wd) (md : Int), (∀ w ∈ ws, w.wf) → md + sizeW ws ≤ 400 →
    WordsL ws.length acc ⟨ws.flatMap wdT ++ rest, 0, md⟩ (acc ++ ws) ⟨rest, 0, md + sizeW ws⟩
  | [], acc, md, _, _ => by
    rw [List.append_nil, show sizeW [] = 0 from rfl, show md + ((0 : Nat) : Int) = md by omega]
    exact .stop (by rw [now_mk]; exact h4)
  | w :: ws, acc, md, h, hm => by
    rw [sizeW_cons] at hm
    obtain ⟨hn, hp, hk, hb, hd'⟩ := h w List.mem_cons_self
    have ih := wdLoop h1 h2 h3 h4 ws (acc ++ [w]) (md + w.body.size) (fun q hq => h q (List.mem_cons_of_mem _ hq)) (by omega)
    rw [show (acc ++ [w]) ++ ws = acc ++ w :: ws by simp, show md + ((w.body.size : Nat) : Int) + ((sizeW ws : Nat) : Int) = md + ((sizeW (w :: ws) : Nat) : Int) by rw [sizeW_cons]; omega] at ih
    have hr : strength (hd (ws.flatMap wdT ++ rest)) = 0 ∧ hd (ws.flatMap wdT ++ rest) ≠ ("." : Str) ∧ hd (ws.flatMap wdT ++ rest) ≠ ("(" : Str) := by
      cases ws with
      | nil => exact ⟨h1, h2, h3⟩
      | cons v vs =>
        show strength ("can" : Str) = 0 ∧ ("can" : Str) ≠ ("." : Str) ∧ ("can" : Str) ≠ ("(" : Str)
        exact ⟨by decide +kernel, by decide +kernel, by decide +kernel⟩
    have b := body_of hb hd' (rest := ws.flatMap wdT ++ rest) (md := md) hr.1 hr.2.1 hr.2.2 (by omega)
    have p := par_of hp (w.kind :: ("=" : Str) :: (tkB w.body 1 ++ (ws.flatMap wdT ++ rest))) (op := 0) (md := md) (by omega)
    have e : (w :: ws).flatMap wdT ++ rest = ("can" : Str) :: w.name :: (parT w.params ++ (w.kind :: ("=" : Str) :: (tkB w.body 1 ++ (ws.flatMap wdT ++ rest)))) := by
      rw [List.flatMap_cons]
      simp only [wdT, List.cons_append, List.append_assoc]
    rw [e]
    exact .step (m := ws.length) hn p hk b ih
theorem house_of {h : Hs} (hw : h.wf) {rest : List Str} {md : Int} (hm : md + sizeW h.words ≤ 400) : HouseR ⟨hsT h ++ rest, 0, md⟩ h ⟨rest, 0, md + sizeW h.words⟩ := by
  obtain ⟨x, el, fs, ws⟩ := h
  obtain ⟨hx, he, hf, hl, hws⟩ := hw
  have a := fldLoop (op := 0) (md := md) (rest := ws.flatMap wdT ++ ("}" : Str) :: rest) (by
    cases ws with
    | nil => show ("}" : Str) ≠ ("has" : Str); decide +kernel
    | cons v vs => show ("can" : Str) ≠ ("has" : Str); decide +kernel) fs [] hf.2
  have b := wdLoop (rest := ("}" : Str) :: rest) (by rw [hd_cons]; decide +kernel) (by rw [hd_cons]; decide +kernel) (by rw [hd_cons]; decide +kernel) (by rw [hd_cons]; decide +kernel) ws [] md hws hm
  rw [List.nil_append] at a b
  cases el with
  | none =>
    have e : hsT ⟨x, none, fs, ws⟩ ++ rest = ("house" : Str) :: x :: ("{" : Str) :: (fs.flatMap fldT ++ (ws.flatMap wdT ++ ("}" : Str) :: rest)) := by
      simp only [hsT, eldT, List.nil_append, List.cons_append, List.append_assoc]
    rw [e]
    exact .plain hx a b hf.1 hl
  | some y =>
    have e : hsT ⟨x, some y, fs, ws⟩ ++ rest = ("house" : Str) :: x :: ("of" : Str) :: y :: ("{" : Str) :: (fs.flatMap fldT ++ (ws.flatMap wdT ++ ("}" : Str) :: rest)) := by
      simp only [hsT, eldT, List.nil_append, List.cons_append, List.append_assoc]
    rw [e]
    exact .elder hx (he y rfl) a b hf.1 hl
theorem hsLoop {rest : List Str} (hr : hd rest ≠ ("house" : Str)) : ∀ (hs acc : List Hs) (md : Int), (∀ h ∈ hs, h.wf) → md + sizeH hs ≤ 400 → HousesL hs.length acc ⟨hs.flatMap hsT ++ rest, 0, md⟩ (acc ++ hs) ⟨rest, 0, md + sizeH hs⟩
  | [], acc, md, _, _ => by
    rw [List.append_nil, show sizeH [] = 0 from rfl, show md + ((0 : Nat) : Int) = md by omega]
    exact .stop (by rw [now_mk]; exact hr)
  | h :: hs, acc, md, hw, hm => by
    rw [sizeH_cons] at hm
    have ih := hsLoop hr hs (acc ++ [h]) (md + sizeW h.words) (fun q hq => hw q (List.mem_cons_of_mem _ hq)) (by omega)
    rw [show (acc ++ [h]) ++ hs = acc ++ h :: hs by simp, show md + ((sizeW h.words : Nat) : Int) + ((sizeH hs : Nat) : Int) = md + ((sizeH (h :: hs) : Nat) : Int) by rw [sizeH_cons]; omega] at ih
    have z := house_of (hw h List.mem_cons_self) (rest := hs.flatMap hsT ++ rest) (md := md) (by omega)
    rw [List.flatMap_cons, List.append_assoc]
    exact .step z ih
/-- THE READER READS IT -/
theorem prog_of {p : Pg} (hw : p.wf) : ProgR ⟨pgT p, 0, 0⟩ p := by
  obtain ⟨h1, h2, h3, h4, h5, h6, h7, h8⟩ := hw
  have a := hsLoop (rest := ("main" : Str) :: (parT p.params ++ (p.kind :: ("=" : Str) :: tkB p.body 1))) (by rw [hd_cons]; decide +kernel) p.houses [] 0 h2 (by omega)
  have b := par_of h3 (p.kind :: ("=" : Str) :: tkB p.body 1) (op := 0) (md := 0 + sizeH p.houses) (by omega)
  have c := body_of h6 h7 (rest := []) (md := 0 + sizeH p.houses) str_em (by show ("" : Str) ≠ ("." : Str); decide +kernel) (by show ("" : Str) ≠ ("(" : Str); decide +kernel) (by omega)
  rw [List.append_nil] at c
  rw [List.nil_append] at a
  exact ⟨_, _, _, _, _, _, _, _, a, h1, b, h5, c, rfl, h4⟩
end EH

set_option Elab.async false
set_option maxRecDepth 100000
set_option maxHeartbeats 4000000
namespace EH
open PySem L2 TL

/-! ### cutting a text into words -/
def alnum (c : Nat) : Bool := isLow c || isUp c || isDig c
def isSign (c : Nat) : Bool := [40, 41, 123, 125, 44, 46, 59, 61, 43, 45, 42, 47, 60].contains c
def isGap (c : Nat) : Bool := [32, 9, 10].contains c
abbrev mk (l : List Nat) : Str := ⟨l.toArray⟩
def rowOk (l : List Nat) : Bool := isNumRow (mk l) || isNameRow (mk l)
def lexGo (row : List Nat) : List Nat → Option (List Str)
  | [] => some []
  | c :: r => if alnum c = true then lexGo (row ++ [c]) r
    else if row = [] then (if isSign c = true then (lexGo [] r).map (mk [c] :: ·) else if isGap c = true then lexGo [] r else none)
    else if rowOk row = true then (if isSign c = true then (lexGo [] r).map (mk [c] :: ·) else if isGap c = true then lexGo [] r else none).map (mk row :: ·) else none
def Brk (rest : List Nat) : Prop := ∃ c r, rest = c :: r ∧ alnum c = false
def Lx (l : List Nat) (ts : List Str) : Prop := ∀ rest, Brk rest → lexGo [] (l ++ rest) = (lexGo [] rest).map (ts ++ ·)
theorem sign_alnum {c : Nat} (h : isSign c = true) : alnum c = false := by
  unfold isSign at h
  simp only [List.contains_cons, Bool.or_eq_true, beq_iff_eq, List.contains_nil, Bool.false_eq_true, or_false] at h
  rcases h with rfl | rfl | rfl | rfl | rfl | rfl | rfl | rfl | rfl | rfl | rfl | rfl | rfl <;> decide
theorem gap_alnum {c : Nat} (h : isGap c = true) : alnum c = false ∧ isSign c = false := by
  unfold isGap at h
  simp only [List.contains_cons, Bool.or_eq_true, beq_iff_eq, List.contains_nil, Bool.false_eq_true, or_false] at h
  rcases h with rfl | rfl | rfl <;> decide
theorem lx_nil : Lx [] [] := fun rest _ => by
  show lexGo [] rest = _
  cases lexGo [] rest <;> rfl
theorem lx_gap {c : Nat} {b : List Nat} {t : List Str} (h : isGap c = true) (hb : Lx b t) : Lx (c :: b) t := fun rest hr => by
  obtain ⟨h1, h2⟩ := gap_alnum h
  have := hb rest hr
  rw [List.cons_append, lexGo, if_neg (by rw [h1]; decide), if_pos rfl, if_neg (by rw [h2]; decide), if_pos h]
  exact this
theorem lx_sign {c : Nat} {b : List Nat} {t : List Str} (h : isSign c = true) (hb : Lx b t) : Lx (c :: b) (mk [c] :: t) := fun rest hr => by
  have h1 := sign_alnum h
  have := hb rest hr
  rw [List.cons_append, lexGo, if_neg (by rw [h1]; decide), if_pos rfl, if_pos h, this]
  cases lexGo [] rest <;> rfl
theorem lx_row {w : List Nat} (hw : ∀ c ∈ w, alnum c = true) : ∀ (row rest : List Nat), lexGo row (w ++ rest) = lexGo (row ++ w) rest := by
  induction w with
  | nil => intro row rest; rw [List.append_nil]; rfl
  | cons c w ih =>
    intro row rest
    rw [List.cons_append, lexGo, if_pos (hw c List.mem_cons_self), ih (fun d hd => hw d (List.mem_cons_of_mem _ hd))]
    rw [List.append_assoc]
    rfl
theorem lx_word {w b : List Nat} {t : List Str} (hne : w ≠ []) (hw : ∀ c ∈ w, alnum c = true) (hk : rowOk w = true) (hb : Lx b t) (hbr : b = [] ∨ Brk b) : Lx (w ++ b) (mk w :: t) := fun rest hr => by
  have hh : Brk (b ++ rest) := by
    rcases hbr with e | ⟨c, r, e, q⟩
    · rw [e]; exact hr
    · exact ⟨c, r ++ rest, by rw [e]; rfl, q⟩
  have ih := hb rest hr
  rw [List.append_assoc, lx_row hw, List.nil_append]
  obtain ⟨c, r, e, q⟩ := hh
  rw [e] at ih ⊢
  rw [lexGo, if_neg (by rw [q]; decide), if_pos rfl] at ih
  rw [lexGo, if_neg (by rw [q]; decide), if_neg hne, if_pos hk, ih]
  cases lexGo [] rest <;> rfl
/-- a word of letters and figures, then what begins with none -/
theorem lx_w (x : Str) {b : List Nat} {t : List Str} (h : isNameRow x = true ∨ isNumRow x = true) (hb : Lx b t) (hbr : b = [] ∨ Brk b) : Lx (tl x ++ b) (x :: t) := by
  have em : mk (tl x) = x := mk_tl x
  have key : tl x ≠ [] ∧ ∀ c ∈ tl x, alnum c = true := by
    rcases h with h | h
    · unfold isNameRow at h
      simp only [Bool.and_eq_true] at h
      obtain ⟨⟨_, h2⟩, h3⟩ := h
      refine ⟨fun e => (by rw [e] at h2; cases h2), fun c hc => ?_⟩
      have q := List.all_eq_true.mp h3 c hc
      unfold alnum
      simp only [Bool.or_eq_true] at q ⊢
      rcases q with q | q
      · exact .inl (.inl q)
      · exact .inr q
    · unfold isNumRow at h
      simp only [Bool.and_eq_true, decide_eq_true_eq] at h
      obtain ⟨⟨⟨h1, _⟩, h3⟩, _⟩ := h
      refine ⟨fun e => h1 (by rw [len_tl, e]; rfl), fun c hc => ?_⟩
      have q := List.all_eq_true.mp h3 c hc
      unfold alnum
      rw [q, Bool.or_true]
  have z := lx_word key.1 key.2 (by unfold rowOk; rw [em]; rcases h with h | h <;> rw [h] <;> simp) hb hbr
  rw [em] at z
  exact z
theorem name_row {x : Str} (h : isName x = true) : isNameRow x = true := by
  unfold isName at h
  exact (Bool.and_eq_true_iff.mp h).1
theorem brk_cons {c : Nat} {l : List Nat} (h : alnum c = false := by decide) : ([] : List Nat) = [] → (c :: l) = [] ∨ Brk (c :: l) := fun _ => .inr ⟨c, l, rfl, h⟩
theorem brk {c : Nat} {l : List Nat} (h : alnum c = false := by decide) : (c :: l) = [] ∨ Brk (c :: l) := .inr ⟨c, l, rfl, h⟩
theorem lx_num (n : Nat) {b : List Nat} {t : List Str} (hn : n < 1000000000) (hb : Lx b t) (hbr : b = [] ∨ Brk b) : Lx (tl (numTok n) ++ b) (numTok n :: t) := lx_w _ (.inr (numRow_ok hn)) hb hbr
/-- two texts with what begins with none between -/
theorem lx_app {a b : List Nat} {s t : List Str} (ha : Lx a s) (hb : Lx b t) (hbr : b = [] ∨ Brk b) : Lx (a ++ b) (s ++ t) := fun rest hr => by
  have hh : Brk (b ++ rest) := by
    rcases hbr with e | ⟨c, r, e, q⟩
    · rw [e]; exact hr
    · exact ⟨c, r ++ rest, by rw [e]; rfl, q⟩
  rw [List.append_assoc, ha _ hh, hb rest hr]
  cases lexGo [] rest with
  | none => rfl
  | some l => simp

/-! ### the text of a term -/
def wrS (p least : Nat) (z : Str) : Str := if p < least then (("(" : Str) ++ z) ++ (")" : Str) else z
mutual
def sh : T → Str
  | .num n => numTok n
  | .tru b => if b then ("yes" : Str) else ("no" : Str)
  | .nam x => x
  | .slf => ("self" : Str)
  | .new x ts => (("new " : Str) ++ x) ++ ((("(" : Str) ++ Str.join (", " : Str) (shL ts)) ++ (")" : Str))
  | .eld x ts => ((("elder." : Str) ++ x) ++ (" " : Str)) ++ ((("(" : Str) ++ Str.join (", " : Str) (shL ts)) ++ (")" : Str))
  | .fld t x => (wrS (power t) 6 (sh t) ++ ("." : Str)) ++ x
  | .cal t x ts => ((wrS (power t) 6 (sh t) ++ (" . " : Str)) ++ x) ++ ((("(" : Str) ++ Str.join (", " : Str) (shL ts)) ++ (")" : Str))
  | .nt t => ("not " : Str) ++ wrS (power t) 5 (sh t)
  | .two g a b => (((wrS (power a) (pw g + if pw g < 3 then 1 else 0) (sh a) ++ (" " : Str)) ++ g) ++ (" " : Str)) ++ wrS (power b) (pw g + if pw g > 1 then 1 else 0) (sh b)
  | .st t x b => (((("set " : Str) ++ wrS (power t) 6 (sh t)) ++ ("." : Str)) ++ x) ++ (" =\t" : Str) ++ wrS (power b) 2 (sh b)
  | .lt x a b => (((("let " : Str) ++ x) ++ (" = " : Str)) ++ wrS (power a) 1 (sh a)) ++ ("\nin " : Str) ++ wrS (power b) 1 (sh b)
  | .ite a b c => (((("if " : Str) ++ wrS (power a) 1 (sh a)) ++ (" then " : Str)) ++ wrS (power b) 1 (sh b)) ++ ("\nelse " : Str) ++ wrS (power c) 2 (sh c)
def shL : List T → List Str
  | [] => []
  | t :: ts => wrS (power t) 1 (sh t) :: shL ts
end
def shB (t : T) (lb : Nat) : Str := wrS (power t) lb (sh t)
def shR (ts : List T) : Str := (("(" : Str) ++ Str.join (", " : Str) (shL ts)) ++ (")" : Str)
theorem e_op : mk [40] = ("(" : Str) := by decide +kernel
theorem e_cl : mk [41] = (")" : Str) := by decide +kernel
theorem e_co : mk [44] = ("," : Str) := by decide +kernel
theorem e_dot : mk [46] = ("." : Str) := by decide +kernel
theorem e_eq : mk [61] = ("=" : Str) := by decide +kernel
theorem e_cop : mk [123] = ("{" : Str) := by decide +kernel
theorem e_ccl : mk [125] = ("}" : Str) := by decide +kernel
theorem t_op : tl ("(" : Str) = [40] := by decide +kernel
theorem t_cl : tl (")" : Str) = [41] := by decide +kernel
theorem t_com : tl (", " : Str) = [44, 32] := by decide +kernel
theorem t_dot : tl ("." : Str) = [46] := by decide +kernel
theorem t_bl : tl (" " : Str) = [32] := by decide +kernel
theorem t_new : tl ("new " : Str) = tl ("new" : Str) ++ [32] := by decide +kernel
theorem t_eld : tl ("elder." : Str) = tl ("elder" : Str) ++ [46] := by decide +kernel
theorem t_pt : tl (" . " : Str) = [32, 46, 32] := by decide +kernel
theorem t_not : tl ("not " : Str) = tl ("not" : Str) ++ [32] := by decide +kernel
theorem t_set : tl ("set " : Str) = tl ("set" : Str) ++ [32] := by decide +kernel
theorem t_eqt : tl (" =\t" : Str) = [32, 61, 9] := by decide +kernel
theorem t_let : tl ("let " : Str) = tl ("let" : Str) ++ [32] := by decide +kernel
theorem t_eq3 : tl (" = " : Str) = [32, 61, 32] := by decide +kernel
theorem t_in : tl ("\nin " : Str) = 10 :: (tl ("in" : Str) ++ [32]) := by decide +kernel
theorem t_if : tl ("if " : Str) = tl ("if" : Str) ++ [32] := by decide +kernel
theorem t_then : tl (" then " : Str) = 32 :: (tl ("then" : Str) ++ [32]) := by decide +kernel
theorem t_else : tl ("\nelse " : Str) = 10 :: (tl ("else" : Str) ++ [32]) := by decide +kernel
theorem lx_told (x : Str) {c : Nat} {b : List Nat} {t : List Str} (hb : Lx (c :: b) t) (hc : alnum c = false := by decide) (h : isNameRow x = true := by decide +kernel) : Lx (tl x ++ c :: b) (x :: t) := lx_w x (.inl h) hb (brk hc)
theorem lx_end (x : Str) (h : isName x = true) : Lx (tl x) [x] := by
  have := lx_w x (.inl (name_row h)) lx_nil (.inl rfl)
  rw [List.append_nil] at this
  exact this
theorem lx_cl : Lx [41] [(")" : Str)] := by
  have := lx_sign (c := 41) (by decide) lx_nil
  rw [e_cl] at this
  exact this
theorem lx_wr {p lb : Nat} {z : Str} {ts : List Str} (h : Lx (tl z) ts) : Lx (tl (wrS p lb z)) (wrT p lb ts) := by
  unfold wrS wrT
  split
  · rw [tl_append, tl_append, t_op, t_cl, List.append_assoc]
    have := lx_sign (c := 40) (by decide) (lx_app h lx_cl brk)
    rw [e_op] at this
    exact this
  · exact h
theorem lx_join {zs : List Str} {tss : List (List Str)} (h : Paired (fun z ts => Lx (tl z) ts) zs tss) : Lx (tl (Str.join (", " : Str) zs)) (joinT tss) := by
  induction h with
  | nil => exact lx_nil
  | @cons z ts zs tss h r ih =>
    cases r with
    | nil => exact h
    | @cons z2 ts2 zs tss h2 r =>
      show Lx (tl (z ++ (", " : Str) ++ Str.join (", " : Str) (z2 :: zs))) (ts ++ ("," : Str) :: joinT (ts2 :: tss))
      rw [tl_append, tl_append, t_com, List.append_assoc]
      refine lx_app h ?_ brk
      have := lx_sign (c := 44) (by decide) (lx_gap (c := 32) (by decide) ih)
      rw [e_co] at this
      exact this
theorem lx_list : ∀ ts : List T, (∀ t ∈ ts, Lx (tl (sh t)) (tk t)) → Paired (fun z ts => Lx (tl z) ts) (shL ts) (tkL ts)
  | [], _ => .nil
  | t :: ts, h => .cons (lx_wr (h t List.mem_cons_self)) (lx_list ts fun u hu => h u (List.mem_cons_of_mem _ hu))
theorem lx_rowB {ts : List T} (h : ∀ t ∈ ts, Lx (tl (sh t)) (tk t)) : Lx (tl (shR ts)) (("(" : Str) :: (joinT (tkL ts) ++ [(")" : Str)])) := by
  unfold shR
  rw [tl_append, tl_append, t_op, t_cl, List.append_assoc]
  have := lx_sign (c := 40) (by decide) (lx_app (lx_join (lx_list ts h)) lx_cl brk)
  rw [e_op] at this
  exact this
theorem tl_row (ts : List T) : tl (shR ts) = 40 :: (tl (Str.join (", " : Str) (shL ts)) ++ [41]) := by
  unfold shR
  rw [tl_append, tl_append, t_op, t_cl, List.append_assoc]
  rfl
theorem brk_row (ts : List T) : tl (shR ts) = [] ∨ Brk (tl (shR ts)) := by
  rw [tl_row]
  exact brk
theorem lx_term : ∀ t : T, t.wf → Lx (tl (sh t)) (tk t) := by
  have nm : ∀ {x : Str} {c : Nat} {b : List Nat} {t : List Str}, isName x = true → Lx (c :: b) t → alnum c = false → Lx (tl x ++ c :: b) (x :: t) := fun h hb hc => lx_w _ (.inl (name_row h)) hb (brk hc)
  have nmR : ∀ {x : Str} {ts : List T}, isName x = true → (∀ t ∈ ts, Lx (tl (sh t)) (tk t)) → Lx (tl x ++ tl (shR ts)) (x :: ("(" : Str) :: (joinT (tkL ts) ++ [(")" : Str)])) := fun h ht => lx_w _ (.inl (name_row h)) (lx_rowB ht) (brk_row _)
  have gp : ∀ {b : List Nat} {t : List Str}, Lx b t → Lx (32 :: b) t := fun h => lx_gap (by decide) h
  have dot : ∀ {b : List Nat} {t : List Str}, Lx b t → Lx (46 :: b) (("." : Str) :: t) := fun h => by
    have := lx_sign (c := 46) (by decide) h
    rw [e_dot] at this
    exact this
  have eq : ∀ {b : List Nat} {t : List Str}, Lx b t → Lx (61 :: b) (("=" : Str) :: t) := fun h => by
    have := lx_sign (c := 61) (by decide) h
    rw [e_eq] at this
    exact this
  intro t
  induction t using T.ind with
  | hnum n =>
    intro h
    have := lx_num n h lx_nil (.inl rfl)
    rw [List.append_nil] at this
    exact this
  | htru b =>
    intro _
    have : ∀ x : Str, isNameRow x = true → Lx (tl x) [x] := fun x h => by
      have := lx_w x (.inl h) lx_nil (.inl rfl)
      rw [List.append_nil] at this
      exact this
    cases b with
    | true => exact this _ (by decide +kernel)
    | false => exact this _ (by decide +kernel)
  | hnam x => exact fun h => lx_end x h
  | hslf =>
    intro _
    have := lx_w ("self" : Str) (.inl (by decide +kernel)) lx_nil (.inl rfl)
    rw [List.append_nil] at this
    exact this
  | hnew x ts ih =>
    rintro ⟨hx, hw, _⟩
    have hts : ∀ t ∈ ts, Lx (tl (sh t)) (tk t) := fun t ht => ih t ht (wfL_of hw t ht)
    show Lx (tl ((("new " : Str) ++ x) ++ shR ts)) _
    rw [tl_append, tl_append, t_new]
    simp only [List.append_assoc, List.cons_append, List.nil_append]
    exact lx_told _ (gp (nmR hx hts))
  | held x ts ih =>
    rintro ⟨hx, hw, _⟩
    have hts : ∀ t ∈ ts, Lx (tl (sh t)) (tk t) := fun t ht => ih t ht (wfL_of hw t ht)
    show Lx (tl (((("elder." : Str) ++ x) ++ (" " : Str)) ++ shR ts)) _
    rw [tl_append, tl_append, tl_append, t_eld, t_bl]
    simp only [List.append_assoc, List.cons_append, List.nil_append]
    exact lx_told _ (dot (nm hx (gp (lx_rowB hts)) (by decide)))
  | hfld t x ih =>
    rintro ⟨hw, hx⟩
    show Lx (tl ((wrS (power t) 6 (sh t) ++ ("." : Str)) ++ x)) _
    rw [tl_append, tl_append, t_dot]
    simp only [List.append_assoc, List.cons_append, List.nil_append]
    exact lx_app (lx_wr (ih hw)) (dot (lx_end x hx)) brk
  | hcal t x ts ih iht =>
    rintro ⟨hw, hx, hwl, _⟩
    have hts : ∀ t ∈ ts, Lx (tl (sh t)) (tk t) := fun t ht => iht t ht (wfL_of hwl t ht)
    show Lx (tl (((wrS (power t) 6 (sh t) ++ (" . " : Str)) ++ x) ++ shR ts)) _
    rw [tl_append, tl_append, tl_append, t_pt]
    simp only [List.append_assoc, List.cons_append, List.nil_append]
    exact lx_app (lx_wr (ih hw)) (gp (dot (gp (nmR hx hts)))) brk
  | hnt t ih =>
    intro hw
    show Lx (tl (("not " : Str) ++ wrS (power t) 5 (sh t))) _
    rw [tl_append, t_not]
    simp only [List.append_assoc, List.cons_append, List.nil_append]
    exact lx_told _ (gp (lx_wr (ih hw)))
  | htwo g a b iha ihb =>
    rintro ⟨hg, ha, hb⟩
    have hs : ∃ c, g = mk [c] ∧ isSign c = true := by
      simp only [signs, List.mem_cons, List.not_mem_nil, or_false] at hg
      rcases hg with rfl | rfl | rfl | rfl | rfl | rfl | rfl
      · exact ⟨43, by decide +kernel, by decide⟩
      · exact ⟨45, by decide +kernel, by decide⟩
      · exact ⟨42, by decide +kernel, by decide⟩
      · exact ⟨47, by decide +kernel, by decide⟩
      · exact ⟨60, by decide +kernel, by decide⟩
      · exact ⟨61, by decide +kernel, by decide⟩
      · exact ⟨59, by decide +kernel, by decide⟩
    obtain ⟨c, rfl, hc⟩ := hs
    show Lx (tl ((((wrS (power a) _ (sh a) ++ (" " : Str)) ++ mk [c]) ++ (" " : Str)) ++ wrS (power b) _ (sh b))) _
    rw [tl_append, tl_append, tl_append, tl_append, t_bl, show tl (mk [c]) = [c] from rfl]
    simp only [List.append_assoc, List.cons_append, List.nil_append]
    exact lx_app (lx_wr (iha ha)) (gp (lx_sign hc (gp (lx_wr (ihb hb))))) brk
  | hite a b c iha ihb ihc =>
    rintro ⟨ha, hb, hc⟩
    show Lx (tl ((((("if " : Str) ++ wrS (power a) 1 (sh a)) ++ (" then " : Str)) ++ wrS (power b) 1 (sh b)) ++ ("\nelse " : Str) ++ wrS (power c) 2 (sh c))) _
    rw [tl_append, tl_append, tl_append, tl_append, tl_append, t_if, t_then, t_else]
    simp only [List.append_assoc, List.cons_append, List.nil_append]
    exact lx_told _ (gp (lx_app (lx_wr (iha ha)) (gp (lx_told _ (gp (lx_app (lx_wr (ihb hb)) (lx_gap (by decide) (lx_told _ (gp (lx_wr (ihc hc))))) brk)))) brk))
  | hlt x a b iha ihb =>
    rintro ⟨hx, ha, hb⟩
    show Lx (tl ((((("let " : Str) ++ x) ++ (" = " : Str)) ++ wrS (power a) 1 (sh a)) ++ ("\nin " : Str) ++ wrS (power b) 1 (sh b))) _
    rw [tl_append, tl_append, tl_append, tl_append, tl_append, t_let, t_eq3, t_in]
    simp only [List.append_assoc, List.cons_append, List.nil_append]
    exact lx_told _ (gp (nm hx (gp (eq (gp (lx_app (lx_wr (iha ha)) (lx_gap (by decide) (lx_told _ (gp (lx_wr (ihb hb))))) brk)))) (by decide)))
  | hst t x b iht ihb =>
    rintro ⟨ht, hx, hb⟩
    show Lx (tl ((((("set " : Str) ++ wrS (power t) 6 (sh t)) ++ ("." : Str)) ++ x) ++ (" =\t" : Str) ++ wrS (power b) 2 (sh b))) _
    rw [tl_append, tl_append, tl_append, tl_append, tl_append, t_set, t_dot, t_eqt]
    simp only [List.append_assoc, List.cons_append, List.nil_append]
    exact lx_told _ (gp (lx_app (lx_wr (iht ht)) (dot (nm hx (gp (eq (lx_gap (by decide) (lx_wr (ihb hb))))) (by decide))) brk))
end EH

set_option Elab.async false
set_option maxRecDepth 100000
set_option maxHeartbeats 4000000
namespace EH
open PySem L2 TL

/-! ### the text of a program -/
def shPar (p : Str × Str) : Str := (p.1 ++ (" " : Str)) ++ p.2
def shPs (ps : List (Str × Str)) : Str := (("(" : Str) ++ Str.join (", " : Str) (ps.map shPar)) ++ (")" : Str)
def shFld (p : Str × Str) : Str := ((("has " : Str) ++ p.1) ++ (" " : Str)) ++ p.2
def shEld : Option Str → List Str
  | none => []
  | some e => [("of" : Str), e]
def shWd (w : Wd) : List Str := [("can" : Str), w.name, shPs w.params, w.kind, ("=" : Str), shB w.body 1]
def shHs (h : Hs) : List Str := ((([("house" : Str), h.name] ++ shEld h.elder) ++ (("{" : Str) :: h.fields.map shFld)) ++ h.words.flatMap shWd) ++ [("}" : Str)]
def shPg (p : Pg) : List Str := p.houses.flatMap shHs ++ [("main" : Str), shPs p.params, p.kind, ("=" : Str), shB p.body 1]
def pgText (p : Pg) : Str := Str.join (" " : Str) (shPg p)
theorem kind_row {k : Str} (h : kindOk k = true) : isNameRow k = true := by
  unfold kindOk at h
  simp only [Bool.or_eq_true, decide_eq_true_eq] at h
  rcases h with (h | h) | h
  · rw [h]; decide +kernel
  · rw [h]; decide +kernel
  · exact name_row h
theorem lx_one {x : Str} (h : isNameRow x = true) : Lx (tl x) [x] := by
  have := lx_w x (.inl h) lx_nil (.inl rfl)
  rw [List.append_nil] at this
  exact this
theorem lx_par {p : Str × Str} (h1 : isName p.1 = true) (h2 : kindOk p.2 = true) : Lx (tl (shPar p)) [p.1, p.2] := by
  unfold shPar
  rw [tl_append, tl_append, t_bl, List.append_assoc]
  exact lx_w p.1 (.inl (name_row h1)) (lx_gap (by decide) (lx_one (kind_row h2))) brk
theorem lx_pars {ps : List (Str × Str)} (h : ∀ p ∈ ps, isName p.1 = true ∧ kindOk p.2 = true) : Lx (tl (shPs ps)) (parT ps) := by
  have key : Paired (fun z ts => Lx (tl z) ts) (ps.map shPar) (ps.map fun p => [p.1, p.2]) := by
    induction ps with
    | nil => exact .nil
    | cons p ps ih => exact .cons (lx_par (h p List.mem_cons_self).1 (h p List.mem_cons_self).2) (ih fun q hq => h q (List.mem_cons_of_mem _ hq))
  unfold shPs parT
  rw [tl_append, tl_append, t_op, t_cl, List.append_assoc]
  have := lx_sign (c := 40) (by decide) (lx_app (lx_join key) lx_cl brk)
  rw [e_op] at this
  exact this
theorem t_has : tl ("has " : Str) = tl ("has" : Str) ++ [32] := by decide +kernel
theorem lx_fld {p : Str × Str} (h1 : isName p.1 = true) (h2 : kindOk p.2 = true) : Lx (tl (shFld p)) (fldT p) := by
  unfold shFld fldT
  rw [tl_append, tl_append, tl_append, t_bl, t_has]
  simp only [List.append_assoc, List.cons_append, List.nil_append]
  exact lx_told _ (lx_gap (by decide) (lx_w p.1 (.inl (name_row h1)) (lx_gap (by decide) (lx_one (kind_row h2))) brk))
theorem lx_s1 (x : Str) {c : Nat} (e : tl x = [c]) (h : isSign c = true) : Lx (tl x) [x] := by
  rw [e]
  have := lx_sign h lx_nil
  have em : mk [c] = x := (congrArg mk e).symm.trans (mk_tl x)
  rw [em] at this
  exact this
abbrev LxL := Paired (fun (z : Str) (ts : List Str) => Lx (tl z) ts)
theorem lxl_app {a b : List Str} {s t : List (List Str)} (h : LxL a s) (k : LxL b t) : LxL (a ++ b) (s ++ t) := by
  induction h with
  | nil => exact k
  | cons h _ ih => exact .cons h ih
theorem lxl_flat {α : Type} {f : α → List Str} {g : α → List (List Str)} : ∀ {l : List α}, (∀ x ∈ l, LxL (f x) (g x)) → LxL (l.flatMap f) (l.flatMap g)
  | [], _ => .nil
  | x :: l, h => by
    rw [List.flatMap_cons, List.flatMap_cons]
    exact lxl_app (h x List.mem_cons_self) (lxl_flat fun y hy => h y (List.mem_cons_of_mem _ hy))
def tkWd (w : Wd) : List (List Str) := [[("can" : Str)], [w.name], parT w.params, [w.kind], [("=" : Str)], tkB w.body 1]
def tkEld : Option Str → List (List Str)
  | none => []
  | some e => [[("of" : Str)], [e]]
def tkHs (h : Hs) : List (List Str) := ((([[("house" : Str)], [h.name]] ++ tkEld h.elder) ++ ([("{" : Str)] :: h.fields.map fldT)) ++ h.words.flatMap tkWd) ++ [[("}" : Str)]]
def tkPg (p : Pg) : List (List Str) := p.houses.flatMap tkHs ++ [[("main" : Str)], parT p.params, [p.kind], [("=" : Str)], tkB p.body 1]
theorem flat_flat {α : Type} {f : α → List (List Str)} {g : α → List Str} (h : ∀ x, (f x).flatten = g x) : ∀ l : List α, (l.flatMap f).flatten = l.flatMap g
  | [] => rfl
  | x :: l => by
    rw [List.flatMap_cons, List.flatMap_cons, List.flatten_append, h x, flat_flat h l]
theorem wd_flat (w : Wd) : (tkWd w).flatten = wdT w := by simp [tkWd, wdT]
theorem hs_flat (h : Hs) : (tkHs h).flatten = hsT h := by
  obtain ⟨x, el, fs, ws⟩ := h
  have e1 : (fs.map fldT).flatten = fs.flatMap fldT := by rw [List.flatMap_def]
  have e2 := flat_flat wd_flat ws
  cases el with
  | none => simp only [tkHs, hsT, tkEld, eldT, List.flatten_append, List.flatten_cons, e1, e2, List.flatten_nil, List.append_assoc, List.nil_append, List.cons_append, List.append_nil]
  | some y => simp only [tkHs, hsT, tkEld, eldT, List.flatten_append, List.flatten_cons, e1, e2, List.flatten_nil, List.append_assoc, List.nil_append, List.cons_append, List.append_nil]
theorem pg_flat (p : Pg) : (tkPg p).flatten = pgT p := by
  unfold tkPg pgT
  rw [List.flatten_append, flat_flat hs_flat]
  simp
theorem lx_wd {w : Wd} (h : w.wf) : LxL (shWd w) (tkWd w) := by
  obtain ⟨hn, hp, hk, hb, _⟩ := h
  exact .cons (lx_one (by decide +kernel)) (.cons (lx_end _ hn) (.cons (lx_pars hp.2) (.cons (lx_one (kind_row hk)) (.cons (lx_s1 _ (c := 61) (by decide +kernel) (by decide)) (.cons (lx_wr (lx_term _ hb)) .nil)))))
theorem lx_hs {h : Hs} (hw : h.wf) : LxL (shHs h) (tkHs h) := by
  obtain ⟨hn, he, hf, _, hws⟩ := hw
  refine lxl_app (lxl_app (lxl_app (lxl_app (.cons (lx_one (by decide +kernel)) (.cons (lx_end _ hn) .nil)) ?_) (.cons (lx_s1 _ (c := 123) (by decide +kernel) (by decide)) ?_)) (lxl_flat fun w hw => lx_wd (hws w hw))) (.cons (lx_s1 _ (c := 125) (by decide +kernel) (by decide)) .nil)
  · cases e : h.elder with
    | none => exact .nil
    | some y => exact .cons (lx_one (by decide +kernel)) (.cons (lx_end _ (he y e)) .nil)
  · have := hf.2
    revert this
    generalize h.fields = l
    induction l with
    | nil => exact fun _ => .nil
    | cons p ps ih => exact fun q => .cons (lx_fld (q p List.mem_cons_self).1 (q p List.mem_cons_self).2) (ih fun r hr => q r (List.mem_cons_of_mem _ hr))
theorem lx_pg {p : Pg} (hw : p.wf) : LxL (shPg p) (tkPg p) := by
  obtain ⟨_, h2, h3, _, h5, h6, _, _⟩ := hw
  exact lxl_app (lxl_flat fun h hh => lx_hs (h2 h hh)) (.cons (lx_one (by decide +kernel)) (.cons (lx_pars h3.2) (.cons (lx_one (kind_row h5)) (.cons (lx_s1 _ (c := 61) (by decide +kernel) (by decide)) (.cons (lx_wr (lx_term _ h6)) .nil)))))
theorem lx_rows {zs : List Str} {tss : List (List Str)} (h : LxL zs tss) : Lx (tl (Str.join (" " : Str) zs)) tss.flatten := by
  induction h with
  | nil => exact lx_nil
  | @cons z ts zs tss h r ih =>
    cases r with
    | nil =>
      rw [List.flatten_cons, List.flatten_nil, List.append_nil]
      exact h
    | @cons z2 ts2 zs tss h2 r =>
      show Lx (tl (z ++ (" " : Str) ++ Str.join (" " : Str) (z2 :: zs))) (ts ++ (ts2 :: tss).flatten)
      rw [tl_append, tl_append, t_bl, List.append_assoc]
      exact lx_app h (lx_gap (by decide) ih) brk
/-- THE WORDS OF THE TEXT -/
theorem words_of {p : Pg} (hw : p.wf) : lexGo [] (tl (pgText p) ++ [32]) = some (pgT p) := by
  have z := lx_rows (lx_pg hw) [32] ⟨32, [], rfl, by decide⟩
  rw [pg_flat] at z
  show lexGo [] (tl (Str.join (" " : Str) (shPg p)) ++ [32]) = _
  rw [z]
  show Option.map (fun x => pgT p ++ x) (some []) = _
  simp
end EH

set_option Elab.async false
set_option maxRecDepth 100000
set_option maxHeartbeats 4000000
namespace EH
open PySem L2 TL

/-! ### how long the texts are -/
theorem ln_app (a b : Str) : (a ++ b).length = a.length + b.length := by rw [len_tl, len_tl, len_tl, tl_append, List.length_append]
theorem ln_join (y : Str) : ∀ zs : List Str, (Str.join y zs).length ≤ (zs.map (·.length)).sum + zs.length * y.length
  | [] => by show 0 ≤ _; omega
  | [x] => by
    show x.length ≤ _
    simp
  | x :: z :: r => by
    have ih := ln_join y (z :: r)
    show (x ++ y ++ Str.join y (z :: r)).length ≤ _
    rw [ln_app, ln_app]
    simp only [List.map_cons, List.sum_cons, List.length_cons] at ih ⊢
    rw [Nat.add_mul (r.length + 1) 1 y.length]
    omega
theorem name_len {x : Str} (h : isName x = true) : x.length ≤ 8 := by
  have := name_row h
  unfold isNameRow at this
  simp only [Bool.and_eq_true, decide_eq_true_eq] at this
  exact this.1.1
theorem kind_len {x : Str} (h : kindOk x = true) : x.length ≤ 8 := by
  have := kind_row h
  unfold isNameRow at this
  simp only [Bool.and_eq_true, decide_eq_true_eq] at this
  exact this.1.1
theorem num_len {n : Nat} (h : n < 1000000000) : (numTok n).length ≤ 9 := by
  rw [len_tl, numTok_tl]
  exact numL_len (by decide) h
theorem wr_len (p lb : Nat) (z : Str) : (wrS p lb z).length ≤ z.length + 2 := by
  unfold wrS
  split
  · rw [ln_app, ln_app]
    have h1 : ("(" : Str).length = 1 := by decide +kernel
    have h2 : (")" : Str).length = 1 := by decide +kernel
    omega
  · omega
theorem l_1 : ("(" : Str).length = 1 ∧ (")" : Str).length = 1 ∧ ("." : Str).length = 1 ∧ (" " : Str).length = 1 ∧ ("new " : Str).length = 4 ∧ ("elder." : Str).length = 6 ∧ (" . " : Str).length = 3 ∧ ("not " : Str).length = 4 ∧ ("set " : Str).length = 4 ∧ (" =\t" : Str).length = 3 ∧
  ("let " : Str).length = 4 ∧ (" = " : Str).length = 3 ∧ ("\nin " : Str).length = 4 ∧ ("if " : Str).length = 3 ∧ (" then " : Str).length = 6 ∧ ("\nelse " : Str).length = 6 ∧ (", " : Str).length = 2 ∧ ("yes" : Str).length = 3 ∧ ("no" : Str).length = 2 ∧ ("self" : Str).length = 4 ∧ ("has " : Str).length = 4 := by decide +kernel
theorem shL_len : ∀ ts : List T, (∀ t ∈ ts, (sh t).length + 4 ≤ 40 * t.size) → ((shL ts).map (·.length)).sum + (shL ts).length * 2 ≤ 40 * sizeL ts
  | [], _ => by show 0 + 0 * 2 ≤ _; omega
  | t :: ts, h => by
    have ih := shL_len ts fun u hu => h u (List.mem_cons_of_mem _ hu)
    have h1 := h t List.mem_cons_self
    have h2 := wr_len (power t) 1 (sh t)
    show ((wrS (power t) 1 (sh t) :: shL ts).map (·.length)).sum + (wrS (power t) 1 (sh t) :: shL ts).length * 2 ≤ 40 * (t.size + sizeL ts)
    simp only [List.map_cons, List.sum_cons, List.length_cons]
    omega
theorem shR_len (ts : List T) (h : ∀ t ∈ ts, (sh t).length + 4 ≤ 40 * t.size) : (shR ts).length ≤ 40 * sizeL ts + 2 := by
  have h1 := shL_len ts h
  have h2 := ln_join (", " : Str) (shL ts)
  obtain ⟨a1, a2, _, _, _, _, _, _, _, _, _, _, _, _, _, _, a3, _⟩ := l_1
  unfold shR
  rw [ln_app, ln_app, a1, a2]
  rw [a3] at h2
  omega
theorem sh_len : ∀ t : T, t.wf → (sh t).length + 4 ≤ 40 * t.size := by
  obtain ⟨a1, a2, a3, a4, a5, a6, a7, a8, a9, a10, a11, a12, a13, a14, a15, a16, a17, a18, a19, a20, _⟩ := l_1
  intro t
  induction t using T.ind with
  | hnum n =>
    intro h
    have := num_len h
    show (numTok n).length + 4 ≤ 40 * 1
    omega
  | htru b =>
    intro _
    cases b with
    | true => show ("yes" : Str).length + 4 ≤ 40 * 1; omega
    | false => show ("no" : Str).length + 4 ≤ 40 * 1; omega
  | hnam x =>
    intro h
    have := name_len h
    show x.length + 4 ≤ 40 * 1
    omega
  | hslf =>
    intro _
    show ("self" : Str).length + 4 ≤ 40 * 1
    omega
  | hnew x ts ih =>
    rintro ⟨hx, hw, _⟩
    have h1 := shR_len ts fun t ht => ih t ht (wfL_of hw t ht)
    have h2 := name_len hx
    show ((("new " : Str) ++ x) ++ shR ts).length + 4 ≤ 40 * (1 + sizeL ts)
    rw [ln_app, ln_app]
    omega
  | held x ts ih =>
    rintro ⟨hx, hw, _⟩
    have h1 := shR_len ts fun t ht => ih t ht (wfL_of hw t ht)
    have h2 := name_len hx
    show (((("elder." : Str) ++ x) ++ (" " : Str)) ++ shR ts).length + 4 ≤ 40 * (1 + sizeL ts)
    rw [ln_app, ln_app, ln_app]
    omega
  | hfld t x ih =>
    rintro ⟨hw, hx⟩
    have h1 := ih hw
    have h2 := wr_len (power t) 6 (sh t)
    have h3 := name_len hx
    show ((wrS (power t) 6 (sh t) ++ ("." : Str)) ++ x).length + 4 ≤ 40 * (1 + t.size)
    rw [ln_app, ln_app]
    omega
  | hcal t x ts ih iht =>
    rintro ⟨hw, hx, hwl, _⟩
    have h1 := ih hw
    have h2 := wr_len (power t) 6 (sh t)
    have h3 := name_len hx
    have h4 := shR_len ts fun t ht => iht t ht (wfL_of hwl t ht)
    show (((wrS (power t) 6 (sh t) ++ (" . " : Str)) ++ x) ++ shR ts).length + 4 ≤ 40 * (1 + (t.size + sizeL ts))
    rw [ln_app, ln_app, ln_app]
    omega
  | hnt t ih =>
    intro hw
    have h1 := ih hw
    have h2 := wr_len (power t) 5 (sh t)
    show (("not " : Str) ++ wrS (power t) 5 (sh t)).length + 4 ≤ 40 * (1 + t.size)
    rw [ln_app]
    omega
  | htwo g a b iha ihb =>
    rintro ⟨hg, ha, hb⟩
    have h1 := iha ha
    have h2 := ihb hb
    have h3 := wr_len (power a) (pw g + if pw g < 3 then 1 else 0) (sh a)
    have h4 := wr_len (power b) (pw g + if pw g > 1 then 1 else 0) (sh b)
    have h5 : g.length = 1 := by
      simp only [signs, List.mem_cons, List.not_mem_nil, or_false] at hg
      rcases hg with rfl | rfl | rfl | rfl | rfl | rfl | rfl <;> decide +kernel
    show ((((wrS (power a) _ (sh a) ++ (" " : Str)) ++ g) ++ (" " : Str)) ++ wrS (power b) _ (sh b)).length + 4 ≤ 40 * (1 + (a.size + b.size))
    rw [ln_app, ln_app, ln_app, ln_app]
    omega
  | hite a b c iha ihb ihc =>
    rintro ⟨ha, hb, hc⟩
    have h1 := iha ha
    have h2 := ihb hb
    have h3 := ihc hc
    have h4 := wr_len (power a) 1 (sh a)
    have h5 := wr_len (power b) 1 (sh b)
    have h6 := wr_len (power c) 2 (sh c)
    show (((((("if " : Str) ++ wrS (power a) 1 (sh a)) ++ (" then " : Str)) ++ wrS (power b) 1 (sh b)) ++ ("\nelse " : Str)) ++ wrS (power c) 2 (sh c)).length + 4 ≤ 40 * (1 + (a.size + (b.size + c.size)))
    rw [ln_app, ln_app, ln_app, ln_app, ln_app]
    omega
  | hlt x a b iha ihb =>
    rintro ⟨hx, ha, hb⟩
    have h1 := iha ha
    have h2 := ihb hb
    have h3 := name_len hx
    have h4 := wr_len (power a) 1 (sh a)
    have h5 := wr_len (power b) 1 (sh b)
    show (((((("let " : Str) ++ x) ++ (" = " : Str)) ++ wrS (power a) 1 (sh a)) ++ ("\nin " : Str)) ++ wrS (power b) 1 (sh b)).length + 4 ≤ 40 * (1 + (a.size + b.size))
    rw [ln_app, ln_app, ln_app, ln_app, ln_app]
    omega
  | hst t x b iht ihb =>
    rintro ⟨ht, hx, hb⟩
    have h1 := iht ht
    have h2 := ihb hb
    have h3 := name_len hx
    have h4 := wr_len (power t) 6 (sh t)
    have h5 := wr_len (power b) 2 (sh b)
    show (((((("set " : Str) ++ wrS (power t) 6 (sh t)) ++ ("." : Str)) ++ x) ++ (" =\t" : Str)) ++ wrS (power b) 2 (sh b)).length + 4 ≤ 40 * (1 + (t.size + b.size))
    rw [ln_app, ln_app, ln_app, ln_app, ln_app]
    omega
theorem shB_len {t : T} (h : t.wf) (lb : Nat) : (shB t lb).length ≤ 40 * t.size := by
  have := sh_len t h
  have := wr_len (power t) lb (sh t)
  unfold shB
  omega
end EH

set_option Elab.async false
set_option maxRecDepth 100000
set_option maxHeartbeats 0
/-! The text by places, the defs as data, the facts that the head tells. -/
namespace EH
open PySem PySem.Spec PyProof.Rows L2
def top (i : Nat) : Stmt := PySem.Challenge.pw_elderhouse_k16_whole_few_brackets.main.body.getD i (.Pass ⟨0, 0, 0, 0⟩)
abbrev s_BadWords_init : Stmt := inClass (top 3) 0
abbrev s_Term_init : Stmt := inClass (top 6) 0
abbrev s_Term_depth : Stmt := inClass (top 6) 4
abbrev s_plains : Stmt := top 7
abbrev s_NumberTerm_init : Stmt := inClass (top 8) 0
abbrev s_NumberTerm_plain : Stmt := inClass (top 8) 2
abbrev s_TruthTerm_init : Stmt := inClass (top 9) 0
abbrev s_TruthTerm_plain : Stmt := inClass (top 9) 2
abbrev s_NameTerm_init : Stmt := inClass (top 10) 0
abbrev s_NameTerm_plain : Stmt := inClass (top 10) 2
abbrev s_SelfTerm_init : Stmt := inClass (top 11) 0
abbrev s_SelfTerm_plain : Stmt := inClass (top 11) 2
abbrev s_NewTerm_init : Stmt := inClass (top 12) 0
abbrev s_NewTerm_plain : Stmt := inClass (top 12) 2
abbrev s_ElderTerm_init : Stmt := inClass (top 13) 0
abbrev s_ElderTerm_plain : Stmt := inClass (top 13) 2
abbrev s_FieldTerm_init : Stmt := inClass (top 14) 0
abbrev s_FieldTerm_plain : Stmt := inClass (top 14) 2
abbrev s_CallTerm_init : Stmt := inClass (top 15) 0
abbrev s_CallTerm_plain : Stmt := inClass (top 15) 2
abbrev s_NotTerm_init : Stmt := inClass (top 16) 0
abbrev s_NotTerm_plain : Stmt := inClass (top 16) 2
abbrev s_TwoTerm_init : Stmt := inClass (top 17) 0
abbrev s_TwoTerm_plain : Stmt := inClass (top 17) 2
abbrev s_IfTerm_init : Stmt := inClass (top 18) 0
abbrev s_IfTerm_plain : Stmt := inClass (top 18) 2
abbrev s_LetTerm_init : Stmt := inClass (top 19) 0
abbrev s_LetTerm_plain : Stmt := inClass (top 19) 2
abbrev s_SetTerm_init : Stmt := inClass (top 20) 0
abbrev s_SetTerm_plain : Stmt := inClass (top 20) 2
abbrev s_Program_init : Stmt := inClass (top 21) 0
abbrev s_Program_plain : Stmt := inClass (top 21) 2
abbrev s_is_told : Stmt := top 33
abbrev s_are_all : Stmt := top 34
abbrev s_is_number_row : Stmt := top 35
abbrev s_is_name_row : Stmt := top 36
abbrev s_is_name : Stmt := top 37
abbrev s_need_row : Stmt := top 38
abbrev s_words : Stmt := top 39
abbrev s_strength : Stmt := top 50
abbrev s_Source_init : Stmt := inClass (top 51) 0
abbrev s_Source_now : Stmt := inClass (top 51) 1
abbrev s_Source_take : Stmt := inClass (top 51) 2
abbrev s_Source_need : Stmt := inClass (top 51) 3
abbrev s_Source_need_name : Stmt := inClass (top 51) 4
abbrev s_Source_need_kind : Stmt := inClass (top 51) 5
abbrev s_Source_open_one : Stmt := inClass (top 51) 6
abbrev s_Source_close_one : Stmt := inClass (top 51) 7
abbrev s_Source_built : Stmt := inClass (top 51) 8
abbrev s_read_given : Stmt := top 52
abbrev s_read_atom : Stmt := top 53
abbrev s_read_chain : Stmt := top 54
abbrev s_read_set : Stmt := top 55
abbrev s_read_start : Stmt := top 56
abbrev s_read_term : Stmt := top 57
abbrev s_read_params : Stmt := top 58
abbrev s_read_house : Stmt := top 59
abbrev s_read : Stmt := top 60
abbrev s_z_cell_at : Stmt := top 62
abbrev s_z_mixed : Stmt := top 63
abbrev s_z_name : Stmt := top 64
abbrev s_z_atom : Stmt := top 65
abbrev s_z_taken : Stmt := top 66
abbrev s_z_about : Stmt := top 67
abbrev s_z_joined : Stmt := top 68
abbrev s_z_term : Stmt := top 69
abbrev s_z_params : Stmt := top 70
abbrev s_z_house : Stmt := top 71
abbrev s_z_program : Stmt := top 72
abbrev s_z_power : Stmt := top 73
abbrev s_z_bare : Stmt := top 74
abbrev s_z_row : Stmt := top 75
abbrev s_z_inner : Stmt := top 76
abbrev s_z_params_text : Stmt := top 77
abbrev s_z_shown : Stmt := top 78
abbrev s_z_measured : Stmt := top 79
abbrev s_z_is_great : Stmt := top 80
abbrev s_z_told : Stmt := top 81
abbrev s_law : Stmt := top 82
def d_BadWords_init : He.DefD := ⟨("BadWords", some "__init__"), "__init__", "BadWords.__init__", defArgs s_BadWords_init, defBody s_BadWords_init, defScope s_BadWords_init, [], []⟩
def d_Term_init : He.DefD := ⟨("Term", some "__init__"), "__init__", "Term.__init__", defArgs s_Term_init, defBody s_Term_init, defScope s_Term_init, [], []⟩
def d_Term_depth : He.DefD := ⟨("Term", some "depth"), "depth", "Term.depth", defArgs s_Term_depth, defBody s_Term_depth, defScope s_Term_depth, [], []⟩
def d_plains : He.DefD := ⟨("plains", none), "plains", "plains", defArgs s_plains, defBody s_plains, defScope s_plains, [], []⟩
def d_NumberTerm_init : He.DefD := ⟨("NumberTerm", some "__init__"), "__init__", "NumberTerm.__init__", defArgs s_NumberTerm_init, defBody s_NumberTerm_init, defScope s_NumberTerm_init, [], []⟩
def d_NumberTerm_plain : He.DefD := ⟨("NumberTerm", some "plain"), "plain", "NumberTerm.plain", defArgs s_NumberTerm_plain, defBody s_NumberTerm_plain, defScope s_NumberTerm_plain, [], []⟩
def d_TruthTerm_init : He.DefD := ⟨("TruthTerm", some "__init__"), "__init__", "TruthTerm.__init__", defArgs s_TruthTerm_init, defBody s_TruthTerm_init, defScope s_TruthTerm_init, [], []⟩
def d_TruthTerm_plain : He.DefD := ⟨("TruthTerm", some "plain"), "plain", "TruthTerm.plain", defArgs s_TruthTerm_plain, defBody s_TruthTerm_plain, defScope s_TruthTerm_plain, [], []⟩
def d_NameTerm_init : He.DefD := ⟨("NameTerm", some "__init__"), "__init__", "NameTerm.__init__", defArgs s_NameTerm_init, defBody s_NameTerm_init, defScope s_NameTerm_init, [], []⟩
def d_NameTerm_plain : He.DefD := ⟨("NameTerm", some "plain"), "plain", "NameTerm.plain", defArgs s_NameTerm_plain, defBody s_NameTerm_plain, defScope s_NameTerm_plain, [], []⟩
def d_SelfTerm_init : He.DefD := ⟨("SelfTerm", some "__init__"), "__init__", "SelfTerm.__init__", defArgs s_SelfTerm_init, defBody s_SelfTerm_init, defScope s_SelfTerm_init, [], []⟩
def d_SelfTerm_plain : He.DefD := ⟨("SelfTerm", some "plain"), "plain", "SelfTerm.plain", defArgs s_SelfTerm_plain, defBody s_SelfTerm_plain, defScope s_SelfTerm_plain, [], []⟩
def d_NewTerm_init : He.DefD := ⟨("NewTerm", some "__init__"), "__init__", "NewTerm.__init__", defArgs s_NewTerm_init, defBody s_NewTerm_init, defScope s_NewTerm_init, [], []⟩
def d_NewTerm_plain : He.DefD := ⟨("NewTerm", some "plain"), "plain", "NewTerm.plain", defArgs s_NewTerm_plain, defBody s_NewTerm_plain, defScope s_NewTerm_plain, [], []⟩
def d_ElderTerm_init : He.DefD := ⟨("ElderTerm", some "__init__"), "__init__", "ElderTerm.__init__", defArgs s_ElderTerm_init, defBody s_ElderTerm_init, defScope s_ElderTerm_init, [], []⟩
def d_ElderTerm_plain : He.DefD := ⟨("ElderTerm", some "plain"), "plain", "ElderTerm.plain", defArgs s_ElderTerm_plain, defBody s_ElderTerm_plain, defScope s_ElderTerm_plain, [], []⟩
def d_FieldTerm_init : He.DefD := ⟨("FieldTerm", some "__init__"), "__init__", "FieldTerm.__init__", defArgs s_FieldTerm_init, defBody s_FieldTerm_init, defScope s_FieldTerm_init, [], []⟩
def d_FieldTerm_plain : He.DefD := ⟨("FieldTerm", some "plain"), "plain", "FieldTerm.plain", defArgs s_FieldTerm_plain, defBody s_FieldTerm_plain, defScope s_FieldTerm_plain, [], []⟩
def d_CallTerm_init : He.DefD := ⟨("CallTerm", some "__init__"), "__init__", "CallTerm.__init__", defArgs s_CallTerm_init, defBody s_CallTerm_init, defScope s_CallTerm_init, [], []⟩
def d_CallTerm_plain : He.DefD := ⟨("CallTerm", some "plain"), "plain", "CallTerm.plain", defArgs s_CallTerm_plain, defBody s_CallTerm_plain, defScope s_CallTerm_plain, [], []⟩
def d_NotTerm_init : He.DefD := ⟨("NotTerm", some "__init__"), "__init__", "NotTerm.__init__", defArgs s_NotTerm_init, defBody s_NotTerm_init, defScope s_NotTerm_init, [], []⟩
def d_NotTerm_plain : He.DefD := ⟨("NotTerm", some "plain"), "plain", "NotTerm.plain", defArgs s_NotTerm_plain, defBody s_NotTerm_plain, defScope s_NotTerm_plain, [], []⟩
def d_TwoTerm_init : He.DefD := ⟨("TwoTerm", some "__init__"), "__init__", "TwoTerm.__init__", defArgs s_TwoTerm_init, defBody s_TwoTerm_init, defScope s_TwoTerm_init, [], []⟩
def d_TwoTerm_plain : He.DefD := ⟨("TwoTerm", some "plain"), "plain", "TwoTerm.plain", defArgs s_TwoTerm_plain, defBody s_TwoTerm_plain, defScope s_TwoTerm_plain, [], []⟩
def d_IfTerm_init : He.DefD := ⟨("IfTerm", some "__init__"), "__init__", "IfTerm.__init__", defArgs s_IfTerm_init, defBody s_IfTerm_init, defScope s_IfTerm_init, [], []⟩
def d_IfTerm_plain : He.DefD := ⟨("IfTerm", some "plain"), "plain", "IfTerm.plain", defArgs s_IfTerm_plain, defBody s_IfTerm_plain, defScope s_IfTerm_plain, [], []⟩
def d_LetTerm_init : He.DefD := ⟨("LetTerm", some "__init__"), "__init__", "LetTerm.__init__", defArgs s_LetTerm_init, defBody s_LetTerm_init, defScope s_LetTerm_init, [], []⟩
def d_LetTerm_plain : He.DefD := ⟨("LetTerm", some "plain"), "plain", "LetTerm.plain", defArgs s_LetTerm_plain, defBody s_LetTerm_plain, defScope s_LetTerm_plain, [], []⟩
def d_SetTerm_init : He.DefD := ⟨("SetTerm", some "__init__"), "__init__", "SetTerm.__init__", defArgs s_SetTerm_init, defBody s_SetTerm_init, defScope s_SetTerm_init, [], []⟩
def d_SetTerm_plain : He.DefD := ⟨("SetTerm", some "plain"), "plain", "SetTerm.plain", defArgs s_SetTerm_plain, defBody s_SetTerm_plain, defScope s_SetTerm_plain, [], []⟩
def d_Program_init : He.DefD := ⟨("Program", some "__init__"), "__init__", "Program.__init__", defArgs s_Program_init, defBody s_Program_init, defScope s_Program_init, [], []⟩
def d_Program_plain : He.DefD := ⟨("Program", some "plain"), "plain", "Program.plain", defArgs s_Program_plain, defBody s_Program_plain, defScope s_Program_plain, [], []⟩
def d_is_told : He.DefD := ⟨("is_told", none), "is_told", "is_told", defArgs s_is_told, defBody s_is_told, defScope s_is_told, [], []⟩
def d_are_all : He.DefD := ⟨("are_all", none), "are_all", "are_all", defArgs s_are_all, defBody s_are_all, defScope s_are_all, [], []⟩
def d_is_number_row : He.DefD := ⟨("is_number_row", none), "is_number_row", "is_number_row", defArgs s_is_number_row, defBody s_is_number_row, defScope s_is_number_row, [], []⟩
def d_is_name_row : He.DefD := ⟨("is_name_row", none), "is_name_row", "is_name_row", defArgs s_is_name_row, defBody s_is_name_row, defScope s_is_name_row, [], []⟩
def d_is_name : He.DefD := ⟨("is_name", none), "is_name", "is_name", defArgs s_is_name, defBody s_is_name, defScope s_is_name, [], []⟩
def d_need_row : He.DefD := ⟨("need_row", none), "need_row", "need_row", defArgs s_need_row, defBody s_need_row, defScope s_need_row, [], []⟩
def d_words : He.DefD := ⟨("words", none), "words", "words", defArgs s_words, defBody s_words, defScope s_words, [], []⟩
def d_strength : He.DefD := ⟨("strength", none), "strength", "strength", defArgs s_strength, defBody s_strength, defScope s_strength, [], []⟩
def d_Source_init : He.DefD := ⟨("Source", some "__init__"), "__init__", "Source.__init__", defArgs s_Source_init, defBody s_Source_init, defScope s_Source_init, [], []⟩
def d_Source_now : He.DefD := ⟨("Source", some "now"), "now", "Source.now", defArgs s_Source_now, defBody s_Source_now, defScope s_Source_now, [], []⟩
def d_Source_take : He.DefD := ⟨("Source", some "take"), "take", "Source.take", defArgs s_Source_take, defBody s_Source_take, defScope s_Source_take, [], []⟩
def d_Source_need : He.DefD := ⟨("Source", some "need"), "need", "Source.need", defArgs s_Source_need, defBody s_Source_need, defScope s_Source_need, [], []⟩
def d_Source_need_name : He.DefD := ⟨("Source", some "need_name"), "need_name", "Source.need_name", defArgs s_Source_need_name, defBody s_Source_need_name, defScope s_Source_need_name, [], []⟩
def d_Source_need_kind : He.DefD := ⟨("Source", some "need_kind"), "need_kind", "Source.need_kind", defArgs s_Source_need_kind, defBody s_Source_need_kind, defScope s_Source_need_kind, [], []⟩
def d_Source_open_one : He.DefD := ⟨("Source", some "open_one"), "open_one", "Source.open_one", defArgs s_Source_open_one, defBody s_Source_open_one, defScope s_Source_open_one, [], []⟩
def d_Source_close_one : He.DefD := ⟨("Source", some "close_one"), "close_one", "Source.close_one", defArgs s_Source_close_one, defBody s_Source_close_one, defScope s_Source_close_one, [], []⟩
def d_Source_built : He.DefD := ⟨("Source", some "built"), "built", "Source.built", defArgs s_Source_built, defBody s_Source_built, defScope s_Source_built, [], []⟩
def d_read_given : He.DefD := ⟨("read_given", none), "read_given", "read_given", defArgs s_read_given, defBody s_read_given, defScope s_read_given, [], []⟩
def d_read_atom : He.DefD := ⟨("read_atom", none), "read_atom", "read_atom", defArgs s_read_atom, defBody s_read_atom, defScope s_read_atom, [], []⟩
def d_read_chain : He.DefD := ⟨("read_chain", none), "read_chain", "read_chain", defArgs s_read_chain, defBody s_read_chain, defScope s_read_chain, [], []⟩
def d_read_set : He.DefD := ⟨("read_set", none), "read_set", "read_set", defArgs s_read_set, defBody s_read_set, defScope s_read_set, [], []⟩
def d_read_start : He.DefD := ⟨("read_start", none), "read_start", "read_start", defArgs s_read_start, defBody s_read_start, defScope s_read_start, [], []⟩
def d_read_term : He.DefD := ⟨("read_term", none), "read_term", "read_term", defArgs s_read_term, defBody s_read_term, defScope s_read_term, [.int 1], []⟩
def d_read_params : He.DefD := ⟨("read_params", none), "read_params", "read_params", defArgs s_read_params, defBody s_read_params, defScope s_read_params, [], []⟩
def d_read_house : He.DefD := ⟨("read_house", none), "read_house", "read_house", defArgs s_read_house, defBody s_read_house, defScope s_read_house, [], []⟩
def d_read : He.DefD := ⟨("read", none), "read", "read", defArgs s_read, defBody s_read, defScope s_read, [], []⟩
def d_z_cell_at : He.DefD := ⟨("_law_cell_at", none), "_law_cell_at", "_law_cell_at", defArgs s_z_cell_at, defBody s_z_cell_at, defScope s_z_cell_at, [], []⟩
def d_z_mixed : He.DefD := ⟨("_law_mixed", none), "_law_mixed", "_law_mixed", defArgs s_z_mixed, defBody s_z_mixed, defScope s_z_mixed, [], []⟩
def d_z_name : He.DefD := ⟨("_law_name", none), "_law_name", "_law_name", defArgs s_z_name, defBody s_z_name, defScope s_z_name, [], []⟩
def d_z_atom : He.DefD := ⟨("_law_atom", none), "_law_atom", "_law_atom", defArgs s_z_atom, defBody s_z_atom, defScope s_z_atom, [], []⟩
def d_z_taken : He.DefD := ⟨("_law_taken", none), "_law_taken", "_law_taken", defArgs s_z_taken, defBody s_z_taken, defScope s_z_taken, [], []⟩
def d_z_about : He.DefD := ⟨("_law_about", none), "_law_about", "_law_about", defArgs s_z_about, defBody s_z_about, defScope s_z_about, [], []⟩
def d_z_joined : He.DefD := ⟨("_law_joined", none), "_law_joined", "_law_joined", defArgs s_z_joined, defBody s_z_joined, defScope s_z_joined, [], []⟩
def d_z_term : He.DefD := ⟨("_law_term", none), "_law_term", "_law_term", defArgs s_z_term, defBody s_z_term, defScope s_z_term, [], []⟩
def d_z_params : He.DefD := ⟨("_law_params", none), "_law_params", "_law_params", defArgs s_z_params, defBody s_z_params, defScope s_z_params, [], []⟩
def d_z_house : He.DefD := ⟨("_law_house", none), "_law_house", "_law_house", defArgs s_z_house, defBody s_z_house, defScope s_z_house, [], []⟩
def d_z_program : He.DefD := ⟨("_law_program", none), "_law_program", "_law_program", defArgs s_z_program, defBody s_z_program, defScope s_z_program, [], []⟩
def d_z_power : He.DefD := ⟨("_law_power", none), "_law_power", "_law_power", defArgs s_z_power, defBody s_z_power, defScope s_z_power, [], []⟩
def d_z_bare : He.DefD := ⟨("_law_bare", none), "_law_bare", "_law_bare", defArgs s_z_bare, defBody s_z_bare, defScope s_z_bare, [], []⟩
def d_z_row : He.DefD := ⟨("_law_row", none), "_law_row", "_law_row", defArgs s_z_row, defBody s_z_row, defScope s_z_row, [], []⟩
def d_z_inner : He.DefD := ⟨("_law_inner", none), "_law_inner", "_law_inner", defArgs s_z_inner, defBody s_z_inner, defScope s_z_inner, [], []⟩
def d_z_params_text : He.DefD := ⟨("_law_params_text", none), "_law_params_text", "_law_params_text", defArgs s_z_params_text, defBody s_z_params_text, defScope s_z_params_text, [], []⟩
def d_z_shown : He.DefD := ⟨("_law_shown", none), "_law_shown", "_law_shown", defArgs s_z_shown, defBody s_z_shown, defScope s_z_shown, [], []⟩
def d_z_measured : He.DefD := ⟨("_law_measured", none), "_law_measured", "_law_measured", defArgs s_z_measured, defBody s_z_measured, defScope s_z_measured, [], []⟩
def d_z_is_great : He.DefD := ⟨("_law_is_great", none), "_law_is_great", "_law_is_great", defArgs s_z_is_great, defBody s_z_is_great, defScope s_z_is_great, [], []⟩
def d_z_told : He.DefD := ⟨("_law_told", none), "_law_told", "_law_told", defArgs s_z_told, defBody s_z_told, defScope s_z_told, [], []⟩
def d_law : He.DefD := ⟨("law", none), "law", "law", defArgs s_law, defBody s_law, defScope s_law, [], []⟩
def fns0 : List He.DefD := [d_BadWords_init, d_Term_init, d_Term_depth, d_plains, d_NumberTerm_init, d_NumberTerm_plain, d_TruthTerm_init, d_TruthTerm_plain, d_NameTerm_init, d_NameTerm_plain, d_SelfTerm_init, d_SelfTerm_plain, d_NewTerm_init, d_NewTerm_plain, d_ElderTerm_init, d_ElderTerm_plain, d_FieldTerm_init, d_FieldTerm_plain, d_CallTerm_init, d_CallTerm_plain, d_NotTerm_init, d_NotTerm_plain, d_TwoTerm_init, d_TwoTerm_plain, d_IfTerm_init]
def fns1 : List He.DefD := [d_IfTerm_plain, d_LetTerm_init, d_LetTerm_plain, d_SetTerm_init, d_SetTerm_plain, d_Program_init, d_Program_plain, d_is_told, d_are_all, d_is_number_row, d_is_name_row, d_is_name, d_need_row, d_words, d_strength, d_Source_init, d_Source_now, d_Source_take, d_Source_need, d_Source_need_name, d_Source_need_kind, d_Source_open_one, d_Source_close_one, d_Source_built, d_read_given]
def fns2 : List He.DefD := [d_read_atom, d_read_chain, d_read_set, d_read_start, d_read_term, d_read_params, d_read_house, d_read, d_z_cell_at, d_z_mixed, d_z_name, d_z_atom, d_z_taken, d_z_about, d_z_joined, d_z_term, d_z_params, d_z_house, d_z_program, d_z_power, d_z_bare, d_z_row, d_z_inner, d_z_params_text, d_z_shown]
def fns3 : List He.DefD := [d_z_measured, d_z_is_great, d_z_told, d_law]
def fns : List He.DefD := fns0 ++ fns1 ++ fns2 ++ fns3
def fas0 : List He.Fa := [.glo "HouseError", .glo "BadWords", .glo "BadForm", .glo "Term", .glo "plains", .glo "NumberTerm", .glo "TruthTerm", .glo "NameTerm", .glo "SelfTerm", .glo "NewTerm", .glo "ElderTerm", .glo "FieldTerm", .glo "CallTerm", .glo "NotTerm", .glo "TwoTerm", .glo "IfTerm", .glo "LetTerm", .glo "SetTerm", .glo "Program", .str "LETTERS" "abcdefghijklmnopqrstuvwxyz", .str "GREAT_LETTERS" "ABCDEFGHIJKLMNOPQRSTUVWXYZ", .str "FIGURES" "0123456789", .str "SIGNS" "(){},.;=+-*/<", .str "GAPS" " \t\n", .glo "HEAD_WORDS"]
def fas1 : List He.Fa := [.glo "TERM_WORDS", .int "MOST_SIGNS" 6000, .int "MOST_NAME" 8, .int "MOST_FIGURES" 9, .glo "is_told", .glo "are_all", .glo "is_number_row", .glo "is_name_row", .glo "is_name", .glo "need_row", .glo "words", .int "MOST_HOUSES" 12, .int "MOST_FIELDS" 4, .int "MOST_WORDS" 8, .int "MOST_PARAMS" 4, .int "MOST_GIVEN" 8, .int "MOST_DEEP" 14, .int "MOST_BRACKETS" 14, .int "MOST_TERMS" 400, .int "MOST_NEST" 32, .glo "strength", .glo "Source", .glo "read_given", .glo "read_atom", .glo "read_chain"]
def fas2 : List He.Fa := [.glo "read_set", .glo "read_start", .glo "read_term", .glo "read_params", .glo "read_house", .glo "read", .glo "_law_cell_at", .glo "_law_mixed", .glo "_law_name", .glo "_law_atom", .glo "_law_taken", .glo "_law_about", .glo "_law_joined", .glo "_law_term", .glo "_law_params", .glo "_law_house", .glo "_law_program", .glo "_law_power", .glo "_law_bare", .glo "_law_row", .glo "_law_inner", .glo "_law_params_text", .glo "_law_shown", .glo "_law_measured", .glo "_law_is_great"]
def fas3 : List He.Fa := [.glo "_law_told", .glo "law", .free "enumerate", .free "int", .free "isinstance", .free "len", .free "list", .free "max", .free "min", .free "range", .free "repr", .free "str", .free "sum", .free "tuple", .cls "NumberTerm", .noat "NumberTerm" "inner", .noat "NumberTerm" "height", .noat "NumberTerm" "many", .noat "NumberTerm" "number", .meth "NumberTerm" "plain", .meth "NumberTerm" "depth", .mkr "NumberTerm", .cls "TruthTerm", .noat "TruthTerm" "inner", .noat "TruthTerm" "height"]
def fas4 : List He.Fa := [.noat "TruthTerm" "many", .noat "TruthTerm" "is_yes", .meth "TruthTerm" "plain", .meth "TruthTerm" "depth", .mkr "TruthTerm", .cls "NameTerm", .noat "NameTerm" "inner", .noat "NameTerm" "height", .noat "NameTerm" "many", .noat "NameTerm" "called", .meth "NameTerm" "plain", .meth "NameTerm" "depth", .mkr "NameTerm", .cls "SelfTerm", .noat "SelfTerm" "inner", .noat "SelfTerm" "height", .noat "SelfTerm" "many", .meth "SelfTerm" "plain", .meth "SelfTerm" "depth", .mkr "SelfTerm", .cls "NewTerm", .noat "NewTerm" "inner", .noat "NewTerm" "height", .noat "NewTerm" "many", .noat "NewTerm" "called"]
def fas5 : List He.Fa := [.meth "NewTerm" "plain", .meth "NewTerm" "depth", .mkr "NewTerm", .cls "ElderTerm", .noat "ElderTerm" "inner", .noat "ElderTerm" "height", .noat "ElderTerm" "many", .noat "ElderTerm" "called", .meth "ElderTerm" "plain", .meth "ElderTerm" "depth", .mkr "ElderTerm", .cls "FieldTerm", .noat "FieldTerm" "inner", .noat "FieldTerm" "height", .noat "FieldTerm" "many", .noat "FieldTerm" "thing", .noat "FieldTerm" "called", .meth "FieldTerm" "plain", .meth "FieldTerm" "depth", .mkr "FieldTerm", .cls "CallTerm", .noat "CallTerm" "inner", .noat "CallTerm" "height", .noat "CallTerm" "many", .noat "CallTerm" "thing"]
def fas6 : List He.Fa := [.noat "CallTerm" "called", .noat "CallTerm" "given", .meth "CallTerm" "plain", .meth "CallTerm" "depth", .mkr "CallTerm", .cls "NotTerm", .noat "NotTerm" "inner", .noat "NotTerm" "height", .noat "NotTerm" "many", .noat "NotTerm" "one", .meth "NotTerm" "plain", .meth "NotTerm" "depth", .mkr "NotTerm", .cls "TwoTerm", .noat "TwoTerm" "inner", .noat "TwoTerm" "height", .noat "TwoTerm" "many", .noat "TwoTerm" "sign", .noat "TwoTerm" "one", .noat "TwoTerm" "other", .meth "TwoTerm" "plain", .meth "TwoTerm" "depth", .mkr "TwoTerm", .cls "IfTerm", .noat "IfTerm" "inner"]
def fas7 : List He.Fa := [.noat "IfTerm" "height", .noat "IfTerm" "many", .noat "IfTerm" "one", .noat "IfTerm" "other", .noat "IfTerm" "third", .meth "IfTerm" "plain", .meth "IfTerm" "depth", .mkr "IfTerm", .cls "LetTerm", .noat "LetTerm" "inner", .noat "LetTerm" "height", .noat "LetTerm" "many", .noat "LetTerm" "called", .noat "LetTerm" "one", .noat "LetTerm" "other", .meth "LetTerm" "plain", .meth "LetTerm" "depth", .mkr "LetTerm", .cls "SetTerm", .noat "SetTerm" "inner", .noat "SetTerm" "height", .noat "SetTerm" "many", .noat "SetTerm" "thing", .noat "SetTerm" "called", .noat "SetTerm" "other"]
def fas8 : List He.Fa := [.meth "SetTerm" "plain", .meth "SetTerm" "depth", .mkr "SetTerm", .cls "Source", .noat "Source" "row", .noat "Source" "spot", .noat "Source" "open_now", .noat "Source" "made", .meth "Source" "now", .meth "Source" "take", .meth "Source" "need", .meth "Source" "need_name", .meth "Source" "need_kind", .meth "Source" "open_one", .meth "Source" "close_one", .meth "Source" "built", .mkr "Source", .cls "Program", .noat "Program" "houses_told", .noat "Program" "main_told", .meth "Program" "plain", .mkr "Program"]
def fas : List He.Fa := fas0 ++ fas1 ++ fas2 ++ fas3 ++ fas4 ++ fas5 ++ fas6 ++ fas7 ++ fas8
def names0 : List PySem.Str := ["_wall", "HouseError", "BadWords", "BadForm", "Term", "plains", "NumberTerm", "TruthTerm", "NameTerm", "SelfTerm", "NewTerm", "ElderTerm", "FieldTerm", "CallTerm", "NotTerm", "TwoTerm", "IfTerm", "LetTerm", "SetTerm", "Program", "LETTERS", "GREAT_LETTERS", "FIGURES", "SIGNS", "GAPS", "HEAD_WORDS", "TERM_WORDS", "MOST_SIGNS", "MOST_NAME", "MOST_FIGURES"]
def names1 : List PySem.Str := ["is_told", "are_all", "is_number_row", "is_name_row", "is_name", "need_row", "words", "MOST_HOUSES", "MOST_FIELDS", "MOST_WORDS", "MOST_PARAMS", "MOST_GIVEN", "MOST_DEEP", "MOST_BRACKETS", "MOST_TERMS", "MOST_NEST", "strength", "Source", "read_given", "read_atom", "read_chain", "read_set", "read_start", "read_term", "read_params", "read_house", "read", "_law_cell_at", "_law_mixed", "_law_name"]
def names2 : List PySem.Str := ["_law_atom", "_law_taken", "_law_about", "_law_joined", "_law_term", "_law_params", "_law_house", "_law_program", "_law_power", "_law_bare", "_law_row", "_law_inner", "_law_params_text", "_law_shown", "_law_measured", "_law_is_great", "_law_told"]
def names : List PySem.Str := names0 ++ names1 ++ names2
def hwD : List He.Dv := [.str "house", .str "of", .str "has", .str "can", .str "main", .str "number", .str "truth"]
def twD : List He.Dv := [.str "let", .str "in", .str "if", .str "then", .str "else", .str "new", .str "self", .str "elder", .str "set", .str "not", .str "yes", .str "no"]
def tcls : List PySem.Str := ["NumberTerm", "TruthTerm", "NameTerm", "SelfTerm", "NewTerm", "ElderTerm", "FieldTerm", "CallTerm", "NotTerm", "TwoTerm", "IfTerm", "LetTerm", "SetTerm"]
/-- what else is asked of the written part: the two tables, one depth for all terms -/
def exA (K : PySem.W.Frag) : Bool := He.tupB K "HEAD_WORDS" hwD && (He.tupB K "TERM_WORDS" twD && tcls.all fun c => decide (He.ma K (He.ga K c) "depth" = He.ma K (He.ga K "Term") "depth"))
/-- C.__init__, read off the class itself, is v -/
def ciB (K : PySem.W.Frag) (C : Addr) (v : Value) : Bool := PySem.W.readsIn K C (.type "type") && (He.eqO (PySem.W.specialIn K (.ref C) "__getattribute__") (some (some (.builtin "type.__getattribute__"))) && match PySem.W.findCls K (.ref C) (.type "type") "__init__" with
  | some (.val u) => decide (u = v)
  | _ => false)
/-- an error's class -/
def ecB (K : PySem.W.Frag) (C : Addr) : Bool := match K.lookup C with
  | some ⟨.type t, _, .cls cd, sl⟩ => decide (t = "type") && ((match cd.mro with
    | .ref C' :: bm => decide (C' = C) && PySem.HandSPX.refsVE bm
    | _ => false) && (cd.hasDict && (!cd.hasDel && match sl.toList with
    | [_, _, _, _, some (.builtin n), _] => decide (n = "ValueError.__new__")
    | _ => false)))
  | _ => false
def exB (K : PySem.W.Frag) : Bool :=
  let B := He.ga K "BadWords"
  ciB K (He.ga K "Term") (.ref (He.ma K (He.ga K "Term") "__init__")) && (PySem.W.keepIn K (.ref (He.ma K (He.ga K "Term") "__init__")) && (ciB K (He.ga K "HouseError") (.builtin "ValueError.__init__") &&
  (ecB K B && (He.eqO (PySem.W.findIn K (.ref B) "__setattr__") (some (some (.builtin "object.__setattr__"))) && (decide (PySem.W.subIn K (.ref B) (.type "BaseException") = some true) && (decide (PySem.W.typeIn K (.ref B) = some (.type "type")) && (PySem.W.keepIn K (.ref B) &&
  (He.eqO (PySem.W.findIn K (.ref B) "__init__") (some (some (.ref (He.ma K B "__init__")))) && (decide (PySem.W.typeIn K (.ref (He.ma K B "__init__")) = some (.type "function")) && (He.eqO (PySem.W.findIn K (.ref B) "at") (some none) && (L2.xfB K B &&
  (decide (PySem.W.exmOne K (.ref B) (.ref (He.ga K "BadForm")) = some false) && decide (PySem.W.exmOne K (.ref B) (.ref B) = some true)))))))))))))
def exK (K : PySem.W.Frag) : Bool := exA K && exB K
abbrev R : PySem.W.OpenRow := PySem.W.OpenLaw.row PySem.Challenge.rw_elderhouse_k16_whole_few_brackets
/-- where the written part stands behind the top (found by a run) -/
def addrs0 : List Addr := [3, 6, 4, 21, 31, 51, 63, 115, 124, 155, 188, 221, 254, 287, 320, 353, 386, 419, 452, 485, 518, 551, 582, 587, 588, 595, 602, 609, 616, 623, 630, 637, 644, 717, 728, 735, 742, 749, 756, 764, 771, 778, 783, 790, 797, 802, 809, 814, 821, 828]
def addrs1 : List Addr := [833, 838, 843, 848, 855, 862, 867, 874, 879, 884, 889, 894, 901, 908, 0, 20, 30, 50, 62, 114, 123, 154, 187, 220, 253, 286, 319, 352, 385, 418, 451, 484, 517, 550, 581, 594, 601, 608, 615, 622, 629, 636, 643, 716, 727, 734, 741, 748, 755, 763]
def addrs2 : List Addr := [757, 770, 777, 782, 789, 796, 801, 808, 813, 820, 827, 832, 837, 842, 847, 854, 861, 866, 873, 878, 883, 888, 893, 900, 907, 15, 16, 17, 18, 19, 29, 32, 48, 49, 61, 77, 84, 91, 98, 105, 112, 113, 116, 117, 120, 121, 122, 138, 145, 152]
def addrs3 : List Addr := [153, 171, 178, 185, 186, 204, 211, 218, 219, 237, 244, 251, 252, 270, 277, 284, 285, 303, 310, 317, 318, 336, 343, 350, 351, 369, 376, 383, 384, 402, 409, 416, 417, 435, 442, 449, 450, 468, 475, 482, 483, 501, 508, 515, 516, 534, 541, 548, 549, 567]
def addrs4 : List Addr := [574, 579, 580, 583, 584, 589, 590, 591, 592, 593, 596, 597, 598, 599, 600, 603, 604, 605, 606, 607, 610, 611, 612, 613, 614, 617, 618, 619, 620, 621, 624, 625, 626, 627, 628, 631, 632, 633, 634, 635, 638, 639, 640, 641, 642, 658, 665, 672, 679, 686]
def addrs5 : List Addr := [693, 700, 707, 714, 715, 718, 719, 722, 723, 724, 725, 726, 729, 730, 731, 732, 733, 736, 737, 738, 739, 740, 743, 744, 745, 746, 747, 750, 751, 752, 753, 754, 758, 759, 760, 761, 762, 765, 766, 767, 768, 769, 772, 773, 774, 775, 776, 779, 780, 781]
def addrs6 : List Addr := [784, 785, 786, 787, 788, 791, 792, 793, 794, 795, 798, 799, 800, 803, 804, 805, 806, 807, 810, 811, 812, 815, 816, 817, 818, 819, 822, 823, 824, 825, 826, 829, 830, 831, 834, 835, 836, 839, 840, 841, 844, 845, 846, 849, 850, 851, 852, 853, 856, 857]
def addrs7 : List Addr := [858, 859, 860, 863, 864, 865, 868, 869, 870, 871, 872, 875, 876, 877, 880, 881, 882, 885, 886, 887, 890, 891, 892, 895, 896, 897, 898, 899, 902, 903, 904, 905, 906, 47, 76, 83, 90, 97, 104, 111, 137, 144, 151, 170, 177, 184, 203, 210, 217, 236]
def addrs8 : List Addr := [243, 250, 269, 276, 283, 302, 309, 316, 335, 342, 349, 368, 375, 382, 401, 408, 415, 434, 441, 448, 467, 474, 481, 500, 507, 514, 533, 540, 547, 566, 573, 578, 657, 664, 671, 678, 685, 692, 699, 706, 713, 42, 43, 44, 45, 46, 73, 74, 75, 78]
def addrs9 : List Addr := [79, 80, 81, 82, 85, 86, 87, 88, 89, 92, 93, 94, 95, 96, 99, 100, 101, 102, 103, 106, 107, 108, 109, 110, 132, 133, 134, 135, 136, 139, 140, 141, 142, 143, 146, 147, 148, 149, 150, 165, 166, 167, 168, 169, 172, 173, 174, 175, 176, 179]
def addrs10 : List Addr := [180, 181, 182, 183, 198, 199, 200, 201, 202, 205, 206, 207, 208, 209, 212, 213, 214, 215, 216, 231, 232, 233, 234, 235, 238, 239, 240, 241, 242, 245, 246, 247, 248, 249, 264, 265, 266, 267, 268, 271, 272, 273, 274, 275, 278, 279, 280, 281, 282, 297]
def addrs11 : List Addr := [298, 299, 300, 301, 304, 305, 306, 307, 308, 311, 312, 313, 314, 315, 330, 331, 332, 333, 334, 337, 338, 339, 340, 341, 344, 345, 346, 347, 348, 363, 364, 365, 366, 367, 370, 371, 372, 373, 374, 377, 378, 379, 380, 381, 396, 397, 398, 399, 400, 403]
def addrs12 : List Addr := [404, 405, 406, 407, 410, 411, 412, 413, 414, 429, 430, 431, 432, 433, 436, 437, 438, 439, 440, 443, 444, 445, 446, 447, 462, 463, 464, 465, 466, 469, 470, 471, 472, 473, 476, 477, 478, 479, 480, 495, 496, 497, 498, 499, 502, 503, 504, 505, 506, 509]
def addrs13 : List Addr := [510, 511, 512, 513, 528, 529, 530, 531, 532, 535, 536, 537, 538, 539, 542, 543, 544, 545, 546, 561, 562, 563, 564, 565, 568, 569, 570, 571, 572, 575, 576, 577, 652, 653, 654, 655, 656, 659, 660, 661, 662, 663, 666, 667, 668, 669, 670, 673, 674, 675]
def addrs14 : List Addr := [676, 677, 680, 681, 682, 683, 684, 687, 688, 689, 690, 691, 694, 695, 696, 697, 698, 701, 702, 703, 704, 705, 708, 709, 710, 711, 712]
def addrs : List Addr := cStatics :: addrs0 ++ (addrs1 ++ (addrs2 ++ (addrs3 ++ (addrs4 ++ (addrs5 ++ (addrs6 ++ (addrs7 ++ (addrs8 ++ (addrs9 ++ (addrs10 ++ (addrs11 ++ (addrs12 ++ (addrs13 ++ (addrs14))))))))))))))
abbrev AlE : Type := He.AlD × Bool
def obE (g : Addr → Option Obj) : AlE := (He.obsD fas fns (He.frG g addrs), exK (He.frG g addrs))
def hkE : PySem.W.Hook where
  α := AlE
  obs := fun s => obE s.heap.get?
  val := fun _ => (He.valD fns, true)
  says := fun _ h => ∃ K : PySem.W.Frag, K.In h ∧ He.SaysD fas fns K ∧ exK K = true
  of := fun _ s e => ⟨He.frG s.heap.get? addrs, He.frG_in, congrArg (fun z : AlE => z.1) e, congrArg (fun z : AlE => z.2) e⟩
  keeps := fun _ _ _ ⟨K, hK, c⟩ k => ⟨K, PySem.W.Frag.In.keeps hK k, c⟩
def ob (s : PySem.W.SharedT) : AlE := obE (HandSHeadRun.getT s)
theorem ob_eq (s : PySem.W.SharedT) : ob s = hkE.obs s.abs := congrArg obE (funext (HandSHeadRun.getT_eq s))
end EH

set_option Elab.async false
set_option maxRecDepth 100000
set_option maxHeartbeats 0
namespace EH
open PySem PySem.Spec PyProof.Rows L2
theorem run (w : World) : HandSHeadRun.RunEq R (PySem.W.view R.prog [82]) hkE ob 20000 names w := by
  intro os
  kernel_rfl
end EH

set_option Elab.async false
set_option maxRecDepth 100000
set_option maxHeartbeats 4000000
/-! What the head tells, by name. -/
namespace EH
open PySem PySem.Spec PyProof.Rows L2
/-- the written part and the module's names, as the head leaves them -/
structure Tx (K : PySem.W.Frag) (mg : Str → Option Value) : Prop where
  says : He.SaysD fas fns K
  more : exK K = true
  inn : ∃ h : Heap, K.In h ∧ h.Ns mainGlobals mg
section
variable {K : PySem.W.Frag} {mg : Str → Option Value} (T : Tx K mg)
include T
theorem Tx.glo {x : Str} (h : (He.Fa.glo x).ok K = true) : mg x = some (.ref (He.ga K x)) := let ⟨_, X, G⟩ := T.inn; He.glo_ok X G h
theorem Tx.free {x : Str} (h : (He.Fa.free x).ok K = true) : mg x = none := let ⟨_, X, G⟩ := T.inn; He.free_ok X G h
theorem Tx.int {x : Str} {i : Int} (h : (He.Fa.int x i).ok K = true) : ∃ t, mg x = some (.int i t) := let ⟨_, X, G⟩ := T.inn; He.int_ok X G h
theorem Tx.str {x z : Str} (h : (He.Fa.str x z).ok K = true) : ∃ t, mg x = some (.str z t) := let ⟨_, X, G⟩ := T.inn; He.str_ok X G h
theorem Tx.g_HouseError : mg "HouseError" = some (.ref (He.ga K "HouseError")) := T.glo (T.says.fact 0 (f := .glo "HouseError") rfl)
theorem Tx.g_BadWords : mg "BadWords" = some (.ref (He.ga K "BadWords")) := T.glo (T.says.fact 1 (f := .glo "BadWords") rfl)
theorem Tx.g_BadForm : mg "BadForm" = some (.ref (He.ga K "BadForm")) := T.glo (T.says.fact 2 (f := .glo "BadForm") rfl)
theorem Tx.g_Term : mg "Term" = some (.ref (He.ga K "Term")) := T.glo (T.says.fact 3 (f := .glo "Term") rfl)
theorem Tx.g_plains : mg "plains" = some (.ref (He.ga K "plains")) := T.glo (T.says.fact 4 (f := .glo "plains") rfl)
theorem Tx.g_NumberTerm : mg "NumberTerm" = some (.ref (He.ga K "NumberTerm")) := T.glo (T.says.fact 5 (f := .glo "NumberTerm") rfl)
theorem Tx.g_TruthTerm : mg "TruthTerm" = some (.ref (He.ga K "TruthTerm")) := T.glo (T.says.fact 6 (f := .glo "TruthTerm") rfl)
theorem Tx.g_NameTerm : mg "NameTerm" = some (.ref (He.ga K "NameTerm")) := T.glo (T.says.fact 7 (f := .glo "NameTerm") rfl)
theorem Tx.g_SelfTerm : mg "SelfTerm" = some (.ref (He.ga K "SelfTerm")) := T.glo (T.says.fact 8 (f := .glo "SelfTerm") rfl)
theorem Tx.g_NewTerm : mg "NewTerm" = some (.ref (He.ga K "NewTerm")) := T.glo (T.says.fact 9 (f := .glo "NewTerm") rfl)
theorem Tx.g_ElderTerm : mg "ElderTerm" = some (.ref (He.ga K "ElderTerm")) := T.glo (T.says.fact 10 (f := .glo "ElderTerm") rfl)
theorem Tx.g_FieldTerm : mg "FieldTerm" = some (.ref (He.ga K "FieldTerm")) := T.glo (T.says.fact 11 (f := .glo "FieldTerm") rfl)
theorem Tx.g_CallTerm : mg "CallTerm" = some (.ref (He.ga K "CallTerm")) := T.glo (T.says.fact 12 (f := .glo "CallTerm") rfl)
theorem Tx.g_NotTerm : mg "NotTerm" = some (.ref (He.ga K "NotTerm")) := T.glo (T.says.fact 13 (f := .glo "NotTerm") rfl)
theorem Tx.g_TwoTerm : mg "TwoTerm" = some (.ref (He.ga K "TwoTerm")) := T.glo (T.says.fact 14 (f := .glo "TwoTerm") rfl)
theorem Tx.g_IfTerm : mg "IfTerm" = some (.ref (He.ga K "IfTerm")) := T.glo (T.says.fact 15 (f := .glo "IfTerm") rfl)
theorem Tx.g_LetTerm : mg "LetTerm" = some (.ref (He.ga K "LetTerm")) := T.glo (T.says.fact 16 (f := .glo "LetTerm") rfl)
theorem Tx.g_SetTerm : mg "SetTerm" = some (.ref (He.ga K "SetTerm")) := T.glo (T.says.fact 17 (f := .glo "SetTerm") rfl)
theorem Tx.g_Program : mg "Program" = some (.ref (He.ga K "Program")) := T.glo (T.says.fact 18 (f := .glo "Program") rfl)
theorem Tx.c_LETTERS : ∃ t, mg "LETTERS" = some (.str "abcdefghijklmnopqrstuvwxyz" t) := T.str (T.says.fact 19 (f := .str "LETTERS" "abcdefghijklmnopqrstuvwxyz") rfl)
theorem Tx.c_GREAT_LETTERS : ∃ t, mg "GREAT_LETTERS" = some (.str "ABCDEFGHIJKLMNOPQRSTUVWXYZ" t) := T.str (T.says.fact 20 (f := .str "GREAT_LETTERS" "ABCDEFGHIJKLMNOPQRSTUVWXYZ") rfl)
theorem Tx.c_FIGURES : ∃ t, mg "FIGURES" = some (.str "0123456789" t) := T.str (T.says.fact 21 (f := .str "FIGURES" "0123456789") rfl)
theorem Tx.c_SIGNS : ∃ t, mg "SIGNS" = some (.str "(){},.;=+-*/<" t) := T.str (T.says.fact 22 (f := .str "SIGNS" "(){},.;=+-*/<") rfl)
theorem Tx.c_GAPS : ∃ t, mg "GAPS" = some (.str " \t\n" t) := T.str (T.says.fact 23 (f := .str "GAPS" " \t\n") rfl)
theorem Tx.g_HEAD_WORDS : mg "HEAD_WORDS" = some (.ref (He.ga K "HEAD_WORDS")) := T.glo (T.says.fact 24 (f := .glo "HEAD_WORDS") rfl)
theorem Tx.g_TERM_WORDS : mg "TERM_WORDS" = some (.ref (He.ga K "TERM_WORDS")) := T.glo (T.says.fact 25 (f := .glo "TERM_WORDS") rfl)
theorem Tx.c_MOST_SIGNS : ∃ t, mg "MOST_SIGNS" = some (.int 6000 t) := T.int (T.says.fact 26 (f := .int "MOST_SIGNS" 6000) rfl)
theorem Tx.c_MOST_NAME : ∃ t, mg "MOST_NAME" = some (.int 8 t) := T.int (T.says.fact 27 (f := .int "MOST_NAME" 8) rfl)
theorem Tx.c_MOST_FIGURES : ∃ t, mg "MOST_FIGURES" = some (.int 9 t) := T.int (T.says.fact 28 (f := .int "MOST_FIGURES" 9) rfl)
theorem Tx.g_is_told : mg "is_told" = some (.ref (He.ga K "is_told")) := T.glo (T.says.fact 29 (f := .glo "is_told") rfl)
theorem Tx.g_are_all : mg "are_all" = some (.ref (He.ga K "are_all")) := T.glo (T.says.fact 30 (f := .glo "are_all") rfl)
theorem Tx.g_is_number_row : mg "is_number_row" = some (.ref (He.ga K "is_number_row")) := T.glo (T.says.fact 31 (f := .glo "is_number_row") rfl)
theorem Tx.g_is_name_row : mg "is_name_row" = some (.ref (He.ga K "is_name_row")) := T.glo (T.says.fact 32 (f := .glo "is_name_row") rfl)
theorem Tx.g_is_name : mg "is_name" = some (.ref (He.ga K "is_name")) := T.glo (T.says.fact 33 (f := .glo "is_name") rfl)
theorem Tx.g_need_row : mg "need_row" = some (.ref (He.ga K "need_row")) := T.glo (T.says.fact 34 (f := .glo "need_row") rfl)
theorem Tx.g_words : mg "words" = some (.ref (He.ga K "words")) := T.glo (T.says.fact 35 (f := .glo "words") rfl)
theorem Tx.c_MOST_HOUSES : ∃ t, mg "MOST_HOUSES" = some (.int 12 t) := T.int (T.says.fact 36 (f := .int "MOST_HOUSES" 12) rfl)
theorem Tx.c_MOST_FIELDS : ∃ t, mg "MOST_FIELDS" = some (.int 4 t) := T.int (T.says.fact 37 (f := .int "MOST_FIELDS" 4) rfl)
theorem Tx.c_MOST_WORDS : ∃ t, mg "MOST_WORDS" = some (.int 8 t) := T.int (T.says.fact 38 (f := .int "MOST_WORDS" 8) rfl)
theorem Tx.c_MOST_PARAMS : ∃ t, mg "MOST_PARAMS" = some (.int 4 t) := T.int (T.says.fact 39 (f := .int "MOST_PARAMS" 4) rfl)
theorem Tx.c_MOST_GIVEN : ∃ t, mg "MOST_GIVEN" = some (.int 8 t) := T.int (T.says.fact 40 (f := .int "MOST_GIVEN" 8) rfl)
theorem Tx.c_MOST_DEEP : ∃ t, mg "MOST_DEEP" = some (.int 14 t) := T.int (T.says.fact 41 (f := .int "MOST_DEEP" 14) rfl)
theorem Tx.c_MOST_BRACKETS : ∃ t, mg "MOST_BRACKETS" = some (.int 14 t) := T.int (T.says.fact 42 (f := .int "MOST_BRACKETS" 14) rfl)
theorem Tx.c_MOST_TERMS : ∃ t, mg "MOST_TERMS" = some (.int 400 t) := T.int (T.says.fact 43 (f := .int "MOST_TERMS" 400) rfl)
theorem Tx.c_MOST_NEST : ∃ t, mg "MOST_NEST" = some (.int 32 t) := T.int (T.says.fact 44 (f := .int "MOST_NEST" 32) rfl)
theorem Tx.g_strength : mg "strength" = some (.ref (He.ga K "strength")) := T.glo (T.says.fact 45 (f := .glo "strength") rfl)
theorem Tx.g_Source : mg "Source" = some (.ref (He.ga K "Source")) := T.glo (T.says.fact 46 (f := .glo "Source") rfl)
theorem Tx.g_read_given : mg "read_given" = some (.ref (He.ga K "read_given")) := T.glo (T.says.fact 47 (f := .glo "read_given") rfl)
theorem Tx.g_read_atom : mg "read_atom" = some (.ref (He.ga K "read_atom")) := T.glo (T.says.fact 48 (f := .glo "read_atom") rfl)
theorem Tx.g_read_chain : mg "read_chain" = some (.ref (He.ga K "read_chain")) := T.glo (T.says.fact 49 (f := .glo "read_chain") rfl)
theorem Tx.g_read_set : mg "read_set" = some (.ref (He.ga K "read_set")) := T.glo (T.says.fact 50 (f := .glo "read_set") rfl)
theorem Tx.g_read_start : mg "read_start" = some (.ref (He.ga K "read_start")) := T.glo (T.says.fact 51 (f := .glo "read_start") rfl)
theorem Tx.g_read_term : mg "read_term" = some (.ref (He.ga K "read_term")) := T.glo (T.says.fact 52 (f := .glo "read_term") rfl)
theorem Tx.g_read_params : mg "read_params" = some (.ref (He.ga K "read_params")) := T.glo (T.says.fact 53 (f := .glo "read_params") rfl)
theorem Tx.g_read_house : mg "read_house" = some (.ref (He.ga K "read_house")) := T.glo (T.says.fact 54 (f := .glo "read_house") rfl)
theorem Tx.g_read : mg "read" = some (.ref (He.ga K "read")) := T.glo (T.says.fact 55 (f := .glo "read") rfl)
theorem Tx.g_z_cell_at : mg "_law_cell_at" = some (.ref (He.ga K "_law_cell_at")) := T.glo (T.says.fact 56 (f := .glo "_law_cell_at") rfl)
theorem Tx.g_z_mixed : mg "_law_mixed" = some (.ref (He.ga K "_law_mixed")) := T.glo (T.says.fact 57 (f := .glo "_law_mixed") rfl)
theorem Tx.g_z_name : mg "_law_name" = some (.ref (He.ga K "_law_name")) := T.glo (T.says.fact 58 (f := .glo "_law_name") rfl)
theorem Tx.g_z_atom : mg "_law_atom" = some (.ref (He.ga K "_law_atom")) := T.glo (T.says.fact 59 (f := .glo "_law_atom") rfl)
theorem Tx.g_z_taken : mg "_law_taken" = some (.ref (He.ga K "_law_taken")) := T.glo (T.says.fact 60 (f := .glo "_law_taken") rfl)
theorem Tx.g_z_about : mg "_law_about" = some (.ref (He.ga K "_law_about")) := T.glo (T.says.fact 61 (f := .glo "_law_about") rfl)
theorem Tx.g_z_joined : mg "_law_joined" = some (.ref (He.ga K "_law_joined")) := T.glo (T.says.fact 62 (f := .glo "_law_joined") rfl)
theorem Tx.g_z_term : mg "_law_term" = some (.ref (He.ga K "_law_term")) := T.glo (T.says.fact 63 (f := .glo "_law_term") rfl)
theorem Tx.g_z_params : mg "_law_params" = some (.ref (He.ga K "_law_params")) := T.glo (T.says.fact 64 (f := .glo "_law_params") rfl)
theorem Tx.g_z_house : mg "_law_house" = some (.ref (He.ga K "_law_house")) := T.glo (T.says.fact 65 (f := .glo "_law_house") rfl)
theorem Tx.g_z_program : mg "_law_program" = some (.ref (He.ga K "_law_program")) := T.glo (T.says.fact 66 (f := .glo "_law_program") rfl)
theorem Tx.g_z_power : mg "_law_power" = some (.ref (He.ga K "_law_power")) := T.glo (T.says.fact 67 (f := .glo "_law_power") rfl)
theorem Tx.g_z_bare : mg "_law_bare" = some (.ref (He.ga K "_law_bare")) := T.glo (T.says.fact 68 (f := .glo "_law_bare") rfl)
theorem Tx.g_z_row : mg "_law_row" = some (.ref (He.ga K "_law_row")) := T.glo (T.says.fact 69 (f := .glo "_law_row") rfl)
theorem Tx.g_z_inner : mg "_law_inner" = some (.ref (He.ga K "_law_inner")) := T.glo (T.says.fact 70 (f := .glo "_law_inner") rfl)
theorem Tx.g_z_params_text : mg "_law_params_text" = some (.ref (He.ga K "_law_params_text")) := T.glo (T.says.fact 71 (f := .glo "_law_params_text") rfl)
theorem Tx.g_z_shown : mg "_law_shown" = some (.ref (He.ga K "_law_shown")) := T.glo (T.says.fact 72 (f := .glo "_law_shown") rfl)
theorem Tx.g_z_measured : mg "_law_measured" = some (.ref (He.ga K "_law_measured")) := T.glo (T.says.fact 73 (f := .glo "_law_measured") rfl)
theorem Tx.g_z_is_great : mg "_law_is_great" = some (.ref (He.ga K "_law_is_great")) := T.glo (T.says.fact 74 (f := .glo "_law_is_great") rfl)
theorem Tx.g_z_told : mg "_law_told" = some (.ref (He.ga K "_law_told")) := T.glo (T.says.fact 75 (f := .glo "_law_told") rfl)
theorem Tx.g_law : mg "law" = some (.ref (He.ga K "law")) := T.glo (T.says.fact 76 (f := .glo "law") rfl)
theorem Tx.b_enumerate : mg "enumerate" = none := T.free (T.says.fact 77 (f := .free "enumerate") rfl)
theorem Tx.b_int : mg "int" = none := T.free (T.says.fact 78 (f := .free "int") rfl)
theorem Tx.b_isinstance : mg "isinstance" = none := T.free (T.says.fact 79 (f := .free "isinstance") rfl)
theorem Tx.b_len : mg "len" = none := T.free (T.says.fact 80 (f := .free "len") rfl)
theorem Tx.b_list : mg "list" = none := T.free (T.says.fact 81 (f := .free "list") rfl)
theorem Tx.b_max : mg "max" = none := T.free (T.says.fact 82 (f := .free "max") rfl)
theorem Tx.b_min : mg "min" = none := T.free (T.says.fact 83 (f := .free "min") rfl)
theorem Tx.b_range : mg "range" = none := T.free (T.says.fact 84 (f := .free "range") rfl)
theorem Tx.b_repr : mg "repr" = none := T.free (T.says.fact 85 (f := .free "repr") rfl)
theorem Tx.b_str : mg "str" = none := T.free (T.says.fact 86 (f := .free "str") rfl)
theorem Tx.b_sum : mg "sum" = none := T.free (T.says.fact 87 (f := .free "sum") rfl)
theorem Tx.b_tuple : mg "tuple" = none := T.free (T.says.fact 88 (f := .free "tuple") rfl)
theorem Tx.cls_NumberTerm : Cls K (He.ga K "NumberTerm") := He.cls_ok (T.says.fact 89 (f := .cls "NumberTerm") rfl)
theorem Tx.no_NumberTerm_inner : NoAttr K (He.ga K "NumberTerm") "inner" := He.noat_ok (T.says.fact 90 (f := .noat "NumberTerm" "inner") rfl)
theorem Tx.no_NumberTerm_height : NoAttr K (He.ga K "NumberTerm") "height" := He.noat_ok (T.says.fact 91 (f := .noat "NumberTerm" "height") rfl)
theorem Tx.no_NumberTerm_many : NoAttr K (He.ga K "NumberTerm") "many" := He.noat_ok (T.says.fact 92 (f := .noat "NumberTerm" "many") rfl)
theorem Tx.no_NumberTerm_number : NoAttr K (He.ga K "NumberTerm") "number" := He.noat_ok (T.says.fact 93 (f := .noat "NumberTerm" "number") rfl)
theorem Tx.m_NumberTerm_plain : Meth K (He.ga K "NumberTerm") "plain" (He.ma K (He.ga K "NumberTerm") "plain") := He.meth_ok (T.says.fact 94 (f := .meth "NumberTerm" "plain") rfl)
theorem Tx.m_NumberTerm_depth : Meth K (He.ga K "NumberTerm") "depth" (He.ma K (He.ga K "NumberTerm") "depth") := He.meth_ok (T.says.fact 95 (f := .meth "NumberTerm" "depth") rfl)
theorem Tx.mk_NumberTerm : Mk K (He.ga K "NumberTerm") (He.ma K (He.ga K "NumberTerm") "__init__") := He.mkr_ok (T.says.fact 96 (f := .mkr "NumberTerm") rfl)
theorem Tx.cls_TruthTerm : Cls K (He.ga K "TruthTerm") := He.cls_ok (T.says.fact 97 (f := .cls "TruthTerm") rfl)
theorem Tx.no_TruthTerm_inner : NoAttr K (He.ga K "TruthTerm") "inner" := He.noat_ok (T.says.fact 98 (f := .noat "TruthTerm" "inner") rfl)
theorem Tx.no_TruthTerm_height : NoAttr K (He.ga K "TruthTerm") "height" := He.noat_ok (T.says.fact 99 (f := .noat "TruthTerm" "height") rfl)
theorem Tx.no_TruthTerm_many : NoAttr K (He.ga K "TruthTerm") "many" := He.noat_ok (T.says.fact 100 (f := .noat "TruthTerm" "many") rfl)
theorem Tx.no_TruthTerm_is_yes : NoAttr K (He.ga K "TruthTerm") "is_yes" := He.noat_ok (T.says.fact 101 (f := .noat "TruthTerm" "is_yes") rfl)
theorem Tx.m_TruthTerm_plain : Meth K (He.ga K "TruthTerm") "plain" (He.ma K (He.ga K "TruthTerm") "plain") := He.meth_ok (T.says.fact 102 (f := .meth "TruthTerm" "plain") rfl)
theorem Tx.m_TruthTerm_depth : Meth K (He.ga K "TruthTerm") "depth" (He.ma K (He.ga K "TruthTerm") "depth") := He.meth_ok (T.says.fact 103 (f := .meth "TruthTerm" "depth") rfl)
theorem Tx.mk_TruthTerm : Mk K (He.ga K "TruthTerm") (He.ma K (He.ga K "TruthTerm") "__init__") := He.mkr_ok (T.says.fact 104 (f := .mkr "TruthTerm") rfl)
theorem Tx.cls_NameTerm : Cls K (He.ga K "NameTerm") := He.cls_ok (T.says.fact 105 (f := .cls "NameTerm") rfl)
theorem Tx.no_NameTerm_inner : NoAttr K (He.ga K "NameTerm") "inner" := He.noat_ok (T.says.fact 106 (f := .noat "NameTerm" "inner") rfl)
theorem Tx.no_NameTerm_height : NoAttr K (He.ga K "NameTerm") "height" := He.noat_ok (T.says.fact 107 (f := .noat "NameTerm" "height") rfl)
theorem Tx.no_NameTerm_many : NoAttr K (He.ga K "NameTerm") "many" := He.noat_ok (T.says.fact 108 (f := .noat "NameTerm" "many") rfl)
theorem Tx.no_NameTerm_called : NoAttr K (He.ga K "NameTerm") "called" := He.noat_ok (T.says.fact 109 (f := .noat "NameTerm" "called") rfl)
theorem Tx.m_NameTerm_plain : Meth K (He.ga K "NameTerm") "plain" (He.ma K (He.ga K "NameTerm") "plain") := He.meth_ok (T.says.fact 110 (f := .meth "NameTerm" "plain") rfl)
theorem Tx.m_NameTerm_depth : Meth K (He.ga K "NameTerm") "depth" (He.ma K (He.ga K "NameTerm") "depth") := He.meth_ok (T.says.fact 111 (f := .meth "NameTerm" "depth") rfl)
theorem Tx.mk_NameTerm : Mk K (He.ga K "NameTerm") (He.ma K (He.ga K "NameTerm") "__init__") := He.mkr_ok (T.says.fact 112 (f := .mkr "NameTerm") rfl)
theorem Tx.cls_SelfTerm : Cls K (He.ga K "SelfTerm") := He.cls_ok (T.says.fact 113 (f := .cls "SelfTerm") rfl)
theorem Tx.no_SelfTerm_inner : NoAttr K (He.ga K "SelfTerm") "inner" := He.noat_ok (T.says.fact 114 (f := .noat "SelfTerm" "inner") rfl)
theorem Tx.no_SelfTerm_height : NoAttr K (He.ga K "SelfTerm") "height" := He.noat_ok (T.says.fact 115 (f := .noat "SelfTerm" "height") rfl)
theorem Tx.no_SelfTerm_many : NoAttr K (He.ga K "SelfTerm") "many" := He.noat_ok (T.says.fact 116 (f := .noat "SelfTerm" "many") rfl)
theorem Tx.m_SelfTerm_plain : Meth K (He.ga K "SelfTerm") "plain" (He.ma K (He.ga K "SelfTerm") "plain") := He.meth_ok (T.says.fact 117 (f := .meth "SelfTerm" "plain") rfl)
theorem Tx.m_SelfTerm_depth : Meth K (He.ga K "SelfTerm") "depth" (He.ma K (He.ga K "SelfTerm") "depth") := He.meth_ok (T.says.fact 118 (f := .meth "SelfTerm" "depth") rfl)
theorem Tx.mk_SelfTerm : Mk K (He.ga K "SelfTerm") (He.ma K (He.ga K "SelfTerm") "__init__") := He.mkr_ok (T.says.fact 119 (f := .mkr "SelfTerm") rfl)
theorem Tx.cls_NewTerm : Cls K (He.ga K "NewTerm") := He.cls_ok (T.says.fact 120 (f := .cls "NewTerm") rfl)
theorem Tx.no_NewTerm_inner : NoAttr K (He.ga K "NewTerm") "inner" := He.noat_ok (T.says.fact 121 (f := .noat "NewTerm" "inner") rfl)
theorem Tx.no_NewTerm_height : NoAttr K (He.ga K "NewTerm") "height" := He.noat_ok (T.says.fact 122 (f := .noat "NewTerm" "height") rfl)
theorem Tx.no_NewTerm_many : NoAttr K (He.ga K "NewTerm") "many" := He.noat_ok (T.says.fact 123 (f := .noat "NewTerm" "many") rfl)
theorem Tx.no_NewTerm_called : NoAttr K (He.ga K "NewTerm") "called" := He.noat_ok (T.says.fact 124 (f := .noat "NewTerm" "called") rfl)
theorem Tx.m_NewTerm_plain : Meth K (He.ga K "NewTerm") "plain" (He.ma K (He.ga K "NewTerm") "plain") := He.meth_ok (T.says.fact 125 (f := .meth "NewTerm" "plain") rfl)
theorem Tx.m_NewTerm_depth : Meth K (He.ga K "NewTerm") "depth" (He.ma K (He.ga K "NewTerm") "depth") := He.meth_ok (T.says.fact 126 (f := .meth "NewTerm" "depth") rfl)
theorem Tx.mk_NewTerm : Mk K (He.ga K "NewTerm") (He.ma K (He.ga K "NewTerm") "__init__") := He.mkr_ok (T.says.fact 127 (f := .mkr "NewTerm") rfl)
theorem Tx.cls_ElderTerm : Cls K (He.ga K "ElderTerm") := He.cls_ok (T.says.fact 128 (f := .cls "ElderTerm") rfl)
theorem Tx.no_ElderTerm_inner : NoAttr K (He.ga K "ElderTerm") "inner" := He.noat_ok (T.says.fact 129 (f := .noat "ElderTerm" "inner") rfl)
theorem Tx.no_ElderTerm_height : NoAttr K (He.ga K "ElderTerm") "height" := He.noat_ok (T.says.fact 130 (f := .noat "ElderTerm" "height") rfl)
theorem Tx.no_ElderTerm_many : NoAttr K (He.ga K "ElderTerm") "many" := He.noat_ok (T.says.fact 131 (f := .noat "ElderTerm" "many") rfl)
theorem Tx.no_ElderTerm_called : NoAttr K (He.ga K "ElderTerm") "called" := He.noat_ok (T.says.fact 132 (f := .noat "ElderTerm" "called") rfl)
theorem Tx.m_ElderTerm_plain : Meth K (He.ga K "ElderTerm") "plain" (He.ma K (He.ga K "ElderTerm") "plain") := He.meth_ok (T.says.fact 133 (f := .meth "ElderTerm" "plain") rfl)
theorem Tx.m_ElderTerm_depth : Meth K (He.ga K "ElderTerm") "depth" (He.ma K (He.ga K "ElderTerm") "depth") := He.meth_ok (T.says.fact 134 (f := .meth "ElderTerm" "depth") rfl)
theorem Tx.mk_ElderTerm : Mk K (He.ga K "ElderTerm") (He.ma K (He.ga K "ElderTerm") "__init__") := He.mkr_ok (T.says.fact 135 (f := .mkr "ElderTerm") rfl)
theorem Tx.cls_FieldTerm : Cls K (He.ga K "FieldTerm") := He.cls_ok (T.says.fact 136 (f := .cls "FieldTerm") rfl)
theorem Tx.no_FieldTerm_inner : NoAttr K (He.ga K "FieldTerm") "inner" := He.noat_ok (T.says.fact 137 (f := .noat "FieldTerm" "inner") rfl)
theorem Tx.no_FieldTerm_height : NoAttr K (He.ga K "FieldTerm") "height" := He.noat_ok (T.says.fact 138 (f := .noat "FieldTerm" "height") rfl)
theorem Tx.no_FieldTerm_many : NoAttr K (He.ga K "FieldTerm") "many" := He.noat_ok (T.says.fact 139 (f := .noat "FieldTerm" "many") rfl)
theorem Tx.no_FieldTerm_thing : NoAttr K (He.ga K "FieldTerm") "thing" := He.noat_ok (T.says.fact 140 (f := .noat "FieldTerm" "thing") rfl)
theorem Tx.no_FieldTerm_called : NoAttr K (He.ga K "FieldTerm") "called" := He.noat_ok (T.says.fact 141 (f := .noat "FieldTerm" "called") rfl)
theorem Tx.m_FieldTerm_plain : Meth K (He.ga K "FieldTerm") "plain" (He.ma K (He.ga K "FieldTerm") "plain") := He.meth_ok (T.says.fact 142 (f := .meth "FieldTerm" "plain") rfl)
theorem Tx.m_FieldTerm_depth : Meth K (He.ga K "FieldTerm") "depth" (He.ma K (He.ga K "FieldTerm") "depth") := He.meth_ok (T.says.fact 143 (f := .meth "FieldTerm" "depth") rfl)
theorem Tx.mk_FieldTerm : Mk K (He.ga K "FieldTerm") (He.ma K (He.ga K "FieldTerm") "__init__") := He.mkr_ok (T.says.fact 144 (f := .mkr "FieldTerm") rfl)
theorem Tx.cls_CallTerm : Cls K (He.ga K "CallTerm") := He.cls_ok (T.says.fact 145 (f := .cls "CallTerm") rfl)
theorem Tx.no_CallTerm_inner : NoAttr K (He.ga K "CallTerm") "inner" := He.noat_ok (T.says.fact 146 (f := .noat "CallTerm" "inner") rfl)
theorem Tx.no_CallTerm_height : NoAttr K (He.ga K "CallTerm") "height" := He.noat_ok (T.says.fact 147 (f := .noat "CallTerm" "height") rfl)
theorem Tx.no_CallTerm_many : NoAttr K (He.ga K "CallTerm") "many" := He.noat_ok (T.says.fact 148 (f := .noat "CallTerm" "many") rfl)
theorem Tx.no_CallTerm_thing : NoAttr K (He.ga K "CallTerm") "thing" := He.noat_ok (T.says.fact 149 (f := .noat "CallTerm" "thing") rfl)
theorem Tx.no_CallTerm_called : NoAttr K (He.ga K "CallTerm") "called" := He.noat_ok (T.says.fact 150 (f := .noat "CallTerm" "called") rfl)
theorem Tx.no_CallTerm_given : NoAttr K (He.ga K "CallTerm") "given" := He.noat_ok (T.says.fact 151 (f := .noat "CallTerm" "given") rfl)
theorem Tx.m_CallTerm_plain : Meth K (He.ga K "CallTerm") "plain" (He.ma K (He.ga K "CallTerm") "plain") := He.meth_ok (T.says.fact 152 (f := .meth "CallTerm" "plain") rfl)
theorem Tx.m_CallTerm_depth : Meth K (He.ga K "CallTerm") "depth" (He.ma K (He.ga K "CallTerm") "depth") := He.meth_ok (T.says.fact 153 (f := .meth "CallTerm" "depth") rfl)
theorem Tx.mk_CallTerm : Mk K (He.ga K "CallTerm") (He.ma K (He.ga K "CallTerm") "__init__") := He.mkr_ok (T.says.fact 154 (f := .mkr "CallTerm") rfl)
theorem Tx.cls_NotTerm : Cls K (He.ga K "NotTerm") := He.cls_ok (T.says.fact 155 (f := .cls "NotTerm") rfl)
theorem Tx.no_NotTerm_inner : NoAttr K (He.ga K "NotTerm") "inner" := He.noat_ok (T.says.fact 156 (f := .noat "NotTerm" "inner") rfl)
theorem Tx.no_NotTerm_height : NoAttr K (He.ga K "NotTerm") "height" := He.noat_ok (T.says.fact 157 (f := .noat "NotTerm" "height") rfl)
theorem Tx.no_NotTerm_many : NoAttr K (He.ga K "NotTerm") "many" := He.noat_ok (T.says.fact 158 (f := .noat "NotTerm" "many") rfl)
theorem Tx.no_NotTerm_one : NoAttr K (He.ga K "NotTerm") "one" := He.noat_ok (T.says.fact 159 (f := .noat "NotTerm" "one") rfl)
theorem Tx.m_NotTerm_plain : Meth K (He.ga K "NotTerm") "plain" (He.ma K (He.ga K "NotTerm") "plain") := He.meth_ok (T.says.fact 160 (f := .meth "NotTerm" "plain") rfl)
theorem Tx.m_NotTerm_depth : Meth K (He.ga K "NotTerm") "depth" (He.ma K (He.ga K "NotTerm") "depth") := He.meth_ok (T.says.fact 161 (f := .meth "NotTerm" "depth") rfl)
theorem Tx.mk_NotTerm : Mk K (He.ga K "NotTerm") (He.ma K (He.ga K "NotTerm") "__init__") := He.mkr_ok (T.says.fact 162 (f := .mkr "NotTerm") rfl)
theorem Tx.cls_TwoTerm : Cls K (He.ga K "TwoTerm") := He.cls_ok (T.says.fact 163 (f := .cls "TwoTerm") rfl)
theorem Tx.no_TwoTerm_inner : NoAttr K (He.ga K "TwoTerm") "inner" := He.noat_ok (T.says.fact 164 (f := .noat "TwoTerm" "inner") rfl)
theorem Tx.no_TwoTerm_height : NoAttr K (He.ga K "TwoTerm") "height" := He.noat_ok (T.says.fact 165 (f := .noat "TwoTerm" "height") rfl)
theorem Tx.no_TwoTerm_many : NoAttr K (He.ga K "TwoTerm") "many" := He.noat_ok (T.says.fact 166 (f := .noat "TwoTerm" "many") rfl)
theorem Tx.no_TwoTerm_sign : NoAttr K (He.ga K "TwoTerm") "sign" := He.noat_ok (T.says.fact 167 (f := .noat "TwoTerm" "sign") rfl)
theorem Tx.no_TwoTerm_one : NoAttr K (He.ga K "TwoTerm") "one" := He.noat_ok (T.says.fact 168 (f := .noat "TwoTerm" "one") rfl)
theorem Tx.no_TwoTerm_other : NoAttr K (He.ga K "TwoTerm") "other" := He.noat_ok (T.says.fact 169 (f := .noat "TwoTerm" "other") rfl)
theorem Tx.m_TwoTerm_plain : Meth K (He.ga K "TwoTerm") "plain" (He.ma K (He.ga K "TwoTerm") "plain") := He.meth_ok (T.says.fact 170 (f := .meth "TwoTerm" "plain") rfl)
theorem Tx.m_TwoTerm_depth : Meth K (He.ga K "TwoTerm") "depth" (He.ma K (He.ga K "TwoTerm") "depth") := He.meth_ok (T.says.fact 171 (f := .meth "TwoTerm" "depth") rfl)
theorem Tx.mk_TwoTerm : Mk K (He.ga K "TwoTerm") (He.ma K (He.ga K "TwoTerm") "__init__") := He.mkr_ok (T.says.fact 172 (f := .mkr "TwoTerm") rfl)
theorem Tx.cls_IfTerm : Cls K (He.ga K "IfTerm") := He.cls_ok (T.says.fact 173 (f := .cls "IfTerm") rfl)
theorem Tx.no_IfTerm_inner : NoAttr K (He.ga K "IfTerm") "inner" := He.noat_ok (T.says.fact 174 (f := .noat "IfTerm" "inner") rfl)
theorem Tx.no_IfTerm_height : NoAttr K (He.ga K "IfTerm") "height" := He.noat_ok (T.says.fact 175 (f := .noat "IfTerm" "height") rfl)
theorem Tx.no_IfTerm_many : NoAttr K (He.ga K "IfTerm") "many" := He.noat_ok (T.says.fact 176 (f := .noat "IfTerm" "many") rfl)
theorem Tx.no_IfTerm_one : NoAttr K (He.ga K "IfTerm") "one" := He.noat_ok (T.says.fact 177 (f := .noat "IfTerm" "one") rfl)
theorem Tx.no_IfTerm_other : NoAttr K (He.ga K "IfTerm") "other" := He.noat_ok (T.says.fact 178 (f := .noat "IfTerm" "other") rfl)
theorem Tx.no_IfTerm_third : NoAttr K (He.ga K "IfTerm") "third" := He.noat_ok (T.says.fact 179 (f := .noat "IfTerm" "third") rfl)
theorem Tx.m_IfTerm_plain : Meth K (He.ga K "IfTerm") "plain" (He.ma K (He.ga K "IfTerm") "plain") := He.meth_ok (T.says.fact 180 (f := .meth "IfTerm" "plain") rfl)
theorem Tx.m_IfTerm_depth : Meth K (He.ga K "IfTerm") "depth" (He.ma K (He.ga K "IfTerm") "depth") := He.meth_ok (T.says.fact 181 (f := .meth "IfTerm" "depth") rfl)
theorem Tx.mk_IfTerm : Mk K (He.ga K "IfTerm") (He.ma K (He.ga K "IfTerm") "__init__") := He.mkr_ok (T.says.fact 182 (f := .mkr "IfTerm") rfl)
theorem Tx.cls_LetTerm : Cls K (He.ga K "LetTerm") := He.cls_ok (T.says.fact 183 (f := .cls "LetTerm") rfl)
theorem Tx.no_LetTerm_inner : NoAttr K (He.ga K "LetTerm") "inner" := He.noat_ok (T.says.fact 184 (f := .noat "LetTerm" "inner") rfl)
theorem Tx.no_LetTerm_height : NoAttr K (He.ga K "LetTerm") "height" := He.noat_ok (T.says.fact 185 (f := .noat "LetTerm" "height") rfl)
theorem Tx.no_LetTerm_many : NoAttr K (He.ga K "LetTerm") "many" := He.noat_ok (T.says.fact 186 (f := .noat "LetTerm" "many") rfl)
theorem Tx.no_LetTerm_called : NoAttr K (He.ga K "LetTerm") "called" := He.noat_ok (T.says.fact 187 (f := .noat "LetTerm" "called") rfl)
theorem Tx.no_LetTerm_one : NoAttr K (He.ga K "LetTerm") "one" := He.noat_ok (T.says.fact 188 (f := .noat "LetTerm" "one") rfl)
theorem Tx.no_LetTerm_other : NoAttr K (He.ga K "LetTerm") "other" := He.noat_ok (T.says.fact 189 (f := .noat "LetTerm" "other") rfl)
theorem Tx.m_LetTerm_plain : Meth K (He.ga K "LetTerm") "plain" (He.ma K (He.ga K "LetTerm") "plain") := He.meth_ok (T.says.fact 190 (f := .meth "LetTerm" "plain") rfl)
theorem Tx.m_LetTerm_depth : Meth K (He.ga K "LetTerm") "depth" (He.ma K (He.ga K "LetTerm") "depth") := He.meth_ok (T.says.fact 191 (f := .meth "LetTerm" "depth") rfl)
theorem Tx.mk_LetTerm : Mk K (He.ga K "LetTerm") (He.ma K (He.ga K "LetTerm") "__init__") := He.mkr_ok (T.says.fact 192 (f := .mkr "LetTerm") rfl)
theorem Tx.cls_SetTerm : Cls K (He.ga K "SetTerm") := He.cls_ok (T.says.fact 193 (f := .cls "SetTerm") rfl)
theorem Tx.no_SetTerm_inner : NoAttr K (He.ga K "SetTerm") "inner" := He.noat_ok (T.says.fact 194 (f := .noat "SetTerm" "inner") rfl)
theorem Tx.no_SetTerm_height : NoAttr K (He.ga K "SetTerm") "height" := He.noat_ok (T.says.fact 195 (f := .noat "SetTerm" "height") rfl)
theorem Tx.no_SetTerm_many : NoAttr K (He.ga K "SetTerm") "many" := He.noat_ok (T.says.fact 196 (f := .noat "SetTerm" "many") rfl)
theorem Tx.no_SetTerm_thing : NoAttr K (He.ga K "SetTerm") "thing" := He.noat_ok (T.says.fact 197 (f := .noat "SetTerm" "thing") rfl)
theorem Tx.no_SetTerm_called : NoAttr K (He.ga K "SetTerm") "called" := He.noat_ok (T.says.fact 198 (f := .noat "SetTerm" "called") rfl)
theorem Tx.no_SetTerm_other : NoAttr K (He.ga K "SetTerm") "other" := He.noat_ok (T.says.fact 199 (f := .noat "SetTerm" "other") rfl)
theorem Tx.m_SetTerm_plain : Meth K (He.ga K "SetTerm") "plain" (He.ma K (He.ga K "SetTerm") "plain") := He.meth_ok (T.says.fact 200 (f := .meth "SetTerm" "plain") rfl)
theorem Tx.m_SetTerm_depth : Meth K (He.ga K "SetTerm") "depth" (He.ma K (He.ga K "SetTerm") "depth") := He.meth_ok (T.says.fact 201 (f := .meth "SetTerm" "depth") rfl)
theorem Tx.mk_SetTerm : Mk K (He.ga K "SetTerm") (He.ma K (He.ga K "SetTerm") "__init__") := He.mkr_ok (T.says.fact 202 (f := .mkr "SetTerm") rfl)
theorem Tx.cls_Source : Cls K (He.ga K "Source") := He.cls_ok (T.says.fact 203 (f := .cls "Source") rfl)
theorem Tx.no_Source_row : NoAttr K (He.ga K "Source") "row" := He.noat_ok (T.says.fact 204 (f := .noat "Source" "row") rfl)
theorem Tx.no_Source_spot : NoAttr K (He.ga K "Source") "spot" := He.noat_ok (T.says.fact 205 (f := .noat "Source" "spot") rfl)
theorem Tx.no_Source_open_now : NoAttr K (He.ga K "Source") "open_now" := He.noat_ok (T.says.fact 206 (f := .noat "Source" "open_now") rfl)
theorem Tx.no_Source_made : NoAttr K (He.ga K "Source") "made" := He.noat_ok (T.says.fact 207 (f := .noat "Source" "made") rfl)
theorem Tx.m_Source_now : Meth K (He.ga K "Source") "now" (He.ma K (He.ga K "Source") "now") := He.meth_ok (T.says.fact 208 (f := .meth "Source" "now") rfl)
theorem Tx.m_Source_take : Meth K (He.ga K "Source") "take" (He.ma K (He.ga K "Source") "take") := He.meth_ok (T.says.fact 209 (f := .meth "Source" "take") rfl)
theorem Tx.m_Source_need : Meth K (He.ga K "Source") "need" (He.ma K (He.ga K "Source") "need") := He.meth_ok (T.says.fact 210 (f := .meth "Source" "need") rfl)
theorem Tx.m_Source_need_name : Meth K (He.ga K "Source") "need_name" (He.ma K (He.ga K "Source") "need_name") := He.meth_ok (T.says.fact 211 (f := .meth "Source" "need_name") rfl)
theorem Tx.m_Source_need_kind : Meth K (He.ga K "Source") "need_kind" (He.ma K (He.ga K "Source") "need_kind") := He.meth_ok (T.says.fact 212 (f := .meth "Source" "need_kind") rfl)
theorem Tx.m_Source_open_one : Meth K (He.ga K "Source") "open_one" (He.ma K (He.ga K "Source") "open_one") := He.meth_ok (T.says.fact 213 (f := .meth "Source" "open_one") rfl)
theorem Tx.m_Source_close_one : Meth K (He.ga K "Source") "close_one" (He.ma K (He.ga K "Source") "close_one") := He.meth_ok (T.says.fact 214 (f := .meth "Source" "close_one") rfl)
theorem Tx.m_Source_built : Meth K (He.ga K "Source") "built" (He.ma K (He.ga K "Source") "built") := He.meth_ok (T.says.fact 215 (f := .meth "Source" "built") rfl)
theorem Tx.mk_Source : Mk K (He.ga K "Source") (He.ma K (He.ga K "Source") "__init__") := He.mkr_ok (T.says.fact 216 (f := .mkr "Source") rfl)
theorem Tx.cls_Program : Cls K (He.ga K "Program") := He.cls_ok (T.says.fact 217 (f := .cls "Program") rfl)
theorem Tx.no_Program_houses_told : NoAttr K (He.ga K "Program") "houses_told" := He.noat_ok (T.says.fact 218 (f := .noat "Program" "houses_told") rfl)
theorem Tx.no_Program_main_told : NoAttr K (He.ga K "Program") "main_told" := He.noat_ok (T.says.fact 219 (f := .noat "Program" "main_told") rfl)
theorem Tx.m_Program_plain : Meth K (He.ga K "Program") "plain" (He.ma K (He.ga K "Program") "plain") := He.meth_ok (T.says.fact 220 (f := .meth "Program" "plain") rfl)
theorem Tx.mk_Program : Mk K (He.ga K "Program") (He.ma K (He.ga K "Program") "__init__") := He.mkr_ok (T.says.fact 221 (f := .mkr "Program") rfl)
theorem Tx.f_BadWords_init : ∃ fd, FunD K "__init__" "BadWords.__init__" (defArgs s_BadWords_init) (defBody s_BadWords_init) (defScope s_BadWords_init) [] [] (He.ma K (He.ga K "BadWords") "__init__") fd := T.says.def_ 0 (d := d_BadWords_init) rfl
theorem Tx.f_Term_init : ∃ fd, FunD K "__init__" "Term.__init__" (defArgs s_Term_init) (defBody s_Term_init) (defScope s_Term_init) [] [] (He.ma K (He.ga K "Term") "__init__") fd := T.says.def_ 1 (d := d_Term_init) rfl
theorem Tx.f_Term_depth : ∃ fd, FunD K "depth" "Term.depth" (defArgs s_Term_depth) (defBody s_Term_depth) (defScope s_Term_depth) [] [] (He.ma K (He.ga K "Term") "depth") fd := T.says.def_ 2 (d := d_Term_depth) rfl
theorem Tx.f_plains : ∃ fd, FunD K "plains" "plains" (defArgs s_plains) (defBody s_plains) (defScope s_plains) [] [] (He.ga K "plains") fd := T.says.def_ 3 (d := d_plains) rfl
theorem Tx.f_NumberTerm_init : ∃ fd, FunD K "__init__" "NumberTerm.__init__" (defArgs s_NumberTerm_init) (defBody s_NumberTerm_init) (defScope s_NumberTerm_init) [] [] (He.ma K (He.ga K "NumberTerm") "__init__") fd := T.says.def_ 4 (d := d_NumberTerm_init) rfl
theorem Tx.f_NumberTerm_plain : ∃ fd, FunD K "plain" "NumberTerm.plain" (defArgs s_NumberTerm_plain) (defBody s_NumberTerm_plain) (defScope s_NumberTerm_plain) [] [] (He.ma K (He.ga K "NumberTerm") "plain") fd := T.says.def_ 5 (d := d_NumberTerm_plain) rfl
theorem Tx.f_TruthTerm_init : ∃ fd, FunD K "__init__" "TruthTerm.__init__" (defArgs s_TruthTerm_init) (defBody s_TruthTerm_init) (defScope s_TruthTerm_init) [] [] (He.ma K (He.ga K "TruthTerm") "__init__") fd := T.says.def_ 6 (d := d_TruthTerm_init) rfl
theorem Tx.f_TruthTerm_plain : ∃ fd, FunD K "plain" "TruthTerm.plain" (defArgs s_TruthTerm_plain) (defBody s_TruthTerm_plain) (defScope s_TruthTerm_plain) [] [] (He.ma K (He.ga K "TruthTerm") "plain") fd := T.says.def_ 7 (d := d_TruthTerm_plain) rfl
theorem Tx.f_NameTerm_init : ∃ fd, FunD K "__init__" "NameTerm.__init__" (defArgs s_NameTerm_init) (defBody s_NameTerm_init) (defScope s_NameTerm_init) [] [] (He.ma K (He.ga K "NameTerm") "__init__") fd := T.says.def_ 8 (d := d_NameTerm_init) rfl
theorem Tx.f_NameTerm_plain : ∃ fd, FunD K "plain" "NameTerm.plain" (defArgs s_NameTerm_plain) (defBody s_NameTerm_plain) (defScope s_NameTerm_plain) [] [] (He.ma K (He.ga K "NameTerm") "plain") fd := T.says.def_ 9 (d := d_NameTerm_plain) rfl
theorem Tx.f_SelfTerm_init : ∃ fd, FunD K "__init__" "SelfTerm.__init__" (defArgs s_SelfTerm_init) (defBody s_SelfTerm_init) (defScope s_SelfTerm_init) [] [] (He.ma K (He.ga K "SelfTerm") "__init__") fd := T.says.def_ 10 (d := d_SelfTerm_init) rfl
theorem Tx.f_SelfTerm_plain : ∃ fd, FunD K "plain" "SelfTerm.plain" (defArgs s_SelfTerm_plain) (defBody s_SelfTerm_plain) (defScope s_SelfTerm_plain) [] [] (He.ma K (He.ga K "SelfTerm") "plain") fd := T.says.def_ 11 (d := d_SelfTerm_plain) rfl
theorem Tx.f_NewTerm_init : ∃ fd, FunD K "__init__" "NewTerm.__init__" (defArgs s_NewTerm_init) (defBody s_NewTerm_init) (defScope s_NewTerm_init) [] [] (He.ma K (He.ga K "NewTerm") "__init__") fd := T.says.def_ 12 (d := d_NewTerm_init) rfl
theorem Tx.f_NewTerm_plain : ∃ fd, FunD K "plain" "NewTerm.plain" (defArgs s_NewTerm_plain) (defBody s_NewTerm_plain) (defScope s_NewTerm_plain) [] [] (He.ma K (He.ga K "NewTerm") "plain") fd := T.says.def_ 13 (d := d_NewTerm_plain) rfl
theorem Tx.f_ElderTerm_init : ∃ fd, FunD K "__init__" "ElderTerm.__init__" (defArgs s_ElderTerm_init) (defBody s_ElderTerm_init) (defScope s_ElderTerm_init) [] [] (He.ma K (He.ga K "ElderTerm") "__init__") fd := T.says.def_ 14 (d := d_ElderTerm_init) rfl
theorem Tx.f_ElderTerm_plain : ∃ fd, FunD K "plain" "ElderTerm.plain" (defArgs s_ElderTerm_plain) (defBody s_ElderTerm_plain) (defScope s_ElderTerm_plain) [] [] (He.ma K (He.ga K "ElderTerm") "plain") fd := T.says.def_ 15 (d := d_ElderTerm_plain) rfl
theorem Tx.f_FieldTerm_init : ∃ fd, FunD K "__init__" "FieldTerm.__init__" (defArgs s_FieldTerm_init) (defBody s_FieldTerm_init) (defScope s_FieldTerm_init) [] [] (He.ma K (He.ga K "FieldTerm") "__init__") fd := T.says.def_ 16 (d := d_FieldTerm_init) rfl
theorem Tx.f_FieldTerm_plain : ∃ fd, FunD K "plain" "FieldTerm.plain" (defArgs s_FieldTerm_plain) (defBody s_FieldTerm_plain) (defScope s_FieldTerm_plain) [] [] (He.ma K (He.ga K "FieldTerm") "plain") fd := T.says.def_ 17 (d := d_FieldTerm_plain) rfl
theorem Tx.f_CallTerm_init : ∃ fd, FunD K "__init__" "CallTerm.__init__" (defArgs s_CallTerm_init) (defBody s_CallTerm_init) (defScope s_CallTerm_init) [] [] (He.ma K (He.ga K "CallTerm") "__init__") fd := T.says.def_ 18 (d := d_CallTerm_init) rfl
theorem Tx.f_CallTerm_plain : ∃ fd, FunD K "plain" "CallTerm.plain" (defArgs s_CallTerm_plain) (defBody s_CallTerm_plain) (defScope s_CallTerm_plain) [] [] (He.ma K (He.ga K "CallTerm") "plain") fd := T.says.def_ 19 (d := d_CallTerm_plain) rfl
theorem Tx.f_NotTerm_init : ∃ fd, FunD K "__init__" "NotTerm.__init__" (defArgs s_NotTerm_init) (defBody s_NotTerm_init) (defScope s_NotTerm_init) [] [] (He.ma K (He.ga K "NotTerm") "__init__") fd := T.says.def_ 20 (d := d_NotTerm_init) rfl
theorem Tx.f_NotTerm_plain : ∃ fd, FunD K "plain" "NotTerm.plain" (defArgs s_NotTerm_plain) (defBody s_NotTerm_plain) (defScope s_NotTerm_plain) [] [] (He.ma K (He.ga K "NotTerm") "plain") fd := T.says.def_ 21 (d := d_NotTerm_plain) rfl
theorem Tx.f_TwoTerm_init : ∃ fd, FunD K "__init__" "TwoTerm.__init__" (defArgs s_TwoTerm_init) (defBody s_TwoTerm_init) (defScope s_TwoTerm_init) [] [] (He.ma K (He.ga K "TwoTerm") "__init__") fd := T.says.def_ 22 (d := d_TwoTerm_init) rfl
theorem Tx.f_TwoTerm_plain : ∃ fd, FunD K "plain" "TwoTerm.plain" (defArgs s_TwoTerm_plain) (defBody s_TwoTerm_plain) (defScope s_TwoTerm_plain) [] [] (He.ma K (He.ga K "TwoTerm") "plain") fd := T.says.def_ 23 (d := d_TwoTerm_plain) rfl
theorem Tx.f_IfTerm_init : ∃ fd, FunD K "__init__" "IfTerm.__init__" (defArgs s_IfTerm_init) (defBody s_IfTerm_init) (defScope s_IfTerm_init) [] [] (He.ma K (He.ga K "IfTerm") "__init__") fd := T.says.def_ 24 (d := d_IfTerm_init) rfl
theorem Tx.f_IfTerm_plain : ∃ fd, FunD K "plain" "IfTerm.plain" (defArgs s_IfTerm_plain) (defBody s_IfTerm_plain) (defScope s_IfTerm_plain) [] [] (He.ma K (He.ga K "IfTerm") "plain") fd := T.says.def_ 25 (d := d_IfTerm_plain) rfl
theorem Tx.f_LetTerm_init : ∃ fd, FunD K "__init__" "LetTerm.__init__" (defArgs s_LetTerm_init) (defBody s_LetTerm_init) (defScope s_LetTerm_init) [] [] (He.ma K (He.ga K "LetTerm") "__init__") fd := T.says.def_ 26 (d := d_LetTerm_init) rfl
theorem Tx.f_LetTerm_plain : ∃ fd, FunD K "plain" "LetTerm.plain" (defArgs s_LetTerm_plain) (defBody s_LetTerm_plain) (defScope s_LetTerm_plain) [] [] (He.ma K (He.ga K "LetTerm") "plain") fd := T.says.def_ 27 (d := d_LetTerm_plain) rfl
theorem Tx.f_SetTerm_init : ∃ fd, FunD K "__init__" "SetTerm.__init__" (defArgs s_SetTerm_init) (defBody s_SetTerm_init) (defScope s_SetTerm_init) [] [] (He.ma K (He.ga K "SetTerm") "__init__") fd := T.says.def_ 28 (d := d_SetTerm_init) rfl
theorem Tx.f_SetTerm_plain : ∃ fd, FunD K "plain" "SetTerm.plain" (defArgs s_SetTerm_plain) (defBody s_SetTerm_plain) (defScope s_SetTerm_plain) [] [] (He.ma K (He.ga K "SetTerm") "plain") fd := T.says.def_ 29 (d := d_SetTerm_plain) rfl
theorem Tx.f_Program_init : ∃ fd, FunD K "__init__" "Program.__init__" (defArgs s_Program_init) (defBody s_Program_init) (defScope s_Program_init) [] [] (He.ma K (He.ga K "Program") "__init__") fd := T.says.def_ 30 (d := d_Program_init) rfl
theorem Tx.f_Program_plain : ∃ fd, FunD K "plain" "Program.plain" (defArgs s_Program_plain) (defBody s_Program_plain) (defScope s_Program_plain) [] [] (He.ma K (He.ga K "Program") "plain") fd := T.says.def_ 31 (d := d_Program_plain) rfl
theorem Tx.f_is_told : ∃ fd, FunD K "is_told" "is_told" (defArgs s_is_told) (defBody s_is_told) (defScope s_is_told) [] [] (He.ga K "is_told") fd := T.says.def_ 32 (d := d_is_told) rfl
theorem Tx.f_are_all : ∃ fd, FunD K "are_all" "are_all" (defArgs s_are_all) (defBody s_are_all) (defScope s_are_all) [] [] (He.ga K "are_all") fd := T.says.def_ 33 (d := d_are_all) rfl
theorem Tx.f_is_number_row : ∃ fd, FunD K "is_number_row" "is_number_row" (defArgs s_is_number_row) (defBody s_is_number_row) (defScope s_is_number_row) [] [] (He.ga K "is_number_row") fd := T.says.def_ 34 (d := d_is_number_row) rfl
theorem Tx.f_is_name_row : ∃ fd, FunD K "is_name_row" "is_name_row" (defArgs s_is_name_row) (defBody s_is_name_row) (defScope s_is_name_row) [] [] (He.ga K "is_name_row") fd := T.says.def_ 35 (d := d_is_name_row) rfl
theorem Tx.f_is_name : ∃ fd, FunD K "is_name" "is_name" (defArgs s_is_name) (defBody s_is_name) (defScope s_is_name) [] [] (He.ga K "is_name") fd := T.says.def_ 36 (d := d_is_name) rfl
theorem Tx.f_need_row : ∃ fd, FunD K "need_row" "need_row" (defArgs s_need_row) (defBody s_need_row) (defScope s_need_row) [] [] (He.ga K "need_row") fd := T.says.def_ 37 (d := d_need_row) rfl
theorem Tx.f_words : ∃ fd, FunD K "words" "words" (defArgs s_words) (defBody s_words) (defScope s_words) [] [] (He.ga K "words") fd := T.says.def_ 38 (d := d_words) rfl
theorem Tx.f_strength : ∃ fd, FunD K "strength" "strength" (defArgs s_strength) (defBody s_strength) (defScope s_strength) [] [] (He.ga K "strength") fd := T.says.def_ 39 (d := d_strength) rfl
theorem Tx.f_Source_init : ∃ fd, FunD K "__init__" "Source.__init__" (defArgs s_Source_init) (defBody s_Source_init) (defScope s_Source_init) [] [] (He.ma K (He.ga K "Source") "__init__") fd := T.says.def_ 40 (d := d_Source_init) rfl
theorem Tx.f_Source_now : ∃ fd, FunD K "now" "Source.now" (defArgs s_Source_now) (defBody s_Source_now) (defScope s_Source_now) [] [] (He.ma K (He.ga K "Source") "now") fd := T.says.def_ 41 (d := d_Source_now) rfl
theorem Tx.f_Source_take : ∃ fd, FunD K "take" "Source.take" (defArgs s_Source_take) (defBody s_Source_take) (defScope s_Source_take) [] [] (He.ma K (He.ga K "Source") "take") fd := T.says.def_ 42 (d := d_Source_take) rfl
theorem Tx.f_Source_need : ∃ fd, FunD K "need" "Source.need" (defArgs s_Source_need) (defBody s_Source_need) (defScope s_Source_need) [] [] (He.ma K (He.ga K "Source") "need") fd := T.says.def_ 43 (d := d_Source_need) rfl
theorem Tx.f_Source_need_name : ∃ fd, FunD K "need_name" "Source.need_name" (defArgs s_Source_need_name) (defBody s_Source_need_name) (defScope s_Source_need_name) [] [] (He.ma K (He.ga K "Source") "need_name") fd := T.says.def_ 44 (d := d_Source_need_name) rfl
theorem Tx.f_Source_need_kind : ∃ fd, FunD K "need_kind" "Source.need_kind" (defArgs s_Source_need_kind) (defBody s_Source_need_kind) (defScope s_Source_need_kind) [] [] (He.ma K (He.ga K "Source") "need_kind") fd := T.says.def_ 45 (d := d_Source_need_kind) rfl
theorem Tx.f_Source_open_one : ∃ fd, FunD K "open_one" "Source.open_one" (defArgs s_Source_open_one) (defBody s_Source_open_one) (defScope s_Source_open_one) [] [] (He.ma K (He.ga K "Source") "open_one") fd := T.says.def_ 46 (d := d_Source_open_one) rfl
theorem Tx.f_Source_close_one : ∃ fd, FunD K "close_one" "Source.close_one" (defArgs s_Source_close_one) (defBody s_Source_close_one) (defScope s_Source_close_one) [] [] (He.ma K (He.ga K "Source") "close_one") fd := T.says.def_ 47 (d := d_Source_close_one) rfl
theorem Tx.f_Source_built : ∃ fd, FunD K "built" "Source.built" (defArgs s_Source_built) (defBody s_Source_built) (defScope s_Source_built) [] [] (He.ma K (He.ga K "Source") "built") fd := T.says.def_ 48 (d := d_Source_built) rfl
theorem Tx.f_read_given : ∃ fd, FunD K "read_given" "read_given" (defArgs s_read_given) (defBody s_read_given) (defScope s_read_given) [] [] (He.ga K "read_given") fd := T.says.def_ 49 (d := d_read_given) rfl
theorem Tx.f_read_atom : ∃ fd, FunD K "read_atom" "read_atom" (defArgs s_read_atom) (defBody s_read_atom) (defScope s_read_atom) [] [] (He.ga K "read_atom") fd := T.says.def_ 50 (d := d_read_atom) rfl
theorem Tx.f_read_chain : ∃ fd, FunD K "read_chain" "read_chain" (defArgs s_read_chain) (defBody s_read_chain) (defScope s_read_chain) [] [] (He.ga K "read_chain") fd := T.says.def_ 51 (d := d_read_chain) rfl
theorem Tx.f_read_set : ∃ fd, FunD K "read_set" "read_set" (defArgs s_read_set) (defBody s_read_set) (defScope s_read_set) [] [] (He.ga K "read_set") fd := T.says.def_ 52 (d := d_read_set) rfl
theorem Tx.f_read_start : ∃ fd, FunD K "read_start" "read_start" (defArgs s_read_start) (defBody s_read_start) (defScope s_read_start) [] [] (He.ga K "read_start") fd := T.says.def_ 53 (d := d_read_start) rfl
theorem Tx.f_read_term : ∃ fd, FunD K "read_term" "read_term" (defArgs s_read_term) (defBody s_read_term) (defScope s_read_term) [.int 1] [] (He.ga K "read_term") fd := T.says.def_ 54 (d := d_read_term) rfl
theorem Tx.f_read_params : ∃ fd, FunD K "read_params" "read_params" (defArgs s_read_params) (defBody s_read_params) (defScope s_read_params) [] [] (He.ga K "read_params") fd := T.says.def_ 55 (d := d_read_params) rfl
theorem Tx.f_read_house : ∃ fd, FunD K "read_house" "read_house" (defArgs s_read_house) (defBody s_read_house) (defScope s_read_house) [] [] (He.ga K "read_house") fd := T.says.def_ 56 (d := d_read_house) rfl
theorem Tx.f_read : ∃ fd, FunD K "read" "read" (defArgs s_read) (defBody s_read) (defScope s_read) [] [] (He.ga K "read") fd := T.says.def_ 57 (d := d_read) rfl
theorem Tx.f_z_cell_at : ∃ fd, FunD K "_law_cell_at" "_law_cell_at" (defArgs s_z_cell_at) (defBody s_z_cell_at) (defScope s_z_cell_at) [] [] (He.ga K "_law_cell_at") fd := T.says.def_ 58 (d := d_z_cell_at) rfl
theorem Tx.f_z_mixed : ∃ fd, FunD K "_law_mixed" "_law_mixed" (defArgs s_z_mixed) (defBody s_z_mixed) (defScope s_z_mixed) [] [] (He.ga K "_law_mixed") fd := T.says.def_ 59 (d := d_z_mixed) rfl
theorem Tx.f_z_name : ∃ fd, FunD K "_law_name" "_law_name" (defArgs s_z_name) (defBody s_z_name) (defScope s_z_name) [] [] (He.ga K "_law_name") fd := T.says.def_ 60 (d := d_z_name) rfl
theorem Tx.f_z_atom : ∃ fd, FunD K "_law_atom" "_law_atom" (defArgs s_z_atom) (defBody s_z_atom) (defScope s_z_atom) [] [] (He.ga K "_law_atom") fd := T.says.def_ 61 (d := d_z_atom) rfl
theorem Tx.f_z_taken : ∃ fd, FunD K "_law_taken" "_law_taken" (defArgs s_z_taken) (defBody s_z_taken) (defScope s_z_taken) [] [] (He.ga K "_law_taken") fd := T.says.def_ 62 (d := d_z_taken) rfl
theorem Tx.f_z_about : ∃ fd, FunD K "_law_about" "_law_about" (defArgs s_z_about) (defBody s_z_about) (defScope s_z_about) [] [] (He.ga K "_law_about") fd := T.says.def_ 63 (d := d_z_about) rfl
theorem Tx.f_z_joined : ∃ fd, FunD K "_law_joined" "_law_joined" (defArgs s_z_joined) (defBody s_z_joined) (defScope s_z_joined) [] [] (He.ga K "_law_joined") fd := T.says.def_ 64 (d := d_z_joined) rfl
theorem Tx.f_z_term : ∃ fd, FunD K "_law_term" "_law_term" (defArgs s_z_term) (defBody s_z_term) (defScope s_z_term) [] [] (He.ga K "_law_term") fd := T.says.def_ 65 (d := d_z_term) rfl
theorem Tx.f_z_params : ∃ fd, FunD K "_law_params" "_law_params" (defArgs s_z_params) (defBody s_z_params) (defScope s_z_params) [] [] (He.ga K "_law_params") fd := T.says.def_ 66 (d := d_z_params) rfl
theorem Tx.f_z_house : ∃ fd, FunD K "_law_house" "_law_house" (defArgs s_z_house) (defBody s_z_house) (defScope s_z_house) [] [] (He.ga K "_law_house") fd := T.says.def_ 67 (d := d_z_house) rfl
theorem Tx.f_z_program : ∃ fd, FunD K "_law_program" "_law_program" (defArgs s_z_program) (defBody s_z_program) (defScope s_z_program) [] [] (He.ga K "_law_program") fd := T.says.def_ 68 (d := d_z_program) rfl
theorem Tx.f_z_power : ∃ fd, FunD K "_law_power" "_law_power" (defArgs s_z_power) (defBody s_z_power) (defScope s_z_power) [] [] (He.ga K "_law_power") fd := T.says.def_ 69 (d := d_z_power) rfl
theorem Tx.f_z_bare : ∃ fd, FunD K "_law_bare" "_law_bare" (defArgs s_z_bare) (defBody s_z_bare) (defScope s_z_bare) [] [] (He.ga K "_law_bare") fd := T.says.def_ 70 (d := d_z_bare) rfl
theorem Tx.f_z_row : ∃ fd, FunD K "_law_row" "_law_row" (defArgs s_z_row) (defBody s_z_row) (defScope s_z_row) [] [] (He.ga K "_law_row") fd := T.says.def_ 71 (d := d_z_row) rfl
theorem Tx.f_z_inner : ∃ fd, FunD K "_law_inner" "_law_inner" (defArgs s_z_inner) (defBody s_z_inner) (defScope s_z_inner) [] [] (He.ga K "_law_inner") fd := T.says.def_ 72 (d := d_z_inner) rfl
theorem Tx.f_z_params_text : ∃ fd, FunD K "_law_params_text" "_law_params_text" (defArgs s_z_params_text) (defBody s_z_params_text) (defScope s_z_params_text) [] [] (He.ga K "_law_params_text") fd := T.says.def_ 73 (d := d_z_params_text) rfl
theorem Tx.f_z_shown : ∃ fd, FunD K "_law_shown" "_law_shown" (defArgs s_z_shown) (defBody s_z_shown) (defScope s_z_shown) [] [] (He.ga K "_law_shown") fd := T.says.def_ 74 (d := d_z_shown) rfl
theorem Tx.f_z_measured : ∃ fd, FunD K "_law_measured" "_law_measured" (defArgs s_z_measured) (defBody s_z_measured) (defScope s_z_measured) [] [] (He.ga K "_law_measured") fd := T.says.def_ 75 (d := d_z_measured) rfl
theorem Tx.f_z_is_great : ∃ fd, FunD K "_law_is_great" "_law_is_great" (defArgs s_z_is_great) (defBody s_z_is_great) (defScope s_z_is_great) [] [] (He.ga K "_law_is_great") fd := T.says.def_ 76 (d := d_z_is_great) rfl
theorem Tx.f_z_told : ∃ fd, FunD K "_law_told" "_law_told" (defArgs s_z_told) (defBody s_z_told) (defScope s_z_told) [] [] (He.ga K "_law_told") fd := T.says.def_ 77 (d := d_z_told) rfl
theorem Tx.f_law : ∃ fd, FunD K "law" "law" (defArgs s_law) (defBody s_law) (defScope s_law) [] [] (He.ga K "law") fd := T.says.def_ 78 (d := d_law) rfl
theorem Tx.exB : exB K = true := (Bool.and_eq_true_iff.mp T.more).2
/-- what of the errors' classes and of Term's own __init__ is told -/
structure XFacts (K : PySem.W.Frag) : Prop where
  ciT : ciB K (He.ga K "Term") (.ref (He.ma K (He.ga K "Term") "__init__")) = true
  kpT : PySem.W.keepIn K (.ref (He.ma K (He.ga K "Term") "__init__")) = true
  ciH : ciB K (He.ga K "HouseError") (.builtin "ValueError.__init__") = true
  ec : ecB K (He.ga K "BadWords") = true
  sa : PySem.W.findIn K (.ref (He.ga K "BadWords")) "__setattr__" = some (some (.builtin "object.__setattr__"))
  exC : PySem.W.subIn K (.ref (He.ga K "BadWords")) (.type "BaseException") = some true
  tyC : PySem.W.typeIn K (.ref (He.ga K "BadWords")) = some (.type "type")
  kC : PySem.W.keepIn K (.ref (He.ga K "BadWords")) = true
  iC : PySem.W.findIn K (.ref (He.ga K "BadWords")) "__init__" = some (some (.ref (He.ma K (He.ga K "BadWords") "__init__")))
  tI : PySem.W.typeIn K (.ref (He.ma K (He.ga K "BadWords") "__init__")) = some (.type "function")
  no : PySem.W.findIn K (.ref (He.ga K "BadWords")) "at" = some none
  xf : XfC K (He.ga K "BadWords")
  m0 : PySem.W.exmOne K (.ref (He.ga K "BadWords")) (.ref (He.ga K "BadForm")) = some false
  m1 : PySem.W.exmOne K (.ref (He.ga K "BadWords")) (.ref (He.ga K "BadWords")) = some true
theorem Tx.x : XFacts K := by
  have h := T.exB
  unfold EH.exB at h
  dsimp only at h
  simp only [Bool.and_eq_true] at h
  obtain ⟨a1, a2, a3, a4, a5, a6, a7, a8, a9, b1, b2, b3, b4, b5⟩ := h
  exact ⟨a1, a2, a3, a4, He.eqO_ok a5, of_decide_eq_true a6, of_decide_eq_true a7, a8, He.eqO_ok a9, of_decide_eq_true b1, He.eqO_ok b2, xfB_ok b3, of_decide_eq_true b4, of_decide_eq_true b5⟩
omit T in
theorem ecB_ok {C : Addr} (h : ecB K C = true) : ∃ nm q N bs bm sn sub ab col dd k0 k1 k2 k3 k5, K.lookup C = some (excClassObj nm q C N bs bm true sn sub ab col dd k0 k1 k2 k3 k5 "ValueError.__new__") ∧ PySem.HandSPX.refsVE bm = true := by
  unfold ecB at h
  cases e : K.lookup C with
  | none => rw [e] at h; cases h
  | some o =>
    obtain ⟨oc, od, dt, sl⟩ := o
    rw [e] at h
    cases oc with
    | type t =>
      cases dt with
      | cls cd =>
        obtain ⟨nm, bs, mro, ns, qn, hd, sn, sb, ab, col, del⟩ := cd
        simp only [Bool.and_eq_true, decide_eq_true_eq, Bool.not_eq_true'] at h
        obtain ⟨rfl, h2, rfl, rfl, h5⟩ := h
        cases mro with
        | nil => cases h2
        | cons c bm =>
          cases c with
          | ref C' =>
            simp only [Bool.and_eq_true, decide_eq_true_eq] at h2
            obtain ⟨rfl, h2⟩ := h2
            obtain ⟨sl⟩ := sl
            match sl, h5 with
            | [k0, k1, k2, k3, some (.builtin n), k5], h5 =>
              have en : n = "ValueError.__new__" := by simpa using h5
              subst en
              exact ⟨nm, qn, ns, bs, bm, sn, sb, ab, col, od, k0, k1, k2, k3, k5, rfl, h2⟩
          | _ => cases h2
      | _ => cases h
    | _ => cases h
theorem Tx.oex : OexC K (He.ga K "BadWords") := ⟨ecB_ok T.x.ec, T.x.sa, T.x.exC, T.x.tyC, T.x.kC⟩
end
end EH

set_option Elab.async false
set_option maxRecDepth 100000
set_option maxHeartbeats 4000000
/-! The walk's own words: a def that may be called, by its name. -/
namespace EH
open PySem PySem.Spec PyProof.Rows L2 TL

section
variable {P : Program} {w : World} {K : PySem.W.Frag} {mg : Str → Option Value} {base : Heap}
/-- the def x keeps its promise, by level k -/
def Cal (P : Program) (w : World) (K : PySem.W.Frag) (mg : Str → Option Value) (base : Heap) (CX : CXT) (k : Nat) (x : Str) (ps : List Str) (dvs : List V) (sp : Sp) : Prop :=
  ∃ (f : Addr) (fd : FuncData) (ds : List Value), FnOk P w K mg base CX k f fd ps sp ∧ mg x = some (.ref f) ∧ PySem.W.keepIn K (.ref f) = true ∧ Vals dvs ds ∧ Binds K fd ps ds
/-- the method m of the class at C -/
def CalM (P : Program) (w : World) (K : PySem.W.Frag) (mg : Str → Option Value) (base : Heap) (CX : CXT) (k : Nat) (C : Addr) (m : Str) (ps : List Str) (sp : Sp) : Prop :=
  ∃ (f : Addr) (fd : FuncData), FnOk P w K mg base CX k f fd ps sp ∧ Meth K C m f ∧ Cls K C ∧ Binds K fd ps []
/-- the class x is called, its __init__ keeps its promise -/
def CalC (P : Program) (w : World) (K : PySem.W.Frag) (mg : Str → Option Value) (base : Heap) (CX : CXT) (k : Nat) (x : Str) (C : Addr) (ps : List Str) (sp : Sp) : Prop :=
  ∃ (f : Addr) (fd : FuncData), FnOk P w K mg base CX k f fd ps sp ∧ Mk K C f ∧ mg x = some (.ref C) ∧ Binds K fd ps []
end

section
variable {X : Cx} {CX : CXT} {k : Nat} {C : Addr} {ps : List Str} {sp : Sp} {dvs : List V} {E : XK} {x m : Str} {p pos apos : Pos} {e o : Expr} {es : List Expr} {ta : TE} {t : TA}
theorem pe_cal (G : Cal X.prog X.w X.K X.mg X.base CX k x ps dvs sp) (hr : Room k X.A) (hx : Passes CX X E) (ha : L2.PA X (e :: es) t) (hg : Gl X x := by rfl) (hdb : (x == ("__debug__" : Str)) = false := by decide)
    (he : starEach (e :: es) X.env = (false, eval e X.env) :: starEach es X.env := by rfl) (hpl : (backTo pos (starEach es X.env)).any (·.1) = false := by rfl) : PE X (.Call (.Name x p) (e :: es) [] pos) (tCall sp dvs E t) :=
  let ⟨_, _, _, F, hm, hk, hd, hb⟩ := G
  pe_call F hr hg hm hk hb hd hx ha hdb he hpl
theorem pe_calm {pl : Sem Bool} (he : PE X o ta) (G : CalM X.prog X.w X.K X.mg X.base CX k C m ps sp) (hr : Room k X.A) (hx : Passes CX X E) (ha : L2.PA X (e :: es) t)
    (hst : starEach (e :: es) X.env = (false, eval e X.env) :: starEach es X.env := by rfl) (hpl : (backTo pos (starEach es X.env)).any (·.1) = false := by rfl)
    (ht : eval (.Call (.Attribute o m apos) (e :: es) [] pos) X.env = (do
      let ov ← eval o X.env
      standAt apos.atName
      let (f, first) ← holding [ov] (getMethod ov m pl)
      callWith pos f first (backTo pos (starEach (e :: es) X.env)) (backToKw pos (keywordEach [] X.env))) := by rfl) :
    PE X (.Call (.Attribute o m apos) (e :: es) [] pos) (tMeth C m sp [] E ta t) :=
  let ⟨_, _, F, hm, c, hb⟩ := G
  pe_meth he c hm F hr hb .nil hx ha hst hpl ht
theorem pe_calm0 {pl : Sem Bool} (he : PE X o ta) (G : CalM X.prog X.w X.K X.mg X.base CX k C m ps sp) (hr : Room k X.A) (hx : Passes CX X E)
    (ht : eval (.Call (.Attribute o m apos) [] [] pos) X.env = (do
      let ov ← eval o X.env
      standAt apos.atName
      let (f, first) ← holding [ov] (getMethod ov m pl)
      callWith pos f first (backTo pos (starEach [] X.env)) (backToKw pos (keywordEach [] X.env))) := by rfl) :
    PE X (.Call (.Attribute o m apos) [] [] pos) (tMeth C m sp [] E ta tNil) :=
  let ⟨_, _, F, hm, c, hb⟩ := G
  pe_meth0 he c hm F hr hb .nil hx ht
theorem pe_calc (G : CalC X.prog X.w X.K X.mg X.base CX k x C ps sp) (hr : Room (k + 1) X.A) (hx : Passes CX X E) (ha : L2.PA X (e :: es) t) (hg : Gl X x := by rfl) (hdb : (x == ("__debug__" : Str)) = false := by decide)
    (he : starEach (e :: es) X.env = (false, eval e X.env) :: starEach es X.env := by rfl) (hpl : (backTo pos (starEach es X.env)).any (·.1) = false := by rfl) : PE X (.Call (.Name x p) (e :: es) [] pos) (tMake C sp [] E t) :=
  let ⟨_, _, F, hM, hm, hb⟩ := G
  pe_make hM F hr hg hm hb .nil hx ha hdb he hpl
theorem pe_calc0 (G : CalC X.prog X.w X.K X.mg X.base CX k x C ps sp) (hr : Room (k + 1) X.A) (hx : Passes CX X E) (hg : Gl X x := by rfl) (hdb : (x == ("__debug__" : Str)) = false := by decide) : PE X (.Call (.Name x p) [] [] pos) (tMake C sp [] E tNil) :=
  let ⟨_, _, F, hM, hm, hb⟩ := G
  pe_make0 hM F hr hg hm hb .nil hx hdb
/-- a constant of the module -/
theorem pe_gi {i : Int} (h : ∃ t, X.mg x = some (.int i t)) (hg : Gl X x := by rfl) (hd : (x == ("__debug__" : Str)) = false := by decide) : PE X (.Name x p) (tC (.int i)) :=
  let ⟨t, h⟩ := h
  pe_glob hg h ⟨t, rfl⟩ hd
theorem pe_gs {z : Str} (h : ∃ t, X.mg x = some (.str z t)) (hg : Gl X x := by rfl) (hd : (x == ("__debug__" : Str)) = false := by decide) : PE X (.Name x p) (tC (.str z)) :=
  let ⟨t, h⟩ := h
  pe_glob hg h ⟨t, rfl⟩ hd
theorem pe_gr {a : Addr} (h : X.mg x = some (.ref a)) (hg : Gl X x := by rfl) (hd : (x == ("__debug__" : Str)) = false := by decide) : PE X (.Name x p) (tC (.ref a)) := pe_glob hg h rfl hd
/-- one of several readings -/
theorem PE.ex {ι : Type} {r : ι → TE} (h : ∀ i, PE X e (r i)) : PE X e (fun σ H Q => ∃ i, r i σ H Q) := ⟨fun pins s σ H Q I ⟨i, q⟩ => (h i).run pins s σ H Q I q⟩
end

section
variable {P : Program} {w : World} {K : PySem.W.Frag} {mg : Str → Option Value} {base : Heap}
/-- a def that lets no exception out -/
theorem cal_def {CX : CXT} {x : Str} {params : Arguments} {body : List Stmt} {scope : Scope} {f : Addr} {fd : FuncData} {N ps : List Str} {k : Nat} {sp : Sp} (F : FunD K x x params body scope [] [] f fd) (hm : mg x = some (.ref f)) (S : FnScope N ps scope)
    (hb : ∀ (kV doc pm : Value) (an : Option Addr) (cdv ct : Value) (us : List Value), us.length = ps.length → bindArgs (PySem.W.fnOf x x params body scope .none kV doc pm an cdv ct) ⟨us, []⟩ = pure (ps.zip us))
    (len : ∀ vs H Q E, sp vs H Q E → vs.length = ps.length)
    (hbody : ∀ (cdv : Value) (A : Around) (outer : List Env) (s : Shared) (H : Hp) (vs : List V) (Q : VK) (E : XK), Room k (A.deeper (envOfC x scope s.heap.objs.size f cdv)) → sp vs H Q E →
      ∃ t, PSs (cxOf CX P w K mg base N x scope f cdv A outer s H E).nox body t ∧ t { nx := fun _ H' => Q .non H', rt := Q } (start N vs) H) : Cal P w K mg base CX (k + 1) x ps [] sp := by
  refine ⟨f, fd, [], F.ok S len fun cdv A outer s H vs Q E hr h => ?_, hm, F.kp, .nil, F.bindsN hb⟩
  obtain ⟨t, h1, h2⟩ := hbody cdv A outer s H vs Q E hr h
  exact ⟨t, h1.nox, h2⟩
theorem fn_meth {CX : CXT} {m q : Str} {params : Arguments} {body : List Stmt} {scope : Scope} {f : Addr} {fd : FuncData} {N ps : List Str} {k : Nat} {sp : Sp} (F : FunD K m q params body scope [] [] f fd) (S : FnScope N ps scope)
    (hb : ∀ (kV doc pm : Value) (an : Option Addr) (cdv ct : Value) (us : List Value), us.length = ps.length → bindArgs (PySem.W.fnOf m q params body scope .none kV doc pm an cdv ct) ⟨us, []⟩ = pure (ps.zip us))
    (len : ∀ vs H Q E, sp vs H Q E → vs.length = ps.length)
    (hbody : ∀ (cdv : Value) (A : Around) (outer : List Env) (s : Shared) (H : Hp) (vs : List V) (Q : VK) (E : XK), Room k (A.deeper (envOfC q scope s.heap.objs.size f cdv)) → sp vs H Q E →
      ∃ t, PSs (cxOf CX P w K mg base N q scope f cdv A outer s H E).nox body t ∧ t { nx := fun _ H' => Q .non H', rt := Q } (start N vs) H) : FnOk P w K mg base CX (k + 1) f fd ps sp ∧ Binds K fd ps [] := by
  refine ⟨F.ok S len fun cdv A outer s H vs Q E hr h => ?_, F.bindsN hb⟩
  obtain ⟨t, h1, h2⟩ := hbody cdv A outer s H vs Q E hr h
  exact ⟨t, h1.nox, h2⟩
theorem cal_meth {CX : CXT} {m q : Str} {params : Arguments} {body : List Stmt} {scope : Scope} {f C : Addr} {fd : FuncData} {N ps : List Str} {k : Nat} {sp : Sp} (F : FunD K m q params body scope [] [] f fd) (hm : Meth K C m f) (hc : Cls K C) (S : FnScope N ps scope)
    (hb : ∀ (kV doc pm : Value) (an : Option Addr) (cdv ct : Value) (us : List Value), us.length = ps.length → bindArgs (PySem.W.fnOf m q params body scope .none kV doc pm an cdv ct) ⟨us, []⟩ = pure (ps.zip us))
    (len : ∀ vs H Q E, sp vs H Q E → vs.length = ps.length)
    (hbody : ∀ (cdv : Value) (A : Around) (outer : List Env) (s : Shared) (H : Hp) (vs : List V) (Q : VK) (E : XK), Room k (A.deeper (envOfC q scope s.heap.objs.size f cdv)) → sp vs H Q E →
      ∃ t, PSs (cxOf CX P w K mg base N q scope f cdv A outer s H E).nox body t ∧ t { nx := fun _ H' => Q .non H', rt := Q } (start N vs) H) : CalM P w K mg base CX (k + 1) C m ps sp :=
  let ⟨h1, h2⟩ := fn_meth F S hb len hbody
  ⟨f, fd, h1, hm, hc, h2⟩
theorem cal_init {CX : CXT} {x q : Str} {params : Arguments} {body : List Stmt} {scope : Scope} {f C : Addr} {fd : FuncData} {N ps : List Str} {k : Nat} {sp : Sp} (F : FunD K "__init__" q params body scope [] [] f fd) (hm : Mk K C f) (hg : mg x = some (.ref C)) (S : FnScope N ps scope)
    (hb : ∀ (kV doc pm : Value) (an : Option Addr) (cdv ct : Value) (us : List Value), us.length = ps.length → bindArgs (PySem.W.fnOf "__init__" q params body scope .none kV doc pm an cdv ct) ⟨us, []⟩ = pure (ps.zip us))
    (len : ∀ vs H Q E, sp vs H Q E → vs.length = ps.length)
    (hbody : ∀ (cdv : Value) (A : Around) (outer : List Env) (s : Shared) (H : Hp) (vs : List V) (Q : VK) (E : XK), Room k (A.deeper (envOfC q scope s.heap.objs.size f cdv)) → sp vs H Q E →
      ∃ t, PSs (cxOf CX P w K mg base N q scope f cdv A outer s H E).nox body t ∧ t { nx := fun _ H' => Q .non H', rt := Q } (start N vs) H) : CalC P w K mg base CX (k + 1) x C ps sp :=
  let ⟨h1, h2⟩ := fn_meth F S hb len hbody
  ⟨f, fd, h1, hm, hg, h2⟩
theorem Cal.mono {CX : CXT} {j k : Nat} {x : Str} {ps : List Str} {dvs : List V} {sp : Sp} (h : Cal P w K mg base CX j x ps dvs sp) (l : j ≤ k) : Cal P w K mg base CX k x ps dvs sp :=
  let ⟨f, fd, ds, F, r⟩ := h
  ⟨f, fd, ds, F.mono l, r⟩
end

/-! ### what stays -/
theorem Same.new {H : Hp} {p : Addr} {o : HO} (h : H p = none) : Same H (upd H p o) := fun a u e => by
  rw [upd_ne (ne_of_none e h)]
  exact e
theorem Same.seqT {K : PySem.W.Frag} {H H' : Hp} {a : Addr} {xs : List V} (e : Same H H') (h : SqT K H a xs) : SqT K H' a xs := by
  rcases h with (h | ⟨o, h⟩) | h
  · exact .inl (.inl (e _ _ h))
  · exact .inl (.inr ⟨o, e _ _ h⟩)
  · exact .inr h
end EH
namespace EH
open PySem PySem.Spec PyProof.Rows L2 TL
section
variable {A B : Prop}
theorem ifD {p : Prop} [Decidable p] (h1 : p → A) (h2 : ¬ p → B) : if decide p = true then A else B := by
  by_cases h : p
  · rw [if_pos (decide_eq_true h)]; exact h1 h
  · rw [if_neg (by simpa using h)]; exact h2 h
theorem ifDn {p : Prop} [Decidable p] (h1 : ¬ p → A) (h2 : p → B) : if (!decide p) = true then A else B := by
  by_cases h : p
  · rw [if_neg (by simp [h])]; exact h2 h
  · rw [if_pos (by simp [h])]; exact h1 h
theorem ifS {a b : Str} (h1 : a = b → A) (h2 : a ≠ b → B) : if decide (V.str a = V.str b) = true then A else B := ifD (fun h => h1 (V.str.inj h)) fun h => h2 fun e => h (congrArg V.str e)
theorem ifSn {a b : Str} (h1 : a ≠ b → A) (h2 : a = b → B) : if (!decide (V.str a = V.str b)) = true then A else B := ifDn (fun h => h1 fun e => h (congrArg V.str e)) fun h => h2 (V.str.inj h)
theorem ifI {a b : Int} (h1 : a = b → A) (h2 : a ≠ b → B) : if decide (V.int a = V.int b) = true then A else B := ifD (fun h => h1 (V.int.inj h)) fun h => h2 fun e => h (congrArg V.int e)
theorem ifIn {a b : Int} (h1 : a ≠ b → A) (h2 : a = b → B) : if (!decide (V.int a = V.int b)) = true then A else B := ifDn (fun h => h1 fun e => h (congrArg V.int e)) fun h => h2 (V.int.inj h)
theorem ifB {c : Bool} (h1 : c = true → A) (h2 : c = false → B) : if c = true then A else B := by
  cases c with
  | true => exact iteT (h1 rfl)
  | false => exact iteF (h2 rfl)
theorem ifBn {c : Bool} (h1 : c = false → A) (h2 : c = true → B) : if (!c) = true then A else B := by
  cases c with
  | true => exact iteF (h2 rfl)
  | false => exact iteT (h1 rfl)
end
theorem dS {a b : Str} : decide (V.str a = V.str b) = decide (a = b) := by
  by_cases h : a = b
  · subst h; simp
  · rw [decide_eq_false h, decide_eq_false (fun e => h (V.str.inj e))]
end EH
namespace EH
open PySem PySem.Spec PyProof.Rows L2 TL
section
variable {K : PySem.W.Frag} {H : Hp} {Q : VK} {x : V} {p : Addr} {xs : List V}
theorem r_inT (h : SqT K H p xs) (hx : flatV x = true) (hs : xs.all flatV = true) (k : Q (.bl (inV x xs)) H) : rIn K false x (.ref p) H Q := ⟨p, xs, rfl, .inr h, hx, hs, by rw [if_neg (by decide)]; exact k⟩
theorem r_inL (h : SqL K H p xs) (hx : flatV x = true) (hs : xs.all flatV = true) (k : Q (.bl (inV x xs)) H) : rIn K false x (.ref p) H Q := ⟨p, xs, rfl, .inl h, hx, hs, by rw [if_neg (by decide)]; exact k⟩
theorem r_ninT (h : SqT K H p xs) (hx : flatV x = true) (hs : xs.all flatV = true) (k : Q (.bl (!inV x xs)) H) : rIn K true x (.ref p) H Q := ⟨p, xs, rfl, .inr h, hx, hs, by rw [if_pos rfl]; exact k⟩
end
theorem inV_strs (x : Str) : ∀ l : List Str, inV (.str x) (l.map V.str) = l.contains x
  | [] => rfl
  | y :: l => by
    have ih := inV_strs x l
    have e : eqV (.str y) (.str x) = (x == y) := by
      show (y == x) = (x == y)
      exact BEq.comm
    show (eqV (.str y) (.str x) || inV (.str x) (l.map V.str)) = (x == y || l.contains x)
    rw [e, ih]
/-- an item of a list, of a tuple, by its place -/
theorem all_at {p : Nat → Bool} {l : List Nat} {i : Nat} {c : Nat} (h : l[i]? = some c) (ha : (l.take i).all p = true) (hc : p c = true) : (l.take (i + 1)).all p = true := by
  rw [List.take_add_one, h, List.all_append, ha]
  simp [hc]
theorem len_sz {n : Nat} (h : n ≤ 100000) : n ≤ sizeLine := Nat.le_trans h (by decide)
end EH

set_option Elab.async false
set_option maxRecDepth 100000
set_option maxHeartbeats 4000000
/-! Readings, step by step: one lemma a construct, each of which shows the next goal. -/
namespace EH
open PySem PySem.Spec PyProof.Rows L2 TL
section
variable {K : PySem.W.Frag} {σ : L2.St} {H : Hp} {Q : VK} {D : Ends} {t u : TS} {te ta tb tv : TE} {tc td : TT} {v x y : V} {i : Nat} {QT : Bool → Hp → Prop} {QA : List V → Hp → Prop} {tA : TA}
theorem z_seq (h : t { D with nx := u D } σ H) : tSeq t u D σ H := h
theorem z_ifs (h : tc σ H fun b H1 => if b = true then t D σ H1 else u D σ H1) : tIfS tc t u D σ H := h
theorem z_next (h : D.nx σ H) : tNext D σ H := h
theorem z_ret (h : te σ H D.rt) : tRet te D σ H := h
theorem z_retn (h : D.rt .non H) : tRetN D σ H := h
theorem z_cont (h : D.ct σ H) : tCont D σ H := h
theorem z_drop (h : te σ H fun _ H1 => D.nx σ H1) : tDrop te D σ H := h
theorem z_asg {g : TG} (h : te σ H fun x H1 => g x σ H1 D.nx) : tAsg te g D σ H := h
theorem z_gname {R : L2.St → Hp → Prop} (h : R (σ.set i (some v)) H) : gName i v σ H R := h
theorem z_var (e : σ[i]? = some (some v)) (h : Q v H) : tVar i σ H Q := ⟨v, e, h⟩
theorem z_c (h : Q v H) : tC v σ H Q := h
theorem z_op {r : R2} (h : ta σ H fun x H1 => tb σ H1 fun y H2 => r x y H2 Q) : tOp r ta tb σ H Q := h
theorem z_un {r : V → Hp → VK → Prop} (h : ta σ H fun x H1 => r x H1 Q) : tUn r ta σ H Q := h
/-- a value that is a truth -/
def BlR (x : V) (H : Hp) (QT : Bool → Hp → Prop) : Prop := ∃ k, x = .bl k ∧ QT k H
theorem z_bl {b : Bool} (h : QT b H) : BlR (.bl b) H QT := ⟨b, rfl, h⟩
theorem z_test (h : te σ H fun x H' => BlR x H' QT) : tTest te σ H QT := h
theorem z_B (h : te σ H fun x H' => BlR x H' QT) : tB te σ H QT := h
theorem z_and (h : tc σ H fun c H1 => if c = true then td σ H1 QT else QT false H1) : tAnd tc td σ H QT := h
theorem z_or (h : tc σ H fun c H1 => if c = true then QT true H1 else td σ H1 QT) : tOr tc td σ H QT := h
theorem z_not (h : tc σ H fun c H1 => QT (!c) H1) : tNot tc σ H QT := h
theorem z_andv (h : ta σ H fun x H1 => BlR x H1 fun c H1 => if c = true then tb σ H1 Q else Q (.bl false) H1) : tAndV ta tb σ H Q := h
theorem z_orv (h : ta σ H fun x H1 => BlR x H1 fun c H1 => if c = true then Q (.bl true) H1 else tb σ H1 Q) : tOrV ta tb σ H Q := h
theorem z_notv (h : ta σ H fun x H1 => BlR x H1 fun c H1 => Q (.bl (!c)) H1) : tNotV ta σ H Q := h
theorem z_nil (h : QA [] H) : tNil σ H QA := h
theorem z_cons (h : te σ H fun x H1 => tA σ H1 fun xs H2 => QA (x :: xs) H2) : tCons te tA σ H QA := h
theorem z_cb {r : List V → Hp → VK → Prop} (h : tA σ H fun vs H1 => r vs H1 Q) : tCB r tA σ H Q := h
theorem z_call {sp : Sp} {dvs : List V} {E : XK} (h : tA σ H fun vs H1 => sp (vs ++ dvs) H1 Q E) : tCall sp dvs E tA σ H Q := h
/-- a new tuple, a new list -/
def TupR (xs : List V) (H : Hp) (Q : VK) : Prop := xs.length ≤ sizeLine ∧ ∀ p, H p = none → Q (.ref p) (upd H p (.tup xs))
def LstR (xs : List V) (H : Hp) (Q : VK) : Prop := xs.length ≤ sizeLine ∧ ∀ p, H p = none → Q (.ref p) (upd H p (.lst xs))
theorem z_tup (h : tA σ H fun xs H1 => TupR xs H1 Q) : tTup tA σ H Q := h
theorem z_lst (h : tA σ H fun xs H1 => LstR xs H1 Q) : tLst tA σ H Q := h
theorem z_tupr {xs : List V} (hl : xs.length ≤ 100000) (h : ∀ p, H p = none → Q (.ref p) (upd H p (.tup xs))) : TupR xs H Q := ⟨len_sz hl, h⟩
theorem z_lstr {xs : List V} (hl : xs.length ≤ 100000) (h : ∀ p, H p = none → Q (.ref p) (upd H p (.lst xs))) : LstR xs H Q := ⟨len_sz hl, h⟩
/-- a field read -/
def FldR (K : PySem.W.Frag) (f : Str) (x : V) (H : Hp) (Q : VK) : Prop := ∃ a C dx fs v, x = .ref a ∧ H a = some (.ins C dx fs) ∧ Cls K C ∧ NoAttr K C f ∧ fs.lookup f = some v ∧ Q v H
theorem z_fld {f : Str} (h : ta σ H fun x H1 => FldR K f x H1 Q) : tFld K ta f σ H Q := h
theorem z_fldr {f : Str} {a C dx : Addr} {fs : List (Str × V)} (e : H a = some (.ins C dx fs)) (c : Cls K C) (n : NoAttr K C f) (l : fs.lookup f = some v) (h : Q v H) : FldR K f (.ref a) H Q := ⟨a, C, dx, fs, v, rfl, e, c, n, l, h⟩
/-- a field stored -/
def FldW (K : PySem.W.Frag) (f : Str) (y x : V) (H : Hp) (R : Hp → Prop) : Prop := ∃ a C dx fs, x = .ref a ∧ H a = some (.ins C dx fs) ∧ Cls K C ∧ NoAttr K C f ∧ fs.length < 1000 ∧ R (upd H a (.ins C dx (putF f y fs)))
theorem z_sfld {f : Str} (h : tv σ H fun y H1 => ta σ H1 fun x H2 => FldW K f y x H2 fun H3 => D.nx σ H3) : sFld K ta tv f D σ H := h
theorem z_fldw {f : Str} {a C dx : Addr} {fs : List (Str × V)} {R : Hp → Prop} (e : H a = some (.ins C dx fs)) (c : Cls K C) (n : NoAttr K C f) (l : fs.length < 1000) (h : R (upd H a (.ins C dx (putF f y fs)))) : FldW K f y (.ref a) H R := ⟨a, C, dx, fs, rfl, e, c, n, l, h⟩
/-- a field's value and what is added -/
def FldA (K : PySem.W.Frag) (f : Str) (tv : TE) (rd : V → V → Hp → VK → Prop) (σ : L2.St) (x : V) (H : Hp) (R : Hp → Prop) : Prop := ∃ a C dx fs v, x = .ref a ∧ H a = some (.ins C dx fs) ∧ Cls K C ∧ NoAttr K C f ∧ fs.lookup f = some v ∧
  tv σ H fun y H2 => rd v y H2 fun z H3 => ∃ dx' fs', H3 a = some (.ins C dx' fs') ∧ fs'.length < 1000 ∧ R (upd H3 a (.ins C dx' (putF f z fs')))
theorem z_flda {f : Str} {rd : V → V → Hp → VK → Prop} (h : ta σ H fun x H1 => FldA K f tv rd σ x H1 fun H3 => D.nx σ H3) : sFldAug K ta tv rd f D σ H := h
/-- a method's call -/
def MethR (C : Addr) (m : Str) (sp : Sp) (dvs : List V) (E : XK) (tA : TA) (σ : L2.St) (x : V) (H : Hp) (Q : VK) : Prop := ∃ a dx fs, x = .ref a ∧ H a = some (.ins C dx fs) ∧ fs.lookup m = none ∧ tA σ H fun vs H2 => sp (x :: (vs ++ dvs)) H2 Q E
theorem z_meth {C : Addr} {m : Str} {sp : Sp} {dvs : List V} {E : XK} (h : ta σ H fun x H1 => MethR C m sp dvs E tA σ x H1 Q) : tMeth C m sp dvs E ta tA σ H Q := h
theorem z_methr {C a dx : Addr} {m : Str} {sp : Sp} {dvs : List V} {E : XK} {fs : List (Str × V)} (e : H a = some (.ins C dx fs)) (l : fs.lookup m = none) (h : tA σ H fun vs H2 => sp (.ref a :: (vs ++ dvs)) H2 Q E) : MethR C m sp dvs E tA σ (.ref a) H Q := ⟨a, dx, fs, rfl, e, l, h⟩
/-- a class is called -/
def MakeR (C : Addr) (sp : Sp) (dvs : List V) (E : XK) (vs : List V) (H : Hp) (Q : VK) : Prop := ∀ x dx, H x = none → H dx = none → dx ≠ x → sp (.ref x :: (vs ++ dvs)) (upd (upd H dx (.own x)) x (.ins C dx [])) (fun v H2 => v = .non ∧ Q (.ref x) H2) E
theorem z_make {C : Addr} {sp : Sp} {dvs : List V} {E : XK} (h : tA σ H fun vs H1 => MakeR C sp dvs E vs H1 Q) : tMake C sp dvs E tA σ H Q := h
/-- operators on ints -/
theorem z_i0 {g : Int → Int → V} {i j : Int} (h : Q (g i j) H) : rI0 g (.int i) (.int j) H Q := ⟨i, j, rfl, rfl, h⟩
theorem z_i {C : Int → Int → Prop} {g : Int → Int → V} {i j : Int} (c : C i j) (h : Q (g i j) H) : rI C g (.int i) (.int j) H Q := ⟨i, j, rfl, rfl, c, h⟩
theorem z_iu {g : Int → V} {i : Int} (h : Q (g i) H) : rU g (.int i) H Q := ⟨i, rfl, h⟩
theorem z_radd {i j : Int} (h : Q (.int (i + j)) H) : rAdd (.int i) (.int j) H Q := ⟨i, j, rfl, rfl, h⟩
theorem z_rsub {i j : Int} (h : Q (.int (i - j)) H) : rSub (.int i) (.int j) H Q := ⟨i, j, rfl, rfl, h⟩
theorem z_mulr {i j : Int} (c : -(2 ^ 64) < j ∧ j < 2 ^ 64) (h : Q (.int (i * j)) H) : rI CMul (fun i j => .int (i * j)) (.int i) (.int j) H Q := ⟨i, j, rfl, rfl, .inr c, h⟩
theorem z_eqS {a b : Str} (h : Q (.bl (decide (V.str a = V.str b))) H) : rEq (.str a) (.str b) H Q := ⟨rfl, h⟩
theorem z_eqI {a b : Int} (h : Q (.bl (decide (V.int a = V.int b))) H) : rEq (.int a) (.int b) H Q := ⟨rfl, h⟩
theorem z_neS {a b : Str} (h : Q (.bl (!decide (V.str a = V.str b))) H) : rNe (.str a) (.str b) H Q := ⟨rfl, h⟩
theorem z_neI {a b : Int} (h : Q (.bl (!decide (V.int a = V.int b))) H) : rNe (.int a) (.int b) H Q := ⟨rfl, h⟩
theorem z_slice {r : V → Option Int → Option Int → Hp → VK → Prop} {tl th : TO} (h : te σ H fun x H1 => tl σ H1 fun l H2 => th σ H2 fun u H3 => r x l u H3 Q) : L2.tSl r te tl th σ H Q := h
theorem z_nopart {R : Option Int → Hp → Prop} (h : R none H) : tNoPart σ H R := h
/-- a slice's bound -/
def IntR (x : V) (H : Hp) (R : Option Int → Hp → Prop) : Prop := ∃ i, x = .int i ∧ R (some i) H
theorem z_part {R : Option Int → Hp → Prop} (h : te σ H fun x H1 => IntR x H1 R) : tPart te σ H R := h
theorem z_intr {R : Option Int → Hp → Prop} {i : Int} (h : R (some i) H) : IntR (.int i) H R := ⟨i, rfl, h⟩
theorem z_ixL {p : Addr} {xs : List V} {i : Int} (h : SqL K H p xs) (e : atI xs i = some v) (k : Q v H) : rIxL K (.ref p) (.int i) H Q := ⟨p, xs, i, v, rfl, rfl, h, e, k⟩
theorem z_ixT {p : Addr} {xs : List V} {i : Int} (h : SqT K H p xs) (e : atI xs i = some v) (k : Q v H) : rIxT K (.ref p) (.int i) H Q := ⟨p, xs, i, v, rfl, rfl, h, e, k⟩
theorem z_ixS {z : Str} {i : Int} {c : Nat} (hl : z.length ≤ 100000) (e : atI z.cps.toList i = some c) (k : Q (.str ⟨#[c]⟩) H) : rIxS (.str z) (.int i) H Q := ⟨z, i, c, rfl, rfl, len_sz hl, e, k⟩
theorem z_m1 {r : V → List V → Hp → VK → Prop} {to : TE} (h : to σ H fun x H1 => (∃ a, x = .str a) ∧ te σ H1 fun y H2 => r x [y] H2 Q) : tM1 r to te σ H Q := h
/-- a while by an invariant with a number that falls -/
def WhR (W : Nat → L2.St → Hp → Prop) (m : Nat) (t : TS) (D : Ends) (b : Bool) (σ : L2.St) (H : Hp) : Prop :=
  if b = true then ∃ N : L2.St → Hp → Prop, (∀ σ' H', N σ' H' → ∃ m', m' < m ∧ W m' σ' H') ∧ t { D with nx := N, ct := N, bk := D.nx } σ H else D.nx σ H
theorem z_while (W : Nat → L2.St → Hp → Prop) (m : Nat) (h0 : W m σ H) (hs : ∀ m σ H, W m σ H → tc σ H fun b H1 => WhR W m t D b σ H1) : tWhile tc t D σ H := ⟨W, ⟨m, h0⟩, hs⟩
theorem z_wh {W : Nat → L2.St → Hp → Prop} {m : Nat} {b : Bool} (h1 : b = true → t { D with nx := fun σ' H' => ∃ m', m' < m ∧ W m' σ' H', ct := fun σ' H' => ∃ m', m' < m ∧ W m' σ' H', bk := D.nx } σ H) (h2 : b = false → D.nx σ H) : WhR W m t D b σ H := by
  cases b with
  | true => exact (if_pos rfl).mpr ⟨_, fun _ _ z => z, h1 rfl⟩
  | false => exact (if_neg (by decide)).mpr (h2 rfl)
theorem z_whT {W : Nat → L2.St → Hp → Prop} {m : Nat} {b : Bool} (e : b = true) (h1 : t { D with nx := fun σ' H' => ∃ m', m' < m ∧ W m' σ' H', ct := fun σ' H' => ∃ m', m' < m ∧ W m' σ' H', bk := D.nx } σ H) : WhR W m t D b σ H := z_wh (fun _ => h1) fun z => by rw [e] at z; cases z
theorem z_whF {W : Nat → L2.St → Hp → Prop} {m : Nat} {b : Bool} (e : b = false) (h2 : D.nx σ H) : WhR W m t D b σ H := z_wh (fun z => by rw [e] at z; cases z) fun _ => h2
theorem bS {a b : Str} (h : a = b) : decide (V.str a = V.str b) = true := decide_eq_true (congrArg V.str h)
theorem bSf {a b : Str} (h : a ≠ b) : decide (V.str a = V.str b) = false := decide_eq_false fun e => h (V.str.inj e)
theorem bSn {a b : Str} (h : a ≠ b) : (!decide (V.str a = V.str b)) = true := by rw [bSf h]; rfl
theorem bSnf {a b : Str} (h : a = b) : (!decide (V.str a = V.str b)) = false := by rw [bS h]; rfl
/-- a test whose answer is known -/
theorem ifT {A B : Prop} {c : Bool} (e : c = true) (h : A) : if c = true then A else B := (if_pos e).mpr h
theorem ifF {A B : Prop} {c : Bool} (e : c = false) (h : B) : if c = true then A else B := (if_neg (by rw [e]; decide)).mpr h
end
end EH

set_option Elab.async false
set_option maxRecDepth 100000
set_option maxHeartbeats 4000000
/-! Own rules: C.__init__(self, ..) read off the class; data over the heap that grows. -/
namespace EH
open PySem PySem.Spec PyProof.Rows L2 TL
theorem ciB_ok {K : PySem.W.Frag} {C : Addr} {v : Value} (h : ciB K C v = true) : PySem.W.readsIn K C (.type "type") = true ∧ PySem.W.specialIn K (.ref C) "__getattribute__" = some (some (.builtin "type.__getattribute__")) ∧ PySem.W.findCls K (.ref C) (.type "type") "__init__" = some (.val v) := by
  unfold ciB at h
  simp only [Bool.and_eq_true] at h
  obtain ⟨h1, h2, h3⟩ := h
  refine ⟨h1, He.eqO_ok h2, ?_⟩
  cases e : PySem.W.findCls K (.ref C) (.type "type") "__init__" with
  | none => rw [e] at h3; cases h3
  | some r =>
    rw [e] at h3
    cases r with
    | val u =>
      have eu : u = v := of_decide_eq_true h3
      rw [eu]
    | _ => cases h3
section
variable {X : Cx} {CX : CXT} {k : Nat} {C : Addr} {f : Addr} {fd : FuncData} {ps : List Str} {sp : Sp} {E : XK} {x : Str} {p1 p2 pos : Pos} {e : Expr} {es : List Expr} {ta : TA}
/-- C.__init__(self, ..), C's own __init__ a def -/
theorem pe_cini {pl : Sem Bool} (hg : Gl X x) (hm : X.mg x = some (.ref C)) (hc : ciB X.K C (.ref f) = true) (F : FnOk X.prog X.w X.K X.mg X.base CX k f fd ps sp) (hk : PySem.W.keepIn X.K (.ref f) = true) (hr : Room k X.A) (hb : Binds X.K fd ps []) (hx : Passes CX X E) (ha : L2.PA X (e :: es) ta)
    (hev : eval (.Call (.Attribute (.Name x p1) "__init__" p2) (e :: es) [] pos) X.env = (do
      let ov ← eval (.Name x p1) X.env
      standAt p2.atName
      let (g, first) ← holding [ov] (getMethod ov "__init__" pl)
      callWith pos g first (backTo pos (starEach (e :: es) X.env)) (backToKw pos (keywordEach [] X.env))) := by rfl)
    (hdb : (x == ("__debug__" : Str)) = false := by decide) (he : starEach (e :: es) X.env = (false, eval e X.env) :: starEach es X.env := by rfl) (hpl : (backTo pos (starEach es X.env)).any (·.1) = false := by rfl) :
    PE X (.Call (.Attribute (.Name x p1) "__init__" p2) (e :: es) [] pos) (tCall sp [] E ta) := by
  obtain ⟨c1, c2, c3⟩ := ciB_ok hc
  refine ⟨fun pins s σ H Q I h => ?_⟩
  refine PySem.W.methodCall_KW (ld_glob I hg hm ?_ hdb) hev
  refine PySem.W.method_cls I.kIn c2 (PySem.W.cls_value I.kIn c1 c3 rfl ?_)
  refine PySem.W.callWith_K (first := []) (h₀ := X.base) I.ok.mod.kin hk (thn (ha.run pos pins _ σ H _ (I.tok _) h) fun us s1 ⟨vs, H1, I1, r, q⟩ => ⟨I1.kIn, ?_⟩) he hpl
  exact run_fn F hr hb .nil hx I1 r q
/-- C.__init__(self, ..), C's __init__ ValueError's own: nothing of it is told -/
theorem pe_hini {pl : Sem Bool} (hg : Gl X x) (hm : X.mg x = some (.ref C)) (hc : ciB X.K C (.builtin "ValueError.__init__") = true) (ha : L2.PA X (e :: es) ta)
    (hev : eval (.Call (.Attribute (.Name x p1) "__init__" p2) (e :: es) [] pos) X.env = (do
      let ov ← eval (.Name x p1) X.env
      standAt p2.atName
      let (g, first) ← holding [ov] (getMethod ov "__init__" pl)
      callWith pos g first (backTo pos (starEach (e :: es) X.env)) (backToKw pos (keywordEach [] X.env))) := by rfl)
    (hdb : (x == ("__debug__" : Str)) = false := by decide) (he : starEach (e :: es) X.env = (false, eval e X.env) :: starEach es X.env := by rfl) (hpl : (backTo pos (starEach es X.env)).any (·.1) = false := by rfl) :
    PE X (.Call (.Attribute (.Name x p1) "__init__" p2) (e :: es) [] pos) (tVeI X.K ta) := by
  obtain ⟨c1, c2, c3⟩ := ciB_ok hc
  refine ⟨fun pins s σ H Q I h => ?_⟩
  refine PySem.W.methodCall_KW (ld_glob I hg hm ?_ hdb) hev
  refine PySem.W.method_cls I.kIn c2 (PySem.W.cls_value I.kIn c1 c3 rfl ?_)
  refine PyProof.Rows.callWith_method1 (thn (ha.run pos pins _ σ H _ (I.tok _) h) fun us s1 ⟨vs, H1, I1, r1, a, D, ws, ev, hl, T, ea, q⟩ => ?_) he hpl
  subst ev
  cases r1 with
  | @cons _ u0 _ ur ra rw' =>
    obtain rfl : u0 = Value.ref a := ra
    exact oinit_ok T I1 ea (by rw [← Paired.length rw']; exact len_sz (by omega)) fun s' J => ⟨.non, H1, J, rfl, q⟩
end
/-! ### data over a heap that grows -/
mutual
theorem Dp.mono {K : PySem.W.Frag} {H H' : Hp} (h : Same H H') : ∀ {v : V} {d : PyData}, Dp K H v d → Dp K H' v d
  | _, _, .non => .non
  | _, _, .bl b => .bl b
  | _, _, .int i => .int i
  | _, _, .str x => .str x
  | _, _, .lst h1 h2 => .lst (h.seq h1) (DpAll.mono h h2)
  | _, _, .tup h1 h2 => .tup (Same.seqT h h1) (DpAll.mono h h2)
theorem DpAll.mono {K : PySem.W.Frag} {H H' : Hp} (h : Same H H') : ∀ {vs : List V} {ds : List PyData}, DpAll K H vs ds → DpAll K H' vs ds
  | _, _, .nil => .nil
  | _, _, .cons h1 h2 => .cons (Dp.mono h h1) (DpAll.mono h h2)
end
theorem DpAll.app {K : PySem.W.Frag} {H : Hp} : ∀ {vs ws : List V} {ds es : List PyData}, DpAll K H vs ds → DpAll K H ws es → DpAll K H (vs ++ ws) (ds ++ es)
  | _, _, _, _, .nil, k => k
  | _, _, _, _, .cons h1 h2, k => .cons h1 (DpAll.app h2 k)
theorem DpAll.len {K : PySem.W.Frag} {H : Hp} : ∀ {vs : List V} {ds : List PyData}, DpAll K H vs ds → vs.length = ds.length
  | _, _, .nil => rfl
  | _, _, .cons _ h2 => congrArg (· + 1) (DpAll.len h2)
theorem DpAll.get {K : PySem.W.Frag} {H : Hp} : ∀ {vs : List V} {ds : List PyData} {i : Nat} {d : PyData}, DpAll K H vs ds → ds[i]? = some d → ∃ v, vs[i]? = some v ∧ Dp K H v d
  | _, _, 0, _, .cons h1 _, e => ⟨_, rfl, by
    have e' := Option.some.inj (show some _ = some _ from e)
    rw [← e']; exact h1⟩
  | _, _, i + 1, d, .cons _ h2, e => DpAll.get (i := i) h2 e
end EH
namespace EH
open PySem PySem.Spec PyProof.Rows L2 TL
section
variable {K : PySem.W.Frag} {σ : L2.St} {H H1 : Hp} {Q : VK} {g : TG} {tt : TT} {te tl : TE} {vs : List Nat} {wi : TI} {x : V}
/-! ### comprehensions -/
def LcR (J : It) (g : TG) (tt : TT) (te : TE) (vs : List Nat) (σ : L2.St) (H1 : Hp) (Q : VK) : Prop := ∀ D, H1 D = none → ∃ W : Nat → Nat → Hp → Prop, (∃ m, W 0 m (upd H1 D (.lst []))) ∧ ∀ i m H, W i m H →
  (J.stop i H ∧ Q (.ref D) H) ∨ (J.go i H ∧ ∃ Nx : Hp → Prop, (∀ H', Nx H' → ∃ m', m' < m ∧ W (i + 1) m' H') ∧ ∀ x H', J.yld i H x H' → g x (wipe σ vs) H' fun σ2 H2 => wipe σ2 vs = wipe σ vs ∧ tt σ2 H2 fun b H3 =>
    if b = true then te σ2 H3 fun y H4 => ∃ acc, H4 D = some (.lst acc) ∧ acc.length < sizeLine ∧ Nx (upd H4 D (.lst (acc ++ [y]))) else Nx H3)
theorem z_lc (h : wi σ H fun J H1 => LcR J g tt te vs σ H1 Q) : tLc wi g tt te vs σ H Q := h
def IlR (K : PySem.W.Frag) (x : V) (H : Hp) (R : It → Hp → Prop) : Prop := ∃ a, x = .ref a ∧ (∃ xs, SqL K H a xs) ∧ R (Itl K a) H
theorem z_il {R : It → Hp → Prop} (h : tl σ H fun x H1 => IlR K x H1 R) : iList K tl σ H R := h
theorem z_ilr {R : It → Hp → Prop} {a : Addr} {xs : List V} (h : SqL K H a xs) (k : R (Itl K a) H) : IlR K (.ref a) H R := ⟨a, rfl, ⟨xs, h⟩, k⟩
def ItR (K : PySem.W.Frag) (x : V) (H : Hp) (R : It → Hp → Prop) : Prop := ∃ a, x = .ref a ∧ (∃ xs, SqT K H a xs) ∧ R (Itt K a) H
theorem z_it {R : It → Hp → Prop} (h : tl σ H fun x H1 => ItR K x H1 R) : iTup K tl σ H R := h
theorem z_itr {R : It → Hp → Prop} {a : Addr} {xs : List V} (h : SqT K H a xs) (k : R (Itt K a) H) : ItR K (.ref a) H R := ⟨a, rfl, ⟨xs, h⟩, k⟩
/-- the state between two turns: the list at D holds acc, all that stood stands -/
def LcI (H1 : Hp) (D : Addr) (R : Nat → List V → Hp → Prop) (i : Nat) (H : Hp) : Prop := ∃ acc, H D = some (.lst acc) ∧ acc.length ≤ i ∧ Same H1 H ∧ R i acc H
theorem Same.upd {H1 H : Hp} {D : Addr} {o : HO} (h : Same H1 H) (hD : H1 D = none) : Same H1 (upd H D o) := fun b u e => by
  rw [upd_ne (ne_of_none e hD)]
  exact h b u e
theorem z_lcr {J : It} {n : Nat} {G : Hp → Prop} {Y : Nat → Hp → V → Hp → Prop} (w : Walk J n G Y) (R : Nat → List V → Hp → Prop) (hG : ∀ H, Same H1 H → G H) (h0 : ∀ H, Same H1 H → R 0 [] H)
    (hs : ∀ D i acc x H H', H1 D = none → i < n → Same H1 H → acc.length ≤ i → H D = some (.lst acc) → R i acc H → Y i H x H' → g x (wipe σ vs) H' fun σ2 H2 => wipe σ2 vs = wipe σ vs ∧ tt σ2 H2 fun b H3 =>
      if b = true then te σ2 H3 fun y H4 => ∃ acc', H4 D = some (.lst acc') ∧ acc'.length < sizeLine ∧ LcI H1 D R (i + 1) (upd H4 D (.lst (acc' ++ [y]))) else LcI H1 D R (i + 1) H3)
    (hd : ∀ D acc H, H1 D = none → Same H1 H → H D = some (.lst acc) → R n acc H → Q (.ref D) H) : LcR J g tt te vs σ H1 Q := fun D hD => by
  refine lc_it w (LcI H1 D R) ⟨[], upd_same, Nat.le_refl _, Same.new hD, h0 _ (Same.new hD)⟩ (fun i H _ ⟨acc, _, _, hS, _⟩ => hG H hS) (fun i x H H' hi ⟨acc, ha, hl, hS, hR⟩ hY => hs D i acc x H H' hD hi hS hl ha hR hY) fun H ⟨acc, ha, _, hS, hR⟩ => hd D acc H hD hS ha hR
/-- a turn's end -/
theorem lc_end {D : Addr} {acc : List V} {i : Nat} {H H4 : Hp} {R : Nat → List V → Hp → Prop} {y : V} (hD : H1 D = none) (hS : Same H1 H) (ha : H D = some (.lst acc)) (hl : acc.length ≤ i) (hi : i ≤ 50000) (h4 : Same H H4) (hR : ∀ H5, H5 D = some (.lst (acc ++ [y])) → (∀ b o, b ≠ D → H4 b = some o → H5 b = some o) → Same H1 H5 → R (i + 1) (acc ++ [y]) H5) :
    ∃ acc', H4 D = some (.lst acc') ∧ acc'.length < sizeLine ∧ LcI H1 D R (i + 1) (upd H4 D (.lst (acc' ++ [y]))) :=
  ⟨acc, h4 _ _ ha, Nat.lt_of_lt_of_le (by omega : acc.length < 100000) (len_sz (Nat.le_refl _)), acc ++ [y], upd_same, by rw [List.length_append]; exact Nat.succ_le_succ hl, Same.upd (hS.trans h4) hD,
    hR _ upd_same (fun b o hb e => by rw [upd_ne hb]; exact e) (Same.upd (hS.trans h4) hD)⟩
end
end EH
namespace EH
open PySem PySem.Spec PyProof.Rows L2 TL
section
variable {X : Cx} {K : PySem.W.Frag} {e : Expr} {ta : TE} {f : Str} {pos : Pos}
/-! ### rules whose reading names the written part itself (for a comprehension's own block) -/
theorem pe_fldK (hK : X.K = K) (he : PE X e ta) (hb : attributeBase e f X.env (eval e X.env) = eval e X.env) : PE X (.Attribute e f pos) (tFld K ta f) := by
  subst hK
  exact pe_fld he hb
theorem ix_listK (hK : X.K = K) : IxR X (rIxL K) := by
  subst hK
  exact ix_list
theorem ix_tupK (hK : X.K = K) : IxR X (rIxT K) := by
  subst hK
  exact ix_tup
theorem op_in_seqK (hK : X.K = K) : OpR X (compareOp .In) (rIn K false) := by
  subst hK
  exact op_in_seq
def rLenK (K : PySem.W.Frag) : List V → Hp → VK → Prop := fun xs H Q => ∃ p ys, xs = [.ref p] ∧ (SqL K H p ys ∨ SqT K H p ys) ∧ Q (.int ys.length) H
theorem call_len_seqK (hK : X.K = K) : CallR X (.builtin "len") (rLenK K) := by
  subst hK
  exact call_len_seq
theorem sl_listK (hK : X.K = K) : SlR X (rSlL K) := by
  subst hK
  exact sl_list
end
end EH
namespace EH
open PySem PySem.Spec PyProof.Rows L2 TL
theorem z_yes {σ : L2.St} {H : Hp} {QT : Bool → Hp → Prop} (h : QT true H) : tYes σ H QT := h
/-- a method of a list -/
def BmR (K : PySem.W.Frag) (Tn : String) (r : V → List V → Hp → VK → Prop) (t : TA) (σ : L2.St) (x : V) (H : Hp) (Q : VK) : Prop := tyV K Tn x H ∧ t σ H fun xs H2 => r x xs H2 Q
theorem z_bm {K : PySem.W.Frag} {Tn : String} {r : V → List V → Hp → VK → Prop} {t : TA} {to : TE} {σ : L2.St} {H : Hp} {Q : VK} (h : to σ H fun x H1 => BmR K Tn r t σ x H1 Q) : tBM K Tn r to t σ H Q := h
theorem z_bml {K : PySem.W.Frag} {r : V → List V → Hp → VK → Prop} {t : TA} {σ : L2.St} {H : Hp} {Q : VK} {F : Addr} {xs : List V} (e : SqL K H F xs) (h : t σ H fun ys H2 => r (.ref F) ys H2 Q) : BmR K "list" r t σ (.ref F) H Q := ⟨.inl ⟨rfl, xs, e⟩, h⟩
theorem z_appd {H : Hp} {Q : VK} {F : Addr} {xs : List V} {y : V} (e : H F = some (.lst xs)) (hl : xs.length ≤ 50000) (h : Q .non (upd H F (.lst (xs ++ [y])))) : rAppend (.ref F) [y] H Q := ⟨F, xs, y, rfl, rfl, e, Nat.lt_of_le_of_lt hl (Nat.lt_of_lt_of_le (by decide : 50000 < 100000) (len_sz (Nat.le_refl _))), h⟩
/-! ### what is new -/
/-- of H what did not stand in H0 -/
def nw (H0 H : Hp) : Hp := fun b => match H0 b with
  | none => H b
  | some _ => none
theorem nw_of {H0 H : Hp} {b : Addr} {o : HO} (h0 : H0 b = none) (h : H b = some o) : nw H0 H b = some o := by
  unfold nw
  rw [h0]
  exact h
theorem nw_at {H0 H : Hp} {b : Addr} {o : HO} (h : nw H0 H b = some o) : H0 b = none ∧ H b = some o := by
  unfold nw at h
  cases e : H0 b with
  | none => rw [e] at h; exact ⟨rfl, h⟩
  | some _ => rw [e] at h; cases h
theorem nw_sub {H0 H : Hp} : Same (nw H0 H) H := fun b o h => (nw_at h).2
/-- what stood in H stands in H' in some form -/
def Fr (H H' : Hp) : Prop := ∀ b, H' b = none → H b = none
theorem Fr.refl {H : Hp} : Fr H H := fun _ h => h
theorem Fr.trans {H H1 H2 : Hp} (a : Fr H H1) (b : Fr H1 H2) : Fr H H2 := fun x h => a x (b x h)
theorem Fr.same {H H' : Hp} (s : Same H H') : Fr H H' := fun b h => by
  cases e : H b with
  | none => rfl
  | some o => rw [s b o e] at h; cases h
theorem nw_mono {H0 H1 H2 H3 : Hp} (h1 : Fr H0 H1) (h2 : ∀ b o, H1 b = none → H2 b = some o → H3 b = some o) : Same (nw H1 H2) (nw H0 H3) := fun b o h => by
  obtain ⟨a, c⟩ := nw_at h
  exact nw_of (h1 b a) (h2 b o a c)
theorem nw_same {H0 H1 H2 H3 : Hp} (h1 : Same H0 H1) (h2 : Same H2 H3) : Same (nw H1 H2) (nw H0 H3) := nw_mono (Fr.same h1) fun b o _ h => h2 b o h
/-- the heap without the object at p -/
def cut (p : Addr) (H : Hp) : Hp := fun b => if b = p then none else H b
theorem cut_ne {p b : Addr} {H : Hp} (h : b ≠ p) : cut p H b = H b := if_neg h
theorem cut_at {p b : Addr} {H : Hp} {o : HO} (h : cut p H b = some o) : b ≠ p ∧ H b = some o := by
  unfold cut at h
  by_cases e : b = p
  · rw [if_pos e] at h; cases h
  · rw [if_neg e] at h; exact ⟨e, h⟩
theorem cut_same (p : Addr) (H : Hp) : Same (cut p H) H := fun b o h => (cut_at h).2
theorem cut_of {x p : Addr} {H : Hp} {o : HO} (h : H p = some o) (n : p ≠ x) : cut x H p = some o := by rw [cut_ne n]; exact h
section
variable {σ : L2.St} {H H1 : Hp} {Q : VK} {g : TG} {tt : TT} {te tl : TE} {vs : List Nat} {wi : TI} {x : V}
/-- z_lcr, what is kept may speak of the new list's place -/
theorem z_lcj {J : It} {n : Nat} {G : Hp → Prop} {Y : Nat → Hp → V → Hp → Prop} (w : Walk J n G Y) (R : Addr → Nat → List V → Hp → Prop) (hG : ∀ H, Same H1 H → G H) (h0 : ∀ D H, H1 D = none → Same H1 H → R D 0 [] H)
    (hs : ∀ D i acc x H H', H1 D = none → i < n → Same H1 H → acc.length ≤ i → H D = some (.lst acc) → R D i acc H → Y i H x H' → g x (wipe σ vs) H' fun σ2 H2 => wipe σ2 vs = wipe σ vs ∧ tt σ2 H2 fun b H3 =>
      if b = true then te σ2 H3 fun y H4 => ∃ acc', H4 D = some (.lst acc') ∧ acc'.length < sizeLine ∧ LcI H1 D (R D) (i + 1) (upd H4 D (.lst (acc' ++ [y]))) else LcI H1 D (R D) (i + 1) H3)
    (hd : ∀ D acc H, H1 D = none → Same H1 H → H D = some (.lst acc) → R D n acc H → Q (.ref D) H) : LcR J g tt te vs σ H1 Q := fun D hD => by
  refine lc_it w (LcI H1 D (R D)) ⟨[], upd_same, Nat.le_refl _, Same.new hD, h0 _ _ hD (Same.new hD)⟩ (fun i H _ ⟨acc, _, _, hS, _⟩ => hG H hS) (fun i x H H' hi ⟨acc, ha, hl, hS, hR⟩ hY => hs D i acc x H H' hD hi hS hl ha hR hY) fun H ⟨acc, ha, _, hS, hR⟩ => hd D acc H hD hS ha hR
/-- items of data gathered in a new list: a turn's end -/
theorem lc_dp {D : Addr} {acc : List V} {i : Nat} {H H4 : Hp} {ds : List PyData} {d : PyData} {y : V} {K : PySem.W.Frag} {R : Nat → List V → Hp → Prop} (hD : H1 D = none) (hS : Same H1 H) (ha : H D = some (.lst acc)) (hl : acc.length ≤ i) (hi : i ≤ 50000) (h4 : Same H H4)
    (hA : DpAll K (cut D (nw H1 H)) acc ds) (hy : Dp K (nw H H4) y d) (hR : ∀ H5, Same H1 H5 → DpAll K (cut D (nw H1 H5)) (acc ++ [y]) (ds ++ [d]) → R (i + 1) (acc ++ [y]) H5) :
    ∃ acc', H4 D = some (.lst acc') ∧ acc'.length < sizeLine ∧ LcI H1 D R (i + 1) (upd H4 D (.lst (acc' ++ [y]))) := by
  refine lc_end hD hS ha hl hi h4 fun H5 _ keep s5 => hR H5 s5 ?_
  have s1 : Same (cut D (nw H1 H)) (cut D (nw H1 H5)) := fun b o e => by
    obtain ⟨n, e⟩ := cut_at e
    obtain ⟨e1, e2⟩ := nw_at e
    exact cut_of (nw_of e1 (keep b o n (h4 b o e2))) n
  have s2 : Same (nw H H4) (cut D (nw H1 H5)) := fun b o e => by
    obtain ⟨e1, e2⟩ := nw_at e
    have n : b ≠ D := fun z => by rw [z, ha] at e1; cases e1
    exact cut_of (nw_of (Fr.same hS b e1) (keep b o n e2)) n
  exact DpAll.app (DpAll.mono s1 hA) (.cons (Dp.mono s2 hy) .nil)
end
/-! ### for, targets -/
def ForR (J : It) (g : TG) (tb : TS) (D : Ends) (σ : L2.St) (H : Hp) : Prop := ∃ W : Nat → Nat → L2.St → Hp → Prop, (∃ m, W 0 m σ H) ∧ ∀ i m σ H, W i m σ H →
  (J.stop i H ∧ D.nx σ H) ∨ (J.go i H ∧ ∃ N : L2.St → Hp → Prop, (∀ σ' H', N σ' H' → ∃ m', m' < m ∧ W (i + 1) m' σ' H') ∧ ∀ x H', J.yld i H x H' → g x σ H' fun σ2 H2 => tb { D with nx := N, ct := N, bk := D.nx } σ2 H2)
theorem z_for {wi : TI} {g : TG} {tb : TS} {D : Ends} {σ : L2.St} {H : Hp} (h : wi σ H fun J H1 => ForR J g tb D σ H1) : tFor wi g tb D σ H := h
theorem z_forr {J : It} {n : Nat} {G : Hp → Prop} {Y : Nat → Hp → V → Hp → Prop} (w : Walk J n G Y) {g : TG} {tb : TS} {D : Ends} {σ : L2.St} {H : Hp} (Pv : Nat → L2.St → Hp → Prop) (h0 : Pv 0 σ H) (hG : ∀ i σ H, i ≤ n → Pv i σ H → G H)
    (hs : ∀ i x σ H H', i < n → Pv i σ H → Y i H x H' → g x σ H' fun σ2 H2 => tb { D with nx := Pv (i + 1), ct := Pv (i + 1), bk := D.nx } σ2 H2) (hd : ∀ σ H, Pv n σ H → D.nx σ H) : ForR J g tb D σ H := for_it w Pv h0 hG hs hd
theorem z_gtup {K : PySem.W.Frag} {n : Nat} {t : TGs} {σ : L2.St} {H : Hp} {Q : L2.St → Hp → Prop} {a : Addr} {xs : List V} (h : SqT K H a xs) (e : xs.length = n) (k : t xs σ H Q) : gTup K n t (.ref a) σ H Q := ⟨a, xs, rfl, h, e, k⟩
theorem z_gcons {t : TG} {u : TGs} {v : V} {r : List V} {σ : L2.St} {H : Hp} {Q : L2.St → Hp → Prop} (h : t v σ H fun σ' H' => u r σ' H' Q) : gCons t u (v :: r) σ H Q := ⟨v, r, rfl, h⟩
theorem z_gnil {σ : L2.St} {H : Hp} {Q : L2.St → Hp → Prop} (h : Q σ H) : gNil [] σ H Q := ⟨rfl, h⟩
end EH

set_option Elab.async false
set_option maxRecDepth 100000
set_option maxHeartbeats 4000000
set_option linter.unusedVariables false
/-! enumerate over a text. -/
namespace EH
open PySem PySem.Spec PyProof.Rows L2 TL
/-- the signs of x, each behind its number, in a new pair -/
def Ites (x : Str) : It :=
  ⟨fun i _ => i < x.cps.size, fun i H v H' => ∃ T c, v = .ref T ∧ H T = none ∧ H' = upd H T (.tup [.int (i : Nat), .str ⟨#[c]⟩]) ∧ x.cps[i]? = some c, fun i _ => x.cps.size ≤ i⟩
theorem turn_enumS {P : Program} {w : World} {K : PySem.W.Frag} {elts : List Expr} {kk : Nat} {tpos : Pos} (x : Str) (t : Tok) (e it : Addr) :
    Turn P w K (.Tuple elts kk tpos) (Ites x) [e, it] e (fun i h => (∃ old, IsEnum h e it ((i : Nat) : Int) old) ∧ h.IsStrIter it (strIterType x) x t i ∧ e ≠ it ∧ i ≤ x.cps.size) where
  mem := by simp
  obj := fun i h st b hb => by
    obtain ⟨⟨old, he⟩, ⟨o, ho, hc, hd⟩, _⟩ := st
    have e' : b = e ∨ b = it := by simpa using hb
    rcases e' with z | z
    · rw [z]; exact ⟨_, he, fun v q => nomatch q⟩
    · rw [z]; exact ⟨o, ho, fun v q => by rw [hd] at q; cases q⟩
  keep := fun i h h' st k => by
    obtain ⟨⟨old, he⟩, ⟨o, ho, hc, hd⟩, hne, hle⟩ := st
    exact ⟨⟨old, k e (by simp) _ he⟩, ⟨o, k it (by simp) _ ho, hc, hd⟩, hne, hle⟩
  item := by
    intro X hP hw hK hc i pins s σ H E I hf st hg
    subst hP hw hK
    obtain ⟨⟨old, he⟩, hit, hne, _⟩ := st
    have hg' : i < x.cps.size := hg
    have hel : e < s.heap.objs.size := Heap.lt_size he
    have hil : it < s.heap.objs.size := by obtain ⟨_, q, _⟩ := hit; exact Heap.lt_size q
    have D : Draws X.prog X.w X.A.in1 it [it] x.cps.size (fun i v => ∃ c u, x.cps[i]? = some c ∧ v = .str ⟨#[c]⟩ u) (fun i h => h.IsStrIter it (strIterType x) x t i) := Draws.text (A := X.A.in1) (I.ok.hd hc) it x t
    refine wpAny_pyNext_enum_itemD D he hit hg' hne (by simpa using hne) fun u h' tk hu ho hit' hT hsz hk => ?_
    obtain ⟨c, tc, hcx, rfl⟩ := hu
    refine ⟨_, rfl, wpAny_letOwnedTupleGo_enum (s := { s with heap := h', toks := tk + 1 }) ho fun h'' he' sb => ?_⟩
    have hT2 : h''.get? s.heap.objs.size = some { cls := .type "tuple", data := .seq #[.int i tk, .str ⟨#[c]⟩ tc] } := (sb.2 _ (Nat.ne_of_gt hel)).trans hT
    have new : ObjOk X.prog X.w (upd H s.heap.objs.size (.tup [.int (i : Nat), .str ⟨#[c]⟩])) h'' s.heap.objs.size (.tup [.int (i : Nat), .str ⟨#[c]⟩]) :=
      ⟨by show 2 ≤ sizeLine; decide, [.int i tk, .str ⟨#[c]⟩ tc], .cons ⟨_, rfl⟩ (.cons ⟨_, rfl⟩ .nil), ⟨_, hT2, rfl, _, rfl⟩⟩
    have I1 : Inv X pins σ (upd H s.heap.objs.size (.tup [.int (i : Nat), .str ⟨#[c]⟩])) { s with heap := h'', toks := tk + 1 } :=
      I.turnedNew (ch := [e, it]) (fun b ob hb q => (sb.2 b (fun z => hb (by simp [z]))).trans (hk b ob (fun z => hb (by simp [z])) (fun z => hb (by simp [z])) q)) hf (Nat.le_refl _) new
    refine ⟨.ref s.heap.objs.size, _, I1, rfl, ⟨_, c, rfl, I.hok.fresh (Nat.le_refl _), rfl, hcx⟩, ⟨⟨.str ⟨#[c]⟩ tc, ?_⟩, ?_, hne, hg'⟩, fun b hb => ?_⟩
    · have e1 : ((i + 1 : Nat) : Int) = (i : Int) + 1 := by omega
      rw [e1]; exact he'
    · obtain ⟨o, ho1, ho2, ho3⟩ := hit'
      exact ⟨o, (sb.2 it (Ne.symm hne)).trans ho1, ho2, ho3⟩
    · have hb' : b < s.heap.objs.size := by
        have e' : b = e ∨ b = it := by simpa using hb
        rcases e' with z | z
        · rw [z]; exact hel
        · rw [z]; exact hil
      rw [upd_ne (Nat.ne_of_lt hb')]
      exact (hf b hb).1
  done := by
    intro X hP hw hK hc i pins s σ H E I hf st hg
    subst hP hw hK
    obtain ⟨⟨old, he⟩, hit, hne, hle⟩ := st
    have hg' : x.cps.size ≤ i := hg
    have ei : i = x.cps.size := Nat.le_antisymm hle hg'
    have D : Draws X.prog X.w X.A.in1 it [it] x.cps.size (fun i v => ∃ c u, x.cps[i]? = some c ∧ v = .str ⟨#[c]⟩ u) (fun i h => h.IsStrIter it (strIterType x) x t i) := Draws.text (A := X.A.in1) (I.ok.hd hc) it x t
    obtain ⟨f0, f1, f2, f3, f4, f5⟩ := hf it (by simp)
    exact wpAny_pyNext_enum_endD D he (by rw [ei] at hit; exact hit) fun h' eb => ⟨rfl, I.turned (t' := s.toks) (fun b o hb q => eb b o hb q) f0 f1 f3 f4 f5⟩
  self := fun A i s Q E st h => let ⟨⟨_, he⟩, _⟩ := st; wpAny_pyIter_enum he h
def EsR (vs : List V) (H : Hp) (R : It → Hp → Prop) : Prop := ∃ x, vs = [.str x] ∧ R (Ites x) H
def iEnumS (ta : TA) : TI := fun σ H R => ta σ H fun vs H1 => EsR vs H1 R
theorem pi_enumS {X : Cx} {e : Expr} {ta : TA} {p pos tpos : Pos} {elts : List Expr} {kk : Nat} (hg : Gl X "enumerate") (hm : X.mg "enumerate" = none) (ha : L2.PA X [e] ta) (hs : starEach [e] X.env = [(false, eval e X.env)] := by rfl) :
    PI X (.Tuple elts kk tpos) (.Call (.Name "enumerate" p) [e] [] pos) (iEnumS ta) := by
  refine ⟨fun pins s σ H R I h => ?_⟩
  refine Call_ (ld_blt I hg hm boot_enumerate (PyProof.Rows.callWith_type1 (thn (ha.run pos pins s σ H _ I h) fun us s1 ⟨vs, H1, I1, r1, q1⟩ => ?_) hs rfl))
  obtain ⟨x, ex, q⟩ := q1
  subst ex
  cases r1 with
  | cons r rr =>
    cases rr
    obtain ⟨t, rfl⟩ := r
    refine call_enumerate_str fun h' he hit hsz hk => wpAny_pyIter_enum he ?_
    have I2 : Inv X pins σ H1 { s1 with heap := h' } := I1.kept (t' := s1.toks) hk
    refine ⟨s1.heap.objs.size + 1, [s1.heap.objs.size + 1, s1.heap.objs.size], _, _, H1, rfl, I2, turn_enumS x t (s1.heap.objs.size + 1) s1.heap.objs.size, ⟨⟨.none, he⟩, hit, Nat.succ_ne_self _, Nat.zero_le _⟩, fun b hb => ?_, q⟩
    have e' : b = s1.heap.objs.size + 1 ∨ b = s1.heap.objs.size := by simpa using hb
    have hle : s1.heap.objs.size ≤ b := by
      rcases e' with z | z
      · rw [z]; exact Nat.le_add_right _ _
      · rw [z]; exact Nat.le_refl _
    exact I1.fpOk hle (I1.hok.fresh hle)
theorem z_es {ta : TA} {σ : L2.St} {H : Hp} {R : It → Hp → Prop} (h : ta σ H fun vs H1 => EsR vs H1 R) : iEnumS ta σ H R := h
theorem walk_es {x : Str} : Walk (Ites x) x.cps.size (fun _ => True) (fun i H v H' => ∃ T c, v = .ref T ∧ H T = none ∧ H' = upd H T (.tup [.int (i : Nat), .str ⟨#[c]⟩]) ∧ x.cps[i]? = some c) :=
  ⟨fun _ _ hi _ => hi, fun _ _ => Nat.le_refl _, fun _ _ _ _ _ _ y => y⟩
end EH

set_option Elab.async false
set_option maxRecDepth 100000
set_option maxHeartbeats 4000000
set_option linter.unusedVariables false
/-! try with two clauses: the first does not fit, the second does, with a name. -/
namespace EH
open PySem PySem.Spec PyProof.Rows L2 TL
/-- the name goes behind the suite -/
def offE (i : Nat) (D : Ends) : Ends := ⟨fun σ' H' => D.nx (σ'.set i none) H', D.rt, fun σ' H' => D.bk (σ'.set i none) H', fun σ' H' => D.ct (σ'.set i none) H'⟩
def wTwo (K : PySem.W.Frag) (c1 c2 : Value) (i : Nat) (ts : Addr → Value → Option Addr → TS) (D : Ends) : WX := fun cls d σ H =>
  PySem.W.exmOne K cls c1 = some false ∧ PySem.W.exmOne K cls c2 = some true ∧ ∀ a, H a = none → ts a cls d { nx := fun σ' H' => D.nx (σ'.set i none) H', rt := D.rt, bk := fun σ' H' => D.bk (σ'.set i none) H', ct := fun σ' H' => D.ct (σ'.set i none) H' } (σ.set i (some (.ref a))) H
section
variable {X : Cx} {x1 x2 n : Str} {c1 c2 : Value} {i : Nat} {body s1 suite : List Stmt} {b0 b1 : Stmt} {np1 np2 pos pos1 pos2 : Pos} {tb : WX → TS} {ts : Addr → Value → Option Addr → TS}
theorem ps_try2 (stk : X.stack = X.env :: X.outer) (frm : X.env.frame = some X.env.locals) (nd : X.N.Nodup) (at_ : X.N[i]? = some n) (lcl : X.env.kindOf n = some .local) (nm1 : Names X x1 c1) (nm2 : Names X x2 c2)
    (inn : ∀ (W : WX) (pn : List (Addr × Obj)) (xe : Value → Shared → Prop), Takes (X.tr pn xe) W → PassesOwn (model X.prog X.w) X.A X.env xe → PSs (X.tr pn xe) body (tb W))
    (sui : ∀ (a : Addr) (ob : Obj) (cls : Value) (d : Option Addr) (pn : List (Addr × Obj)), Zc cls d ob → (∃ vs, ob.data = .fields vs) → PSs (X.suite a ((a, ob) :: pn)) (b0 :: suite) (ts a cls d)) :
    PS X (.Try body [.ExceptHandler (some (.Name x1 np1)) none (b1 :: s1) pos1, .ExceptHandler (some (.Name x2 np2)) (some n) (b0 :: suite) pos2] [] [] pos) (fun D σ H => tb (wTwo X.K c1 c2 i ts D) D σ H) := by
  refine ⟨fun pins s σ H D I0 wish => ?_⟩
  have good := I0.ok
  have frs_ : X.A.frames = some (X.env :: X.outer) := by rw [good.frames, stk]
  refine wpAny_Try_except ?_
  refine wpAny_mono ((inn (wTwo X.K c1 c2 i ts D) (X.pn ++ pins) (fun er r1 => wpAny (model X.prog X.w) X.A (noteFrame er X.env) (fun _ r2 => wpAny (model X.prog X.w) X.A (setFlight er none) (fun _ r3 =>
    wpAny (model X.prog X.w) X.A (handleBy er X.env [.ExceptHandler (some (.Name x1 np1)) none (b1 :: s1) pos1, .ExceptHandler (some (.Name x2 np2)) (some n) (b0 :: suite) pos2]) (SP X pins D) X.xe r3) X.xe r2) X.xe r1) (fun u sX fly => ?_) PassesOwn.looking).run [] s σ H D (I0.toTry _) wish) (fun f sY done => ?_) (fun _ _ he => he)
  · obtain ⟨a, G, sG, pinG, σG, HG, cls, d, rfl, JG, nb, up, air, na, osE, bare, no1, yes2, go⟩ := fly
    have J := JG.ofTry good
    have air' : Sky G (X.env :: X.outer) a (Zc cls d) X.env.locals sX.heap := stk ▸ air
    show wpAny (model X.prog X.w) X.A (noteFrame (.ref a) X.env) _ _ _
    refine Sky.land Zc.steady frs_ frm air' fun hA flA upA => ?_
    have JA : Inv X pins σG HG { sX with heap := hA } := J.landed nb flA.1 (up.trans upA) osE bare
    obtain ⟨ob, vs, obA, zA, dA⟩ := flA.there
    have far : a ∉ frs (X.env :: X.outer) := fun hm => by
      obtain ⟨_, o', e', hnf⟩ := flA.2.2.1.mem hm
      rw [obA] at e'
      cases e'
      exact hnf _ dA
    have farL : a ≠ X.env.locals := fun z => far (List.mem_filterMap.mpr ⟨X.env, List.mem_cons_self, by rw [frm, z]⟩)
    have farF : a ∉ X.fs := fun hm => by
      obtain ⟨e, he, q⟩ := List.mem_filterMap.mp hm
      exact far (List.mem_filterMap.mpr ⟨e, List.mem_cons_of_mem _ he, q⟩)
    have SA := JA.suite obA dA na farL farF
    have look : PySem.W.Looks (model X.prog X.w) hA (typeOf (.ref a)) cls := fun A Q E s k q => wpAny_typeOf_ref (k _ _ obA) (by rw [zA.1]; exact q)
    have L1 := PySem.W.exm_one (M := model X.prog X.w) JA.kIn look no1
    have L2' := PySem.W.exm_one (M := model X.prog X.w) JA.kIn look yes2
    have tst : ∀ {x : Str} {c : Value} {p : Pos} {Q : Value → Shared → Prop} {E : Value → Shared → Prop}, Names X x c → Q c { sX with heap := hA } → wpAny (model X.prog X.w) (X.A.mark (some (.ref a))) (eval (.Name x p) X.env) Q E { sX with heap := hA } := fun {x c p Q E} nm q => by
      obtain ⟨hg, hdbg, hm | ⟨hm, hv, hnn⟩⟩ := nm
      · exact ld_glob (X := X.suite a ((a, ob) :: (X.pn ++ pins))) SA hg hm q hdbg
      · exact ld_blt (X := X.suite a ((a, ob) :: (X.pn ++ pins))) SA hg hm hv q hnn hdbg
    refine wpAny_handleBy_cons (codeAny_handlers_test (tst nm1 (L1.here ?_))) (by intro q; cases q)
    show wpAny _ X.A (handleBy (.ref a) X.env _) _ _ _
    refine wpAny_handleBy_cons (codeAny_handlers_test (tst nm2 (L2'.here ?_))) (by intro q; cases q)
    refine codeAny_handlers_suite_as (HandSPX.lands_againZ flA fun hB flB upB => ?_)
    have JB : Inv X pins σG HG { sX with heap := hB } := J.landed nb flB.1 ((up.trans upA).trans upB) osE bare
    obtain ⟨obj, vsB, obB, zB, dB⟩ := flB.there
    have SB := JB.suite obB dB na farL farF
    refine store_ok (X := X.suite a ((a, obj) :: (X.pn ++ pins))) (v := .ref a) SB nd at_ (.inl lcl) rfl (fun sC SC => ?_) (.inr lcl)
    refine wpAny_mono ((sui a obj cls d (X.pn ++ pins) zB ⟨_, dB⟩).run [] sC _ HG _ SC (go a na)) (fun f sD fin => ?_) (fun _ _ z => False.elim z)
    have bye : ∀ {σ6 : L2.St} {H6 : Hp} {Q : Shared → Prop}, Inv (X.suite a ((a, obj) :: (X.pn ++ pins))) [] σ6 H6 sD → (∀ s7, Inv X pins (σ6.set i none) H6 s7 → Q s7) →
        wpAny (model X.prog X.w) X.A (do bindName X.env n .none; unbindBehindTheSuite X.env n pos2) (fun _ s7 => Q s7) X.xe sD := fun S6 hq => gone_ok (S6.unsuite good) nd at_ lcl hq
    cases f with
    | ret u =>
      obtain ⟨v6, σ6, H6, S6, r6, q6⟩ := fin
      exact bye S6 fun s7 J7 => ⟨_, _, _, J7, r6, q6⟩
    | next =>
      obtain ⟨σ6, H6, S6, q6⟩ := fin
      exact bye S6 fun s7 J7 => ⟨_, _, J7, q6⟩
    | brk =>
      obtain ⟨σ6, H6, S6, q6⟩ := fin
      exact bye S6 fun s7 J7 => ⟨_, _, J7, q6⟩
    | cont =>
      obtain ⟨σ6, H6, S6, q6⟩ := fin
      exact bye S6 fun s7 J7 => ⟨_, _, J7, q6⟩
  · cases f with
    | ret u =>
      obtain ⟨v, σ', H', J', r, q⟩ := done
      exact ⟨v, σ', H', J'.ofTry good, r, q⟩
    | next =>
      obtain ⟨σ', H', J', q⟩ := done
      exact wpAny_execs_nil ⟨σ', H', J'.ofTry good, q⟩
    | brk =>
      obtain ⟨σ', H', J', q⟩ := done
      exact ⟨σ', H', J'.ofTry good, q⟩
    | cont =>
      obtain ⟨σ', H', J', q⟩ := done
      exact ⟨σ', H', J'.ofTry good, q⟩
end
end EH

set_option Elab.async false
set_option maxRecDepth 100000
set_option maxHeartbeats 4000000
set_option linter.unusedVariables false

/-! words: what a word is -/
namespace EH
open PySem PySem.Spec PyProof.Rows L2 TL
theorem mem_low (c : Nat) : decide (c ∈ (("abcdefghijklmnopqrstuvwxyz" : Str)).cps.toList) = isLow c := by
  have e : (("abcdefghijklmnopqrstuvwxyz" : Str)).cps.toList = [97, 98, 99, 100, 101, 102, 103, 104, 105, 106, 107, 108, 109, 110, 111, 112, 113, 114, 115, 116, 117, 118, 119, 120, 121, 122] := by decide +kernel
  rw [e]
  unfold isLow
  congr 1
  simp only [List.mem_cons, List.not_mem_nil, or_false, eq_iff_iff]
  omega
theorem mem_up (c : Nat) : decide (c ∈ (("ABCDEFGHIJKLMNOPQRSTUVWXYZ" : Str)).cps.toList) = isUp c := by
  have e : (("ABCDEFGHIJKLMNOPQRSTUVWXYZ" : Str)).cps.toList = [65, 66, 67, 68, 69, 70, 71, 72, 73, 74, 75, 76, 77, 78, 79, 80, 81, 82, 83, 84, 85, 86, 87, 88, 89, 90] := by decide +kernel
  rw [e]
  unfold isUp
  congr 1
  simp only [List.mem_cons, List.not_mem_nil, or_false, eq_iff_iff]
  omega
theorem mem_dig (c : Nat) : decide (c ∈ (("0123456789" : Str)).cps.toList) = isDig c := by
  have e : (("0123456789" : Str)).cps.toList = [48, 49, 50, 51, 52, 53, 54, 55, 56, 57] := by decide +kernel
  rw [e]
  unfold isDig
  congr 1
  simp only [List.mem_cons, List.not_mem_nil, or_false, eq_iff_iff]
  omega
local macro_rules | `(tactic| walk_at "rd") => `(tactic| repeat (first
  | with_reducible refine z_seq ?_ | with_reducible refine z_ifs ?_ | with_reducible refine z_next ?_ | with_reducible refine z_ret ?_ | with_reducible refine z_asg ?_ | with_reducible refine z_gname ?_
  | ((with_reducible apply z_var); exact rfl) | with_reducible refine z_c ?_ | with_reducible refine z_op ?_ | with_reducible refine z_bl ?_ | with_reducible refine z_test ?_ | with_reducible refine z_B ?_
  | with_reducible refine z_nil ?_ | with_reducible refine z_cons ?_ | with_reducible refine z_cb ?_ | with_reducible refine z_call ?_ | with_reducible refine iteT ?_ | with_reducible refine iteF ?_
  | with_reducible refine z_or ?_ | with_reducible refine z_and ?_ | with_reducible refine z_not ?_ | with_reducible refine z_orv ?_ | with_reducible refine z_andv ?_ | with_reducible refine z_notv ?_ | with_reducible refine z_un ?_
  | with_reducible refine z_eqS ?_ | with_reducible refine z_neS ?_ | with_reducible refine z_eqI ?_ | with_reducible refine z_neI ?_ | with_reducible refine z_i0 ?_ | with_reducible refine z_radd ?_ | with_reducible refine z_rsub ?_ | with_reducible refine z_iu ?_
  | with_reducible refine z_fld ?_ | with_reducible refine z_meth ?_ | with_reducible refine z_sfld ?_ | with_reducible refine z_flda ?_ | with_reducible refine z_make ?_ | with_reducible refine z_drop ?_ | with_reducible refine z_retn ?_ | with_reducible refine z_cont ?_
  | with_reducible refine z_tup ?_ | with_reducible refine z_lst ?_ | with_reducible refine z_slice ?_ | with_reducible refine z_nopart ?_ | with_reducible refine z_part ?_ | with_reducible refine z_intr ?_ | with_reducible refine z_m1 ?_ | with_reducible refine z_lc ?_ | with_reducible refine z_yes ?_ | with_reducible refine z_il ?_ | with_reducible refine z_it ?_))
local macro_rules | `(tactic| walk_at "ln") => `(tactic| (rintro vs H Q E h; repeat (first | (obtain ⟨e, _⟩ := h; subst e; rfl) | (obtain ⟨_, h⟩ := h))))
section
variable {P : Program} {w : World} {K : PySem.W.Frag} {mg : Str → Option Value} {base : Heap}
def spStrength : Sp := fun vs H Q _ => ∃ g : Str, vs = [.str g] ∧ Q (.int (strength g : Nat)) H
theorem sc_strength : FnScope ["sign"] ["sign"] (defScope s_strength) := ⟨rfl, rfl, rfl, by decide +kernel, rfl, by decide +kernel, by decide +kernel⟩
theorem ok_strength (T : Tx K mg) : Cal P w K mg base CX0 1 "strength" ["sign"] [] spStrength := by
  obtain ⟨fd, F⟩ := T.f_strength
  refine cal_def F T.g_strength sc_strength (fun _ _ _ _ _ _ us hl => match us, hl with | [_], _ => rfl) (by walk_at "ln") (fun cdv A outer s H vs Q E hr h => ?_)
  obtain ⟨g, rfl, k⟩ := h
  refine ⟨_, (pss_cons (ps_if (pt_cmpR op_eq (pv 0) pe_str (nomark _)) (pss_one (ps_ret pe_int)) pss_nil)
    (pss_cons (ps_if (PW.pt (pw_or (pt_cmpR op_eq (pv 0) pe_str (nomark _)) (pw_or1 (pt_cmpR op_eq (pv 0) pe_str (nomark _))))) (pss_one (ps_ret pe_int)) pss_nil)
    (pss_cons (ps_if (PW.pt (pw_or (pt_cmpR op_eq (pv 0) pe_str (nomark _)) (pw_or1 (pt_cmpR op_eq (pv 0) pe_str (nomark _))))) (pss_one (ps_ret pe_int)) pss_nil)
    (pss_cons (ps_if (PW.pt (pw_or (pt_cmpR op_eq (pv 0) pe_str (nomark _)) (pw_or1 (pt_cmpR op_eq (pv 0) pe_str (nomark _))))) (pss_one (ps_ret pe_int)) pss_nil)
    (pss_one (ps_ret pe_int)))))), ?_⟩
  unfold strength at k
  walk_at "rd"
  refine ifS (fun c => ?_) (fun c => ?_)
  · rw [if_pos c] at k
    walk_at "rd"
    exact k
  rw [if_neg c] at k
  walk_at "rd"
  refine ifS (fun c => ?_) (fun c1 => ?_)
  · rw [if_pos (.inl c)] at k
    walk_at "rd"
    exact k
  walk_at "rd"
  refine ifS (fun c => ?_) (fun c2 => ?_)
  · rw [if_pos (.inr c)] at k
    walk_at "rd"
    exact k
  rw [if_neg (not_or.mpr ⟨c1, c2⟩)] at k
  walk_at "rd"
  refine ifS (fun c => ?_) (fun c1 => ?_)
  · rw [if_pos (.inl c)] at k
    walk_at "rd"
    exact k
  walk_at "rd"
  refine ifS (fun c => ?_) (fun c2 => ?_)
  · rw [if_pos (.inr c)] at k
    walk_at "rd"
    exact k
  rw [if_neg (not_or.mpr ⟨c1, c2⟩)] at k
  walk_at "rd"
  refine ifS (fun c => ?_) (fun c1 => ?_)
  · rw [if_pos (.inl c)] at k
    walk_at "rd"
    exact k
  walk_at "rd"
  refine ifS (fun c => ?_) (fun c2 => ?_)
  · rw [if_pos (.inr c)] at k
    walk_at "rd"
    exact k
  rw [if_neg (not_or.mpr ⟨c1, c2⟩)] at k
  walk_at "rd"
  exact k
theorem tabs (T : Tx K mg) (H : Hp) : SqT K H (He.ga K "HEAD_WORDS") (hwD.map (He.Dv.v K)) ∧ SqT K H (He.ga K "TERM_WORDS") (twD.map (He.Dv.v K)) := by
  have h := T.more
  unfold exK exA at h
  simp only [Bool.and_eq_true] at h
  exact ⟨He.tupB_ok h.1.1 H, He.tupB_ok h.1.2.1 H⟩
def spIsTold : Sp := fun vs H Q _ => ∃ x : Str, vs = [.str x] ∧ Q (.bl (isTold x)) H
theorem sc_is_told : FnScope ["word"] ["word"] (defScope s_is_told) := ⟨rfl, rfl, rfl, by decide +kernel, rfl, by decide +kernel, by decide +kernel⟩
theorem ok_is_told (T : Tx K mg) : Cal P w K mg base CX0 1 "is_told" ["word"] [] spIsTold := by
  obtain ⟨fd, F⟩ := T.f_is_told
  refine cal_def F T.g_is_told sc_is_told (fun _ _ _ _ _ _ us hl => match us, hl with | [_], _ => rfl) (by walk_at "ln") (fun cdv A outer s H vs Q E hr h => ?_)
  obtain ⟨x, rfl, k⟩ := h
  refine ⟨_, (pss_one (ps_ret (pe_or (pe_cmpR op_in_seq (pv 0) (pe_gr T.g_HEAD_WORDS) (by rfl)) (pe_one (pe_cmpR op_in_seq (pv 0) (pe_gr T.g_TERM_WORDS) (by rfl)))))), ?_⟩
  obtain ⟨t1, t2⟩ := tabs T H
  have e1 : inV (.str x) (hwD.map (He.Dv.v K)) = headWords.contains x := inV_strs x headWords
  have e2 : inV (.str x) (twD.map (He.Dv.v K)) = termWords.contains x := inV_strs x termWords
  walk_at "rd"
  refine r_inT t1 (by rfl) (by rfl) ?_
  walk_at "rd"
  rw [e1]
  unfold isTold at k
  refine ifB (fun c => ?_) (fun c => ?_)
  · rw [c] at k
    exact k
  · rw [c] at k
    walk_at "rd"
    refine r_inT t2 (by rfl) (by rfl) ?_
    rw [e2]
    exact k
def spAreAll : Sp := fun vs H Q _ => ∃ (x z : Str), vs = [.str x, .str z] ∧ Q (.bl ((tl x).all fun c => decide (c ∈ z.cps.toList))) H
theorem sc_are_all : FnScope ["row", "signs", "sign"] ["row", "signs"] (defScope s_are_all) := ⟨rfl, rfl, rfl, by decide +kernel, rfl, by decide +kernel, by decide +kernel⟩
theorem ok_are_all (T : Tx K mg) : Cal P w K mg base CX0 1 "are_all" ["row", "signs"] [] spAreAll := by
  obtain ⟨fd, F⟩ := T.f_are_all
  refine cal_def F T.g_are_all sc_are_all (fun _ _ _ _ _ _ us hl => match us, hl with | [_, _], _ => rfl) (by walk_at "ln") (fun cdv A outer s H vs Q E hr h => ?_)
  obtain ⟨x, z, rfl, k⟩ := h
  refine ⟨_, (pss_cons (ps_for PassesOwn.never rfl (pi_str (pv 0)) (pg_name (i := 2) sc_are_all.nd rfl (Or.inl rfl)) (pss_one (ps_if (pt_cmpR op_notIn_sign (pv 2) (pv 1) (by rfl)) (pss_one (ps_ret pe_bl)) pss_nil)))
    (pss_one (ps_ret pe_bl))), ?_⟩
  refine ⟨_, rfl, _, rfl, for_it (walk_str (z := x)) (fun i σ H' => H' = H ∧ (∃ v, σ = [some (.str x), some (.str z), v]) ∧ ((tl x).take i).all (fun c => decide (c ∈ z.cps.toList)) = true) ⟨rfl, ⟨none, rfl⟩, rfl⟩ (fun _ _ _ _ _ => trivial) ?_ ?_⟩
  · rintro i y σ H1 H2 hi ⟨rfl, ⟨v, rfl⟩, ha⟩ ⟨rfl, c, hc, rfl⟩
    have hc' : (tl x)[i]? = some c := by rw [Array.getElem?_toList]; exact hc
    refine ⟨_, rfl, _, rfl, c, z, rfl, rfl, _, rfl, ?_⟩
    refine ifDn (fun hn => ?_) (fun hy => ?_)
    · have e : (tl x).all (fun c => decide (c ∈ z.cps.toList)) = false := by
        rw [Bool.eq_false_iff]
        intro h
        have q := List.all_eq_true.mp h c (List.mem_of_getElem? hc')
        exact hn (of_decide_eq_true q)
      rw [e] at k
      exact k
    · exact ⟨rfl, ⟨_, rfl⟩, all_at hc' ha (decide_eq_true hy)⟩
  · rintro σ H1 ⟨rfl, ⟨v, rfl⟩, ha⟩
    rw [show x.cps.size = (tl x).length from Array.length_toList.symm, List.take_length] at ha
    rw [ha] at k
    exact k
/-- a sign of a row of figures, of letters -/
theorem all_dig (x : Str) : (tl x).all (fun c => decide (c ∈ ("0123456789" : Str).cps.toList)) = (tl x).all isDig := by
  congr 1
  funext c
  exact mem_dig c
theorem st_zero (x : Str) : Txt.startswith x ("0" : Str) = decide ((tl x).head? = some 48) := by
  have e0 : tl ("0" : Str) = [48] := by decide +kernel
  have h := at_iff (x := x) (y := ("0" : Str)) (by rw [e0]; decide) 0
  rw [List.drop_zero, e0] at h
  unfold StrLaws.At at h
  have e1 : Txt.startswith x ("0" : Str) = true ↔ pre [48] (tl x) = true := by
    rw [← h]
    unfold Txt.startswith
    rw [Bool.and_eq_true, decide_eq_true_eq]
  have e2 : pre [48] (tl x) = decide ((tl x).head? = some 48) := by
    unfold pre
    cases tl x with
    | nil => rfl
    | cons c r =>
      show ([c] == [48]) = decide (some c = some 48)
      rw [Bool.eq_iff_iff, beq_iff_eq, decide_eq_true_eq]
      simp
  rw [← e2, Bool.eq_iff_iff]
  exact e1
theorem len_em (x : Str) : x = ("" : Str) ↔ x.length = 0 := by
  constructor
  · intro e; rw [e]; decide +kernel
  · intro e
    refine ext_tl ?_
    have h1 : (tl x).length = 0 := by rw [← len_tl]; exact e
    rw [List.length_eq_zero_iff.mp h1]
    decide +kernel
def spIsNumRow : Sp := fun vs H Q _ => ∃ x : Str, vs = [.str x] ∧ x.length ≤ 10000 ∧ Q (.bl (isNumRow x)) H
theorem sc_is_number_row : FnScope ["row"] ["row"] (defScope s_is_number_row) := ⟨rfl, rfl, rfl, by decide +kernel, rfl, by decide +kernel, by decide +kernel⟩
theorem ok_is_number_row (T : Tx K mg) : Cal P w K mg base CX0 2 "is_number_row" ["row"] [] spIsNumRow := by
  obtain ⟨fd, F⟩ := T.f_is_number_row
  refine cal_def F T.g_is_number_row sc_is_number_row (fun _ _ _ _ _ _ us hl => match us, hl with | [_], _ => rfl) (by walk_at "ln") (fun cdv A outer s H vs Q E hr h => ?_)
  obtain ⟨x, rfl, hl, k⟩ := h
  refine ⟨_, (pss_cons (ps_if (PW.pt (pw_or (pt_cmpR op_eq (pv 0) pe_str (nomark _)) (pw_or (pt_cmpR op_gt (pe_callB call_len_str (by rfl) T.b_len PySem.boot_len (pa_cons (pv 0) pa_nil)) (pe_gi T.c_MOST_FIGURES) (nomark _)) (pw_or1 (pt_not (pt_val (pe_cal (ok_are_all T) (hr.mono (by decide)) pass0 (pa_cons (pv 0) (pa_cons (pe_gs T.c_FIGURES) pa_nil))))))))) (pss_one (ps_ret pe_bl)) pss_nil)
    (pss_one (ps_ret (pe_or (pe_cmpR op_eq (pv 0) pe_str (nomark _)) (pe_one (pe_not (pe_m1 PySem.F.slot_str_startswith PySem.F.type_str_startswith mt_startswith (pv 0) pe_str))))))), ?_⟩
  unfold isNumRow at k
  walk_at "rd"
  refine ifS (fun c => ?_) (fun c => ?_)
  · rw [show decide (x.length ≠ 0 ∧ x.length ≤ 9) = false from decide_eq_false fun h => h.1 ((len_em x).mp c)] at k
    walk_at "rd"
    exact k
  have c0 : x.length ≠ 0 := fun e => c ((len_em x).mpr e)
  walk_at "rd"
  refine ⟨x, rfl, len_sz (by omega), ?_⟩
  walk_at "rd"
  refine ifD (fun c => ?_) (fun c => ?_)
  · rw [show decide (x.length ≠ 0 ∧ x.length ≤ 9) = false from decide_eq_false fun h => by omega] at k
    walk_at "rd"
    exact k
  rw [show decide (x.length ≠ 0 ∧ x.length ≤ 9) = true from decide_eq_true ⟨c0, by omega⟩, Bool.true_and] at k
  walk_at "rd"
  refine ⟨x, _, rfl, ?_⟩
  rw [all_dig]
  walk_at "rd"
  refine ifBn (fun c => ?_) (fun c => ?_)
  · rw [c] at k
    walk_at "rd"
    exact k
  rw [c, Bool.true_and] at k
  walk_at "rd"
  refine ifS (fun c => ?_) (fun c => ?_)
  · rw [decide_eq_true c] at k
    exact k
  rw [decide_eq_false c, Bool.false_or] at k
  walk_at "rd"
  refine ⟨⟨x, rfl⟩, ?_⟩
  walk_at "rd"
  refine ⟨x, _, rfl, rfl, ?_⟩
  rw [st_zero]
  exact z_bl k
theorem all_ln (x : Str) : (tl x).all (fun c => decide (c ∈ (("abcdefghijklmnopqrstuvwxyz" : Str) ++ ("0123456789" : Str)).cps.toList)) = (tl x).all fun c => isLow c || isDig c := by
  congr 1
  funext c
  have e : (("abcdefghijklmnopqrstuvwxyz" : Str) ++ ("0123456789" : Str)).cps.toList = ("abcdefghijklmnopqrstuvwxyz" : Str).cps.toList ++ ("0123456789" : Str).cps.toList := tl_append _ _
  rw [e, ← mem_low, ← mem_dig, Bool.eq_iff_iff]
  simp
def spIsNameRow : Sp := fun vs H Q _ => ∃ x : Str, vs = [.str x] ∧ x.length ≤ 10000 ∧ Q (.bl (isNameRow x)) H
theorem sc_is_name_row : FnScope ["row"] ["row"] (defScope s_is_name_row) := ⟨rfl, rfl, rfl, by decide +kernel, rfl, by decide +kernel, by decide +kernel⟩
theorem ok_is_name_row (T : Tx K mg) : Cal P w K mg base CX0 2 "is_name_row" ["row"] [] spIsNameRow := by
  obtain ⟨fd, F⟩ := T.f_is_name_row
  refine cal_def F T.g_is_name_row sc_is_name_row (fun _ _ _ _ _ _ us hl => match us, hl with | [_], _ => rfl) (by walk_at "ln") (fun cdv A outer s H vs Q E hr h => ?_)
  obtain ⟨x, rfl, hl, k⟩ := h
  refine ⟨_, (pss_cons (ps_if (PW.pt (pw_or (pt_cmpR op_eq (pv 0) pe_str (nomark _)) (pw_or (pt_cmpR op_gt (pe_callB call_len_str (by rfl) T.b_len PySem.boot_len (pa_cons (pv 0) pa_nil)) (pe_gi T.c_MOST_NAME) (nomark _)) (pw_or1 (pt_cmpR op_notIn_sign (pe_ix ix_str (pv 0) pe_int (fun _ _ => rfl)) (pe_gs T.c_LETTERS) (by rfl)))))) (pss_one (ps_ret pe_bl)) pss_nil)
    (pss_one (ps_ret (pe_cal (ok_are_all T) (hr.mono (by decide)) pass0 (pa_cons (pv 0) (pa_cons (pe_op op_add_str (pe_gs T.c_LETTERS) (pe_gs T.c_FIGURES)) pa_nil)))))), ?_⟩
  walk_at "rd"
  refine ifS (fun c => ?_) (fun c => ?_)
  · rw [c, show isNameRow ("" : Str) = false by decide +kernel] at k
    walk_at "rd"
    exact k
  unfold isNameRow at k
  skip
  have c0 : x.length ≠ 0 := fun e => c ((len_em x).mpr e)
  walk_at "rd"
  refine ⟨x, rfl, len_sz (by omega), ?_⟩
  walk_at "rd"
  refine ifD (fun c => ?_) (fun c => ?_)
  · rw [show decide (x.length ≤ 8) = false from decide_eq_false (by omega)] at k
    walk_at "rd"
    exact k
  rw [show decide (x.length ≤ 8) = true from decide_eq_true (by omega), Bool.true_and] at k
  obtain ⟨a, r, er⟩ : ∃ a r, tl x = a :: r := by
    cases e : tl x with
    | nil => exact absurd (by rw [len_tl, e]; rfl) c0
    | cons a r => exact ⟨a, r, rfl⟩
  walk_at "rd"
  refine z_ixS (by omega) (c := a) (atI_nat (j := 0) (by show (tl x)[0]? = some a; rw [er]; rfl)) ?_
  walk_at "rd"
  refine ⟨a, _, rfl, rfl, ?_⟩
  rw [mem_low]
  walk_at "rd"
  have k' : Q (.bl (isLow a && (tl x).all fun c => isLow c || isDig c)) H := by
    rw [er] at k ⊢
    exact k
  refine ifBn (fun c => ?_) (fun c => ?_)
  · rw [c] at k'
    walk_at "rd"
    exact k'
  rw [c, Bool.true_and] at k'
  walk_at "rd"
  refine ⟨_, _, rfl, rfl, len_sz (by decide +kernel), ?_⟩
  walk_at "rd"
  refine ⟨x, _, rfl, ?_⟩
  rw [all_ln]
  exact k'
def spIsName : Sp := fun vs H Q _ => ∃ x : Str, vs = [.str x] ∧ x.length ≤ 10000 ∧ Q (.bl (isName x)) H
theorem sc_is_name : FnScope ["word"] ["word"] (defScope s_is_name) := ⟨rfl, rfl, rfl, by decide +kernel, rfl, by decide +kernel, by decide +kernel⟩
theorem ok_is_name (T : Tx K mg) : Cal P w K mg base CX0 3 "is_name" ["word"] [] spIsName := by
  obtain ⟨fd, F⟩ := T.f_is_name
  refine cal_def F T.g_is_name sc_is_name (fun _ _ _ _ _ _ us hl => match us, hl with | [_], _ => rfl) (by walk_at "ln") (fun cdv A outer s H vs Q E hr h => ?_)
  obtain ⟨x, rfl, hl, k⟩ := h
  refine ⟨_, (pss_one (ps_ret (pe_and (pe_cal (ok_is_name_row T) (hr.mono (by decide)) pass0 (pa_cons (pv 0) pa_nil)) (pe_one (pe_not (pe_cal (ok_is_told T) (hr.mono (by decide)) pass0 (pa_cons (pv 0) pa_nil))))))), ?_⟩
  unfold isName at k
  walk_at "rd"
  refine ⟨x, rfl, hl, ?_⟩
  walk_at "rd"
  refine ifB (fun c => ?_) (fun c => ?_)
  · rw [c, Bool.true_and] at k
    walk_at "rd"
    refine ⟨x, rfl, ?_⟩
    walk_at "rd"
    exact k
  · rw [c] at k
    exact k
def spNeedRow : Sp := fun vs H Q _ => ∃ (x : Str) (i : Int), vs = [.str x, .int i] ∧ x.length ≤ 10000 ∧ (isNumRow x || isNameRow x) = true ∧ Q .non H
theorem sc_need_row : FnScope ["row", "at"] ["row", "at"] (defScope s_need_row) := ⟨rfl, rfl, rfl, by decide +kernel, rfl, by decide +kernel, by decide +kernel⟩
theorem ok_need_row (T : Tx K mg) : Cal P w K mg base CX0 3 "need_row" ["row", "at"] [] spNeedRow := by
  obtain ⟨fd, F⟩ := T.f_need_row
  refine cal_def F T.g_need_row sc_need_row (fun _ _ _ _ _ _ us hl => match us, hl with | [_, _], _ => rfl) (by walk_at "ln") (fun cdv A outer s H vs Q E hr h => ?_)
  obtain ⟨x, i, rfl, hl, hk, k⟩ := h
  refine ⟨_, (pss_one (ps_if (PW.pt (pw_and (pt_not (pt_val (pe_cal (ok_is_number_row T) (hr.mono (by decide)) pass0 (pa_cons (pv 0) pa_nil)))) (pw_and1 (pt_not (pt_val (pe_cal (ok_is_name_row T) (hr.mono (by decide)) pass0 (pa_cons (pv 0) pa_nil))))))) (pss_one ps_never) pss_nil)), ?_⟩
  walk_at "rd"
  refine ⟨x, rfl, hl, ?_⟩
  walk_at "rd"
  cases c : isNumRow x with
  | true =>
    walk_at "rd"
    exact iteF (iteF k)
  | false =>
    rw [c, Bool.false_or] at hk
    refine iteT ?_
    walk_at "rd"
    refine ⟨x, rfl, hl, ?_⟩
    walk_at "rd"
    rw [hk]
    exact iteF k
end
end EH

set_option Elab.async false
set_option maxRecDepth 100000
set_option maxHeartbeats 4000000
set_option linter.unusedVariables false

/-! The source of words: its methods. -/
namespace EH
open PySem PySem.Spec PyProof.Rows L2 TL
/-! ### the heap without the source -/
/-- all but the object at p stands as before -/
def Off (p : Addr) (H H' : Hp) : Prop := Same (cut p H) (cut p H')
theorem Off.refl (p : Addr) (H : Hp) : Off p H H := Same.refl _
theorem Off.trans {p : Addr} {H H1 H2 : Hp} (a : Off p H H1) (b : Off p H1 H2) : Off p H H2 := Same.trans a b
theorem Off.at {p b : Addr} {H H' : Hp} {o : HO} (a : Off p H H') (hb : b ≠ p) (h : H b = some o) : H' b = some o := by
  have := a b o (by rw [cut_ne hb]; exact h)
  exact (cut_at this).2
theorem Off.of {p : Addr} {H H' : Hp} (h : ∀ b o, b ≠ p → H b = some o → H' b = some o) : Off p H H' := fun b o e => by
  obtain ⟨h1, h2⟩ := cut_at e
  rw [cut_ne h1]
  exact h b o h1 h2
theorem Off.upd (p : Addr) (H : Hp) (o : HO) : Off p H (upd H p o) := Off.of fun b u hb e => by rw [upd_ne hb]; exact e
theorem Off.fr {p : Addr} {H H' : Hp} {o : HO} (a : Off p H H') (h : H' p = some o) : Fr H H' := fun b hb => by
  cases e : H b with
  | none => rfl
  | some u =>
    by_cases n : b = p
    · rw [n, h] at hb; cases hb
    · rw [a.at n e] at hb; cases hb
theorem Off.same {p : Addr} {H H' : Hp} (h : Same H H') : Off p H H' := Off.of fun b o _ e => h b o e
theorem lk_eq {f : Str} {v : V} {l : List (Str × V)} : List.lookup f ((f, v) :: l) = some v := by simp [List.lookup]
theorem lk_ne {f g : Str} {v : V} {l : List (Str × V)} {r : Option V} (h : (f == g) = false) (k : List.lookup f l = r) : List.lookup f ((g, v) :: l) = r := by
  show (match f == g with | true => some v | false => List.lookup f l) = r
  rw [h]
  exact k
theorem lk_nil {f : Str} : List.lookup f ([] : List (Str × V)) = none := rfl
theorem put_eq {f : Str} {v z : V} {l : List (Str × V)} : putF f v ((f, z) :: l) = (f, v) :: l := by
  show (if f = f then (f, v) :: l else _) = _
  rw [if_pos rfl]
theorem put_ne {f g : Str} {v z : V} {l l' : List (Str × V)} (h : ¬ g = f) (k : putF f v l = l') : putF f v ((g, z) :: l) = (g, z) :: l' := by
  show (if g = f then _ else (g, z) :: putF f v l) = _
  rw [if_neg h, k]
theorem put_nil {f : Str} {v : V} : putF f v [] = [(f, v)] := rfl
local macro_rules | `(tactic| walk_at "lk") => `(tactic| repeat (first | exact lk_eq | exact lk_nil | refine lk_ne (by decide +kernel) ?_))
local macro_rules | `(tactic| walk_at "pt") => `(tactic| repeat (first | exact put_eq | exact put_nil | refine put_ne (by decide +kernel) ?_))
def srcF (r : Addr) (k op md : Int) : List (Str × V) := [("row", .ref r), ("spot", .int k), ("open_now", .int op), ("made", .int md)]
section
variable (r : Addr) (k op md z : Int)
theorem sl_row : (srcF r k op md).lookup ("row" : Str) = some (.ref r) := by unfold srcF; walk_at "lk"
theorem sl_spot : (srcF r k op md).lookup ("spot" : Str) = some (.int k) := by unfold srcF; walk_at "lk"
theorem sl_open : (srcF r k op md).lookup ("open_now" : Str) = some (.int op) := by unfold srcF; walk_at "lk"
theorem sl_made : (srcF r k op md).lookup ("made" : Str) = some (.int md) := by unfold srcF; walk_at "lk"
theorem sl_now : (srcF r k op md).lookup ("now" : Str) = none := by unfold srcF; walk_at "lk"
theorem sl_take : (srcF r k op md).lookup ("take" : Str) = none := by unfold srcF; walk_at "lk"
theorem sl_need : (srcF r k op md).lookup ("need" : Str) = none := by unfold srcF; walk_at "lk"
theorem sl_need_name : (srcF r k op md).lookup ("need_name" : Str) = none := by unfold srcF; walk_at "lk"
theorem sl_need_kind : (srcF r k op md).lookup ("need_kind" : Str) = none := by unfold srcF; walk_at "lk"
theorem sl_open_one : (srcF r k op md).lookup ("open_one" : Str) = none := by unfold srcF; walk_at "lk"
theorem sl_close_one : (srcF r k op md).lookup ("close_one" : Str) = none := by unfold srcF; walk_at "lk"
theorem sl_built : (srcF r k op md).lookup ("built" : Str) = none := by unfold srcF; walk_at "lk"
theorem sp_spot : putF ("spot" : Str) (.int z) (srcF r k op md) = srcF r z op md := by unfold srcF; walk_at "pt"
theorem sp_open : putF ("open_now" : Str) (.int z) (srcF r k op md) = srcF r k z md := by unfold srcF; walk_at "pt"
theorem sp_made : putF ("made" : Str) (.int z) (srcF r k op md) = srcF r k op z := by unfold srcF; walk_at "pt"
end
/-- at p a source stands whose words to come, open brackets and terms made are those of s -/
structure SrcAt (K : PySem.W.Frag) (row : List Str) (H : Hp) (p dx r : Addr) (k : Nat) (s : Src) : Prop where
  ob : H p = some (.ins (He.ga K "Source") dx (srcF r k s.op s.md))
  rw : H r = some (.lst (row.map V.str))
  le : k ≤ row.length
  ts : row.drop k = s.ts
  lg : row.length ≤ 10000 ∧ ∀ x ∈ row, x.length ≤ 10000
def SrcOk (K : PySem.W.Frag) (H : Hp) (p r : Addr) (s : Src) : Prop := ∃ row dx k, SrcAt K row H p dx r k s
theorem SrcAt.ne {K : PySem.W.Frag} {row : List Str} {H : Hp} {p dx r : Addr} {k : Nat} {s : Src} (S : SrcAt K row H p dx r k s) : r ≠ p := ne_of S.rw S.ob (by intro z; cases z)
/-- the source is turned -/
theorem SrcAt.put {K : PySem.W.Frag} {row : List Str} {H : Hp} {p dx r : Addr} {k k' : Nat} {s s' : Src} (S : SrcAt K row H p dx r k s) (hk : k' ≤ row.length) (ht : row.drop k' = s'.ts) : SrcAt K row (upd H p (.ins (He.ga K "Source") dx (srcF r k' s'.op s'.md))) p dx r k' s' :=
  ⟨upd_same, by rw [upd_ne S.ne]; exact S.rw, hk, ht, S.lg⟩
theorem SrcAt.off {K : PySem.W.Frag} {row : List Str} {H H' : Hp} {p dx r : Addr} {k : Nat} {s : Src} (S : SrcAt K row H p dx r k s) (h : Same H H') : SrcAt K row H' p dx r k s := ⟨h _ _ S.ob, h _ _ S.rw, S.le, S.ts, S.lg⟩
theorem SrcOk.same {K : PySem.W.Frag} {H H' : Hp} {p r : Addr} {s : Src} (S : SrcOk K H p r s) (h : Same H H') : SrcOk K H' p r s := by
  obtain ⟨row, dx, k, S⟩ := S
  exact ⟨row, dx, k, S.off h⟩
local macro_rules | `(tactic| walk_at "rd1") => `(tactic| (first
  | with_reducible refine z_seq ?_ | with_reducible refine z_ifs ?_ | with_reducible refine z_next ?_ | with_reducible refine z_ret ?_ | with_reducible refine z_asg ?_ | with_reducible refine z_gname ?_
  | ((with_reducible apply z_var); exact rfl) | with_reducible refine z_c ?_ | with_reducible refine z_op ?_ | with_reducible refine z_bl ?_ | with_reducible refine z_test ?_ | with_reducible refine z_B ?_
  | with_reducible refine z_nil ?_ | with_reducible refine z_cons ?_ | with_reducible refine z_cb ?_ | with_reducible refine z_call ?_ | with_reducible refine iteT ?_ | with_reducible refine iteF ?_
  | with_reducible refine z_or ?_ | with_reducible refine z_and ?_ | with_reducible refine z_not ?_ | with_reducible refine z_orv ?_ | with_reducible refine z_andv ?_ | with_reducible refine z_notv ?_ | with_reducible refine z_un ?_
  | with_reducible refine z_eqS ?_ | with_reducible refine z_neS ?_ | with_reducible refine z_eqI ?_ | with_reducible refine z_neI ?_ | with_reducible refine z_i0 ?_ | with_reducible refine z_radd ?_ | with_reducible refine z_rsub ?_ | with_reducible refine z_iu ?_
  | with_reducible refine z_fld ?_ | with_reducible refine z_meth ?_ | with_reducible refine z_sfld ?_ | with_reducible refine z_flda ?_ | with_reducible refine z_make ?_ | with_reducible refine z_drop ?_ | with_reducible refine z_retn ?_ | with_reducible refine z_cont ?_
  | with_reducible refine z_tup ?_ | with_reducible refine z_lst ?_ | with_reducible refine z_slice ?_ | with_reducible refine z_nopart ?_ | with_reducible refine z_part ?_ | with_reducible refine z_intr ?_ | with_reducible refine z_m1 ?_ | with_reducible refine z_lc ?_ | with_reducible refine z_yes ?_ | with_reducible refine z_il ?_ | with_reducible refine z_it ?_ | with_reducible refine z_bm ?_ | with_reducible refine z_for ?_ | with_reducible refine z_gcons ?_ | with_reducible refine z_gnil ?_))
local macro_rules | `(tactic| walk_at "rd") => `(tactic| repeat (walk_at "rd1"))
local macro_rules | `(tactic| walk_at "no") => `(tactic| repeat (first | refine ifF (bSf (by decide +kernel)) ?_ | refine ifF (bSf num_ne) ?_ | (walk_at "rd1")))
local macro_rules | `(tactic| walk_at "ln") => `(tactic| (rintro vs H Q E h; repeat (first | (obtain ⟨e, _⟩ := h; subst e; rfl) | (obtain ⟨_, h⟩ := h))))
section
variable {P : Program} {w : World} {K : PySem.W.Frag} {mg : Str → Option Value} {base : Heap}
/-- a field of the source read; changed by a number -/
theorem z_row {row : List Str} {H : Hp} {p dx r : Addr} {k : Nat} {s : Src} {Q : VK} (T : Tx K mg) (S : SrcAt K row H p dx r k s) (h : Q (.ref r) H) : FldR K "row" (.ref p) H Q := z_fldr S.ob T.cls_Source T.no_Source_row (sl_row ..) h
theorem z_spot {row : List Str} {H : Hp} {p dx r : Addr} {k : Nat} {s : Src} {Q : VK} (T : Tx K mg) (S : SrcAt K row H p dx r k s) (h : Q (.int k) H) : FldR K "spot" (.ref p) H Q := z_fldr S.ob T.cls_Source T.no_Source_spot (sl_spot ..) h
theorem z_open {row : List Str} {H : Hp} {p dx r : Addr} {k : Nat} {s : Src} {Q : VK} (T : Tx K mg) (S : SrcAt K row H p dx r k s) (h : Q (.int s.op) H) : FldR K "open_now" (.ref p) H Q := z_fldr S.ob T.cls_Source T.no_Source_open_now (sl_open ..) h
theorem z_made {row : List Str} {H : Hp} {p dx r : Addr} {k : Nat} {s : Src} {Q : VK} (T : Tx K mg) (S : SrcAt K row H p dx r k s) (h : Q (.int s.md) H) : FldR K "made" (.ref p) H Q := z_fldr S.ob T.cls_Source T.no_Source_made (sl_made ..) h
theorem drop_len {row : List Str} {k : Nat} {x : Str} {l : List Str} (h : row.drop k = x :: l) : k < row.length ∧ row[k]? = some x ∧ row.drop (k + 1) = l := by
  have h1 : k < row.length := by
    refine Nat.lt_of_not_le fun q => ?_
    rw [List.drop_eq_nil_of_le q] at h
    cases h
  rw [List.drop_eq_getElem_cons h1] at h
  injection h with h2 h3
  exact ⟨h1, by rw [List.getElem?_eq_getElem h1, h2], h3⟩
def spNow (K : PySem.W.Frag) : Sp := fun vs H Q _ => ∃ (p r : Addr) (s : Src), vs = [.ref p] ∧ SrcOk K H p r s ∧ Q (.str s.now) H
theorem sc_Source_now : FnScope ["self"] ["self"] (defScope s_Source_now) := ⟨rfl, rfl, rfl, by decide +kernel, rfl, by decide +kernel, by decide +kernel⟩
theorem okm_now (T : Tx K mg) : CalM P w K mg base CX0 1 (He.ga K "Source") "now" ["self"] (spNow K) := by
  obtain ⟨fd, F⟩ := T.f_Source_now
  refine cal_meth F T.m_Source_now T.cls_Source sc_Source_now (fun _ _ _ _ _ _ us hl => match us, hl with | [_], _ => rfl) (by walk_at "ln") (fun cdv A outer s H vs Q E hr h => ?_)
  obtain ⟨p, r, s, rfl, ⟨row, dx, j, S⟩, k⟩ := h
  refine ⟨_, (pss_cons (ps_if (pt_cmpR op_lt (pe_fld (pv 0) rfl) (pe_callB call_len_seq (by rfl) T.b_len PySem.boot_len (pa_cons (pe_fld (pv 0) rfl) pa_nil)) (nomark _)) (pss_one (ps_ret (pe_ix ix_list (pe_fld (pv 0) rfl) (pe_fld (pv 0) rfl) (fun _ _ => rfl)))) pss_nil)
    (pss_one (ps_ret pe_str))), ?_⟩
  walk_at "rd"
  refine z_spot T S ?_
  walk_at "rd"
  refine z_row T S ?_
  walk_at "rd"
  refine ⟨r, _, rfl, .inl (SqL.of S.rw), ?_⟩
  walk_at "rd"
  rw [List.length_map]
  have hts := S.ts
  cases e : s.ts with
  | nil =>
    rw [e] at hts
    have hj : row.length ≤ j := List.drop_eq_nil_iff.mp hts
    refine ifD (fun c => absurd c (by omega)) (fun _ => ?_)
    walk_at "rd"
    have en : s.now = ("" : Str) := by unfold Src.now; rw [e]; rfl
    rw [en] at k
    exact k
  | cons x l =>
    rw [e] at hts
    obtain ⟨hj, hx, _⟩ := drop_len hts
    refine ifD (fun _ => ?_) (fun c => absurd (by omega) c)
    walk_at "rd"
    refine z_row T S ?_
    walk_at "rd"
    refine z_spot T S ?_
    refine z_ixL (SqL.of S.rw) (v := .str x) (atI_nat (by rw [List.getElem?_map, hx] <;> rfl)) ?_
    have en : s.now = x := by unfold Src.now; rw [e]; rfl
    rw [en] at k
    exact k
/-- a word was just taken -/
def SrcBk (K : PySem.W.Frag) (H : Hp) (p r : Addr) (x : Str) (l : List Str) (op md : Int) : Prop := ∃ row dx k, SrcAt K row H p dx r (k + 1) ⟨l, op, md⟩ ∧ row.drop k = x :: l
/-- take: a word is there -/
def spTake (K : PySem.W.Frag) : Sp := fun vs H Q _ => ∃ (p r : Addr) (x : Str) (l : List Str) (op md : Int), vs = [.ref p] ∧ SrcOk K H p r ⟨x :: l, op, md⟩ ∧ ∀ H', SrcOk K H' p r ⟨l, op, md⟩ → SrcBk K H' p r x l op md → Off p H H' → Q (.str x) H'
theorem z_src {H : Hp} {p : Addr} {s : Src} {f : Str} {tv : TE} {σ : L2.St} {rd : V → V → Hp → VK → Prop} {row : List Str} {dx r : Addr} {k : Nat} {v : V} {R : Hp → Prop} (T : Tx K mg) (S : SrcAt K row H p dx r k s) (n : NoAttr K (He.ga K "Source") f) (l : (srcF r k s.op s.md).lookup f = some v)
    (h : tv σ H fun y H2 => rd v y H2 fun z H3 => ∃ dx' fs', H3 p = some (.ins (He.ga K "Source") dx' fs') ∧ fs'.length < 1000 ∧ R (upd H3 p (.ins (He.ga K "Source") dx' (putF f z fs')))) : FldA K f tv rd σ (.ref p) H R :=
  ⟨p, _, dx, _, v, rfl, S.ob, T.cls_Source, n, l, h⟩
theorem z_at {H : Hp} {p : Addr} {s : Src} {f : Str} {row : List Str} {dx r : Addr} {k : Nat} {z : V} {R : Hp → Prop} (S : SrcAt K row H p dx r k s) (h : R (upd H p (.ins (He.ga K "Source") dx (putF f z (srcF r k s.op s.md))))) :
    ∃ dx' fs', H p = some (.ins (He.ga K "Source") dx' fs') ∧ fs'.length < 1000 ∧ R (upd H p (.ins (He.ga K "Source") dx' (putF f z fs'))) := ⟨dx, _, S.ob, (by show 4 < 1000; omega), h⟩
theorem sc_Source_take : FnScope ["self", "found"] ["self"] (defScope s_Source_take) := ⟨rfl, rfl, rfl, by decide +kernel, rfl, by decide +kernel, by decide +kernel⟩
theorem okm_take (T : Tx K mg) : CalM P w K mg base CX0 2 (He.ga K "Source") "take" ["self"] (spTake K) := by
  obtain ⟨fd, F⟩ := T.f_Source_take
  refine cal_meth F T.m_Source_take T.cls_Source sc_Source_take (fun _ _ _ _ _ _ us hl => match us, hl with | [_], _ => rfl) (by walk_at "ln") (fun cdv A outer s H vs Q E hr h => ?_)
  obtain ⟨p, r, x, l, op, md, rfl, S0, k⟩ := h
  refine ⟨_, (pss_cons (ps_set (i := 1) sc_Source_take.nd rfl (Or.inl rfl) (pe_calm0 (pv 0) (okm_now T) (hr.mono (by decide)) pass0))
    (pss_cons (ps_fldaug (pv 0) pe_int in_add)
    (pss_one (ps_ret (pv 1))))), ?_⟩
  obtain ⟨row, dx, j, S⟩ := id S0
  walk_at "rd"
  refine z_methr S.ob (sl_now ..) ?_
  walk_at "rd"
  refine ⟨p, r, _, rfl, S0, ?_⟩
  walk_at "rd"
  refine z_src T S T.no_Source_spot (sl_spot ..) ?_
  walk_at "rd"
  refine z_at S ?_
  walk_at "rd"
  rw [sp_spot]
  obtain ⟨h1, _, h2⟩ := drop_len S.ts
  have S' := S.put (k' := j + 1) (s' := ⟨l, op, md⟩) (by omega) h2
  exact k _ ⟨row, dx, j + 1, S'⟩ ⟨row, dx, j, S', S.ts⟩ (Off.upd _ _ _)
def spNeed (K : PySem.W.Frag) : Sp := fun vs H Q _ => ∃ (p r : Addr) (x : Str) (l : List Str) (op md : Int), vs = [.ref p, .str x] ∧ SrcOk K H p r ⟨x :: l, op, md⟩ ∧ ∀ H', SrcOk K H' p r ⟨l, op, md⟩ → Off p H H' → Q .non H'
theorem sc_Source_need : FnScope ["self", "word"] ["self", "word"] (defScope s_Source_need) := ⟨rfl, rfl, rfl, by decide +kernel, rfl, by decide +kernel, by decide +kernel⟩
theorem okm_need (T : Tx K mg) : CalM P w K mg base CX0 3 (He.ga K "Source") "need" ["self", "word"] (spNeed K) := by
  obtain ⟨fd, F⟩ := T.f_Source_need
  refine cal_meth F T.m_Source_need T.cls_Source sc_Source_need (fun _ _ _ _ _ _ us hl => match us, hl with | [_, _], _ => rfl) (by walk_at "ln") (fun cdv A outer s H vs Q E hr h => ?_)
  obtain ⟨p, r, x, l, op, md, rfl, S0, k⟩ := h
  refine ⟨_, (pss_one (ps_if (pt_cmpR op_ne (pe_calm0 (pv 0) (okm_take T) (hr.mono (by decide)) pass0) (pv 1) (nomark _)) (pss_one ps_never) pss_nil)), ?_⟩
  obtain ⟨row, dx, j, S⟩ := id S0
  walk_at "rd"
  refine z_methr S.ob (sl_take ..) ?_
  walk_at "rd"
  refine ⟨p, r, x, l, op, md, rfl, S0, fun H1 S1 _ o1 => ?_⟩
  walk_at "rd"
  refine ifSn (fun c => absurd rfl c) (fun _ => ?_)
  exact k H1 S1 o1
def spNeedName (K : PySem.W.Frag) : Sp := fun vs H Q _ => ∃ (p r : Addr) (x : Str) (l : List Str) (op md : Int), vs = [.ref p] ∧ isName x = true ∧ SrcOk K H p r ⟨x :: l, op, md⟩ ∧ ∀ H', SrcOk K H' p r ⟨l, op, md⟩ → Off p H H' → Q (.str x) H'
theorem sc_Source_need_name : FnScope ["self", "found"] ["self"] (defScope s_Source_need_name) := ⟨rfl, rfl, rfl, by decide +kernel, rfl, by decide +kernel, by decide +kernel⟩
theorem okm_need_name (T : Tx K mg) : CalM P w K mg base CX0 4 (He.ga K "Source") "need_name" ["self"] (spNeedName K) := by
  obtain ⟨fd, F⟩ := T.f_Source_need_name
  refine cal_meth F T.m_Source_need_name T.cls_Source sc_Source_need_name (fun _ _ _ _ _ _ us hl => match us, hl with | [_], _ => rfl) (by walk_at "ln") (fun cdv A outer s H vs Q E hr h => ?_)
  obtain ⟨p, r, x, l, op, md, rfl, hx, S0, k⟩ := h
  refine ⟨_, (pss_cons (ps_set (i := 1) sc_Source_need_name.nd rfl (Or.inl rfl) (pe_calm0 (pv 0) (okm_take T) (hr.mono (by decide)) pass0))
    (pss_cons (ps_if (PW.pt (pw_or (pt_cmpR op_eq (pv 1) pe_str (nomark _)) (pw_or1 (pt_not (pt_val (pe_cal (ok_is_name T) (hr.mono (by decide)) pass0 (pa_cons (pv 1) pa_nil))))))) (pss_one ps_never) pss_nil)
    (pss_one (ps_ret (pv 1))))), ?_⟩
  obtain ⟨row, dx, j, S⟩ := id S0
  walk_at "rd"
  refine z_methr S.ob (sl_take ..) ?_
  walk_at "rd"
  refine ⟨p, r, x, l, op, md, rfl, S0, fun H1 S1 _ o1 => ?_⟩
  walk_at "rd"
  refine ifS (fun c => absurd c (name_ne hx)) (fun _ => ?_)
  walk_at "rd"
  have hl : x.length ≤ 10000 := S.lg.2 x (by
    have := (drop_len S.ts).2.1
    exact List.mem_of_getElem? this)
  refine ⟨x, rfl, hl, ?_⟩
  walk_at "rd"
  rw [hx]
  refine iteF ?_
  walk_at "rd"
  exact k H1 S1 o1
def spNeedKind (K : PySem.W.Frag) : Sp := fun vs H Q _ => ∃ (p r : Addr) (x : Str) (l : List Str) (op md : Int), vs = [.ref p] ∧ kindOk x = true ∧ SrcOk K H p r ⟨x :: l, op, md⟩ ∧ ∀ H', SrcOk K H' p r ⟨l, op, md⟩ → Off p H H' → Q (.str x) H'
theorem sc_Source_need_kind : FnScope ["self"] ["self"] (defScope s_Source_need_kind) := ⟨rfl, rfl, rfl, by decide +kernel, rfl, by decide +kernel, by decide +kernel⟩
theorem okm_need_kind (T : Tx K mg) : CalM P w K mg base CX0 5 (He.ga K "Source") "need_kind" ["self"] (spNeedKind K) := by
  obtain ⟨fd, F⟩ := T.f_Source_need_kind
  refine cal_meth F T.m_Source_need_kind T.cls_Source sc_Source_need_kind (fun _ _ _ _ _ _ us hl => match us, hl with | [_], _ => rfl) (by walk_at "ln") (fun cdv A outer s H vs Q E hr h => ?_)
  obtain ⟨p, r, x, l, op, md, rfl, hx, S0, k⟩ := h
  refine ⟨_, (pss_cons (ps_if (PW.pt (pw_or (pt_cmpR op_eq (pe_calm0 (pv 0) (okm_now T) (hr.mono (by decide)) pass0) pe_str (nomark _)) (pw_or1 (pt_cmpR op_eq (pe_calm0 (pv 0) (okm_now T) (hr.mono (by decide)) pass0) pe_str (nomark _))))) (pss_one (ps_ret (pe_calm0 (pv 0) (okm_take T) (hr.mono (by decide)) pass0))) pss_nil)
    (pss_one (ps_ret (pe_calm0 (pv 0) (okm_need_name T) (hr.mono (by decide)) pass0)))), ?_⟩
  obtain ⟨row, dx, j, S⟩ := id S0
  unfold kindOk at hx
  simp only [Bool.or_eq_true, decide_eq_true_eq] at hx
  walk_at "rd"
  refine z_methr S.ob (sl_now ..) ?_
  walk_at "rd"
  refine ⟨p, r, _, rfl, S0, ?_⟩
  walk_at "rd"
  refine ifS (fun c => ?_) (fun c1 => ?_)
  · walk_at "rd"
    refine z_methr S.ob (sl_take ..) ?_
    walk_at "rd"
    exact ⟨p, r, x, l, op, md, rfl, S0, fun H' a _ b => k H' a b⟩
  walk_at "rd"
  refine z_methr S.ob (sl_now ..) ?_
  walk_at "rd"
  refine ⟨p, r, _, rfl, S0, ?_⟩
  walk_at "rd"
  refine ifS (fun c => ?_) (fun c2 => ?_)
  · walk_at "rd"
    refine z_methr S.ob (sl_take ..) ?_
    walk_at "rd"
    exact ⟨p, r, x, l, op, md, rfl, S0, fun H' a _ b => k H' a b⟩
  walk_at "rd"
  refine z_methr S.ob (sl_need_name ..) ?_
  walk_at "rd"
  refine ⟨p, r, x, l, op, md, rfl, ?_, S0, k⟩
  rcases hx with (hx | hx) | hx
  · exact absurd hx c1
  · exact absurd hx c2
  · exact hx
def spOpen (K : PySem.W.Frag) : Sp := fun vs H Q _ => ∃ (p r : Addr) (l : List Str) (op md : Int), vs = [.ref p] ∧ op + 1 ≤ 14 ∧ SrcOk K H p r ⟨("(" : Str) :: l, op, md⟩ ∧ ∀ H', SrcOk K H' p r ⟨l, op + 1, md⟩ → Off p H H' → Q .non H'
theorem sc_Source_open_one : FnScope ["self"] ["self"] (defScope s_Source_open_one) := ⟨rfl, rfl, rfl, by decide +kernel, rfl, by decide +kernel, by decide +kernel⟩
theorem okm_open_one (T : Tx K mg) : CalM P w K mg base CX0 4 (He.ga K "Source") "open_one" ["self"] (spOpen K) := by
  obtain ⟨fd, F⟩ := T.f_Source_open_one
  refine cal_meth F T.m_Source_open_one T.cls_Source sc_Source_open_one (fun _ _ _ _ _ _ us hl => match us, hl with | [_], _ => rfl) (by walk_at "ln") (fun cdv A outer s H vs Q E hr h => ?_)
  obtain ⟨p, r, l, op, md, rfl, ho, S0, k⟩ := h
  refine ⟨_, (pss_cons (ps_expr (pe_calm (pv 0) (okm_need T) (hr.mono (by decide)) pass0 (pa_cons pe_str pa_nil)))
    (pss_cons (ps_fldaug (pv 0) pe_int in_add)
    (pss_one (ps_if (pt_cmpR op_gt (pe_fld (pv 0) rfl) (pe_gi T.c_MOST_BRACKETS) (nomark _)) (pss_one ps_never) pss_nil)))), ?_⟩
  obtain ⟨row, dx, j, S⟩ := id S0
  walk_at "rd"
  refine z_methr S.ob (sl_need ..) ?_
  walk_at "rd"
  refine ⟨p, r, _, l, op, md, rfl, S0, fun H1 S1 o1 => ?_⟩
  obtain ⟨row1, dx1, j1, S1⟩ := S1
  walk_at "rd"
  refine z_src T S1 T.no_Source_open_now (sl_open ..) ?_
  walk_at "rd"
  refine z_at S1 ?_
  walk_at "rd"
  rw [sp_open]
  have S2 := S1.put (s' := ⟨l, op + 1, md⟩) S1.le S1.ts
  refine z_open T S2 ?_
  walk_at "rd"
  refine ifD (fun c => absurd c (by show ¬ (14 : Int) < op + 1; omega)) (fun _ => ?_)
  exact k _ ⟨_, _, _, S2⟩ (o1.trans (Off.upd _ _ _))
def spClose (K : PySem.W.Frag) : Sp := fun vs H Q _ => ∃ (p r : Addr) (l : List Str) (op md : Int), vs = [.ref p] ∧ SrcOk K H p r ⟨(")" : Str) :: l, op, md⟩ ∧ ∀ H', SrcOk K H' p r ⟨l, op - 1, md⟩ → Off p H H' → Q .non H'
theorem sc_Source_close_one : FnScope ["self"] ["self"] (defScope s_Source_close_one) := ⟨rfl, rfl, rfl, by decide +kernel, rfl, by decide +kernel, by decide +kernel⟩
theorem okm_close_one (T : Tx K mg) : CalM P w K mg base CX0 4 (He.ga K "Source") "close_one" ["self"] (spClose K) := by
  obtain ⟨fd, F⟩ := T.f_Source_close_one
  refine cal_meth F T.m_Source_close_one T.cls_Source sc_Source_close_one (fun _ _ _ _ _ _ us hl => match us, hl with | [_], _ => rfl) (by walk_at "ln") (fun cdv A outer s H vs Q E hr h => ?_)
  obtain ⟨p, r, l, op, md, rfl, S0, k⟩ := h
  refine ⟨_, (pss_cons (ps_expr (pe_calm (pv 0) (okm_need T) (hr.mono (by decide)) pass0 (pa_cons pe_str pa_nil)))
    (pss_one (ps_fldaug (pv 0) pe_int in_sub))), ?_⟩
  obtain ⟨row, dx, j, S⟩ := id S0
  walk_at "rd"
  refine z_methr S.ob (sl_need ..) ?_
  walk_at "rd"
  refine ⟨p, r, _, l, op, md, rfl, S0, fun H1 S1 o1 => ?_⟩
  obtain ⟨row1, dx1, j1, S1⟩ := S1
  walk_at "rd"
  refine z_src T S1 T.no_Source_open_now (sl_open ..) ?_
  walk_at "rd"
  refine z_at S1 ?_
  walk_at "rd"
  rw [sp_open]
  have S2 := S1.put (s' := ⟨l, op - 1, md⟩) S1.le S1.ts
  exact k _ ⟨_, _, _, S2⟩ (o1.trans (Off.upd _ _ _))
end
end EH

set_option Elab.async false
set_option maxRecDepth 100000
set_option maxHeartbeats 4000000
set_option linter.unusedVariables false

/-! Terms as objects. -/
namespace EH
open PySem PySem.Spec PyProof.Rows L2 TL
local macro_rules | `(tactic| walk_at "lk") => `(tactic| repeat (first | exact lk_eq | exact lk_nil | refine lk_ne (by decide +kernel) ?_))
local macro_rules | `(tactic| walk_at "pt") => `(tactic| repeat (first | exact put_eq | exact put_nil | refine put_ne (by decide +kernel) ?_))
/-- the class of a term's form -/
def clsT : T → Str
  | .num _ => "NumberTerm"
  | .tru _ => "TruthTerm"
  | .nam _ => "NameTerm"
  | .slf => "SelfTerm"
  | .new _ _ => "NewTerm"
  | .eld _ _ => "ElderTerm"
  | .fld _ _ => "FieldTerm"
  | .cal _ _ _ => "CallTerm"
  | .nt _ => "NotTerm"
  | .two _ _ _ => "TwoTerm"
  | .ite _ _ _ => "IfTerm"
  | .lt _ _ _ => "LetTerm"
  | .st _ _ _ => "SetTerm"
theorem cls_in (t : T) : clsT t ∈ tcls := by cases t <;> simp [clsT, tcls]
/-- what every term's object has -/
def HM (K : PySem.W.Frag) (H : Hp) (v : V) (c : Str) (h m : Nat) (fs : List (Str × V)) : Prop := ∃ (a dx : Addr), v = .ref a ∧ H a = some (.ins (He.ga K c) dx fs) ∧ fs.lookup ("height" : Str) = some (.int h) ∧ fs.lookup ("many" : Str) = some (.int m) ∧ fs.lookup ("plain" : Str) = none ∧ fs.lookup ("depth" : Str) = none
theorem HM.mono {K : PySem.W.Frag} {H H' : Hp} {v : V} {c : Str} {h m : Nat} {fs : List (Str × V)} (s : Same H H') (x : HM K H v c h m fs) : HM K H' v c h m fs := by
  obtain ⟨a, dx, e, e1, r⟩ := x
  exact ⟨a, dx, e, s _ _ e1, r⟩
mutual
/-- v stands for the term -/
def RepT (K : PySem.W.Frag) (H : Hp) : T → V → Prop
  | .num n, v => ∃ fs, HM K H v "NumberTerm" (T.num n).depth (T.num n).size fs ∧ fs.lookup ("number" : Str) = some (.int (n : Int))
  | .tru b, v => ∃ fs, HM K H v "TruthTerm" (T.tru b).depth (T.tru b).size fs ∧ fs.lookup ("is_yes" : Str) = some (.bl b)
  | .nam x, v => ∃ fs, HM K H v "NameTerm" (T.nam x).depth (T.nam x).size fs ∧ fs.lookup ("called" : Str) = some (.str x)
  | .slf, v => ∃ fs, HM K H v "SelfTerm" T.slf.depth T.slf.size fs
  | .new x ts, v => ∃ fs l vs, HM K H v "NewTerm" (T.new x ts).depth (T.new x ts).size fs ∧ fs.lookup ("called" : Str) = some (.str x) ∧ fs.lookup ("inner" : Str) = some (.ref l) ∧ H l = some (.lst vs) ∧ RepL K H ts vs
  | .eld x ts, v => ∃ fs l vs, HM K H v "ElderTerm" (T.eld x ts).depth (T.eld x ts).size fs ∧ fs.lookup ("called" : Str) = some (.str x) ∧ fs.lookup ("inner" : Str) = some (.ref l) ∧ H l = some (.lst vs) ∧ RepL K H ts vs
  | .fld t x, v => ∃ fs u, HM K H v "FieldTerm" (T.fld t x).depth (T.fld t x).size fs ∧ fs.lookup ("thing" : Str) = some u ∧ RepT K H t u ∧ fs.lookup ("called" : Str) = some (.str x)
  | .cal t x ts, v => ∃ fs u l vs, HM K H v "CallTerm" (T.cal t x ts).depth (T.cal t x ts).size fs ∧ fs.lookup ("thing" : Str) = some u ∧ RepT K H t u ∧ fs.lookup ("called" : Str) = some (.str x) ∧ fs.lookup ("given" : Str) = some (.ref l) ∧ H l = some (.lst vs) ∧ RepL K H ts vs
  | .nt t, v => ∃ fs u, HM K H v "NotTerm" (T.nt t).depth (T.nt t).size fs ∧ fs.lookup ("one" : Str) = some u ∧ RepT K H t u
  | .two g a b, v => ∃ fs u1 u2, HM K H v "TwoTerm" (T.two g a b).depth (T.two g a b).size fs ∧ fs.lookup ("sign" : Str) = some (.str g) ∧ fs.lookup ("one" : Str) = some u1 ∧ RepT K H a u1 ∧ fs.lookup ("other" : Str) = some u2 ∧ RepT K H b u2
  | .ite a b c, v => ∃ fs u1 u2 u3, HM K H v "IfTerm" (T.ite a b c).depth (T.ite a b c).size fs ∧ fs.lookup ("one" : Str) = some u1 ∧ RepT K H a u1 ∧ fs.lookup ("other" : Str) = some u2 ∧ RepT K H b u2 ∧ fs.lookup ("third" : Str) = some u3 ∧ RepT K H c u3
  | .lt x a b, v => ∃ fs u1 u2, HM K H v "LetTerm" (T.lt x a b).depth (T.lt x a b).size fs ∧ fs.lookup ("called" : Str) = some (.str x) ∧ fs.lookup ("one" : Str) = some u1 ∧ RepT K H a u1 ∧ fs.lookup ("other" : Str) = some u2 ∧ RepT K H b u2
  | .st t x b, v => ∃ fs u1 u2, HM K H v "SetTerm" (T.st t x b).depth (T.st t x b).size fs ∧ fs.lookup ("thing" : Str) = some u1 ∧ RepT K H t u1 ∧ fs.lookup ("called" : Str) = some (.str x) ∧ fs.lookup ("other" : Str) = some u2 ∧ RepT K H b u2
def RepL (K : PySem.W.Frag) (H : Hp) : List T → List V → Prop
  | [], vs => vs = []
  | t :: ts, vs => ∃ v r, vs = v :: r ∧ RepT K H t v ∧ RepL K H ts r
end
theorem rep_mono {K : PySem.W.Frag} {H H' : Hp} (s : Same H H') : (∀ t : T, ∀ v, RepT K H t v → RepT K H' t v) := by
  have lst : ∀ ts : List T, (∀ t ∈ ts, ∀ v, RepT K H t v → RepT K H' t v) → ∀ vs, RepL K H ts vs → RepL K H' ts vs := by
    intro ts
    induction ts with
    | nil => exact fun _ vs h => h
    | cons t ts ih => exact fun q vs ⟨v, r, e, h1, h2⟩ => ⟨v, r, e, q t List.mem_cons_self v h1, ih (fun u hu => q u (List.mem_cons_of_mem _ hu)) r h2⟩
  intro t
  induction t using T.ind with
  | hnum n => exact fun v ⟨fs, h, e⟩ => ⟨fs, h.mono s, e⟩
  | htru b => exact fun v ⟨fs, h, e⟩ => ⟨fs, h.mono s, e⟩
  | hnam x => exact fun v ⟨fs, h, e⟩ => ⟨fs, h.mono s, e⟩
  | hslf => exact fun v ⟨fs, h⟩ => ⟨fs, h.mono s⟩
  | hnew x ts ih => exact fun v ⟨fs, l, vs, h, e1, e2, e3, e4⟩ => ⟨fs, l, vs, h.mono s, e1, e2, s _ _ e3, lst ts ih vs e4⟩
  | held x ts ih => exact fun v ⟨fs, l, vs, h, e1, e2, e3, e4⟩ => ⟨fs, l, vs, h.mono s, e1, e2, s _ _ e3, lst ts ih vs e4⟩
  | hfld t x ih => exact fun v ⟨fs, u, h, e1, e2, e3⟩ => ⟨fs, u, h.mono s, e1, ih u e2, e3⟩
  | hcal t x ts ih iht => exact fun v ⟨fs, u, l, vs, h, e1, e2, e3, e4, e5, e6⟩ => ⟨fs, u, l, vs, h.mono s, e1, ih u e2, e3, e4, s _ _ e5, lst ts iht vs e6⟩
  | hnt t ih => exact fun v ⟨fs, u, h, e1, e2⟩ => ⟨fs, u, h.mono s, e1, ih u e2⟩
  | htwo g a b iha ihb => exact fun v ⟨fs, u1, u2, h, e0, e1, e2, e3, e4⟩ => ⟨fs, u1, u2, h.mono s, e0, e1, iha u1 e2, e3, ihb u2 e4⟩
  | hite a b c iha ihb ihc => exact fun v ⟨fs, u1, u2, u3, h, e1, e2, e3, e4, e5, e6⟩ => ⟨fs, u1, u2, u3, h.mono s, e1, iha u1 e2, e3, ihb u2 e4, e5, ihc u3 e6⟩
  | hlt x a b iha ihb => exact fun v ⟨fs, u1, u2, h, e0, e1, e2, e3, e4⟩ => ⟨fs, u1, u2, h.mono s, e0, e1, iha u1 e2, e3, ihb u2 e4⟩
  | hst t x b iht ihb => exact fun v ⟨fs, u1, u2, h, e1, e2, e0, e3, e4⟩ => ⟨fs, u1, u2, h.mono s, e1, iht u1 e2, e0, e3, ihb u2 e4⟩
theorem repL_mono {K : PySem.W.Frag} {H H' : Hp} (s : Same H H') : ∀ (ts : List T) (vs : List V), RepL K H ts vs → RepL K H' ts vs
  | [], _, h => h
  | t :: ts, _, ⟨v, r, e, h1, h2⟩ => ⟨v, r, e, rep_mono s t v h1, repL_mono s ts r h2⟩
theorem repL_len {K : PySem.W.Frag} {H : Hp} : ∀ {ts : List T} {vs : List V}, RepL K H ts vs → vs.length = ts.length
  | [], _, h => by rw [show _ = [] from h]; rfl
  | t :: ts, _, ⟨v, r, e, _, h2⟩ => by rw [e, List.length_cons, repL_len h2]; rfl
theorem repL_app {K : PySem.W.Frag} {H : Hp} {t : T} {v : V} : ∀ {ts : List T} {vs : List V}, RepL K H ts vs → RepT K H t v → RepL K H (ts ++ [t]) (vs ++ [v])
  | [], _, h, k => by rw [show _ = [] from h]; exact ⟨v, [], rfl, k, rfl⟩
  | u :: ts, _, ⟨w, r, e, h1, h2⟩, k => by rw [e]; exact ⟨w, r ++ [v], rfl, h1, repL_app h2 k⟩
theorem repL_at {K : PySem.W.Frag} {H : Hp} : ∀ {ts : List T} {vs : List V} {i : Nat} {v : V}, RepL K H ts vs → vs[i]? = some v → ∃ t, ts[i]? = some t ∧ RepT K H t v
  | [], _, i, v, h, e => by rw [show _ = [] from h] at e; simp at e
  | t :: ts, _, 0, v, ⟨w, r, ev, h1, _⟩, e => by
    rw [ev] at e
    have := Option.some.inj (show some w = some v from e)
    exact ⟨t, rfl, this ▸ h1⟩
  | t :: ts, _, i + 1, v, ⟨w, r, ev, _, h2⟩, e => by
    rw [ev] at e
    exact repL_at (i := i) h2 e
theorem rep_hm {K : PySem.W.Frag} {H : Hp} {t : T} {v : V} (h : RepT K H t v) : ∃ fs, HM K H v (clsT t) t.depth t.size fs := by
  cases t with
  | num n => obtain ⟨fs, h, _⟩ := h; exact ⟨fs, h⟩
  | tru b => obtain ⟨fs, h, _⟩ := h; exact ⟨fs, h⟩
  | nam x => obtain ⟨fs, h, _⟩ := h; exact ⟨fs, h⟩
  | slf => obtain ⟨fs, h⟩ := h; exact ⟨fs, h⟩
  | new x ts => obtain ⟨fs, _, _, h, _⟩ := h; exact ⟨fs, h⟩
  | eld x ts => obtain ⟨fs, _, _, h, _⟩ := h; exact ⟨fs, h⟩
  | fld t x => obtain ⟨fs, _, h, _⟩ := h; exact ⟨fs, h⟩
  | cal t x ts => obtain ⟨fs, _, _, _, h, _⟩ := h; exact ⟨fs, h⟩
  | nt t => obtain ⟨fs, _, h, _⟩ := h; exact ⟨fs, h⟩
  | two g a b => obtain ⟨fs, _, _, h, _⟩ := h; exact ⟨fs, h⟩
  | ite a b c => obtain ⟨fs, _, _, _, h, _⟩ := h; exact ⟨fs, h⟩
  | lt x a b => obtain ⟨fs, _, _, h, _⟩ := h; exact ⟨fs, h⟩
  | st t x b => obtain ⟨fs, _, _, h, _⟩ := h; exact ⟨fs, h⟩
local macro_rules | `(tactic| walk_at "rd1") => `(tactic| (first
  | with_reducible refine z_seq ?_ | with_reducible refine z_ifs ?_ | with_reducible refine z_next ?_ | with_reducible refine z_ret ?_ | with_reducible refine z_asg ?_ | with_reducible refine z_gname ?_
  | ((with_reducible apply z_var); exact rfl) | with_reducible refine z_c ?_ | with_reducible refine z_op ?_ | with_reducible refine z_bl ?_ | with_reducible refine z_test ?_ | with_reducible refine z_B ?_
  | with_reducible refine z_nil ?_ | with_reducible refine z_cons ?_ | with_reducible refine z_cb ?_ | with_reducible refine z_call ?_ | with_reducible refine iteT ?_ | with_reducible refine iteF ?_
  | with_reducible refine z_or ?_ | with_reducible refine z_and ?_ | with_reducible refine z_not ?_ | with_reducible refine z_orv ?_ | with_reducible refine z_andv ?_ | with_reducible refine z_notv ?_ | with_reducible refine z_un ?_
  | with_reducible refine z_eqS ?_ | with_reducible refine z_neS ?_ | with_reducible refine z_eqI ?_ | with_reducible refine z_neI ?_ | with_reducible refine z_i0 ?_ | with_reducible refine z_radd ?_ | with_reducible refine z_rsub ?_ | with_reducible refine z_iu ?_
  | with_reducible refine z_fld ?_ | with_reducible refine z_meth ?_ | with_reducible refine z_sfld ?_ | with_reducible refine z_flda ?_ | with_reducible refine z_make ?_ | with_reducible refine z_drop ?_ | with_reducible refine z_retn ?_ | with_reducible refine z_cont ?_
  | with_reducible refine z_tup ?_ | with_reducible refine z_lst ?_ | with_reducible refine z_slice ?_ | with_reducible refine z_nopart ?_ | with_reducible refine z_part ?_ | with_reducible refine z_intr ?_ | with_reducible refine z_m1 ?_ | with_reducible refine z_lc ?_ | with_reducible refine z_yes ?_ | with_reducible refine z_il ?_ | with_reducible refine z_it ?_ | with_reducible refine z_bm ?_ | with_reducible refine z_for ?_ | with_reducible refine z_gcons ?_ | with_reducible refine z_gnil ?_))
local macro_rules | `(tactic| walk_at "rd") => `(tactic| repeat (walk_at "rd1"))
local macro_rules | `(tactic| walk_at "no") => `(tactic| repeat (first | refine ifF (bSf (by decide +kernel)) ?_ | refine ifF (bSf num_ne) ?_ | (walk_at "rd1")))
local macro_rules | `(tactic| walk_at "ln") => `(tactic| (rintro vs H Q E h; repeat (first | (obtain ⟨e, _⟩ := h; subst e; rfl) | (obtain ⟨_, h⟩ := h))))
section
variable {P : Program} {w : World} {K : PySem.W.Frag} {mg : Str → Option Value} {base : Heap}
theorem t_facts (T : Tx K mg) : ∀ c ∈ tcls, Cls K (He.ga K c) ∧ NoAttr K (He.ga K c) "inner" ∧ NoAttr K (He.ga K c) "height" ∧ NoAttr K (He.ga K c) "many" := by
  intro c hc
  simp only [tcls, List.mem_cons, List.not_mem_nil, or_false] at hc
  rcases hc with rfl | rfl | rfl | rfl | rfl | rfl | rfl | rfl | rfl | rfl | rfl | rfl | rfl
  · exact ⟨T.cls_NumberTerm, T.no_NumberTerm_inner, T.no_NumberTerm_height, T.no_NumberTerm_many⟩
  · exact ⟨T.cls_TruthTerm, T.no_TruthTerm_inner, T.no_TruthTerm_height, T.no_TruthTerm_many⟩
  · exact ⟨T.cls_NameTerm, T.no_NameTerm_inner, T.no_NameTerm_height, T.no_NameTerm_many⟩
  · exact ⟨T.cls_SelfTerm, T.no_SelfTerm_inner, T.no_SelfTerm_height, T.no_SelfTerm_many⟩
  · exact ⟨T.cls_NewTerm, T.no_NewTerm_inner, T.no_NewTerm_height, T.no_NewTerm_many⟩
  · exact ⟨T.cls_ElderTerm, T.no_ElderTerm_inner, T.no_ElderTerm_height, T.no_ElderTerm_many⟩
  · exact ⟨T.cls_FieldTerm, T.no_FieldTerm_inner, T.no_FieldTerm_height, T.no_FieldTerm_many⟩
  · exact ⟨T.cls_CallTerm, T.no_CallTerm_inner, T.no_CallTerm_height, T.no_CallTerm_many⟩
  · exact ⟨T.cls_NotTerm, T.no_NotTerm_inner, T.no_NotTerm_height, T.no_NotTerm_many⟩
  · exact ⟨T.cls_TwoTerm, T.no_TwoTerm_inner, T.no_TwoTerm_height, T.no_TwoTerm_many⟩
  · exact ⟨T.cls_IfTerm, T.no_IfTerm_inner, T.no_IfTerm_height, T.no_IfTerm_many⟩
  · exact ⟨T.cls_LetTerm, T.no_LetTerm_inner, T.no_LetTerm_height, T.no_LetTerm_many⟩
  · exact ⟨T.cls_SetTerm, T.no_SetTerm_inner, T.no_SetTerm_height, T.no_SetTerm_many⟩
theorem maxI : ∀ (ts : List T) (m : Int), m ∈ (ts.map fun t => (t.depth : Int)) ++ [0] → (∀ y, y ∈ (ts.map fun t => (t.depth : Int)) ++ [0] → y ≤ m) → m = (depthL ts : Int) := by
  have low : ∀ (ts : List T) (m : Int), m ∈ (ts.map fun t => (t.depth : Int)) ++ [0] → m ≤ (depthL ts : Int) := by
    intro ts
    induction ts with
    | nil => intro m h; simp at h; rw [h]; show (0 : Int) ≤ ((0 : Nat) : Int); omega
    | cons t ts ih =>
      intro m h
      have e : ((depthL (t :: ts) : Nat) : Int) = ((max t.depth (depthL ts) : Nat) : Int) := rfl
      rw [e]
      rcases List.mem_cons.mp (show m ∈ (t.depth : Int) :: ((ts.map fun t => (t.depth : Int)) ++ [0]) from h) with h | h
      · rw [h]; omega
      · have := ih m h; omega
  have high : ∀ (ts : List T) (m : Int), (∀ y, y ∈ (ts.map fun t => (t.depth : Int)) ++ [0] → y ≤ m) → (depthL ts : Int) ≤ m := by
    intro ts
    induction ts with
    | nil => intro m h; exact h 0 (by simp)
    | cons t ts ih =>
      intro m h
      have e : ((depthL (t :: ts) : Nat) : Int) = ((max t.depth (depthL ts) : Nat) : Int) := rfl
      rw [e]
      have h1 := h (t.depth : Int) (by simp)
      have h2 := ih m fun y hy => h y (List.mem_cons_of_mem _ hy)
      omega
  exact fun ts m h1 h2 => Int.le_antisymm (low ts m h1) (high ts m h2)
theorem sumI : ∀ ts : List T, (ts.map fun t => (t.size : Int)).sum = (sizeL ts : Int)
  | [] => rfl
  | t :: ts => by
    rw [List.map_cons, List.sum_cons, sumI ts]
    show _ = ((t.size + sizeL ts : Nat) : Int)
    omega
/-- the objects of some terms, told by depth and size alone -/
def DML (K : PySem.W.Frag) (H : Hp) (ts : List T) (vs : List V) : Prop := vs.length = ts.length ∧ ∀ (i : Nat) (v : V), vs[i]? = some v → ∃ t fs, ts[i]? = some t ∧ HM K H v (clsT t) t.depth t.size fs
theorem dml_of {H : Hp} {ts : List T} {vs : List V} (h : RepL K H ts vs) : DML K H ts vs := ⟨repL_len h, fun i v e => by
  obtain ⟨t, h1, h2⟩ := repL_at h e
  obtain ⟨fs, h3⟩ := rep_hm h2
  exact ⟨t, fs, h1, h3⟩⟩
theorem DML.mono {H H' : Hp} {ts : List T} {vs : List V} (s : Same H H') (h : DML K H ts vs) : DML K H' ts vs := ⟨h.1, fun i v e => by
  obtain ⟨t, fs, h1, h2⟩ := h.2 i v e
  exact ⟨t, fs, h1, h2.mono s⟩⟩
def initF (l : Addr) (h m : Nat) : List (Str × V) := [("inner", .ref l), ("height", .int h), ("many", .int m)]
/-- Term's own __init__, called for a new object x of a term's class -/
def spTermInit (K : PySem.W.Frag) : Sp := fun vs H Q _ => ∃ (x dx l : Addr) (c : Str) (ts : List T) (us : List V), vs = [.ref x, .ref l] ∧ c ∈ tcls ∧ H x = some (.ins (He.ga K c) dx []) ∧ SqL K (cut x H) l us ∧ DML K (cut x H) ts us ∧ ts.length ≤ 20 ∧
  ∀ (H' : Hp) (l' : Addr), Off x H H' → H' x = some (.ins (He.ga K c) dx (initF l' (1 + depthL ts) (1 + sizeL ts))) → l' ≠ x → H l' = none → H' l' = some (.lst us) → Q .non H'
theorem cut_upd {x : Addr} {H : Hp} {o : HO} : Same (cut x H) (cut x (upd H x o)) := fun b u e => by
  obtain ⟨h1, h2⟩ := cut_at e
  rw [cut_ne h1, upd_ne h1]
  exact h2
theorem take_map {f : T → V} {ts : List T} {i : Nat} {t : T} (h : ts[i]? = some t) : ((ts.take i).map f) ++ [f t] = (ts.take (i + 1)).map f := by
  rw [List.take_add_one, h, List.map_append]
  rfl
theorem sc_Term_init : FnScope ["self", "inner", "part"] ["self", "inner"] (defScope s_Term_init) := ⟨rfl, rfl, rfl, by decide +kernel, rfl, by decide +kernel, by decide +kernel⟩
theorem fn_Term_init (T : Tx K mg) : ∃ fd, FnOk P w K mg base CX0 1 (He.ma K (He.ga K "Term") "__init__") fd ["self", "inner"] (spTermInit K) ∧ Binds K fd ["self", "inner"] [] := by
  obtain ⟨fd, F⟩ := T.f_Term_init
  refine ⟨fd, fn_meth F sc_Term_init (fun _ _ _ _ _ _ us hl => match us, hl with | [_, _], _ => rfl) (by walk_at "ln") (fun cdv A outer s H vs Q E hr h => ?_)⟩
  obtain ⟨x, dx, l, c, ts, us, rfl, hc, hx, hL, hD, hts, k⟩ := h
  obtain ⟨f1, f2, f3, f4⟩ := t_facts T c hc
  refine ⟨_, (pss_cons (ps_fld (pv 0) (pe_callTy call_list_of (by rfl) T.b_list (by decide +kernel) (pa_cons (pv 1) pa_nil)) rfl)
    (pss_cons (ps_fld (pv 0) (pe_op op_add pe_int (pe_callB (cr_max rfl) (by rfl) T.b_max (by decide +kernel) (pa_cons (pe_op op_cat (pe_lc (own := [("part", 2)]) (g := gName 2) (by rfl) sc_Term_init.nd (pi_list (pv 1)) (blkOk_by (own := [("part", 2)]) (N := ["self", "inner", "part"]) (sc := defScope s_Term_init) (by decide +kernel)) (fun _ _ _ _ _ => pg_name (i := 2) sc_Term_init.nd rfl (Or.inl rfl)) (fun _ _ _ _ _ => pts_nil) (fun _ _ _ _ _ => (pe_fldK (K := K) rfl (pv 2) rfl))) (pe_lst (pa_cons pe_int pa_nil))) pa_nil))) rfl)
    (pss_one (ps_fld (pv 0) (pe_op op_add pe_int (pe_callB (cr_sum rfl) (by rfl) T.b_sum (by decide +kernel) (pa_cons (pe_lc (own := [("part", 2)]) (g := gName 2) (by rfl) sc_Term_init.nd (pi_list (pv 1)) (blkOk_by (own := [("part", 2)]) (N := ["self", "inner", "part"]) (sc := defScope s_Term_init) (by decide +kernel)) (fun _ _ _ _ _ => pg_name (i := 2) sc_Term_init.nd rfl (Or.inl rfl)) (fun _ _ _ _ _ => pts_nil) (fun _ _ _ _ _ => (pe_fldK (K := K) rfl (pv 2) rfl))) pa_nil))) rfl)))), ?_⟩
  have hus : us.length ≤ 20 := by rw [hD.1]; exact hts
  walk_at "rd"
  refine ⟨l, us, rfl, .inl (Same.seq (cut_same x H) hL), fun l' hl' => ?_⟩
  have nlx : l' ≠ x := fun e => by rw [e, hx] at hl'; cases hl'
  walk_at "rd"
  refine z_fldw (by rw [upd_ne nlx.symm]; exact hx) f1 f2 (by show 0 < 1000; omega) ?_
  walk_at "rd"
  have o1 : Off x H (upd (upd H l' (.lst us)) x (.ins (He.ga K c) dx (putF "inner" (.ref l') []))) := Off.trans (Off.same (Same.new hl')) (Off.upd _ _ _)
  generalize hH1 : upd (upd H l' (.lst us)) x (.ins (He.ga K c) dx (putF "inner" (.ref l') [])) = H1 at o1
  have hx1 : H1 x = some (.ins (He.ga K c) dx [("inner", .ref l')]) := by rw [← hH1, upd_same, put_nil]
  have hl1 : H1 l' = some (.lst us) := by rw [← hH1, upd_ne nlx, upd_same]
  clear hH1
  -- height
  refine z_ilr (Same.seq (cut_same x H1) (Same.seq o1 hL)) ?_
  refine z_lcr (walk_list (K := K) (a := l) (xs := us)) (fun i acc _ => acc = (ts.take i).map fun t => V.int (t.depth : Int)) (fun H2 hS => Same.seq hS (Same.seq (cut_same x H1) (Same.seq o1 hL))) (fun _ _ => rfl) ?_ ?_
  · rintro D i acc y H2 H3 hD1 hi hS hal hacc hR ⟨rfl, hy⟩
    obtain ⟨t, fs, ht, a, dx', rfl, ha, hh, hm, _, _⟩ := hD.2 i y hy
    obtain ⟨g1, g2, g3, g4⟩ := t_facts T _ (cls_in t)
    walk_at "rd"
    refine ⟨rfl, ?_⟩
    walk_at "rd"
    refine z_fldr (hS _ _ ((cut_same x H1) _ _ (o1 _ _ ha))) g1 g3 hh ?_
    refine lc_end hD1 hS hacc hal (by omega) (Same.refl _) fun H5 _ _ _ => ?_
    rw [hR]
    exact take_map ht
  · intro D acc H2 hD1 hS hacc hR
    rw [hD.1, List.take_length] at hR
    walk_at "rd"
    refine z_lstr (by show 1 ≤ 100000; omega) fun p0 hp0 => ?_
    refine ⟨D, p0, acc, [.int 0], rfl, rfl, by rw [upd_ne (ne_of_none hacc hp0)]; exact hacc, upd_same, len_sz (by rw [hR]; simp; omega), fun p1 hp1 => ?_⟩
    refine ⟨p1, (ts.map fun t => (t.depth : Int)) ++ [0], rfl, SqL.of (by rw [upd_same, hR]; simp), by simp, fun m hm1 hm2 => ?_⟩
    have em := maxI ts m hm1 hm2
    subst em
    walk_at "rd"
    have s2 : Same H1 (upd (upd H2 p0 (.lst [.int 0])) p1 (.lst (acc ++ [.int 0]))) := (hS.trans (Same.new hp0)).trans (Same.new hp1)
    generalize upd (upd H2 p0 (.lst [.int 0])) p1 (.lst (acc ++ [.int 0])) = H4 at s2
    refine z_fldw (s2 _ _ hx1) f1 f3 (by show 1 < 1000; omega) ?_
    walk_at "rd"
    have e1 : putF "height" (V.int (1 + (depthL ts : Int))) [("inner", V.ref l')] = ([("inner", .ref l'), ("height", .int ((1 + depthL ts : Nat) : Int))] : List (Str × V)) := by
      rw [show (((1 + depthL ts : Nat) : Int)) = 1 + (depthL ts : Int) by omega]
      walk_at "pt"
    rw [e1]
    have o2 : Off x H1 (upd H4 x (.ins (He.ga K c) dx [("inner", .ref l'), ("height", .int ((1 + depthL ts : Nat) : Int))])) := Off.trans (Off.same s2) (Off.upd _ _ _)
    generalize hH5 : upd H4 x (.ins (He.ga K c) dx [("inner", .ref l'), ("height", .int ((1 + depthL ts : Nat) : Int))]) = H5 at o2
    have hx5 : H5 x = some (.ins (He.ga K c) dx [("inner", .ref l'), ("height", .int ((1 + depthL ts : Nat) : Int))]) := by rw [← hH5, upd_same]
    have hl5 : H5 l' = some (.lst us) := o2.at nlx hl1
    clear hH5
    have o5 := o1.trans o2
    -- many
    refine z_ilr (Same.seq (cut_same x H5) (Same.seq o5 hL)) ?_
    refine z_lcr (walk_list (K := K) (a := l) (xs := us)) (fun i acc _ => acc = (ts.take i).map fun t => V.int (t.size : Int)) (fun H2 hS => Same.seq hS (Same.seq (cut_same x H5) (Same.seq o5 hL))) (fun _ _ => rfl) ?_ ?_
    · rintro D' i acc y H6 H7 hD1 hi hS hal hacc hR ⟨rfl, hy⟩
      obtain ⟨t, fs, ht, a, dx', rfl, ha, hh, hm, _, _⟩ := hD.2 i y hy
      obtain ⟨g1, g2, g3, g4⟩ := t_facts T _ (cls_in t)
      walk_at "rd"
      refine ⟨rfl, ?_⟩
      walk_at "rd"
      refine z_fldr (hS _ _ ((cut_same x H5) _ _ (o5 _ _ ha))) g1 g4 hm ?_
      refine lc_end hD1 hS hacc hal (by omega) (Same.refl _) fun H5 _ _ _ => ?_
      rw [hR]
      exact take_map ht
    · intro D' acc H6 hD1 hS hacc hR
      rw [hD.1, List.take_length] at hR
      refine ⟨D', ts.map fun t => (t.size : Int), rfl, SqL.of (by rw [hacc, hR]; simp), ?_⟩
      rw [sumI]
      walk_at "rd"
      refine z_fldw (hS _ _ hx5) f1 f4 (by show 2 < 1000; omega) ?_
      have e2 : putF "many" (V.int (1 + (sizeL ts : Int))) [("inner", V.ref l'), ("height", .int ((1 + depthL ts : Nat) : Int))] = initF l' (1 + depthL ts) (1 + sizeL ts) := by
        unfold initF
        rw [show (((1 + sizeL ts : Nat) : Int)) = 1 + (sizeL ts : Int) by omega]
        walk_at "pt"
      refine k _ l' ((o5.trans (Off.same hS)).trans (Off.upd _ _ _)) (by rw [upd_same, e2]) nlx hl' ?_
      rw [upd_ne nlx]
      exact hS _ _ hl5
end
end EH

set_option Elab.async false
set_option maxRecDepth 100000
set_option maxHeartbeats 4000000
set_option linter.unusedVariables false

/-! The classes of terms: __init__. Printed by mkw4.py. -/
namespace EH
open PySem PySem.Spec PyProof.Rows L2 TL
local macro_rules | `(tactic| walk_at "lk") => `(tactic| repeat (first | exact lk_eq | exact lk_nil | refine lk_ne (by decide +kernel) ?_))
theorem lk_put_eq {f : Str} {v : V} : ∀ {l : List (Str × V)}, List.lookup f (putF f v l) = some v
  | [] => by rw [put_nil]; exact lk_eq
  | (g, z) :: l => by
    by_cases h : g = f
    · subst h; rw [put_eq]; exact lk_eq
    · rw [put_ne h rfl]
      exact lk_ne (by rw [beq_eq_false_iff_ne]; exact fun e => h e.symm) lk_put_eq
theorem lk_put_ne {f g : Str} {v : V} {r : Option V} (h : (f == g) = false) : ∀ {l : List (Str × V)}, List.lookup f l = r → List.lookup f (putF g v l) = r
  | [], e => by rw [put_nil]; exact lk_ne h e
  | (k, z) :: l, e => by
    by_cases hk : k = g
    · subst hk
      rw [put_eq]
      have e2 : (match f == k with | true => some z | false => List.lookup f l) = r := e
      rw [h] at e2
      exact lk_ne h e2
    · rw [put_ne hk rfl]
      by_cases hf : (f == k) = true
      · have ef : f = k := eq_of_beq hf
        subst ef
        rw [show List.lookup f ((f, z) :: l) = some z from lk_eq] at e
        rw [← e]
        exact lk_eq
      · have hf' : (f == k) = false := by simpa using hf
        have e2 : (match f == k with | true => some z | false => List.lookup f l) = r := e
        rw [hf'] at e2
        exact lk_ne hf' (lk_put_ne h e2)
theorem put_len {f : Str} {v : V} : ∀ {l : List (Str × V)} {m : Nat}, l.length ≤ m → (putF f v l).length ≤ m + 1
  | [], m, _ => by rw [put_nil]; exact Nat.succ_le_succ (Nat.zero_le _)
  | (g, z) :: l, m, h => by
    by_cases e : g = f
    · subst e
      rw [put_eq]
      exact Nat.le_succ_of_le h
    · rw [put_ne e rfl]
      obtain ⟨m', rfl⟩ : ∃ m', m = m' + 1 := ⟨m - 1, by simp at h; omega⟩
      exact Nat.succ_le_succ (put_len (Nat.le_of_succ_le_succ h))
theorem init_len {l : Addr} {h m : Nat} : (initF l h m).length ≤ 3 := Nat.le_refl 3
theorem li_inner {l : Addr} {h m : Nat} : (initF l h m).lookup ("inner" : Str) = some (.ref l) := by unfold initF; walk_at "lk"
theorem li_height {l : Addr} {h m : Nat} : (initF l h m).lookup ("height" : Str) = some (.int h) := by unfold initF; walk_at "lk"
theorem li_many {l : Addr} {h m : Nat} : (initF l h m).lookup ("many" : Str) = some (.int m) := by unfold initF; walk_at "lk"
theorem li_plain {l : Addr} {h m : Nat} : (initF l h m).lookup ("plain" : Str) = none := by unfold initF; walk_at "lk"
theorem li_depth {l : Addr} {h m : Nat} : (initF l h m).lookup ("depth" : Str) = none := by unfold initF; walk_at "lk"
local macro_rules | `(tactic| walk_at "lp") => `(tactic| repeat (first | with_reducible exact lk_put_eq | with_reducible exact li_inner | with_reducible exact li_height | with_reducible exact li_many | with_reducible exact li_plain | with_reducible exact li_depth | with_reducible refine lk_put_ne (by decide +kernel) ?_))
local macro_rules | `(tactic| walk_at "rd1") => `(tactic| (first
  | with_reducible refine z_seq ?_ | with_reducible refine z_ifs ?_ | with_reducible refine z_next ?_ | with_reducible refine z_ret ?_ | with_reducible refine z_asg ?_ | with_reducible refine z_gname ?_
  | ((with_reducible apply z_var); exact rfl) | with_reducible refine z_c ?_ | with_reducible refine z_op ?_ | with_reducible refine z_bl ?_ | with_reducible refine z_test ?_ | with_reducible refine z_B ?_
  | with_reducible refine z_nil ?_ | with_reducible refine z_cons ?_ | with_reducible refine z_cb ?_ | with_reducible refine z_call ?_ | with_reducible refine iteT ?_ | with_reducible refine iteF ?_
  | with_reducible refine z_or ?_ | with_reducible refine z_and ?_ | with_reducible refine z_not ?_ | with_reducible refine z_orv ?_ | with_reducible refine z_andv ?_ | with_reducible refine z_notv ?_ | with_reducible refine z_un ?_
  | with_reducible refine z_eqS ?_ | with_reducible refine z_neS ?_ | with_reducible refine z_eqI ?_ | with_reducible refine z_neI ?_ | with_reducible refine z_i0 ?_ | with_reducible refine z_radd ?_ | with_reducible refine z_rsub ?_ | with_reducible refine z_iu ?_
  | with_reducible refine z_fld ?_ | with_reducible refine z_meth ?_ | with_reducible refine z_sfld ?_ | with_reducible refine z_flda ?_ | with_reducible refine z_make ?_ | with_reducible refine z_drop ?_ | with_reducible refine z_retn ?_ | with_reducible refine z_cont ?_
  | with_reducible refine z_tup ?_ | with_reducible refine z_lst ?_ | with_reducible refine z_slice ?_ | with_reducible refine z_nopart ?_ | with_reducible refine z_part ?_ | with_reducible refine z_intr ?_ | with_reducible refine z_m1 ?_ | with_reducible refine z_lc ?_ | with_reducible refine z_yes ?_ | with_reducible refine z_il ?_ | with_reducible refine z_it ?_ | with_reducible refine z_bm ?_ | with_reducible refine z_for ?_ | with_reducible refine z_gcons ?_ | with_reducible refine z_gnil ?_))
local macro_rules | `(tactic| walk_at "rd") => `(tactic| repeat (walk_at "rd1"))
local macro_rules | `(tactic| walk_at "no") => `(tactic| repeat (first | refine ifF (bSf (by decide +kernel)) ?_ | refine ifF (bSf num_ne) ?_ | (walk_at "rd1")))
local macro_rules | `(tactic| walk_at "ln") => `(tactic| (rintro vs H Q E h; repeat (first | (obtain ⟨e, _⟩ := h; subst e; rfl) | (obtain ⟨_, h⟩ := h))))
section
variable {P : Program} {w : World} {K : PySem.W.Frag} {mg : Str → Option Value} {base : Heap}
/-- a field of the new object stored -/
theorem z_fs {H : Hp} {x C dx : Addr} {fs : List (Str × V)} {f : Str} {y : V} {m : Nat} {R : Hp → Prop} (e : H x = some (.ins C dx fs)) (c : Cls K C) (n : NoAttr K C f) (hl : fs.length ≤ m) (hm : m ≤ 100)
    (h : ∀ H', Off x H H' → H' x = some (.ins C dx (putF f y fs)) → (putF f y fs).length ≤ m + 1 → R H') : FldW K f y (.ref x) H R :=
  z_fldw e c n (by omega) (h _ (Off.upd _ _ _) upd_same (put_len hl))
theorem Off.sub {x : Addr} {H H' : Hp} (o : Off x H H') : Same (cut x H) H' := Same.trans o (cut_same x H')
/-- new beside H0: the new object's parts -/
theorem Off.nw {x : Addr} {H0 H H' : Hp} (o : Off x H H') : Same (cut x (EH.nw H0 H)) (EH.nw H0 H') := fun b u e => by
  obtain ⟨n, e⟩ := cut_at e
  obtain ⟨e1, e2⟩ := nw_at e
  exact nw_of e1 (o.at n e2)
theorem cut_mono {x : Addr} {H H' : Hp} (s : Same H H') : Same (cut x H) (cut x H') := fun b u e => by
  obtain ⟨n, e⟩ := cut_at e
  exact cut_of (s b u e) n
theorem z_new {H : Hp} {p x : Addr} {o o' : HO} (hx : H x = some o) (hp : H p = none) : p ≠ x := fun e => by
  rw [e, hx] at hp
  cases hp

def spINumberTerm (K : PySem.W.Frag) : Sp := fun vs H Q _ => ∃ (H0 : Hp) (x dx : Addr) (n0 : Nat), vs = [.ref x, .int n0] ∧ Fr H0 H ∧ H0 x = none ∧ H x = some (.ins (He.ga K "NumberTerm") dx []) ∧ ∀ H', Off x H H' → RepT K (nw H0 H') (.num n0) (.ref x) → Q .non H'
theorem sc_NumberTerm_init : FnScope ["self", "number"] ["self", "number"] (defScope s_NumberTerm_init) := ⟨rfl, rfl, rfl, by decide +kernel, rfl, by decide +kernel, by decide +kernel⟩
theorem ok_NumberTerm (T : Tx K mg) : CalC P w K mg base CX0 2 "NumberTerm" (He.ga K "NumberTerm") ["self", "number"] (spINumberTerm K) := by
  obtain ⟨fd, F⟩ := T.f_NumberTerm_init
  refine cal_init F T.mk_NumberTerm T.g_NumberTerm sc_NumberTerm_init (fun _ _ _ _ _ _ us hl => match us, hl with | [_, _], _ => rfl) (by walk_at "ln") (fun cdv A outer s H vs Q E hr h => ?_)
  obtain ⟨fd0, F0, hb0⟩ := fn_Term_init (P := P) (w := w) (base := base) T
  obtain ⟨H0, x, dx, n0, rfl, f0, x0, hx, k⟩ := h
  refine ⟨_, (pss_cons (ps_expr (pe_cini (by rfl) T.g_Term T.x.ciT F0 T.x.kpT (hr.mono (by decide)) hb0 pass0 (pa_cons (pv 0) (pa_cons (pe_lst pa_nil) pa_nil))))
    (pss_one (ps_fld (pv 0) (pv 1) rfl))), ?_⟩
  walk_at "rd"
  refine z_lstr (by show 0 ≤ 100000; omega) fun p hp => ?_
  have np : p ≠ x := z_new hx hp (o' := .lst [])
  have s1 : Same (cut x H) (cut x (upd H p (.lst []))) := Off.same (Same.new hp)
  have RL : RepL K (cut x (upd H p (.lst []))) [] [] := rfl
  refine ⟨x, dx, p, "NumberTerm", [], [], rfl, by simp [tcls], by rw [upd_ne np.symm]; exact hx, SqL.of (cut_of upd_same np), dml_of RL, by show 0 ≤ 20; omega, fun H1 l' o1 hx1 nl hl0 hl => ?_⟩
  have O1 : Off x H H1 := Off.trans (Off.same (Same.new hp)) o1
  have L1 := init_len (l := l') (h := 1 + depthL ([])) (m := 1 + sizeL ([]))
  rw [show 1 + depthL ([]) = EH.T.depth (.num n0) by simp only [depthL, EH.T.depth] <;> omega, show 1 + sizeL ([]) = EH.T.size (.num n0) by simp only [sizeL, EH.T.size] <;> omega] at hx1 L1
  walk_at "rd"
  refine z_fs (m := 3) hx1 T.cls_NumberTerm T.no_NumberTerm_number L1 (by omega) fun H2 o2 hx2 L2 => ?_
  have O2 := O1.trans o2
  have hl := o2.at nl hl
  exact k H2 O2 ⟨_, ⟨x, dx, rfl, nw_of x0 hx2, by walk_at "lp", by walk_at "lp", by walk_at "lp", by walk_at "lp"⟩, by walk_at "lp"⟩
def spITruthTerm (K : PySem.W.Frag) : Sp := fun vs H Q _ => ∃ (H0 : Hp) (x dx : Addr) (n0 : Bool), vs = [.ref x, .bl n0] ∧ Fr H0 H ∧ H0 x = none ∧ H x = some (.ins (He.ga K "TruthTerm") dx []) ∧ ∀ H', Off x H H' → RepT K (nw H0 H') (.tru n0) (.ref x) → Q .non H'
theorem sc_TruthTerm_init : FnScope ["self", "is_yes"] ["self", "is_yes"] (defScope s_TruthTerm_init) := ⟨rfl, rfl, rfl, by decide +kernel, rfl, by decide +kernel, by decide +kernel⟩
theorem ok_TruthTerm (T : Tx K mg) : CalC P w K mg base CX0 2 "TruthTerm" (He.ga K "TruthTerm") ["self", "is_yes"] (spITruthTerm K) := by
  obtain ⟨fd, F⟩ := T.f_TruthTerm_init
  refine cal_init F T.mk_TruthTerm T.g_TruthTerm sc_TruthTerm_init (fun _ _ _ _ _ _ us hl => match us, hl with | [_, _], _ => rfl) (by walk_at "ln") (fun cdv A outer s H vs Q E hr h => ?_)
  obtain ⟨fd0, F0, hb0⟩ := fn_Term_init (P := P) (w := w) (base := base) T
  obtain ⟨H0, x, dx, n0, rfl, f0, x0, hx, k⟩ := h
  refine ⟨_, (pss_cons (ps_expr (pe_cini (by rfl) T.g_Term T.x.ciT F0 T.x.kpT (hr.mono (by decide)) hb0 pass0 (pa_cons (pv 0) (pa_cons (pe_lst pa_nil) pa_nil))))
    (pss_one (ps_fld (pv 0) (pv 1) rfl))), ?_⟩
  walk_at "rd"
  refine z_lstr (by show 0 ≤ 100000; omega) fun p hp => ?_
  have np : p ≠ x := z_new hx hp (o' := .lst [])
  have s1 : Same (cut x H) (cut x (upd H p (.lst []))) := Off.same (Same.new hp)
  have RL : RepL K (cut x (upd H p (.lst []))) [] [] := rfl
  refine ⟨x, dx, p, "TruthTerm", [], [], rfl, by simp [tcls], by rw [upd_ne np.symm]; exact hx, SqL.of (cut_of upd_same np), dml_of RL, by show 0 ≤ 20; omega, fun H1 l' o1 hx1 nl hl0 hl => ?_⟩
  have O1 : Off x H H1 := Off.trans (Off.same (Same.new hp)) o1
  have L1 := init_len (l := l') (h := 1 + depthL ([])) (m := 1 + sizeL ([]))
  rw [show 1 + depthL ([]) = EH.T.depth (.tru n0) by simp only [depthL, EH.T.depth] <;> omega, show 1 + sizeL ([]) = EH.T.size (.tru n0) by simp only [sizeL, EH.T.size] <;> omega] at hx1 L1
  walk_at "rd"
  refine z_fs (m := 3) hx1 T.cls_TruthTerm T.no_TruthTerm_is_yes L1 (by omega) fun H2 o2 hx2 L2 => ?_
  have O2 := O1.trans o2
  have hl := o2.at nl hl
  exact k H2 O2 ⟨_, ⟨x, dx, rfl, nw_of x0 hx2, by walk_at "lp", by walk_at "lp", by walk_at "lp", by walk_at "lp"⟩, by walk_at "lp"⟩
def spINameTerm (K : PySem.W.Frag) : Sp := fun vs H Q _ => ∃ (H0 : Hp) (x dx : Addr) (n0 : Str), vs = [.ref x, .str n0] ∧ Fr H0 H ∧ H0 x = none ∧ H x = some (.ins (He.ga K "NameTerm") dx []) ∧ ∀ H', Off x H H' → RepT K (nw H0 H') (.nam n0) (.ref x) → Q .non H'
theorem sc_NameTerm_init : FnScope ["self", "called"] ["self", "called"] (defScope s_NameTerm_init) := ⟨rfl, rfl, rfl, by decide +kernel, rfl, by decide +kernel, by decide +kernel⟩
theorem ok_NameTerm (T : Tx K mg) : CalC P w K mg base CX0 2 "NameTerm" (He.ga K "NameTerm") ["self", "called"] (spINameTerm K) := by
  obtain ⟨fd, F⟩ := T.f_NameTerm_init
  refine cal_init F T.mk_NameTerm T.g_NameTerm sc_NameTerm_init (fun _ _ _ _ _ _ us hl => match us, hl with | [_, _], _ => rfl) (by walk_at "ln") (fun cdv A outer s H vs Q E hr h => ?_)
  obtain ⟨fd0, F0, hb0⟩ := fn_Term_init (P := P) (w := w) (base := base) T
  obtain ⟨H0, x, dx, n0, rfl, f0, x0, hx, k⟩ := h
  refine ⟨_, (pss_cons (ps_expr (pe_cini (by rfl) T.g_Term T.x.ciT F0 T.x.kpT (hr.mono (by decide)) hb0 pass0 (pa_cons (pv 0) (pa_cons (pe_lst pa_nil) pa_nil))))
    (pss_one (ps_fld (pv 0) (pv 1) rfl))), ?_⟩
  walk_at "rd"
  refine z_lstr (by show 0 ≤ 100000; omega) fun p hp => ?_
  have np : p ≠ x := z_new hx hp (o' := .lst [])
  have s1 : Same (cut x H) (cut x (upd H p (.lst []))) := Off.same (Same.new hp)
  have RL : RepL K (cut x (upd H p (.lst []))) [] [] := rfl
  refine ⟨x, dx, p, "NameTerm", [], [], rfl, by simp [tcls], by rw [upd_ne np.symm]; exact hx, SqL.of (cut_of upd_same np), dml_of RL, by show 0 ≤ 20; omega, fun H1 l' o1 hx1 nl hl0 hl => ?_⟩
  have O1 : Off x H H1 := Off.trans (Off.same (Same.new hp)) o1
  have L1 := init_len (l := l') (h := 1 + depthL ([])) (m := 1 + sizeL ([]))
  rw [show 1 + depthL ([]) = EH.T.depth (.nam n0) by simp only [depthL, EH.T.depth] <;> omega, show 1 + sizeL ([]) = EH.T.size (.nam n0) by simp only [sizeL, EH.T.size] <;> omega] at hx1 L1
  walk_at "rd"
  refine z_fs (m := 3) hx1 T.cls_NameTerm T.no_NameTerm_called L1 (by omega) fun H2 o2 hx2 L2 => ?_
  have O2 := O1.trans o2
  have hl := o2.at nl hl
  exact k H2 O2 ⟨_, ⟨x, dx, rfl, nw_of x0 hx2, by walk_at "lp", by walk_at "lp", by walk_at "lp", by walk_at "lp"⟩, by walk_at "lp"⟩
def spISelfTerm (K : PySem.W.Frag) : Sp := fun vs H Q _ => ∃ (H0 : Hp) (x dx : Addr) , vs = [.ref x] ∧ Fr H0 H ∧ H0 x = none ∧ H x = some (.ins (He.ga K "SelfTerm") dx []) ∧ ∀ H', Off x H H' → RepT K (nw H0 H') .slf (.ref x) → Q .non H'
theorem sc_SelfTerm_init : FnScope ["self"] ["self"] (defScope s_SelfTerm_init) := ⟨rfl, rfl, rfl, by decide +kernel, rfl, by decide +kernel, by decide +kernel⟩
theorem ok_SelfTerm (T : Tx K mg) : CalC P w K mg base CX0 2 "SelfTerm" (He.ga K "SelfTerm") ["self"] (spISelfTerm K) := by
  obtain ⟨fd, F⟩ := T.f_SelfTerm_init
  refine cal_init F T.mk_SelfTerm T.g_SelfTerm sc_SelfTerm_init (fun _ _ _ _ _ _ us hl => match us, hl with | [_], _ => rfl) (by walk_at "ln") (fun cdv A outer s H vs Q E hr h => ?_)
  obtain ⟨fd0, F0, hb0⟩ := fn_Term_init (P := P) (w := w) (base := base) T
  obtain ⟨H0, x, dx, rfl, f0, x0, hx, k⟩ := h
  refine ⟨_, (pss_one (ps_expr (pe_cini (by rfl) T.g_Term T.x.ciT F0 T.x.kpT (hr.mono (by decide)) hb0 pass0 (pa_cons (pv 0) (pa_cons (pe_lst pa_nil) pa_nil))))), ?_⟩
  walk_at "rd"
  refine z_lstr (by show 0 ≤ 100000; omega) fun p hp => ?_
  have np : p ≠ x := z_new hx hp (o' := .lst [])
  have s1 : Same (cut x H) (cut x (upd H p (.lst []))) := Off.same (Same.new hp)
  have RL : RepL K (cut x (upd H p (.lst []))) [] [] := rfl
  refine ⟨x, dx, p, "SelfTerm", [], [], rfl, by simp [tcls], by rw [upd_ne np.symm]; exact hx, SqL.of (cut_of upd_same np), dml_of RL, by show 0 ≤ 20; omega, fun H1 l' o1 hx1 nl hl0 hl => ?_⟩
  have O1 : Off x H H1 := Off.trans (Off.same (Same.new hp)) o1
  have L1 := init_len (l := l') (h := 1 + depthL ([])) (m := 1 + sizeL ([]))
  rw [show 1 + depthL ([]) = EH.T.depth .slf by simp only [depthL, EH.T.depth] <;> omega, show 1 + sizeL ([]) = EH.T.size .slf by simp only [sizeL, EH.T.size] <;> omega] at hx1 L1
  exact k H1 O1 ⟨_, ⟨x, dx, rfl, nw_of x0 hx1, by walk_at "lp", by walk_at "lp", by walk_at "lp", by walk_at "lp"⟩⟩
def spINewTerm (K : PySem.W.Frag) : Sp := fun vs H Q _ => ∃ (H0 : Hp) (x dx : Addr) (n0 : Str) (g1 : Addr) (ts1 : List T) (us1 : List V), vs = [.ref x, .str n0, .ref g1] ∧ Fr H0 H ∧ H0 x = none ∧ H x = some (.ins (He.ga K "NewTerm") dx []) ∧ SqL K (cut x H) g1 us1 ∧ RepL K (cut x (nw H0 H)) ts1 us1 ∧ ts1.length ≤ 8 ∧ ∀ H', Off x H H' → RepT K (nw H0 H') (.new n0 ts1) (.ref x) → Q .non H'
theorem sc_NewTerm_init : FnScope ["self", "called", "given"] ["self", "called", "given"] (defScope s_NewTerm_init) := ⟨rfl, rfl, rfl, by decide +kernel, rfl, by decide +kernel, by decide +kernel⟩
theorem ok_NewTerm (T : Tx K mg) : CalC P w K mg base CX0 2 "NewTerm" (He.ga K "NewTerm") ["self", "called", "given"] (spINewTerm K) := by
  obtain ⟨fd, F⟩ := T.f_NewTerm_init
  refine cal_init F T.mk_NewTerm T.g_NewTerm sc_NewTerm_init (fun _ _ _ _ _ _ us hl => match us, hl with | [_, _, _], _ => rfl) (by walk_at "ln") (fun cdv A outer s H vs Q E hr h => ?_)
  obtain ⟨fd0, F0, hb0⟩ := fn_Term_init (P := P) (w := w) (base := base) T
  obtain ⟨H0, x, dx, n0, g1, ts1, us1, rfl, f0, x0, hx, q1, r1, l1, k⟩ := h
  refine ⟨_, (pss_cons (ps_expr (pe_cini (by rfl) T.g_Term T.x.ciT F0 T.x.kpT (hr.mono (by decide)) hb0 pass0 (pa_cons (pv 0) (pa_cons (pv 2) pa_nil))))
    (pss_one (ps_fld (pv 0) (pv 1) rfl))), ?_⟩
  walk_at "rd"
  refine ⟨x, dx, g1, "NewTerm", ts1, us1, rfl, by simp [tcls], hx, q1, dml_of (repL_mono (cut_mono nw_sub) _ _ r1), by omega, fun H1 l' o1 hx1 nl hl0 hl => ?_⟩
  have O1 : Off x H H1 := o1
  have L1 := init_len (l := l') (h := 1 + depthL (ts1)) (m := 1 + sizeL (ts1))
  rw [show 1 + depthL (ts1) = EH.T.depth (.new n0 ts1) by simp only [depthL, EH.T.depth] <;> omega, show 1 + sizeL (ts1) = EH.T.size (.new n0 ts1) by simp only [sizeL, EH.T.size] <;> omega] at hx1 L1
  walk_at "rd"
  refine z_fs (m := 3) hx1 T.cls_NewTerm T.no_NewTerm_called L1 (by omega) fun H2 o2 hx2 L2 => ?_
  have O2 := O1.trans o2
  have hl := o2.at nl hl
  exact k H2 O2 ⟨_, l', us1, ⟨x, dx, rfl, nw_of x0 hx2, by walk_at "lp", by walk_at "lp", by walk_at "lp", by walk_at "lp"⟩, by walk_at "lp", by walk_at "lp", nw_of (f0 _ hl0) hl, repL_mono O2.nw _ _ r1⟩
def spIElderTerm (K : PySem.W.Frag) : Sp := fun vs H Q _ => ∃ (H0 : Hp) (x dx : Addr) (n0 : Str) (g1 : Addr) (ts1 : List T) (us1 : List V), vs = [.ref x, .str n0, .ref g1] ∧ Fr H0 H ∧ H0 x = none ∧ H x = some (.ins (He.ga K "ElderTerm") dx []) ∧ SqL K (cut x H) g1 us1 ∧ RepL K (cut x (nw H0 H)) ts1 us1 ∧ ts1.length ≤ 8 ∧ ∀ H', Off x H H' → RepT K (nw H0 H') (.eld n0 ts1) (.ref x) → Q .non H'
theorem sc_ElderTerm_init : FnScope ["self", "called", "given"] ["self", "called", "given"] (defScope s_ElderTerm_init) := ⟨rfl, rfl, rfl, by decide +kernel, rfl, by decide +kernel, by decide +kernel⟩
theorem ok_ElderTerm (T : Tx K mg) : CalC P w K mg base CX0 2 "ElderTerm" (He.ga K "ElderTerm") ["self", "called", "given"] (spIElderTerm K) := by
  obtain ⟨fd, F⟩ := T.f_ElderTerm_init
  refine cal_init F T.mk_ElderTerm T.g_ElderTerm sc_ElderTerm_init (fun _ _ _ _ _ _ us hl => match us, hl with | [_, _, _], _ => rfl) (by walk_at "ln") (fun cdv A outer s H vs Q E hr h => ?_)
  obtain ⟨fd0, F0, hb0⟩ := fn_Term_init (P := P) (w := w) (base := base) T
  obtain ⟨H0, x, dx, n0, g1, ts1, us1, rfl, f0, x0, hx, q1, r1, l1, k⟩ := h
  refine ⟨_, (pss_cons (ps_expr (pe_cini (by rfl) T.g_Term T.x.ciT F0 T.x.kpT (hr.mono (by decide)) hb0 pass0 (pa_cons (pv 0) (pa_cons (pv 2) pa_nil))))
    (pss_one (ps_fld (pv 0) (pv 1) rfl))), ?_⟩
  walk_at "rd"
  refine ⟨x, dx, g1, "ElderTerm", ts1, us1, rfl, by simp [tcls], hx, q1, dml_of (repL_mono (cut_mono nw_sub) _ _ r1), by omega, fun H1 l' o1 hx1 nl hl0 hl => ?_⟩
  have O1 : Off x H H1 := o1
  have L1 := init_len (l := l') (h := 1 + depthL (ts1)) (m := 1 + sizeL (ts1))
  rw [show 1 + depthL (ts1) = EH.T.depth (.eld n0 ts1) by simp only [depthL, EH.T.depth] <;> omega, show 1 + sizeL (ts1) = EH.T.size (.eld n0 ts1) by simp only [sizeL, EH.T.size] <;> omega] at hx1 L1
  walk_at "rd"
  refine z_fs (m := 3) hx1 T.cls_ElderTerm T.no_ElderTerm_called L1 (by omega) fun H2 o2 hx2 L2 => ?_
  have O2 := O1.trans o2
  have hl := o2.at nl hl
  exact k H2 O2 ⟨_, l', us1, ⟨x, dx, rfl, nw_of x0 hx2, by walk_at "lp", by walk_at "lp", by walk_at "lp", by walk_at "lp"⟩, by walk_at "lp", by walk_at "lp", nw_of (f0 _ hl0) hl, repL_mono O2.nw _ _ r1⟩
def spIFieldTerm (K : PySem.W.Frag) : Sp := fun vs H Q _ => ∃ (H0 : Hp) (x dx : Addr) (t0 : T) (v0 : V) (n1 : Str), vs = [.ref x, v0, .str n1] ∧ Fr H0 H ∧ H0 x = none ∧ H x = some (.ins (He.ga K "FieldTerm") dx []) ∧ RepT K (cut x (nw H0 H)) t0 v0 ∧ ∀ H', Off x H H' → RepT K (nw H0 H') (.fld t0 n1) (.ref x) → Q .non H'
theorem sc_FieldTerm_init : FnScope ["self", "thing", "called"] ["self", "thing", "called"] (defScope s_FieldTerm_init) := ⟨rfl, rfl, rfl, by decide +kernel, rfl, by decide +kernel, by decide +kernel⟩
theorem ok_FieldTerm (T : Tx K mg) : CalC P w K mg base CX0 2 "FieldTerm" (He.ga K "FieldTerm") ["self", "thing", "called"] (spIFieldTerm K) := by
  obtain ⟨fd, F⟩ := T.f_FieldTerm_init
  refine cal_init F T.mk_FieldTerm T.g_FieldTerm sc_FieldTerm_init (fun _ _ _ _ _ _ us hl => match us, hl with | [_, _, _], _ => rfl) (by walk_at "ln") (fun cdv A outer s H vs Q E hr h => ?_)
  obtain ⟨fd0, F0, hb0⟩ := fn_Term_init (P := P) (w := w) (base := base) T
  obtain ⟨H0, x, dx, t0, v0, n1, rfl, f0, x0, hx, r0, k⟩ := h
  refine ⟨_, (pss_cons (ps_expr (pe_cini (by rfl) T.g_Term T.x.ciT F0 T.x.kpT (hr.mono (by decide)) hb0 pass0 (pa_cons (pv 0) (pa_cons (pe_lst (pa_cons (pv 1) pa_nil)) pa_nil))))
    (pss_cons (ps_fld (pv 0) (pv 1) rfl)
    (pss_one (ps_fld (pv 0) (pv 2) rfl)))), ?_⟩
  walk_at "rd"
  refine z_lstr (by show 1 ≤ 100000; omega) fun p hp => ?_
  have np : p ≠ x := z_new hx hp (o' := .lst [])
  have s1 : Same (cut x H) (cut x (upd H p (.lst [v0]))) := Off.same (Same.new hp)
  have RL : RepL K (cut x (upd H p (.lst [v0]))) [t0] [v0] := ⟨v0, _, rfl, rep_mono ((cut_mono nw_sub).trans s1) _ _ r0, rfl⟩
  refine ⟨x, dx, p, "FieldTerm", [t0], [v0], rfl, by simp [tcls], by rw [upd_ne np.symm]; exact hx, SqL.of (cut_of upd_same np), dml_of RL, by show 1 ≤ 20; omega, fun H1 l' o1 hx1 nl hl0 hl => ?_⟩
  have O1 : Off x H H1 := Off.trans (Off.same (Same.new hp)) o1
  have L1 := init_len (l := l') (h := 1 + depthL ([t0])) (m := 1 + sizeL ([t0]))
  rw [show 1 + depthL ([t0]) = EH.T.depth (.fld t0 n1) by simp only [depthL, EH.T.depth] <;> omega, show 1 + sizeL ([t0]) = EH.T.size (.fld t0 n1) by simp only [sizeL, EH.T.size] <;> omega] at hx1 L1
  walk_at "rd"
  refine z_fs (m := 3) hx1 T.cls_FieldTerm T.no_FieldTerm_thing L1 (by omega) fun H2 o2 hx2 L2 => ?_
  have O2 := O1.trans o2
  have hl := o2.at nl hl
  walk_at "rd"
  refine z_fs (m := 4) hx2 T.cls_FieldTerm T.no_FieldTerm_called L2 (by omega) fun H3 o3 hx3 L3 => ?_
  have O3 := O2.trans o3
  have hl := o3.at nl hl
  exact k H3 O3 ⟨_, v0, ⟨x, dx, rfl, nw_of x0 hx3, by walk_at "lp", by walk_at "lp", by walk_at "lp", by walk_at "lp"⟩, by walk_at "lp", rep_mono O3.nw _ _ r0, by walk_at "lp"⟩
def spICallTerm (K : PySem.W.Frag) : Sp := fun vs H Q _ => ∃ (H0 : Hp) (x dx : Addr) (t0 : T) (v0 : V) (n1 : Str) (g2 : Addr) (ts2 : List T) (us2 : List V), vs = [.ref x, v0, .str n1, .ref g2] ∧ Fr H0 H ∧ H0 x = none ∧ H x = some (.ins (He.ga K "CallTerm") dx []) ∧ RepT K (cut x (nw H0 H)) t0 v0 ∧ SqL K (cut x H) g2 us2 ∧ RepL K (cut x (nw H0 H)) ts2 us2 ∧ ts2.length ≤ 8 ∧ ∀ H', Off x H H' → RepT K (nw H0 H') (.cal t0 n1 ts2) (.ref x) → Q .non H'
theorem sc_CallTerm_init : FnScope ["self", "thing", "called", "given"] ["self", "thing", "called", "given"] (defScope s_CallTerm_init) := ⟨rfl, rfl, rfl, by decide +kernel, rfl, by decide +kernel, by decide +kernel⟩
theorem ok_CallTerm (T : Tx K mg) : CalC P w K mg base CX0 2 "CallTerm" (He.ga K "CallTerm") ["self", "thing", "called", "given"] (spICallTerm K) := by
  obtain ⟨fd, F⟩ := T.f_CallTerm_init
  refine cal_init F T.mk_CallTerm T.g_CallTerm sc_CallTerm_init (fun _ _ _ _ _ _ us hl => match us, hl with | [_, _, _, _], _ => rfl) (by walk_at "ln") (fun cdv A outer s H vs Q E hr h => ?_)
  obtain ⟨fd0, F0, hb0⟩ := fn_Term_init (P := P) (w := w) (base := base) T
  obtain ⟨H0, x, dx, t0, v0, n1, g2, ts2, us2, rfl, f0, x0, hx, r0, q2, r2, l2, k⟩ := h
  refine ⟨_, (pss_cons (ps_expr (pe_cini (by rfl) T.g_Term T.x.ciT F0 T.x.kpT (hr.mono (by decide)) hb0 pass0 (pa_cons (pv 0) (pa_cons (pe_op op_cat (pe_lst (pa_cons (pv 1) pa_nil)) (pe_callTy call_list_of (by rfl) T.b_list (by decide +kernel) (pa_cons (pv 3) pa_nil))) pa_nil))))
    (pss_cons (ps_fld (pv 0) (pv 1) rfl)
    (pss_cons (ps_fld (pv 0) (pv 2) rfl)
    (pss_one (ps_fld (pv 0) (pe_callTy call_list_of (by rfl) T.b_list (by decide +kernel) (pa_cons (pv 3) pa_nil)) rfl))))), ?_⟩
  walk_at "rd"
  refine z_lstr (by show 1 ≤ 100000; omega) fun p hp => ?_
  have np : p ≠ x := z_new hx hp (o' := .lst [])
  walk_at "rd"
  have s1 : Same H (upd H p (.lst [v0])) := Same.new hp
  refine ⟨g2, us2, rfl, .inl (Same.seq ((cut_same x H).trans s1) q2), fun p1 hp1 => ?_⟩
  have s2 : Same (upd H p (.lst [v0])) (upd (upd H p (.lst [v0])) p1 (.lst us2)) := Same.new hp1
  have hul : us2.length ≤ 8 := by rw [repL_len r2]; exact l2
  refine ⟨p, p1, [v0], us2, rfl, rfl, by rw [upd_ne (ne_of_none upd_same hp1)]; exact upd_same, upd_same, len_sz (by simp; omega), fun p2 hp2 => ?_⟩
  have s3 := (s1.trans s2).trans (Same.new hp2 (o := .lst ([v0] ++ us2)))
  have np2 : p2 ≠ x := z_new (s2 _ _ (s1 _ _ hx)) hp2 (o' := .lst [])
  generalize hH0 : upd (upd (upd H p (.lst [v0])) p1 (.lst us2)) p2 (.lst ([v0] ++ us2)) = H0 at s3
  have hp0 : H0 p2 = some (.lst ([v0] ++ us2)) := by rw [← hH0]; exact upd_same
  have sx : Same (cut x H) (cut x H0) := Off.same s3
  have RL : RepL K (cut x H0) (t0 :: ts2) ([v0] ++ us2) := ⟨v0, us2, rfl, rep_mono ((cut_mono nw_sub).trans sx) _ _ r0, repL_mono ((cut_mono nw_sub).trans sx) _ _ r2⟩
  walk_at "rd"
  refine ⟨x, dx, p2, "CallTerm", t0 :: ts2, [v0] ++ us2, rfl, by simp [tcls], s3 _ _ hx, SqL.of (cut_of hp0 np2), dml_of RL, by simp; omega, fun H1 l' o1 hx1 nl hl0 hl => ?_⟩
  have O1 : Off x H H1 := Off.trans (Off.same s3) o1
  have L1 := init_len (l := l') (h := 1 + depthL (t0 :: ts2)) (m := 1 + sizeL (t0 :: ts2))
  rw [show 1 + depthL (t0 :: ts2) = EH.T.depth (.cal t0 n1 ts2) by simp only [depthL, EH.T.depth] <;> omega, show 1 + sizeL (t0 :: ts2) = EH.T.size (.cal t0 n1 ts2) by simp only [sizeL, EH.T.size] <;> omega] at hx1 L1
  walk_at "rd"
  refine z_fs (m := 3) hx1 T.cls_CallTerm T.no_CallTerm_thing L1 (by omega) fun H2 o2 hx2 L2 => ?_
  have O2 := O1.trans o2
  have hl := o2.at nl hl
  walk_at "rd"
  refine z_fs (m := 4) hx2 T.cls_CallTerm T.no_CallTerm_called L2 (by omega) fun H3 o3 hx3 L3 => ?_
  have O3 := O2.trans o3
  have hl := o3.at nl hl
  walk_at "rd"
  refine ⟨g2, us2, rfl, .inl (Same.seq O3.sub q2), fun pg hpg => ?_⟩
  have ng : pg ≠ x := z_new hx3 hpg (o' := .lst [])
  walk_at "rd"
  have O3g := O3.trans (Off.same (Same.new hpg (o := .lst us2)))
  refine z_fs (m := 5) (by rw [upd_ne ng.symm]; exact hx3) T.cls_CallTerm T.no_CallTerm_given L3 (by omega) fun H4 o4 hx4 L4 => ?_
  have O4 := O3g.trans o4
  have hgl := o4.at ng (upd_same)
  exact k H4 O4 ⟨_, v0, pg, us2, ⟨x, dx, rfl, nw_of x0 hx4, by walk_at "lp", by walk_at "lp", by walk_at "lp", by walk_at "lp"⟩, by walk_at "lp", rep_mono O4.nw _ _ r0, by walk_at "lp", by walk_at "lp", nw_of (f0 _ ((O3.fr hx3) _ hpg)) hgl, repL_mono O4.nw _ _ r2⟩
def spINotTerm (K : PySem.W.Frag) : Sp := fun vs H Q _ => ∃ (H0 : Hp) (x dx : Addr) (t0 : T) (v0 : V), vs = [.ref x, v0] ∧ Fr H0 H ∧ H0 x = none ∧ H x = some (.ins (He.ga K "NotTerm") dx []) ∧ RepT K (cut x (nw H0 H)) t0 v0 ∧ ∀ H', Off x H H' → RepT K (nw H0 H') (.nt t0) (.ref x) → Q .non H'
theorem sc_NotTerm_init : FnScope ["self", "one"] ["self", "one"] (defScope s_NotTerm_init) := ⟨rfl, rfl, rfl, by decide +kernel, rfl, by decide +kernel, by decide +kernel⟩
theorem ok_NotTerm (T : Tx K mg) : CalC P w K mg base CX0 2 "NotTerm" (He.ga K "NotTerm") ["self", "one"] (spINotTerm K) := by
  obtain ⟨fd, F⟩ := T.f_NotTerm_init
  refine cal_init F T.mk_NotTerm T.g_NotTerm sc_NotTerm_init (fun _ _ _ _ _ _ us hl => match us, hl with | [_, _], _ => rfl) (by walk_at "ln") (fun cdv A outer s H vs Q E hr h => ?_)
  obtain ⟨fd0, F0, hb0⟩ := fn_Term_init (P := P) (w := w) (base := base) T
  obtain ⟨H0, x, dx, t0, v0, rfl, f0, x0, hx, r0, k⟩ := h
  refine ⟨_, (pss_cons (ps_expr (pe_cini (by rfl) T.g_Term T.x.ciT F0 T.x.kpT (hr.mono (by decide)) hb0 pass0 (pa_cons (pv 0) (pa_cons (pe_lst (pa_cons (pv 1) pa_nil)) pa_nil))))
    (pss_one (ps_fld (pv 0) (pv 1) rfl))), ?_⟩
  walk_at "rd"
  refine z_lstr (by show 1 ≤ 100000; omega) fun p hp => ?_
  have np : p ≠ x := z_new hx hp (o' := .lst [])
  have s1 : Same (cut x H) (cut x (upd H p (.lst [v0]))) := Off.same (Same.new hp)
  have RL : RepL K (cut x (upd H p (.lst [v0]))) [t0] [v0] := ⟨v0, _, rfl, rep_mono ((cut_mono nw_sub).trans s1) _ _ r0, rfl⟩
  refine ⟨x, dx, p, "NotTerm", [t0], [v0], rfl, by simp [tcls], by rw [upd_ne np.symm]; exact hx, SqL.of (cut_of upd_same np), dml_of RL, by show 1 ≤ 20; omega, fun H1 l' o1 hx1 nl hl0 hl => ?_⟩
  have O1 : Off x H H1 := Off.trans (Off.same (Same.new hp)) o1
  have L1 := init_len (l := l') (h := 1 + depthL ([t0])) (m := 1 + sizeL ([t0]))
  rw [show 1 + depthL ([t0]) = EH.T.depth (.nt t0) by simp only [depthL, EH.T.depth] <;> omega, show 1 + sizeL ([t0]) = EH.T.size (.nt t0) by simp only [sizeL, EH.T.size] <;> omega] at hx1 L1
  walk_at "rd"
  refine z_fs (m := 3) hx1 T.cls_NotTerm T.no_NotTerm_one L1 (by omega) fun H2 o2 hx2 L2 => ?_
  have O2 := O1.trans o2
  have hl := o2.at nl hl
  exact k H2 O2 ⟨_, v0, ⟨x, dx, rfl, nw_of x0 hx2, by walk_at "lp", by walk_at "lp", by walk_at "lp", by walk_at "lp"⟩, by walk_at "lp", rep_mono O2.nw _ _ r0⟩
def spITwoTerm (K : PySem.W.Frag) : Sp := fun vs H Q _ => ∃ (H0 : Hp) (x dx : Addr) (n0 : Str) (t1 : T) (v1 : V) (t2 : T) (v2 : V), vs = [.ref x, .str n0, v1, v2] ∧ Fr H0 H ∧ H0 x = none ∧ H x = some (.ins (He.ga K "TwoTerm") dx []) ∧ RepT K (cut x (nw H0 H)) t1 v1 ∧ RepT K (cut x (nw H0 H)) t2 v2 ∧ ∀ H', Off x H H' → RepT K (nw H0 H') (.two n0 t1 t2) (.ref x) → Q .non H'
theorem sc_TwoTerm_init : FnScope ["self", "sign", "one", "other"] ["self", "sign", "one", "other"] (defScope s_TwoTerm_init) := ⟨rfl, rfl, rfl, by decide +kernel, rfl, by decide +kernel, by decide +kernel⟩
theorem ok_TwoTerm (T : Tx K mg) : CalC P w K mg base CX0 2 "TwoTerm" (He.ga K "TwoTerm") ["self", "sign", "one", "other"] (spITwoTerm K) := by
  obtain ⟨fd, F⟩ := T.f_TwoTerm_init
  refine cal_init F T.mk_TwoTerm T.g_TwoTerm sc_TwoTerm_init (fun _ _ _ _ _ _ us hl => match us, hl with | [_, _, _, _], _ => rfl) (by walk_at "ln") (fun cdv A outer s H vs Q E hr h => ?_)
  obtain ⟨fd0, F0, hb0⟩ := fn_Term_init (P := P) (w := w) (base := base) T
  obtain ⟨H0, x, dx, n0, t1, v1, t2, v2, rfl, f0, x0, hx, r1, r2, k⟩ := h
  refine ⟨_, (pss_cons (ps_expr (pe_cini (by rfl) T.g_Term T.x.ciT F0 T.x.kpT (hr.mono (by decide)) hb0 pass0 (pa_cons (pv 0) (pa_cons (pe_lst (pa_cons (pv 2) (pa_cons (pv 3) pa_nil))) pa_nil))))
    (pss_cons (ps_fld (pv 0) (pv 1) rfl)
    (pss_cons (ps_fld (pv 0) (pv 2) rfl)
    (pss_one (ps_fld (pv 0) (pv 3) rfl))))), ?_⟩
  walk_at "rd"
  refine z_lstr (by show 2 ≤ 100000; omega) fun p hp => ?_
  have np : p ≠ x := z_new hx hp (o' := .lst [])
  have s1 : Same (cut x H) (cut x (upd H p (.lst [v1, v2]))) := Off.same (Same.new hp)
  have RL : RepL K (cut x (upd H p (.lst [v1, v2]))) [t1, t2] [v1, v2] := ⟨v1, _, rfl, rep_mono ((cut_mono nw_sub).trans s1) _ _ r1, ⟨v2, _, rfl, rep_mono ((cut_mono nw_sub).trans s1) _ _ r2, rfl⟩⟩
  refine ⟨x, dx, p, "TwoTerm", [t1, t2], [v1, v2], rfl, by simp [tcls], by rw [upd_ne np.symm]; exact hx, SqL.of (cut_of upd_same np), dml_of RL, by show 2 ≤ 20; omega, fun H1 l' o1 hx1 nl hl0 hl => ?_⟩
  have O1 : Off x H H1 := Off.trans (Off.same (Same.new hp)) o1
  have L1 := init_len (l := l') (h := 1 + depthL ([t1, t2])) (m := 1 + sizeL ([t1, t2]))
  rw [show 1 + depthL ([t1, t2]) = EH.T.depth (.two n0 t1 t2) by simp only [depthL, EH.T.depth] <;> omega, show 1 + sizeL ([t1, t2]) = EH.T.size (.two n0 t1 t2) by simp only [sizeL, EH.T.size] <;> omega] at hx1 L1
  walk_at "rd"
  refine z_fs (m := 3) hx1 T.cls_TwoTerm T.no_TwoTerm_sign L1 (by omega) fun H2 o2 hx2 L2 => ?_
  have O2 := O1.trans o2
  have hl := o2.at nl hl
  walk_at "rd"
  refine z_fs (m := 4) hx2 T.cls_TwoTerm T.no_TwoTerm_one L2 (by omega) fun H3 o3 hx3 L3 => ?_
  have O3 := O2.trans o3
  have hl := o3.at nl hl
  walk_at "rd"
  refine z_fs (m := 5) hx3 T.cls_TwoTerm T.no_TwoTerm_other L3 (by omega) fun H4 o4 hx4 L4 => ?_
  have O4 := O3.trans o4
  have hl := o4.at nl hl
  exact k H4 O4 ⟨_, v1, v2, ⟨x, dx, rfl, nw_of x0 hx4, by walk_at "lp", by walk_at "lp", by walk_at "lp", by walk_at "lp"⟩, by walk_at "lp", by walk_at "lp", rep_mono O4.nw _ _ r1, by walk_at "lp", rep_mono O4.nw _ _ r2⟩
def spIIfTerm (K : PySem.W.Frag) : Sp := fun vs H Q _ => ∃ (H0 : Hp) (x dx : Addr) (t0 : T) (v0 : V) (t1 : T) (v1 : V) (t2 : T) (v2 : V), vs = [.ref x, v0, v1, v2] ∧ Fr H0 H ∧ H0 x = none ∧ H x = some (.ins (He.ga K "IfTerm") dx []) ∧ RepT K (cut x (nw H0 H)) t0 v0 ∧ RepT K (cut x (nw H0 H)) t1 v1 ∧ RepT K (cut x (nw H0 H)) t2 v2 ∧ ∀ H', Off x H H' → RepT K (nw H0 H') (.ite t0 t1 t2) (.ref x) → Q .non H'
theorem sc_IfTerm_init : FnScope ["self", "one", "other", "third"] ["self", "one", "other", "third"] (defScope s_IfTerm_init) := ⟨rfl, rfl, rfl, by decide +kernel, rfl, by decide +kernel, by decide +kernel⟩
theorem ok_IfTerm (T : Tx K mg) : CalC P w K mg base CX0 2 "IfTerm" (He.ga K "IfTerm") ["self", "one", "other", "third"] (spIIfTerm K) := by
  obtain ⟨fd, F⟩ := T.f_IfTerm_init
  refine cal_init F T.mk_IfTerm T.g_IfTerm sc_IfTerm_init (fun _ _ _ _ _ _ us hl => match us, hl with | [_, _, _, _], _ => rfl) (by walk_at "ln") (fun cdv A outer s H vs Q E hr h => ?_)
  obtain ⟨fd0, F0, hb0⟩ := fn_Term_init (P := P) (w := w) (base := base) T
  obtain ⟨H0, x, dx, t0, v0, t1, v1, t2, v2, rfl, f0, x0, hx, r0, r1, r2, k⟩ := h
  refine ⟨_, (pss_cons (ps_expr (pe_cini (by rfl) T.g_Term T.x.ciT F0 T.x.kpT (hr.mono (by decide)) hb0 pass0 (pa_cons (pv 0) (pa_cons (pe_lst (pa_cons (pv 1) (pa_cons (pv 2) (pa_cons (pv 3) pa_nil)))) pa_nil))))
    (pss_cons (ps_fld (pv 0) (pv 1) rfl)
    (pss_cons (ps_fld (pv 0) (pv 2) rfl)
    (pss_one (ps_fld (pv 0) (pv 3) rfl))))), ?_⟩
  walk_at "rd"
  refine z_lstr (by show 3 ≤ 100000; omega) fun p hp => ?_
  have np : p ≠ x := z_new hx hp (o' := .lst [])
  have s1 : Same (cut x H) (cut x (upd H p (.lst [v0, v1, v2]))) := Off.same (Same.new hp)
  have RL : RepL K (cut x (upd H p (.lst [v0, v1, v2]))) [t0, t1, t2] [v0, v1, v2] := ⟨v0, _, rfl, rep_mono ((cut_mono nw_sub).trans s1) _ _ r0, ⟨v1, _, rfl, rep_mono ((cut_mono nw_sub).trans s1) _ _ r1, ⟨v2, _, rfl, rep_mono ((cut_mono nw_sub).trans s1) _ _ r2, rfl⟩⟩⟩
  refine ⟨x, dx, p, "IfTerm", [t0, t1, t2], [v0, v1, v2], rfl, by simp [tcls], by rw [upd_ne np.symm]; exact hx, SqL.of (cut_of upd_same np), dml_of RL, by show 3 ≤ 20; omega, fun H1 l' o1 hx1 nl hl0 hl => ?_⟩
  have O1 : Off x H H1 := Off.trans (Off.same (Same.new hp)) o1
  have L1 := init_len (l := l') (h := 1 + depthL ([t0, t1, t2])) (m := 1 + sizeL ([t0, t1, t2]))
  rw [show 1 + depthL ([t0, t1, t2]) = EH.T.depth (.ite t0 t1 t2) by simp only [depthL, EH.T.depth] <;> omega, show 1 + sizeL ([t0, t1, t2]) = EH.T.size (.ite t0 t1 t2) by simp only [sizeL, EH.T.size] <;> omega] at hx1 L1
  walk_at "rd"
  refine z_fs (m := 3) hx1 T.cls_IfTerm T.no_IfTerm_one L1 (by omega) fun H2 o2 hx2 L2 => ?_
  have O2 := O1.trans o2
  have hl := o2.at nl hl
  walk_at "rd"
  refine z_fs (m := 4) hx2 T.cls_IfTerm T.no_IfTerm_other L2 (by omega) fun H3 o3 hx3 L3 => ?_
  have O3 := O2.trans o3
  have hl := o3.at nl hl
  walk_at "rd"
  refine z_fs (m := 5) hx3 T.cls_IfTerm T.no_IfTerm_third L3 (by omega) fun H4 o4 hx4 L4 => ?_
  have O4 := O3.trans o4
  have hl := o4.at nl hl
  exact k H4 O4 ⟨_, v0, v1, v2, ⟨x, dx, rfl, nw_of x0 hx4, by walk_at "lp", by walk_at "lp", by walk_at "lp", by walk_at "lp"⟩, by walk_at "lp", rep_mono O4.nw _ _ r0, by walk_at "lp", rep_mono O4.nw _ _ r1, by walk_at "lp", rep_mono O4.nw _ _ r2⟩
def spILetTerm (K : PySem.W.Frag) : Sp := fun vs H Q _ => ∃ (H0 : Hp) (x dx : Addr) (n0 : Str) (t1 : T) (v1 : V) (t2 : T) (v2 : V), vs = [.ref x, .str n0, v1, v2] ∧ Fr H0 H ∧ H0 x = none ∧ H x = some (.ins (He.ga K "LetTerm") dx []) ∧ RepT K (cut x (nw H0 H)) t1 v1 ∧ RepT K (cut x (nw H0 H)) t2 v2 ∧ ∀ H', Off x H H' → RepT K (nw H0 H') (.lt n0 t1 t2) (.ref x) → Q .non H'
theorem sc_LetTerm_init : FnScope ["self", "called", "one", "other"] ["self", "called", "one", "other"] (defScope s_LetTerm_init) := ⟨rfl, rfl, rfl, by decide +kernel, rfl, by decide +kernel, by decide +kernel⟩
theorem ok_LetTerm (T : Tx K mg) : CalC P w K mg base CX0 2 "LetTerm" (He.ga K "LetTerm") ["self", "called", "one", "other"] (spILetTerm K) := by
  obtain ⟨fd, F⟩ := T.f_LetTerm_init
  refine cal_init F T.mk_LetTerm T.g_LetTerm sc_LetTerm_init (fun _ _ _ _ _ _ us hl => match us, hl with | [_, _, _, _], _ => rfl) (by walk_at "ln") (fun cdv A outer s H vs Q E hr h => ?_)
  obtain ⟨fd0, F0, hb0⟩ := fn_Term_init (P := P) (w := w) (base := base) T
  obtain ⟨H0, x, dx, n0, t1, v1, t2, v2, rfl, f0, x0, hx, r1, r2, k⟩ := h
  refine ⟨_, (pss_cons (ps_expr (pe_cini (by rfl) T.g_Term T.x.ciT F0 T.x.kpT (hr.mono (by decide)) hb0 pass0 (pa_cons (pv 0) (pa_cons (pe_lst (pa_cons (pv 2) (pa_cons (pv 3) pa_nil))) pa_nil))))
    (pss_cons (ps_fld (pv 0) (pv 1) rfl)
    (pss_cons (ps_fld (pv 0) (pv 2) rfl)
    (pss_one (ps_fld (pv 0) (pv 3) rfl))))), ?_⟩
  walk_at "rd"
  refine z_lstr (by show 2 ≤ 100000; omega) fun p hp => ?_
  have np : p ≠ x := z_new hx hp (o' := .lst [])
  have s1 : Same (cut x H) (cut x (upd H p (.lst [v1, v2]))) := Off.same (Same.new hp)
  have RL : RepL K (cut x (upd H p (.lst [v1, v2]))) [t1, t2] [v1, v2] := ⟨v1, _, rfl, rep_mono ((cut_mono nw_sub).trans s1) _ _ r1, ⟨v2, _, rfl, rep_mono ((cut_mono nw_sub).trans s1) _ _ r2, rfl⟩⟩
  refine ⟨x, dx, p, "LetTerm", [t1, t2], [v1, v2], rfl, by simp [tcls], by rw [upd_ne np.symm]; exact hx, SqL.of (cut_of upd_same np), dml_of RL, by show 2 ≤ 20; omega, fun H1 l' o1 hx1 nl hl0 hl => ?_⟩
  have O1 : Off x H H1 := Off.trans (Off.same (Same.new hp)) o1
  have L1 := init_len (l := l') (h := 1 + depthL ([t1, t2])) (m := 1 + sizeL ([t1, t2]))
  rw [show 1 + depthL ([t1, t2]) = EH.T.depth (.lt n0 t1 t2) by simp only [depthL, EH.T.depth] <;> omega, show 1 + sizeL ([t1, t2]) = EH.T.size (.lt n0 t1 t2) by simp only [sizeL, EH.T.size] <;> omega] at hx1 L1
  walk_at "rd"
  refine z_fs (m := 3) hx1 T.cls_LetTerm T.no_LetTerm_called L1 (by omega) fun H2 o2 hx2 L2 => ?_
  have O2 := O1.trans o2
  have hl := o2.at nl hl
  walk_at "rd"
  refine z_fs (m := 4) hx2 T.cls_LetTerm T.no_LetTerm_one L2 (by omega) fun H3 o3 hx3 L3 => ?_
  have O3 := O2.trans o3
  have hl := o3.at nl hl
  walk_at "rd"
  refine z_fs (m := 5) hx3 T.cls_LetTerm T.no_LetTerm_other L3 (by omega) fun H4 o4 hx4 L4 => ?_
  have O4 := O3.trans o4
  have hl := o4.at nl hl
  exact k H4 O4 ⟨_, v1, v2, ⟨x, dx, rfl, nw_of x0 hx4, by walk_at "lp", by walk_at "lp", by walk_at "lp", by walk_at "lp"⟩, by walk_at "lp", by walk_at "lp", rep_mono O4.nw _ _ r1, by walk_at "lp", rep_mono O4.nw _ _ r2⟩
def spISetTerm (K : PySem.W.Frag) : Sp := fun vs H Q _ => ∃ (H0 : Hp) (x dx : Addr) (t0 : T) (v0 : V) (n1 : Str) (t2 : T) (v2 : V), vs = [.ref x, v0, .str n1, v2] ∧ Fr H0 H ∧ H0 x = none ∧ H x = some (.ins (He.ga K "SetTerm") dx []) ∧ RepT K (cut x (nw H0 H)) t0 v0 ∧ RepT K (cut x (nw H0 H)) t2 v2 ∧ ∀ H', Off x H H' → RepT K (nw H0 H') (.st t0 n1 t2) (.ref x) → Q .non H'
theorem sc_SetTerm_init : FnScope ["self", "thing", "called", "other"] ["self", "thing", "called", "other"] (defScope s_SetTerm_init) := ⟨rfl, rfl, rfl, by decide +kernel, rfl, by decide +kernel, by decide +kernel⟩
theorem ok_SetTerm (T : Tx K mg) : CalC P w K mg base CX0 2 "SetTerm" (He.ga K "SetTerm") ["self", "thing", "called", "other"] (spISetTerm K) := by
  obtain ⟨fd, F⟩ := T.f_SetTerm_init
  refine cal_init F T.mk_SetTerm T.g_SetTerm sc_SetTerm_init (fun _ _ _ _ _ _ us hl => match us, hl with | [_, _, _, _], _ => rfl) (by walk_at "ln") (fun cdv A outer s H vs Q E hr h => ?_)
  obtain ⟨fd0, F0, hb0⟩ := fn_Term_init (P := P) (w := w) (base := base) T
  obtain ⟨H0, x, dx, t0, v0, n1, t2, v2, rfl, f0, x0, hx, r0, r2, k⟩ := h
  refine ⟨_, (pss_cons (ps_expr (pe_cini (by rfl) T.g_Term T.x.ciT F0 T.x.kpT (hr.mono (by decide)) hb0 pass0 (pa_cons (pv 0) (pa_cons (pe_lst (pa_cons (pv 1) (pa_cons (pv 3) pa_nil))) pa_nil))))
    (pss_cons (ps_fld (pv 0) (pv 1) rfl)
    (pss_cons (ps_fld (pv 0) (pv 2) rfl)
    (pss_one (ps_fld (pv 0) (pv 3) rfl))))), ?_⟩
  walk_at "rd"
  refine z_lstr (by show 2 ≤ 100000; omega) fun p hp => ?_
  have np : p ≠ x := z_new hx hp (o' := .lst [])
  have s1 : Same (cut x H) (cut x (upd H p (.lst [v0, v2]))) := Off.same (Same.new hp)
  have RL : RepL K (cut x (upd H p (.lst [v0, v2]))) [t0, t2] [v0, v2] := ⟨v0, _, rfl, rep_mono ((cut_mono nw_sub).trans s1) _ _ r0, ⟨v2, _, rfl, rep_mono ((cut_mono nw_sub).trans s1) _ _ r2, rfl⟩⟩
  refine ⟨x, dx, p, "SetTerm", [t0, t2], [v0, v2], rfl, by simp [tcls], by rw [upd_ne np.symm]; exact hx, SqL.of (cut_of upd_same np), dml_of RL, by show 2 ≤ 20; omega, fun H1 l' o1 hx1 nl hl0 hl => ?_⟩
  have O1 : Off x H H1 := Off.trans (Off.same (Same.new hp)) o1
  have L1 := init_len (l := l') (h := 1 + depthL ([t0, t2])) (m := 1 + sizeL ([t0, t2]))
  rw [show 1 + depthL ([t0, t2]) = EH.T.depth (.st t0 n1 t2) by simp only [depthL, EH.T.depth] <;> omega, show 1 + sizeL ([t0, t2]) = EH.T.size (.st t0 n1 t2) by simp only [sizeL, EH.T.size] <;> omega] at hx1 L1
  walk_at "rd"
  refine z_fs (m := 3) hx1 T.cls_SetTerm T.no_SetTerm_thing L1 (by omega) fun H2 o2 hx2 L2 => ?_
  have O2 := O1.trans o2
  have hl := o2.at nl hl
  walk_at "rd"
  refine z_fs (m := 4) hx2 T.cls_SetTerm T.no_SetTerm_called L2 (by omega) fun H3 o3 hx3 L3 => ?_
  have O3 := O2.trans o3
  have hl := o3.at nl hl
  walk_at "rd"
  refine z_fs (m := 5) hx3 T.cls_SetTerm T.no_SetTerm_other L3 (by omega) fun H4 o4 hx4 L4 => ?_
  have O4 := O3.trans o4
  have hl := o4.at nl hl
  exact k H4 O4 ⟨_, v0, v2, ⟨x, dx, rfl, nw_of x0 hx4, by walk_at "lp", by walk_at "lp", by walk_at "lp", by walk_at "lp"⟩, by walk_at "lp", rep_mono O4.nw _ _ r0, by walk_at "lp", by walk_at "lp", rep_mono O4.nw _ _ r2⟩
end
end EH

set_option Elab.async false
set_option maxRecDepth 100000
set_option maxHeartbeats 4000000
set_option linter.unusedVariables false

/-! plain, depth, built. Printed by mkw5.py. -/
namespace EH
open PySem PySem.Spec PyProof.Rows L2 TL
/-! ### a term as data -/
mutual
def tdat : T → PyData
  | .num n => .tuple [.str "number", .int n]
  | .tru b => .tuple [.str "truth", .bool b]
  | .nam x => .tuple [.str "name", .str x]
  | .slf => .tuple [.str "self"]
  | .new x ts => .tuple [.str "new", .str x, .tuple (tdatL ts)]
  | .eld x ts => .tuple [.str "elder", .str x, .tuple (tdatL ts)]
  | .fld t x => .tuple [.str "field", tdat t, .str x]
  | .cal t x ts => .tuple [.str "call", tdat t, .str x, .tuple (tdatL ts)]
  | .nt t => .tuple [.str "not", tdat t]
  | .two g a b => .tuple [.str "two", .str g, tdat a, tdat b]
  | .ite a b c => .tuple [.str "if", tdat a, tdat b, tdat c]
  | .lt x a b => .tuple [.str "let", .str x, tdat a, tdat b]
  | .st t x b => .tuple [.str "set", tdat t, .str x, tdat b]
def tdatL : List T → List PyData
  | [] => []
  | t :: ts => tdat t :: tdatL ts
end
theorem tdatL_len : ∀ ts : List T, (tdatL ts).length = ts.length
  | [] => rfl
  | t :: ts => congrArg (· + 1) (tdatL_len ts)
theorem tdatL_at : ∀ {ts : List T} {i : Nat} {t : T}, ts[i]? = some t → (tdatL ts).take i ++ [tdat t] = (tdatL ts).take (i + 1)
  | u :: ts, 0, t, e => by
    have e' : u = t := Option.some.inj (show some u = some t from e)
    subst e'
    rfl
  | u :: ts, i + 1, t, e => congrArg (tdat u :: ·) (tdatL_at (ts := ts) (i := i) e)
theorem depthL_at : ∀ {ts : List T} {i : Nat} {t : T} {n : Nat}, depthL ts ≤ n → ts[i]? = some t → t.depth ≤ n := fun h e => Nat.le_trans (depthL_le (List.mem_of_getElem? e)) h
theorem size_pos (t : T) : 1 ≤ t.size := by cases t <;> simp only [T.size] <;> omega
theorem len_sizeL : ∀ ts : List T, ts.length ≤ sizeL ts
  | [] => Nat.le_refl _
  | t :: ts => by
    have := len_sizeL ts
    have := size_pos t
    rw [sizeL, List.length_cons]
    omega
theorem sizeL_at : ∀ {ts : List T} {i : Nat} {t : T} {n : Nat}, sizeL ts ≤ n → ts[i]? = some t → t.size ≤ n
  | u :: ts, 0, t, n, h, e => by
    have e' : u = t := Option.some.inj (show some u = some t from e)
    rw [sizeL] at h
    rw [← e']
    omega
  | u :: ts, i + 1, t, n, h, e => by
    rw [sizeL] at h
    exact sizeL_at (ts := ts) (i := i) (by omega) e
local macro_rules | `(tactic| walk_at "rd1") => `(tactic| (first
  | with_reducible refine z_seq ?_ | with_reducible refine z_ifs ?_ | with_reducible refine z_next ?_ | with_reducible refine z_ret ?_ | with_reducible refine z_asg ?_ | with_reducible refine z_gname ?_
  | ((with_reducible apply z_var); exact rfl) | with_reducible refine z_c ?_ | with_reducible refine z_op ?_ | with_reducible refine z_bl ?_ | with_reducible refine z_test ?_ | with_reducible refine z_B ?_
  | with_reducible refine z_nil ?_ | with_reducible refine z_cons ?_ | with_reducible refine z_cb ?_ | with_reducible refine z_call ?_ | with_reducible refine iteT ?_ | with_reducible refine iteF ?_
  | with_reducible refine z_or ?_ | with_reducible refine z_and ?_ | with_reducible refine z_not ?_ | with_reducible refine z_orv ?_ | with_reducible refine z_andv ?_ | with_reducible refine z_notv ?_ | with_reducible refine z_un ?_
  | with_reducible refine z_eqS ?_ | with_reducible refine z_neS ?_ | with_reducible refine z_eqI ?_ | with_reducible refine z_neI ?_ | with_reducible refine z_i0 ?_ | with_reducible refine z_radd ?_ | with_reducible refine z_rsub ?_ | with_reducible refine z_iu ?_
  | with_reducible refine z_fld ?_ | with_reducible refine z_meth ?_ | with_reducible refine z_sfld ?_ | with_reducible refine z_flda ?_ | with_reducible refine z_make ?_ | with_reducible refine z_drop ?_ | with_reducible refine z_retn ?_ | with_reducible refine z_cont ?_
  | with_reducible refine z_tup ?_ | with_reducible refine z_lst ?_ | with_reducible refine z_slice ?_ | with_reducible refine z_nopart ?_ | with_reducible refine z_part ?_ | with_reducible refine z_intr ?_ | with_reducible refine z_m1 ?_ | with_reducible refine z_lc ?_ | with_reducible refine z_yes ?_ | with_reducible refine z_il ?_ | with_reducible refine z_it ?_ | with_reducible refine z_bm ?_ | with_reducible refine z_for ?_ | with_reducible refine z_gcons ?_ | with_reducible refine z_gnil ?_))
local macro_rules | `(tactic| walk_at "rd") => `(tactic| repeat (walk_at "rd1"))
local macro_rules | `(tactic| walk_at "no") => `(tactic| repeat (first | refine ifF (bSf (by decide +kernel)) ?_ | refine ifF (bSf num_ne) ?_ | (walk_at "rd1")))
local macro_rules | `(tactic| walk_at "ln") => `(tactic| (rintro vs H Q E h; repeat (first | (obtain ⟨e, _⟩ := h; subst e; rfl) | (obtain ⟨_, h⟩ := h))))
section
variable {P : Program} {w : World} {K : PySem.W.Frag} {mg : Str → Option Value} {base : Heap}
def spPl (K : PySem.W.Frag) (n : Nat) (c : Str) : Sp := fun vs H Q _ => ∃ (t : T) (v : V), vs = [v] ∧ clsT t = c ∧ t.depth ≤ n ∧ t.size ≤ 1000 ∧ RepT K H t v ∧ ∀ H' u, Same H H' → Dp K (nw H H') u (tdat t) → Q u H'
def PlOk (P : Program) (w : World) (K : PySem.W.Frag) (mg : Str → Option Value) (base : Heap) (n : Nat) : Prop := ∀ c ∈ tcls, CalM P w K mg base CX0 (3 * n + 1) (He.ga K c) "plain" ["self"] (spPl K n c)
def spPls (K : PySem.W.Frag) (n : Nat) : Sp := fun vs H Q _ => ∃ (l : Addr) (ts : List T) (us : List V), vs = [.ref l] ∧ SqL K H l us ∧ RepL K H ts us ∧ depthL ts ≤ n ∧ sizeL ts ≤ 1000 ∧ ∀ H' u, Same H H' → Dp K (nw H H') u (.tuple (tdatL ts)) → Q u H'
theorem z_pl {n : Nat} {t : T} {v : V} {H : Hp} {Q : VK} {E : XK} {σ : L2.St} (r : RepT K H t v) (hn : t.depth ≤ n) (hz : t.size ≤ 1000) (k : ∀ H' u, Same H H' → Dp K (nw H H') u (tdat t) → Q u H') : MethR (He.ga K (clsT t)) "plain" (spPl K n (clsT t)) [] E tNil σ v H Q := by
  obtain ⟨fs, a, dx, rfl, ha, _, _, hp, _⟩ := rep_hm r
  exact ⟨a, dx, fs, rfl, ha, hp, t, _, rfl, rfl, hn, hz, r, k⟩
theorem sc_plains : FnScope ["terms", "term"] ["terms"] (defScope s_plains) := ⟨rfl, rfl, rfl, by decide +kernel, rfl, by decide +kernel, by decide +kernel⟩
theorem ok_plains (T : Tx K mg) {n : Nat} (IH : PlOk P w K mg base n) : Cal P w K mg base CX0 (3*n+2) "plains" ["terms"] [] (spPls K n) := by
  obtain ⟨fd, F⟩ := T.f_plains
  refine cal_def F T.g_plains sc_plains (fun _ _ _ _ _ _ us hl => match us, hl with | [_], _ => rfl) (by walk_at "ln") (fun cdv A outer s H vs Q E hr h => ?_)
  obtain ⟨l, ts, us, rfl, hl, hR, hd, hz, k⟩ := h
  have h20 := Nat.le_trans (len_sizeL ts) hz
  refine ⟨_, (pss_one (ps_ret (pe_callTy call_tuple_of (by rfl) T.b_tuple (by decide +kernel) (pa_cons (pe_lc (own := [("term", 1)]) (g := gName 1) (by rfl) sc_plains.nd (pi_list (pv 0)) (blkOk_by (own := [("term", 1)]) (N := ["terms", "term"]) (sc := defScope s_plains) (by decide +kernel)) (fun _ _ _ _ _ => pg_name (i := 1) sc_plains.nd rfl (Or.inl rfl)) (fun _ _ _ _ _ => pts_nil) (fun _ _ _ _ _ => (PE.ex fun c : {c // c ∈ tcls} => (pe_calm0 (pv 1) (IH c.1 c.2) (hr.mono (by omega)) pass0)))) pa_nil)))), ?_⟩
  walk_at "rd"
  have hus := repL_len hR
  refine z_ilr hl ?_
  refine z_lcj (walk_list (K := K) (a := l) (xs := us)) (fun D i acc H' => DpAll K (cut D (nw H H')) acc ((tdatL ts).take i)) (fun H2 hS => Same.seq hS hl) (fun _ _ _ _ => .nil) ?_ ?_
  · rintro D i acc y H2 H3 hD1 hi hS hal hacc hA ⟨rfl, hy⟩
    obtain ⟨t, ht, hrt⟩ := repL_at hR hy
    walk_at "rd"
    refine ⟨rfl, ?_⟩
    walk_at "rd"
    refine ⟨⟨clsT t, cls_in t⟩, ?_⟩
    walk_at "rd"
    refine z_pl (rep_mono hS _ _ hrt) (depthL_at hd ht) (sizeL_at hz ht) fun H4 u s4 hu => ?_
    refine lc_dp hD1 hS hacc hal (by omega) s4 hA hu fun H5 _ h5 => ?_
    rw [← tdatL_at ht]
    exact h5
  · intro D acc H2 hD1 hS hacc hA
    rw [hus, ← tdatL_len, List.take_length] at hA
    walk_at "rd"
    refine ⟨D, acc, rfl, .inl ⟨SqL.of hacc, fun l' hl' => ?_⟩⟩
    refine k _ _ (hS.trans (Same.new hl')) (.tup (SqT.of (nw_of (Fr.same hS _ hl') upd_same)) (DpAll.mono (fun b o e => ?_) hA))
    obtain ⟨n, e⟩ := cut_at e
    obtain ⟨e1, e2⟩ := nw_at e
    exact nw_of e1 (Same.new hl' _ _ e2)
/-- a new tuple of data -/
theorem z_tpd {H0 H : Hp} {Q : VK} {xs : List V} {ds : List PyData} (f : Fr H0 H) (h : DpAll K (nw H0 H) xs ds) (hl : xs.length ≤ 100000) (k : ∀ H' u, Same H H' → Dp K (nw H0 H') u (.tuple ds) → Q u H') : TupR xs H Q :=
  z_tupr hl fun p hp => k _ _ (Same.new hp) (.tup (SqT.of (nw_of (f _ hp) upd_same)) (DpAll.mono (nw_mono Fr.refl fun b o _ e => Same.new hp _ _ e) h))

theorem rp_NumberTerm {H : Hp} {t : T} {v : V} (hc : clsT t = "NumberTerm") (r : RepT K H t v) : ∃ n0, t = (.num n0) := by
  cases t <;> first | exact ⟨_, rfl⟩ | (exact absurd hc (by simp only [clsT]; decide +kernel))
theorem sc_NumberTerm_plain : FnScope ["self"] ["self"] (defScope s_NumberTerm_plain) := ⟨rfl, rfl, rfl, by decide +kernel, rfl, by decide +kernel, by decide +kernel⟩
theorem okm_NumberTerm_plain (T : Tx K mg) {n : Nat} (IH : ∀ m, m < n → PlOk P w K mg base m) : CalM P w K mg base CX0 (3*n+1) (He.ga K "NumberTerm") "plain" ["self"] (spPl K n "NumberTerm") := by
  obtain ⟨fd, F⟩ := T.f_NumberTerm_plain
  refine cal_meth F T.m_NumberTerm_plain T.cls_NumberTerm sc_NumberTerm_plain (fun _ _ _ _ _ _ us hl => match us, hl with | [_], _ => rfl) (by walk_at "ln") (fun cdv A outer s H vs Q E hr h => ?_)
  obtain ⟨t, v, rfl, hc, hd, hz, r, k⟩ := h
  obtain ⟨n0, rfl⟩ := rp_NumberTerm hc r
  have hn : n - 1 < n := by rw [EH.T.depth] at hd; omega
  generalize hm0 : n - 1 = m at hn
  have hm := hn
  have hdm : EH.T.depth (.num n0) ≤ m + 1 := by omega
  refine ⟨_, (pss_one (ps_ret (pe_tup (pa_cons pe_str (pa_cons (pe_fld (pv 0) rfl) pa_nil))))), ?_⟩
  obtain ⟨fs, ⟨a, dx, rfl, ha, hh, hmn, hp, hdp⟩, e0⟩ := id r
  clear r
  walk_at "rd"
  have S0 := Same.refl H
  refine z_fldr (S0 _ _ ha) T.cls_NumberTerm T.no_NumberTerm_number e0 ?_
  walk_at "rd"
  have X0 : Same H H := Same.refl _
  refine z_tpd (K := K) (H0 := H) (Fr.same S0) (.cons (.str _) <| .cons (.int _) <| .nil) (by show 2 ≤ 100000; omega) fun H9 u9 s9 d9 => ?_
  exact k H9 u9 (S0.trans s9) d9
theorem rp_TruthTerm {H : Hp} {t : T} {v : V} (hc : clsT t = "TruthTerm") (r : RepT K H t v) : ∃ n0, t = (.tru n0) := by
  cases t <;> first | exact ⟨_, rfl⟩ | (exact absurd hc (by simp only [clsT]; decide +kernel))
theorem sc_TruthTerm_plain : FnScope ["self"] ["self"] (defScope s_TruthTerm_plain) := ⟨rfl, rfl, rfl, by decide +kernel, rfl, by decide +kernel, by decide +kernel⟩
theorem okm_TruthTerm_plain (T : Tx K mg) {n : Nat} (IH : ∀ m, m < n → PlOk P w K mg base m) : CalM P w K mg base CX0 (3*n+1) (He.ga K "TruthTerm") "plain" ["self"] (spPl K n "TruthTerm") := by
  obtain ⟨fd, F⟩ := T.f_TruthTerm_plain
  refine cal_meth F T.m_TruthTerm_plain T.cls_TruthTerm sc_TruthTerm_plain (fun _ _ _ _ _ _ us hl => match us, hl with | [_], _ => rfl) (by walk_at "ln") (fun cdv A outer s H vs Q E hr h => ?_)
  obtain ⟨t, v, rfl, hc, hd, hz, r, k⟩ := h
  obtain ⟨n0, rfl⟩ := rp_TruthTerm hc r
  have hn : n - 1 < n := by rw [EH.T.depth] at hd; omega
  generalize hm0 : n - 1 = m at hn
  have hm := hn
  have hdm : EH.T.depth (.tru n0) ≤ m + 1 := by omega
  refine ⟨_, (pss_one (ps_ret (pe_tup (pa_cons pe_str (pa_cons (pe_fld (pv 0) rfl) pa_nil))))), ?_⟩
  obtain ⟨fs, ⟨a, dx, rfl, ha, hh, hmn, hp, hdp⟩, e0⟩ := id r
  clear r
  walk_at "rd"
  have S0 := Same.refl H
  refine z_fldr (S0 _ _ ha) T.cls_TruthTerm T.no_TruthTerm_is_yes e0 ?_
  walk_at "rd"
  have X0 : Same H H := Same.refl _
  refine z_tpd (K := K) (H0 := H) (Fr.same S0) (.cons (.str _) <| .cons (.bl _) <| .nil) (by show 2 ≤ 100000; omega) fun H9 u9 s9 d9 => ?_
  exact k H9 u9 (S0.trans s9) d9
theorem rp_NameTerm {H : Hp} {t : T} {v : V} (hc : clsT t = "NameTerm") (r : RepT K H t v) : ∃ n0, t = (.nam n0) := by
  cases t <;> first | exact ⟨_, rfl⟩ | (exact absurd hc (by simp only [clsT]; decide +kernel))
theorem sc_NameTerm_plain : FnScope ["self"] ["self"] (defScope s_NameTerm_plain) := ⟨rfl, rfl, rfl, by decide +kernel, rfl, by decide +kernel, by decide +kernel⟩
theorem okm_NameTerm_plain (T : Tx K mg) {n : Nat} (IH : ∀ m, m < n → PlOk P w K mg base m) : CalM P w K mg base CX0 (3*n+1) (He.ga K "NameTerm") "plain" ["self"] (spPl K n "NameTerm") := by
  obtain ⟨fd, F⟩ := T.f_NameTerm_plain
  refine cal_meth F T.m_NameTerm_plain T.cls_NameTerm sc_NameTerm_plain (fun _ _ _ _ _ _ us hl => match us, hl with | [_], _ => rfl) (by walk_at "ln") (fun cdv A outer s H vs Q E hr h => ?_)
  obtain ⟨t, v, rfl, hc, hd, hz, r, k⟩ := h
  obtain ⟨n0, rfl⟩ := rp_NameTerm hc r
  have hn : n - 1 < n := by rw [EH.T.depth] at hd; omega
  generalize hm0 : n - 1 = m at hn
  have hm := hn
  have hdm : EH.T.depth (.nam n0) ≤ m + 1 := by omega
  refine ⟨_, (pss_one (ps_ret (pe_tup (pa_cons pe_str (pa_cons (pe_fld (pv 0) rfl) pa_nil))))), ?_⟩
  obtain ⟨fs, ⟨a, dx, rfl, ha, hh, hmn, hp, hdp⟩, e0⟩ := id r
  clear r
  walk_at "rd"
  have S0 := Same.refl H
  refine z_fldr (S0 _ _ ha) T.cls_NameTerm T.no_NameTerm_called e0 ?_
  walk_at "rd"
  have X0 : Same H H := Same.refl _
  refine z_tpd (K := K) (H0 := H) (Fr.same S0) (.cons (.str _) <| .cons (.str _) <| .nil) (by show 2 ≤ 100000; omega) fun H9 u9 s9 d9 => ?_
  exact k H9 u9 (S0.trans s9) d9
theorem rp_SelfTerm {H : Hp} {t : T} {v : V} (hc : clsT t = "SelfTerm") (r : RepT K H t v) : ∃ u : Unit, t = .slf := by
  cases t <;> first | exact ⟨(), rfl⟩ | (exact absurd hc (by simp only [clsT]; decide +kernel))
theorem sc_SelfTerm_plain : FnScope ["self"] ["self"] (defScope s_SelfTerm_plain) := ⟨rfl, rfl, rfl, by decide +kernel, rfl, by decide +kernel, by decide +kernel⟩
theorem okm_SelfTerm_plain (T : Tx K mg) {n : Nat} (IH : ∀ m, m < n → PlOk P w K mg base m) : CalM P w K mg base CX0 (3*n+1) (He.ga K "SelfTerm") "plain" ["self"] (spPl K n "SelfTerm") := by
  obtain ⟨fd, F⟩ := T.f_SelfTerm_plain
  refine cal_meth F T.m_SelfTerm_plain T.cls_SelfTerm sc_SelfTerm_plain (fun _ _ _ _ _ _ us hl => match us, hl with | [_], _ => rfl) (by walk_at "ln") (fun cdv A outer s H vs Q E hr h => ?_)
  obtain ⟨t, v, rfl, hc, hd, hz, r, k⟩ := h
  obtain ⟨u, rfl⟩ := rp_SelfTerm hc r
  have hn : n - 1 < n := by rw [EH.T.depth] at hd; omega
  generalize hm0 : n - 1 = m at hn
  have hm := hn
  have hdm : EH.T.depth .slf ≤ m + 1 := by omega
  refine ⟨_, (pss_one (ps_ret (pe_tup (pa_cons pe_str pa_nil)))), ?_⟩
  obtain ⟨fs, ⟨a, dx, rfl, ha, hh, hmn, hp, hdp⟩⟩ := id r
  clear r
  walk_at "rd"
  have S0 := Same.refl H
  have X0 : Same H H := Same.refl _
  refine z_tpd (K := K) (H0 := H) (Fr.same S0) (.cons (.str _) <| .nil) (by show 1 ≤ 100000; omega) fun H9 u9 s9 d9 => ?_
  exact k H9 u9 (S0.trans s9) d9
theorem rp_NewTerm {H : Hp} {t : T} {v : V} (hc : clsT t = "NewTerm") (r : RepT K H t v) : ∃ n0 ts1, t = (.new n0 ts1) := by
  cases t <;> first | exact ⟨_, _, rfl⟩ | (exact absurd hc (by simp only [clsT]; decide +kernel))
theorem sc_NewTerm_plain : FnScope ["self"] ["self"] (defScope s_NewTerm_plain) := ⟨rfl, rfl, rfl, by decide +kernel, rfl, by decide +kernel, by decide +kernel⟩
theorem okm_NewTerm_plain (T : Tx K mg) {n : Nat} (IH : ∀ m, m < n → PlOk P w K mg base m) : CalM P w K mg base CX0 (3*n+1) (He.ga K "NewTerm") "plain" ["self"] (spPl K n "NewTerm") := by
  obtain ⟨fd, F⟩ := T.f_NewTerm_plain
  refine cal_meth F T.m_NewTerm_plain T.cls_NewTerm sc_NewTerm_plain (fun _ _ _ _ _ _ us hl => match us, hl with | [_], _ => rfl) (by walk_at "ln") (fun cdv A outer s H vs Q E hr h => ?_)
  obtain ⟨t, v, rfl, hc, hd, hz, r, k⟩ := h
  obtain ⟨n0, ts1, rfl⟩ := rp_NewTerm hc r
  have hn : n - 1 < n := by rw [EH.T.depth] at hd; omega
  generalize hm0 : n - 1 = m at hn
  have hm := hn
  have hdm : EH.T.depth (.new n0 ts1) ≤ m + 1 := by omega
  refine ⟨_, (pss_one (ps_ret (pe_tup (pa_cons pe_str (pa_cons (pe_fld (pv 0) rfl) (pa_cons (pe_cal (ok_plains T (IH _ hm)) (hr.mono (by omega)) pass0 (pa_cons (pe_fld (pv 0) rfl) pa_nil)) pa_nil)))))), ?_⟩
  obtain ⟨fs, l, us, ⟨a, dx, rfl, ha, hh, hmn, hp, hdp⟩, e0, e1, h2, h3⟩ := id r
  clear r
  rw [EH.T.size] at hz
  rw [EH.T.depth] at hdm
  walk_at "rd"
  have S0 := Same.refl H
  refine z_fldr (S0 _ _ ha) T.cls_NewTerm T.no_NewTerm_called e0 ?_
  walk_at "rd"
  refine z_fldr (S0 _ _ ha) T.cls_NewTerm T.no_NewTerm_inner e1 ?_
  walk_at "rd"
  refine ⟨l, _, us, rfl, SqL.of (S0 _ _ h2), repL_mono S0 _ _ h3, by omega, by omega, fun H1 u1 s1 d1 => ?_⟩
  have S1 := S0.trans s1
  walk_at "rd"
  have X1 : Same H1 H1 := Same.refl _
  refine z_tpd (K := K) (H0 := H) (Fr.same S1) (.cons (.str _) <| .cons (.str _) <| .cons (Dp.mono (nw_same S0 X1) d1) <| .nil) (by show 3 ≤ 100000; omega) fun H9 u9 s9 d9 => ?_
  exact k H9 u9 (S1.trans s9) d9
theorem rp_ElderTerm {H : Hp} {t : T} {v : V} (hc : clsT t = "ElderTerm") (r : RepT K H t v) : ∃ n0 ts1, t = (.eld n0 ts1) := by
  cases t <;> first | exact ⟨_, _, rfl⟩ | (exact absurd hc (by simp only [clsT]; decide +kernel))
theorem sc_ElderTerm_plain : FnScope ["self"] ["self"] (defScope s_ElderTerm_plain) := ⟨rfl, rfl, rfl, by decide +kernel, rfl, by decide +kernel, by decide +kernel⟩
theorem okm_ElderTerm_plain (T : Tx K mg) {n : Nat} (IH : ∀ m, m < n → PlOk P w K mg base m) : CalM P w K mg base CX0 (3*n+1) (He.ga K "ElderTerm") "plain" ["self"] (spPl K n "ElderTerm") := by
  obtain ⟨fd, F⟩ := T.f_ElderTerm_plain
  refine cal_meth F T.m_ElderTerm_plain T.cls_ElderTerm sc_ElderTerm_plain (fun _ _ _ _ _ _ us hl => match us, hl with | [_], _ => rfl) (by walk_at "ln") (fun cdv A outer s H vs Q E hr h => ?_)
  obtain ⟨t, v, rfl, hc, hd, hz, r, k⟩ := h
  obtain ⟨n0, ts1, rfl⟩ := rp_ElderTerm hc r
  have hn : n - 1 < n := by rw [EH.T.depth] at hd; omega
  generalize hm0 : n - 1 = m at hn
  have hm := hn
  have hdm : EH.T.depth (.eld n0 ts1) ≤ m + 1 := by omega
  refine ⟨_, (pss_one (ps_ret (pe_tup (pa_cons pe_str (pa_cons (pe_fld (pv 0) rfl) (pa_cons (pe_cal (ok_plains T (IH _ hm)) (hr.mono (by omega)) pass0 (pa_cons (pe_fld (pv 0) rfl) pa_nil)) pa_nil)))))), ?_⟩
  obtain ⟨fs, l, us, ⟨a, dx, rfl, ha, hh, hmn, hp, hdp⟩, e0, e1, h2, h3⟩ := id r
  clear r
  rw [EH.T.size] at hz
  rw [EH.T.depth] at hdm
  walk_at "rd"
  have S0 := Same.refl H
  refine z_fldr (S0 _ _ ha) T.cls_ElderTerm T.no_ElderTerm_called e0 ?_
  walk_at "rd"
  refine z_fldr (S0 _ _ ha) T.cls_ElderTerm T.no_ElderTerm_inner e1 ?_
  walk_at "rd"
  refine ⟨l, _, us, rfl, SqL.of (S0 _ _ h2), repL_mono S0 _ _ h3, by omega, by omega, fun H1 u1 s1 d1 => ?_⟩
  have S1 := S0.trans s1
  walk_at "rd"
  have X1 : Same H1 H1 := Same.refl _
  refine z_tpd (K := K) (H0 := H) (Fr.same S1) (.cons (.str _) <| .cons (.str _) <| .cons (Dp.mono (nw_same S0 X1) d1) <| .nil) (by show 3 ≤ 100000; omega) fun H9 u9 s9 d9 => ?_
  exact k H9 u9 (S1.trans s9) d9
theorem rp_FieldTerm {H : Hp} {t : T} {v : V} (hc : clsT t = "FieldTerm") (r : RepT K H t v) : ∃ t0 n1, t = (.fld t0 n1) := by
  cases t <;> first | exact ⟨_, _, rfl⟩ | (exact absurd hc (by simp only [clsT]; decide +kernel))
theorem sc_FieldTerm_plain : FnScope ["self"] ["self"] (defScope s_FieldTerm_plain) := ⟨rfl, rfl, rfl, by decide +kernel, rfl, by decide +kernel, by decide +kernel⟩
theorem okm_FieldTerm_plain (T : Tx K mg) {n : Nat} (IH : ∀ m, m < n → PlOk P w K mg base m) : CalM P w K mg base CX0 (3*n+1) (He.ga K "FieldTerm") "plain" ["self"] (spPl K n "FieldTerm") := by
  obtain ⟨fd, F⟩ := T.f_FieldTerm_plain
  refine cal_meth F T.m_FieldTerm_plain T.cls_FieldTerm sc_FieldTerm_plain (fun _ _ _ _ _ _ us hl => match us, hl with | [_], _ => rfl) (by walk_at "ln") (fun cdv A outer s H vs Q E hr h => ?_)
  obtain ⟨t, v, rfl, hc, hd, hz, r, k⟩ := h
  obtain ⟨t0, n1, rfl⟩ := rp_FieldTerm hc r
  have hn : n - 1 < n := by rw [EH.T.depth] at hd; omega
  generalize hm0 : n - 1 = m at hn
  have hm := hn
  have hdm : EH.T.depth (.fld t0 n1) ≤ m + 1 := by omega
  refine ⟨_, (pss_one (ps_ret (pe_tup (pa_cons pe_str (pa_cons (PE.ex fun c : {c // c ∈ tcls} => (pe_calm0 (pe_fld (pv 0) rfl) ((IH _ hm) c.1 c.2) (hr.mono (by omega)) pass0)) (pa_cons (pe_fld (pv 0) rfl) pa_nil)))))), ?_⟩
  obtain ⟨fs, v0, ⟨a, dx, rfl, ha, hh, hmn, hp, hdp⟩, e0, r0, e1⟩ := id r
  clear r
  rw [EH.T.size] at hz
  rw [EH.T.depth] at hdm
  walk_at "rd"
  have S0 := Same.refl H
  refine ⟨⟨clsT t0, cls_in t0⟩, ?_⟩
  walk_at "rd"
  refine z_fldr (S0 _ _ ha) T.cls_FieldTerm T.no_FieldTerm_thing e0 ?_
  refine z_pl (rep_mono S0 _ _ r0) (by omega) (by omega) fun H1 u1 s1 d1 => ?_
  have S1 := S0.trans s1
  walk_at "rd"
  refine z_fldr (S1 _ _ ha) T.cls_FieldTerm T.no_FieldTerm_called e1 ?_
  walk_at "rd"
  have X1 : Same H1 H1 := Same.refl _
  refine z_tpd (K := K) (H0 := H) (Fr.same S1) (.cons (.str _) <| .cons (Dp.mono (nw_same S0 X1) d1) <| .cons (.str _) <| .nil) (by show 3 ≤ 100000; omega) fun H9 u9 s9 d9 => ?_
  exact k H9 u9 (S1.trans s9) d9
theorem rp_CallTerm {H : Hp} {t : T} {v : V} (hc : clsT t = "CallTerm") (r : RepT K H t v) : ∃ t0 n1 ts2, t = (.cal t0 n1 ts2) := by
  cases t <;> first | exact ⟨_, _, _, rfl⟩ | (exact absurd hc (by simp only [clsT]; decide +kernel))
theorem sc_CallTerm_plain : FnScope ["self"] ["self"] (defScope s_CallTerm_plain) := ⟨rfl, rfl, rfl, by decide +kernel, rfl, by decide +kernel, by decide +kernel⟩
theorem okm_CallTerm_plain (T : Tx K mg) {n : Nat} (IH : ∀ m, m < n → PlOk P w K mg base m) : CalM P w K mg base CX0 (3*n+1) (He.ga K "CallTerm") "plain" ["self"] (spPl K n "CallTerm") := by
  obtain ⟨fd, F⟩ := T.f_CallTerm_plain
  refine cal_meth F T.m_CallTerm_plain T.cls_CallTerm sc_CallTerm_plain (fun _ _ _ _ _ _ us hl => match us, hl with | [_], _ => rfl) (by walk_at "ln") (fun cdv A outer s H vs Q E hr h => ?_)
  obtain ⟨t, v, rfl, hc, hd, hz, r, k⟩ := h
  obtain ⟨t0, n1, ts2, rfl⟩ := rp_CallTerm hc r
  have hn : n - 1 < n := by rw [EH.T.depth] at hd; omega
  generalize hm0 : n - 1 = m at hn
  have hm := hn
  have hdm : EH.T.depth (.cal t0 n1 ts2) ≤ m + 1 := by omega
  refine ⟨_, (pss_one (ps_ret (pe_tup (pa_cons pe_str (pa_cons (PE.ex fun c : {c // c ∈ tcls} => (pe_calm0 (pe_fld (pv 0) rfl) ((IH _ hm) c.1 c.2) (hr.mono (by omega)) pass0)) (pa_cons (pe_fld (pv 0) rfl) (pa_cons (pe_cal (ok_plains T (IH _ hm)) (hr.mono (by omega)) pass0 (pa_cons (pe_fld (pv 0) rfl) pa_nil)) pa_nil))))))), ?_⟩
  obtain ⟨fs, v0, l, us, ⟨a, dx, rfl, ha, hh, hmn, hp, hdp⟩, e0, r0, e1, e2, h2, h3⟩ := id r
  clear r
  rw [EH.T.size] at hz
  rw [EH.T.depth] at hdm
  walk_at "rd"
  have S0 := Same.refl H
  refine ⟨⟨clsT t0, cls_in t0⟩, ?_⟩
  walk_at "rd"
  refine z_fldr (S0 _ _ ha) T.cls_CallTerm T.no_CallTerm_thing e0 ?_
  refine z_pl (rep_mono S0 _ _ r0) (by omega) (by omega) fun H1 u1 s1 d1 => ?_
  have S1 := S0.trans s1
  walk_at "rd"
  refine z_fldr (S1 _ _ ha) T.cls_CallTerm T.no_CallTerm_called e1 ?_
  walk_at "rd"
  refine z_fldr (S1 _ _ ha) T.cls_CallTerm T.no_CallTerm_given e2 ?_
  walk_at "rd"
  refine ⟨l, _, us, rfl, SqL.of (S1 _ _ h2), repL_mono S1 _ _ h3, by omega, by omega, fun H2 u2 s2 d2 => ?_⟩
  have S2 := S1.trans s2
  walk_at "rd"
  have X2 : Same H2 H2 := Same.refl _
  have X1 := s2.trans X2
  refine z_tpd (K := K) (H0 := H) (Fr.same S2) (.cons (.str _) <| .cons (Dp.mono (nw_same S0 X1) d1) <| .cons (.str _) <| .cons (Dp.mono (nw_same S1 X2) d2) <| .nil) (by show 4 ≤ 100000; omega) fun H9 u9 s9 d9 => ?_
  exact k H9 u9 (S2.trans s9) d9
theorem rp_NotTerm {H : Hp} {t : T} {v : V} (hc : clsT t = "NotTerm") (r : RepT K H t v) : ∃ t0, t = (.nt t0) := by
  cases t <;> first | exact ⟨_, rfl⟩ | (exact absurd hc (by simp only [clsT]; decide +kernel))
theorem sc_NotTerm_plain : FnScope ["self"] ["self"] (defScope s_NotTerm_plain) := ⟨rfl, rfl, rfl, by decide +kernel, rfl, by decide +kernel, by decide +kernel⟩
theorem okm_NotTerm_plain (T : Tx K mg) {n : Nat} (IH : ∀ m, m < n → PlOk P w K mg base m) : CalM P w K mg base CX0 (3*n+1) (He.ga K "NotTerm") "plain" ["self"] (spPl K n "NotTerm") := by
  obtain ⟨fd, F⟩ := T.f_NotTerm_plain
  refine cal_meth F T.m_NotTerm_plain T.cls_NotTerm sc_NotTerm_plain (fun _ _ _ _ _ _ us hl => match us, hl with | [_], _ => rfl) (by walk_at "ln") (fun cdv A outer s H vs Q E hr h => ?_)
  obtain ⟨t, v, rfl, hc, hd, hz, r, k⟩ := h
  obtain ⟨t0, rfl⟩ := rp_NotTerm hc r
  have hn : n - 1 < n := by rw [EH.T.depth] at hd; omega
  generalize hm0 : n - 1 = m at hn
  have hm := hn
  have hdm : EH.T.depth (.nt t0) ≤ m + 1 := by omega
  refine ⟨_, (pss_one (ps_ret (pe_tup (pa_cons pe_str (pa_cons (PE.ex fun c : {c // c ∈ tcls} => (pe_calm0 (pe_fld (pv 0) rfl) ((IH _ hm) c.1 c.2) (hr.mono (by omega)) pass0)) pa_nil))))), ?_⟩
  obtain ⟨fs, v0, ⟨a, dx, rfl, ha, hh, hmn, hp, hdp⟩, e0, r0⟩ := id r
  clear r
  rw [EH.T.size] at hz
  rw [EH.T.depth] at hdm
  walk_at "rd"
  have S0 := Same.refl H
  refine ⟨⟨clsT t0, cls_in t0⟩, ?_⟩
  walk_at "rd"
  refine z_fldr (S0 _ _ ha) T.cls_NotTerm T.no_NotTerm_one e0 ?_
  refine z_pl (rep_mono S0 _ _ r0) (by omega) (by omega) fun H1 u1 s1 d1 => ?_
  have S1 := S0.trans s1
  walk_at "rd"
  have X1 : Same H1 H1 := Same.refl _
  refine z_tpd (K := K) (H0 := H) (Fr.same S1) (.cons (.str _) <| .cons (Dp.mono (nw_same S0 X1) d1) <| .nil) (by show 2 ≤ 100000; omega) fun H9 u9 s9 d9 => ?_
  exact k H9 u9 (S1.trans s9) d9
theorem rp_TwoTerm {H : Hp} {t : T} {v : V} (hc : clsT t = "TwoTerm") (r : RepT K H t v) : ∃ n0 t1 t2, t = (.two n0 t1 t2) := by
  cases t <;> first | exact ⟨_, _, _, rfl⟩ | (exact absurd hc (by simp only [clsT]; decide +kernel))
theorem sc_TwoTerm_plain : FnScope ["self"] ["self"] (defScope s_TwoTerm_plain) := ⟨rfl, rfl, rfl, by decide +kernel, rfl, by decide +kernel, by decide +kernel⟩
theorem okm_TwoTerm_plain (T : Tx K mg) {n : Nat} (IH : ∀ m, m < n → PlOk P w K mg base m) : CalM P w K mg base CX0 (3*n+1) (He.ga K "TwoTerm") "plain" ["self"] (spPl K n "TwoTerm") := by
  obtain ⟨fd, F⟩ := T.f_TwoTerm_plain
  refine cal_meth F T.m_TwoTerm_plain T.cls_TwoTerm sc_TwoTerm_plain (fun _ _ _ _ _ _ us hl => match us, hl with | [_], _ => rfl) (by walk_at "ln") (fun cdv A outer s H vs Q E hr h => ?_)
  obtain ⟨t, v, rfl, hc, hd, hz, r, k⟩ := h
  obtain ⟨n0, t1, t2, rfl⟩ := rp_TwoTerm hc r
  have hn : n - 1 < n := by rw [EH.T.depth] at hd; omega
  generalize hm0 : n - 1 = m at hn
  have hm := hn
  have hdm : EH.T.depth (.two n0 t1 t2) ≤ m + 1 := by omega
  refine ⟨_, (pss_one (ps_ret (pe_tup (pa_cons pe_str (pa_cons (pe_fld (pv 0) rfl) (pa_cons (PE.ex fun c : {c // c ∈ tcls} => (pe_calm0 (pe_fld (pv 0) rfl) ((IH _ hm) c.1 c.2) (hr.mono (by omega)) pass0)) (pa_cons (PE.ex fun c : {c // c ∈ tcls} => (pe_calm0 (pe_fld (pv 0) rfl) ((IH _ hm) c.1 c.2) (hr.mono (by omega)) pass0)) pa_nil))))))), ?_⟩
  obtain ⟨fs, v1, v2, ⟨a, dx, rfl, ha, hh, hmn, hp, hdp⟩, e0, e1, r1, e2, r2⟩ := id r
  clear r
  rw [EH.T.size] at hz
  rw [EH.T.depth] at hdm
  walk_at "rd"
  have S0 := Same.refl H
  refine z_fldr (S0 _ _ ha) T.cls_TwoTerm T.no_TwoTerm_sign e0 ?_
  walk_at "rd"
  refine ⟨⟨clsT t1, cls_in t1⟩, ?_⟩
  walk_at "rd"
  refine z_fldr (S0 _ _ ha) T.cls_TwoTerm T.no_TwoTerm_one e1 ?_
  refine z_pl (rep_mono S0 _ _ r1) (by omega) (by omega) fun H1 u1 s1 d1 => ?_
  have S1 := S0.trans s1
  walk_at "rd"
  refine ⟨⟨clsT t2, cls_in t2⟩, ?_⟩
  walk_at "rd"
  refine z_fldr (S1 _ _ ha) T.cls_TwoTerm T.no_TwoTerm_other e2 ?_
  refine z_pl (rep_mono S1 _ _ r2) (by omega) (by omega) fun H2 u2 s2 d2 => ?_
  have S2 := S1.trans s2
  walk_at "rd"
  have X2 : Same H2 H2 := Same.refl _
  have X1 := s2.trans X2
  refine z_tpd (K := K) (H0 := H) (Fr.same S2) (.cons (.str _) <| .cons (.str _) <| .cons (Dp.mono (nw_same S0 X1) d1) <| .cons (Dp.mono (nw_same S1 X2) d2) <| .nil) (by show 4 ≤ 100000; omega) fun H9 u9 s9 d9 => ?_
  exact k H9 u9 (S2.trans s9) d9
theorem rp_IfTerm {H : Hp} {t : T} {v : V} (hc : clsT t = "IfTerm") (r : RepT K H t v) : ∃ t0 t1 t2, t = (.ite t0 t1 t2) := by
  cases t <;> first | exact ⟨_, _, _, rfl⟩ | (exact absurd hc (by simp only [clsT]; decide +kernel))
theorem sc_IfTerm_plain : FnScope ["self"] ["self"] (defScope s_IfTerm_plain) := ⟨rfl, rfl, rfl, by decide +kernel, rfl, by decide +kernel, by decide +kernel⟩
theorem okm_IfTerm_plain (T : Tx K mg) {n : Nat} (IH : ∀ m, m < n → PlOk P w K mg base m) : CalM P w K mg base CX0 (3*n+1) (He.ga K "IfTerm") "plain" ["self"] (spPl K n "IfTerm") := by
  obtain ⟨fd, F⟩ := T.f_IfTerm_plain
  refine cal_meth F T.m_IfTerm_plain T.cls_IfTerm sc_IfTerm_plain (fun _ _ _ _ _ _ us hl => match us, hl with | [_], _ => rfl) (by walk_at "ln") (fun cdv A outer s H vs Q E hr h => ?_)
  obtain ⟨t, v, rfl, hc, hd, hz, r, k⟩ := h
  obtain ⟨t0, t1, t2, rfl⟩ := rp_IfTerm hc r
  have hn : n - 1 < n := by rw [EH.T.depth] at hd; omega
  generalize hm0 : n - 1 = m at hn
  have hm := hn
  have hdm : EH.T.depth (.ite t0 t1 t2) ≤ m + 1 := by omega
  refine ⟨_, (pss_one (ps_ret (pe_tup (pa_cons pe_str (pa_cons (PE.ex fun c : {c // c ∈ tcls} => (pe_calm0 (pe_fld (pv 0) rfl) ((IH _ hm) c.1 c.2) (hr.mono (by omega)) pass0)) (pa_cons (PE.ex fun c : {c // c ∈ tcls} => (pe_calm0 (pe_fld (pv 0) rfl) ((IH _ hm) c.1 c.2) (hr.mono (by omega)) pass0)) (pa_cons (PE.ex fun c : {c // c ∈ tcls} => (pe_calm0 (pe_fld (pv 0) rfl) ((IH _ hm) c.1 c.2) (hr.mono (by omega)) pass0)) pa_nil))))))), ?_⟩
  obtain ⟨fs, v0, v1, v2, ⟨a, dx, rfl, ha, hh, hmn, hp, hdp⟩, e0, r0, e1, r1, e2, r2⟩ := id r
  clear r
  rw [EH.T.size] at hz
  rw [EH.T.depth] at hdm
  walk_at "rd"
  have S0 := Same.refl H
  refine ⟨⟨clsT t0, cls_in t0⟩, ?_⟩
  walk_at "rd"
  refine z_fldr (S0 _ _ ha) T.cls_IfTerm T.no_IfTerm_one e0 ?_
  refine z_pl (rep_mono S0 _ _ r0) (by omega) (by omega) fun H1 u1 s1 d1 => ?_
  have S1 := S0.trans s1
  walk_at "rd"
  refine ⟨⟨clsT t1, cls_in t1⟩, ?_⟩
  walk_at "rd"
  refine z_fldr (S1 _ _ ha) T.cls_IfTerm T.no_IfTerm_other e1 ?_
  refine z_pl (rep_mono S1 _ _ r1) (by omega) (by omega) fun H2 u2 s2 d2 => ?_
  have S2 := S1.trans s2
  walk_at "rd"
  refine ⟨⟨clsT t2, cls_in t2⟩, ?_⟩
  walk_at "rd"
  refine z_fldr (S2 _ _ ha) T.cls_IfTerm T.no_IfTerm_third e2 ?_
  refine z_pl (rep_mono S2 _ _ r2) (by omega) (by omega) fun H3 u3 s3 d3 => ?_
  have S3 := S2.trans s3
  walk_at "rd"
  have X3 : Same H3 H3 := Same.refl _
  have X2 := s3.trans X3
  have X1 := s2.trans X2
  refine z_tpd (K := K) (H0 := H) (Fr.same S3) (.cons (.str _) <| .cons (Dp.mono (nw_same S0 X1) d1) <| .cons (Dp.mono (nw_same S1 X2) d2) <| .cons (Dp.mono (nw_same S2 X3) d3) <| .nil) (by show 4 ≤ 100000; omega) fun H9 u9 s9 d9 => ?_
  exact k H9 u9 (S3.trans s9) d9
theorem rp_LetTerm {H : Hp} {t : T} {v : V} (hc : clsT t = "LetTerm") (r : RepT K H t v) : ∃ n0 t1 t2, t = (.lt n0 t1 t2) := by
  cases t <;> first | exact ⟨_, _, _, rfl⟩ | (exact absurd hc (by simp only [clsT]; decide +kernel))
theorem sc_LetTerm_plain : FnScope ["self"] ["self"] (defScope s_LetTerm_plain) := ⟨rfl, rfl, rfl, by decide +kernel, rfl, by decide +kernel, by decide +kernel⟩
theorem okm_LetTerm_plain (T : Tx K mg) {n : Nat} (IH : ∀ m, m < n → PlOk P w K mg base m) : CalM P w K mg base CX0 (3*n+1) (He.ga K "LetTerm") "plain" ["self"] (spPl K n "LetTerm") := by
  obtain ⟨fd, F⟩ := T.f_LetTerm_plain
  refine cal_meth F T.m_LetTerm_plain T.cls_LetTerm sc_LetTerm_plain (fun _ _ _ _ _ _ us hl => match us, hl with | [_], _ => rfl) (by walk_at "ln") (fun cdv A outer s H vs Q E hr h => ?_)
  obtain ⟨t, v, rfl, hc, hd, hz, r, k⟩ := h
  obtain ⟨n0, t1, t2, rfl⟩ := rp_LetTerm hc r
  have hn : n - 1 < n := by rw [EH.T.depth] at hd; omega
  generalize hm0 : n - 1 = m at hn
  have hm := hn
  have hdm : EH.T.depth (.lt n0 t1 t2) ≤ m + 1 := by omega
  refine ⟨_, (pss_one (ps_ret (pe_tup (pa_cons pe_str (pa_cons (pe_fld (pv 0) rfl) (pa_cons (PE.ex fun c : {c // c ∈ tcls} => (pe_calm0 (pe_fld (pv 0) rfl) ((IH _ hm) c.1 c.2) (hr.mono (by omega)) pass0)) (pa_cons (PE.ex fun c : {c // c ∈ tcls} => (pe_calm0 (pe_fld (pv 0) rfl) ((IH _ hm) c.1 c.2) (hr.mono (by omega)) pass0)) pa_nil))))))), ?_⟩
  obtain ⟨fs, v1, v2, ⟨a, dx, rfl, ha, hh, hmn, hp, hdp⟩, e0, e1, r1, e2, r2⟩ := id r
  clear r
  rw [EH.T.size] at hz
  rw [EH.T.depth] at hdm
  walk_at "rd"
  have S0 := Same.refl H
  refine z_fldr (S0 _ _ ha) T.cls_LetTerm T.no_LetTerm_called e0 ?_
  walk_at "rd"
  refine ⟨⟨clsT t1, cls_in t1⟩, ?_⟩
  walk_at "rd"
  refine z_fldr (S0 _ _ ha) T.cls_LetTerm T.no_LetTerm_one e1 ?_
  refine z_pl (rep_mono S0 _ _ r1) (by omega) (by omega) fun H1 u1 s1 d1 => ?_
  have S1 := S0.trans s1
  walk_at "rd"
  refine ⟨⟨clsT t2, cls_in t2⟩, ?_⟩
  walk_at "rd"
  refine z_fldr (S1 _ _ ha) T.cls_LetTerm T.no_LetTerm_other e2 ?_
  refine z_pl (rep_mono S1 _ _ r2) (by omega) (by omega) fun H2 u2 s2 d2 => ?_
  have S2 := S1.trans s2
  walk_at "rd"
  have X2 : Same H2 H2 := Same.refl _
  have X1 := s2.trans X2
  refine z_tpd (K := K) (H0 := H) (Fr.same S2) (.cons (.str _) <| .cons (.str _) <| .cons (Dp.mono (nw_same S0 X1) d1) <| .cons (Dp.mono (nw_same S1 X2) d2) <| .nil) (by show 4 ≤ 100000; omega) fun H9 u9 s9 d9 => ?_
  exact k H9 u9 (S2.trans s9) d9
theorem rp_SetTerm {H : Hp} {t : T} {v : V} (hc : clsT t = "SetTerm") (r : RepT K H t v) : ∃ t0 n1 t2, t = (.st t0 n1 t2) := by
  cases t <;> first | exact ⟨_, _, _, rfl⟩ | (exact absurd hc (by simp only [clsT]; decide +kernel))
theorem sc_SetTerm_plain : FnScope ["self"] ["self"] (defScope s_SetTerm_plain) := ⟨rfl, rfl, rfl, by decide +kernel, rfl, by decide +kernel, by decide +kernel⟩
theorem okm_SetTerm_plain (T : Tx K mg) {n : Nat} (IH : ∀ m, m < n → PlOk P w K mg base m) : CalM P w K mg base CX0 (3*n+1) (He.ga K "SetTerm") "plain" ["self"] (spPl K n "SetTerm") := by
  obtain ⟨fd, F⟩ := T.f_SetTerm_plain
  refine cal_meth F T.m_SetTerm_plain T.cls_SetTerm sc_SetTerm_plain (fun _ _ _ _ _ _ us hl => match us, hl with | [_], _ => rfl) (by walk_at "ln") (fun cdv A outer s H vs Q E hr h => ?_)
  obtain ⟨t, v, rfl, hc, hd, hz, r, k⟩ := h
  obtain ⟨t0, n1, t2, rfl⟩ := rp_SetTerm hc r
  have hn : n - 1 < n := by rw [EH.T.depth] at hd; omega
  generalize hm0 : n - 1 = m at hn
  have hm := hn
  have hdm : EH.T.depth (.st t0 n1 t2) ≤ m + 1 := by omega
  refine ⟨_, (pss_one (ps_ret (pe_tup (pa_cons pe_str (pa_cons (PE.ex fun c : {c // c ∈ tcls} => (pe_calm0 (pe_fld (pv 0) rfl) ((IH _ hm) c.1 c.2) (hr.mono (by omega)) pass0)) (pa_cons (pe_fld (pv 0) rfl) (pa_cons (PE.ex fun c : {c // c ∈ tcls} => (pe_calm0 (pe_fld (pv 0) rfl) ((IH _ hm) c.1 c.2) (hr.mono (by omega)) pass0)) pa_nil))))))), ?_⟩
  obtain ⟨fs, v0, v2, ⟨a, dx, rfl, ha, hh, hmn, hp, hdp⟩, e0, r0, e1, e2, r2⟩ := id r
  clear r
  rw [EH.T.size] at hz
  rw [EH.T.depth] at hdm
  walk_at "rd"
  have S0 := Same.refl H
  refine ⟨⟨clsT t0, cls_in t0⟩, ?_⟩
  walk_at "rd"
  refine z_fldr (S0 _ _ ha) T.cls_SetTerm T.no_SetTerm_thing e0 ?_
  refine z_pl (rep_mono S0 _ _ r0) (by omega) (by omega) fun H1 u1 s1 d1 => ?_
  have S1 := S0.trans s1
  walk_at "rd"
  refine z_fldr (S1 _ _ ha) T.cls_SetTerm T.no_SetTerm_called e1 ?_
  walk_at "rd"
  refine ⟨⟨clsT t2, cls_in t2⟩, ?_⟩
  walk_at "rd"
  refine z_fldr (S1 _ _ ha) T.cls_SetTerm T.no_SetTerm_other e2 ?_
  refine z_pl (rep_mono S1 _ _ r2) (by omega) (by omega) fun H2 u2 s2 d2 => ?_
  have S2 := S1.trans s2
  walk_at "rd"
  have X2 : Same H2 H2 := Same.refl _
  have X1 := s2.trans X2
  refine z_tpd (K := K) (H0 := H) (Fr.same S2) (.cons (.str _) <| .cons (Dp.mono (nw_same S0 X1) d1) <| .cons (.str _) <| .cons (Dp.mono (nw_same S1 X2) d2) <| .nil) (by show 4 ≤ 100000; omega) fun H9 u9 s9 d9 => ?_
  exact k H9 u9 (S2.trans s9) d9
theorem pl_ok (T : Tx K mg) : ∀ n, PlOk P w K mg base n := by
  intro n
  induction n using Nat.strongRecOn with
  | ind n IH =>
    intro c hc
    simp only [tcls, List.mem_cons, List.not_mem_nil, or_false] at hc
    rcases hc with rfl | rfl | rfl | rfl | rfl | rfl | rfl | rfl | rfl | rfl | rfl | rfl | rfl
    · exact okm_NumberTerm_plain T IH
    · exact okm_TruthTerm_plain T IH
    · exact okm_NameTerm_plain T IH
    · exact okm_SelfTerm_plain T IH
    · exact okm_NewTerm_plain T IH
    · exact okm_ElderTerm_plain T IH
    · exact okm_FieldTerm_plain T IH
    · exact okm_CallTerm_plain T IH
    · exact okm_NotTerm_plain T IH
    · exact okm_TwoTerm_plain T IH
    · exact okm_IfTerm_plain T IH
    · exact okm_LetTerm_plain T IH
    · exact okm_SetTerm_plain T IH
/-- depth -/
def spDepth (K : PySem.W.Frag) (c : Str) : Sp := fun vs H Q _ => ∃ (t : T) (v : V), vs = [v] ∧ clsT t = c ∧ RepT K H t v ∧ Q (.int (t.depth : Nat)) H
theorem sc_Term_depth : FnScope ["self"] ["self"] (defScope s_Term_depth) := ⟨rfl, rfl, rfl, by decide +kernel, rfl, by decide +kernel, by decide +kernel⟩
theorem dep_ok (T : Tx K mg) : ∀ c ∈ tcls, CalM P w K mg base CX0 1 (He.ga K c) "depth" ["self"] (spDepth K c) := by
  intro c hc
  have hsame : He.ma K (He.ga K c) "depth" = He.ma K (He.ga K "Term") "depth" := by
    have h := T.more
    unfold exK exA at h
    simp only [Bool.and_eq_true] at h
    exact of_decide_eq_true (List.all_eq_true.mp h.1.2.2 c hc)
  have hm : Meth K (He.ga K c) "depth" (He.ma K (He.ga K c) "depth") ∧ NoAttr K (He.ga K c) "height" ∧ Cls K (He.ga K c) := by
    simp only [tcls, List.mem_cons, List.not_mem_nil, or_false] at hc
    rcases hc with rfl | rfl | rfl | rfl | rfl | rfl | rfl | rfl | rfl | rfl | rfl | rfl | rfl
    · exact ⟨T.m_NumberTerm_depth, T.no_NumberTerm_height, T.cls_NumberTerm⟩
    · exact ⟨T.m_TruthTerm_depth, T.no_TruthTerm_height, T.cls_TruthTerm⟩
    · exact ⟨T.m_NameTerm_depth, T.no_NameTerm_height, T.cls_NameTerm⟩
    · exact ⟨T.m_SelfTerm_depth, T.no_SelfTerm_height, T.cls_SelfTerm⟩
    · exact ⟨T.m_NewTerm_depth, T.no_NewTerm_height, T.cls_NewTerm⟩
    · exact ⟨T.m_ElderTerm_depth, T.no_ElderTerm_height, T.cls_ElderTerm⟩
    · exact ⟨T.m_FieldTerm_depth, T.no_FieldTerm_height, T.cls_FieldTerm⟩
    · exact ⟨T.m_CallTerm_depth, T.no_CallTerm_height, T.cls_CallTerm⟩
    · exact ⟨T.m_NotTerm_depth, T.no_NotTerm_height, T.cls_NotTerm⟩
    · exact ⟨T.m_TwoTerm_depth, T.no_TwoTerm_height, T.cls_TwoTerm⟩
    · exact ⟨T.m_IfTerm_depth, T.no_IfTerm_height, T.cls_IfTerm⟩
    · exact ⟨T.m_LetTerm_depth, T.no_LetTerm_height, T.cls_LetTerm⟩
    · exact ⟨T.m_SetTerm_depth, T.no_SetTerm_height, T.cls_SetTerm⟩
  obtain ⟨fd, F⟩ := T.f_Term_depth
  rw [← hsame] at F
  refine cal_meth F hm.1 hm.2.2 sc_Term_depth (fun _ _ _ _ _ _ us hl => match us, hl with | [_], _ => rfl) (by walk_at "ln") (fun cdv A outer s H vs Q E hr h => ?_)
  obtain ⟨t, v, rfl, ht, r, k⟩ := h
  refine ⟨_, (pss_one (ps_ret (pe_fld (pv 0) rfl))), ?_⟩
  obtain ⟨fs, a, dx, rfl, ha, hh, _, _, _⟩ := rep_hm r
  rw [ht] at ha
  walk_at "rd"
  refine z_fldr ha hm.2.2 hm.2.1 hh ?_
  exact k
/-- built: a term is counted -/
def spBuilt (K : PySem.W.Frag) : Sp := fun vs H Q _ => ∃ (p r : Addr) (t : T) (v : V) (l : List Str) (op md : Int), vs = [.ref p, v] ∧ md + 1 ≤ 400 ∧ t.depth ≤ 14 ∧ SrcOk K H p r ⟨l, op, md⟩ ∧ RepT K (cut p H) t v ∧ ∀ H', SrcOk K H' p r ⟨l, op, md + 1⟩ → Off p H H' → Q v H'
theorem sc_Source_built : FnScope ["self", "term"] ["self", "term"] (defScope s_Source_built) := ⟨rfl, rfl, rfl, by decide +kernel, rfl, by decide +kernel, by decide +kernel⟩
theorem okm_built (T : Tx K mg) : CalM P w K mg base CX0 2 (He.ga K "Source") "built" ["self", "term"] (spBuilt K) := by
  obtain ⟨fd, F⟩ := T.f_Source_built
  refine cal_meth F T.m_Source_built T.cls_Source sc_Source_built (fun _ _ _ _ _ _ us hl => match us, hl with | [_, _], _ => rfl) (by walk_at "ln") (fun cdv A outer s H vs Q E hr h => ?_)
  obtain ⟨p, rr, t, v, l, op, md, rfl, hm, hd, S0, r, k⟩ := h
  refine ⟨_, (pss_cons (ps_fldaug (pv 0) pe_int in_add)
    (pss_cons (ps_if (PW.pt (pw_or (pt_cmpR op_gt (pe_fld (pv 0) rfl) (pe_gi T.c_MOST_TERMS) (nomark _)) (pw_or1 (pt_cmpR op_gt (PE.ex fun c : {c // c ∈ tcls} => (pe_calm0 (pv 1) ((dep_ok T) c.1 c.2) (hr.mono (by decide)) pass0)) (pe_gi T.c_MOST_DEEP) (nomark _))))) (pss_one ps_never) pss_nil)
    (pss_one (ps_ret (pv 1))))), ?_⟩
  obtain ⟨row, dx, j, S⟩ := id S0
  walk_at "rd"
  refine z_src T S T.no_Source_made (sl_made ..) ?_
  walk_at "rd"
  refine z_at S ?_
  walk_at "rd"
  rw [sp_made]
  have S' := S.put (s' := ⟨l, op, md + 1⟩) S.le S.ts
  refine z_made T S' ?_
  walk_at "rd"
  refine ifD (fun c => absurd c (by show ¬ (400 : Int) < md + 1; omega)) (fun _ => ?_)
  refine ⟨⟨clsT t, cls_in t⟩, ?_⟩
  walk_at "rd"
  have r' : RepT K (upd H p (.ins (He.ga K "Source") dx (srcF rr j op (md + 1)))) t v := rep_mono ((Off.upd p H _).sub) _ _ r
  obtain ⟨fs, a, dx', rfl, ha, hh, _, _, hq⟩ := rep_hm r'
  refine z_methr ha hq ?_
  walk_at "rd"
  refine ⟨t, _, rfl, rfl, r', ?_⟩
  walk_at "rd"
  refine ⟨_, rfl, ?_⟩
  refine ifD (fun c => absurd c (by show ¬ (14 : Int) < (t.depth : Int); omega)) (fun _ => ?_)
  walk_at "rd"
  exact k _ ⟨_, _, _, S'⟩ (Off.upd _ _ _)
end
end EH

set_option Elab.async false
set_option maxRecDepth 100000
set_option maxHeartbeats 4000000
set_option linter.unusedVariables false

/-! Steps of the reader: the source's methods, the classes called. Printed by mkw6.py. -/
namespace EH
open PySem PySem.Spec PyProof.Rows L2 TL
/-! ### a list of objects against the empty list -/
section
variable {X : Cx}
def rNeE (K : PySem.W.Frag) : R2 := fun x y H Q => ∃ a b xs, x = .ref a ∧ y = .ref b ∧ SqL K H a xs ∧ SqL K H b [] ∧ Q (.bl (decide (xs ≠ []))) H
theorem op_neE (hu : X.A.units + 64 < cLine) : OpR X (compareOp .NotEq) (rNeE X.K) := by
  intro pins s σ H x y v u Q I rx ry h
  obtain ⟨a, b, xs, rfl, rfl, ha, hb, q⟩ := h
  obtain rfl : v = Value.ref a := rx
  obtain rfl : u = Value.ref b := ry
  obtain ⟨its, rv, hl, _⟩ := I.list ha
  obtain ⟨its2, rv2, hl2, _⟩ := I.list hb
  have e2 : its2 = [] := by cases rv2; rfl
  subst e2
  have hn := Paired.length rv
  cases xs with
  | nil =>
    have e1 : its = [] := by cases rv; rfl
    subst e1
    exact SeqAt.RcNeAt.lists (e := fun _ => true) hl.isList hl2.isList rfl (by omega) (fun j h1 _ => absurd h1 (by simp)) _ _ _ _ ⟨.bl _, H, I, rfl, q⟩
  | cons z zs =>
    refine SeqAt.RcNeAt.lists_lengths hl.isList hl2.isList ?_ (by omega) _ _ _ _ ⟨.bl _, H, I, rfl, q⟩
    rw [List.size_toArray, ← hn]
    rfl
end
local macro_rules | `(tactic| walk_at "rd1") => `(tactic| (first
  | with_reducible refine z_seq ?_ | with_reducible refine z_ifs ?_ | with_reducible refine z_next ?_ | with_reducible refine z_ret ?_ | with_reducible refine z_asg ?_ | with_reducible refine z_gname ?_
  | ((with_reducible apply z_var); exact rfl) | with_reducible refine z_c ?_ | with_reducible refine z_op ?_ | with_reducible refine z_bl ?_ | with_reducible refine z_test ?_ | with_reducible refine z_B ?_
  | with_reducible refine z_nil ?_ | with_reducible refine z_cons ?_ | with_reducible refine z_cb ?_ | with_reducible refine z_call ?_ | with_reducible refine iteT ?_ | with_reducible refine iteF ?_
  | with_reducible refine z_or ?_ | with_reducible refine z_and ?_ | with_reducible refine z_not ?_ | with_reducible refine z_orv ?_ | with_reducible refine z_andv ?_ | with_reducible refine z_notv ?_ | with_reducible refine z_un ?_
  | with_reducible refine z_eqS ?_ | with_reducible refine z_neS ?_ | with_reducible refine z_eqI ?_ | with_reducible refine z_neI ?_ | with_reducible refine z_i0 ?_ | with_reducible refine z_radd ?_ | with_reducible refine z_rsub ?_ | with_reducible refine z_iu ?_
  | with_reducible refine z_fld ?_ | with_reducible refine z_meth ?_ | with_reducible refine z_sfld ?_ | with_reducible refine z_flda ?_ | with_reducible refine z_make ?_ | with_reducible refine z_drop ?_ | with_reducible refine z_retn ?_ | with_reducible refine z_cont ?_
  | with_reducible refine z_tup ?_ | with_reducible refine z_lst ?_ | with_reducible refine z_slice ?_ | with_reducible refine z_nopart ?_ | with_reducible refine z_part ?_ | with_reducible refine z_intr ?_ | with_reducible refine z_m1 ?_ | with_reducible refine z_lc ?_ | with_reducible refine z_yes ?_ | with_reducible refine z_il ?_ | with_reducible refine z_it ?_ | with_reducible refine z_bm ?_ | with_reducible refine z_for ?_ | with_reducible refine z_gcons ?_ | with_reducible refine z_gnil ?_))
local macro_rules | `(tactic| walk_at "rd") => `(tactic| repeat (walk_at "rd1"))
local macro_rules | `(tactic| walk_at "no") => `(tactic| repeat (first | refine ifF (bSf (by decide +kernel)) ?_ | refine ifF (bSf num_ne) ?_ | (walk_at "rd1")))
local macro_rules | `(tactic| walk_at "ln") => `(tactic| (rintro vs H Q E h; repeat (first | (obtain ⟨e, _⟩ := h; subst e; rfl) | (obtain ⟨_, h⟩ := h))))
section
variable {P : Program} {w : World} {K : PySem.W.Frag} {mg : Str → Option Value} {base : Heap}
theorem z_neE {H : Hp} {Q : VK} {a b : Addr} {xs : List V} (ha : SqL K H a xs) (hb : SqL K H b []) (q : Q (.bl (decide (xs ≠ []))) H) : rNeE K (.ref a) (.ref b) H Q := ⟨a, b, xs, rfl, rfl, ha, hb, q⟩
/-! ### the source on its way -/
def Go (K : PySem.W.Frag) (p r : Addr) (H Hc : Hp) (s : Src) : Prop := SrcOk K Hc p r s ∧ Off p H Hc
section
variable {p r : Addr} {H Hc H1 H2 H3 : Hp} {s s' : Src} {op md : Int} {l : List Str} {x : Str} {Q : VK} {E : XK} {σ : L2.St}
theorem SrcOk.at (S : SrcOk K H p r s) : ∃ u, H p = some u := by
  obtain ⟨row, dx, k, S⟩ := S
  exact ⟨_, S.ob⟩
theorem SrcOk.atr (S : SrcOk K H p r s) : ∃ u, H r = some u := by
  obtain ⟨row, dx, k, S⟩ := S
  exact ⟨_, S.rw⟩
theorem Go.start (S : SrcOk K H p r s) : Go K p r H H s := ⟨S, Off.refl _ _⟩
theorem Go.fr (G : Go K p r H Hc s) : Fr H Hc := by
  obtain ⟨u, h⟩ := G.1.at
  exact G.2.fr h
/-- what is new stays when the source goes on -/
theorem nwO {u : HO} (f : Fr H H1) (hp : H1 p = some u) (o : Off p H2 H3) : Same (nw H1 H2) (nw H H3) := nw_mono f fun b w hb e => o.at (fun z => by rw [z, hp] at hb; cases hb) e
theorem Go.next (G : Go K p r H Hc s) (S0 : SrcOk K H p r s0) (S : SrcOk K H1 p r s') (o : Off p Hc H1) : Go K p r H H1 s' ∧ Same (nw H Hc) (nw H H1) := by
  obtain ⟨u, h⟩ := S0.at
  exact ⟨⟨S, G.2.trans o⟩, nwO Fr.refl h o⟩
/-- a callee's new things -/
theorem Go.new (G : Go K p r H Hc s) (G1 : Go K p r Hc H1 s') : Same (nw Hc H1) (nw H H1) := by
  obtain ⟨u, h⟩ := G.1.at
  exact nwO G.fr h (Off.refl _ _)
theorem Go.same (G : Go K p r H Hc s) (h : Same Hc H1) : Go K p r H H1 s ∧ Same (nw H Hc) (nw H H1) := ⟨⟨G.1.same h, G.2.trans (Off.same h)⟩, nw_mono Fr.refl fun b o _ e => h b o e⟩
/-- a new list changed -/
theorem Go.app {F : Addr} {o : HO} (G : Go K p r H Hc s) (S0 : SrcOk K H p r s0) (hF : H F = none) : Go K p r H (upd Hc F o) s ∧ Same (cut F (nw H Hc)) (cut F (nw H (upd Hc F o))) := by
  obtain ⟨u, hp⟩ := S0.at
  obtain ⟨v, hr⟩ := S0.atr
  have np : p ≠ F := fun z => by rw [z, hF] at hp; cases hp
  have nr : r ≠ F := fun z => by rw [z, hF] at hr; cases hr
  obtain ⟨⟨row, dx, k, S⟩, O⟩ := G
  refine ⟨⟨⟨row, dx, k, ⟨by rw [upd_ne np]; exact S.ob, by rw [upd_ne nr]; exact S.rw, S.le, S.ts, S.lg⟩⟩, Off.of fun b w hb e => ?_⟩, fun b w e => ?_⟩
  · have nb : b ≠ F := fun z => by rw [z, hF] at e; cases e
    rw [upd_ne nb]
    exact O.at hb e
  · obtain ⟨n, e⟩ := cut_at e
    obtain ⟨e1, e2⟩ := nw_at e
    exact cut_of (nw_of e1 (by rw [upd_ne n]; exact e2)) n
/-! ### the methods -/
theorem z_sm {m : Str} {sp : Sp} {dvs : List V} {tA : TA} (S : SrcOk K H p r s) (hl : ∀ r k op md, (srcF r k op md).lookup m = none) (h : tA σ H fun vs H2 => sp (.ref p :: (vs ++ dvs)) H2 Q E) : MethR (He.ga K "Source") m sp dvs E tA σ (.ref p) H Q := by
  obtain ⟨row, dx, k, S⟩ := S
  exact z_methr S.ob (hl ..) h
theorem z_now (G : Go K p r H Hc s) (h : Q (.str s.now) Hc) : MethR (He.ga K "Source") "now" (spNow K) [] E tNil σ (.ref p) Hc Q :=
  z_sm G.1 sl_now ⟨p, r, s, rfl, G.1, h⟩
theorem z_take (S0 : SrcOk K H p r s0) (G : Go K p r H Hc ⟨x :: l, op, md⟩) (h : ∀ H', Go K p r H H' ⟨l, op, md⟩ → SrcBk K H' p r x l op md → Same (nw H Hc) (nw H H') → Q (.str x) H') : MethR (He.ga K "Source") "take" (spTake K) [] E tNil σ (.ref p) Hc Q :=
  z_sm G.1 sl_take ⟨p, r, x, l, op, md, rfl, G.1, fun H' a b c => let ⟨g, e⟩ := G.next S0 a c; h H' g b e⟩
theorem z_need (S0 : SrcOk K H p r s0) (G : Go K p r H Hc ⟨x :: l, op, md⟩) (h : ∀ H', Go K p r H H' ⟨l, op, md⟩ → Same (nw H Hc) (nw H H') → Q .non H') : MethR (He.ga K "Source") "need" (spNeed K) [] E (tCons (tC (.str x)) tNil) σ (.ref p) Hc Q :=
  z_sm G.1 sl_need ⟨p, r, x, l, op, md, rfl, G.1, fun H' a c => let ⟨g, e⟩ := G.next S0 a c; h H' g e⟩
theorem z_nname (S0 : SrcOk K H p r s0) (G : Go K p r H Hc ⟨x :: l, op, md⟩) (hx : isName x = true) (h : ∀ H', Go K p r H H' ⟨l, op, md⟩ → Same (nw H Hc) (nw H H') → Q (.str x) H') : MethR (He.ga K "Source") "need_name" (spNeedName K) [] E tNil σ (.ref p) Hc Q :=
  z_sm G.1 sl_need_name ⟨p, r, x, l, op, md, rfl, hx, G.1, fun H' a c => let ⟨g, e⟩ := G.next S0 a c; h H' g e⟩
theorem z_nkind (S0 : SrcOk K H p r s0) (G : Go K p r H Hc ⟨x :: l, op, md⟩) (hx : kindOk x = true) (h : ∀ H', Go K p r H H' ⟨l, op, md⟩ → Same (nw H Hc) (nw H H') → Q (.str x) H') : MethR (He.ga K "Source") "need_kind" (spNeedKind K) [] E tNil σ (.ref p) Hc Q :=
  z_sm G.1 sl_need_kind ⟨p, r, x, l, op, md, rfl, hx, G.1, fun H' a c => let ⟨g, e⟩ := G.next S0 a c; h H' g e⟩
theorem z_opn (S0 : SrcOk K H p r s0) (G : Go K p r H Hc ⟨("(" : Str) :: l, op, md⟩) (ho : op + 1 ≤ 14) (h : ∀ H', Go K p r H H' ⟨l, op + 1, md⟩ → Same (nw H Hc) (nw H H') → Q .non H') : MethR (He.ga K "Source") "open_one" (spOpen K) [] E tNil σ (.ref p) Hc Q :=
  z_sm G.1 sl_open_one ⟨p, r, l, op, md, rfl, ho, G.1, fun H' a c => let ⟨g, e⟩ := G.next S0 a c; h H' g e⟩
theorem z_cls (S0 : SrcOk K H p r s0) (G : Go K p r H Hc ⟨(")" : Str) :: l, op, md⟩) (h : ∀ H', Go K p r H H' ⟨l, op - 1, md⟩ → Same (nw H Hc) (nw H H') → Q .non H') : MethR (He.ga K "Source") "close_one" (spClose K) [] E tNil σ (.ref p) Hc Q :=
  z_sm G.1 sl_close_one ⟨p, r, l, op, md, rfl, G.1, fun H' a c => let ⟨g, e⟩ := G.next S0 a c; h H' g e⟩
/-- built, its argument worked out by tA -/
theorem z_built {tA : TA} (S : SrcOk K Hc p r s0) (h : tA σ Hc fun vs H2 => spBuilt K (.ref p :: (vs ++ [])) H2 Q E) : MethR (He.ga K "Source") "built" (spBuilt K) [] E tA σ (.ref p) Hc Q := z_sm S sl_built h
theorem z_bu {t : T} {v : V} (S0 : SrcOk K H p r s0) (G : Go K p r H Hc s) (b : bu t s s') (rp : RepT K (nw H Hc) t v) (h : ∀ H', Go K p r H H' s' → Same (nw H Hc) (nw H H') → RepT K (nw H H') t v → Q v H') : spBuilt K [.ref p, v] Hc Q E := by
  obtain ⟨b1, b2, rfl⟩ := b
  obtain ⟨l, op, md⟩ := s
  obtain ⟨u, hp⟩ := S0.at
  refine ⟨p, r, t, v, l, op, md, rfl, b1, b2, G.1, rep_mono (fun b w e => ?_) _ _ rp, fun H' a c => ?_⟩
  · obtain ⟨e1, e2⟩ := nw_at e
    exact cut_of e2 (fun z => by rw [z, hp] at e1; cases e1)
  · obtain ⟨g, e⟩ := G.next S0 a c
    exact h H' g e (rep_mono e _ _ rp)
end
/-! ### the classes -/
section
variable {H0 Hc : Hp} {Q : VK} {E : XK}
theorem mk_same {x dx : Addr} {o1 o2 : HO} (hx : Hc x = none) (hdx : Hc dx = none) (n : dx ≠ x) : Same Hc (cut x (upd (upd Hc dx o1) x o2)) := fun b o e => by
  have n1 : b ≠ x := fun z => by rw [z, hx] at e; cases e
  have n2 : b ≠ dx := fun z => by rw [z, hdx] at e; cases e
  exact cut_of (by rw [upd_ne n1, upd_ne n2]; exact e) n1
theorem mk_nw {x dx : Addr} {o1 o2 : HO} (hx : Hc x = none) (hdx : Hc dx = none) (n : dx ≠ x) : Same (nw H0 Hc) (cut x (nw H0 (upd (upd Hc dx o1) x o2))) := fun b o e => by
  obtain ⟨e1, e2⟩ := nw_at e
  obtain ⟨n1, e3⟩ := cut_at (mk_same (o1 := o1) (o2 := o2) hx hdx n b o e2)
  exact cut_of (nw_of e1 e3) n1
theorem mk_off {x dx : Addr} {o1 o2 : HO} {H' : Hp} (hx : Hc x = none) (hdx : Hc dx = none) (n : dx ≠ x) (o : Off x (upd (upd Hc dx o1) x o2) H') : Same Hc H' := (mk_same hx hdx n).trans (o.sub)

theorem z_mkNumberTerm {n0 : Nat} (f : Fr H0 Hc)  (k : ∀ H' v, Same Hc H' → RepT K (nw H0 H') (.num n0) v → Q v H') : MakeR (He.ga K "NumberTerm") (spINumberTerm K) [] E [.int n0] Hc Q := fun x dx hx hdx nd =>
  ⟨H0, x, dx, n0, rfl, f.trans (Fr.same ((mk_same hx hdx nd).trans (cut_same x _))), f x hx, upd_same, fun H' o q => ⟨rfl, k H' _ (mk_off hx hdx nd o) q⟩⟩
theorem z_mkTruthTerm {n0 : Bool} (f : Fr H0 Hc)  (k : ∀ H' v, Same Hc H' → RepT K (nw H0 H') (.tru n0) v → Q v H') : MakeR (He.ga K "TruthTerm") (spITruthTerm K) [] E [.bl n0] Hc Q := fun x dx hx hdx nd =>
  ⟨H0, x, dx, n0, rfl, f.trans (Fr.same ((mk_same hx hdx nd).trans (cut_same x _))), f x hx, upd_same, fun H' o q => ⟨rfl, k H' _ (mk_off hx hdx nd o) q⟩⟩
theorem z_mkNameTerm {n0 : Str} (f : Fr H0 Hc)  (k : ∀ H' v, Same Hc H' → RepT K (nw H0 H') (.nam n0) v → Q v H') : MakeR (He.ga K "NameTerm") (spINameTerm K) [] E [.str n0] Hc Q := fun x dx hx hdx nd =>
  ⟨H0, x, dx, n0, rfl, f.trans (Fr.same ((mk_same hx hdx nd).trans (cut_same x _))), f x hx, upd_same, fun H' o q => ⟨rfl, k H' _ (mk_off hx hdx nd o) q⟩⟩
theorem z_mkSelfTerm  (f : Fr H0 Hc)  (k : ∀ H' v, Same Hc H' → RepT K (nw H0 H') .slf v → Q v H') : MakeR (He.ga K "SelfTerm") (spISelfTerm K) [] E [] Hc Q := fun x dx hx hdx nd =>
  ⟨H0, x, dx, rfl, f.trans (Fr.same ((mk_same hx hdx nd).trans (cut_same x _))), f x hx, upd_same, fun H' o q => ⟨rfl, k H' _ (mk_off hx hdx nd o) q⟩⟩
theorem z_mkNewTerm {n0 : Str} {g1 : Addr} {ts1 : List T} {us1 : List V} (f : Fr H0 Hc) (q1 : SqL K Hc g1 us1) (r1 : RepL K (nw H0 Hc) ts1 us1) (l1 : ts1.length ≤ 8) (k : ∀ H' v, Same Hc H' → RepT K (nw H0 H') (.new n0 ts1) v → Q v H') : MakeR (He.ga K "NewTerm") (spINewTerm K) [] E [.str n0, .ref g1] Hc Q := fun x dx hx hdx nd =>
  ⟨H0, x, dx, n0, g1, ts1, us1, rfl, f.trans (Fr.same ((mk_same hx hdx nd).trans (cut_same x _))), f x hx, upd_same, Same.seq (mk_same hx hdx nd) q1, repL_mono (mk_nw hx hdx nd) _ _ r1, l1, fun H' o q => ⟨rfl, k H' _ (mk_off hx hdx nd o) q⟩⟩
theorem z_mkElderTerm {n0 : Str} {g1 : Addr} {ts1 : List T} {us1 : List V} (f : Fr H0 Hc) (q1 : SqL K Hc g1 us1) (r1 : RepL K (nw H0 Hc) ts1 us1) (l1 : ts1.length ≤ 8) (k : ∀ H' v, Same Hc H' → RepT K (nw H0 H') (.eld n0 ts1) v → Q v H') : MakeR (He.ga K "ElderTerm") (spIElderTerm K) [] E [.str n0, .ref g1] Hc Q := fun x dx hx hdx nd =>
  ⟨H0, x, dx, n0, g1, ts1, us1, rfl, f.trans (Fr.same ((mk_same hx hdx nd).trans (cut_same x _))), f x hx, upd_same, Same.seq (mk_same hx hdx nd) q1, repL_mono (mk_nw hx hdx nd) _ _ r1, l1, fun H' o q => ⟨rfl, k H' _ (mk_off hx hdx nd o) q⟩⟩
theorem z_mkFieldTerm {t0 : T} {v0 : V} {n1 : Str} (f : Fr H0 Hc) (r0 : RepT K (nw H0 Hc) t0 v0) (k : ∀ H' v, Same Hc H' → RepT K (nw H0 H') (.fld t0 n1) v → Q v H') : MakeR (He.ga K "FieldTerm") (spIFieldTerm K) [] E [v0, .str n1] Hc Q := fun x dx hx hdx nd =>
  ⟨H0, x, dx, t0, v0, n1, rfl, f.trans (Fr.same ((mk_same hx hdx nd).trans (cut_same x _))), f x hx, upd_same, rep_mono (mk_nw hx hdx nd) _ _ r0, fun H' o q => ⟨rfl, k H' _ (mk_off hx hdx nd o) q⟩⟩
theorem z_mkCallTerm {t0 : T} {v0 : V} {n1 : Str} {g2 : Addr} {ts2 : List T} {us2 : List V} (f : Fr H0 Hc) (r0 : RepT K (nw H0 Hc) t0 v0) (q2 : SqL K Hc g2 us2) (r2 : RepL K (nw H0 Hc) ts2 us2) (l2 : ts2.length ≤ 8) (k : ∀ H' v, Same Hc H' → RepT K (nw H0 H') (.cal t0 n1 ts2) v → Q v H') : MakeR (He.ga K "CallTerm") (spICallTerm K) [] E [v0, .str n1, .ref g2] Hc Q := fun x dx hx hdx nd =>
  ⟨H0, x, dx, t0, v0, n1, g2, ts2, us2, rfl, f.trans (Fr.same ((mk_same hx hdx nd).trans (cut_same x _))), f x hx, upd_same, rep_mono (mk_nw hx hdx nd) _ _ r0, Same.seq (mk_same hx hdx nd) q2, repL_mono (mk_nw hx hdx nd) _ _ r2, l2, fun H' o q => ⟨rfl, k H' _ (mk_off hx hdx nd o) q⟩⟩
theorem z_mkNotTerm {t0 : T} {v0 : V} (f : Fr H0 Hc) (r0 : RepT K (nw H0 Hc) t0 v0) (k : ∀ H' v, Same Hc H' → RepT K (nw H0 H') (.nt t0) v → Q v H') : MakeR (He.ga K "NotTerm") (spINotTerm K) [] E [v0] Hc Q := fun x dx hx hdx nd =>
  ⟨H0, x, dx, t0, v0, rfl, f.trans (Fr.same ((mk_same hx hdx nd).trans (cut_same x _))), f x hx, upd_same, rep_mono (mk_nw hx hdx nd) _ _ r0, fun H' o q => ⟨rfl, k H' _ (mk_off hx hdx nd o) q⟩⟩
theorem z_mkTwoTerm {n0 : Str} {t1 : T} {v1 : V} {t2 : T} {v2 : V} (f : Fr H0 Hc) (r1 : RepT K (nw H0 Hc) t1 v1) (r2 : RepT K (nw H0 Hc) t2 v2) (k : ∀ H' v, Same Hc H' → RepT K (nw H0 H') (.two n0 t1 t2) v → Q v H') : MakeR (He.ga K "TwoTerm") (spITwoTerm K) [] E [.str n0, v1, v2] Hc Q := fun x dx hx hdx nd =>
  ⟨H0, x, dx, n0, t1, v1, t2, v2, rfl, f.trans (Fr.same ((mk_same hx hdx nd).trans (cut_same x _))), f x hx, upd_same, rep_mono (mk_nw hx hdx nd) _ _ r1, rep_mono (mk_nw hx hdx nd) _ _ r2, fun H' o q => ⟨rfl, k H' _ (mk_off hx hdx nd o) q⟩⟩
theorem z_mkIfTerm {t0 : T} {v0 : V} {t1 : T} {v1 : V} {t2 : T} {v2 : V} (f : Fr H0 Hc) (r0 : RepT K (nw H0 Hc) t0 v0) (r1 : RepT K (nw H0 Hc) t1 v1) (r2 : RepT K (nw H0 Hc) t2 v2) (k : ∀ H' v, Same Hc H' → RepT K (nw H0 H') (.ite t0 t1 t2) v → Q v H') : MakeR (He.ga K "IfTerm") (spIIfTerm K) [] E [v0, v1, v2] Hc Q := fun x dx hx hdx nd =>
  ⟨H0, x, dx, t0, v0, t1, v1, t2, v2, rfl, f.trans (Fr.same ((mk_same hx hdx nd).trans (cut_same x _))), f x hx, upd_same, rep_mono (mk_nw hx hdx nd) _ _ r0, rep_mono (mk_nw hx hdx nd) _ _ r1, rep_mono (mk_nw hx hdx nd) _ _ r2, fun H' o q => ⟨rfl, k H' _ (mk_off hx hdx nd o) q⟩⟩
theorem z_mkLetTerm {n0 : Str} {t1 : T} {v1 : V} {t2 : T} {v2 : V} (f : Fr H0 Hc) (r1 : RepT K (nw H0 Hc) t1 v1) (r2 : RepT K (nw H0 Hc) t2 v2) (k : ∀ H' v, Same Hc H' → RepT K (nw H0 H') (.lt n0 t1 t2) v → Q v H') : MakeR (He.ga K "LetTerm") (spILetTerm K) [] E [.str n0, v1, v2] Hc Q := fun x dx hx hdx nd =>
  ⟨H0, x, dx, n0, t1, v1, t2, v2, rfl, f.trans (Fr.same ((mk_same hx hdx nd).trans (cut_same x _))), f x hx, upd_same, rep_mono (mk_nw hx hdx nd) _ _ r1, rep_mono (mk_nw hx hdx nd) _ _ r2, fun H' o q => ⟨rfl, k H' _ (mk_off hx hdx nd o) q⟩⟩
theorem z_mkSetTerm {t0 : T} {v0 : V} {n1 : Str} {t2 : T} {v2 : V} (f : Fr H0 Hc) (r0 : RepT K (nw H0 Hc) t0 v0) (r2 : RepT K (nw H0 Hc) t2 v2) (k : ∀ H' v, Same Hc H' → RepT K (nw H0 H') (.st t0 n1 t2) v → Q v H') : MakeR (He.ga K "SetTerm") (spISetTerm K) [] E [v0, .str n1, v2] Hc Q := fun x dx hx hdx nd =>
  ⟨H0, x, dx, t0, v0, n1, t2, v2, rfl, f.trans (Fr.same ((mk_same hx hdx nd).trans (cut_same x _))), f x hx, upd_same, rep_mono (mk_nw hx hdx nd) _ _ r0, rep_mono (mk_nw hx hdx nd) _ _ r2, fun H' o q => ⟨rfl, k H' _ (mk_off hx hdx nd o) q⟩⟩
end
end
end EH

set_option Elab.async false
set_option maxRecDepth 100000
set_option maxHeartbeats 4000000
set_option linter.unusedVariables false

/-! The reader of terms. -/
namespace EH
open PySem PySem.Spec PyProof.Rows L2 TL
theorem given_len {rt : RT} {m : Nat} {acc out : List T} {s s' : Src} (h : GivenL rt m acc s out s') (ha : acc.length ≤ 8) : out.length ≤ 8 := by
  induction h with
  | stop _ => exact ha
  | one _ _ _ ih => exact ih (by show 1 ≤ 8; omega)
  | more _ _ hl _ ih => exact ih hl
local macro_rules | `(tactic| walk_at "rd1") => `(tactic| (first
  | with_reducible refine z_seq ?_ | with_reducible refine z_ifs ?_ | with_reducible refine z_next ?_ | with_reducible refine z_ret ?_ | with_reducible refine z_asg ?_ | with_reducible refine z_gname ?_
  | ((with_reducible apply z_var); exact rfl) | with_reducible refine z_c ?_ | with_reducible refine z_op ?_ | with_reducible refine z_bl ?_ | with_reducible refine z_test ?_ | with_reducible refine z_B ?_
  | with_reducible refine z_nil ?_ | with_reducible refine z_cons ?_ | with_reducible refine z_cb ?_ | with_reducible refine z_call ?_ | with_reducible refine iteT ?_ | with_reducible refine iteF ?_
  | with_reducible refine z_or ?_ | with_reducible refine z_and ?_ | with_reducible refine z_not ?_ | with_reducible refine z_orv ?_ | with_reducible refine z_andv ?_ | with_reducible refine z_notv ?_ | with_reducible refine z_un ?_
  | with_reducible refine z_eqS ?_ | with_reducible refine z_neS ?_ | with_reducible refine z_eqI ?_ | with_reducible refine z_neI ?_ | with_reducible refine z_i0 ?_ | with_reducible refine z_radd ?_ | with_reducible refine z_rsub ?_ | with_reducible refine z_iu ?_
  | with_reducible refine z_fld ?_ | with_reducible refine z_meth ?_ | with_reducible refine z_sfld ?_ | with_reducible refine z_flda ?_ | with_reducible refine z_make ?_ | with_reducible refine z_drop ?_ | with_reducible refine z_retn ?_ | with_reducible refine z_cont ?_
  | with_reducible refine z_tup ?_ | with_reducible refine z_lst ?_ | with_reducible refine z_slice ?_ | with_reducible refine z_nopart ?_ | with_reducible refine z_part ?_ | with_reducible refine z_intr ?_ | with_reducible refine z_m1 ?_ | with_reducible refine z_lc ?_ | with_reducible refine z_yes ?_ | with_reducible refine z_il ?_ | with_reducible refine z_it ?_ | with_reducible refine z_bm ?_ | with_reducible refine z_for ?_ | with_reducible refine z_gcons ?_ | with_reducible refine z_gnil ?_))
local macro_rules | `(tactic| walk_at "rd") => `(tactic| repeat (walk_at "rd1"))
local macro_rules | `(tactic| walk_at "no") => `(tactic| repeat (first | refine ifF (bSf (by decide +kernel)) ?_ | refine ifF (bSf num_ne) ?_ | (walk_at "rd1")))
local macro_rules | `(tactic| walk_at "ln") => `(tactic| (rintro vs H Q E h; repeat (first | (obtain ⟨e, _⟩ := h; subst e; rfl) | (obtain ⟨_, h⟩ := h))))
section
variable {P : Program} {w : World} {K : PySem.W.Frag} {mg : Str → Option Value} {base : Heap}
def spTerm (K : PySem.W.Frag) (n : Nat) : Sp := fun vs H Q _ => ∃ (p r : Addr) (i z j : Int) (least floor : Nat) (s s' : Src) (t : T), vs = [.ref p, .int i, .int z, .int j] ∧ i = (least : Int) ∧ j = (floor : Int) ∧ z + n = 32 ∧ Term n least floor s t s' ∧ SrcOk K H p r s ∧ ∀ H' v, Go K p r H H' s' → RepT K (nw H H') t v → Q v H'
def spAtom (K : PySem.W.Frag) (n : Nat) : Sp := fun vs H Q _ => ∃ (p r : Addr) (z : Int) (s s' : Src) (t : T), vs = [.ref p, .int z] ∧ z + n = 32 ∧ Atom (Term n) s t s' ∧ SrcOk K H p r s ∧ ∀ H' v, Go K p r H H' s' → RepT K (nw H H') t v → Q v H'
def spChain (K : PySem.W.Frag) (n : Nat) : Sp := fun vs H Q _ => ∃ (p r : Addr) (z : Int) (s s' : Src) (t : T), vs = [.ref p, .int z] ∧ z + n = 32 ∧ Chain (Term n) s t s' ∧ SrcOk K H p r s ∧ ∀ H' v, Go K p r H H' s' → RepT K (nw H H') t v → Q v H'
def spSet (K : PySem.W.Frag) (n : Nat) : Sp := fun vs H Q _ => ∃ (p r : Addr) (z : Int) (s s' : Src) (t : T), vs = [.ref p, .int z] ∧ z + n = 32 ∧ SetR (Term n) s t s' ∧ SrcOk K H p r s ∧ ∀ H' v, Go K p r H H' s' → RepT K (nw H H') t v → Q v H'
def spStart (K : PySem.W.Frag) (n : Nat) : Sp := fun vs H Q _ => ∃ (p r : Addr) (z : Int) (j : Int) (floor : Nat) (s s' : Src) (t : T), vs = [.ref p, .int z, .int j] ∧ j = (floor : Int) ∧ z + n = 32 ∧ Start (Term n) floor s t s' ∧ SrcOk K H p r s ∧ ∀ H' v, Go K p r H H' s' → RepT K (nw H H') t v → Q v H'
def spGiven (K : PySem.W.Frag) (n : Nat) : Sp := fun vs H Q _ => ∃ (p r : Addr) (z : Int) (s s' : Src) (ts : List T), vs = [.ref p, .int z] ∧ z + n = 32 ∧ Given (Term n) s ts s' ∧ SrcOk K H p r s ∧ ∀ H' g us, Go K p r H H' s' → SqL K H' g us → RepL K (nw H H') ts us → ts.length ≤ 8 → Q (.ref g) H'
def TermOk (P : Program) (w : World) (K : PySem.W.Frag) (mg : Str → Option Value) (base : Heap) (n : Nat) : Prop :=
  Cal P w K mg base CX0 (5 * n + 10) "read_term" ["source", "least", "nest", "floor"] [] (spTerm K n) ∧ Cal P w K mg base CX0 (5 * n + 10) "read_term" ["source", "least", "nest", "floor"] [.int 1] (spTerm K n)
section
variable {p r : Addr} {H Hc : Hp} {s0 s s' : Src} {Q : VK} {E : XK} {n least floor : Nat} {i j z : Int} {t : T}
theorem z_rt (S0 : SrcOk K H p r s0) (G : Go K p r H Hc s) (hz : z + n = 32) (hi : i = (least : Int)) (hj : j = (floor : Int)) (hT : Term n least floor s t s') (h : ∀ H' v, Go K p r H H' s' → Same (nw H Hc) (nw H H') → RepT K (nw H H') t v → Q v H') : spTerm K n [.ref p, .int i, .int z, .int j] Hc Q E :=
  ⟨p, r, i, z, j, least, floor, s, s', t, rfl, hi, hj, hz, hT, G.1, fun H' v g rp => let ⟨g', e⟩ := G.next S0 g.1 g.2; h H' v g' e (rep_mono (G.new g) _ _ rp)⟩
theorem z_rtF (S0 : SrcOk K H p r s0) (G : Go K p r H Hc s) (hz : z + n = 32) (hi : i = (least : Int)) (hj : j = (floor : Int)) (hT : Term n least floor s t s') (h : ∀ H' v, Go K p r H H' s' → Same (nw H Hc) (nw H H') → RepT K (nw Hc H') t v → Q v H') : spTerm K n [.ref p, .int i, .int z, .int j] Hc Q E :=
  ⟨p, r, i, z, j, least, floor, s, s', t, rfl, hi, hj, hz, hT, G.1, fun H' v g rp => let ⟨g', e⟩ := G.next S0 g.1 g.2; h H' v g' e rp⟩
theorem new_cut {F : Addr} {w : HO} {H' : Hp} (f : Fr H Hc) (hF : Hc F = some w) : Same (nw Hc H') (cut F (nw H H')) := fun b o e => by
  obtain ⟨e1, e2⟩ := nw_at e
  exact cut_of (nw_of (f b e1) e2) (fun z => by rw [z, hF] at e1; cases e1)
theorem z_rat (S0 : SrcOk K H p r s0) (G : Go K p r H Hc s) (hz : z + n = 32) (hT : Atom (Term n) s t s') (h : ∀ H' v, Go K p r H H' s' → Same (nw H Hc) (nw H H') → RepT K (nw H H') t v → Q v H') : spAtom K n [.ref p, .int z] Hc Q E :=
  ⟨p, r, z, s, s', t, rfl, hz, hT, G.1, fun H' v g rp => let ⟨g', e⟩ := G.next S0 g.1 g.2; h H' v g' e (rep_mono (G.new g) _ _ rp)⟩
theorem z_rch (S0 : SrcOk K H p r s0) (G : Go K p r H Hc s) (hz : z + n = 32) (hT : Chain (Term n) s t s') (h : ∀ H' v, Go K p r H H' s' → Same (nw H Hc) (nw H H') → RepT K (nw H H') t v → Q v H') : spChain K n [.ref p, .int z] Hc Q E :=
  ⟨p, r, z, s, s', t, rfl, hz, hT, G.1, fun H' v g rp => let ⟨g', e⟩ := G.next S0 g.1 g.2; h H' v g' e (rep_mono (G.new g) _ _ rp)⟩
theorem z_rse (S0 : SrcOk K H p r s0) (G : Go K p r H Hc s) (hz : z + n = 32) (hT : SetR (Term n) s t s') (h : ∀ H' v, Go K p r H H' s' → Same (nw H Hc) (nw H H') → RepT K (nw H H') t v → Q v H') : spSet K n [.ref p, .int z] Hc Q E :=
  ⟨p, r, z, s, s', t, rfl, hz, hT, G.1, fun H' v g rp => let ⟨g', e⟩ := G.next S0 g.1 g.2; h H' v g' e (rep_mono (G.new g) _ _ rp)⟩
theorem z_rst (S0 : SrcOk K H p r s0) (G : Go K p r H Hc s) (hz : z + n = 32) (hj : j = (floor : Int)) (hT : Start (Term n) floor s t s') (h : ∀ H' v, Go K p r H H' s' → Same (nw H Hc) (nw H H') → RepT K (nw H H') t v → Q v H') : spStart K n [.ref p, .int z, .int j] Hc Q E :=
  ⟨p, r, z, j, floor, s, s', t, rfl, hj, hz, hT, G.1, fun H' v g rp => let ⟨g', e⟩ := G.next S0 g.1 g.2; h H' v g' e (rep_mono (G.new g) _ _ rp)⟩
theorem z_rgi {ts : List T} (S0 : SrcOk K H p r s0) (G : Go K p r H Hc s) (hz : z + n = 32) (hT : Given (Term n) s ts s') (h : ∀ H' g us, Go K p r H H' s' → Same (nw H Hc) (nw H H') → SqL K H' g us → RepL K (nw H H') ts us → ts.length ≤ 8 → Q (.ref g) H') : spGiven K n [.ref p, .int z] Hc Q E :=
  ⟨p, r, z, s, s', ts, rfl, hz, hT, G.1, fun H' v us g q rp l => let ⟨g', e⟩ := G.next S0 g.1 g.2; h H' v us g' e q (repL_mono (G.new g) _ _ rp) l⟩
end
theorem sc_read_given : FnScope ["source", "nest", "found"] ["source", "nest"] (defScope s_read_given) := ⟨rfl, rfl, rfl, by decide +kernel, rfl, by decide +kernel, by decide +kernel⟩
theorem ok_read_given (T : Tx K mg) {n : Nat} (IH : TermOk P w K mg base n) : Cal P w K mg base CX0 (5*n+11) "read_given" ["source", "nest"] [] (spGiven K n) := by
  obtain ⟨fd, F⟩ := T.f_read_given
  refine cal_def F T.g_read_given sc_read_given (fun _ _ _ _ _ _ us hl => match us, hl with | [_, _], _ => rfl) (by walk_at "ln") (fun cdv A outer s H vs Q E hr h => ?_)
  obtain ⟨p, r, z, ⟨sts, op, md⟩, s', ts, rfl, hz, ⟨l, m, s1, r1, e1, ho, hg, e2, rfl⟩, S0, k⟩ := h
  dsimp only at e1 ho hg
  subst e1
  refine ⟨_, (pss_cons (ps_set (i := 2) sc_read_given.nd rfl (Or.inl rfl) (pe_lst pa_nil))
    (pss_cons (ps_expr (pe_calm0 (pv 0) (okm_open_one T) (hr.mono (by omega)) pass0))
    (pss_cons (ps_while PassesOwn.never (pt_cmpR op_ne (pe_calm0 (pv 0) (okm_now T) (hr.mono (by omega)) pass0) pe_str (nomark _)) (pss_cons (ps_if (pt_cmpR (op_neE hr.units) (pv 2) (pe_lst pa_nil) (nomark _)) (pss_one (ps_expr (pe_calm (pv 0) (okm_need T) (hr.mono (by omega)) pass0 (pa_cons pe_str pa_nil)))) pss_nil)
    (pss_cons (ps_expr (pe_bm PySem.F.plainAttrs_list PySem.F.slot_list_append PySem.F.type_list_append mt_append (pv 2) (pa_cons (pe_cal IH.2 (hr.mono (by omega)) pass0 (pa_cons (pv 0) (pa_cons pe_int (pa_cons (pv 1) pa_nil)))) pa_nil)))
    (pss_one (ps_if (pt_cmpR op_gt (pe_callB call_len_seq (by rfl) T.b_len PySem.boot_len (pa_cons (pv 2) pa_nil)) (pe_gi T.c_MOST_GIVEN) (nomark _)) (pss_one ps_never) pss_nil)))))
    (pss_cons (ps_expr (pe_calm0 (pv 0) (okm_close_one T) (hr.mono (by omega)) pass0))
    (pss_one (ps_ret (pv 2))))))), ?_⟩
  have h8 := given_len hg (by decide)
  walk_at "rd"
  refine z_lstr (by show 0 ≤ 100000; omega) fun F hF => ?_
  obtain ⟨G1, _⟩ := (Go.start S0).app S0 hF (o := .lst [])
  walk_at "rd"
  refine z_opn S0 G1 ho fun H2 G2 e2' => ?_
  have hF2 := e2' F _ (nw_of hF upd_same)
  obtain ⟨_, hF2⟩ := nw_at hF2
  walk_at "rd"
  refine z_while (fun j σ Hc => ∃ acc vs s2, σ = [some (.ref p), some (.int z), some (.ref F)] ∧ Go K p r H Hc s2 ∧ Hc F = some (.lst vs) ∧ RepL K (cut F (nw H Hc)) acc vs ∧ acc.length ≤ 8 ∧ GivenL (Term n) j acc s2 ts s1) m ⟨[], [], _, rfl, G2, hF2, rfl, by decide, hg⟩ ?_
  rintro j σ Hc ⟨acc, vs, s2, rfl, G, hFc, R, ha, hg⟩
  have hv := repL_len R
  walk_at "rd"
  refine z_now G ?_
  walk_at "rd"
  cases hg with
  | stop e =>
    obtain ⟨sts, op2, md2⟩ := s1
    dsimp only at e e2 G k ⊢
    subst e2
    refine z_whF (bSnf rfl) ?_
    walk_at "rd"
    refine z_cls S0 G fun H5 G5 e5 => ?_
    walk_at "rd"
    have hF5 := (nw_at (e5 F _ (nw_of hF hFc))).2
    exact k _ _ _ G5 (SqL.of hF5) (repL_mono ((cut_same F _).trans e5) _ _ R) h8
  | one hn hT hg =>
    refine z_whT (bSn hn) ?_
    have ev : vs = [] := R
    subst ev
    walk_at "rd"
    refine z_lstr (by show 0 ≤ 100000; omega) fun F2 hF2 => ?_
    have nF : F ≠ F2 := ne_of_none hFc hF2
    refine z_neE (xs := []) (SqL.of (by rw [upd_ne nF]; exact hFc)) (SqL.of upd_same) ?_
    walk_at "rd"
    refine ifF (by simp) ?_
    obtain ⟨Gd, ed⟩ := G.same (Same.new hF2 (o := .lst []))
    have hFd : upd Hc F2 (.lst []) F = some (.lst []) := by rw [upd_ne nF]; exact hFc
    walk_at "rd"
    refine z_bml (SqL.of hFd) ?_
    walk_at "rd"
    refine z_rtF (least := 1) (floor := 1) S0 Gd hz rfl rfl hT fun H5 v5 G5 e5 R5 => ?_
    have hF5 := (nw_at (e5 F _ (nw_of hF hFd))).2
    walk_at "rd"
    refine z_appd hF5 (by omega) ?_
    obtain ⟨G6, e6⟩ := G5.app S0 hF (o := .lst (([] : List V) ++ [v5]))
    have R6 : RepL K (cut F (nw H (upd H5 F (.lst (([] : List V) ++ [v5]))))) (([] : List EH.T) ++ [_]) (([] : List V) ++ [v5]) := repL_app (repL_mono ((cut_mono (ed.trans e5)).trans e6) _ _ R) (rep_mono ((new_cut Gd.fr hFd).trans e6) _ _ R5)
    walk_at "rd"
    refine ⟨F, _, rfl, .inl (SqL.of upd_same), ?_⟩
    walk_at "rd"
    refine ifD (fun c => absurd c ?_) (fun _ => ?_)
    · have q1 := repL_len R6
      rw [q1]
      show ¬ (8 : Int) < ((1 : Nat) : Int)
      omega
    exact ⟨_, Nat.lt_succ_self _, _, _, _, rfl, G6, upd_same, R6, (by show 1 ≤ 8; omega), hg⟩
  | more h0 hT hl hg =>
    refine z_whT (bSn (by rw [now_mk, hd_cons]; decide +kernel)) ?_
    walk_at "rd"
    refine z_lstr (by show 0 ≤ 100000; omega) fun F2 hF2 => ?_
    have nF : F ≠ F2 := ne_of_none hFc hF2
    refine z_neE (xs := vs) (SqL.of (by rw [upd_ne nF]; exact hFc)) (SqL.of upd_same) ?_
    walk_at "rd"
    have hv0 : vs ≠ [] := fun z => h0 (List.length_eq_zero_iff.mp (by rw [← hv, z]; rfl))
    refine ifT (decide_eq_true hv0) ?_
    obtain ⟨Gd, ed0⟩ := G.same (Same.new hF2 (o := .lst []))
    have hFd0 : upd Hc F2 (.lst []) F = some (.lst vs) := by rw [upd_ne nF]; exact hFc
    walk_at "rd"
    refine z_need S0 Gd fun Hd Gd ed1 => ?_
    have ed := ed0.trans ed1
    have hFd := (nw_at (ed1 F _ (nw_of hF hFd0))).2
    walk_at "rd"
    refine z_bml (SqL.of hFd) ?_
    walk_at "rd"
    refine z_rtF (least := 1) (floor := 1) S0 Gd hz rfl rfl hT fun H5 v5 G5 e5 R5 => ?_
    have hF5 := (nw_at (e5 F _ (nw_of hF hFd))).2
    walk_at "rd"
    refine z_appd hF5 (by omega) ?_
    obtain ⟨G6, e6⟩ := G5.app S0 hF (o := .lst (vs ++ [v5]))
    have R6 : RepL K (cut F (nw H (upd H5 F (.lst (vs ++ [v5]))))) (acc ++ [_]) (vs ++ [v5]) := repL_app (repL_mono ((cut_mono (ed.trans e5)).trans e6) _ _ R) (rep_mono ((new_cut Gd.fr hFd).trans e6) _ _ R5)
    walk_at "rd"
    refine ⟨F, _, rfl, .inl (SqL.of upd_same), ?_⟩
    walk_at "rd"
    refine ifD (fun c => absurd c ?_) (fun _ => ?_)
    · have q1 := repL_len R6
      rw [q1]
      show ¬ (8 : Int) < ((acc ++ [_] : List EH.T).length : Int)
      omega
    exact ⟨_, Nat.lt_succ_self _, _, _, _, rfl, G6, upd_same, R6, hl, hg⟩
theorem numL_ge : ∀ (k n : Nat), 10 ^ k ≤ n → k + 1 ≤ (numL n).length
  | 0, n, _ => by
    have := numL_ne n
    cases e : numL n with
    | nil => exact absurd e this
    | cons a l => simp
  | k + 1, n, h => by
    have h1 : 10 ≤ n := Nat.le_trans (by rw [Nat.pow_succ]; have := Nat.pow_pos (n := k) (show 0 < 10 by decide); omega) h
    rw [numL_step h1, List.length_append]
    have := numL_ge k (n / 10) (by rw [Nat.pow_succ] at h; omega)
    simp only [List.length_singleton]
    omega
theorem num_int {n : Nat} (h : isNumRow (numTok n) = true) : PySem.intText? (numTok n) = some (n : Int) ∧ (numTok n).length ≤ 9 := by
  unfold isNumRow at h
  simp only [Bool.and_eq_true, decide_eq_true_eq] at h
  have hl := h.1.1.2
  refine ⟨?_, hl⟩
  rw [len_tl, numTok_tl] at hl
  have hn : n < 10 ^ 9 := Nat.lt_of_not_le fun q => by
    have := numL_ge 9 n q
    omega
  exact PySem.W.KIN.num_reads (by omega) (by omega)
theorem name_num {x : Str} (h : isName x = true) : isNumRow x = false := by
  obtain ⟨c, l, e1, e2⟩ := name_low h
  rw [Bool.eq_false_iff]
  intro q
  unfold isNumRow at q
  rw [e1] at q
  simp only [Bool.and_eq_true, List.all_cons] at q
  have q1 := q.1.2.1
  unfold isDig at q1
  unfold isLow at e2
  have := of_decide_eq_true q1
  have := of_decide_eq_true e2
  omega
theorem sc_read_atom : FnScope ["source", "nest", "word", "found", "name"] ["source", "nest"] (defScope s_read_atom) := ⟨rfl, rfl, rfl, by decide +kernel, rfl, by decide +kernel, by decide +kernel⟩
theorem ok_read_atom (T : Tx K mg) {n : Nat} (IH : TermOk P w K mg base n) : Cal P w K mg base CX0 (5*n+12) "read_atom" ["source", "nest"] [] (spAtom K n) := by
  obtain ⟨fd, F⟩ := T.f_read_atom
  refine cal_def F T.g_read_atom sc_read_atom (fun _ _ _ _ _ _ us hl => match us, hl with | [_, _], _ => rfl) (by walk_at "ln") (fun cdv A outer s H vs Q E hr h => ?_)
  obtain ⟨p, r, z, s, s', t, rfl, hz, hA, S0, k⟩ := h
  refine ⟨_, (pss_cons (ps_set (i := 2) sc_read_atom.nd rfl (Or.inl rfl) (pe_calm0 (pv 0) (okm_take T) (hr.mono (by omega)) pass0))
    (pss_cons (ps_if (pt_cmpR op_eq (pv 2) pe_str (nomark _)) (pss_cons (ps_fldaug (pv 0) pe_int in_sub)
    (pss_cons (ps_expr (pe_calm0 (pv 0) (okm_open_one T) (hr.mono (by omega)) pass0))
    (pss_cons (ps_set (i := 3) sc_read_atom.nd rfl (Or.inl rfl) (pe_cal IH.2 (hr.mono (by omega)) pass0 (pa_cons (pv 0) (pa_cons pe_int (pa_cons (pv 1) pa_nil)))))
    (pss_cons (ps_expr (pe_calm0 (pv 0) (okm_close_one T) (hr.mono (by omega)) pass0))
    (pss_one (ps_ret (pv 3))))))) pss_nil)
    (pss_cons (ps_if (PW.pt (pw_or (pt_cmpR op_eq (pv 2) pe_str (nomark _)) (pw_or1 (pt_cmpR op_eq (pv 2) pe_str (nomark _))))) (pss_one (ps_ret (pe_calm (pv 0) (okm_built T) (hr.mono (by omega)) pass0 (pa_cons (pe_calc (ok_TruthTerm T) (hr.mono (by omega)) pass0 (pa_cons (pe_cmpR op_eq (pv 2) pe_str (nomark _)) pa_nil)) pa_nil)))) pss_nil)
    (pss_cons (ps_if (pt_cmpR op_eq (pv 2) pe_str (nomark _)) (pss_one (ps_ret (pe_calm (pv 0) (okm_built T) (hr.mono (by omega)) pass0 (pa_cons (pe_calc0 (ok_SelfTerm T) (hr.mono (by omega)) pass0) pa_nil)))) pss_nil)
    (pss_cons (ps_if (pt_cmpR op_eq (pv 2) pe_str (nomark _)) (pss_cons (ps_set (i := 4) sc_read_atom.nd rfl (Or.inl rfl) (pe_calm0 (pv 0) (okm_need_name T) (hr.mono (by omega)) pass0))
    (pss_one (ps_ret (pe_calm (pv 0) (okm_built T) (hr.mono (by omega)) pass0 (pa_cons (pe_calc (ok_NewTerm T) (hr.mono (by omega)) pass0 (pa_cons (pv 4) (pa_cons (pe_cal (ok_read_given T IH) (hr.mono (by omega)) pass0 (pa_cons (pv 0) (pa_cons (pv 1) pa_nil))) pa_nil))) pa_nil))))) pss_nil)
    (pss_cons (ps_if (pt_cmpR op_eq (pv 2) pe_str (nomark _)) (pss_cons (ps_expr (pe_calm (pv 0) (okm_need T) (hr.mono (by omega)) pass0 (pa_cons pe_str pa_nil)))
    (pss_cons (ps_set (i := 4) sc_read_atom.nd rfl (Or.inl rfl) (pe_calm0 (pv 0) (okm_need_name T) (hr.mono (by omega)) pass0))
    (pss_one (ps_ret (pe_calm (pv 0) (okm_built T) (hr.mono (by omega)) pass0 (pa_cons (pe_calc (ok_ElderTerm T) (hr.mono (by omega)) pass0 (pa_cons (pv 4) (pa_cons (pe_cal (ok_read_given T IH) (hr.mono (by omega)) pass0 (pa_cons (pv 0) (pa_cons (pv 1) pa_nil))) pa_nil))) pa_nil)))))) pss_nil)
    (pss_cons (ps_if (pt_val (pe_cal (ok_is_number_row T) (hr.mono (by omega)) pass0 (pa_cons (pv 2) pa_nil))) (pss_one (ps_ret (pe_calm (pv 0) (okm_built T) (hr.mono (by omega)) pass0 (pa_cons (pe_calc (ok_NumberTerm T) (hr.mono (by omega)) pass0 (pa_cons (pe_callTy call_int_str (by rfl) T.b_int (by decide +kernel) (pa_cons (pv 2) pa_nil)) pa_nil)) pa_nil)))) pss_nil)
    (pss_cons (ps_if (PW.pt (pw_or (pt_cmpR op_eq (pv 2) pe_str (nomark _)) (pw_or1 (pt_not (pt_val (pe_cal (ok_is_name T) (hr.mono (by omega)) pass0 (pa_cons (pv 2) pa_nil))))))) (pss_one ps_never) pss_nil)
    (pss_one (ps_ret (pe_calm (pv 0) (okm_built T) (hr.mono (by omega)) pass0 (pa_cons (pe_calc (ok_NameTerm T) (hr.mono (by omega)) pass0 (pa_cons (pv 2) pa_nil)) pa_nil)))))))))))), ?_⟩
  walk_at "rd"
  cases hA with
  | @paren rr op md t s1 r1 ho hT e1 =>
    refine z_take S0 (Go.start S0) fun H1 G1 B1 e1' => ?_
    walk_at "rd"
    refine ifT (bS rfl) ?_
    obtain ⟨row, dx, j, S, hd⟩ := B1
    walk_at "rd"
    refine z_src T S T.no_Source_spot (sl_spot ..) ?_
    walk_at "rd"
    refine z_at S ?_
    walk_at "rd"
    rw [sp_spot, show ((j + 1 : Nat) : Int) - 1 = ((j : Nat) : Int) by omega]
    have S' := S.put (k' := j) (s' := ⟨("(" : Str) :: rr, op, md⟩) (by have := S.le; omega) hd
    obtain ⟨G2, e2⟩ := G1.next S0 ⟨_, _, _, S'⟩ (Off.upd _ _ _)
    refine z_opn S0 G2 ho fun H3 G3 e3 => ?_
    walk_at "rd"
    refine z_rt (least := 1) (floor := 1) S0 G3 hz rfl rfl hT fun H4 v G4 e4 R4 => ?_
    walk_at "rd"
    obtain ⟨sts, op1, md1⟩ := s1
    dsimp only at e1 G4 k ⊢
    subst e1
    refine z_cls S0 G4 fun H5 G5 e5 => ?_
    walk_at "rd"
    exact k _ _ G5 (rep_mono e5 _ _ R4)
  | yes b =>
    refine z_take S0 (Go.start S0) fun H1 G1 B1 e1 => ?_
    walk_at "rd"
    walk_at "no"
    refine ifT (bS rfl) ?_
    walk_at "rd"
    refine z_built G1.1 ?_
    walk_at "rd"
    rw [bS (rfl : ("yes" : Str) = ("yes" : Str))]
    refine z_mkTruthTerm G1.fr fun H2 v sm R2 => ?_
    obtain ⟨G2, e2⟩ := G1.same sm
    refine z_bu (E := E) S0 G2 b R2 fun H3 G3 e3 R3 => ?_
    exact k _ _ G3 R3
  | no b =>
    refine z_take S0 (Go.start S0) fun H1 G1 B1 e1 => ?_
    walk_at "rd"
    walk_at "no"
    refine ifT (bS rfl) ?_
    walk_at "rd"
    refine z_built G1.1 ?_
    walk_at "rd"
    rw [bSf (by decide +kernel : ("no" : Str) ≠ ("yes" : Str))]
    refine z_mkTruthTerm G1.fr fun H2 v sm R2 => ?_
    obtain ⟨G2, e2⟩ := G1.same sm
    refine z_bu (E := E) S0 G2 b R2 fun H3 G3 e3 R3 => ?_
    exact k _ _ G3 R3
  | slf b =>
    refine z_take S0 (Go.start S0) fun H1 G1 B1 e1 => ?_
    walk_at "rd"
    walk_at "no"
    refine ifT (bS rfl) ?_
    walk_at "rd"
    refine z_built G1.1 ?_
    walk_at "rd"
    refine z_mkSelfTerm G1.fr fun H2 v sm R2 => ?_
    obtain ⟨G2, e2⟩ := G1.same sm
    refine z_bu (E := E) S0 G2 b R2 fun H3 G3 e3 R3 => ?_
    exact k _ _ G3 R3
  | new hx hG b =>
    refine z_take S0 (Go.start S0) fun H1 G1 B1 e1 => ?_
    walk_at "rd"
    walk_at "no"
    refine ifT (bS rfl) ?_
    walk_at "rd"
    refine z_nname S0 G1 hx fun H2 G2 e2 => ?_
    walk_at "rd"
    refine z_built G2.1 ?_
    walk_at "rd"
    refine z_rgi S0 G2 hz hG fun H3 g us G3 e3 q3 R3 l3 => ?_
    walk_at "rd"
    refine z_mkNewTerm G3.fr q3 R3 l3 fun H4 v sm R4 => ?_
    obtain ⟨G4, e4⟩ := G3.same sm
    refine z_bu (E := E) S0 G4 b R4 fun H5 G5 e5 R5 => ?_
    exact k _ _ G5 R5
  | eld hx hG b =>
    refine z_take S0 (Go.start S0) fun H1 G1 B1 e1 => ?_
    walk_at "rd"
    walk_at "no"
    refine ifT (bS rfl) ?_
    walk_at "rd"
    refine z_need S0 G1 fun H1 G1 e1 => ?_
    walk_at "rd"
    refine z_nname S0 G1 hx fun H2 G2 e2 => ?_
    walk_at "rd"
    refine z_built G2.1 ?_
    walk_at "rd"
    refine z_rgi S0 G2 hz hG fun H3 g us G3 e3 q3 R3 l3 => ?_
    walk_at "rd"
    refine z_mkElderTerm G3.fr q3 R3 l3 fun H4 v sm R4 => ?_
    obtain ⟨G4, e4⟩ := G3.same sm
    refine z_bu (E := E) S0 G4 b R4 fun H5 G5 e5 R5 => ?_
    exact k _ _ G5 R5
  | num hn b =>
    refine z_take S0 (Go.start S0) fun H1 G1 B1 e1 => ?_
    walk_at "rd"
    walk_at "no"
    refine ⟨_, rfl, by have := (num_int hn).2; omega, ?_⟩
    walk_at "rd"
    refine ifT hn ?_
    walk_at "rd"
    refine z_built G1.1 ?_
    walk_at "rd"
    refine ⟨_, _, rfl, (num_int hn).1, by have := (num_int hn).2; omega, ?_⟩
    walk_at "rd"
    refine z_mkNumberTerm G1.fr fun H2 v sm R2 => ?_
    obtain ⟨G2, e2⟩ := G1.same sm
    refine z_bu (E := E) S0 G2 b R2 fun H3 G3 e3 R3 => ?_
    exact k _ _ G3 R3
  | nam hx b =>
    refine z_take S0 (Go.start S0) fun H1 G1 B1 e1 => ?_
    walk_at "rd"
    repeat (first | refine ifF (bSf (name_ne hx)) ?_ | refine ifF (bSf (name_told hx)) ?_ | (walk_at "rd1"))
    refine ⟨_, rfl, by have := name_len hx; omega, ?_⟩
    walk_at "rd"
    refine ifF (name_num hx) ?_
    walk_at "rd"
    refine ifF (bSf (name_ne hx)) ?_
    walk_at "rd"
    refine ⟨_, rfl, by have := name_len hx; omega, ?_⟩
    walk_at "rd"
    rw [hx]
    refine iteF ?_
    walk_at "rd"
    refine z_built G1.1 ?_
    walk_at "rd"
    refine z_mkNameTerm G1.fr fun H2 v sm R2 => ?_
    obtain ⟨G2, e2⟩ := G1.same sm
    refine z_bu (E := E) S0 G2 b R2 fun H3 G3 e3 R3 => ?_
    exact k _ _ G3 R3
end
end EH

set_option Elab.async false
set_option maxRecDepth 100000
set_option maxHeartbeats 4000000
set_option linter.unusedVariables false

/-! The reader of terms, the rest. -/
namespace EH
open PySem PySem.Spec PyProof.Rows L2 TL
local macro_rules | `(tactic| walk_at "rd1") => `(tactic| (first
  | with_reducible refine z_seq ?_ | with_reducible refine z_ifs ?_ | with_reducible refine z_next ?_ | with_reducible refine z_ret ?_ | with_reducible refine z_asg ?_ | with_reducible refine z_gname ?_
  | ((with_reducible apply z_var); exact rfl) | with_reducible refine z_c ?_ | with_reducible refine z_op ?_ | with_reducible refine z_bl ?_ | with_reducible refine z_test ?_ | with_reducible refine z_B ?_
  | with_reducible refine z_nil ?_ | with_reducible refine z_cons ?_ | with_reducible refine z_cb ?_ | with_reducible refine z_call ?_ | with_reducible refine iteT ?_ | with_reducible refine iteF ?_
  | with_reducible refine z_or ?_ | with_reducible refine z_and ?_ | with_reducible refine z_not ?_ | with_reducible refine z_orv ?_ | with_reducible refine z_andv ?_ | with_reducible refine z_notv ?_ | with_reducible refine z_un ?_
  | with_reducible refine z_eqS ?_ | with_reducible refine z_neS ?_ | with_reducible refine z_eqI ?_ | with_reducible refine z_neI ?_ | with_reducible refine z_i0 ?_ | with_reducible refine z_radd ?_ | with_reducible refine z_rsub ?_ | with_reducible refine z_iu ?_
  | with_reducible refine z_fld ?_ | with_reducible refine z_meth ?_ | with_reducible refine z_sfld ?_ | with_reducible refine z_flda ?_ | with_reducible refine z_make ?_ | with_reducible refine z_drop ?_ | with_reducible refine z_retn ?_ | with_reducible refine z_cont ?_
  | with_reducible refine z_tup ?_ | with_reducible refine z_lst ?_ | with_reducible refine z_slice ?_ | with_reducible refine z_nopart ?_ | with_reducible refine z_part ?_ | with_reducible refine z_intr ?_ | with_reducible refine z_m1 ?_ | with_reducible refine z_lc ?_ | with_reducible refine z_yes ?_ | with_reducible refine z_il ?_ | with_reducible refine z_it ?_ | with_reducible refine z_bm ?_ | with_reducible refine z_for ?_ | with_reducible refine z_gcons ?_ | with_reducible refine z_gnil ?_))
local macro_rules | `(tactic| walk_at "rd") => `(tactic| repeat (walk_at "rd1"))
local macro_rules | `(tactic| walk_at "no") => `(tactic| repeat (first | refine ifF (bSf (by decide +kernel)) ?_ | refine ifF (bSf num_ne) ?_ | (walk_at "rd1")))
local macro_rules | `(tactic| walk_at "ln") => `(tactic| (rintro vs H Q E h; repeat (first | (obtain ⟨e, _⟩ := h; subst e; rfl) | (obtain ⟨_, h⟩ := h))))
section
variable {P : Program} {w : World} {K : PySem.W.Frag} {mg : Str → Option Value} {base : Heap}
theorem sc_read_chain : FnScope ["source", "nest", "found", "name"] ["source", "nest"] (defScope s_read_chain) := ⟨rfl, rfl, rfl, by decide +kernel, rfl, by decide +kernel, by decide +kernel⟩
theorem ok_read_chain (T : Tx K mg) {n : Nat} (IH : TermOk P w K mg base n) : Cal P w K mg base CX0 (5*n+13) "read_chain" ["source", "nest"] [] (spChain K n) := by
  obtain ⟨fd, F⟩ := T.f_read_chain
  refine cal_def F T.g_read_chain sc_read_chain (fun _ _ _ _ _ _ us hl => match us, hl with | [_, _], _ => rfl) (by walk_at "ln") (fun cdv A outer s H vs Q E hr h => ?_)
  obtain ⟨p, r, z, s, s', t, rfl, hz, ⟨m, a, s1, hA, hC⟩, S0, k⟩ := h
  refine ⟨_, (pss_cons (ps_set (i := 2) sc_read_chain.nd rfl (Or.inl rfl) (pe_cal (ok_read_atom T IH) (hr.mono (by omega)) pass0 (pa_cons (pv 0) (pa_cons (pv 1) pa_nil))))
    (pss_cons (ps_while PassesOwn.never (pt_cmpR op_eq (pe_calm0 (pv 0) (okm_now T) (hr.mono (by omega)) pass0) pe_str (nomark _)) (pss_cons (ps_expr (pe_calm0 (pv 0) (okm_take T) (hr.mono (by omega)) pass0))
    (pss_cons (ps_set (i := 3) sc_read_chain.nd rfl (Or.inl rfl) (pe_calm0 (pv 0) (okm_need_name T) (hr.mono (by omega)) pass0))
    (pss_one (ps_if (pt_cmpR op_eq (pe_calm0 (pv 0) (okm_now T) (hr.mono (by omega)) pass0) pe_str (nomark _)) (pss_one (ps_set (i := 2) sc_read_chain.nd rfl (Or.inl rfl) (pe_calm (pv 0) (okm_built T) (hr.mono (by omega)) pass0 (pa_cons (pe_calc (ok_CallTerm T) (hr.mono (by omega)) pass0 (pa_cons (pv 2) (pa_cons (pv 3) (pa_cons (pe_cal (ok_read_given T IH) (hr.mono (by omega)) pass0 (pa_cons (pv 0) (pa_cons (pv 1) pa_nil))) pa_nil)))) pa_nil)))) (pss_one (ps_set (i := 2) sc_read_chain.nd rfl (Or.inl rfl) (pe_calm (pv 0) (okm_built T) (hr.mono (by omega)) pass0 (pa_cons (pe_calc (ok_FieldTerm T) (hr.mono (by omega)) pass0 (pa_cons (pv 2) (pa_cons (pv 3) pa_nil))) pa_nil)))))))))
    (pss_one (ps_ret (pv 2))))), ?_⟩
  walk_at "rd"
  refine z_rat S0 (Go.start S0) hz hA fun H1 v1 G1 e1 R1 => ?_
  walk_at "rd"
  refine z_while (fun j σ Hc => ∃ u v c s2, σ = [some (.ref p), some (.int z), some v, c] ∧ Go K p r H Hc s2 ∧ RepT K (nw H Hc) u v ∧ ChainL (Term n) j u s2 t s') m ⟨_, _, _, _, rfl, G1, R1, hC⟩ ?_
  rintro j σ Hc ⟨u, v, c, s2, rfl, G, R, hC⟩
  walk_at "rd"
  refine z_now G ?_
  walk_at "rd"
  cases hC with
  | stop hn =>
    refine z_whF (bSf hn) ?_
    walk_at "rd"
    exact k _ _ G R
  | fld hx hn b hC =>
    refine z_whT (bS (by rw [now_mk, hd_cons])) ?_
    walk_at "rd"
    refine z_take S0 G fun H2 G2 _ e2 => ?_
    walk_at "rd"
    refine z_nname S0 G2 hx fun H3 G3 e3 => ?_
    walk_at "rd"
    refine z_now G3 ?_
    walk_at "rd"
    refine ifF (bSf hn) ?_
    walk_at "rd"
    refine z_built G3.1 ?_
    walk_at "rd"
    refine z_mkFieldTerm G3.fr (rep_mono (e2.trans e3) _ _ R) fun H4 v4 sm R4 => ?_
    obtain ⟨G4, e4⟩ := G3.same sm
    refine z_bu (E := E) S0 G4 b R4 fun H5 G5 e5 R5 => ?_
    exact ⟨_, Nat.lt_succ_self _, _, _, _, _, rfl, G5, R5, hC⟩
  | cal hx hG b hC =>
    have hG' := hG
    obtain ⟨l, m', s3, r3, q1, q2, q3, q4, q5⟩ := hG'
    dsimp only at q1
    subst q1
    refine z_whT (bS (by rw [now_mk, hd_cons])) ?_
    walk_at "rd"
    refine z_take S0 G fun H2 G2 _ e2 => ?_
    walk_at "rd"
    refine z_nname S0 G2 hx fun H3 G3 e3 => ?_
    walk_at "rd"
    refine z_now G3 ?_
    walk_at "rd"
    refine ifT (bS (by rw [now_mk, hd_cons])) ?_
    walk_at "rd"
    refine z_built G3.1 ?_
    walk_at "rd"
    refine z_rgi S0 G3 hz hG fun H4 g us G4 e4 q4 R4 l4 => ?_
    walk_at "rd"
    refine z_mkCallTerm G4.fr (rep_mono ((e2.trans e3).trans e4) _ _ R) q4 R4 l4 fun H5 v5 sm R5 => ?_
    obtain ⟨G5, e5⟩ := G4.same sm
    refine z_bu (E := E) S0 G5 b R5 fun H6 G6 e6 R6 => ?_
    exact ⟨_, Nat.lt_succ_self _, _, _, _, _, rfl, G6, R6, hC⟩
theorem sc_read_set : FnScope ["source", "nest", "found", "name"] ["source", "nest"] (defScope s_read_set) := ⟨rfl, rfl, rfl, by decide +kernel, rfl, by decide +kernel, by decide +kernel⟩
theorem ok_read_set (T : Tx K mg) {n : Nat} (IH : TermOk P w K mg base n) : Cal P w K mg base CX0 (5*n+13) "read_set" ["source", "nest"] [] (spSet K n) := by
  obtain ⟨fd, F⟩ := T.f_read_set
  refine cal_def F T.g_read_set sc_read_set (fun _ _ _ _ _ _ us hl => match us, hl with | [_, _], _ => rfl) (by walk_at "ln") (fun cdv A outer s H vs Q E hr h => ?_)
  obtain ⟨p, r, z, s, s', t, rfl, hz, ⟨a, x, rr, op, md, m, u, f, r2, op2, md2, bb, s3, hA, hx, hS, hT, hb, rfl⟩, S0, k⟩ := h
  refine ⟨_, (pss_cons (ps_set (i := 2) sc_read_set.nd rfl (Or.inl rfl) (pe_cal (ok_read_atom T IH) (hr.mono (by omega)) pass0 (pa_cons (pv 0) (pa_cons (pv 1) pa_nil))))
    (pss_cons (ps_expr (pe_calm (pv 0) (okm_need T) (hr.mono (by omega)) pass0 (pa_cons pe_str pa_nil)))
    (pss_cons (ps_set (i := 3) sc_read_set.nd rfl (Or.inl rfl) (pe_calm0 (pv 0) (okm_need_name T) (hr.mono (by omega)) pass0))
    (pss_cons (ps_while PassesOwn.never (pt_cmpR op_ne (pe_calm0 (pv 0) (okm_now T) (hr.mono (by omega)) pass0) pe_str (nomark _)) (pss_cons (ps_if (pt_cmpR op_eq (pe_calm0 (pv 0) (okm_now T) (hr.mono (by omega)) pass0) pe_str (nomark _)) (pss_one (ps_set (i := 2) sc_read_set.nd rfl (Or.inl rfl) (pe_calm (pv 0) (okm_built T) (hr.mono (by omega)) pass0 (pa_cons (pe_calc (ok_CallTerm T) (hr.mono (by omega)) pass0 (pa_cons (pv 2) (pa_cons (pv 3) (pa_cons (pe_cal (ok_read_given T IH) (hr.mono (by omega)) pass0 (pa_cons (pv 0) (pa_cons (pv 1) pa_nil))) pa_nil)))) pa_nil)))) (pss_one (ps_set (i := 2) sc_read_set.nd rfl (Or.inl rfl) (pe_calm (pv 0) (okm_built T) (hr.mono (by omega)) pass0 (pa_cons (pe_calc (ok_FieldTerm T) (hr.mono (by omega)) pass0 (pa_cons (pv 2) (pa_cons (pv 3) pa_nil))) pa_nil)))))
    (pss_cons (ps_expr (pe_calm (pv 0) (okm_need T) (hr.mono (by omega)) pass0 (pa_cons pe_str pa_nil)))
    (pss_one (ps_set (i := 3) sc_read_set.nd rfl (Or.inl rfl) (pe_calm0 (pv 0) (okm_need_name T) (hr.mono (by omega)) pass0))))))
    (pss_cons (ps_expr (pe_calm (pv 0) (okm_need T) (hr.mono (by omega)) pass0 (pa_cons pe_str pa_nil)))
    (pss_one (ps_ret (pe_calm (pv 0) (okm_built T) (hr.mono (by omega)) pass0 (pa_cons (pe_calc (ok_SetTerm T) (hr.mono (by omega)) pass0 (pa_cons (pv 2) (pa_cons (pv 3) (pa_cons (pe_cal IH.1 (hr.mono (by omega)) pass0 (pa_cons (pv 0) (pa_cons pe_int (pa_cons (pv 1) (pa_cons pe_int pa_nil))))) pa_nil)))) pa_nil))))))))), ?_⟩
  walk_at "rd"
  refine z_rat S0 (Go.start S0) hz hA fun H1 v1 G1 e1 R1 => ?_
  walk_at "rd"
  refine z_need S0 G1 fun H2 G2 e2 => ?_
  walk_at "rd"
  refine z_nname S0 G2 hx fun H3 G3 e3 => ?_
  walk_at "rd"
  have R3 := rep_mono (e2.trans e3) _ _ R1
  refine z_while (fun j σ Hc => ∃ u1 v x s2, σ = [some (.ref p), some (.int z), some v, some (.str x)] ∧ Go K p r H Hc s2 ∧ RepT K (nw H Hc) u1 v ∧ SetL (Term n) j u1 x s2 u f ⟨("=" : Str) :: r2, op2, md2⟩) m ⟨_, _, _, _, rfl, G3, R3, hS⟩ ?_
  rintro j σ Hc ⟨u1, v, x, s2, rfl, G, R, hC⟩
  walk_at "rd"
  refine z_now G ?_
  walk_at "rd"
  cases hC with
  | stop hn =>
    refine z_whF (bSnf (by rw [now_mk, hd_cons])) ?_
    walk_at "rd"
    refine z_need S0 G fun H2 G2 e2 => ?_
    walk_at "rd"
    refine z_built G2.1 ?_
    walk_at "rd"
    refine z_rt (least := 2) (floor := 2) S0 G2 hz rfl rfl hT fun H4 v4 G4 e4 R4 => ?_
    walk_at "rd"
    refine z_mkSetTerm G4.fr (rep_mono (e2.trans e4) _ _ R) R4 fun H5 v5 sm R5 => ?_
    obtain ⟨G5, e5⟩ := G4.same sm
    refine z_bu (E := E) S0 G5 hb R5 fun H6 G6 e6 R6 => ?_
    exact k _ _ G6 R6
  | fld hn1 hn b hy hC =>
    refine z_whT (bSn hn1) ?_
    walk_at "rd"
    refine z_now G ?_
    walk_at "rd"
    refine ifF (bSf hn) ?_
    walk_at "rd"
    refine z_built G.1 ?_
    walk_at "rd"
    refine z_mkFieldTerm G.fr R fun H4 v4 sm R4 => ?_
    obtain ⟨G4, e4⟩ := G.same sm
    refine z_bu (E := E) S0 G4 b R4 fun H5 G5 e5 R5 => ?_
    walk_at "rd"
    refine z_need S0 G5 fun H6 G6 e6 => ?_
    walk_at "rd"
    refine z_nname S0 G6 hy fun H7 G7 e7 => ?_
    exact ⟨_, Nat.lt_succ_self _, _, _, _, _, rfl, G7, rep_mono (e6.trans e7) _ _ R5, hC⟩
  | cal hG b hy hC =>
    have hG' := hG
    obtain ⟨l, m', s3, r3, q1, q2, q3, q4, q5⟩ := hG'
    obtain ⟨sts, opx, mdx⟩ := s2
    dsimp only at q1
    subst q1
    refine z_whT (bSn (by rw [now_mk, hd_cons]; decide +kernel)) ?_
    walk_at "rd"
    refine z_now G ?_
    walk_at "rd"
    refine ifT (bS (by rw [now_mk, hd_cons])) ?_
    walk_at "rd"
    refine z_built G.1 ?_
    walk_at "rd"
    refine z_rgi S0 G hz hG fun H4 g us G4 e4 q4 R4 l4 => ?_
    walk_at "rd"
    refine z_mkCallTerm G4.fr (rep_mono e4 _ _ R) q4 R4 l4 fun H5 v5 sm R5 => ?_
    obtain ⟨G5, e5⟩ := G4.same sm
    refine z_bu (E := E) S0 G5 b R5 fun H6 G6 e6 R6 => ?_
    walk_at "rd"
    refine z_need S0 G6 fun H7 G7 e7 => ?_
    walk_at "rd"
    refine z_nname S0 G7 hy fun H8 G8 e8 => ?_
    exact ⟨_, Nat.lt_succ_self _, _, _, _, _, rfl, G8, rep_mono (e7.trans e8) _ _ R6, hC⟩
def startW : List V := [.str "not", .str "if", .str "let", .str "set"]
theorem sc_read_start : FnScope ["source", "nest", "floor", "word", "name", "one", "other"] ["source", "nest", "floor"] (defScope s_read_start) := ⟨rfl, rfl, rfl, by decide +kernel, rfl, by decide +kernel, by decide +kernel⟩
theorem ok_read_start (T : Tx K mg) {n : Nat} (IH : TermOk P w K mg base n) : Cal P w K mg base CX0 (5*n+14) "read_start" ["source", "nest", "floor"] [] (spStart K n) := by
  obtain ⟨fd, F⟩ := T.f_read_start
  refine cal_def F T.g_read_start sc_read_start (fun _ _ _ _ _ _ us hl => match us, hl with | [_, _, _], _ => rfl) (by walk_at "ln") (fun cdv A outer s H vs Q E hr h => ?_)
  obtain ⟨p, r, z, jf, floor, s, s', t, rfl, hj, hz, hS, S0, k⟩ := h
  refine ⟨_, (pss_cons (ps_set (i := 3) sc_read_start.nd rfl (Or.inl rfl) (pe_calm0 (pv 0) (okm_now T) (hr.mono (by omega)) pass0))
    (pss_cons (ps_if (pt_cmpR op_notIn_seq (pv 3) (pe_tup (pa_cons pe_str (pa_cons pe_str (pa_cons pe_str (pa_cons pe_str pa_nil))))) (by rfl)) (pss_one (ps_ret (pe_cal (ok_read_chain T IH) (hr.mono (by omega)) pass0 (pa_cons (pv 0) (pa_cons (pv 1) pa_nil))))) pss_nil)
    (pss_cons (ps_expr (pe_calm0 (pv 0) (okm_take T) (hr.mono (by omega)) pass0))
    (pss_cons (ps_if (pt_cmpR op_eq (pv 3) pe_str (nomark _)) (pss_one (ps_ret (pe_calm (pv 0) (okm_built T) (hr.mono (by omega)) pass0 (pa_cons (pe_calc (ok_NotTerm T) (hr.mono (by omega)) pass0 (pa_cons (pe_cal IH.1 (hr.mono (by omega)) pass0 (pa_cons (pv 0) (pa_cons pe_int (pa_cons (pv 1) (pa_cons (pv 2) pa_nil))))) pa_nil)) pa_nil)))) pss_nil)
    (pss_cons (ps_if (pt_cmpR op_eq (pv 3) pe_str (nomark _)) (pss_one (ps_ret (pe_cal (ok_read_set T IH) (hr.mono (by omega)) pass0 (pa_cons (pv 0) (pa_cons (pv 1) pa_nil))))) pss_nil)
    (pss_cons (ps_if (pt_cmpR op_eq (pv 3) pe_str (nomark _)) (pss_cons (ps_set (i := 4) sc_read_start.nd rfl (Or.inl rfl) (pe_calm0 (pv 0) (okm_need_name T) (hr.mono (by omega)) pass0))
    (pss_cons (ps_expr (pe_calm (pv 0) (okm_need T) (hr.mono (by omega)) pass0 (pa_cons pe_str pa_nil)))
    (pss_cons (ps_set (i := 5) sc_read_start.nd rfl (Or.inl rfl) (pe_cal IH.2 (hr.mono (by omega)) pass0 (pa_cons (pv 0) (pa_cons pe_int (pa_cons (pv 1) pa_nil)))))
    (pss_cons (ps_expr (pe_calm (pv 0) (okm_need T) (hr.mono (by omega)) pass0 (pa_cons pe_str pa_nil)))
    (pss_one (ps_ret (pe_calm (pv 0) (okm_built T) (hr.mono (by omega)) pass0 (pa_cons (pe_calc (ok_LetTerm T) (hr.mono (by omega)) pass0 (pa_cons (pv 4) (pa_cons (pv 5) (pa_cons (pe_cal IH.1 (hr.mono (by omega)) pass0 (pa_cons (pv 0) (pa_cons (pv 2) (pa_cons (pv 1) (pa_cons (pv 2) pa_nil))))) pa_nil)))) pa_nil)))))))) pss_nil)
    (pss_cons (ps_set (i := 5) sc_read_start.nd rfl (Or.inl rfl) (pe_cal IH.2 (hr.mono (by omega)) pass0 (pa_cons (pv 0) (pa_cons pe_int (pa_cons (pv 1) pa_nil)))))
    (pss_cons (ps_expr (pe_calm (pv 0) (okm_need T) (hr.mono (by omega)) pass0 (pa_cons pe_str pa_nil)))
    (pss_cons (ps_set (i := 6) sc_read_start.nd rfl (Or.inl rfl) (pe_cal IH.2 (hr.mono (by omega)) pass0 (pa_cons (pv 0) (pa_cons pe_int (pa_cons (pv 1) pa_nil)))))
    (pss_cons (ps_expr (pe_calm (pv 0) (okm_need T) (hr.mono (by omega)) pass0 (pa_cons pe_str pa_nil)))
    (pss_one (ps_ret (pe_calm (pv 0) (okm_built T) (hr.mono (by omega)) pass0 (pa_cons (pe_calc (ok_IfTerm T) (hr.mono (by omega)) pass0 (pa_cons (pv 5) (pa_cons (pv 6) (pa_cons (pe_cal IH.1 (hr.mono (by omega)) pass0 (pa_cons (pv 0) (pa_cons pe_int (pa_cons (pv 1) (pa_cons pe_int pa_nil))))) pa_nil)))) pa_nil)))))))))))))), ?_⟩
  walk_at "rd"
  refine z_now (Go.start S0) ?_
  walk_at "rd"
  refine z_tupr (by show 4 ≤ 100000; omega) fun tp htp => ?_
  obtain ⟨G1, e1⟩ := (Go.start S0).same (Same.new htp (o := .tup [.str "not", .str "if", .str "let", .str "set"]))
  refine r_ninT (SqT.of upd_same) (by rfl) (by rfl) ?_
  rw [show inV (.str s.now) [V.str "not", .str "if", .str "let", .str "set"] = ([("not" : Str), "if", "let", "set"]).contains s.now from inV_strs s.now ["not", "if", "let", "set"]]
  walk_at "rd"
  cases hS with
  | chain n1 n2 n3 n4 hC =>
    refine ifT ?_ ?_
    · have b1 : (s.now == ("not" : Str)) = false := beq_eq_false_iff_ne.mpr n1
      have b2 : (s.now == ("if" : Str)) = false := beq_eq_false_iff_ne.mpr n2
      have b3 : (s.now == ("let" : Str)) = false := beq_eq_false_iff_ne.mpr n3
      have b4 : (s.now == ("set" : Str)) = false := beq_eq_false_iff_ne.mpr n4
      simp [List.contains, List.elem, b1, b2, b3, b4]
    walk_at "rd"
    refine z_rch S0 G1 hz hC fun H2 v2 G2 e2 R2 => ?_
    exact k _ _ G2 R2
  | nt hT b =>
    refine ifF (by rw [now_mk, hd_cons]; decide +kernel) ?_
    walk_at "rd"
    refine z_take S0 G1 fun H2 G2 _ e2 => ?_
    rw [now_mk, hd_cons]
    walk_at "rd"
    refine ifT (bS rfl) ?_
    walk_at "rd"
    refine z_built G2.1 ?_
    walk_at "rd"
    refine z_rt (least := 5) (floor := floor) S0 G2 hz rfl hj hT fun H3 v3 G3 e3 R3 => ?_
    walk_at "rd"
    refine z_mkNotTerm G3.fr R3 fun H5 v5 sm R5 => ?_
    obtain ⟨G5, e5⟩ := G3.same sm
    refine z_bu (E := E) S0 G5 b R5 fun H6 G6 e6 R6 => ?_
    exact k _ _ G6 R6
  | st hT =>
    refine ifF (by rw [now_mk, hd_cons]; decide +kernel) ?_
    walk_at "rd"
    refine z_take S0 G1 fun H2 G2 _ e2 => ?_
    rw [now_mk, hd_cons]
    walk_at "no"
    refine ifT (bS rfl) ?_
    walk_at "rd"
    refine z_rse S0 G2 hz hT fun H3 v3 G3 e3 R3 => ?_
    exact k _ _ G3 R3
  | lt hx hT hT2 b =>
    refine ifF (by rw [now_mk, hd_cons]; decide +kernel) ?_
    walk_at "rd"
    refine z_take S0 G1 fun H2 G2 _ e2 => ?_
    rw [now_mk, hd_cons]
    walk_at "no"
    refine ifT (bS rfl) ?_
    walk_at "rd"
    refine z_nname S0 G2 hx fun H3 G3 e3 => ?_
    walk_at "rd"
    refine z_need S0 G3 fun H4 G4 e4 => ?_
    walk_at "rd"
    refine z_rt (least := 1) (floor := 1) S0 G4 hz rfl rfl hT fun H5 v5 G5 e5 R5 => ?_
    walk_at "rd"
    refine z_need S0 G5 fun H6 G6 e6 => ?_
    walk_at "rd"
    refine z_built G6.1 ?_
    walk_at "rd"
    refine z_rt (least := floor) (floor := floor) S0 G6 hz hj hj hT2 fun H7 v7 G7 e7 R7 => ?_
    walk_at "rd"
    refine z_mkLetTerm G7.fr (rep_mono (e6.trans e7) _ _ R5) R7 fun H8 v8 sm R8 => ?_
    obtain ⟨G8, e8⟩ := G7.same sm
    refine z_bu (E := E) S0 G8 b R8 fun H9 G9 e9 R9 => ?_
    exact k _ _ G9 R9
  | ite hT hT2 hT3 b =>
    refine ifF (by rw [now_mk, hd_cons]; decide +kernel) ?_
    walk_at "rd"
    refine z_take S0 G1 fun H2 G2 _ e2 => ?_
    rw [now_mk, hd_cons]
    walk_at "no"
    refine z_rt (least := 1) (floor := 1) S0 G2 hz rfl rfl hT fun H5 v5 G5 e5 R5 => ?_
    walk_at "rd"
    refine z_need S0 G5 fun H6 G6 e6 => ?_
    walk_at "rd"
    refine z_rt (least := 1) (floor := 1) S0 G6 hz rfl rfl hT2 fun H7 v7 G7 e7 R7 => ?_
    walk_at "rd"
    refine z_need S0 G7 fun H8 G8 e8 => ?_
    walk_at "rd"
    refine z_built G8.1 ?_
    walk_at "rd"
    refine z_rt (least := 2) (floor := 2) S0 G8 hz rfl rfl hT3 fun H9 v9 G9 e9 R9 => ?_
    walk_at "rd"
    refine z_mkIfTerm G9.fr (rep_mono (((e6.trans e7).trans e8).trans e9) _ _ R5) (rep_mono (e8.trans e9) _ _ R7) R9 fun Ha va sm Ra => ?_
    obtain ⟨Ga, ea⟩ := G9.same sm
    refine z_bu (E := E) S0 Ga b Ra fun Hb Gb eb Rb => ?_
    exact k _ _ Gb Rb
theorem fn_dv {CX : CXT} {x q : Str} {params : Arguments} {body : List Stmt} {scope : Scope} {f : Addr} {fd : FuncData} {N ps : List Str} {dvs : List V} {k : Nat} {sp : Sp} (F : FunD K x q params body scope dvs [] f fd) (S : FnScope N ps scope)
    (len : ∀ vs H Q E, sp vs H Q E → vs.length = ps.length)
    (hbody : ∀ (cdv : Value) (A : Around) (outer : List Env) (s : Shared) (H : Hp) (vs : List V) (Q : VK) (E : XK), Room k (A.deeper (envOfC q scope s.heap.objs.size f cdv)) → sp vs H Q E →
      ∃ t, PSs (cxOf CX P w K mg base N q scope f cdv A outer s H E).nox body t ∧ t { nx := fun _ H' => Q .non H', rt := Q } (start N vs) H) : FnOk P w K mg base CX (k + 1) f fd ps sp := by
  refine F.ok S len fun cdv A outer s H vs Q E hr h => ?_
  obtain ⟨t, h1, h2⟩ := hbody cdv A outer s H vs Q E hr h
  exact ⟨t, h1.nox, h2⟩
theorem rl_int (g : Str) : ((strength g : Nat) : Int) + (if (!decide (V.str g = V.str ";")) = true then 1 else 0) = ((rl g : Nat) : Int) := by
  unfold rl
  by_cases h : g = (";" : Str)
  · rw [if_pos h, bSnf h]; rfl
  · rw [if_neg h, bSn h]; rfl
theorem sc_read_term : FnScope ["source", "least", "nest", "floor", "found", "sign", "other"] ["source", "least", "nest", "floor"] (defScope s_read_term) := ⟨rfl, rfl, rfl, by decide +kernel, rfl, by decide +kernel, by decide +kernel⟩
theorem fn_term (T : Tx K mg) {n : Nat} (IH : TermOk P w K mg base n) : ∃ fd, FnOk P w K mg base CX0 (5 * n + 14 + 1) (He.ga K "read_term") fd ["source", "least", "nest", "floor"] (spTerm K (n + 1)) ∧ FunD K "read_term" "read_term" (defArgs s_read_term) (defBody s_read_term) (defScope s_read_term) [.int 1] [] (He.ga K "read_term") fd := by
  obtain ⟨fd, F⟩ := T.f_read_term
  refine ⟨fd, fn_dv F sc_read_term (by walk_at "ln") (fun cdv A outer s H vs Q E hr h => ?_), F⟩
  obtain ⟨p, r, i, z, j, least, floor, s, s', t, rfl, hi, hj, hz, ⟨m, a, s1, hS, hL⟩, S0, k⟩ := h
  have hz1 : z + 1 + (n : Int) = 32 := by omega
  refine ⟨_, (pss_cons (ps_if (pt_cmpR op_ge (pv 2) (pe_gi T.c_MOST_NEST) (nomark _)) (pss_one ps_never) pss_nil)
    (pss_cons (ps_set (i := 4) sc_read_term.nd rfl (Or.inl rfl) (pe_cal (ok_read_start T IH) (hr.mono (by omega)) pass0 (pa_cons (pv 0) (pa_cons (pe_op op_add (pv 2) pe_int) (pa_cons (pv 3) pa_nil)))))
    (pss_cons (ps_while PassesOwn.never (pt_cmpR op_ge (pe_cal (ok_strength T) (hr.mono (by omega)) pass0 (pa_cons (pe_calm0 (pv 0) (okm_now T) (hr.mono (by omega)) pass0) pa_nil)) (pv 1) (nomark _)) (pss_cons (ps_set (i := 5) sc_read_term.nd rfl (Or.inl rfl) (pe_calm0 (pv 0) (okm_take T) (hr.mono (by omega)) pass0))
    (pss_cons (ps_set (i := 6) sc_read_term.nd rfl (Or.inl rfl) (pe_cal IH.1 (hr.mono (by omega)) pass0 (pa_cons (pv 0) (pa_cons (pe_op op_add (pe_cal (ok_strength T) (hr.mono (by omega)) pass0 (pa_cons (pv 5) pa_nil)) (pe_callTy call_int1 (by rfl) T.b_int (by decide +kernel) (pa_cons (pe_cmpR op_ne (pv 5) pe_str (nomark _)) pa_nil))) (pa_cons (pe_op op_add (pv 2) pe_int) (pa_cons (pv 3) pa_nil))))))
    (pss_cons (ps_set (i := 4) sc_read_term.nd rfl (Or.inl rfl) (pe_calm (pv 0) (okm_built T) (hr.mono (by omega)) pass0 (pa_cons (pe_calc (ok_TwoTerm T) (hr.mono (by omega)) pass0 (pa_cons (pv 5) (pa_cons (pv 4) (pa_cons (pv 6) pa_nil)))) pa_nil)))
    (pss_one (ps_if (PW.pt (pw_and (pt_cmpR op_eq (pe_cal (ok_strength T) (hr.mono (by omega)) pass0 (pa_cons (pv 5) pa_nil)) pe_int (nomark _)) (pw_and1 (pt_cmpR op_eq (pe_cal (ok_strength T) (hr.mono (by omega)) pass0 (pa_cons (pe_calm0 (pv 0) (okm_now T) (hr.mono (by omega)) pass0) pa_nil)) pe_int (nomark _))))) (pss_one ps_never) pss_nil))))))
    (pss_one (ps_ret (pv 4)))))), ?_⟩
  walk_at "rd"
  refine ifD (fun c => absurd c (by omega)) (fun _ => ?_)
  walk_at "rd"
  refine z_rst S0 (Go.start S0) hz1 hj hS fun H1 v1 G1 e1 R1 => ?_
  walk_at "rd"
  refine z_while (fun m σ Hc => ∃ u v c1 c2 s2, σ = [some (.ref p), some (.int i), some (.int z), some (.int j), some v, c1, c2] ∧ Go K p r H Hc s2 ∧ RepT K (nw H Hc) u v ∧ TermL (EH.Term n) least floor m u s2 t s') m ⟨_, _, _, _, _, rfl, G1, R1, hL⟩ ?_
  rintro m σ Hc ⟨u, v, c1, c2, s2, rfl, G, R, hC⟩
  walk_at "rd"
  refine z_now G ?_
  walk_at "rd"
  refine ⟨_, rfl, ?_⟩
  walk_at "rd"
  cases hC with
  | stop hn =>
    refine z_whF (decide_eq_false (by omega)) ?_
    walk_at "rd"
    exact k _ _ G R
  | @step _ _ g rr op md bt s3 s4 _ _ hn hT b hno hC =>
    refine z_whT (decide_eq_true (by rw [now_mk, hd_cons]; omega)) ?_
    walk_at "rd"
    refine z_take S0 G fun H2 G2 _ e2 => ?_
    walk_at "rd"
    refine ⟨_, rfl, ?_⟩
    walk_at "rd"
    refine .inr ⟨_, rfl, ?_⟩
    walk_at "rd"
    refine z_rt (least := rl g) (floor := floor) S0 G2 hz1 (rl_int g) hj hT fun H3 v3 G3 e3 R3 => ?_
    walk_at "rd"
    refine z_built G3.1 ?_
    walk_at "rd"
    refine z_mkTwoTerm G3.fr (rep_mono (e2.trans e3) _ _ R) R3 fun H4 v4 sm R4 => ?_
    obtain ⟨G4, e4⟩ := G3.same sm
    refine z_bu (E := E) S0 G4 b R4 fun H5 G5 e5 R5 => ?_
    walk_at "rd"
    refine ⟨_, rfl, ?_⟩
    walk_at "rd"
    refine ifI (fun c => ?_) (fun c => ?_)
    · walk_at "rd"
      refine z_now G5 ?_
      walk_at "rd"
      refine ⟨_, rfl, ?_⟩
      walk_at "rd"
      refine ifI (fun c5 => absurd ⟨by omega, by omega⟩ hno) (fun _ => ?_)
      walk_at "rd"
      exact ⟨_, Nat.lt_succ_self _, _, _, _, _, _, rfl, G5, R5, hC⟩
    · walk_at "rd"
      exact ⟨_, Nat.lt_succ_self _, _, _, _, _, _, rfl, G5, R5, hC⟩
theorem term_ok (T : Tx K mg) : ∀ n, TermOk P w K mg base n := by
  have close : ∀ (n : Nat) (fd : FuncData), FnOk P w K mg base CX0 (5 * n + 10) (He.ga K "read_term") fd ["source", "least", "nest", "floor"] (spTerm K n) → FunD K "read_term" "read_term" (defArgs s_read_term) (defBody s_read_term) (defScope s_read_term) [.int 1] [] (He.ga K "read_term") fd → TermOk P w K mg base n := by
    intro n fd FO F
    obtain ⟨ds4, v4, b4⟩ := F.binds1 (ps := ["source", "least", "nest", "floor"]) 4 1 (by simp) rfl fun Ta kV doc pm an cdv ct us its hu hi => match us, hu, its, hi with | [_, _, _, _], _, [_], _ => ⟨_, rfl, rfl⟩
    obtain ⟨ds3, v3, b3⟩ := F.binds1 (ps := ["source", "least", "nest", "floor"]) 3 0 (by simp) rfl fun Ta kV doc pm an cdv ct us its hu hi => match us, hu, its, hi with | [_, _, _], _, [_], _ => ⟨_, rfl, rfl⟩
    exact ⟨⟨_, fd, ds4, FO, T.g_read_term, F.kp, v4, b4⟩, ⟨_, fd, ds3, FO, T.g_read_term, F.kp, v3, b3⟩⟩
  intro n
  induction n with
  | zero =>
    obtain ⟨fd, F⟩ := T.f_read_term
    refine close 0 fd (fn_dv (k := 9) F sc_read_term (by walk_at "ln") (fun cdv A outer s H vs Q E hr h => ?_)) F
    obtain ⟨p, r, i, z, j, least, floor, s, s', t, rfl, hi, hj, hz, hT, S0, k⟩ := h
    exact hT.elim
  | succ n ih =>
    obtain ⟨fd, FO, F⟩ := fn_term (P := P) (w := w) (base := base) T ih
    exact close (n + 1) fd FO F
end
end EH

set_option Elab.async false
set_option maxRecDepth 100000
set_option maxHeartbeats 4000000
set_option linter.unusedVariables false

/-! Params, houses. -/
namespace EH
open PySem PySem.Spec PyProof.Rows L2 TL
def pairD (q : Str × Str) : PyData := .tuple [.str q.1, .str q.2]
def parD (ps : List (Str × Str)) : PyData := .tuple (ps.map pairD)
theorem params_len {m : Nat} {acc out : List (Str × Str)} {s s' : Src} (h : ParamsL m acc s out s') (ha : acc.length ≤ 4) : out.length ≤ 4 := by
  induction h with
  | stop _ => exact ha
  | one _ _ _ ih => exact ih (by show 1 ≤ 4; omega)
  | more _ _ _ hl _ ih => exact ih hl
local macro_rules | `(tactic| walk_at "rd1") => `(tactic| (first
  | with_reducible refine z_seq ?_ | with_reducible refine z_ifs ?_ | with_reducible refine z_next ?_ | with_reducible refine z_ret ?_ | with_reducible refine z_asg ?_ | with_reducible refine z_gname ?_
  | ((with_reducible apply z_var); exact rfl) | with_reducible refine z_c ?_ | with_reducible refine z_op ?_ | with_reducible refine z_bl ?_ | with_reducible refine z_test ?_ | with_reducible refine z_B ?_
  | with_reducible refine z_nil ?_ | with_reducible refine z_cons ?_ | with_reducible refine z_cb ?_ | with_reducible refine z_call ?_ | with_reducible refine iteT ?_ | with_reducible refine iteF ?_
  | with_reducible refine z_or ?_ | with_reducible refine z_and ?_ | with_reducible refine z_not ?_ | with_reducible refine z_orv ?_ | with_reducible refine z_andv ?_ | with_reducible refine z_notv ?_ | with_reducible refine z_un ?_
  | with_reducible refine z_eqS ?_ | with_reducible refine z_neS ?_ | with_reducible refine z_eqI ?_ | with_reducible refine z_neI ?_ | with_reducible refine z_i0 ?_ | with_reducible refine z_radd ?_ | with_reducible refine z_rsub ?_ | with_reducible refine z_iu ?_
  | with_reducible refine z_fld ?_ | with_reducible refine z_meth ?_ | with_reducible refine z_sfld ?_ | with_reducible refine z_flda ?_ | with_reducible refine z_make ?_ | with_reducible refine z_drop ?_ | with_reducible refine z_retn ?_ | with_reducible refine z_cont ?_
  | with_reducible refine z_tup ?_ | with_reducible refine z_lst ?_ | with_reducible refine z_slice ?_ | with_reducible refine z_nopart ?_ | with_reducible refine z_part ?_ | with_reducible refine z_intr ?_ | with_reducible refine z_m1 ?_ | with_reducible refine z_lc ?_ | with_reducible refine z_yes ?_ | with_reducible refine z_il ?_ | with_reducible refine z_it ?_ | with_reducible refine z_bm ?_ | with_reducible refine z_for ?_ | with_reducible refine z_gcons ?_ | with_reducible refine z_gnil ?_))
local macro_rules | `(tactic| walk_at "rd") => `(tactic| repeat (walk_at "rd1"))
local macro_rules | `(tactic| walk_at "no") => `(tactic| repeat (first | refine ifF (bSf (by decide +kernel)) ?_ | refine ifF (bSf num_ne) ?_ | (walk_at "rd1")))
local macro_rules | `(tactic| walk_at "ln") => `(tactic| (rintro vs H Q E h; repeat (first | (obtain ⟨e, _⟩ := h; subst e; rfl) | (obtain ⟨_, h⟩ := h))))
section
variable {P : Program} {w : World} {K : PySem.W.Frag} {mg : Str → Option Value} {base : Heap}
def spParams (K : PySem.W.Frag) : Sp := fun vs H Q _ => ∃ (p r : Addr) (s s' : Src) (ps : List (Str × Str)), vs = [.ref p] ∧ ParamsR s ps s' ∧ SrcOk K H p r s ∧ ∀ H' u, Go K p r H H' s' → Dp K (nw H H') u (parD ps) → Q u H'
/-- a pair of texts at the end of a new list -/
theorem pair_app {H H4 H5 : Hp} {F tp : Addr} {vs : List V} {ds : List PyData} {x k : Str} (hF : H F = none) (hF4 : H4 F = some (.lst vs)) (htp : H4 tp = none) (f : Fr H H4) (A : DpAll K (cut F (nw H H4)) vs ds)
    (e5 : H5 = upd (upd H4 tp (.tup [.str x, .str k])) F (.lst (vs ++ [.ref tp]))) : DpAll K (cut F (nw H H5)) (vs ++ [.ref tp]) (ds ++ [pairD (x, k)]) := by
  have n : tp ≠ F := fun z => by rw [z, hF4] at htp; cases htp
  refine DpAll.app (DpAll.mono (fun b o e => ?_) A) (.cons (.tup (SqT.of (cut_of (nw_of (f _ htp) (by rw [e5, upd_ne n, upd_same])) n)) (.cons (.str _) (.cons (.str _) .nil))) .nil)
  obtain ⟨n1, e⟩ := cut_at e
  obtain ⟨e1, e2⟩ := nw_at e
  exact cut_of (nw_of e1 (by rw [e5, upd_ne n1]; exact Same.new htp _ _ e2)) n1
theorem sc_read_params : FnScope ["source", "found", "name"] ["source"] (defScope s_read_params) := ⟨rfl, rfl, rfl, by decide +kernel, rfl, by decide +kernel, by decide +kernel⟩
theorem ok_read_params (T : Tx K mg) : Cal P w K mg base CX0 7 "read_params" ["source"] [] (spParams K) := by
  obtain ⟨fd, F⟩ := T.f_read_params
  refine cal_def F T.g_read_params sc_read_params (fun _ _ _ _ _ _ us hl => match us, hl with | [_], _ => rfl) (by walk_at "ln") (fun cdv A outer s H vs Q E hr h => ?_)
  obtain ⟨p, r, ⟨sts, op, md⟩, s', ps, rfl, ⟨l, m, s1, r1, e1, ho, hg, e2, rfl⟩, S0, k⟩ := h
  dsimp only at e1 ho hg
  subst e1
  refine ⟨_, (pss_cons (ps_set (i := 1) sc_read_params.nd rfl (Or.inl rfl) (pe_lst pa_nil))
    (pss_cons (ps_expr (pe_calm0 (pv 0) (okm_open_one T) (hr.mono (by decide)) pass0))
    (pss_cons (ps_while PassesOwn.never (pt_cmpR op_ne (pe_calm0 (pv 0) (okm_now T) (hr.mono (by decide)) pass0) pe_str (nomark _)) (pss_cons (ps_if (pt_cmpR (op_neE hr.units) (pv 1) (pe_lst pa_nil) (nomark _)) (pss_one (ps_expr (pe_calm (pv 0) (okm_need T) (hr.mono (by decide)) pass0 (pa_cons pe_str pa_nil)))) pss_nil)
    (pss_cons (ps_set (i := 2) sc_read_params.nd rfl (Or.inl rfl) (pe_calm0 (pv 0) (okm_need_name T) (hr.mono (by decide)) pass0))
    (pss_cons (ps_expr (pe_bm PySem.F.plainAttrs_list PySem.F.slot_list_append PySem.F.type_list_append mt_append (pv 1) (pa_cons (pe_tup (pa_cons (pv 2) (pa_cons (pe_calm0 (pv 0) (okm_need_kind T) (hr.mono (by decide)) pass0) pa_nil))) pa_nil)))
    (pss_one (ps_if (pt_cmpR op_gt (pe_callB call_len_seq (by rfl) T.b_len PySem.boot_len (pa_cons (pv 1) pa_nil)) (pe_gi T.c_MOST_PARAMS) (nomark _)) (pss_one ps_never) pss_nil))))))
    (pss_cons (ps_expr (pe_calm0 (pv 0) (okm_close_one T) (hr.mono (by decide)) pass0))
    (pss_one (ps_ret (pe_callTy call_tuple_of (by rfl) T.b_tuple (by decide +kernel) (pa_cons (pv 1) pa_nil)))))))), ?_⟩
  have h4 := params_len hg (by decide)
  walk_at "rd"
  refine z_lstr (by show 0 ≤ 100000; omega) fun F hF => ?_
  obtain ⟨G1, _⟩ := (Go.start S0).app S0 hF (o := .lst [])
  walk_at "rd"
  refine z_opn S0 G1 ho fun H2 G2 e2' => ?_
  have hF2 := (nw_at (e2' F _ (nw_of hF upd_same))).2
  walk_at "rd"
  refine z_while (fun j σ Hc => ∃ acc vs c s2, σ = [some (.ref p), some (.ref F), c] ∧ Go K p r H Hc s2 ∧ Hc F = some (.lst vs) ∧ DpAll K (cut F (nw H Hc)) vs (acc.map pairD) ∧ acc.length ≤ 4 ∧ ParamsL j acc s2 ps s1) m ⟨[], [], _, _, rfl, G2, hF2, .nil, by decide, hg⟩ ?_
  rintro j σ Hc ⟨acc, vs, c, s2, rfl, G, hFc, A, ha, hg⟩
  have hv := DpAll.len A
  rw [List.length_map] at hv
  walk_at "rd"
  refine z_now G ?_
  walk_at "rd"
  cases hg with
  | stop e =>
    obtain ⟨sts, op2, md2⟩ := s1
    dsimp only at e e2 G k ⊢
    subst e2
    refine z_whF (bSnf (by rw [now_mk, hd_cons])) ?_
    walk_at "rd"
    refine z_cls S0 G fun H5 G5 e5 => ?_
    walk_at "rd"
    have hF5 := (nw_at (e5 F _ (nw_of hF hFc))).2
    refine ⟨F, vs, rfl, .inl ⟨SqL.of hF5, fun l hl => ?_⟩⟩
    obtain ⟨G6, e6⟩ := G5.same (Same.new hl (o := .tup vs))
    exact k _ _ G6 (.tup (SqT.of (nw_of (G5.fr _ hl) upd_same)) (DpAll.mono ((cut_same F _).trans (e5.trans e6)) A))
  | one hx hk hg =>
    refine z_whT (bSn (by rw [now_mk, hd_cons]; exact name_ne hx)) ?_
    have ev : vs = [] := List.length_eq_zero_iff.mp hv
    subst ev
    walk_at "rd"
    refine z_lstr (by show 0 ≤ 100000; omega) fun F2 hF2 => ?_
    have nF : F ≠ F2 := ne_of_none hFc hF2
    refine z_neE (xs := []) (SqL.of (by rw [upd_ne nF]; exact hFc)) (SqL.of upd_same) ?_
    walk_at "rd"
    refine ifF (by simp) ?_
    obtain ⟨Gd, ed⟩ := G.same (Same.new hF2 (o := .lst []))
    have hFd : upd Hc F2 (.lst []) F = some (.lst []) := by rw [upd_ne nF]; exact hFc
    walk_at "rd"
    refine z_nname S0 Gd hx fun H3 G3 e3 => ?_
    have hF3 := (nw_at (e3 F _ (nw_of hF hFd))).2
    walk_at "rd"
    refine z_bml (SqL.of hF3) ?_
    walk_at "rd"
    refine z_nkind S0 G3 hk fun H4 G4 e4 => ?_
    have hF4 := (nw_at (e4 F _ (nw_of hF hF3))).2
    walk_at "rd"
    refine z_tupr (by show 2 ≤ 100000; omega) fun tp htp => ?_
    have nT : F ≠ tp := ne_of_none hF4 htp
    obtain ⟨G5, e5⟩ := G4.same (Same.new htp (o := .tup [.str _, .str _]))
    walk_at "rd"
    refine z_appd (by rw [upd_ne nT]; exact hF4) (by show 0 ≤ 50000; omega) ?_
    obtain ⟨G6, e6⟩ := G5.app S0 hF (o := .lst ([] ++ [.ref tp]))
    walk_at "rd"
    refine ⟨F, _, rfl, .inl (SqL.of upd_same), ?_⟩
    walk_at "rd"
    refine ifD (fun c => absurd c (by show ¬ (4 : Int) < ((1 : Nat) : Int); omega)) (fun _ => ?_)
    exact ⟨_, Nat.lt_succ_self _, _, _, _, _, rfl, G6, upd_same, pair_app hF hF4 htp G4.fr (DpAll.mono (cut_mono (ed.trans (e3.trans e4))) A) rfl, by show 1 ≤ 4; omega, hg⟩
  | more h0 hx hk hl hg =>
    refine z_whT (bSn (by rw [now_mk, hd_cons]; decide +kernel)) ?_
    walk_at "rd"
    refine z_lstr (by show 0 ≤ 100000; omega) fun F2 hF2 => ?_
    have nF : F ≠ F2 := ne_of_none hFc hF2
    refine z_neE (xs := vs) (SqL.of (by rw [upd_ne nF]; exact hFc)) (SqL.of upd_same) ?_
    walk_at "rd"
    have hv0 : vs ≠ [] := fun z => h0 (List.length_eq_zero_iff.mp (by rw [← hv, z]; rfl))
    refine ifT (decide_eq_true hv0) ?_
    obtain ⟨Gd, ed0⟩ := G.same (Same.new hF2 (o := .lst []))
    have hFd0 : upd Hc F2 (.lst []) F = some (.lst vs) := by rw [upd_ne nF]; exact hFc
    walk_at "rd"
    refine z_need S0 Gd fun Hd Gd ed1 => ?_
    have ed := ed0.trans ed1
    have hFd := (nw_at (ed1 F _ (nw_of hF hFd0))).2
    walk_at "rd"
    refine z_nname S0 Gd hx fun H3 G3 e3 => ?_
    have hF3 := (nw_at (e3 F _ (nw_of hF hFd))).2
    walk_at "rd"
    refine z_bml (SqL.of hF3) ?_
    walk_at "rd"
    refine z_nkind S0 G3 hk fun H4 G4 e4 => ?_
    have hF4 := (nw_at (e4 F _ (nw_of hF hF3))).2
    walk_at "rd"
    refine z_tupr (by show 2 ≤ 100000; omega) fun tp htp => ?_
    have nT : F ≠ tp := ne_of_none hF4 htp
    obtain ⟨G5, e5⟩ := G4.same (Same.new htp (o := .tup [.str _, .str _]))
    walk_at "rd"
    refine z_appd (by rw [upd_ne nT]; exact hF4) (by omega) ?_
    obtain ⟨G6, e6⟩ := G5.app S0 hF (o := .lst (vs ++ [.ref tp]))
    walk_at "rd"
    refine ⟨F, _, rfl, .inl (SqL.of upd_same), ?_⟩
    walk_at "rd"
    refine ifD (fun c => absurd c ?_) (fun _ => ?_)
    · rw [List.length_append] at hl ⊢
      show ¬ (4 : Int) < ((vs.length + 1 : Nat) : Int)
      have : acc.length + 1 ≤ 4 := hl
      omega
    refine ⟨_, Nat.lt_succ_self _, _, _, _, _, rfl, G6, upd_same, ?_, hl, hg⟩
    rw [List.map_append]
    exact pair_app hF hF4 htp G4.fr (DpAll.mono (cut_mono (ed.trans (e3.trans e4))) A) rfl
end
end EH

set_option Elab.async false
set_option maxRecDepth 100000
set_option maxHeartbeats 4000000
set_option linter.unusedVariables false

/-! Houses. Printed by mkw10.py. -/
namespace EH
open PySem PySem.Spec PyProof.Rows L2 TL
def All2 {α : Type} (R : α → V → Prop) : List α → List V → Prop
  | [], vs => vs = []
  | a :: l, vs => ∃ v r, vs = v :: r ∧ R a v ∧ All2 R l r
section
variable {α : Type} {R R' : α → V → Prop}
theorem All2.mono (h : ∀ a v, R a v → R' a v) : ∀ {l : List α} {vs : List V}, All2 R l vs → All2 R' l vs
  | [], _, e => e
  | _ :: _, _, ⟨v, r, e, h1, h2⟩ => ⟨v, r, e, h _ _ h1, All2.mono h h2⟩
theorem All2.len : ∀ {l : List α} {vs : List V}, All2 R l vs → vs.length = l.length
  | [], _, e => by rw [show _ = [] from e]; rfl
  | _ :: l, _, ⟨v, r, e, _, h2⟩ => by rw [e, List.length_cons, All2.len h2]; rfl
theorem All2.app {a : α} {v : V} : ∀ {l : List α} {vs : List V}, All2 R l vs → R a v → All2 R (l ++ [a]) (vs ++ [v])
  | [], _, e, h => by rw [show _ = [] from e]; exact ⟨v, [], rfl, h, rfl⟩
  | _ :: _, _, ⟨w, r, e, h1, h2⟩, h => by rw [e]; exact ⟨w, r ++ [v], rfl, h1, All2.app h2 h⟩
theorem All2.at : ∀ {l : List α} {vs : List V} {i : Nat} {v : V}, All2 R l vs → vs[i]? = some v → ∃ a, l[i]? = some a ∧ R a v
  | [], _, i, v, h, e => by rw [show _ = [] from h] at e; simp at e
  | a :: l, _, 0, v, ⟨w, r, ev, h1, _⟩, e => by
    rw [ev] at e
    have := Option.some.inj (show some w = some v from e)
    exact ⟨a, rfl, this ▸ h1⟩
  | a :: l, _, i + 1, v, ⟨w, r, ev, _, h2⟩, e => by
    rw [ev] at e
    exact All2.at (i := i) h2 e
end
theorem fields_len {m : Nat} {acc out : List (Str × Str)} {s s' : Src} (h : FieldsL m acc s out s') : acc.length ≤ out.length := by
  induction h with
  | stop _ => exact Nat.le_refl _
  | step _ _ _ ih => rw [List.length_append] at ih; omega
theorem words_len {m : Nat} {acc out : List Wd} {s s' : Src} (h : WordsL m acc s out s') : acc.length ≤ out.length := by
  induction h with
  | stop _ => exact Nat.le_refl _
  | step _ _ _ _ _ ih => rw [List.length_append] at ih; omega
def eldV : Option Str → V
  | none => .non
  | some e => .str e
local macro_rules | `(tactic| walk_at "rd1") => `(tactic| (first
  | with_reducible refine z_seq ?_ | with_reducible refine z_ifs ?_ | with_reducible refine z_next ?_ | with_reducible refine z_ret ?_ | with_reducible refine z_asg ?_ | with_reducible refine z_gname ?_
  | ((with_reducible apply z_var); exact rfl) | with_reducible refine z_c ?_ | with_reducible refine z_op ?_ | with_reducible refine z_bl ?_ | with_reducible refine z_test ?_ | with_reducible refine z_B ?_
  | with_reducible refine z_nil ?_ | with_reducible refine z_cons ?_ | with_reducible refine z_cb ?_ | with_reducible refine z_call ?_ | with_reducible refine iteT ?_ | with_reducible refine iteF ?_
  | with_reducible refine z_or ?_ | with_reducible refine z_and ?_ | with_reducible refine z_not ?_ | with_reducible refine z_orv ?_ | with_reducible refine z_andv ?_ | with_reducible refine z_notv ?_ | with_reducible refine z_un ?_
  | with_reducible refine z_eqS ?_ | with_reducible refine z_neS ?_ | with_reducible refine z_eqI ?_ | with_reducible refine z_neI ?_ | with_reducible refine z_i0 ?_ | with_reducible refine z_radd ?_ | with_reducible refine z_rsub ?_ | with_reducible refine z_iu ?_
  | with_reducible refine z_fld ?_ | with_reducible refine z_meth ?_ | with_reducible refine z_sfld ?_ | with_reducible refine z_flda ?_ | with_reducible refine z_make ?_ | with_reducible refine z_drop ?_ | with_reducible refine z_retn ?_ | with_reducible refine z_cont ?_
  | with_reducible refine z_tup ?_ | with_reducible refine z_lst ?_ | with_reducible refine z_slice ?_ | with_reducible refine z_nopart ?_ | with_reducible refine z_part ?_ | with_reducible refine z_intr ?_ | with_reducible refine z_m1 ?_ | with_reducible refine z_lc ?_ | with_reducible refine z_yes ?_ | with_reducible refine z_il ?_ | with_reducible refine z_it ?_ | with_reducible refine z_bm ?_ | with_reducible refine z_for ?_ | with_reducible refine z_gcons ?_ | with_reducible refine z_gnil ?_))
local macro_rules | `(tactic| walk_at "rd") => `(tactic| repeat (walk_at "rd1"))
local macro_rules | `(tactic| walk_at "no") => `(tactic| repeat (first | refine ifF (bSf (by decide +kernel)) ?_ | refine ifF (bSf num_ne) ?_ | (walk_at "rd1")))
local macro_rules | `(tactic| walk_at "ln") => `(tactic| (rintro vs H Q E h; repeat (first | (obtain ⟨e, _⟩ := h; subst e; rfl) | (obtain ⟨_, h⟩ := h))))
section
variable {P : Program} {w : World} {K : PySem.W.Frag} {mg : Str → Option Value} {base : Heap}
def RepW (K : PySem.W.Frag) (H : Hp) (w : Wd) (v : V) : Prop := ∃ a pv tv, v = .ref a ∧ SqT K H a [.str w.name, pv, .str w.kind, tv] ∧ Dp K H pv (parD w.params) ∧ RepT K H w.body tv
def RepH (K : PySem.W.Frag) (H : Hp) (h : Hs) (v : V) : Prop := ∃ a ft tl ws, v = .ref a ∧ SqT K H a [.str h.name, eldV h.elder, .ref ft, .ref tl] ∧ Dp K H (.ref ft) (parD h.fields) ∧ H tl = some (.lst ws) ∧ All2 (RepW K H) h.words ws
theorem repW_mono {H H' : Hp} (s : Same H H') (w : Wd) (v : V) (h : RepW K H w v) : RepW K H' w v := by
  obtain ⟨a, pv, tv, e, h1, h2, h3⟩ := h
  exact ⟨a, pv, tv, e, Same.seqT s h1, Dp.mono s h2, rep_mono s _ _ h3⟩
theorem repH_mono {H H' : Hp} (s : Same H H') (h : Hs) (v : V) (r : RepH K H h v) : RepH K H' h v := by
  obtain ⟨a, ft, tl, ws, e, h1, h2, h3, h4⟩ := r
  exact ⟨a, ft, tl, ws, e, Same.seqT s h1, Dp.mono s h2, s _ _ h3, All2.mono (fun w v q => repW_mono s w v q) h4⟩
def spHouse (K : PySem.W.Frag) : Sp := fun vs H Q _ => ∃ (p r : Addr) (s s' : Src) (h : Hs), vs = [.ref p] ∧ HouseR s h s' ∧ SrcOk K H p r s ∧ ∀ H' u, Go K p r H H' s' → RepH K (nw H H') h u → Q u H'
theorem z_rp {p r : Addr} {H Hc : Hp} {s0 s s' : Src} {Q : VK} {E : XK} {ps : List (Str × Str)} (S0 : SrcOk K H p r s0) (G : Go K p r H Hc s) (hT : ParamsR s ps s') (h : ∀ H' v, Go K p r H H' s' → Same (nw H Hc) (nw H H') → Dp K (nw Hc H') v (parD ps) → Q v H') : spParams K [.ref p] Hc Q E :=
  ⟨p, r, s, s', ps, rfl, hT, G.1, fun H' v g rp => let ⟨g', e⟩ := G.next S0 g.1 g.2; h H' v g' e rp⟩
theorem new_cut0 {H Hc : Hp} {F : Addr} {o : HO} (hF : Hc F = none) : Same (nw H Hc) (cut F (nw H (upd Hc F o))) := fun b w e => by
  obtain ⟨e1, e2⟩ := nw_at e
  have n : b ≠ F := fun z => by rw [z, hF] at e2; cases e2
  exact cut_of (nw_of e1 (by rw [upd_ne n]; exact e2)) n
theorem cut_app {H Hc : Hp} {F : Addr} {o : HO} : Same (cut F (nw H Hc)) (cut F (nw H (upd Hc F o))) := fun b w e => by
  obtain ⟨n, e⟩ := cut_at e
  obtain ⟨e1, e2⟩ := nw_at e
  exact cut_of (nw_of e1 (by rw [upd_ne n]; exact e2)) n
theorem sc_read_house : FnScope ["source", "name", "elder", "fields", "field", "told", "word", "params", "kind"] ["source"] (defScope s_read_house) := ⟨rfl, rfl, rfl, by decide +kernel, rfl, by decide +kernel, by decide +kernel⟩
theorem ok_read_house (T : Tx K mg) : Cal P w K mg base CX0 171 "read_house" ["source"] [] (spHouse K) := by
  obtain ⟨fd, F⟩ := T.f_read_house
  refine cal_def F T.g_read_house sc_read_house (fun _ _ _ _ _ _ us hl => match us, hl with | [_], _ => rfl) (by walk_at "ln") (fun cdv A outer s H vs Q E hr h => ?_)
  obtain ⟨p, r, s, s', h, rfl, hH, S0, k⟩ := h
  refine ⟨_, (pss_cons (ps_expr (pe_calm (pv 0) (okm_need T) (hr.mono (by decide)) pass0 (pa_cons pe_str pa_nil)))
    (pss_cons (ps_set (i := 1) sc_read_house.nd rfl (Or.inl rfl) (pe_calm0 (pv 0) (okm_need_name T) (hr.mono (by decide)) pass0))
    (pss_cons (ps_set (i := 2) sc_read_house.nd rfl (Or.inl rfl) pe_non)
    (pss_cons (ps_if (pt_cmpR op_eq (pe_calm0 (pv 0) (okm_now T) (hr.mono (by decide)) pass0) pe_str (nomark _)) (pss_cons (ps_expr (pe_calm0 (pv 0) (okm_take T) (hr.mono (by decide)) pass0))
    (pss_one (ps_set (i := 2) sc_read_house.nd rfl (Or.inl rfl) (pe_calm0 (pv 0) (okm_need_name T) (hr.mono (by decide)) pass0)))) pss_nil)
    (pss_cons (ps_expr (pe_calm (pv 0) (okm_need T) (hr.mono (by decide)) pass0 (pa_cons pe_str pa_nil)))
    (pss_cons (ps_set (i := 3) sc_read_house.nd rfl (Or.inl rfl) (pe_lst pa_nil))
    (pss_cons (ps_while PassesOwn.never (pt_cmpR op_eq (pe_calm0 (pv 0) (okm_now T) (hr.mono (by decide)) pass0) pe_str (nomark _)) (pss_cons (ps_expr (pe_calm0 (pv 0) (okm_take T) (hr.mono (by decide)) pass0))
    (pss_cons (ps_set (i := 4) sc_read_house.nd rfl (Or.inl rfl) (pe_calm0 (pv 0) (okm_need_name T) (hr.mono (by decide)) pass0))
    (pss_one (ps_expr (pe_bm PySem.F.plainAttrs_list PySem.F.slot_list_append PySem.F.type_list_append mt_append (pv 3) (pa_cons (pe_tup (pa_cons (pv 4) (pa_cons (pe_calm0 (pv 0) (okm_need_kind T) (hr.mono (by decide)) pass0) pa_nil))) pa_nil)))))))
    (pss_cons (ps_set (i := 5) sc_read_house.nd rfl (Or.inl rfl) (pe_lst pa_nil))
    (pss_cons (ps_while PassesOwn.never (pt_cmpR op_eq (pe_calm0 (pv 0) (okm_now T) (hr.mono (by decide)) pass0) pe_str (nomark _)) (pss_cons (ps_expr (pe_calm0 (pv 0) (okm_take T) (hr.mono (by decide)) pass0))
    (pss_cons (ps_set (i := 6) sc_read_house.nd rfl (Or.inl rfl) (pe_calm0 (pv 0) (okm_need_name T) (hr.mono (by decide)) pass0))
    (pss_cons (ps_set (i := 7) sc_read_house.nd rfl (Or.inl rfl) (pe_cal (ok_read_params T) (hr.mono (by decide)) pass0 (pa_cons (pv 0) pa_nil)))
    (pss_cons (ps_set (i := 8) sc_read_house.nd rfl (Or.inl rfl) (pe_calm0 (pv 0) (okm_need_kind T) (hr.mono (by decide)) pass0))
    (pss_cons (ps_expr (pe_calm (pv 0) (okm_need T) (hr.mono (by decide)) pass0 (pa_cons pe_str pa_nil)))
    (pss_one (ps_expr (pe_bm PySem.F.plainAttrs_list PySem.F.slot_list_append PySem.F.type_list_append mt_append (pv 5) (pa_cons (pe_tup (pa_cons (pv 6) (pa_cons (pv 7) (pa_cons (pv 8) (pa_cons (pe_cal (term_ok T 32).2 (hr.mono (by decide)) pass0 (pa_cons (pv 0) (pa_cons pe_int (pa_cons pe_int pa_nil)))) pa_nil))))) pa_nil))))))))))
    (pss_cons (ps_expr (pe_calm (pv 0) (okm_need T) (hr.mono (by decide)) pass0 (pa_cons pe_str pa_nil)))
    (pss_cons (ps_if (PW.pt (pw_or (pt_cmpR op_gt (pe_callB call_len_seq (by rfl) T.b_len PySem.boot_len (pa_cons (pv 3) pa_nil)) (pe_gi T.c_MOST_FIELDS) (nomark _)) (pw_or1 (pt_cmpR op_gt (pe_callB call_len_seq (by rfl) T.b_len PySem.boot_len (pa_cons (pv 5) pa_nil)) (pe_gi T.c_MOST_WORDS) (nomark _))))) (pss_one ps_never) pss_nil)
    (pss_one (ps_ret (pe_tup (pa_cons (pv 1) (pa_cons (pv 2) (pa_cons (pe_callTy call_tuple_of (by rfl) T.b_tuple (by decide +kernel) (pa_cons (pv 3) pa_nil)) (pa_cons (pv 5) pa_nil)))))))))))))))))), ?_⟩
  walk_at "rd"
  cases hH with
  | @plain x rr op md m1 fs s1 m2 wds r2 op2 md2 hx hfl hwl h4 h8 =>
    refine z_need S0 (Go.start S0) fun H1 G1 e1 => ?_
    walk_at "rd"
    refine z_nname S0 G1 hx fun H2 G2 e2 => ?_
    walk_at "rd"
    refine z_now G2 ?_
    walk_at "rd"
    refine ifF (bSf (by rw [now_mk, hd_cons]; decide +kernel)) ?_
    walk_at "rd"
    refine z_need S0 G2 fun H3 G3 e3 => ?_
    walk_at "rd"
    refine z_lstr (by show 0 ≤ 100000; omega) fun F hF0 => ?_
    have hF := G3.fr F hF0
    obtain ⟨G4, _⟩ := G3.app S0 hF (o := .lst [])
    walk_at "rd"
    refine z_while (fun j σ Hc => ∃ acc vs c4 s2, σ = [some (.ref p), some (.str x), some V.non, some (.ref F), c4, none, none, none, none] ∧ Go K p r H Hc s2 ∧ Hc F = some (.lst vs) ∧ DpAll K (cut F (nw H Hc)) vs (acc.map pairD) ∧ FieldsL j acc s2 fs s1) m1 ⟨[], [], _, _, rfl, G4, upd_same, .nil, hfl⟩ ?_
    rintro j σ Hc ⟨acc, vs, c4, s2, rfl, G, hFc, A, hg⟩
    have hv := DpAll.len A
    rw [List.length_map] at hv
    walk_at "rd"
    refine z_now G ?_
    walk_at "rd"
    cases hg with
    | step hx hk hg =>
      have ha := fields_len hg
      rw [List.length_append] at ha
      have ha2 : acc.length + 1 ≤ 4 := Nat.le_trans ha h4
      refine z_whT (bS (by rw [now_mk, hd_cons])) ?_
      walk_at "rd"
      refine z_take S0 G fun H3 G3 _ e3 => ?_
      have hF3 := (nw_at (e3 F _ (nw_of hF hFc))).2
      walk_at "rd"
      refine z_nname S0 G3 hx fun H3' G3' e3' => ?_
      have hF3' := (nw_at (e3' F _ (nw_of hF hF3))).2
      walk_at "rd"
      refine z_bml (SqL.of hF3') ?_
      walk_at "rd"
      refine z_nkind S0 G3' hk fun H4 G4 e4 => ?_
      have hF4 := (nw_at (e4 F _ (nw_of hF hF3'))).2
      walk_at "rd"
      refine z_tupr (by show 2 ≤ 100000; omega) fun tp htp => ?_
      have nT : F ≠ tp := ne_of_none hF4 htp
      obtain ⟨G5, e5⟩ := G4.same (Same.new htp (o := .tup [.str _, .str _]))
      walk_at "rd"
      refine z_appd (by rw [upd_ne nT]; exact hF4) (by omega) ?_
      obtain ⟨G6, e6⟩ := G5.app S0 hF (o := .lst (vs ++ [.ref tp]))
      refine ⟨_, Nat.lt_succ_self _, _, _, _, _, rfl, G6, upd_same, ?_, hg⟩
      rw [List.map_append]
      exact pair_app hF hF4 htp G4.fr (DpAll.mono (cut_mono (e3.trans (e3'.trans e4))) A) rfl
    | stop hn =>
      refine z_whF (bSf hn) ?_
      walk_at "rd"
      refine z_lstr (by show 0 ≤ 100000; omega) fun L hL0 => ?_
      have hL := G.fr L hL0
      have nFL : F ≠ L := ne_of_none hFc hL0
      obtain ⟨GA, _⟩ := G.app S0 hL (o := .lst [])
      have A1 := DpAll.mono ((cut_same F _).trans (new_cut0 (H := H) (o := .lst []) hL0)) A
      have hF1 : cut L (nw H (upd Hc L (.lst []))) F = some (.lst vs) := new_cut0 hL0 _ _ (nw_of hF hFc)
      walk_at "rd"
      clear G4 G3 G2 G1 G
      refine z_while (fun j σ Hc => ∃ acc ws c6 c7 c8 s2, σ = [some (.ref p), some (.str x), some V.non, some (.ref F), c4, some (.ref L), c6, c7, c8] ∧ Go K p r H Hc s2 ∧ Hc L = some (.lst ws) ∧ cut L (nw H Hc) F = some (.lst vs) ∧ DpAll K (cut L (nw H Hc)) vs (fs.map pairD) ∧ All2 (RepW K (cut L (nw H Hc))) acc ws ∧ WordsL j acc s2 wds ⟨("}" : Str) :: r2, op2, md2⟩) m2 ⟨[], [], _, _, _, _, rfl, GA, upd_same, hF1, A1, rfl, hwl⟩ ?_
      rintro j σ Hd ⟨acc, ws, c6, c7, c8, s2, rfl, G, hLc, hFc, A, W, hg⟩
      have hv := All2.len W
      walk_at "rd"
      refine z_now G ?_
      walk_at "rd"
      cases hg with
      | step hx hP hk hT hg =>
        have ha := words_len hg
        rw [List.length_append] at ha
        have ha2 : acc.length + 1 ≤ 8 := Nat.le_trans ha h8
        refine z_whT (bS (by rw [now_mk, hd_cons])) ?_
        walk_at "rd"
        refine z_take S0 G fun B1 G1 _ e1 => ?_
        walk_at "rd"
        refine z_nname S0 G1 hx fun B2 G2 e2 => ?_
        walk_at "rd"
        refine z_rp S0 G2 hP fun B3 pv G3 e3 D3 => ?_
        walk_at "rd"
        refine z_nkind S0 G3 hk fun B4 G4 e4 => ?_
        walk_at "rd"
        refine z_need S0 G4 fun B5 G5 e5 => ?_
        have hL2 := (nw_at ((e1.trans e2) L _ (nw_of hL hLc))).2
        have hL5 := (nw_at ((((e1.trans e2).trans e3).trans (e4.trans e5)) L _ (nw_of hL hLc))).2
        walk_at "rd"
        refine z_bml (SqL.of hL5) ?_
        walk_at "rd"
        refine z_rtF (least := 1) (floor := 1) S0 G5 (by decide) rfl rfl hT fun B6 tv G6 e6 R6 => ?_
        have hL6 := (nw_at (e6 L _ (nw_of hL hL5))).2
        walk_at "rd"
        refine z_tupr (by show 4 ≤ 100000; omega) fun tp htp => ?_
        have nT : L ≠ tp := ne_of_none hL6 htp
        obtain ⟨G7, e7⟩ := G6.same (Same.new htp (o := .tup [.str _, pv, .str _, tv]))
        walk_at "rd"
        refine z_appd (by rw [upd_ne nT]; exact hL6) (by omega) ?_
        obtain ⟨G8, e8⟩ := G7.app S0 hL (o := .lst (ws ++ [.ref tp]))
        have eAll := (cut_mono (x := L) ((((e1.trans e2).trans e3).trans (e4.trans e5)).trans (e6.trans e7))).trans e8
        refine ⟨_, Nat.lt_succ_self _, _, _, _, _, _, _, rfl, G8, upd_same, eAll _ _ hFc, DpAll.mono eAll A, All2.app (All2.mono (fun w v q => repW_mono eAll w v q) W) ⟨tp, pv, tv, rfl, ?_, ?_, ?_⟩, hg⟩
        · exact SqT.of (e8 _ _ (cut_of (nw_of (G6.fr _ htp) upd_same) nT.symm))
        · exact Dp.mono ((((new_cut G2.fr hL2).trans (cut_mono ((e4.trans e5).trans (e6.trans e7)))).trans e8)) D3
        · exact rep_mono ((((new_cut G5.fr hL5).trans (cut_mono e7)).trans e8)) _ _ R6
      | stop hn =>
        refine z_whF (bSf hn) ?_
        walk_at "rd"
        refine z_need S0 G fun B1 G1 e1 => ?_
        have hL1 := (nw_at (e1 L _ (nw_of hL hLc))).2
        have hFB : nw H B1 F = some (.lst vs) := e1 _ _ (cut_same L _ _ _ hFc)
        have hF1 := (nw_at hFB).2
        walk_at "rd"
        refine ⟨F, _, rfl, .inl (SqL.of hF1), ?_⟩
        walk_at "rd"
        refine ifD (fun c => absurd c (by omega)) (fun _ => ?_)
        walk_at "rd"
        refine ⟨L, _, rfl, .inl (SqL.of hL1), ?_⟩
        walk_at "rd"
        refine ifD (fun c => absurd c (by omega)) (fun _ => ?_)
        walk_at "rd"
        refine ⟨F, _, rfl, .inl ⟨SqL.of hF1, fun ft hft => ?_⟩⟩
        walk_at "rd"
        obtain ⟨G2, e2⟩ := G1.same (Same.new hft (o := .tup vs))
        refine z_tupr (by show 4 ≤ 100000; omega) fun tp htp => ?_
        obtain ⟨G3, e3⟩ := G2.same (Same.new htp (o := .tup [.str x, V.non, .ref ft, .ref L]))
        have hft2 := e3 _ _ (nw_of (G1.fr _ hft) (upd_same (H := B1) (a := ft) (o := .tup vs)))
        have ea := ((cut_same L _).trans e1).trans (e2.trans e3)
        refine k _ _ G3 ⟨tp, ft, L, ws, rfl, SqT.of (nw_of (G2.fr _ htp) upd_same), .tup (SqT.of hft2) (DpAll.mono ea A), (e2.trans e3) _ _ (nw_of hL hL1), All2.mono (fun w v q => repW_mono ea w v q) W⟩
  | @elder x y rr op md m1 fs s1 m2 wds r2 op2 md2 hx hy hfl hwl h4 h8 =>
    refine z_need S0 (Go.start S0) fun H1 G1 e1 => ?_
    walk_at "rd"
    refine z_nname S0 G1 hx fun H2 G2 e2 => ?_
    walk_at "rd"
    refine z_now G2 ?_
    walk_at "rd"
    refine ifT (bS (by rw [now_mk, hd_cons])) ?_
    walk_at "rd"
    refine z_take S0 G2 fun H2 G2 _ e2 => ?_
    walk_at "rd"
    refine z_nname S0 G2 hy fun H2 G2 e2 => ?_
    walk_at "rd"
    refine z_need S0 G2 fun H3 G3 e3 => ?_
    walk_at "rd"
    refine z_lstr (by show 0 ≤ 100000; omega) fun F hF0 => ?_
    have hF := G3.fr F hF0
    obtain ⟨G4, _⟩ := G3.app S0 hF (o := .lst [])
    walk_at "rd"
    refine z_while (fun j σ Hc => ∃ acc vs c4 s2, σ = [some (.ref p), some (.str x), some (V.str y), some (.ref F), c4, none, none, none, none] ∧ Go K p r H Hc s2 ∧ Hc F = some (.lst vs) ∧ DpAll K (cut F (nw H Hc)) vs (acc.map pairD) ∧ FieldsL j acc s2 fs s1) m1 ⟨[], [], _, _, rfl, G4, upd_same, .nil, hfl⟩ ?_
    rintro j σ Hc ⟨acc, vs, c4, s2, rfl, G, hFc, A, hg⟩
    have hv := DpAll.len A
    rw [List.length_map] at hv
    walk_at "rd"
    refine z_now G ?_
    walk_at "rd"
    cases hg with
    | step hx hk hg =>
      have ha := fields_len hg
      rw [List.length_append] at ha
      have ha2 : acc.length + 1 ≤ 4 := Nat.le_trans ha h4
      refine z_whT (bS (by rw [now_mk, hd_cons])) ?_
      walk_at "rd"
      refine z_take S0 G fun H3 G3 _ e3 => ?_
      have hF3 := (nw_at (e3 F _ (nw_of hF hFc))).2
      walk_at "rd"
      refine z_nname S0 G3 hx fun H3' G3' e3' => ?_
      have hF3' := (nw_at (e3' F _ (nw_of hF hF3))).2
      walk_at "rd"
      refine z_bml (SqL.of hF3') ?_
      walk_at "rd"
      refine z_nkind S0 G3' hk fun H4 G4 e4 => ?_
      have hF4 := (nw_at (e4 F _ (nw_of hF hF3'))).2
      walk_at "rd"
      refine z_tupr (by show 2 ≤ 100000; omega) fun tp htp => ?_
      have nT : F ≠ tp := ne_of_none hF4 htp
      obtain ⟨G5, e5⟩ := G4.same (Same.new htp (o := .tup [.str _, .str _]))
      walk_at "rd"
      refine z_appd (by rw [upd_ne nT]; exact hF4) (by omega) ?_
      obtain ⟨G6, e6⟩ := G5.app S0 hF (o := .lst (vs ++ [.ref tp]))
      refine ⟨_, Nat.lt_succ_self _, _, _, _, _, rfl, G6, upd_same, ?_, hg⟩
      rw [List.map_append]
      exact pair_app hF hF4 htp G4.fr (DpAll.mono (cut_mono (e3.trans (e3'.trans e4))) A) rfl
    | stop hn =>
      refine z_whF (bSf hn) ?_
      walk_at "rd"
      refine z_lstr (by show 0 ≤ 100000; omega) fun L hL0 => ?_
      have hL := G.fr L hL0
      have nFL : F ≠ L := ne_of_none hFc hL0
      obtain ⟨GA, _⟩ := G.app S0 hL (o := .lst [])
      have A1 := DpAll.mono ((cut_same F _).trans (new_cut0 (H := H) (o := .lst []) hL0)) A
      have hF1 : cut L (nw H (upd Hc L (.lst []))) F = some (.lst vs) := new_cut0 hL0 _ _ (nw_of hF hFc)
      walk_at "rd"
      clear G4 G3 G2 G1 G
      refine z_while (fun j σ Hc => ∃ acc ws c6 c7 c8 s2, σ = [some (.ref p), some (.str x), some (V.str y), some (.ref F), c4, some (.ref L), c6, c7, c8] ∧ Go K p r H Hc s2 ∧ Hc L = some (.lst ws) ∧ cut L (nw H Hc) F = some (.lst vs) ∧ DpAll K (cut L (nw H Hc)) vs (fs.map pairD) ∧ All2 (RepW K (cut L (nw H Hc))) acc ws ∧ WordsL j acc s2 wds ⟨("}" : Str) :: r2, op2, md2⟩) m2 ⟨[], [], _, _, _, _, rfl, GA, upd_same, hF1, A1, rfl, hwl⟩ ?_
      rintro j σ Hd ⟨acc, ws, c6, c7, c8, s2, rfl, G, hLc, hFc, A, W, hg⟩
      have hv := All2.len W
      walk_at "rd"
      refine z_now G ?_
      walk_at "rd"
      cases hg with
      | step hx hP hk hT hg =>
        have ha := words_len hg
        rw [List.length_append] at ha
        have ha2 : acc.length + 1 ≤ 8 := Nat.le_trans ha h8
        refine z_whT (bS (by rw [now_mk, hd_cons])) ?_
        walk_at "rd"
        refine z_take S0 G fun B1 G1 _ e1 => ?_
        walk_at "rd"
        refine z_nname S0 G1 hx fun B2 G2 e2 => ?_
        walk_at "rd"
        refine z_rp S0 G2 hP fun B3 pv G3 e3 D3 => ?_
        walk_at "rd"
        refine z_nkind S0 G3 hk fun B4 G4 e4 => ?_
        walk_at "rd"
        refine z_need S0 G4 fun B5 G5 e5 => ?_
        have hL2 := (nw_at ((e1.trans e2) L _ (nw_of hL hLc))).2
        have hL5 := (nw_at ((((e1.trans e2).trans e3).trans (e4.trans e5)) L _ (nw_of hL hLc))).2
        walk_at "rd"
        refine z_bml (SqL.of hL5) ?_
        walk_at "rd"
        refine z_rtF (least := 1) (floor := 1) S0 G5 (by decide) rfl rfl hT fun B6 tv G6 e6 R6 => ?_
        have hL6 := (nw_at (e6 L _ (nw_of hL hL5))).2
        walk_at "rd"
        refine z_tupr (by show 4 ≤ 100000; omega) fun tp htp => ?_
        have nT : L ≠ tp := ne_of_none hL6 htp
        obtain ⟨G7, e7⟩ := G6.same (Same.new htp (o := .tup [.str _, pv, .str _, tv]))
        walk_at "rd"
        refine z_appd (by rw [upd_ne nT]; exact hL6) (by omega) ?_
        obtain ⟨G8, e8⟩ := G7.app S0 hL (o := .lst (ws ++ [.ref tp]))
        have eAll := (cut_mono (x := L) ((((e1.trans e2).trans e3).trans (e4.trans e5)).trans (e6.trans e7))).trans e8
        refine ⟨_, Nat.lt_succ_self _, _, _, _, _, _, _, rfl, G8, upd_same, eAll _ _ hFc, DpAll.mono eAll A, All2.app (All2.mono (fun w v q => repW_mono eAll w v q) W) ⟨tp, pv, tv, rfl, ?_, ?_, ?_⟩, hg⟩
        · exact SqT.of (e8 _ _ (cut_of (nw_of (G6.fr _ htp) upd_same) nT.symm))
        · exact Dp.mono ((((new_cut G2.fr hL2).trans (cut_mono ((e4.trans e5).trans (e6.trans e7)))).trans e8)) D3
        · exact rep_mono ((((new_cut G5.fr hL5).trans (cut_mono e7)).trans e8)) _ _ R6
      | stop hn =>
        refine z_whF (bSf hn) ?_
        walk_at "rd"
        refine z_need S0 G fun B1 G1 e1 => ?_
        have hL1 := (nw_at (e1 L _ (nw_of hL hLc))).2
        have hFB : nw H B1 F = some (.lst vs) := e1 _ _ (cut_same L _ _ _ hFc)
        have hF1 := (nw_at hFB).2
        walk_at "rd"
        refine ⟨F, _, rfl, .inl (SqL.of hF1), ?_⟩
        walk_at "rd"
        refine ifD (fun c => absurd c (by omega)) (fun _ => ?_)
        walk_at "rd"
        refine ⟨L, _, rfl, .inl (SqL.of hL1), ?_⟩
        walk_at "rd"
        refine ifD (fun c => absurd c (by omega)) (fun _ => ?_)
        walk_at "rd"
        refine ⟨F, _, rfl, .inl ⟨SqL.of hF1, fun ft hft => ?_⟩⟩
        walk_at "rd"
        obtain ⟨G2, e2⟩ := G1.same (Same.new hft (o := .tup vs))
        refine z_tupr (by show 4 ≤ 100000; omega) fun tp htp => ?_
        obtain ⟨G3, e3⟩ := G2.same (Same.new htp (o := .tup [.str x, (V.str y), .ref ft, .ref L]))
        have hft2 := e3 _ _ (nw_of (G1.fr _ hft) (upd_same (H := B1) (a := ft) (o := .tup vs)))
        have ea := ((cut_same L _).trans e1).trans (e2.trans e3)
        refine k _ _ G3 ⟨tp, ft, L, ws, rfl, SqT.of (nw_of (G2.fr _ htp) upd_same), .tup (SqT.of hft2) (DpAll.mono ea A), (e2.trans e3) _ _ (nw_of hL hL1), All2.mono (fun w v q => repW_mono ea w v q) W⟩
end
end EH

set_option Elab.async false
set_option maxRecDepth 100000
set_option maxHeartbeats 4000000
set_option linter.unusedVariables false

/-! Source and Program: __init__, plain. -/
namespace EH
open PySem PySem.Spec PyProof.Rows L2 TL
local macro_rules | `(tactic| walk_at "lk") => `(tactic| repeat (first | exact lk_eq | exact lk_nil | refine lk_ne (by decide +kernel) ?_))
local macro_rules | `(tactic| walk_at "pt") => `(tactic| repeat (first | exact put_eq | exact put_nil | refine put_ne (by decide +kernel) ?_))
local macro_rules | `(tactic| walk_at "rd1") => `(tactic| (first
  | with_reducible refine z_seq ?_ | with_reducible refine z_ifs ?_ | with_reducible refine z_next ?_ | with_reducible refine z_ret ?_ | with_reducible refine z_asg ?_ | with_reducible refine z_gname ?_
  | ((with_reducible apply z_var); exact rfl) | with_reducible refine z_c ?_ | with_reducible refine z_op ?_ | with_reducible refine z_bl ?_ | with_reducible refine z_test ?_ | with_reducible refine z_B ?_
  | with_reducible refine z_nil ?_ | with_reducible refine z_cons ?_ | with_reducible refine z_cb ?_ | with_reducible refine z_call ?_ | with_reducible refine iteT ?_ | with_reducible refine iteF ?_
  | with_reducible refine z_or ?_ | with_reducible refine z_and ?_ | with_reducible refine z_not ?_ | with_reducible refine z_orv ?_ | with_reducible refine z_andv ?_ | with_reducible refine z_notv ?_ | with_reducible refine z_un ?_
  | with_reducible refine z_eqS ?_ | with_reducible refine z_neS ?_ | with_reducible refine z_eqI ?_ | with_reducible refine z_neI ?_ | with_reducible refine z_i0 ?_ | with_reducible refine z_radd ?_ | with_reducible refine z_rsub ?_ | with_reducible refine z_iu ?_
  | with_reducible refine z_fld ?_ | with_reducible refine z_meth ?_ | with_reducible refine z_sfld ?_ | with_reducible refine z_flda ?_ | with_reducible refine z_make ?_ | with_reducible refine z_drop ?_ | with_reducible refine z_retn ?_ | with_reducible refine z_cont ?_
  | with_reducible refine z_tup ?_ | with_reducible refine z_lst ?_ | with_reducible refine z_slice ?_ | with_reducible refine z_nopart ?_ | with_reducible refine z_part ?_ | with_reducible refine z_intr ?_ | with_reducible refine z_m1 ?_ | with_reducible refine z_lc ?_ | with_reducible refine z_yes ?_ | with_reducible refine z_il ?_ | with_reducible refine z_it ?_ | with_reducible refine z_bm ?_ | with_reducible refine z_for ?_ | with_reducible refine z_gcons ?_ | with_reducible refine z_gnil ?_ | with_reducible refine z_es ?_))
local macro_rules | `(tactic| walk_at "rd") => `(tactic| repeat (walk_at "rd1"))
local macro_rules | `(tactic| walk_at "no") => `(tactic| repeat (first | refine ifF (bSf (by decide +kernel)) ?_ | refine ifF (bSf num_ne) ?_ | (walk_at "rd1")))
local macro_rules | `(tactic| walk_at "ln") => `(tactic| (rintro vs H Q E h; repeat (first | (obtain ⟨e, _⟩ := h; subst e; rfl) | (obtain ⟨_, h⟩ := h))))
section
variable {P : Program} {w : World} {K : PySem.W.Frag} {mg : Str → Option Value} {base : Heap}
def spSrcInit (K : PySem.W.Frag) : Sp := fun vs H Q _ => ∃ (x dx : Addr) (l : V), vs = [.ref x, l] ∧ H x = some (.ins (He.ga K "Source") dx []) ∧ ∀ H', Off x H H' → H' x = some (.ins (He.ga K "Source") dx [("row", l), ("spot", .int 0), ("open_now", .int 0), ("made", .int 0)]) → Q .non H'
theorem sc_Source_init : FnScope ["self", "row"] ["self", "row"] (defScope s_Source_init) := ⟨rfl, rfl, rfl, by decide +kernel, rfl, by decide +kernel, by decide +kernel⟩
theorem ok_Source (T : Tx K mg) : CalC P w K mg base CX0 1 "Source" (He.ga K "Source") ["self", "row"] (spSrcInit K) := by
  obtain ⟨fd, F⟩ := T.f_Source_init
  refine cal_init F T.mk_Source T.g_Source sc_Source_init (fun _ _ _ _ _ _ us hl => match us, hl with | [_, _], _ => rfl) (by walk_at "ln") (fun cdv A outer s H vs Q E hr h => ?_)
  obtain ⟨x, dx, l, rfl, hx, k⟩ := h
  refine ⟨_, (pss_cons (ps_fld (pv 0) (pv 1) rfl)
    (pss_cons (ps_fld (pv 0) pe_int rfl)
    (pss_cons (ps_fld (pv 0) pe_int rfl)
    (pss_one (ps_fld (pv 0) pe_int rfl))))), ?_⟩
  walk_at "rd"
  refine z_fs (m := 0) hx T.cls_Source T.no_Source_row (by decide) (by omega) fun H1 o1 hx1 L1 => ?_
  walk_at "rd"
  refine z_fs (m := 1) hx1 T.cls_Source T.no_Source_spot L1 (by omega) fun H2 o2 hx2 L2 => ?_
  walk_at "rd"
  refine z_fs (m := 2) hx2 T.cls_Source T.no_Source_open_now L2 (by omega) fun H3 o3 hx3 L3 => ?_
  walk_at "rd"
  refine z_fs (m := 3) hx3 T.cls_Source T.no_Source_made L3 (by omega) fun H4 o4 hx4 L4 => ?_
  refine k H4 (((o1.trans o2).trans o3).trans o4) ?_
  rw [hx4]
  rfl
theorem z_mkSource {H : Hp} {Q : VK} {E : XK} {l : Addr} {row : List Str} (hl : H l = some (.lst (row.map V.str))) (hg : row.length ≤ 10000 ∧ ∀ x ∈ row, x.length ≤ 10000) (k : ∀ H' p, H p = none → Same H H' → SrcOk K H' p l ⟨row, 0, 0⟩ → Q (.ref p) H') : MakeR (He.ga K "Source") (spSrcInit K) [] E [.ref l] H Q := fun x dx hx hdx nd =>
  ⟨x, dx, _, rfl, upd_same, fun H' o hx' => ⟨rfl, k H' x hx (mk_off hx hdx nd o) ⟨row, dx, 0, ⟨hx', mk_off hx hdx nd o _ _ hl, Nat.zero_le _, rfl, hg⟩⟩⟩⟩
/-! ### programs -/
def progF (l m : Addr) : List (Str × V) := [("houses_told", .ref l), ("main_told", .ref m)]
def RepP (K : PySem.W.Frag) (H : Hp) (pg : Pg) (v : V) : Prop := ∃ a dx l us m pv tv, v = .ref a ∧ H a = some (.ins (He.ga K "Program") dx (progF l m)) ∧ H l = some (.lst us) ∧ All2 (RepH K H) pg.houses us ∧ SqT K H m [pv, .str pg.kind, tv] ∧ Dp K H pv (parD pg.params) ∧ RepT K H pg.body tv
def spProgInit (K : PySem.W.Frag) : Sp := fun vs H Q _ => ∃ (x dx l m : Addr) (us : List V), vs = [.ref x, .ref l, .ref m] ∧ H x = some (.ins (He.ga K "Program") dx []) ∧ SqL K (cut x H) l us ∧ ∀ H' l', Off x H H' → H' x = some (.ins (He.ga K "Program") dx (progF l' m)) → H' l' = some (.lst us) → Q .non H'
theorem sc_Program_init : FnScope ["self", "houses_told", "main_told"] ["self", "houses_told", "main_told"] (defScope s_Program_init) := ⟨rfl, rfl, rfl, by decide +kernel, rfl, by decide +kernel, by decide +kernel⟩
theorem ok_Program (T : Tx K mg) : CalC P w K mg base CX0 1 "Program" (He.ga K "Program") ["self", "houses_told", "main_told"] (spProgInit K) := by
  obtain ⟨fd, F⟩ := T.f_Program_init
  refine cal_init F T.mk_Program T.g_Program sc_Program_init (fun _ _ _ _ _ _ us hl => match us, hl with | [_, _, _], _ => rfl) (by walk_at "ln") (fun cdv A outer s H vs Q E hr h => ?_)
  obtain ⟨x, dx, l, m, us, rfl, hx, hl, k⟩ := h
  refine ⟨_, (pss_cons (ps_fld (pv 0) (pe_callTy call_list_of (by rfl) T.b_list (by decide +kernel) (pa_cons (pv 1) pa_nil)) rfl)
    (pss_one (ps_fld (pv 0) (pv 2) rfl))), ?_⟩
  walk_at "rd"
  refine ⟨l, us, rfl, .inl (Same.seq (cut_same x H) hl), fun l' hl' => ?_⟩
  have nl : l' ≠ x := z_new hx hl' (o' := .lst [])
  walk_at "rd"
  refine z_fs (m := 0) (by rw [upd_ne nl.symm]; exact hx) T.cls_Program T.no_Program_houses_told (by decide) (by omega) fun H1 o1 hx1 L1 => ?_
  walk_at "rd"
  refine z_fs (m := 1) hx1 T.cls_Program T.no_Program_main_told L1 (by omega) fun H2 o2 hx2 L2 => ?_
  refine k H2 l' (((Off.same (Same.new hl')).trans o1).trans o2) ?_ (o2.at nl (o1.at nl upd_same))
  rw [hx2]
  rfl
theorem z_mkProgram {H : Hp} {Q : VK} {E : XK} {l m : Addr} {us : List V} {pg : Pg} {pv tv : V} (hl : SqL K H l us) (h1 : All2 (RepH K H) pg.houses us) (h2 : SqT K H m [pv, .str pg.kind, tv]) (h3 : Dp K H pv (parD pg.params)) (h4 : RepT K H pg.body tv) (k : ∀ H' v, Same H H' → RepP K H' pg v → Q v H') :
    MakeR (He.ga K "Program") (spProgInit K) [] E [.ref l, .ref m] H Q := fun x dx hx hdx nd => by
  refine ⟨x, dx, l, m, us, rfl, upd_same, Same.seq (mk_same hx hdx nd) hl, fun H' l' o hx' hl' => ⟨rfl, ?_⟩⟩
  have s := mk_off hx hdx nd o
  exact k H' _ s ⟨x, dx, l', us, m, pv, tv, rfl, hx', hl', All2.mono (fun a v q => repH_mono s a v q) h1, Same.seqT s h2, Dp.mono s h3, rep_mono s _ _ h4⟩
def eldD : Option Str → PyData
  | none => .none
  | some e => .str e
def wdD (w : Wd) : PyData := .tuple [.str w.name, parD w.params, .str w.kind, tdat w.body]
def hsD (h : Hs) : PyData := .tuple [.str h.name, eldD h.elder, parD h.fields, .tuple (h.words.map wdD)]
def pgD (p : Pg) : PyData := .tuple [.tuple (p.houses.map hsD), .tuple [parD p.params, .str p.kind, tdat p.body]]
def bodyOk (t : T) : Prop := t.depth ≤ 14 ∧ t.size ≤ 1000
def spProgPlain (K : PySem.W.Frag) : Sp := fun vs H Q _ => ∃ (v : V) (pg : Pg), vs = [v] ∧ RepP K H pg v ∧ pg.houses.length ≤ 12 ∧ (∀ h ∈ pg.houses, h.words.length ≤ 8 ∧ ∀ w ∈ h.words, bodyOk w.body) ∧ bodyOk pg.body ∧ ∀ H' u, Same H H' → Dp K H' u (pgD pg) → Q u H'
theorem lp_houses {l m : Addr} : (progF l m).lookup ("houses_told" : Str) = some (.ref l) := by unfold progF; walk_at "lk"
theorem lp_main {l m : Addr} : (progF l m).lookup ("main_told" : Str) = some (.ref m) := by unfold progF; walk_at "lk"
theorem lp_plain {l m : Addr} : (progF l m).lookup ("plain" : Str) = none := by unfold progF; walk_at "lk"
theorem eld_dp {H : Hp} (e : Option Str) : Dp K H (eldV e) (eldD e) := by
  cases e with
  | none => exact .non
  | some x => exact .str x
theorem take_mapD {α : Type} {f : α → PyData} {ts : List α} {i : Nat} {t : α} (h : ts[i]? = some t) : ((ts.take i).map f) ++ [f t] = (ts.take (i + 1)).map f := by
  rw [List.take_add_one, h, List.map_append]
  rfl
theorem sc_Program_plain : FnScope ["self", "houses", "name", "elder", "fields", "told", "rows", "params", "kind", "term", "word"] ["self"] (defScope s_Program_plain) := ⟨rfl, rfl, rfl, by decide +kernel, rfl, by decide +kernel, by decide +kernel⟩
theorem okm_Program_plain (T : Tx K mg) : CalM P w K mg base CX0 44 (He.ga K "Program") "plain" ["self"] (spProgPlain K) := by
  obtain ⟨fd, F⟩ := T.f_Program_plain
  refine cal_meth F T.m_Program_plain T.cls_Program sc_Program_plain (fun _ _ _ _ _ _ us hl => match us, hl with | [_], _ => rfl) (by walk_at "ln") (fun cdv A outer s H vs Q E hr h => ?_)
  obtain ⟨v, pg, rfl, R, h12, hh, hb, k⟩ := h
  refine ⟨_, (pss_cons (ps_set (i := 1) sc_Program_plain.nd rfl (Or.inl rfl) (pe_lst pa_nil))
    (pss_cons (ps_for PassesOwn.never rfl (pi_list (pe_fld (pv 0) rfl)) (pg_tup (by rfl) (pgs_cons (pg_name (i := 2) sc_Program_plain.nd rfl (Or.inl rfl)) (pgs_cons (pg_name (i := 3) sc_Program_plain.nd rfl (Or.inl rfl)) (pgs_cons (pg_name (i := 4) sc_Program_plain.nd rfl (Or.inl rfl)) (pgs_cons (pg_name (i := 5) sc_Program_plain.nd rfl (Or.inl rfl)) pgs_nil))))) (pss_cons (ps_set (i := 6) sc_Program_plain.nd rfl (Or.inl rfl) (pe_callTy call_tuple_of (by rfl) T.b_tuple (by decide +kernel) (pa_cons (pe_lc (own := [("word", 10)]) (g := gName 10) (by rfl) sc_Program_plain.nd (pi_list (pv 5)) (blkOk_by (own := [("word", 10)]) (N := ["self", "houses", "name", "elder", "fields", "told", "rows", "params", "kind", "term", "word"]) (sc := defScope s_Program_plain) (by decide +kernel)) (fun _ _ _ _ _ => pg_name (i := 10) sc_Program_plain.nd rfl (Or.inl rfl)) (fun _ _ _ _ _ => pts_nil) (fun _ _ _ _ _ => (pe_tup (pa_cons (pe_ix (ix_tupK (K := K) rfl) (pv 10) pe_int (fun _ _ => rfl)) (pa_cons (pe_ix (ix_tupK (K := K) rfl) (pv 10) pe_int (fun _ _ => rfl)) (pa_cons (pe_ix (ix_tupK (K := K) rfl) (pv 10) pe_int (fun _ _ => rfl)) (pa_cons (PE.ex fun c : {c // c ∈ tcls} => (pe_calm0 (pe_ix (ix_tupK (K := K) rfl) (pv 10) pe_int (fun _ _ => rfl)) ((pl_ok T 14) c.1 c.2) (hr.mono (by decide)) pass0)) pa_nil))))))) pa_nil)))
    (pss_one (ps_expr (pe_bm PySem.F.plainAttrs_list PySem.F.slot_list_append PySem.F.type_list_append mt_append (pv 1) (pa_cons (pe_tup (pa_cons (pv 2) (pa_cons (pv 3) (pa_cons (pv 4) (pa_cons (pv 6) pa_nil))))) pa_nil))))))
    (pss_cons (ps_asg (pe_fld (pv 0) rfl) (pg_tup (by rfl) (pgs_cons (pg_name (i := 7) sc_Program_plain.nd rfl (Or.inl rfl)) (pgs_cons (pg_name (i := 8) sc_Program_plain.nd rfl (Or.inl rfl)) (pgs_cons (pg_name (i := 9) sc_Program_plain.nd rfl (Or.inl rfl)) pgs_nil)))))
    (pss_one (ps_ret (pe_tup (pa_cons (pe_callTy call_tuple_of (by rfl) T.b_tuple (by decide +kernel) (pa_cons (pv 1) pa_nil)) (pa_cons (pe_tup (pa_cons (pv 7) (pa_cons (pv 8) (pa_cons (PE.ex fun c : {c // c ∈ tcls} => (pe_calm0 (pv 9) ((pl_ok T 14) c.1 c.2) (hr.mono (by decide)) pass0)) pa_nil)))) pa_nil)))))))), ?_⟩
  obtain ⟨a, dx, l, us, m, pv, tv, rfl, ha, hl, h1, h2, h3, h4⟩ := R
  have hus := All2.len h1
  walk_at "rd"
  refine z_lstr (by show 0 ≤ 100000; omega) fun F hF => ?_
  have s0 := Same.new hF (o := .lst [])
  walk_at "rd"
  refine z_fldr (s0 _ _ ha) T.cls_Program T.no_Program_houses_told lp_houses ?_
  walk_at "rd"
  refine z_ilr (SqL.of (s0 _ _ hl)) ?_
  refine z_forr (walk_list (K := K) (a := l) (xs := us)) (fun i σ Hc => ∃ vs c2 c3 c4 c5 c6, σ = [some (.ref a), some (.ref F), c2, c3, c4, c5, c6, none, none, none, none] ∧ Hc F = some (.lst vs) ∧ Same H (cut F Hc) ∧ DpAll K (cut F Hc) vs ((pg.houses.take i).map hsD)) ⟨[], _, _, _, _, _, rfl, upd_same, fun b o e => cut_of (s0 b o e) (fun z => by rw [z, hF] at e; cases e), .nil⟩
    (fun i σ Hc _ q => ?_) ?_ ?_
  · obtain ⟨vs, c2, c3, c4, c5, c6, _, _, s, _⟩ := q
    exact SqL.of ((cut_same F Hc) _ _ (s _ _ hl))
  · rintro i x σ Hc H' hi ⟨vs, c2, c3, c4, c5, c6, rfl, hFc, s, A⟩ ⟨rfl, hx⟩
    obtain ⟨h, hh1, a1, ft, tl, ws, rfl, q1, q2, q3, q4⟩ := All2.at h1 hx
    obtain ⟨hw8, hbw⟩ := hh h (List.mem_of_getElem? hh1)
    have hvl := DpAll.len A
    have hws := All2.len q4
    have sc := s.trans (cut_same F H')
    refine z_gtup (Same.seqT sc q1) rfl ?_
    walk_at "rd"
    refine z_ilr (SqL.of (sc _ _ q3)) ?_
    refine z_lcj (walk_list (K := K) (a := tl) (xs := ws)) (fun D j acc Hd => DpAll K (cut D (cut F Hd)) acc ((h.words.take j).map wdD)) (fun H2 hS => SqL.of (hS _ _ (sc _ _ q3))) (fun _ _ _ _ => .nil) ?_ ?_
    · rintro D j acc y Hd H3 hD1 hj hS hal hacc hA ⟨rfl, hy⟩
      obtain ⟨w', hw1, b1, pv1, tv1, rfl, p1, p2, p3⟩ := All2.at q4 hy
      obtain ⟨d1, d2⟩ := hbw w' (List.mem_of_getElem? hw1)
      have sd := sc.trans hS
      walk_at "rd"
      refine ⟨rfl, ?_⟩
      walk_at "rd"
      refine z_ixT (Same.seqT sd p1) (v := .str w'.name) (atI_nat (j := 0) rfl) ?_
      walk_at "rd"
      refine z_ixT (Same.seqT sd p1) (v := pv1) (atI_nat (j := 1) rfl) ?_
      walk_at "rd"
      refine z_ixT (Same.seqT sd p1) (v := .str w'.kind) (atI_nat (j := 2) rfl) ?_
      walk_at "rd"
      refine ⟨⟨clsT w'.body, cls_in w'.body⟩, ?_⟩
      walk_at "rd"
      refine z_ixT (Same.seqT sd p1) (v := tv1) (atI_nat (j := 3) rfl) ?_
      refine z_pl (rep_mono sd _ _ p3) d1 d2 fun H4 u s4 hu => ?_
      walk_at "rd"
      refine z_tupr (by show 4 ≤ 100000; omega) fun tp htp => ?_
      have s5 := Same.new htp (o := .tup [.str w'.name, pv1, .str w'.kind, u])
      have hF3 : H3 F = some (.lst vs) := hS _ _ hFc
      have nFD : F ≠ D := fun z => by rw [z, hD1] at hFc; cases hFc
      refine lc_end hD1 hS hacc hal (by omega) (s4.trans s5) fun H5 h5 keep S5 => ?_
      rw [← take_mapD hw1]
      have nT : tp ≠ D := fun z => by rw [z, s4 _ _ hacc] at htp; cases htp
      have nTF : tp ≠ F := fun z => by rw [z, s4 _ _ hF3] at htp; cases htp
      have old : Same H (cut D (cut F H5)) := fun b o e => by
        obtain ⟨n1, e1⟩ := cut_at (s b o e)
        have n2 : b ≠ D := fun z => by rw [z, hD1] at e1; cases e1
        exact cut_of (cut_of (S5 b o e1) n1) n2
      have nw4 : Same (nw H3 H4) (cut D (cut F H5)) := fun b o e => by
        obtain ⟨e1, e2⟩ := nw_at e
        have n1 : b ≠ F := fun z => by rw [z, hF3] at e1; cases e1
        have n2 : b ≠ D := fun z => by rw [z, hacc] at e1; cases e1
        exact cut_of (cut_of (keep b o n2 (s5 b o e2)) n1) n2
      refine DpAll.app (DpAll.mono (fun b o e => ?_) hA) (.cons (.tup (SqT.of (cut_of (cut_of (keep tp _ nT upd_same) nTF) nT)) (.cons (.str _) (.cons (Dp.mono old p2) (.cons (.str _) (.cons (Dp.mono nw4 hu) .nil))))) .nil)
      obtain ⟨n2, e⟩ := cut_at e
      obtain ⟨n1, e⟩ := cut_at e
      exact cut_of (cut_of (keep b o n2 (s5 b o (s4 b o e))) n1) n2
    · intro D acc Hd hD1 hS hacc hA
      rw [hws, List.take_length] at hA
      walk_at "rd"
      refine ⟨D, acc, rfl, .inl ⟨SqL.of hacc, fun l' hl' => ?_⟩⟩
      have hFd : Hd F = some (.lst vs) := hS _ _ hFc
      have s6 := Same.new hl' (o := .tup acc)
      walk_at "rd"
      refine z_bml (SqL.of (s6 _ _ hFd)) ?_
      walk_at "rd"
      refine z_tupr (by show 4 ≤ 100000; omega) fun tp htp => ?_
      have s7 := Same.new htp (o := .tup [.str h.name, eldV h.elder, .ref ft, .ref l'])
      walk_at "rd"
      have hvs : vs.length ≤ 12 := by
        rw [hvl, List.length_map, List.length_take]
        omega
      refine z_appd (s7 _ _ (s6 _ _ hFd)) (by omega) ?_
      have nl' : l' ≠ F := fun z => by rw [z, hFd] at hl'; cases hl'
      have ntp : tp ≠ F := fun z => by rw [z, s6 _ _ hFd] at htp; cases htp
      have mv : ∀ o, Same (cut F Hd) (cut F (upd (upd (upd Hd l' (.tup acc)) tp (.tup [.str h.name, eldV h.elder, .ref ft, .ref l'])) F o)) := fun o b u e => by
        obtain ⟨n, e⟩ := cut_at e
        exact cut_of (by rw [upd_ne n]; exact s7 _ _ (s6 _ _ e)) n
      have mc : Same (cut F H') (cut F Hd) := cut_mono hS
      refine ⟨_, _, _, _, _, _, rfl, upd_same, (s.trans mc).trans (mv _), ?_⟩
      rw [← take_mapD hh1]
      refine DpAll.app (DpAll.mono (mc.trans (mv _)) A) (.cons (.tup (SqT.of (cut_of (by rw [upd_ne ntp, upd_same]) ntp)) (.cons (.str _) (.cons (eld_dp _) (.cons (Dp.mono ((s.trans mc).trans (mv _)) q2) (.cons (.tup (SqT.of (cut_of (by rw [upd_ne nl']; exact s7 _ _ upd_same) nl')) (DpAll.mono (fun b o e => mv _ b o ((cut_same D _) b o e)) hA)) .nil))))) .nil)
  · rintro σ Hc ⟨vs, c2, c3, c4, c5, c6, rfl, hFc, s, A⟩
    rw [hus, List.take_length] at A
    have sc := s.trans (cut_same F Hc)
    walk_at "rd"
    refine z_fldr (sc _ _ ha) T.cls_Program T.no_Program_main_told lp_main ?_
    refine z_gtup (Same.seqT sc h2) rfl ?_
    walk_at "rd"
    refine ⟨F, vs, rfl, .inl ⟨SqL.of hFc, fun l' hl' => ?_⟩⟩
    have s6 := Same.new hl' (o := .tup vs)
    walk_at "rd"
    refine ⟨⟨clsT pg.body, cls_in pg.body⟩, ?_⟩
    walk_at "rd"
    refine z_pl (rep_mono (sc.trans s6) _ _ h4) hb.1 hb.2 fun H4 u s4 hu => ?_
    walk_at "rd"
    refine z_tupr (by show 3 ≤ 100000; omega) fun tp htp => ?_
    have s7 := Same.new htp (o := .tup [pv, .str pg.kind, u])
    walk_at "rd"
    refine z_tupr (by show 2 ≤ 100000; omega) fun tq htq => ?_
    have s8 := Same.new htq (o := .tup [.ref l', .ref tp])
    refine k _ _ ((((sc.trans s6).trans s4).trans s7).trans s8) (.tup (SqT.of upd_same) (.cons (.tup (SqT.of (s8 _ _ (s7 _ _ (s4 _ _ upd_same)))) (DpAll.mono (((((cut_same F Hc).trans s6).trans s4).trans s7).trans s8) A)) (.cons (.tup (SqT.of (s8 _ _ upd_same)) (.cons (Dp.mono ((((sc.trans s6).trans s4).trans s7).trans s8) h3) (.cons (.str _) (.cons (Dp.mono (nw_sub.trans (s7.trans s8)) hu) .nil)))) .nil)))
end
end EH

set_option Elab.async false
set_option maxRecDepth 100000
set_option maxHeartbeats 4000000
set_option linter.unusedVariables false

/-! words. -/
namespace EH
open PySem PySem.Spec PyProof.Rows L2 TL
theorem ip_addStr {X : Cx} : PIp X .Add rAddS := fun pins s σ H x y v u Q I r1 r2 h => iop_add_str pins s σ H x y v u Q I r1 r2 h
theorem z_aug {i : Nat} {te : TE} {ti : TIp} {D : Ends} {σ : L2.St} {H : Hp} {x : V} (e : σ[i]? = some (some x)) (h : te σ H fun y H1 => ti x y H1 fun z H2 => D.nx (σ.set i (some z)) H2) : tAug i te ti D σ H := ⟨x, e, h⟩
theorem z_addS {a b : Str} {H : Hp} {Q : VK} (hl : a.length + b.length ≤ 100000) (h : Q (.str (a ++ b)) H) : rAddS (.str a) (.str b) H Q := ⟨a, b, rfl, rfl, len_sz hl, h⟩
theorem mem_signs (c : Nat) : decide (c ∈ (("(){},.;=+-*/<" : Str)).cps.toList) = isSign c := by
  have e : (("(){},.;=+-*/<" : Str)).cps.toList = [40, 41, 123, 125, 44, 46, 59, 61, 43, 45, 42, 47, 60] := by decide +kernel
  rw [e]
  unfold isSign
  rw [Bool.eq_iff_iff, decide_eq_true_eq, List.contains_iff_mem]
theorem mem_gaps (c : Nat) : decide (c ∈ ((" \t\n" : Str)).cps.toList) = isGap c := by
  have e : ((" \t\n" : Str)).cps.toList = [32, 9, 10] := by decide +kernel
  rw [e]
  unfold isGap
  rw [Bool.eq_iff_iff, decide_eq_true_eq, List.contains_iff_mem]
theorem mk_em {l : List Nat} : mk l = ("" : Str) ↔ l = [] := by
  rw [len_em]
  show l.toArray.size = 0 ↔ l = []
  rw [List.size_toArray, List.length_eq_zero_iff]
theorem mk_app (l : List Nat) (c : Nat) : mk l ++ (⟨#[c]⟩ : Str) = mk (l ++ [c]) := by
  refine ext_tl ?_
  rw [tl_append]
theorem mk_len (l : List Nat) : (mk l).length = l.length := by
  show l.toArray.size = l.length
  rw [List.size_toArray]
theorem cal_defX {P : Program} {w : World} {K : PySem.W.Frag} {mg : Str → Option Value} {base : Heap} {CX : CXT} {x : Str} {params : Arguments} {body : List Stmt} {scope : Scope} {f : Addr} {fd : FuncData} {N ps : List Str} {k : Nat} {sp : Sp} (F : FunD K x x params body scope [] [] f fd) (hm : mg x = some (.ref f)) (S : FnScope N ps scope)
    (hb : ∀ (kV doc pm : Value) (an : Option Addr) (cdv ct : Value) (us : List Value), us.length = ps.length → bindArgs (PySem.W.fnOf x x params body scope .none kV doc pm an cdv ct) ⟨us, []⟩ = pure (ps.zip us))
    (len : ∀ vs H Q E, sp vs H Q E → vs.length = ps.length)
    (hbody : ∀ (cdv : Value) (A : Around) (outer : List Env) (s : Shared) (H : Hp) (vs : List V) (Q : VK) (E : XK), Room k (A.deeper (envOfC x scope s.heap.objs.size f cdv)) → sp vs H Q E →
      ∃ t, PSs (cxOf CX P w K mg base N x scope f cdv A outer s H E) body t ∧ t { nx := fun _ H' => Q .non H', rt := Q } (start N vs) H) : Cal P w K mg base CX (k + 1) x ps [] sp :=
  ⟨f, fd, [], F.ok S len hbody, hm, F.kp, .nil, F.bindsN hb⟩
local macro_rules | `(tactic| walk_at "rd1") => `(tactic| (first
  | with_reducible refine z_seq ?_ | with_reducible refine z_ifs ?_ | with_reducible refine z_next ?_ | with_reducible refine z_ret ?_ | with_reducible refine z_asg ?_ | with_reducible refine z_gname ?_
  | ((with_reducible apply z_var); exact rfl) | with_reducible refine z_c ?_ | with_reducible refine z_op ?_ | with_reducible refine z_bl ?_ | with_reducible refine z_test ?_ | with_reducible refine z_B ?_
  | with_reducible refine z_nil ?_ | with_reducible refine z_cons ?_ | with_reducible refine z_cb ?_ | with_reducible refine z_call ?_ | with_reducible refine iteT ?_ | with_reducible refine iteF ?_
  | with_reducible refine z_or ?_ | with_reducible refine z_and ?_ | with_reducible refine z_not ?_ | with_reducible refine z_orv ?_ | with_reducible refine z_andv ?_ | with_reducible refine z_notv ?_ | with_reducible refine z_un ?_
  | with_reducible refine z_eqS ?_ | with_reducible refine z_neS ?_ | with_reducible refine z_eqI ?_ | with_reducible refine z_neI ?_ | with_reducible refine z_i0 ?_ | with_reducible refine z_radd ?_ | with_reducible refine z_rsub ?_ | with_reducible refine z_iu ?_
  | with_reducible refine z_fld ?_ | with_reducible refine z_meth ?_ | with_reducible refine z_sfld ?_ | with_reducible refine z_flda ?_ | with_reducible refine z_make ?_ | with_reducible refine z_drop ?_ | with_reducible refine z_retn ?_ | with_reducible refine z_cont ?_
  | with_reducible refine z_tup ?_ | with_reducible refine z_lst ?_ | with_reducible refine z_slice ?_ | with_reducible refine z_nopart ?_ | with_reducible refine z_part ?_ | with_reducible refine z_intr ?_ | with_reducible refine z_m1 ?_ | with_reducible refine z_lc ?_ | with_reducible refine z_yes ?_ | with_reducible refine z_il ?_ | with_reducible refine z_it ?_ | with_reducible refine z_bm ?_ | with_reducible refine z_for ?_ | with_reducible refine z_gcons ?_ | with_reducible refine z_gnil ?_ | with_reducible refine z_es ?_))
local macro_rules | `(tactic| walk_at "rd") => `(tactic| repeat (walk_at "rd1"))
local macro_rules | `(tactic| walk_at "no") => `(tactic| repeat (first | refine ifF (bSf (by decide +kernel)) ?_ | refine ifF (bSf num_ne) ?_ | (walk_at "rd1")))
local macro_rules | `(tactic| walk_at "ln") => `(tactic| (rintro vs H Q E h; repeat (first | (obtain ⟨e, _⟩ := h; subst e; rfl) | (obtain ⟨_, h⟩ := h))))
section
variable {P : Program} {w : World} {K : PySem.W.Frag} {mg : Str → Option Value} {base : Heap}
/-! ### the exception -/
def spBW (K : PySem.W.Frag) : Sp := fun vs H Q _ => ∃ (a : Addr) (i : Int), vs = [.ref a, .int i] ∧ H a = some (exo a (He.ga K "BadWords") none) ∧ ∀ dx, H dx = none → dx ≠ a → Q .non (upd (upd H dx (exd dx [("at", .int i)])) a (exo a (He.ga K "BadWords") (some dx)))
theorem sc_BadWords_init : FnScope ["self", "at"] ["self", "at"] (defScope s_BadWords_init) := ⟨rfl, rfl, rfl, by decide +kernel, rfl, by decide +kernel, by decide +kernel⟩
theorem fn_BadWords_init (T : Tx K mg) : ∃ fd, FnOk P w K mg base CX0 1 (He.ma K (He.ga K "BadWords") "__init__") fd ["self", "at"] (spBW K) ∧ Binds K fd ["self", "at"] [] := by
  obtain ⟨fd, F⟩ := T.f_BadWords_init
  refine ⟨fd, fn_meth F sc_BadWords_init (fun _ _ _ _ _ _ us hl => match us, hl with | [_, _], _ => rfl) (by walk_at "ln") (fun cdv A outer s H vs Q E hr h => ?_)⟩
  obtain ⟨a, i, rfl, ha, k⟩ := h
  refine ⟨_, pss_cons (ps_expr (pe_hini (by rfl) T.g_HouseError T.x.ciH (pa_cons (pv 0) (pa_cons pe_str pa_nil)))) (pss_one (ps_ost (pv 0) (pv 1))), ?_⟩
  walk_at "rd"
  unfold tVeI
  walk_at "rd"
  refine ⟨a, _, _, rfl, by show 1 ≤ 1000; omega, T.oex, ha, ?_⟩
  refine ⟨_, rfl, _, rfl, a, _, rfl, T.oex, T.x.no, .inl ⟨ha, fun dx h1 h2 => ?_⟩⟩
  exact k dx h1 h2
def bwX (C : Addr) (E : XK) (H : Hp) : Prop := ∀ d H', Same H H' → H' d = some (.xd [("at", .int 0)]) → E (.ref C) (some d) H'
def spWords (K : PySem.W.Frag) : Sp := fun vs H Q E => ∃ x : Str, vs = [.str x] ∧ x.length ≤ 100000 ∧ ((x.length ≤ 6000 ∧ ∃ ts, lexGo [] (tl x ++ [32]) = some ts ∧ ∀ H' l, Same H H' → H' l = some (.lst (ts.map V.str)) → (ts.length ≤ 10000 ∧ ∀ x ∈ ts, x.length ≤ 10000) → Q (.ref l) H') ∨ (6000 < x.length ∧ bwX (He.ga K "BadWords") E H))
theorem drop_at {α : Type} {l : List α} {i : Nat} {c : α} (h : l[i]? = some c) : l.drop i = c :: l.drop (i + 1) := by
  obtain ⟨hi, rfl⟩ := List.getElem?_eq_some_iff.mp h
  exact List.drop_eq_getElem_cons hi
/-- what is left of the text at a turn, what was found -/
structure WI (x : Str) (ts : List Str) (i : Nat) (row : List Nat) (acc : List Str) : Prop where
  go : ∃ rest, lexGo row ((tl x ++ [32]).drop i) = some rest ∧ ts = acc ++ rest
  rl : row.length ≤ i
  al : acc.length + (if row = [] then 0 else 1) ≤ i
  wl : ∀ y ∈ acc, y.length ≤ 10000
theorem WI.more {x : Str} {ts : List Str} {i : Nat} {row : List Nat} {acc : List Str} {c : Nat} (W : WI x ts i row acc) (hc : (tl x ++ [32])[i]? = some c) (ha : alnum c = true) : WI x ts (i + 1) (row ++ [c]) acc := by
  obtain ⟨⟨rest, h1, h2⟩, h3, h4, h5⟩ := W
  have hd : (tl x ++ [32]).drop i = c :: (tl x ++ [32]).drop (i + 1) := drop_at hc
  rw [hd] at h1
  unfold lexGo at h1
  rw [if_pos ha] at h1
  refine ⟨⟨rest, h1, h2⟩, by rw [List.length_append]; exact Nat.succ_le_succ h3, ?_, h5⟩
  rw [if_neg (by simp)]
  have : acc.length ≤ i := by
    split at h4 <;> omega
  omega
theorem WI.row {x : Str} {ts : List Str} {i : Nat} {row : List Nat} {acc : List Str} {c : Nat} (W : WI x ts i row acc) (hc : (tl x ++ [32])[i]? = some c) (ha : alnum c = false) (hr : row ≠ []) (hi : i ≤ 9000) : rowOk row = true ∧ WI x ts i [] (acc ++ [EH.mk row]) := by
  obtain ⟨⟨rest, h1, h2⟩, h3, h4, h5⟩ := W
  have hd : (tl x ++ [32]).drop i = c :: (tl x ++ [32]).drop (i + 1) := drop_at hc
  rw [hd] at h1
  unfold lexGo at h1
  rw [if_neg (by rw [ha]; decide), if_neg hr] at h1
  by_cases hk : rowOk row = true
  · rw [if_pos hk] at h1
    refine ⟨hk, ?_⟩
    rw [if_neg hr] at h4
    generalize hz : (if isSign c = true then (lexGo [] ((tl x ++ [32]).drop (i + 1))).map (EH.mk [c] :: ·) else if isGap c = true then lexGo [] ((tl x ++ [32]).drop (i + 1)) else none) = z at h1
    cases z with
    | none => simp at h1
    | some r2 =>
      have h1' : EH.mk row :: r2 = rest := by simpa using h1
      refine ⟨⟨r2, ?_, by rw [h2, ← h1']; simp⟩, Nat.zero_le _, by rw [if_pos rfl, List.length_append]; simp; omega, fun y hy => ?_⟩
      · rw [hd]
        unfold lexGo
        rw [if_neg (by rw [ha]; decide), if_pos rfl]
        exact hz
      · rcases List.mem_append.mp hy with q | q
        · exact h5 y q
        · rw [List.mem_singleton.mp q, mk_len]; omega
  · rw [if_neg hk] at h1
    cases h1
theorem WI.sign {x : Str} {ts : List Str} {i : Nat} {acc : List Str} {c : Nat} (W : WI x ts i [] acc) (hc : (tl x ++ [32])[i]? = some c) (ha : alnum c = false) (hs : isSign c = true) : WI x ts (i + 1) [] (acc ++ [EH.mk [c]]) := by
  obtain ⟨⟨rest, h1, h2⟩, h3, h4, h5⟩ := W
  have hd : (tl x ++ [32]).drop i = c :: (tl x ++ [32]).drop (i + 1) := drop_at hc
  rw [hd] at h1
  unfold lexGo at h1
  rw [if_neg (by rw [ha]; decide), if_pos rfl, if_pos hs] at h1
  rw [if_pos rfl] at h4
  cases e : lexGo [] ((tl x ++ [32]).drop (i + 1)) with
  | none => rw [e] at h1; simp at h1
  | some r2 =>
    rw [e] at h1
    have h1' : EH.mk [c] :: r2 = rest := by simpa using h1
    refine ⟨⟨r2, rfl.trans e, by rw [h2, ← h1']; simp⟩, Nat.zero_le _, by rw [if_pos rfl, List.length_append]; simp; omega, fun y hy => ?_⟩
    rcases List.mem_append.mp hy with q | q
    · exact h5 y q
    · rw [List.mem_singleton.mp q, mk_len]; simp
theorem WI.gap {x : Str} {ts : List Str} {i : Nat} {acc : List Str} {c : Nat} (W : WI x ts i [] acc) (hc : (tl x ++ [32])[i]? = some c) (ha : alnum c = false) (hs : isSign c = false) : isGap c = true ∧ WI x ts (i + 1) [] acc := by
  obtain ⟨⟨rest, h1, h2⟩, h3, h4, h5⟩ := W
  have hd : (tl x ++ [32]).drop i = c :: (tl x ++ [32]).drop (i + 1) := drop_at hc
  rw [hd] at h1
  unfold lexGo at h1
  rw [if_neg (by rw [ha]; decide), if_pos rfl, if_neg (by rw [hs]; decide)] at h1
  rw [if_pos rfl] at h4
  by_cases hg : isGap c = true
  · rw [if_pos hg] at h1
    exact ⟨hg, ⟨rest, h1, h2⟩, Nat.zero_le _, by rw [if_pos rfl]; omega, h5⟩
  · rw [if_neg hg] at h1
    cases h1
theorem WI.done {x : Str} {ts : List Str} {row : List Nat} {acc : List Str} (W : WI x ts ((tl x ++ [32]).length) row acc) : ts = acc := by
  obtain ⟨⟨rest, h1, h2⟩, _, _, _⟩ := W
  rw [List.drop_length] at h1
  unfold lexGo at h1
  cases h1
  rw [h2, List.append_nil]
theorem sc_words : FnScope ["text", "found", "row", "at", "sign"] ["text"] (defScope s_words) := ⟨rfl, rfl, rfl, by decide +kernel, rfl, by decide +kernel, by decide +kernel⟩
theorem ok_words (T : Tx K mg) : Cal P w K mg base (L2.CX P w) 4 "words" ["text"] [] (spWords K) := by
  obtain ⟨fd, F⟩ := T.f_words
  refine cal_defX F T.g_words sc_words (fun _ _ _ _ _ _ us hl => match us, hl with | [_], _ => rfl) (by walk_at "ln") (fun cdv A outer s H vs Q E hr h => ?_)
  obtain ⟨fd0, F0, hb0⟩ := fn_BadWords_init (P := P) (w := w) (base := base) T
  obtain ⟨x, rfl, hb, h⟩ := h
  refine ⟨_, (pss_cons (ps_if (PW.pt (pw_or (pt_not (pt_val (pe_callB call_isi (by rfl) T.b_isinstance (by decide +kernel) (pa_cons (pv 0) (pa_cons (pe_bltn (v := .ty "str") (u := .type "str") (by rfl) T.b_str (by decide +kernel) rfl) pa_nil))))) (pw_or1 (pt_cmpR op_gt (pe_callB call_len_str (by rfl) T.b_len PySem.boot_len (pa_cons (pv 0) pa_nil)) (pe_gi T.c_MOST_SIGNS) (nomark _))))) (pss_one (ps_raise rfl (takes_of rfl rfl rfl rfl) (pmk_oex T.oex T.x.iC T.x.tI F0 (hr.mono (by decide)) hb0 .nil pass0 (by rfl) T.g_BadWords (pa_cons pe_int pa_nil)))) pss_nil)
    (pss_cons (ps_set (i := 1) sc_words.nd rfl (Or.inl rfl) (pe_lst pa_nil))
    (pss_cons (ps_set (i := 2) sc_words.nd rfl (Or.inl rfl) pe_str)
    (pss_cons (ps_for (passes_of rfl) rfl (pi_enumS (by rfl) T.b_enumerate (pa_cons (pe_op op_add_str (pv 0) pe_str) pa_nil)) (pg_tup (by rfl) (pgs_cons (pg_name (i := 3) sc_words.nd rfl (Or.inl rfl)) (pgs_cons (pg_name (i := 4) sc_words.nd rfl (Or.inl rfl)) pgs_nil))) (pss_cons (ps_if (PW.pt (pw_or (pt_cmpR op_in_sign (pv 4) (pe_gs T.c_LETTERS) (by rfl)) (pw_or (pt_cmpR op_in_sign (pv 4) (pe_gs T.c_GREAT_LETTERS) (by rfl)) (pw_or1 (pt_cmpR op_in_sign (pv 4) (pe_gs T.c_FIGURES) (by rfl)))))) (pss_cons (ps_aug (i := 2) sc_words.nd rfl (Or.inl rfl) (pv 4) ip_addStr)
    (pss_one ps_continue)) pss_nil)
    (pss_cons (ps_if (pt_cmpR op_ne (pv 2) pe_str (nomark _)) (pss_cons (ps_expr (pe_cal (ok_need_row T) (hr.mono (by decide)) pass0 (pa_cons (pv 2) (pa_cons (pe_op op_sub (pv 3) (pe_callB call_len_str (by rfl) T.b_len PySem.boot_len (pa_cons (pv 2) pa_nil))) pa_nil))))
    (pss_cons (ps_expr (pe_bm PySem.F.plainAttrs_list PySem.F.slot_list_append PySem.F.type_list_append mt_append (pv 1) (pa_cons (pv 2) pa_nil)))
    (pss_one (ps_set (i := 2) sc_words.nd rfl (Or.inl rfl) pe_str)))) pss_nil)
    (pss_one (ps_if (pt_cmpR op_in_sign (pv 4) (pe_gs T.c_SIGNS) (by rfl)) (pss_one (ps_expr (pe_bm PySem.F.plainAttrs_list PySem.F.slot_list_append PySem.F.type_list_append mt_append (pv 1) (pa_cons (pv 4) pa_nil)))) (pss_one (ps_if (pt_cmpR op_notIn_sign (pv 4) (pe_gs T.c_GAPS) (by rfl)) (pss_one ps_never) pss_nil)))))))
    (pss_one (ps_ret (pv 1))))))), ?_⟩
  walk_at "rd"
  refine ⟨_, _, _, _, true, rfl, .ty _, .base (.str _), kit_ty (a := "str") (by decide +kernel), ?_⟩
  walk_at "rd"
  refine ifF rfl ?_
  walk_at "rd"
  refine ⟨x, rfl, len_sz hb, ?_⟩
  walk_at "rd"
  rcases h with ⟨hl, ts, hg, k⟩ | ⟨hl, k⟩
  · refine ifF (decide_eq_false (by omega)) ?_
    walk_at "rd"
    refine z_lstr (by show 0 ≤ 100000; omega) fun F hF => ?_
    have s0 := Same.new hF (o := .lst [])
    walk_at "rd"
    refine ⟨x, (" " : Str), rfl, rfl, len_sz (by show x.length + 1 ≤ 100000; omega), ?_⟩
    walk_at "rd"
    refine ⟨_, rfl, ?_⟩
    have e32 : (x ++ (" " : Str)).cps.toList = tl x ++ [32] := by
      rw [show (x ++ (" " : Str)).cps.toList = tl (x ++ (" " : Str)) from rfl, tl_append]
      rfl
    have esz : (x ++ (" " : Str)).cps.size = (tl x ++ [32]).length := by rw [← e32, Array.length_toList]
    have eat : ∀ i, (x ++ (" " : Str)).cps[i]? = (tl x ++ [32])[i]? := fun i => by rw [← e32, Array.getElem?_toList]
    have hlen : (tl x ++ [32]).length = x.length + 1 := by rw [List.length_append, ← len_tl]; rfl
    refine z_forr (walk_es (x := x ++ (" " : Str))) (fun i σ Hc => ∃ row acc c3 c4, σ = [some (.str x), some (.ref F), some (.str (mk row)), c3, c4] ∧ Hc F = some (.lst (acc.map V.str)) ∧ Same H (cut F Hc) ∧ WI x ts i row acc) ⟨[], [], _, _, rfl, upd_same, fun b o e => cut_of (s0 b o e) (fun z => by rw [z, hF] at e; cases e), ⟨ts, hg, rfl⟩, Nat.zero_le _, Nat.zero_le _, fun _ z => nomatch z⟩ (fun _ _ _ _ _ => trivial) ?_ ?_
    · rintro i y σ Hc H' hi ⟨row, acc, c3, c4, rfl, hFc, sc, W⟩ ⟨Ta, c, rfl, hTa, rfl, hc⟩
      rw [eat] at hc
      rw [esz, hlen] at hi
      have nT : F ≠ Ta := ne_of_none hFc hTa
      have hFc' : upd Hc Ta (.tup [.int (i : Nat), .str ⟨#[c]⟩]) F = some (.lst (acc.map V.str)) := by rw [upd_ne nT]; exact hFc
      have sc' : Same H (cut F (upd Hc Ta (.tup [.int (i : Nat), .str ⟨#[c]⟩]))) := fun b o e => by
        obtain ⟨n, e1⟩ := cut_at (sc b o e)
        exact cut_of (Same.new hTa _ _ e1) n
      have capp : ∀ (Hd : Hp) (o : HO), Same H (cut F Hd) → Same H (cut F (upd Hd F o)) := fun Hd o q b u e => by
        obtain ⟨n, e1⟩ := cut_at (q b u e)
        exact cut_of (by rw [upd_ne n]; exact e1) n
      have hacc : acc.length ≤ i := by have := W.al; split at this <;> omega
      refine z_gtup (SqT.of upd_same) rfl ?_
      walk_at "rd"
      refine ⟨c, _, rfl, rfl, ?_⟩
      rw [mem_low]
      walk_at "rd"
      generalize upd Hc Ta (.tup [.int (i : Nat), .str ⟨#[c]⟩]) = Hd at hFc' sc'
      have yes : alnum c = true → ∃ row' acc' c3 c4, ([some (.str x), some (.ref F), some (.str (mk row ++ (⟨#[c]⟩ : Str))), some (.int (i : Nat)), some (.str ⟨#[c]⟩)] : L2.St) = [some (.str x), some (.ref F), some (.str (mk row')), c3, c4] ∧ Hd F = some (.lst (acc'.map V.str)) ∧ Same H (cut F Hd) ∧ WI x ts (i + 1) row' acc' := fun ha =>
        ⟨row ++ [c], acc, _, _, by rw [mk_app], hFc', sc', W.more hc ha⟩
      have hrl := W.rl
      refine ifB (fun h1 => ?_) (fun h1 => ?_)
      · walk_at "rd"
        refine z_aug rfl ?_
        walk_at "rd"
        refine z_addS (by rw [mk_len]; show row.length + 1 ≤ 100000; omega) ?_
        exact yes (by unfold alnum; rw [h1]; rfl)
      walk_at "rd"
      refine ⟨c, _, rfl, rfl, ?_⟩
      rw [mem_up]
      walk_at "rd"
      refine ifB (fun h2 => ?_) (fun h2 => ?_)
      · walk_at "rd"
        refine z_aug rfl ?_
        walk_at "rd"
        refine z_addS (by rw [mk_len]; show row.length + 1 ≤ 100000; omega) ?_
        exact yes (by unfold alnum; rw [h1, h2]; rfl)
      walk_at "rd"
      refine ⟨c, _, rfl, rfl, ?_⟩
      rw [mem_dig]
      walk_at "rd"
      refine ifB (fun h3 => ?_) (fun h3 => ?_)
      · walk_at "rd"
        refine z_aug rfl ?_
        walk_at "rd"
        refine z_addS (by rw [mk_len]; show row.length + 1 ≤ 100000; omega) ?_
        exact yes (by unfold alnum; rw [h1, h2, h3]; rfl)
      have ha : alnum c = false := by unfold alnum; rw [h1, h2, h3]; rfl
      walk_at "rd"
      refine ifSn (fun hr => ?_) (fun hr => ?_)
      · have hr' : row ≠ [] := fun z => hr (mk_em.mpr z)
        obtain ⟨hok, W2⟩ := W.row hc ha hr' (by omega)
        walk_at "rd"
        refine ⟨mk row, rfl, len_sz (by rw [mk_len]; omega), ?_⟩
        walk_at "rd"
        refine ⟨mk row, _, rfl, by rw [mk_len]; omega, hok, ?_⟩
        walk_at "rd"
        refine z_bml (SqL.of hFc') ?_
        walk_at "rd"
        refine z_appd hFc' (by rw [List.length_map]; omega) ?_
        walk_at "rd"
        refine ⟨c, _, rfl, rfl, ?_⟩
        rw [mem_signs]
        have em : acc.map V.str ++ [.str (mk row)] = (acc ++ [mk row]).map V.str := by rw [List.map_append]; rfl
        rw [em]
        have hal2 := W2.al
        walk_at "rd"
        refine ifB (fun hs => ?_) (fun hs => ?_)
        · walk_at "rd"
          refine z_bml (SqL.of upd_same) ?_
          walk_at "rd"
          refine z_appd upd_same (by rw [List.length_map]; split at hal2 <;> omega) ?_
          exact ⟨[], (acc ++ [mk row]) ++ [mk [c]], _, _, rfl, by rw [upd_same, List.map_append (l₁ := acc ++ [mk row])]; rfl, capp _ _ (capp _ _ sc'), W2.sign hc ha hs⟩
        · obtain ⟨hgp, W3⟩ := W2.gap hc ha hs
          walk_at "rd"
          refine ⟨c, _, rfl, rfl, ?_⟩
          rw [mem_gaps, hgp]
          walk_at "rd"
          refine iteF ?_
          exact ⟨[], acc ++ [mk row], _, _, rfl, upd_same, capp _ _ sc', W3⟩
      · have hr' : row = [] := mk_em.mp hr
        subst hr'
        walk_at "rd"
        refine ⟨c, _, rfl, rfl, ?_⟩
        rw [mem_signs]
        walk_at "rd"
        refine ifB (fun hs => ?_) (fun hs => ?_)
        · walk_at "rd"
          refine z_bml (SqL.of hFc') ?_
          walk_at "rd"
          refine z_appd hFc' (by rw [List.length_map]; omega) ?_
          exact ⟨[], acc ++ [mk [c]], _, _, rfl, by rw [upd_same, List.map_append]; rfl, capp _ _ sc', W.sign hc ha hs⟩
        · obtain ⟨hgp, W3⟩ := W.gap hc ha hs
          walk_at "rd"
          refine ⟨c, _, rfl, rfl, ?_⟩
          rw [mem_gaps, hgp]
          walk_at "rd"
          refine iteF ?_
          exact ⟨[], acc, _, _, rfl, hFc', sc', W3⟩
    · rintro σ Hc ⟨row, acc, c3, c4, rfl, hFc, sc, W⟩
      rw [esz] at W
      have e := W.done
      have hal := W.al
      walk_at "rd"
      subst e
      exact k _ _ (sc.trans (cut_same F Hc)) hFc ⟨by split at hal <;> omega, W.wl⟩
  · refine ifT (decide_eq_true (by omega)) ?_
    unfold tMkO
    walk_at "rd"
    refine ⟨by show 1 ≤ 1000; omega, fun a ha => ⟨a, 0, rfl, upd_same, fun dx hdx n => ⟨rfl, dx, [("at", .int 0)], upd_same, by rw [upd_ne n, upd_same], by rw [upd_ne n] at hdx; exact hdx, ?_⟩⟩⟩
    have hdx' : H dx = none := by rw [upd_ne n] at hdx; exact hdx
    refine k dx _ (fun b o e => ?_) upd_same
    have n1 : b ≠ a := fun z => by rw [z, ha] at e; cases e
    have n2 : b ≠ dx := fun z => by rw [z, hdx'] at e; cases e
    rw [upd_ne n2, del_ne n1, upd_ne n1, upd_ne n2, upd_ne n1]
    exact e
end
end EH

set_option Elab.async false
set_option maxRecDepth 100000
set_option maxHeartbeats 4000000
set_option linter.unusedVariables false

/-! read. -/
namespace EH
open PySem PySem.Spec PyProof.Rows L2 TL
local macro_rules | `(tactic| walk_at "rd1") => `(tactic| (first
  | with_reducible refine z_seq ?_ | with_reducible refine z_ifs ?_ | with_reducible refine z_next ?_ | with_reducible refine z_ret ?_ | with_reducible refine z_asg ?_ | with_reducible refine z_gname ?_
  | ((with_reducible apply z_var); exact rfl) | with_reducible refine z_c ?_ | with_reducible refine z_op ?_ | with_reducible refine z_bl ?_ | with_reducible refine z_test ?_ | with_reducible refine z_B ?_
  | with_reducible refine z_nil ?_ | with_reducible refine z_cons ?_ | with_reducible refine z_cb ?_ | with_reducible refine z_call ?_ | with_reducible refine iteT ?_ | with_reducible refine iteF ?_
  | with_reducible refine z_or ?_ | with_reducible refine z_and ?_ | with_reducible refine z_not ?_ | with_reducible refine z_orv ?_ | with_reducible refine z_andv ?_ | with_reducible refine z_notv ?_ | with_reducible refine z_un ?_
  | with_reducible refine z_eqS ?_ | with_reducible refine z_neS ?_ | with_reducible refine z_eqI ?_ | with_reducible refine z_neI ?_ | with_reducible refine z_i0 ?_ | with_reducible refine z_radd ?_ | with_reducible refine z_rsub ?_ | with_reducible refine z_iu ?_
  | with_reducible refine z_fld ?_ | with_reducible refine z_meth ?_ | with_reducible refine z_sfld ?_ | with_reducible refine z_flda ?_ | with_reducible refine z_make ?_ | with_reducible refine z_drop ?_ | with_reducible refine z_retn ?_ | with_reducible refine z_cont ?_
  | with_reducible refine z_tup ?_ | with_reducible refine z_lst ?_ | with_reducible refine z_slice ?_ | with_reducible refine z_nopart ?_ | with_reducible refine z_part ?_ | with_reducible refine z_intr ?_ | with_reducible refine z_m1 ?_ | with_reducible refine z_lc ?_ | with_reducible refine z_yes ?_ | with_reducible refine z_il ?_ | with_reducible refine z_it ?_ | with_reducible refine z_bm ?_ | with_reducible refine z_for ?_ | with_reducible refine z_gcons ?_ | with_reducible refine z_gnil ?_ | with_reducible refine z_es ?_))
local macro_rules | `(tactic| walk_at "rd") => `(tactic| repeat (walk_at "rd1"))
local macro_rules | `(tactic| walk_at "no") => `(tactic| repeat (first | refine ifF (bSf (by decide +kernel)) ?_ | refine ifF (bSf num_ne) ?_ | (walk_at "rd1")))
local macro_rules | `(tactic| walk_at "ln") => `(tactic| (rintro vs H Q E h; repeat (first | (obtain ⟨e, _⟩ := h; subst e; rfl) | (obtain ⟨_, h⟩ := h))))
section
variable {P : Program} {w : World} {K : PySem.W.Frag} {mg : Str → Option Value} {base : Heap}
theorem z_house {p r : Addr} {H Hc : Hp} {s0 s s' : Src} {Q : VK} {E : XK} {h : Hs} (S0 : SrcOk K H p r s0) (G : Go K p r H Hc s) (hT : HouseR s h s') (k : ∀ H' v, Go K p r H H' s' → Same (nw H Hc) (nw H H') → RepH K (nw Hc H') h v → Q v H') : spHouse K [.ref p] Hc Q E :=
  ⟨p, r, s, s', h, rfl, hT, G.1, fun H' v g rp => let ⟨g', e⟩ := G.next S0 g.1 g.2; k H' v g' e rp⟩
theorem dp_tup {H : Hp} {v : V} {ds : List PyData} (h : Dp K H v (.tuple ds)) : ∃ a xs, v = .ref a ∧ SqT K H a xs ∧ DpAll K H xs ds := by
  cases h with
  | tup h1 h2 => exact ⟨_, _, rfl, h1, h2⟩
theorem dpa_cons {H : Hp} {vs : List V} {d : PyData} {ds : List PyData} (h : DpAll K H vs (d :: ds)) : ∃ v r, vs = v :: r ∧ Dp K H v d ∧ DpAll K H r ds := by
  cases h with
  | cons h1 h2 => exact ⟨_, _, rfl, h1, h2⟩
theorem dpa_nil {H : Hp} {vs : List V} (h : DpAll K H vs []) : vs = [] := by
  cases h
  rfl
theorem dp_str {H : Hp} {v : V} {x : Str} (h : Dp K H v (.str x)) : v = .str x := by
  cases h
  rfl
theorem pair_dp {H : Hp} {v : V} {q : Str × Str} (h : Dp K H v (pairD q)) : ∃ a, v = .ref a ∧ SqT K H a [.str q.1, .str q.2] := by
  obtain ⟨a, xs, rfl, h1, h2⟩ := dp_tup h
  obtain ⟨v1, r1, rfl, d1, h3⟩ := dpa_cons h2
  obtain ⟨v2, r2, rfl, d2, h4⟩ := dpa_cons h3
  rw [dpa_nil h4, dp_str d1, dp_str d2] at h1
  exact ⟨a, rfl, h1⟩
theorem houses_len {m : Nat} {acc out : List Hs} {s s' : Src} (h : HousesL m acc s out s') : acc.length ≤ out.length := by
  induction h with
  | stop _ => exact Nat.le_refl _
  | step _ _ ih => rw [List.length_append] at ih; omega
theorem DpAll.at {H : Hp} {vs : List V} {ds : List PyData} {i : Nat} {v : V} (h : DpAll K H vs ds) (e : vs[i]? = some v) : ∃ d, ds[i]? = some d ∧ Dp K H v d := by
  have hl := DpAll.len h
  obtain ⟨hi, _⟩ := List.getElem?_eq_some_iff.mp e
  obtain ⟨w, h1, h2⟩ := DpAll.get h (List.getElem?_eq_getElem (hl ▸ hi))
  rw [e] at h1
  cases h1
  exact ⟨_, List.getElem?_eq_getElem (hl ▸ hi), h2⟩
theorem house_now {s s' : Src} {h : Hs} (q : HouseR s h s') : s.now = ("house" : Str) := by
  cases q <;> rfl
def spRead (K : PySem.W.Frag) : Sp := fun vs H Q E => ∃ x : Str, vs = [.str x] ∧ x.length ≤ 100000 ∧ ((x.length ≤ 6000 ∧ ∃ ts pg, lexGo [] (tl x ++ [32]) = some ts ∧ ProgR ⟨ts, 0, 0⟩ pg ∧ ∀ H' v, Same H H' → RepP K H' pg v → Q v H') ∨ (6000 < x.length ∧ bwX (He.ga K "BadWords") E H))
theorem sc_read : FnScope ["text", "source", "houses", "params", "kind", "term", "param"] ["text"] (defScope s_read) := ⟨rfl, rfl, rfl, by decide +kernel, rfl, by decide +kernel, by decide +kernel⟩
theorem ok_read (T : Tx K mg) : Cal P w K mg base (L2.CX P w) 172 "read" ["text"] [] (spRead K) := by
  obtain ⟨fd, F⟩ := T.f_read
  refine cal_defX F T.g_read sc_read (fun _ _ _ _ _ _ us hl => match us, hl with | [_], _ => rfl) (by walk_at "ln") (fun cdv A outer s H vs Q E hr h => ?_)
  obtain ⟨x, rfl, hb, h⟩ := h
  refine ⟨_, (pss_cons (ps_set (i := 1) sc_read.nd rfl (Or.inl rfl) (pe_calc (ok_Source T) (hr.mono (by decide)) pass0 (pa_cons (pe_cal (ok_words T) (hr.mono (by decide)) (passes_call (takes_of rfl rfl rfl rfl) fun _ _ _ _ h => h) (pa_cons (pv 0) pa_nil)) pa_nil)))
    (pss_cons (ps_set (i := 2) sc_read.nd rfl (Or.inl rfl) (pe_lst pa_nil))
    (pss_cons (ps_while (passes_of rfl) (pt_cmpR op_eq (pe_calm0 (pv 1) (okm_now T) (hr.mono (by decide)) pass0) pe_str (nomark _)) (pss_one (ps_expr (pe_bm PySem.F.plainAttrs_list PySem.F.slot_list_append PySem.F.type_list_append mt_append (pv 2) (pa_cons (pe_cal (ok_read_house T) (hr.mono (by decide)) pass0 (pa_cons (pv 1) pa_nil)) pa_nil)))))
    (pss_cons (ps_if (pt_cmpR op_gt (pe_callB call_len_seq (by rfl) T.b_len PySem.boot_len (pa_cons (pv 2) pa_nil)) (pe_gi T.c_MOST_HOUSES) (nomark _)) (pss_one ps_never) pss_nil)
    (pss_cons (ps_expr (pe_calm (pv 1) (okm_need T) (hr.mono (by decide)) pass0 (pa_cons pe_str pa_nil)))
    (pss_cons (ps_set (i := 3) sc_read.nd rfl (Or.inl rfl) (pe_cal (ok_read_params T) (hr.mono (by decide)) pass0 (pa_cons (pv 1) pa_nil)))
    (pss_cons (ps_set (i := 4) sc_read.nd rfl (Or.inl rfl) (pe_calm0 (pv 1) (okm_need_kind T) (hr.mono (by decide)) pass0))
    (pss_cons (ps_expr (pe_calm (pv 1) (okm_need T) (hr.mono (by decide)) pass0 (pa_cons pe_str pa_nil)))
    (pss_cons (ps_set (i := 5) sc_read.nd rfl (Or.inl rfl) (pe_cal (term_ok T 32).2 (hr.mono (by decide)) pass0 (pa_cons (pv 1) (pa_cons pe_int (pa_cons pe_int pa_nil)))))
    (pss_cons (ps_if (PW.pt (pw_or (pt_cmpR op_ne (pe_calm0 (pv 1) (okm_now T) (hr.mono (by decide)) pass0) pe_str (nomark _)) (pw_or1 (pt_cmpR (op_neE hr.units) (pe_lc (own := [("param", 6)]) (g := gName 6) (by rfl) sc_read.nd (pi_tup (pv 3)) (blkOk_by (own := [("param", 6)]) (N := ["text", "source", "houses", "params", "kind", "term", "param"]) (sc := defScope s_read) (by decide +kernel)) (fun _ _ _ _ _ => pg_name (i := 6) sc_read.nd rfl (Or.inl rfl)) (fun _ _ _ _ _ => (pts_one (pt_cmpR op_ne (pe_ix (ix_tupK (K := K) rfl) (pv 6) pe_int (fun _ _ => rfl)) pe_str (nomark _)))) (fun _ _ _ _ _ => (pv 6))) (pe_lst pa_nil) (nomark _))))) (pss_one ps_never) pss_nil)
    (pss_one (ps_ret (pe_calc (ok_Program T) (hr.mono (by decide)) pass0 (pa_cons (pv 2) (pa_cons (pe_tup (pa_cons (pv 3) (pa_cons (pv 4) (pa_cons (pv 5) pa_nil)))) pa_nil))))))))))))))), ?_⟩
  walk_at "rd"
  refine ⟨x, rfl, hb, ?_⟩
  rcases h with ⟨hl, ts, pg, hg, hP, k⟩ | ⟨hl, k⟩
  · refine .inl ⟨hl, ts, hg, fun H1 l s1 hl1 hlg => ?_⟩
    walk_at "rd"
    refine z_mkSource hl1 hlg fun Hs p hp s2 S0 => ?_
    have hp0 : H p = none := Fr.same s1 _ hp
    obtain ⟨m, r, op, md, r1, op1, md1, se, hH, h12, hPa, hk, hT, he, hnum⟩ := hP
    walk_at "rd"
    refine z_lstr (by show 0 ≤ 100000; omega) fun F hF => ?_
    obtain ⟨G1, _⟩ := (Go.start S0).app S0 hF (o := .lst [])
    walk_at "rd"
    refine z_while (fun j σ Hc => ∃ acc us s3, σ = [some (.str x), some (.ref p), some (.ref F), none, none, none, none] ∧ Go K p l Hs Hc s3 ∧ Hc F = some (.lst us) ∧ All2 (RepH K (cut F (nw Hs Hc))) acc us ∧ HousesL j acc s3 pg.houses ⟨("main" : Str) :: r, op, md⟩) m ⟨[], [], _, rfl, G1, upd_same, rfl, hH⟩ ?_
    rintro j σ Hc ⟨acc, us, s3, rfl, G, hFc, A, hh⟩
    have hu := All2.len A
    walk_at "rd"
    refine z_now G ?_
    walk_at "rd"
    cases hh with
    | step hHo hh =>
      have hal := houses_len hh
      rw [List.length_append] at hal
      have hal2 : acc.length + 1 ≤ 12 := Nat.le_trans hal h12
      refine z_whT (bS (house_now hHo)) ?_
      walk_at "rd"
      refine z_bml (SqL.of hFc) ?_
      walk_at "rd"
      refine z_house S0 G hHo fun H3 v3 G3 e3 R3 => ?_
      have hF3 := (nw_at (e3 F _ (nw_of hF hFc))).2
      walk_at "rd"
      refine z_appd hF3 (by omega) ?_
      obtain ⟨G4, e4⟩ := G3.app S0 hF (o := .lst (us ++ [v3]))
      exact ⟨_, Nat.lt_succ_self _, _, _, _, rfl, G4, upd_same, All2.app (All2.mono (fun a v q => repH_mono ((cut_mono e3).trans e4) a v q) A) (repH_mono ((new_cut G.fr hFc).trans e4) _ _ R3), hh⟩
    | stop hn =>
      refine z_whF (bSf hn) ?_
      walk_at "rd"
      refine ⟨F, _, rfl, .inl (SqL.of hFc), ?_⟩
      walk_at "rd"
      refine ifD (fun c => absurd c (by omega)) (fun _ => ?_)
      walk_at "rd"
      refine z_need S0 G fun H2 G2 e2 => ?_
      walk_at "rd"
      refine z_rp S0 G2 hPa fun H3 pv G3 e3 D3 => ?_
      walk_at "rd"
      refine z_nkind S0 G3 hk fun H4 G4 e4 => ?_
      walk_at "rd"
      refine z_need S0 G4 fun H5 G5 e5 => ?_
      walk_at "rd"
      refine z_rt (least := 1) (floor := 1) S0 G5 (by decide) rfl rfl hT fun H6 tv G6 e6 R6 => ?_
      walk_at "rd"
      refine z_now G6 ?_
      walk_at "rd"
      refine ifSn (fun c => absurd (by show Src.now se = _; unfold Src.now; rw [he]; rfl) c) (fun _ => ?_)
      walk_at "rd"
      have D6 : Dp K H6 pv (parD pg.params) := Dp.mono (((nwO G2.fr (SrcOk.at G2.1).choose_spec (Off.refl _ _)).trans ((e4.trans e5).trans e6)).trans nw_sub) D3
      obtain ⟨pa, pus, rfl, q1, q2⟩ := dp_tup D6
      have hF6 := (nw_at ((((e2.trans e3).trans e4).trans (e5.trans e6)) F _ (nw_of hF hFc))).2
      refine z_itr q1 ?_
      refine z_lcr (walk_tup (K := K) (a := pa) (xs := pus)) (fun i acc _ => acc = []) (fun H7 hS => Same.seqT hS q1) (fun _ _ => rfl) ?_ ?_
      · rintro D i acc2 y H7 H8 hD1 hi hS hal hacc hR ⟨rfl, hy⟩
        obtain ⟨d, hd1, hd2⟩ := DpAll.at q2 hy
        rw [List.getElem?_map] at hd1
        cases eq : pg.params[i]? with
        | none => rw [eq] at hd1; simp at hd1
        | some q =>
          rw [eq] at hd1
          have hd1' : pairD q = d := Option.some.inj hd1
          subst hd1'
          obtain ⟨b, rfl, hq⟩ := pair_dp hd2
          walk_at "rd"
          refine ⟨rfl, ?_⟩
          walk_at "rd"
          refine z_ixT (Same.seqT hS hq) (v := .str q.2) (atI_nat (j := 1) rfl) ?_
          walk_at "rd"
          refine ifF (bSnf (hnum q (List.mem_of_getElem? eq))) ?_
          exact ⟨acc2, hacc, Nat.le_succ_of_le hal, hS, hR⟩
      · intro D acc2 H7 hD1 hS hacc hR
        rw [hR] at hacc
        walk_at "rd"
        refine z_lstr (by show 0 ≤ 100000; omega) fun D2 hD2 => ?_
        have s7 := Same.new hD2 (o := .lst [])
        refine z_neE (xs := []) (SqL.of (s7 _ _ hacc)) (SqL.of upd_same) ?_
        walk_at "rd"
        refine ifF (by simp) ?_
        walk_at "rd"
        refine z_tupr (by show 3 ≤ 100000; omega) fun tp htp => ?_
        have s8 := Same.new htp (o := .tup [.ref pa, .str pg.kind, tv])
        have s67 := (hS.trans s7).trans s8
        walk_at "rd"
        have A6 : All2 (RepH K H6) pg.houses us := All2.mono (fun a v q => repH_mono ((cut_same F _).trans ((((e2.trans e3).trans e4).trans (e5.trans e6)).trans nw_sub)) a v q) A
        refine z_mkProgram (pg := pg) (SqL.of (s67 _ _ hF6)) (All2.mono (fun a v q => repH_mono s67 a v q) A6) (SqT.of upd_same) (Dp.mono s67 D6) (rep_mono (nw_sub.trans s67) _ _ R6) fun H9 v s9 R9 => ?_
        refine k H9 v (((s1.trans (fun b o e => ?_)).trans s67).trans s9) R9
        exact G6.2.at (fun z => by rw [z, hp] at e; cases e) (s2 b o e)
  · exact .inr ⟨hl, k⟩
end
end EH

set_option Elab.async false
set_option maxRecDepth 100000
set_option maxHeartbeats 4000000
set_option linter.unusedVariables false

/-! The law's own words: cells, names. -/
namespace EH
open PySem PySem.Spec PyProof.Rows L2 TL
def rMulS : R2 := fun x y H Q => ∃ (z : Str) (n : Int), x = .str z ∧ y = .int n ∧ ((n = 0 ∧ Q (.str ("" : Str)) H) ∨ (n = 1 ∧ Q (.str z) H))
theorem op_repS {X : Cx} : OpR X (binaryOp .Mult) rMulS := by
  intro pins s σ H x y v u Q I rx ry h
  obtain ⟨z, n, rfl, rfl, h⟩ := h
  obtain ⟨t, rfl⟩ := rx
  obtain ⟨t', rfl⟩ := ry
  rcases h with ⟨rfl, q⟩ | ⟨rfl, q⟩
  · exact PySem.P.mul_str_none (by decide) (by decide) ⟨.str ("" : Str), H, I.tok _, ⟨_, rfl⟩, q⟩
  · refine PySem.P.mul_str (by decide) (fun _ h => by simp at h) (fun _ h => by simp at h) ?_
    rw [if_neg (by decide), if_pos (by simp)]
    exact ⟨.str z, H, I, ⟨_, rfl⟩, q⟩
theorem z_sub {to ti : TE} {t : TSet} {v : V} {σ : L2.St} {H : Hp} {Q : L2.St → Hp → Prop} (h : to σ H fun o H1 => ti σ H1 fun i H2 => t o i v H2 fun H3 => Q σ H3) : gSub to ti t v σ H Q := h
/-- ints under a condition -/
theorem z_ic {C : Int → Int → Prop} {g : Int → Int → V} {i j : Int} {H : Hp} {Q : VK} (c : C i j) (h : Q (g i j) H) : rI C g (.int i) (.int j) H Q := ⟨i, j, rfl, rfl, c, h⟩
local macro_rules | `(tactic| walk_at "ar") => `(tactic| repeat (first | walk_at "rd1" | refine z_ic (C := CDiv) ⟨by decide, by decide⟩ ?_ | refine z_ic (C := CMul) (.inr ⟨by decide, by decide⟩) ?_ | refine z_ic (C := CMul) (.inl ⟨by decide, by decide⟩) ?_ | (refine z_ic (C := fun _ j => 0 < j) (by decide) ?_)))
local macro_rules | `(tactic| walk_at "rd1") => `(tactic| (first
  | with_reducible refine z_seq ?_ | with_reducible refine z_ifs ?_ | with_reducible refine z_next ?_ | with_reducible refine z_ret ?_ | with_reducible refine z_asg ?_ | with_reducible refine z_gname ?_
  | ((with_reducible apply z_var); exact rfl) | with_reducible refine z_c ?_ | with_reducible refine z_op ?_ | with_reducible refine z_bl ?_ | with_reducible refine z_test ?_ | with_reducible refine z_B ?_
  | with_reducible refine z_nil ?_ | with_reducible refine z_cons ?_ | with_reducible refine z_cb ?_ | with_reducible refine z_call ?_ | with_reducible refine iteT ?_ | with_reducible refine iteF ?_
  | with_reducible refine z_or ?_ | with_reducible refine z_and ?_ | with_reducible refine z_not ?_ | with_reducible refine z_orv ?_ | with_reducible refine z_andv ?_ | with_reducible refine z_notv ?_ | with_reducible refine z_un ?_
  | with_reducible refine z_eqS ?_ | with_reducible refine z_neS ?_ | with_reducible refine z_eqI ?_ | with_reducible refine z_neI ?_ | with_reducible refine z_i0 ?_ | with_reducible refine z_radd ?_ | with_reducible refine z_rsub ?_ | with_reducible refine z_iu ?_
  | with_reducible refine z_fld ?_ | with_reducible refine z_meth ?_ | with_reducible refine z_sfld ?_ | with_reducible refine z_flda ?_ | with_reducible refine z_make ?_ | with_reducible refine z_drop ?_ | with_reducible refine z_retn ?_ | with_reducible refine z_cont ?_
  | with_reducible refine z_tup ?_ | with_reducible refine z_lst ?_ | with_reducible refine z_slice ?_ | with_reducible refine z_nopart ?_ | with_reducible refine z_part ?_ | with_reducible refine z_intr ?_ | with_reducible refine z_m1 ?_ | with_reducible refine z_lc ?_ | with_reducible refine z_yes ?_ | with_reducible refine z_il ?_ | with_reducible refine z_it ?_ | with_reducible refine z_bm ?_ | with_reducible refine z_for ?_ | with_reducible refine z_gcons ?_ | with_reducible refine z_gnil ?_ | with_reducible refine z_es ?_ | with_reducible refine z_sub ?_ | with_reducible refine z_ri ?_ | with_reducible refine z_i0 ?_))
local macro_rules | `(tactic| walk_at "rd") => `(tactic| repeat (walk_at "rd1"))
local macro_rules | `(tactic| walk_at "no") => `(tactic| repeat (first | refine ifF (bSf (by decide +kernel)) ?_ | refine ifF (bSf num_ne) ?_ | (walk_at "rd1")))
local macro_rules | `(tactic| walk_at "ln") => `(tactic| (rintro vs H Q E h; repeat (first | (obtain ⟨e, _⟩ := h; subst e; rfl) | (obtain ⟨_, h⟩ := h))))
section
variable {P : Program} {w : World} {K : PySem.W.Frag} {mg : Str → Option Value} {base : Heap}
def spCell (K : PySem.W.Frag) : Sp := fun vs H Q _ => ∃ (a : Addr) (ns : List Int) (k : Nat), vs = [.ref a, .int k] ∧ SqL K H a (ns.map V.int) ∧ ∀ r : Int, Q (.int r) H
theorem sc_z_cell_at : FnScope ["_law_script", "_law_k"] ["_law_script", "_law_k"] (defScope s_z_cell_at) := ⟨rfl, rfl, rfl, by decide +kernel, rfl, by decide +kernel, by decide +kernel⟩
theorem ok_z_cell_at (T : Tx K mg) : Cal P w K mg base CX0 1 "_law_cell_at" ["_law_script", "_law_k"] [] (spCell K) := by
  obtain ⟨fd, F⟩ := T.f_z_cell_at
  refine cal_def F T.g_z_cell_at sc_z_cell_at (fun _ _ _ _ _ _ us hl => match us, hl with | [_, _], _ => rfl) (by walk_at "ln") (fun cdv A outer s H vs Q E hr h => ?_)
  obtain ⟨a, ns, j, rfl, hs, k⟩ := h
  refine ⟨_, (pss_cons (ps_if (pt_cmpR op_lt (pv 1) (pe_callB call_len_seq (by rfl) T.b_len PySem.boot_len (pa_cons (pv 0) pa_nil)) (nomark _)) (pss_one (ps_ret (pe_ix ix_list (pv 0) (pv 1) (fun _ _ => rfl)))) pss_nil)
    (pss_one (ps_ret pe_int))), ?_⟩
  walk_at "rd"
  refine ⟨a, _, rfl, .inl hs, ?_⟩
  walk_at "rd"
  rw [List.length_map]
  refine ifD (fun c => ?_) (fun c => ?_)
  · have hj : j < ns.length := by omega
    walk_at "rd"
    refine z_ixL hs (atI_nat (j := j) (v := .int ns[j]) (by rw [List.getElem?_map, List.getElem?_eq_getElem hj]; rfl)) ?_
    exact k _
  · walk_at "rd"
    exact k _
def spMixed : Sp := fun vs H Q _ => ∃ (c k : Int), vs = [.int c, .int k] ∧ 0 ≤ k ∧ k ≤ 1000 ∧ ∀ r : Int, Q (.int r) H
theorem sc_z_mixed : FnScope ["_law_cell", "_law_k"] ["_law_cell", "_law_k"] (defScope s_z_mixed) := ⟨rfl, rfl, rfl, by decide +kernel, rfl, by decide +kernel, by decide +kernel⟩
theorem ok_z_mixed (T : Tx K mg) : Cal P w K mg base CX0 1 "_law_mixed" ["_law_cell", "_law_k"] [] spMixed := by
  obtain ⟨fd, F⟩ := T.f_z_mixed
  refine cal_def F T.g_z_mixed sc_z_mixed (fun _ _ _ _ _ _ us hl => match us, hl with | [_, _], _ => rfl) (by walk_at "ln") (fun cdv A outer s H vs Q E hr h => ?_)
  obtain ⟨c, j, rfl, h0, h1, k⟩ := h
  refine ⟨_, (pss_one (ps_ret (pe_op op_fdiv (pe_op op_mod (pe_op op_mul (pe_op op_add (pe_op op_add (pe_op op_mod (pe_op op_mul (pv 0) pe_int) pe_int) (pe_op op_mul (pe_op op_mul pe_int (pv 1)) (pv 1))) (pe_op op_mul pe_int (pv 1))) pe_int) pe_int) pe_int))), ?_⟩
  walk_at "ar"
  refine z_ic (C := CMul) (.inr ⟨by omega, by omega⟩) ?_
  walk_at "ar"
  exact k _
def toldL : List Str := ["house", "of", "has", "can", "main", "let", "in", "if", "then", "else", "new", "self", "elder", "set", "not", "yes", "no", "number", "truth"]
def LET : Str := "abcdefghijklmnopqrstuvwxyz0123456789"
def chOk (c : Nat) : Bool := isLow c || isDig c
def chS (c : Nat) : V := .str ⟨#[c]⟩
theorem atI_in {α : Type} {xs : List α} {i : Int} (h0 : 0 ≤ i) (h1 : i < xs.length) : ∃ v, xs[i.toNat]? = some v ∧ atI xs i = some v := by
  obtain ⟨n, rfl⟩ := Int.eq_ofNat_of_zero_le h0
  have hn : n < xs.length := by omega
  exact ⟨xs[n], List.getElem?_eq_getElem hn, atI_nat (List.getElem?_eq_getElem hn)⟩
theorem let_len : LET.length ≤ 100000 := by decide +kernel
theorem let36 {i : Int} (h0 : 0 ≤ i) (h1 : i < 36) : ∃ c, atI LET.cps.toList i = some c ∧ chOk c = true := by
  have e : LET.cps.toList.length = 36 := by decide +kernel
  obtain ⟨v, h2, h3⟩ := atI_in (xs := LET.cps.toList) h0 (by rw [e]; exact h1)
  have all : LET.cps.toList.all chOk = true := by decide +kernel
  exact ⟨v, h3, List.all_eq_true.mp all v (List.mem_of_getElem? h2)⟩
theorem let26 {i : Int} (h0 : 0 ≤ i) (h1 : i < 26) : ∃ c, atI LET.cps.toList i = some c ∧ isLow c = true := by
  have e : LET.cps.toList.length = 36 := by decide +kernel
  obtain ⟨v, h2, h3⟩ := atI_in (xs := LET.cps.toList) h0 (by rw [e]; omega)
  have all : (LET.cps.toList.take 26).all isLow = true := by decide +kernel
  refine ⟨v, h3, List.all_eq_true.mp all v (List.mem_of_getElem? (i := i.toNat) ?_)⟩
  rw [List.getElem?_take, if_pos (by omega)]
  exact h2
theorem join_chs : ∀ cs : List Nat, tl (Txt.join ("" : Str) (cs.map fun c => (⟨#[c]⟩ : Str))) = cs := by
  have e0 : tl ("" : Str) = [] := by decide +kernel
  intro cs
  rw [join_eq, tl_join, e0]
  induction cs with
  | nil => rfl
  | cons c r ih =>
    cases r with
    | nil => rfl
    | cons d r =>
      show [c] ++ [] ++ joinL [] (List.map tl (List.map (fun c => (⟨#[c]⟩ : Str)) (d :: r))) = _
      rw [ih]
      rfl
theorem row_of {x : Str} {c : Nat} {r : List Nat} (e : tl x = c :: r) (hc : isLow c = true) (hr : r.all chOk = true) (hl : r.length ≤ 7) : isNameRow x = true := by
  unfold isNameRow
  rw [len_tl, e]
  simp only [Bool.and_eq_true, decide_eq_true_eq, List.length_cons, List.all_cons]
  refine ⟨⟨by omega, hc⟩, by rw [hc]; rfl, hr⟩
theorem cut1 (cs : List Nat) (hi : Option Int) (hl : cs.length = 8) (ha : cs.all chOk = true) : ∃ ds : List Nat, cutV (cs.map chS) (some 1) hi = ds.map chS ∧ ds.length ≤ 7 ∧ ds.all chOk = true := by
  refine ⟨(cs.drop (HT.sIx (cs.map chS).length 0 (some 1))).take (HT.sIx (cs.map chS).length (cs.map chS).length hi - HT.sIx (cs.map chS).length 0 (some 1)), ?_, ?_, ?_⟩
  · unfold cutV
    rw [List.map_take, List.map_drop]
  · rw [List.length_take, List.length_drop, List.length_map, hl]
    have : HT.sIx 8 0 (some 1) = 1 := by decide
    rw [this]
    omega
  · refine List.all_eq_true.mpr fun c hc => List.all_eq_true.mp ha c (List.mem_of_mem_drop (List.mem_of_mem_take hc))
theorem told_word {i : Int} (h0 : 0 ≤ i) (h1 : i < 19) : ∃ w, atI (toldL.map V.str) i = some (.str w) ∧ isNameRow w = true ∧ w.length ≤ 7 := by
  obtain ⟨v, h2, h3⟩ := atI_in (xs := toldL.map V.str) h0 (by show i < 19; exact h1)
  rw [List.getElem?_map] at h2
  cases e : toldL[i.toNat]? with
  | none => rw [e] at h2; cases h2
  | some w =>
    rw [e] at h2
    have hv : V.str w = v := Option.some.inj h2
    subst hv
    have all : (toldL.all fun w => isNameRow w && decide (w.length ≤ 7)) = true := by decide +kernel
    have q := List.all_eq_true.mp all w (List.mem_of_getElem? e)
    simp only [Bool.and_eq_true, decide_eq_true_eq] at q
    exact ⟨w, h3, q.1, q.2⟩
theorem row_parts {x : Str} (h : isNameRow x = true) : ∃ c r, tl x = c :: r ∧ isLow c = true ∧ r.all chOk = true ∧ r.length ≤ 7 := by
  unfold isNameRow at h
  simp only [Bool.and_eq_true, decide_eq_true_eq] at h
  obtain ⟨⟨h1, h2⟩, h3⟩ := h
  rw [len_tl] at h1
  cases e : tl x with
  | nil => rw [e] at h2; cases h2
  | cons c r =>
    rw [e] at h1 h2 h3
    rw [List.all_cons, Bool.and_eq_true] at h3
    exact ⟨c, r, rfl, h2, h3.2, by simp at h1; omega⟩
theorem row_end {w : Str} {c : Nat} (h : isNameRow w = true) (hl : w.length ≤ 7) (hc : chOk c = true) : isNameRow (w ++ (⟨#[c]⟩ : Str)) = true := by
  obtain ⟨d, r, e, h1, h2, h3⟩ := row_parts h
  refine row_of (c := d) (r := r ++ [c]) (by rw [tl_append, e]; rfl) h1 (by rw [List.all_append, h2]; simp [hc]) ?_
  rw [len_tl, e] at hl
  simp at hl ⊢
  omega
theorem row_front {w : Str} {c : Nat} (h : isNameRow w = true) (hl : w.length ≤ 7) (hc : isLow c = true) : isNameRow ((⟨#[c]⟩ : Str) ++ w) = true := by
  obtain ⟨d, r, e, h1, h2, h3⟩ := row_parts h
  refine row_of (c := c) (r := d :: r) (by rw [tl_append, e]; rfl) hc (by rw [List.all_cons, h2]; unfold chOk; rw [h1]; rfl) ?_
  rw [len_tl, e] at hl
  simpa using hl
theorem row_join {c : Nat} {ds : List Nat} (hc : isLow c = true) (hd : ds.all chOk = true) (hl : ds.length ≤ 7) : isNameRow ((⟨#[c]⟩ : Str) ++ Txt.join ("" : Str) (ds.map fun c => (⟨#[c]⟩ : Str))) = true :=
  row_of (c := c) (r := ds) (by rw [tl_append, join_chs]; rfl) hc hd hl
theorem told_all {x : Str} (h : toldL.contains x = false) : isTold x = false := by
  rw [Bool.eq_false_iff]
  intro q
  have all : ((headWords ++ termWords).all fun w => toldL.contains w) = true := by decide +kernel
  unfold isTold at q
  rw [Bool.or_eq_true, List.contains_iff_mem, List.contains_iff_mem] at q
  have m : x ∈ headWords ++ termWords := List.mem_append.mpr q
  rw [List.all_eq_true.mp all x m] at h
  cases h
theorem told_zero {x : Str} (h : toldL.contains x = true) : isName (x ++ ("0" : Str)) = true := by
  have all : (toldL.all fun w => isName (w ++ ("0" : Str))) = true := by decide +kernel
  exact List.all_eq_true.mp all x (List.contains_iff_mem.mp h)
theorem row_len {x : Str} (h : isNameRow x = true) : x.length ≤ 8 := by
  unfold isNameRow at h
  simp only [Bool.and_eq_true, decide_eq_true_eq] at h
  exact h.1.1
theorem app_em (x : Str) : x ++ ("" : Str) = x := by
  refine ext_tl ?_
  rw [tl_append, show tl ("" : Str) = [] by decide +kernel, List.append_nil]
theorem name_of {x : Str} (h : isNameRow x = true) (k : toldL.contains x = false) : isName x = true := by
  unfold isName
  rw [h, told_all k]
  rfl
def NmR (K : PySem.W.Frag) (H : Hp) (Q : VK) : Prop := ∀ (x : Str) H', isName x = true → Same H H' → Q (.str x) H'
def spName (K : PySem.W.Frag) : Sp := fun vs H Q _ => ∃ (n sh : Int), vs = [.int n, .int sh] ∧ ∀ (x : Str) H', isName x = true → Same H H' → Q (.str x) H'
theorem sum_ones (ds : List Nat) : ((ds.map fun c => (⟨#[c]⟩ : Str)).map (·.length)).sum = ds.length := by
  induction ds with
  | nil => rfl
  | cons c r ih =>
    rw [List.map_cons, List.map_cons, List.sum_cons, ih]
    show 1 + r.length = r.length + 1
    omega
theorem sc_z_name : FnScope ["_law_k", "_law_shift", "_law_letters", "_law_told_here", "_law_rest", "_law_size", "_law_at", "_law_first", "_law_name_here", "_law_word", "_law_j"] ["_law_k", "_law_shift"] (defScope s_z_name) := ⟨rfl, rfl, rfl, by decide +kernel, rfl, by decide +kernel, by decide +kernel⟩
theorem ok_z_name (T : Tx K mg) : Cal P w K mg base CX0 1 "_law_name" ["_law_k", "_law_shift"] [] (spName K) := by
  obtain ⟨fd, F⟩ := T.f_z_name
  refine cal_def F T.g_z_name sc_z_name (fun _ _ _ _ _ _ us hl => match us, hl with | [_, _], _ => rfl) (by walk_at "ln") (fun cdv A outer s H vs Q E hr h => ?_)
  obtain ⟨n, sh, rfl, k⟩ := h
  refine ⟨_, (pss_cons (ps_set (i := 2) sc_z_name.nd rfl (Or.inr rfl) pe_str)
    (pss_cons (ps_set (i := 3) sc_z_name.nd rfl (Or.inl rfl) (pe_split pe_str pe_str))
    (pss_cons (ps_setLc (i := 4) (own := [("_law_j", 10)]) (g := gName 10) rfl sc_z_name.nd rfl rfl (sw_true rfl rfl rfl (by decide +kernel)) (pi_range1 (by rfl) T.b_range (pa_cons pe_int pa_nil)) (blkOk_by (own := [("_law_j", 10)]) (N := ["_law_k", "_law_shift", "_law_letters", "_law_told_here", "_law_rest", "_law_size", "_law_at", "_law_first", "_law_name_here", "_law_word", "_law_j"]) (sc := defScope s_z_name) (by decide +kernel)) (fun _ _ _ _ _ => pg_name (i := 10) sc_z_name.nd rfl (Or.inl rfl)) (fun _ _ _ _ _ => pts_nil) (fun _ _ _ _ _ => (pe_ix ix_str (pv 2) (pe_op op_mod (pe_op op_add (pe_op op_fdiv (pv 1) pe_int) (pe_op op_mul pe_int (pv 10))) pe_int) (fun _ _ => rfl))))
    (pss_cons (ps_set (i := 5) sc_z_name.nd rfl (Or.inl rfl) (pe_op op_add pe_int (pe_op op_mod (pe_op op_fdiv (pv 1) pe_int) pe_int)))
    (pss_cons (ps_set (i := 6) sc_z_name.nd rfl (Or.inl rfl) (pe_ix ix_list (pe_lst (pa_cons (pe_op op_mod (pe_op op_fdiv (pv 1) pe_int) (pv 5)) (pa_cons pe_int (pa_cons (pe_op op_sub (pv 5) pe_int) pa_nil)))) (pe_op op_mod (pv 1) pe_int) (fun _ _ => rfl)))
    (pss_cons (ps_asg (pe_ix ix_str (pv 2) (pe_op op_mod (pe_op op_add (pe_op op_fdiv (pv 1) pe_int) (pv 0)) pe_int) (fun _ _ => rfl)) (pg_sub (pv 4) (pv 6) set_list))
    (pss_cons (ps_set (i := 7) sc_z_name.nd rfl (Or.inl rfl) (pe_ix ix_str (pv 2) (pe_op op_mod (pe_op op_add (pe_op op_fdiv (pv 1) pe_int) (pe_op op_mul (pv 0) (pe_callTy call_int1 (by rfl) T.b_int (by decide +kernel) (pa_cons (pe_cmpR op_eq (pe_op op_mod (pv 1) pe_int) pe_int (nomark _)) pa_nil)))) pe_int) (fun _ _ => rfl)))
    (pss_cons (ps_set (i := 8) sc_z_name.nd rfl (Or.inl rfl) (pe_op op_add_str (pv 7) (pe_join pe_str (pe_slice sl_list (pv 4) (po_some pe_int) (po_some (pv 5))))))
    (pss_cons (ps_set (i := 9) sc_z_name.nd rfl (Or.inl rfl) (pe_ix ix_list (pv 3) (pe_op op_mod (pe_op op_add (pe_op op_fdiv (pv 1) pe_int) (pv 0)) pe_int) (fun _ _ => rfl)))
    (pss_cons (ps_if (pt_cmpR op_eq (pe_op op_mod (pv 1) pe_int) pe_int (nomark _)) (pss_one (ps_set (i := 8) sc_z_name.nd rfl (Or.inl rfl) (pe_op op_add_str (pv 9) (pe_ix ix_str (pv 2) (pe_op op_mod (pe_op op_add (pe_op op_fdiv (pv 1) pe_int) (pv 0)) pe_int) (fun _ _ => rfl))))) pss_nil)
    (pss_cons (ps_if (pt_cmpR op_eq (pe_op op_mod (pv 1) pe_int) pe_int (nomark _)) (pss_one (ps_set (i := 8) sc_z_name.nd rfl (Or.inl rfl) (pe_op op_add_str (pe_ix ix_str (pv 2) (pe_op op_mod (pe_op op_add (pe_op op_fdiv (pv 1) pe_int) (pv 0)) pe_int) (fun _ _ => rfl)) (pv 9)))) pss_nil)
    (pss_cons (ps_if (pt_cmpR op_eq (pe_op op_mod (pv 1) pe_int) pe_int (nomark _)) (pss_one (ps_set (i := 8) sc_z_name.nd rfl (Or.inl rfl) (pe_join pe_str (pe_op op_cat (pe_lst (pa_cons (pe_ix ix_str (pv 2) (pe_op op_mod (pe_op op_fdiv (pv 1) pe_int) pe_int) (fun _ _ => rfl)) pa_nil)) (pe_slice sl_list (pv 4) (po_some pe_int) (po_some (pe_op op_add pe_int (pe_op op_mod (pv 0) pe_int)))))))) pss_nil)
    (pss_one (ps_ret (pe_op op_add_str (pv 8) (pe_op op_repS pe_str (pe_callTy call_int1 (by rfl) T.b_int (by decide +kernel) (pa_cons (pe_cmpR op_in_seq (pv 8) (pv 3) (by rfl)) pa_nil)))))))))))))))))), ?_⟩
  walk_at "rd"
  refine ⟨⟨_, rfl⟩, ?_⟩
  walk_at "rd"
  refine ⟨_, _, rfl, rfl, by decide +kernel, len_sz (by decide +kernel), fun p1 hp1 => ?_⟩
  rw [show Txt.split ("house of has can main let in if then else new self elder set not yes no number truth" : Str) (" " : Str) = toldL by decide +kernel]
  rw [show ("abcdefghijklmnopqrstuvwxyz0123456789" : Str) = LET from rfl]
  have s1 := Same.new hp1 (o := .lst (toldL.map V.str))
  have ht1 : upd H p1 (.lst (toldL.map V.str)) p1 = some (.lst (toldL.map V.str)) := upd_same
  generalize upd H p1 (.lst (toldL.map V.str)) = H1 at s1 ht1
  walk_at "rd"
  unfold iRng1
  walk_at "rd"
  refine ⟨8, rfl, by decide, by decide, ?_⟩
  refine z_lcr (walk_range (lo := 0) (n := (8 : Int).toNat)) (fun i acc _ => ∃ cs : List Nat, acc = cs.map chS ∧ cs.length = i ∧ cs.all chOk = true) (fun _ _ => trivial) (fun _ _ => ⟨[], rfl, rfl, rfl⟩) ?_ ?_
  · rintro D i acc y H2 H3 hD1 hi hS hal hacc ⟨cs, rfl, hcl, hca⟩ ⟨rfl, rfl⟩
    walk_at "rd"
    refine ⟨rfl, ?_⟩
    walk_at "ar"
    obtain ⟨c, hc1, hc2⟩ := let36 (i := (sh / 7 + 5 * (0 + (i : Int))) % 36) (Int.emod_nonneg _ (by decide)) (Int.emod_lt_of_pos _ (by decide))
    refine z_ixS let_len hc1 ?_
    refine lc_end hD1 hS hacc hal (by have : i < 8 := hi; omega) (Same.refl _) fun H5 _ _ _ => ⟨cs ++ [c], by rw [List.map_append]; rfl, by rw [List.length_append, hcl]; rfl, by rw [List.all_append, hca]; simp [hc2]⟩
  · rintro D acc H2 hD1 hS hacc ⟨cs, rfl, hcl, hca⟩
    have hcl8 : cs.length = 8 := hcl
    have s2 := s1.trans hS
    have ht2 := hS _ _ ht1
    have nD : p1 ≠ D := ne_of_none ht1 hD1
    walk_at "ar"
    have z1 : 0 ≤ sh / 5 % 8 := Int.emod_nonneg _ (by decide)
    have z2 : sh / 5 % 8 < 8 := Int.emod_lt_of_pos _ (by decide)
    generalize hsz : 1 + sh / 5 % 8 = sz
    refine z_ic (C := fun _ j => 0 < j) (by omega) ?_
    have z3 : 0 ≤ sh / 40 % sz := Int.emod_nonneg _ (by omega)
    have z4 : sh / 40 % sz < sz := Int.emod_lt_of_pos _ (by omega)
    walk_at "ar"
    refine z_lstr (by show 3 ≤ 100000; omega) fun p2 hp2 => ?_
    walk_at "ar"
    have hat : ∃ a : Int, 0 ≤ a ∧ a < 8 ∧ atI [V.int (sh / 40 % sz), .int 0, .int (sz - 1)] (sh % 3) = some (.int a) := by
      obtain ⟨v, h2, h3⟩ := atI_in (xs := [V.int (sh / 40 % sz), .int 0, .int (sz - 1)]) (i := sh % 3) (Int.emod_nonneg _ (by decide)) (by show sh % 3 < 3; exact Int.emod_lt_of_pos _ (by decide))
      have m := List.mem_of_getElem? h2
      simp only [List.mem_cons, List.not_mem_nil, or_false] at m
      rcases m with rfl | rfl | rfl
      · exact ⟨_, z3, by omega, h3⟩
      · exact ⟨0, by decide, by decide, h3⟩
      · exact ⟨_, by omega, by omega, h3⟩
    obtain ⟨a, ha0, ha1, hat⟩ := hat
    refine z_ixL (SqL.of upd_same) hat ?_
    have s3 := Same.new hp2 (o := .lst [V.int (sh / 40 % sz), .int 0, .int (sz - 1)])
    have hr3 := s3 _ _ hacc
    have ht3 := s3 _ _ ht2
    have s03 := s2.trans s3
    generalize upd H2 p2 (.lst [V.int (sh / 40 % sz), .int 0, .int (sz - 1)]) = H3 at s3 hr3 ht3 s03
    walk_at "ar"
    obtain ⟨c1, hc1, hc1o⟩ := let36 (i := (sh / 11 + n) % 36) (Int.emod_nonneg _ (by decide)) (Int.emod_lt_of_pos _ (by decide))
    refine z_ixS let_len hc1 ?_
    walk_at "ar"
    obtain ⟨an, rfl⟩ := Int.eq_ofNat_of_zero_le ha0
    refine ⟨D, _, _, an, rfl, rfl, hr3, ?_, ?_⟩
    · unfold ixN
      rw [List.length_map, hcl8, if_pos ha0, if_pos (by exact ha1)]
      rfl
    rw [show (cs.map chS).set an (.str ⟨#[c1]⟩) = (cs.set an c1).map chS by rw [List.map_set]; rfl]
    have hcl' : (cs.set an c1).length = 8 := by rw [List.length_set]; exact hcl8
    have hca' : (cs.set an c1).all chOk = true := by
      refine List.all_eq_true.mpr fun c hc => ?_
      rcases List.mem_or_eq_of_mem_set hc with q | q
      · exact List.all_eq_true.mp hca c q
      · rw [q]; exact hc1o
    generalize cs.set an c1 = cs' at hcl' hca'
    have nHD : H D = none := Fr.same s1 _ hD1
    have s4 : Same H (upd H3 D (.lst (cs'.map chS))) := fun b o e => by
      rw [upd_ne (fun z => by rw [z, nHD] at e; cases e)]
      exact s03 _ _ e
    have hr4 : upd H3 D (.lst (cs'.map chS)) D = some (.lst (cs'.map chS)) := upd_same
    have ht4 : upd H3 D (.lst (cs'.map chS)) p1 = some (.lst (toldL.map V.str)) := by rw [upd_ne nD]; exact ht3
    generalize upd H3 D (.lst (cs'.map chS)) = H4 at s4 hr4 ht4
    walk_at "ar"
    refine .inr ⟨_, rfl, ?_⟩
    walk_at "ar"
    refine z_ic (C := CMul) (.inr (by split <;> decide)) ?_
    walk_at "ar"
    obtain ⟨c2, hc2, hc2o⟩ := let26 (i := (sh / 7 + n * (if (decide (V.int (sh % 3) = V.int 1)) = true then 1 else 0)) % 26) (Int.emod_nonneg _ (by decide)) (Int.emod_lt_of_pos _ (by decide))
    refine z_ixS let_len hc2 ?_
    walk_at "ar"
    refine ⟨⟨_, rfl⟩, ?_⟩
    walk_at "rd"
    refine ⟨D, _, rfl, SqL.of hr4, fun p3 hp3 => ?_⟩
    obtain ⟨ds, ed, hdl, hda⟩ := cut1 cs' (some sz) hcl' hca'
    rw [ed]
    have s5 := Same.new hp3 (o := .lst (ds.map chS))
    refine ⟨_, _, ds.map fun c => (⟨#[c]⟩ : Str), rfl, rfl, .inl (SqL.of (by rw [upd_same, List.map_map]; rfl)), by rw [sum_ones, List.length_map]; show ds.length + ds.length * 0 ≤ _; omega, ?_⟩
    have hr5 := s5 _ _ hr4
    have ht5 := s5 _ _ ht4
    have s05 := s4.trans s5
    generalize upd H4 p3 (.lst (ds.map chS)) = H5 at s5 hr5 ht5 s05
    walk_at "rd"
    have hx1 := row_join hc2o hda hdl
    have hjl : (Txt.join ("" : Str) (ds.map fun c => (⟨#[c]⟩ : Str))).length ≤ 7 := by rw [len_tl, join_chs]; exact hdl
    refine ⟨_, _, rfl, rfl, len_sz (by show 1 + _ ≤ 100000; omega), ?_⟩
    generalize (⟨#[c2]⟩ : Str) ++ Txt.join ("" : Str) (ds.map fun c => (⟨#[c]⟩ : Str)) = x1 at hx1
    walk_at "ar"
    obtain ⟨wd, hw1, hw2, hw3⟩ := told_word (i := (sh / 25 + n) % 19) (Int.emod_nonneg _ (by decide)) (Int.emod_lt_of_pos _ (by decide))
    refine z_ixL (SqL.of ht5) hw1 ?_
    walk_at "ar"
    refine ifI (fun e1 => ?_) (fun e1 => ?_)
    · walk_at "ar"
      obtain ⟨c3, hc3, hc3o⟩ := let36 (i := (sh / 7 + n) % 36) (Int.emod_nonneg _ (by decide)) (Int.emod_lt_of_pos _ (by decide))
      refine z_ixS let_len hc3 ?_
      walk_at "ar"
      refine ⟨_, _, rfl, rfl, len_sz (by show _ + 1 ≤ 100000; omega), ?_⟩
      have hx2 := row_end hw2 hw3 hc3o
      walk_at "ar"
      refine ifI (fun e2 => absurd e2 (by omega)) (fun _ => ?_)
      walk_at "ar"
      refine ifI (fun e2 => absurd e2 (by omega)) (fun _ => ?_)
      walk_at "ar"
      refine r_inL (SqL.of ht5) (by rfl) (by rfl) ?_
      rw [inV_strs]
      walk_at "rd"
      refine .inr ⟨_, rfl, ?_⟩
      walk_at "rd"
      have hxl := row_len hx2
      cases ct : toldL.contains (wd ++ (⟨#[c3]⟩ : Str)) with
      | true =>
        refine ⟨("0" : Str), 1, rfl, rfl, .inr ⟨rfl, ?_⟩⟩
        refine ⟨_, _, rfl, rfl, len_sz (by show _ + 1 ≤ 100000; omega), ?_⟩
        exact k _ _ (told_zero ct) s05
      | false =>
        refine ⟨("0" : Str), 0, rfl, rfl, .inl ⟨rfl, ?_⟩⟩
        refine ⟨_, _, rfl, rfl, len_sz (by show _ + 0 ≤ 100000; omega), ?_⟩
        rw [app_em]
        exact k _ _ (name_of hx2 ct) s05

    walk_at "ar"
    refine ifI (fun e2 => ?_) (fun e2 => ?_)
    · walk_at "ar"
      obtain ⟨c3, hc3, hc3o⟩ := let26 (i := (sh / 7 + n) % 26) (Int.emod_nonneg _ (by decide)) (Int.emod_lt_of_pos _ (by decide))
      refine z_ixS let_len hc3 ?_
      walk_at "ar"
      refine ⟨_, _, rfl, rfl, len_sz (by show 1 + _ ≤ 100000; omega), ?_⟩
      have hx2 := row_front hw2 hw3 hc3o
      walk_at "ar"
      refine ifI (fun e2 => absurd e2 (by omega)) (fun _ => ?_)
      walk_at "ar"
      refine r_inL (SqL.of ht5) (by rfl) (by rfl) ?_
      rw [inV_strs]
      walk_at "rd"
      refine .inr ⟨_, rfl, ?_⟩
      walk_at "rd"
      have hxl := row_len hx2
      cases ct : toldL.contains ((⟨#[c3]⟩ : Str) ++ wd) with
      | true =>
        refine ⟨("0" : Str), 1, rfl, rfl, .inr ⟨rfl, ?_⟩⟩
        refine ⟨_, _, rfl, rfl, len_sz (by show _ + 1 ≤ 100000; omega), ?_⟩
        exact k _ _ (told_zero ct) s05
      | false =>
        refine ⟨("0" : Str), 0, rfl, rfl, .inl ⟨rfl, ?_⟩⟩
        refine ⟨_, _, rfl, rfl, len_sz (by show _ + 0 ≤ 100000; omega), ?_⟩
        rw [app_em]
        exact k _ _ (name_of hx2 ct) s05

    walk_at "ar"
    refine ifI (fun e3 => ?_) (fun e3 => ?_)
    · walk_at "ar"
      refine ⟨⟨_, rfl⟩, ?_⟩
      walk_at "ar"
      obtain ⟨c3, hc3, hc3o⟩ := let26 (i := sh / 7 % 26) (Int.emod_nonneg _ (by decide)) (Int.emod_lt_of_pos _ (by decide))
      refine z_ixS let_len hc3 ?_
      walk_at "ar"
      refine z_lstr (by show 1 ≤ 100000; omega) fun p6 hp6 => ?_
      have s6 := Same.new hp6 (o := .lst [.str ⟨#[c3]⟩])
      walk_at "ar"
      refine ⟨D, _, rfl, SqL.of (s6 _ _ hr5), fun p7 hp7 => ?_⟩
      obtain ⟨ds2, ed2, hdl2, hda2⟩ := cut1 cs' (some (1 + n % 8)) hcl' hca'
      rw [ed2]
      have s7 := Same.new hp7 (o := .lst (ds2.map chS))
      refine ⟨p6, p7, [.str ⟨#[c3]⟩], ds2.map chS, rfl, rfl, s7 _ _ upd_same, upd_same, len_sz (by show 1 + _ ≤ 100000; rw [List.length_map]; omega), fun p8 hp8 => ?_⟩
      have s8 := Same.new hp8 (o := .lst ([.str ⟨#[c3]⟩] ++ ds2.map chS))
      refine ⟨_, _, (c3 :: ds2).map fun c => (⟨#[c]⟩ : Str), rfl, rfl, .inl (SqL.of (by rw [upd_same, List.map_map]; rfl)), by rw [sum_ones, List.length_map]; show ds2.length + 1 + (ds2.length + 1) * 0 ≤ _; omega, ?_⟩
      have ht8 := s8 _ _ (s7 _ _ (s6 _ _ ht5))
      have s08 := s05.trans ((s6.trans s7).trans s8)
      have hx2 : isNameRow (Txt.join ("" : Str) ((c3 :: ds2).map fun c => (⟨#[c]⟩ : Str))) = true := row_of (c := c3) (r := ds2) (join_chs (c3 :: ds2)) hc3o hda2 hdl2
      generalize Txt.join ("" : Str) ((c3 :: ds2).map fun c => (⟨#[c]⟩ : Str)) = x2 at hx2
      walk_at "ar"
      refine r_inL (SqL.of ht8) (by rfl) (by rfl) ?_
      rw [inV_strs]
      walk_at "rd"
      refine .inr ⟨_, rfl, ?_⟩
      walk_at "rd"
      have hxl := row_len hx2
      cases ct : toldL.contains x2 with
      | true =>
        refine ⟨("0" : Str), 1, rfl, rfl, .inr ⟨rfl, ?_⟩⟩
        refine ⟨_, _, rfl, rfl, len_sz (by show _ + 1 ≤ 100000; omega), ?_⟩
        exact k _ _ (told_zero ct) s08
      | false =>
        refine ⟨("0" : Str), 0, rfl, rfl, .inl ⟨rfl, ?_⟩⟩
        refine ⟨_, _, rfl, rfl, len_sz (by show _ + 0 ≤ 100000; omega), ?_⟩
        rw [app_em]
        exact k _ _ (name_of hx2 ct) s08
    walk_at "ar"
    refine r_inL (SqL.of ht5) (by rfl) (by rfl) ?_
    rw [inV_strs]
    walk_at "rd"
    refine .inr ⟨_, rfl, ?_⟩
    walk_at "rd"
    have hxl := row_len hx1
    cases ct : toldL.contains x1 with
    | true =>
      refine ⟨("0" : Str), 1, rfl, rfl, .inr ⟨rfl, ?_⟩⟩
      refine ⟨_, _, rfl, rfl, len_sz (by show _ + 1 ≤ 100000; omega), ?_⟩
      exact k _ _ (told_zero ct) s05
    | false =>
      refine ⟨("0" : Str), 0, rfl, rfl, .inl ⟨rfl, ?_⟩⟩
      refine ⟨_, _, rfl, rfl, len_sz (by show _ + 0 ≤ 100000; omega), ?_⟩
      rw [app_em]
      exact k _ _ (name_of hx1 ct) s05
end
end EH

set_option Elab.async false
set_option maxRecDepth 100000
set_option maxHeartbeats 4000000
set_option linter.unusedVariables false

/-! The law's own words: atoms, what is taken off the stack. -/
namespace EH
open PySem PySem.Spec PyProof.Rows L2 TL
local macro_rules | `(tactic| walk_at "ar") => `(tactic| repeat (first | walk_at "rd1" | refine z_ic (C := CDiv) ⟨by decide, by decide⟩ ?_ | refine z_ic (C := CMul) (.inr ⟨by decide, by decide⟩) ?_ | refine z_ic (C := CMul) (.inl ⟨by decide, by decide⟩) ?_ | (refine z_ic (C := fun _ j => 0 < j) (by decide) ?_)))
def BmR0 (K : PySem.W.Frag) (Tn : String) (r : V → List V → Hp → VK → Prop) (x : V) (H : Hp) (Q : VK) : Prop := tyV K Tn x H ∧ r x [] H Q
theorem z_bm0 {K : PySem.W.Frag} {Tn : String} {r : V → List V → Hp → VK → Prop} {to : TE} {σ : L2.St} {H : Hp} {Q : VK} (h : to σ H fun x H1 => BmR0 K Tn r x H1 Q) : tBM0 K Tn r to σ H Q := h
theorem pe_bm0L {X : Cx} {K : PySem.W.Frag} {o : Expr} {to : TE} {name : Str} {apos cpos : Pos} {T id : String} {r : V → List V → Hp → VK → Prop} (hK : X.K = K) (pa : PlainAttrs T) (slot : Slot T name id) (hty : typeOf (.builtin id) = pure (.type "method_descriptor")) (hm : MtR X id r) (ho : PE X o to)
    (hbase : attributeBase o name X.env (eval o X.env) = eval o X.env := by rfl) (hline : (apos.endLine == cpos.line) = true := by rfl) : PE X (.Call (.Attribute o name apos) [] [] cpos) (tBM0 K T r to) := by
  subst hK
  exact pe_bm0 pa slot hty hm ho hbase hline
def RvR (K : PySem.W.Frag) (x : V) (H1 : Hp) (Q : VK) : Prop := ∃ a xs, x = .ref a ∧ SqL K H1 a xs ∧ ∀ p, H1 p = none → Q (.ref p) (upd H1 p (.lst xs.reverse))
theorem z_revL {K : PySem.W.Frag} {te : TE} {σ : L2.St} {H : Hp} {Q : VK} (h : te σ H fun x H1 => RvR K x H1 Q) : tRevL K te σ H Q := h
def RgR (vs : List V) (H : Hp) (R : It → Hp → Prop) : Prop := ∃ j : Int, vs = [.int j] ∧ -(2 ^ 62) ≤ j ∧ j < 2 ^ 62 ∧ R (Itr 0 j.toNat) H
theorem z_rng {ta : TA} {σ : L2.St} {H : Hp} {R : It → Hp → Prop} (h : ta σ H fun vs H1 => RgR vs H1 R) : iRng1 ta σ H R := h
theorem z_rngr {H : Hp} {R : It → Hp → Prop} {j : Int} {n : Nat} (e : j = (n : Int)) (hn : n ≤ 100000) (h : R (Itr 0 n) H) : RgR [.int j] H R := ⟨j, rfl, by omega, by omega, by rw [e]; exact h⟩
def EnR (K : PySem.W.Frag) (vs : List V) (H : Hp) (R : It → Hp → Prop) : Prop := ∃ a xs, vs = [.ref a] ∧ SqL K H a xs ∧ R (Ite K a) H
theorem z_enL {K : PySem.W.Frag} {ta : TA} {σ : L2.St} {H : Hp} {R : It → Hp → Prop} (h : ta σ H fun vs H1 => EnR K vs H1 R) : iEnum K ta σ H R := h
local macro_rules | `(tactic| walk_at "rd1") => `(tactic| (first
  | with_reducible refine z_seq ?_ | with_reducible refine z_ifs ?_ | with_reducible refine z_next ?_ | with_reducible refine z_ret ?_ | with_reducible refine z_asg ?_ | with_reducible refine z_gname ?_
  | ((with_reducible apply z_var); exact rfl) | with_reducible refine z_c ?_ | with_reducible refine z_op ?_ | with_reducible refine z_bl ?_ | with_reducible refine z_test ?_ | with_reducible refine z_B ?_
  | with_reducible refine z_nil ?_ | with_reducible refine z_cons ?_ | with_reducible refine z_cb ?_ | with_reducible refine z_call ?_ | with_reducible refine iteT ?_ | with_reducible refine iteF ?_
  | with_reducible refine z_or ?_ | with_reducible refine z_and ?_ | with_reducible refine z_not ?_ | with_reducible refine z_orv ?_ | with_reducible refine z_andv ?_ | with_reducible refine z_notv ?_ | with_reducible refine z_un ?_
  | with_reducible refine z_eqS ?_ | with_reducible refine z_neS ?_ | with_reducible refine z_eqI ?_ | with_reducible refine z_neI ?_ | with_reducible refine z_i0 ?_ | with_reducible refine z_radd ?_ | with_reducible refine z_rsub ?_ | with_reducible refine z_iu ?_
  | with_reducible refine z_fld ?_ | with_reducible refine z_meth ?_ | with_reducible refine z_sfld ?_ | with_reducible refine z_flda ?_ | with_reducible refine z_make ?_ | with_reducible refine z_drop ?_ | with_reducible refine z_retn ?_ | with_reducible refine z_cont ?_
  | with_reducible refine z_tup ?_ | with_reducible refine z_lst ?_ | with_reducible refine z_slice ?_ | with_reducible refine z_nopart ?_ | with_reducible refine z_part ?_ | with_reducible refine z_intr ?_ | with_reducible refine z_m1 ?_ | with_reducible refine z_lc ?_ | with_reducible refine z_yes ?_ | with_reducible refine z_il ?_ | with_reducible refine z_it ?_ | with_reducible refine z_bm ?_ | with_reducible refine z_for ?_ | with_reducible refine z_gcons ?_ | with_reducible refine z_gnil ?_ | with_reducible refine z_es ?_ | with_reducible refine z_sub ?_ | with_reducible refine z_ri ?_ | with_reducible refine z_i0 ?_ | with_reducible refine z_bm0 ?_ | with_reducible refine z_revL ?_ | with_reducible refine z_rng ?_ | with_reducible refine z_enL ?_))
local macro_rules | `(tactic| walk_at "rd") => `(tactic| repeat (walk_at "rd1"))
local macro_rules | `(tactic| walk_at "no") => `(tactic| repeat (first | refine ifF (bSf (by decide +kernel)) ?_ | refine ifF (bSf num_ne) ?_ | (walk_at "rd1")))
local macro_rules | `(tactic| walk_at "ln") => `(tactic| (rintro vs H Q E h; repeat (first | (obtain ⟨e, _⟩ := h; subst e; rfl) | (obtain ⟨_, h⟩ := h))))
section
variable {P : Program} {w : World} {K : PySem.W.Frag} {mg : Str → Option Value} {base : Heap}
/-- data of a term, its parts new -/
def spAtm (K : PySem.W.Frag) : Sp := fun vs H Q _ => ∃ (c sh : Int), vs = [.int c, .int sh] ∧ ∀ (t : T) (v : V) H', Same H H' → Dp K (nw H H') v (tdat t) → t.wf → t.depth = 1 → t.size = 1 → Q v H'
theorem sc_z_atom : FnScope ["_law_cell", "_law_shift"] ["_law_cell", "_law_shift"] (defScope s_z_atom) := ⟨rfl, rfl, rfl, by decide +kernel, rfl, by decide +kernel, by decide +kernel⟩
theorem ok_z_atom (T : Tx K mg) : Cal P w K mg base CX0 2 "_law_atom" ["_law_cell", "_law_shift"] [] (spAtm K) := by
  obtain ⟨fd, F⟩ := T.f_z_atom
  refine cal_def F T.g_z_atom sc_z_atom (fun _ _ _ _ _ _ us hl => match us, hl with | [_, _], _ => rfl) (by walk_at "ln") (fun cdv A outer s H vs Q E hr h => ?_)
  obtain ⟨c, sh, rfl, k⟩ := h
  refine ⟨_, (pss_cons (ps_if (pt_cmpR op_eq (pe_op op_mod (pv 0) pe_int) pe_int (nomark _)) (pss_one (ps_ret (pe_tup (pa_cons pe_str (pa_cons (pe_ix ix_list (pe_lst (pa_cons (pe_op op_mod (pe_op op_fdiv (pv 0) pe_int) pe_int) (pa_cons (pe_op op_mod (pe_op op_fdiv (pv 0) pe_int) pe_int) pa_nil))) (pe_op op_mod (pe_op op_fdiv (pv 0) pe_int) pe_int) (fun _ _ => rfl)) pa_nil))))) pss_nil)
    (pss_cons (ps_if (pt_cmpR op_eq (pe_op op_mod (pv 0) pe_int) pe_int (nomark _)) (pss_one (ps_ret (pe_ix ix_list (pe_lst (pa_cons (pe_tup (pa_cons pe_str pa_nil)) (pa_cons (pe_tup (pa_cons pe_str (pa_cons pe_bl pa_nil))) (pa_cons (pe_tup (pa_cons pe_str (pa_cons pe_bl pa_nil))) pa_nil)))) (pe_op op_mod (pe_op op_fdiv (pv 0) pe_int) pe_int) (fun _ _ => rfl)))) pss_nil)
    (pss_one (ps_ret (pe_tup (pa_cons pe_str (pa_cons (pe_cal (ok_z_name T) (hr.mono (by decide)) pass0 (pa_cons (pe_op op_mod (pe_op op_fdiv (pv 0) pe_int) pe_int) (pa_cons (pv 1) pa_nil))) pa_nil))))))), ?_⟩
  walk_at "ar"
  refine ifI (fun e1 => ?_) (fun e1 => ?_)
  · walk_at "ar"
    refine z_lstr (by show 2 ≤ 100000; omega) fun p hp => ?_
    walk_at "ar"
    have hv : ∃ n : Nat, n < 1000000000 ∧ atI [V.int (c / 4 % 10), .int (c / 4 % 1000000000)] (c / 40 % 2) = some (.int (n : Int)) := by
      obtain ⟨v, h2, h3⟩ := atI_in (xs := [V.int (c / 4 % 10), .int (c / 4 % 1000000000)]) (i := c / 40 % 2) (Int.emod_nonneg _ (by decide)) (by show c / 40 % 2 < 2; exact Int.emod_lt_of_pos _ (by decide))
      have m := List.mem_of_getElem? h2
      simp only [List.mem_cons, List.not_mem_nil, or_false] at m
      rcases m with rfl | rfl
      · exact ⟨(c / 4 % 10).toNat, by omega, by rw [h3]; congr 2; omega⟩
      · exact ⟨(c / 4 % 1000000000).toNat, by omega, by rw [h3]; congr 2; omega⟩
    obtain ⟨n, hn, hat⟩ := hv
    refine z_ixL (SqL.of upd_same) hat ?_
    walk_at "ar"
    have s1 := Same.new hp (o := .lst [V.int (c / 4 % 10), .int (c / 4 % 1000000000)])
    refine z_tpd (K := K) (H0 := H) (Fr.same s1) (.cons (.str _) (.cons (.int _) .nil)) (by show 2 ≤ 100000; omega) fun H9 u9 s9 d9 => ?_
    exact k (.num n) u9 H9 (s1.trans s9) d9 hn rfl rfl
  walk_at "ar"
  refine ifI (fun e2 => ?_) (fun e2 => ?_)
  · walk_at "ar"
    refine z_tupr (by show 1 ≤ 100000; omega) fun p1 hp1 => ?_
    walk_at "ar"
    refine z_tupr (by show 2 ≤ 100000; omega) fun p2 hp2 => ?_
    walk_at "ar"
    refine z_tupr (by show 2 ≤ 100000; omega) fun p3 hp3 => ?_
    walk_at "ar"
    refine z_lstr (by show 3 ≤ 100000; omega) fun p4 hp4 => ?_
    walk_at "ar"
    have s1 := Same.new hp1 (o := .tup [.str "self"])
    have s2 := Same.new hp2 (o := .tup [.str "truth", .bl true])
    have s3 := Same.new hp3 (o := .tup [.str "truth", .bl false])
    have s4 := Same.new hp4 (o := .lst [.ref p1, .ref p2, .ref p3])
    have S := ((s1.trans s2).trans s3).trans s4
    obtain ⟨v, h2, h3⟩ := atI_in (xs := [V.ref p1, .ref p2, .ref p3]) (i := c / 4 % 3) (Int.emod_nonneg _ (by decide)) (by show c / 4 % 3 < 3; exact Int.emod_lt_of_pos _ (by decide))
    refine z_ixL (SqL.of upd_same) h3 ?_
    have m := List.mem_of_getElem? h2
    simp only [List.mem_cons, List.not_mem_nil, or_false] at m
    rcases m with rfl | rfl | rfl
    · exact k .slf _ _ S (.tup (SqT.of (nw_of hp1 (s4 _ _ (s3 _ _ (s2 _ _ upd_same))))) (.cons (.str _) .nil)) trivial rfl rfl
    · exact k (.tru true) _ _ S (.tup (SqT.of (nw_of (Fr.same s1 _ hp2) (s4 _ _ (s3 _ _ upd_same)))) (.cons (.str _) (.cons (.bl _) .nil))) trivial rfl rfl
    · exact k (.tru false) _ _ S (.tup (SqT.of (nw_of (Fr.same (s1.trans s2) _ hp3) (s4 _ _ upd_same))) (.cons (.str _) (.cons (.bl _) .nil))) trivial rfl rfl
  walk_at "ar"
  refine ⟨_, _, rfl, fun x H1 hx s1 => ?_⟩
  walk_at "ar"
  refine z_tpd (K := K) (H0 := H) (Fr.same s1) (.cons (.str _) (.cons (.str x) .nil)) (by show 2 ≤ 100000; omega) fun H9 u9 s9 d9 => ?_
  exact k (.nam x) u9 H9 (s1.trans s9) d9 hx rfl rfl
/-! ### the stack -/
abbrev TD := EH.T × Nat
def PrR (K : PySem.W.Frag) (H : Hp) (p : TD) (v : V) : Prop := ∃ b tv, v = .ref b ∧ SqT K H b [tv, .int p.2] ∧ Dp K H tv (tdat p.1)
theorem prR_mono {H H' : Hp} (s : Same H H') (p : TD) (v : V) (h : PrR K H p v) : PrR K H' p v := by
  obtain ⟨b, tv, e, h1, h2⟩ := h
  exact ⟨b, tv, e, Same.seqT s h1, Dp.mono s h2⟩
theorem rev_take {α : Type} (us : List α) (m : Nat) : (us.reverse.take m).reverse = us.drop (us.length - m) := by
  rw [List.take_reverse, List.reverse_reverse]
theorem all2_drop {α : Type} {R : α → V → Prop} : ∀ {l : List α} {vs : List V} (n : Nat), All2 R l vs → All2 R (l.drop n) (vs.drop n)
  | l, vs, 0, h => h
  | [], vs, n + 1, h => by rw [show vs = [] from h]; exact rfl
  | a :: l, vs, n + 1, ⟨v, r, e, _, h2⟩ => by rw [e]; exact all2_drop n h2
theorem all2_take {α : Type} {R : α → V → Prop} : ∀ {l : List α} {vs : List V} (n : Nat), All2 R l vs → All2 R (l.take n) (vs.take n)
  | l, vs, 0, h => by rw [List.take_zero, List.take_zero]; exact rfl
  | [], vs, n + 1, h => by rw [show vs = [] from h]; exact rfl
  | a :: l, vs, n + 1, ⟨v, r, e, h1, h2⟩ => by rw [e]; exact ⟨v, _, rfl, h1, all2_take n h2⟩
def spTaken (K : PySem.W.Frag) : Sp := fun vs H Q _ => ∃ (L : Addr) (m' : Nat) (us : List V) (ps : List TD), vs = [.ref L, .int m'] ∧ H L = some (.lst us) ∧ All2 (PrR K (cut L H)) ps us ∧ ps.length ≤ 1000 ∧ m' ≤ 100 ∧
  ∀ (H' : Hp) (a tt : Addr) (dv : List V) (d n : Nat), n = ps.length - m' → Off L H H' → H' L = some (.lst (us.take n)) → SqT K (cut L H') a [.ref tt, .int d] → SqT K (cut L H') tt dv → DpAll K (cut L H') dv (tdatL ((ps.drop n).map (·.1))) →
    (∀ p ∈ ps.drop n, p.2 ≤ d) → (∀ B : Nat, (∀ p ∈ ps.drop n, p.2 ≤ B) → d ≤ B) → Q (.ref a) H'
theorem sc_z_taken : FnScope ["_law_stack", "_law_many", "_law_some", "_law_k", "_law_pair"] ["_law_stack", "_law_many"] (defScope s_z_taken) := ⟨rfl, rfl, rfl, by decide +kernel, rfl, by decide +kernel, by decide +kernel⟩
theorem ok_z_taken (T : Tx K mg) : Cal P w K mg base CX0 1 "_law_taken" ["_law_stack", "_law_many"] [] (spTaken K) := by
  obtain ⟨fd, F⟩ := T.f_z_taken
  refine cal_def F T.g_z_taken sc_z_taken (fun _ _ _ _ _ _ us hl => match us, hl with | [_, _], _ => rfl) (by walk_at "ln") (fun cdv A outer s H vs Q E hr h => ?_)
  obtain ⟨L, m', us, ps, rfl, hL, hA, hps, hm', k⟩ := h
  refine ⟨_, (pss_cons (ps_setLc (i := 2) (own := [("_law_k", 3)]) (g := gName 3) rfl sc_z_taken.nd rfl rfl (sw_true rfl rfl rfl (by decide +kernel)) (pi_range1 (by rfl) T.b_range (pa_cons (pe_callB (call_min2 rfl) (by rfl) T.b_min (by decide +kernel) (pa_cons (pv 1) (pa_cons (pe_callB call_len_seq (by rfl) T.b_len PySem.boot_len (pa_cons (pv 0) pa_nil)) pa_nil))) pa_nil)) (blkOk_by (own := [("_law_k", 3)]) (N := ["_law_stack", "_law_many", "_law_some", "_law_k", "_law_pair"]) (sc := defScope s_z_taken) (by decide +kernel)) (fun _ _ _ _ _ => pg_name (i := 3) sc_z_taken.nd rfl (Or.inl rfl)) (fun _ _ _ _ _ => pts_nil) (fun _ _ _ _ _ => (pe_bm0L (K := K) rfl PySem.F.plainAttrs_list PySem.F.slot_list_pop PySem.F.type_list_pop mt_pop (pv 0))))
    (pss_cons (ps_set (i := 2) sc_z_taken.nd rfl (Or.inl rfl) (pe_revL (pv 2)))
    (pss_one (ps_ret (pe_tup (pa_cons (pe_callTy call_tuple_of (by rfl) T.b_tuple (by decide +kernel) (pa_cons (pe_lc (own := [("_law_pair", 4)]) (g := gName 4) (by rfl) sc_z_taken.nd (pi_list (pv 2)) (blkOk_by (own := [("_law_pair", 4)]) (N := ["_law_stack", "_law_many", "_law_some", "_law_k", "_law_pair"]) (sc := defScope s_z_taken) (by decide +kernel)) (fun _ _ _ _ _ => pg_name (i := 4) sc_z_taken.nd rfl (Or.inl rfl)) (fun _ _ _ _ _ => pts_nil) (fun _ _ _ _ _ => (pe_ix (ix_tupK (K := K) rfl) (pv 4) pe_int (fun _ _ => rfl)))) pa_nil)) (pa_cons (pe_callB (cr_max rfl) (by rfl) T.b_max (by decide +kernel) (pa_cons (pe_op op_cat (pe_lc (own := [("_law_pair", 4)]) (g := gName 4) (by rfl) sc_z_taken.nd (pi_list (pv 2)) (blkOk_by (own := [("_law_pair", 4)]) (N := ["_law_stack", "_law_many", "_law_some", "_law_k", "_law_pair"]) (sc := defScope s_z_taken) (by decide +kernel)) (fun _ _ _ _ _ => pg_name (i := 4) sc_z_taken.nd rfl (Or.inl rfl)) (fun _ _ _ _ _ => pts_nil) (fun _ _ _ _ _ => (pe_ix (ix_tupK (K := K) rfl) (pv 4) pe_int (fun _ _ => rfl)))) (pe_lst (pa_cons pe_int pa_nil))) pa_nil)) pa_nil))))))), ?_⟩
  have hus := All2.len hA
  walk_at "ar"
  refine ⟨L, us, rfl, .inl (SqL.of hL), ?_⟩
  refine ⟨_, _, rfl, ?_⟩
  have hmin : (if (us.length : Int) < (m' : Int) then (us.length : Int) else (m' : Int)) = ((min m' us.length : Nat) : Int) := by split <;> omega
  rw [hmin]
  generalize hm : min m' us.length = m
  walk_at "rd"
  refine z_rngr (n := m) rfl (by omega) ?_
  intro D hD
  have nLD : L ≠ D := ne_of_none hL hD
  refine lc_it (walk_range (lo := 0) (n := m)) (fun i Hc => Hc D = some (.lst (us.reverse.take i)) ∧ Hc L = some (.lst (us.take (us.length - i))) ∧ ∀ b o, b ≠ L → H b = some o → Hc b = some o) ⟨by rw [List.take_zero]; exact upd_same, by rw [upd_ne nLD, hL]; simp, fun b o hb e => by rw [upd_ne (ne_of_none e hD)]; exact e⟩ (fun _ _ _ _ => trivial) ?_ ?_
  · rintro i x Hc H' hi ⟨hD1, hL1, hk⟩ ⟨rfl, rfl⟩
    walk_at "rd"
    refine ⟨rfl, ?_⟩
    walk_at "rd"
    refine ⟨.inl ⟨rfl, _, SqL.of hL1⟩, ?_⟩
    have hi' : i < us.length := by omega
    have hg : us[us.length - i - 1]? = some us[us.length - i - 1] := List.getElem?_eq_getElem (by omega)
    refine ⟨L, _, us[us.length - i - 1], rfl, rfl, hL1, ?_, ?_⟩
    · rw [List.length_take, List.getElem?_take, if_pos (by omega), show min (us.length - i) us.length - 1 = us.length - i - 1 by omega]
      exact hg
    · refine ⟨us.reverse.take i, by rw [upd_ne nLD.symm]; exact hD1, Nat.lt_of_le_of_lt (by rw [List.length_take]; omega : _ ≤ 1000) (Nat.lt_of_lt_of_le (by decide : 1000 < 100000) (len_sz (Nat.le_refl _))), ?_, ?_, ?_⟩
      · rw [upd_same]
        congr 2
        rw [List.take_add_one]
        congr 1
        rw [List.getElem?_reverse hi', show us.length - 1 - i = us.length - i - 1 by omega, hg]
        rfl
      · rw [upd_ne nLD, upd_same, List.dropLast_eq_take, List.take_take, List.length_take]
        congr 3
        omega
      · intro b o hb e
        rw [upd_ne (ne_of_none e hD), upd_ne hb]
        exact hk b o hb e
  · rintro Hc ⟨hD1, hL1, hk⟩
    walk_at "rd"
    refine ⟨D, _, rfl, SqL.of hD1, fun P hP => ?_⟩
    rw [rev_take]
    have nn : us.length - m = ps.length - m' := by omega
    rw [nn] at hL1 ⊢
    generalize hn : ps.length - m' = n at hL1
    have sO : Same (cut L H) (cut L Hc) := fun b o e => by
      obtain ⟨nb, e⟩ := cut_at e
      exact cut_of (hk b o nb e) nb
    have nLP : L ≠ P := ne_of_none hL1 hP
    have s1 := Same.new hP (o := .lst (us.drop n))
    have O1 : Off L H (upd Hc P (.lst (us.drop n))) := sO.trans (cut_mono s1)
    have hP1 : upd Hc P (.lst (us.drop n)) P = some (.lst (us.drop n)) := upd_same
    have hL2 := s1 _ _ hL1
    generalize upd Hc P (.lst (us.drop n)) = H1 at O1 hP1 hL2
    have hA2 := all2_drop n hA
    have hlen := All2.len hA2
    have hlen2 : (us.drop n).length ≤ 1000 := by rw [List.length_drop]; omega
    walk_at "rd"
    refine z_ilr (SqL.of hP1) ?_
    refine z_lcr (walk_list (K := K) (a := P) (xs := us.drop n)) (fun i acc _ => DpAll K (cut L H) acc ((tdatL ((ps.drop n).map (·.1))).take i)) (fun H2 hS => SqL.of (hS _ _ hP1)) (fun _ _ => .nil) ?_ ?_
    · rintro D2 i acc y H2 H3 hD2 hi hS hal hacc hR ⟨rfl, hy⟩
      obtain ⟨p, hp, b, tv, rfl, q1, q2⟩ := All2.at hA2 hy
      have s3 := (O1.sub).trans hS
      walk_at "rd"
      refine ⟨rfl, ?_⟩
      walk_at "rd"
      refine z_ixT (Same.seqT s3 q1) (v := tv) (atI_nat (j := 0) rfl) ?_
      refine lc_end hD2 hS hacc hal (by omega) (Same.refl _) fun H5 _ _ _ => ?_
      rw [← tdatL_at (t := p.1) (by rw [List.getElem?_map, hp]; rfl)]
      exact DpAll.app hR (.cons q2 .nil)
    · intro D2 acc H2 hD2 hS hacc hR
      rw [show (us.drop n).length = (tdatL ((ps.drop n).map (·.1))).length by rw [tdatL_len, List.length_map, hlen], List.take_length] at hR
      walk_at "rd"
      refine ⟨D2, acc, rfl, .inl ⟨SqL.of hacc, fun tt htt => ?_⟩⟩
      have s4 := hS.trans (Same.new htt (o := .tup acc))
      have htt1 : upd H2 tt (.tup acc) tt = some (.tup acc) := upd_same
      generalize upd H2 tt (.tup acc) = H4 at s4 htt1
      walk_at "rd"
      refine z_ilr (SqL.of (s4 _ _ hP1)) ?_
      refine z_lcr (walk_list (K := K) (a := P) (xs := us.drop n)) (fun i acc _ => acc = ((ps.drop n).take i).map fun p => V.int (p.2 : Int)) (fun H2 hS => SqL.of (hS _ _ (s4 _ _ hP1))) (fun _ _ => rfl) ?_ ?_
      · rintro D3 i acc y H5 H6 hD3 hi hS3 hal hacc3 hR3 ⟨rfl, hy⟩
        obtain ⟨p, hp, b, tv, rfl, q1, q2⟩ := All2.at hA2 hy
        have s3 := ((O1.sub).trans s4).trans hS3
        walk_at "rd"
        refine ⟨rfl, ?_⟩
        walk_at "rd"
        refine z_ixT (Same.seqT s3 q1) (v := .int p.2) (atI_nat (j := 1) rfl) ?_
        refine lc_end hD3 hS3 hacc3 hal (by omega) (Same.refl _) fun H5 _ _ _ => ?_
        rw [hR3]
        rw [List.take_add_one, hp, List.map_append]
        rfl
      · intro D3 acc3 H5 hD3 hS3 hacc3 hR3
        rw [hlen, List.take_length] at hR3
        walk_at "rd"
        refine z_lstr (by show 1 ≤ 100000; omega) fun p0 hp0 => ?_
        have s5 := Same.new hp0 (o := .lst [.int 0])
        refine ⟨D3, p0, acc3, [.int 0], rfl, rfl, s5 _ _ hacc3, upd_same, len_sz (by rw [hR3, List.length_map]; show _ + 1 ≤ 100000; omega), fun p1 hp1 => ?_⟩
        have s6 := Same.new hp1 (o := .lst (acc3 ++ [.int 0]))
        refine ⟨p1, ((ps.drop n).map fun p => (p.2 : Int)) ++ [0], rfl, SqL.of (by rw [upd_same, hR3, List.map_append, List.map_map]; rfl), by simp, fun mx hx1 hx2 => ?_⟩
        have mx0 : 0 ≤ mx := hx2 0 (by simp)
        obtain ⟨d, rfl⟩ := Int.eq_ofNat_of_zero_le mx0
        walk_at "rd"
        have s7 := (((s4.trans hS3).trans s5).trans s6)
        refine z_tupr (by show 2 ≤ 100000; omega) fun a ha => ?_
        have s8 := s7.trans (Same.new ha (o := .tup [.ref tt, .int d]))
        have hL8 := s8 _ _ hL2
        have na : a ≠ L := fun z => by rw [z] at ha; rw [s7 _ _ hL2] at ha; cases ha
        have ntt : tt ≠ L := fun z => by rw [z] at htt1; rw [s4 _ _ hL2] at htt1; cases htt1
        refine k _ a tt acc d n hn.symm (O1.trans (cut_mono s8)) hL8 (SqT.of (cut_of upd_same na)) (SqT.of (cut_of (((hS3.trans s5).trans s6).trans (Same.new ha) _ _ htt1) ntt)) (DpAll.mono (O1.trans (cut_mono s8)) hR) (fun p hp => ?_) (fun B hB => ?_)
        · have := hx2 (p.2 : Int) (List.mem_append_left _ (List.mem_map.mpr ⟨p, hp, rfl⟩))
          omega
        · rcases List.mem_append.mp hx1 with h | h
          · obtain ⟨p, hp, e⟩ := List.mem_map.mp h
            have := hB p hp
            omega
          · have := List.mem_singleton.mp h
            omega
end
end EH

set_option Elab.async false
set_option maxRecDepth 100000
set_option maxHeartbeats 4000000
set_option linter.unusedVariables false

/-! The law's own words: terms about a thing, joined terms. Printed by mkl3.py. -/
namespace EH
open PySem PySem.Spec PyProof.Rows L2 TL
local macro_rules | `(tactic| walk_at "ar") => `(tactic| repeat (first | walk_at "rd1" | refine z_ic (C := CDiv) ⟨by decide, by decide⟩ ?_ | refine z_ic (C := CMul) (.inr ⟨by decide, by decide⟩) ?_ | refine z_ic (C := CMul) (.inl ⟨by decide, by decide⟩) ?_ | (refine z_ic (C := fun _ j => 0 < j) (by decide) ?_)))
local macro_rules | `(tactic| walk_at "rd1") => `(tactic| (first
  | with_reducible refine z_seq ?_ | with_reducible refine z_ifs ?_ | with_reducible refine z_next ?_ | with_reducible refine z_ret ?_ | with_reducible refine z_asg ?_ | with_reducible refine z_gname ?_
  | ((with_reducible apply z_var); exact rfl) | with_reducible refine z_c ?_ | with_reducible refine z_op ?_ | with_reducible refine z_bl ?_ | with_reducible refine z_test ?_ | with_reducible refine z_B ?_
  | with_reducible refine z_nil ?_ | with_reducible refine z_cons ?_ | with_reducible refine z_cb ?_ | with_reducible refine z_call ?_ | with_reducible refine iteT ?_ | with_reducible refine iteF ?_
  | with_reducible refine z_or ?_ | with_reducible refine z_and ?_ | with_reducible refine z_not ?_ | with_reducible refine z_orv ?_ | with_reducible refine z_andv ?_ | with_reducible refine z_notv ?_ | with_reducible refine z_un ?_
  | with_reducible refine z_eqS ?_ | with_reducible refine z_neS ?_ | with_reducible refine z_eqI ?_ | with_reducible refine z_neI ?_ | with_reducible refine z_i0 ?_ | with_reducible refine z_radd ?_ | with_reducible refine z_rsub ?_ | with_reducible refine z_iu ?_
  | with_reducible refine z_fld ?_ | with_reducible refine z_meth ?_ | with_reducible refine z_sfld ?_ | with_reducible refine z_flda ?_ | with_reducible refine z_make ?_ | with_reducible refine z_drop ?_ | with_reducible refine z_retn ?_ | with_reducible refine z_cont ?_
  | with_reducible refine z_tup ?_ | with_reducible refine z_lst ?_ | with_reducible refine z_slice ?_ | with_reducible refine z_nopart ?_ | with_reducible refine z_part ?_ | with_reducible refine z_intr ?_ | with_reducible refine z_m1 ?_ | with_reducible refine z_lc ?_ | with_reducible refine z_yes ?_ | with_reducible refine z_il ?_ | with_reducible refine z_it ?_ | with_reducible refine z_bm ?_ | with_reducible refine z_for ?_ | with_reducible refine z_gcons ?_ | with_reducible refine z_gnil ?_ | with_reducible refine z_es ?_ | with_reducible refine z_sub ?_ | with_reducible refine z_ri ?_ | with_reducible refine z_i0 ?_ | with_reducible refine z_bm0 ?_ | with_reducible refine z_revL ?_ | with_reducible refine z_rng ?_ | with_reducible refine z_enL ?_))
local macro_rules | `(tactic| walk_at "rd") => `(tactic| repeat (walk_at "rd1"))
local macro_rules | `(tactic| walk_at "no") => `(tactic| repeat (first | refine ifF (bSf (by decide +kernel)) ?_ | refine ifF (bSf num_ne) ?_ | (walk_at "rd1")))
local macro_rules | `(tactic| walk_at "ln") => `(tactic| (rintro vs H Q E h; repeat (first | (obtain ⟨e, _⟩ := h; subst e; rfl) | (obtain ⟨_, h⟩ := h))))
section
variable {P : Program} {w : World} {K : PySem.W.Frag} {mg : Str → Option Value} {base : Heap}
theorem depthL_bd {d : Nat} : ∀ {ts : List EH.T}, (∀ t ∈ ts, t.depth ≤ d) → depthL ts ≤ d
  | [], _ => Nat.zero_le _
  | t :: ts, h => by
    have h1 := h t List.mem_cons_self
    have h2 := depthL_bd (ts := ts) fun u hu => h u (List.mem_cons_of_mem _ hu)
    rw [depthL]
    omega
theorem wfL_mk : ∀ {ts : List EH.T}, (∀ t ∈ ts, t.wf) → wfL ts
  | [], _ => trivial
  | t :: ts, h => ⟨h t List.mem_cons_self, wfL_mk fun u hu => h u (List.mem_cons_of_mem _ hu)⟩
theorem mem_drop_le {α : Type} {l : List α} {i j : Nat} {p : α} (h : p ∈ l.drop i) (hj : j ≤ i) : p ∈ l.drop j := by
  rw [show i = j + (i - j) by omega, ← List.drop_drop] at h
  exact List.mem_of_mem_drop h
/-- the stack is in order -/
structure StOk (ps : List TD) : Prop where
  wf : ∀ p ∈ ps, p.1.wf ∧ p.1.depth ≤ p.2
  top : ∀ p ∈ ps.drop (ps.length - 9), p.2 ≤ 13
def spStk (K : PySem.W.Frag) : Sp := fun vs H Q _ => ∃ (L : Addr) (c sh : Int) (us : List V) (ps : List TD), vs = [.ref L, .int c, .int sh] ∧ H L = some (.lst us) ∧ All2 (PrR K (cut L H)) ps us ∧ 1 ≤ ps.length ∧ ps.length ≤ 1000 ∧ StOk ps ∧
  ∀ (H' : Hp) (a : Addr) (t : T) (d n : Nat), n ≤ ps.length → Off L H H' → H' L = some (.lst (us.take n)) → PrR K (cut L H') (t, d) (.ref a) → t.wf → t.depth ≤ d → d ≤ 14 → t.size = 1 + sizeL ((ps.drop n).map (·.1)) → Q (.ref a) H'
section
variable {L : Addr} {H Hc : Hp} {us : List V} {ps : List TD} {Q : VK} {E : XK} {m' : Nat}
/-- what is taken: terms ls, not deeper than d -/
theorem z_tk (s : Same H Hc) (hL : H L = some (.lst us)) (hA : All2 (PrR K (cut L H)) ps us) (hl : ps.length ≤ 1000) (S : StOk ps) (hm : m' ≤ 9)
    (k : ∀ (H' : Hp) (a tt : Addr) (dv : List V) (d n : Nat) (ls : List EH.T), n ≤ ps.length → ls = (ps.drop n).map (·.1) → Off L H H' → H' L = some (.lst (us.take n)) → SqT K H' a [.ref tt, .int d] → SqT K H' tt dv → SqT K (cut L H') tt dv → DpAll K (cut L H') dv (tdatL ls) →
      ls.length = min m' ps.length → (∀ t ∈ ls, t.wf) → depthL ls ≤ d → d ≤ 13 → Q (.ref a) H') : spTaken K [.ref L, .int m'] Hc Q E := by
  refine ⟨L, m', us, ps, rfl, s _ _ hL, All2.mono (fun p v q => prR_mono (cut_mono s) p v q) hA, hl, by omega, fun H' a tt dv d n hn O hL' h1 h2 h3 h4 h5 => ?_⟩
  have sub : ∀ p ∈ ps.drop n, p ∈ ps := fun p hp => List.mem_of_mem_drop hp
  refine k H' a tt dv d n _ (by omega) rfl ((Off.same s).trans O) hL' (Same.seqT (cut_same L H') h1) (Same.seqT (cut_same L H') h2) h2 h3 (by rw [List.length_map, List.length_drop]; omega) (fun t ht => ?_) (depthL_bd fun t ht => ?_) (h5 13 fun p hp => S.top p (mem_drop_le hp (by omega)))
  · obtain ⟨p, hp, rfl⟩ := List.mem_map.mp ht
    exact (S.wf p (sub p hp)).1
  · obtain ⟨p, hp, rfl⟩ := List.mem_map.mp ht
    exact Nat.le_trans (S.wf p (sub p hp)).2 (h4 p hp)
theorem fin_pr {H' : Hp} {p1 p2 : Addr} {xs : List V} {ds : List PyData} {t : EH.T} {d : Nat} {e : Int} {o : HO} (hL : H' L = some o) (h1 : H' p1 = none) (h2 : upd H' p1 (.tup xs) p2 = none) (A : DpAll K (cut L H') xs ds) (et : tdat t = .tuple ds) (he : e = (d : Int)) :
    Off L H' (upd (upd H' p1 (.tup xs)) p2 (.tup [.ref p1, .int e])) ∧ upd (upd H' p1 (.tup xs)) p2 (.tup [.ref p1, .int e]) L = some o ∧ PrR K (cut L (upd (upd H' p1 (.tup xs)) p2 (.tup [.ref p1, .int e]))) (t, d) (.ref p2) := by
  have s1 := Same.new h1 (o := .tup xs)
  have s2 := Same.new h2 (o := .tup [.ref p1, .int e])
  have n1 : p1 ≠ L := fun z => by rw [z, hL] at h1; cases h1
  have n2 : p2 ≠ L := fun z => by rw [z, s1 _ _ hL] at h2; cases h2
  refine ⟨Off.same (s1.trans s2), s2 _ _ (s1 _ _ hL), p2, .ref p1, rfl, SqT.of (cut_of (by rw [upd_same, he]) n2), ?_⟩
  rw [et]
  exact .tup (SqT.of (cut_of (s2 _ _ upd_same) n1)) (DpAll.mono (cut_mono (s1.trans s2)) A)
end
theorem dpl1 {H : Hp} {dv : List V} {a : EH.T} (h : DpAll K H dv (tdatL [a])) : ∃ v, dv = [v] ∧ Dp K H v (tdat a) := by
  obtain ⟨v, r, rfl, h1, h2⟩ := dpa_cons h
  rw [dpa_nil h2]
  exact ⟨v, rfl, h1⟩
theorem ls1 {ls : List EH.T} (h : ls.length = 1) : ∃ a, ls = [a] := List.length_eq_one_iff.mp h
theorem ls2 {ls : List EH.T} (h : ls.length = 2) : ∃ a b, ls = [a, b] := by
  match ls, h with
  | [a, b], _ => exact ⟨a, b, rfl⟩
theorem ls3 {ls : List EH.T} (h : ls.length = 3) : ∃ a b c, ls = [a, b, c] := by
  match ls, h with
  | [a, b, c], _ => exact ⟨a, b, c, rfl⟩
/-- the tail of a tuple -/
theorem tail_cut (v : V) (r : List V) : cutV (v :: r) (some 1) none = r := by
  unfold cutV
  have h1 : HT.sIx (v :: r).length 0 (some 1) = 1 := by
    show min (1 : Int).toNat (r.length + 1) = 1
    have : (1 : Int).toNat = 1 := rfl
    omega
  rw [h1]
  show (r.take _) = r
  rw [List.take_of_length_le]
  show r.length ≤ (r.length + 1) - 1
  omega
theorem many_at {i : Int} (h0 : 0 ≤ i) (h1 : i < 8) : ∃ m : Nat, m ≤ 8 ∧ atI [V.int 0, .int 1, .int 2, .int 3, .int 8, .int 1, .int 2, .int 5] i = some (.int m) := by
  obtain ⟨v, h2, h3⟩ := atI_in (xs := [V.int 0, .int 1, .int 2, .int 3, .int 8, .int 1, .int 2, .int 5]) h0 (by show i < 8; exact h1)
  have m := List.mem_of_getElem? h2
  simp only [List.mem_cons, List.not_mem_nil, or_false] at m
  rcases m with rfl | rfl | rfl | rfl | rfl | rfl | rfl | rfl
  · exact ⟨0, by decide, h3⟩
  · exact ⟨1, by decide, h3⟩
  · exact ⟨2, by decide, h3⟩
  · exact ⟨3, by decide, h3⟩
  · exact ⟨8, by decide, h3⟩
  · exact ⟨1, by decide, h3⟩
  · exact ⟨2, by decide, h3⟩
  · exact ⟨5, by decide, h3⟩
theorem sc_z_about : FnScope ["_law_stack", "_law_cell", "_law_shift", "_law_name_here", "_law_terms", "_law_deep", "_law_many"] ["_law_stack", "_law_cell", "_law_shift"] (defScope s_z_about) := ⟨rfl, rfl, rfl, by decide +kernel, rfl, by decide +kernel, by decide +kernel⟩
theorem ok_z_about (T : Tx K mg) : Cal P w K mg base CX0 3 "_law_about" ["_law_stack", "_law_cell", "_law_shift"] [] (spStk K) := by
  obtain ⟨fd, F⟩ := T.f_z_about
  refine cal_def F T.g_z_about sc_z_about (fun _ _ _ _ _ _ us hl => match us, hl with | [_, _, _], _ => rfl) (by walk_at "ln") (fun cdv A outer s H vs Q E hr h => ?_)
  obtain ⟨L, c, sh, us, ps, rfl, hL, hA, h1, hl, S, k⟩ := h
  refine ⟨_, (pss_cons (ps_set (i := 3) sc_z_about.nd rfl (Or.inl rfl) (pe_cal (ok_z_name T) (hr.mono (by decide)) pass0 (pa_cons (pe_op op_mod (pe_op op_fdiv (pv 1) pe_int) pe_int) (pa_cons (pv 2) pa_nil))))
    (pss_cons (ps_if (pt_cmpR op_eq (pe_op op_mod (pv 1) pe_int) pe_int (nomark _)) (pss_cons (ps_asg (pe_cal (ok_z_taken T) (hr.mono (by decide)) pass0 (pa_cons (pv 0) (pa_cons pe_int pa_nil))) (pg_tup (by rfl) (pgs_cons (pg_name (i := 4) sc_z_about.nd rfl (Or.inl rfl)) (pgs_cons (pg_name (i := 5) sc_z_about.nd rfl (Or.inl rfl)) pgs_nil))))
    (pss_one (ps_ret (pe_tup (pa_cons (pe_tup (pa_cons pe_str (pa_cons (pe_ix ix_tup (pv 4) pe_int (fun _ _ => rfl)) (pa_cons (pv 3) pa_nil)))) (pa_cons (pe_op op_add (pv 5) pe_int) pa_nil)))))) pss_nil)
    (pss_cons (ps_set (i := 6) sc_z_about.nd rfl (Or.inl rfl) (pe_ix ix_list (pe_lst (pa_cons pe_int (pa_cons pe_int (pa_cons pe_int (pa_cons pe_int (pa_cons pe_int (pa_cons pe_int (pa_cons pe_int (pa_cons pe_int pa_nil))))))))) (pe_op op_mod (pe_op op_fdiv (pv 1) pe_int) pe_int) (fun _ _ => rfl)))
    (pss_cons (ps_if (pt_cmpR op_eq (pe_op op_mod (pv 1) pe_int) pe_int (nomark _)) (pss_cons (ps_asg (pe_cal (ok_z_taken T) (hr.mono (by decide)) pass0 (pa_cons (pv 0) (pa_cons (pe_op op_add (pe_callB (call_min2 rfl) (by rfl) T.b_min (by decide +kernel) (pa_cons (pv 6) (pa_cons pe_int pa_nil))) pe_int) pa_nil))) (pg_tup (by rfl) (pgs_cons (pg_name (i := 4) sc_z_about.nd rfl (Or.inl rfl)) (pgs_cons (pg_name (i := 5) sc_z_about.nd rfl (Or.inl rfl)) pgs_nil))))
    (pss_one (ps_ret (pe_tup (pa_cons (pe_tup (pa_cons pe_str (pa_cons (pe_ix ix_tup (pv 4) pe_int (fun _ _ => rfl)) (pa_cons (pv 3) (pa_cons (pe_slice sl_tup (pv 4) (po_some pe_int) po_none) pa_nil))))) (pa_cons (pe_op op_add (pv 5) pe_int) pa_nil)))))) pss_nil)
    (pss_cons (ps_asg (pe_cal (ok_z_taken T) (hr.mono (by decide)) pass0 (pa_cons (pv 0) (pa_cons (pv 6) pa_nil))) (pg_tup (by rfl) (pgs_cons (pg_name (i := 4) sc_z_about.nd rfl (Or.inl rfl)) (pgs_cons (pg_name (i := 5) sc_z_about.nd rfl (Or.inl rfl)) pgs_nil))))
    (pss_one (ps_ret (pe_tup (pa_cons (pe_tup (pa_cons (pe_ix ix_list (pe_lst (pa_cons pe_str (pa_cons pe_str pa_nil))) (pe_op op_mod (pv 1) pe_int) (fun _ _ => rfl)) (pa_cons (pv 3) (pa_cons (pv 4) pa_nil)))) (pa_cons (pe_op op_add (pv 5) pe_int) pa_nil)))))))))), ?_⟩
  walk_at "ar"
  refine ⟨_, _, rfl, fun x H1 hx s1 => ?_⟩
  walk_at "ar"
  refine ifI (fun e => ?_) (fun e => ?_)
  · walk_at "ar"
    refine z_tk (m' := 1) s1 hL hA hl S (by decide) fun H2 a tt dv d n ls hn els O hL2 q1 q2 q2c q3 q4 q5 q6 q7 => ?_
    refine z_gtup q1 rfl ?_
    walk_at "ar"
    obtain ⟨t0, rfl⟩ := ls1 (ls := ls) (by rw [q4]; omega)
    obtain ⟨v0, rfl, D0⟩ := dpl1 q3
    refine z_ixT q2 (v := v0) (atI_nat (j := 0) rfl) ?_
    walk_at "ar"
    refine z_tupr (by show 3 ≤ 100000; omega) fun p1 hp1 => ?_
    walk_at "ar"
    refine z_tupr (by show 2 ≤ 100000; omega) fun p2 hp2 => ?_
    obtain ⟨f1, f2, f3⟩ := fin_pr (K := K) (e := (d : Int) + 1) (t := .fld t0 x) (d := d + 1) hL2 hp1 hp2 (.cons (.str _) (.cons D0 (.cons (.str x) .nil))) rfl (by omega)
    have hd0 : t0.depth ≤ d := by simp only [depthL] at q6; omega
    refine k _ p2 (.fld t0 x) (d + 1) n hn (O.trans f1) f2 f3 ⟨q5 t0 (by simp), hx⟩ (by simp only [EH.T.depth]; omega) (by omega) ?_
    rw [← els]
    simp [EH.T.size, sizeL]
  walk_at "ar"
  refine z_lstr (by show 8 ≤ 100000; omega) fun pm hpm => ?_
  walk_at "ar"
  obtain ⟨m, hm8, hmat⟩ := many_at (i := c / 48 % 8) (Int.emod_nonneg _ (by decide)) (Int.emod_lt_of_pos _ (by decide))
  refine z_ixL (SqL.of upd_same) hmat ?_
  have s2 := s1.trans (Same.new hpm (o := .lst [V.int 0, .int 1, .int 2, .int 3, .int 8, .int 1, .int 2, .int 5]))
  generalize upd H1 pm (.lst [V.int 0, .int 1, .int 2, .int 3, .int 8, .int 1, .int 2, .int 5]) = Hm at s2
  walk_at "ar"
  refine ifI (fun e2 => ?_) (fun e2 => ?_)
  · walk_at "ar"
    refine ⟨_, _, rfl, ?_⟩
    walk_at "ar"
    have hmin : (if (7 : Int) < (m : Int) then (7 : Int) else (m : Int)) + 1 = ((min 7 m + 1 : Nat) : Int) := by split <;> omega
    rw [hmin]
    refine z_tk (m' := min 7 m + 1) s2 hL hA hl S (by omega) fun H2 a tt dv d n ls hn els O hL2 q1 q2 q2c q3 q4 q5 q6 q7 => ?_
    refine z_gtup q1 rfl ?_
    walk_at "ar"
    obtain ⟨t0, rs, rfl⟩ : ∃ t0 rs, ls = t0 :: rs := by
      cases ls with
      | nil => exact absurd q4 (by show ¬ 0 = _; omega)
      | cons t0 rs => exact ⟨t0, rs, rfl⟩
    obtain ⟨v0, r, rfl, D0, D1⟩ := dpa_cons q3
    refine z_ixT q2 (v := v0) (atI_nat (j := 0) rfl) ?_
    walk_at "ar"
    refine ⟨tt, _, rfl, q2, fun z => ?_, fun pt hpt => ?_⟩
    · have h1 := z.1
      have : HT.sIx (v0 :: r).length 0 (some 1) = 1 := by
        show min (1 : Int).toNat (r.length + 1) = 1
        have : (1 : Int).toNat = 1 := rfl
        omega
      rw [this] at h1
      cases h1
    rw [tail_cut]
    have s3 := Same.new hpt (o := .tup r)
    have nt : pt ≠ L := fun z => by rw [z, hL2] at hpt; cases hpt
    have hL3 := s3 _ _ hL2
    have O3 := O.trans (Off.same s3)
    have D3 : Dp K (cut L (upd H2 pt (.tup r))) (.ref pt) (.tuple (tdatL rs)) := .tup (SqT.of (cut_of upd_same nt)) (DpAll.mono (cut_mono s3) D1)
    have D03 := Dp.mono (cut_mono s3) D0
    generalize upd H2 pt (.tup r) = H3 at hL3 O3 D3 D03
    walk_at "ar"
    refine z_tupr (by show 4 ≤ 100000; omega) fun p1 hp1 => ?_
    walk_at "ar"
    refine z_tupr (by show 2 ≤ 100000; omega) fun p2 hp2 => ?_
    obtain ⟨f1, f2, f3⟩ := fin_pr (K := K) (e := (d : Int) + 1) (t := .cal t0 x rs) (d := d + 1) hL3 hp1 hp2 (.cons (.str _) (.cons D03 (.cons (.str x) (.cons D3 .nil)))) rfl (by omega)
    have q4' : rs.length + 1 = min (min 7 m + 1) ps.length := q4
    simp only [depthL] at q6
    refine k _ p2 (.cal t0 x rs) (d + 1) n hn (O3.trans f1) f2 f3 ⟨q5 t0 (by simp), hx, wfL_mk fun t ht => q5 t (List.mem_cons_of_mem _ ht), by omega⟩ (by simp only [EH.T.depth]; omega) (by omega) ?_
    rw [← els]
    simp [EH.T.size, sizeL]
  walk_at "ar"
  refine z_tk (m' := m) s2 hL hA hl S (by omega) fun H2 a tt dv d n ls hn els O hL2 q1 q2 q2c q3 q4 q5 q6 q7 => ?_
  refine z_gtup q1 rfl ?_
  walk_at "ar"
  refine z_lstr (by show 2 ≤ 100000; omega) fun pl hpl => ?_
  have s3 := Same.new hpl (o := .lst [.str "new", .str "elder"])
  have hL3 := s3 _ _ hL2
  have O3 := O.trans (Off.same s3)
  have D3 : Dp K (cut L (upd H2 pl (.lst [.str "new", .str "elder"]))) (.ref tt) (.tuple (tdatL ls)) := .tup (Same.seqT (cut_mono s3) q2c) (DpAll.mono (cut_mono s3) q3)
  have hpl3 : upd H2 pl (.lst [.str "new", .str "elder"]) pl = some (.lst [.str "new", .str "elder"]) := upd_same
  generalize upd H2 pl (.lst [.str "new", .str "elder"]) = H3 at hL3 O3 D3 hpl3
  walk_at "ar"
  have hc : c % 4 = 0 ∨ c % 4 = 1 := by omega
  have hls : ls.length ≤ 8 := by omega
  rcases hc with hc | hc
  · refine z_ixL (SqL.of hpl3) (v := .str "new") (by rw [hc]; exact atI_nat (j := 0) rfl) ?_
    walk_at "ar"
    refine z_tupr (by show 3 ≤ 100000; omega) fun p1 hp1 => ?_
    walk_at "ar"
    refine z_tupr (by show 2 ≤ 100000; omega) fun p2 hp2 => ?_
    obtain ⟨f1, f2, f3⟩ := fin_pr (K := K) (e := (d : Int) + 1) (t := .new x ls) (d := d + 1) hL3 hp1 hp2 (.cons (.str _) (.cons (.str x) (.cons D3 .nil))) rfl (by omega)
    refine k _ p2 (.new x ls) (d + 1) n hn (O3.trans f1) f2 f3 ⟨hx, wfL_mk q5, hls⟩ (by simp only [EH.T.depth]; omega) (by omega) ?_
    rw [← els]
    simp [EH.T.size]
  · refine z_ixL (SqL.of hpl3) (v := .str "elder") (by rw [hc]; exact atI_nat (j := 1) rfl) ?_
    walk_at "ar"
    refine z_tupr (by show 3 ≤ 100000; omega) fun p1 hp1 => ?_
    walk_at "ar"
    refine z_tupr (by show 2 ≤ 100000; omega) fun p2 hp2 => ?_
    obtain ⟨f1, f2, f3⟩ := fin_pr (K := K) (e := (d : Int) + 1) (t := .eld x ls) (d := d + 1) hL3 hp1 hp2 (.cons (.str _) (.cons (.str x) (.cons D3 .nil))) rfl (by omega)
    refine k _ p2 (.eld x ls) (d + 1) n hn (O3.trans f1) f2 f3 ⟨hx, wfL_mk q5, hls⟩ (by simp only [EH.T.depth]; omega) (by omega) ?_
    rw [← els]
    simp [EH.T.size]
theorem sgn_at {i : Int} (h0 : 0 ≤ i) (h1 : i < 7) : ∃ c, atI ("+-*/<=;" : Str).cps.toList i = some c ∧ (⟨#[c]⟩ : Str) ∈ signs := by
  have e : ("+-*/<=;" : Str).cps.toList.length = 7 := by decide +kernel
  obtain ⟨v, h2, h3⟩ := atI_in (xs := ("+-*/<=;" : Str).cps.toList) h0 (by rw [e]; exact h1)
  have all : (("+-*/<=;" : Str).cps.toList.all fun c => signs.contains (⟨#[c]⟩ : Str)) = true := by decide +kernel
  exact ⟨v, h3, List.contains_iff_mem.mp (List.all_eq_true.mp all v (List.mem_of_getElem? h2))⟩
theorem sc_z_joined : FnScope ["_law_stack", "_law_cell", "_law_shift", "_law_name_here", "_law_terms", "_law_deep"] ["_law_stack", "_law_cell", "_law_shift"] (defScope s_z_joined) := ⟨rfl, rfl, rfl, by decide +kernel, rfl, by decide +kernel, by decide +kernel⟩
theorem ok_z_joined (T : Tx K mg) : Cal P w K mg base CX0 3 "_law_joined" ["_law_stack", "_law_cell", "_law_shift"] [] (spStk K) := by
  obtain ⟨fd, F⟩ := T.f_z_joined
  refine cal_def F T.g_z_joined sc_z_joined (fun _ _ _ _ _ _ us hl => match us, hl with | [_, _, _], _ => rfl) (by walk_at "ln") (fun cdv A outer s H vs Q E hr h => ?_)
  obtain ⟨L, c, sh, us, ps, rfl, hL, hA, h1, hl, S, k⟩ := h
  refine ⟨_, (pss_cons (ps_set (i := 3) sc_z_joined.nd rfl (Or.inl rfl) (pe_cal (ok_z_name T) (hr.mono (by decide)) pass0 (pa_cons (pe_op op_mod (pe_op op_fdiv (pv 1) pe_int) pe_int) (pa_cons (pv 2) pa_nil))))
    (pss_cons (ps_if (PW.pt (pw_and (pt_cmpR op_eq (pe_op op_mod (pv 1) pe_int) pe_int (nomark _)) (pw_and1 (pt_cmpR op_gt (pe_callB call_len_seq (by rfl) T.b_len PySem.boot_len (pa_cons (pv 0) pa_nil)) pe_int (nomark _))))) (pss_cons (ps_asg (pe_cal (ok_z_taken T) (hr.mono (by decide)) pass0 (pa_cons (pv 0) (pa_cons pe_int pa_nil))) (pg_tup (by rfl) (pgs_cons (pg_name (i := 4) sc_z_joined.nd rfl (Or.inl rfl)) (pgs_cons (pg_name (i := 5) sc_z_joined.nd rfl (Or.inl rfl)) pgs_nil))))
    (pss_one (ps_ret (pe_tup (pa_cons (pe_op op_catT (pe_tup (pa_cons pe_str pa_nil)) (pv 4)) (pa_cons (pe_op op_add (pv 5) pe_int) pa_nil)))))) pss_nil)
    (pss_cons (ps_if (pt_cmpR op_eq (pe_op op_mod (pv 1) pe_int) pe_int (nomark _)) (pss_cons (ps_asg (pe_cal (ok_z_taken T) (hr.mono (by decide)) pass0 (pa_cons (pv 0) (pa_cons pe_int pa_nil))) (pg_tup (by rfl) (pgs_cons (pg_name (i := 4) sc_z_joined.nd rfl (Or.inl rfl)) (pgs_cons (pg_name (i := 5) sc_z_joined.nd rfl (Or.inl rfl)) pgs_nil))))
    (pss_one (ps_ret (pe_tup (pa_cons (pe_tup (pa_cons pe_str (pa_cons (pe_ix ix_tup (pv 4) pe_int (fun _ _ => rfl)) pa_nil))) (pa_cons (pe_op op_add (pv 5) pe_int) pa_nil)))))) pss_nil)
    (pss_cons (ps_asg (pe_cal (ok_z_taken T) (hr.mono (by decide)) pass0 (pa_cons (pv 0) (pa_cons pe_int pa_nil))) (pg_tup (by rfl) (pgs_cons (pg_name (i := 4) sc_z_joined.nd rfl (Or.inl rfl)) (pgs_cons (pg_name (i := 5) sc_z_joined.nd rfl (Or.inl rfl)) pgs_nil))))
    (pss_cons (ps_if (pt_cmpR op_lt (pe_callB call_len_seq (by rfl) T.b_len PySem.boot_len (pa_cons (pv 4) pa_nil)) pe_int (nomark _)) (pss_one (ps_ret (pe_tup (pa_cons (pe_tup (pa_cons pe_str (pa_cons (pe_ix ix_tup (pv 4) pe_int (fun _ _ => rfl)) pa_nil))) (pa_cons (pe_op op_add (pv 5) pe_int) pa_nil))))) pss_nil)
    (pss_cons (ps_if (pt_cmpR op_eq (pe_op op_mod (pv 1) pe_int) pe_int (nomark _)) (pss_one (ps_ret (pe_tup (pa_cons (pe_op op_catT (pe_tup (pa_cons pe_str (pa_cons (pv 3) pa_nil))) (pv 4)) (pa_cons (pe_op op_add (pv 5) pe_int) pa_nil))))) pss_nil)
    (pss_cons (ps_if (pt_cmpR op_eq (pe_op op_mod (pv 1) pe_int) pe_int (nomark _)) (pss_one (ps_ret (pe_tup (pa_cons (pe_tup (pa_cons pe_str (pa_cons (pe_ix ix_tup (pv 4) pe_int (fun _ _ => rfl)) (pa_cons (pv 3) (pa_cons (pe_ix ix_tup (pv 4) pe_int (fun _ _ => rfl)) pa_nil))))) (pa_cons (pe_op op_add (pv 5) pe_int) pa_nil))))) pss_nil)
    (pss_one (ps_ret (pe_tup (pa_cons (pe_op op_catT (pe_tup (pa_cons pe_str (pa_cons (pe_ix ix_str pe_str (pe_op op_mod (pe_op op_fdiv (pv 1) pe_int) pe_int) (fun _ _ => rfl)) pa_nil))) (pv 4)) (pa_cons (pe_op op_add (pv 5) pe_int) pa_nil)))))))))))), ?_⟩
  walk_at "ar"
  refine ⟨_, _, rfl, fun x H1 hx s1 => ?_⟩
  have hus := All2.len hA
  walk_at "ar"
  refine ifI (fun e0 => ?_) (fun e0 => ?_)
  · walk_at "ar"
    refine ⟨L, us, rfl, .inl (SqL.of (s1 _ _ hL)), ?_⟩
    walk_at "ar"
    refine ifD (fun e => ?_) (fun e => ?_)
    · skip
      walk_at "ar"
      refine z_tk (m' := 3) s1 hL hA hl S (by decide) fun H2 a tt dv d n ls hn els O hL2 q1 q2 q2c q3 q4 q5 q6 q7 => ?_
      refine z_gtup q1 rfl ?_
      walk_at "ar"
      obtain ⟨t0, t1, t2, rfl⟩ := ls3 (ls := ls) (by rw [q4]; omega)
      walk_at "ar"
      refine z_tupr (by show 1 ≤ 100000; omega) fun p0 hp0 => ?_
      have s3 := Same.new hp0 (o := .tup [V.str "if"])
      have hL3 := s3 _ _ hL2
      have O3 := O.trans (Off.same s3)
      have q33 := DpAll.mono (cut_mono (x := L) s3) q3
      have q23 := Same.seqT s3 q2
      have hp03 : upd H2 p0 (.tup [V.str "if"]) p0 = some (.tup [V.str "if"]) := upd_same
      generalize upd H2 p0 (.tup [V.str "if"]) = H3 at hL3 O3 q33 q23 hp03
      have hdl := DpAll.len q33
      rw [tdatL_len] at hdl
      walk_at "ar"
      refine ⟨p0, tt, [V.str "if"], dv, rfl, rfl, SqT.of hp03, q23, by simp, len_sz (by rw [hdl]; show 1 + 3 ≤ 100000; omega), fun z => ?_, fun _ p1 hp1 => ?_⟩
      · rw [z] at hdl
        cases hdl
      walk_at "ar"
      refine z_tupr (by show 2 ≤ 100000; omega) fun p2 hp2 => ?_
      obtain ⟨f1, f2, f3⟩ := fin_pr (K := K) (e := (d : Int) + 1) (t := (.ite t0 t1 t2)) (d := d + 1) hL3 hp1 hp2 (DpAll.app (.cons (.str _) .nil) q33) rfl (by omega)
      simp only [depthL] at q6
      refine k _ p2 (.ite t0 t1 t2) (d + 1) n hn (O3.trans f1) f2 f3 ⟨q5 t0 (by simp), q5 t1 (by simp), q5 t2 (by simp)⟩ (by simp only [EH.T.depth]; omega) (by omega) ?_
      rw [← els]
      simp [EH.T.size, sizeL]
    walk_at "ar"
    refine ifI (fun e1 => ?_) (fun e1 => ?_)
    · walk_at "ar"
      refine z_tk (m' := 1) s1 hL hA hl S (by decide) fun H2 a tt dv d n ls hn els O hL2 q1 q2 q2c q3 q4 q5 q6 q7 => ?_
      refine z_gtup q1 rfl ?_
      walk_at "ar"
      obtain ⟨t0, rfl⟩ := ls1 (ls := ls) (by rw [q4]; omega)
      obtain ⟨v0, rfl, D0⟩ := dpl1 q3
      refine z_ixT q2 (v := v0) (atI_nat (j := 0) rfl) ?_
      walk_at "ar"
      refine z_tupr (by show 2 ≤ 100000; omega) fun p1 hp1 => ?_
      walk_at "ar"
      refine z_tupr (by show 2 ≤ 100000; omega) fun p2 hp2 => ?_
      obtain ⟨f1, f2, f3⟩ := fin_pr (K := K) (e := (d : Int) + 1) (t := .nt t0) (d := d + 1) hL2 hp1 hp2 (.cons (.str _) (.cons D0 .nil)) rfl (by omega)
      simp only [depthL] at q6
      refine k _ p2 (.nt t0) (d + 1) n hn (O.trans f1) f2 f3 (q5 t0 (by simp)) (by simp only [EH.T.depth]; omega) (by omega) ?_
      rw [← els]
      simp [EH.T.size, sizeL]
    walk_at "ar"
    refine z_tk (m' := 2) s1 hL hA hl S (by decide) fun H2 a tt dv d n ls hn els O hL2 q1 q2 q2c q3 q4 q5 q6 q7 => ?_
    refine z_gtup q1 rfl ?_
    walk_at "ar"
    refine ⟨tt, _, rfl, .inr q2, ?_⟩
    walk_at "ar"
    have hdl0 := DpAll.len q3
    rw [tdatL_len] at hdl0
    rw [hdl0]
    refine ifD (fun e2 => ?_) (fun e2 => ?_)
    · walk_at "ar"
      obtain ⟨t0, rfl⟩ := ls1 (ls := ls) (by omega)
      obtain ⟨v0, rfl, D0⟩ := dpl1 q3
      refine z_ixT q2 (v := v0) (atI_nat (j := 0) rfl) ?_
      walk_at "ar"
      refine z_tupr (by show 2 ≤ 100000; omega) fun p1 hp1 => ?_
      walk_at "ar"
      refine z_tupr (by show 2 ≤ 100000; omega) fun p2 hp2 => ?_
      obtain ⟨f1, f2, f3⟩ := fin_pr (K := K) (e := (d : Int) + 1) (t := .nt t0) (d := d + 1) hL2 hp1 hp2 (.cons (.str _) (.cons D0 .nil)) rfl (by omega)
      simp only [depthL] at q6
      refine k _ p2 (.nt t0) (d + 1) n hn (O.trans f1) f2 f3 (q5 t0 (by simp)) (by simp only [EH.T.depth]; omega) (by omega) ?_
      rw [← els]
      simp [EH.T.size, sizeL]
    walk_at "ar"
    obtain ⟨t0, t1, rfl⟩ := ls2 (ls := ls) (by omega)
    refine ifI (fun e3 => ?_) (fun e3 => ?_)
    · skip
      walk_at "ar"
      refine z_tupr (by show 2 ≤ 100000; omega) fun p0 hp0 => ?_
      have s3 := Same.new hp0 (o := .tup [V.str "let", .str x])
      have hL3 := s3 _ _ hL2
      have O3 := O.trans (Off.same s3)
      have q33 := DpAll.mono (cut_mono (x := L) s3) q3
      have q23 := Same.seqT s3 q2
      have hp03 : upd H2 p0 (.tup [V.str "let", .str x]) p0 = some (.tup [V.str "let", .str x]) := upd_same
      generalize upd H2 p0 (.tup [V.str "let", .str x]) = H3 at hL3 O3 q33 q23 hp03
      have hdl := DpAll.len q33
      rw [tdatL_len] at hdl
      walk_at "ar"
      refine ⟨p0, tt, [V.str "let", .str x], dv, rfl, rfl, SqT.of hp03, q23, by simp, len_sz (by rw [hdl]; show 2 + 2 ≤ 100000; omega), fun z => ?_, fun _ p1 hp1 => ?_⟩
      · rw [z] at hdl
        cases hdl
      walk_at "ar"
      refine z_tupr (by show 2 ≤ 100000; omega) fun p2 hp2 => ?_
      obtain ⟨f1, f2, f3⟩ := fin_pr (K := K) (e := (d : Int) + 1) (t := (.lt x t0 t1)) (d := d + 1) hL3 hp1 hp2 (DpAll.app (.cons (.str _) (.cons (.str x) .nil)) q33) rfl (by omega)
      simp only [depthL] at q6
      refine k _ p2 (.lt x t0 t1) (d + 1) n hn (O3.trans f1) f2 f3 ⟨hx, q5 t0 (by simp), q5 t1 (by simp)⟩ (by simp only [EH.T.depth]; omega) (by omega) ?_
      rw [← els]
      simp [EH.T.size, sizeL]
    walk_at "ar"
    refine ifI (fun e4 => ?_) (fun e4 => ?_)
    · walk_at "ar"
      obtain ⟨v0, r, rfl, D0, q3'⟩ := dpa_cons q3
      obtain ⟨v1, rfl, D1⟩ := dpl1 q3'
      refine z_ixT q2 (v := v0) (atI_nat (j := 0) rfl) ?_
      walk_at "ar"
      refine z_ixT q2 (v := v1) (atI_nat (j := 1) rfl) ?_
      walk_at "ar"
      refine z_tupr (by show 4 ≤ 100000; omega) fun p1 hp1 => ?_
      walk_at "ar"
      refine z_tupr (by show 2 ≤ 100000; omega) fun p2 hp2 => ?_
      obtain ⟨f1, f2, f3⟩ := fin_pr (K := K) (e := (d : Int) + 1) (t := .st t0 x t1) (d := d + 1) hL2 hp1 hp2 (.cons (.str _) (.cons D0 (.cons (.str x) (.cons D1 .nil)))) rfl (by omega)
      simp only [depthL] at q6
      refine k _ p2 (.st t0 x t1) (d + 1) n hn (O.trans f1) f2 f3 ⟨q5 t0 (by simp), hx, q5 t1 (by simp)⟩ (by simp only [EH.T.depth]; omega) (by omega) ?_
      rw [← els]
      simp [EH.T.size, sizeL]
    · walk_at "ar"
      obtain ⟨g, hg1, hg2⟩ := sgn_at (i := c / 7 % 7) (Int.emod_nonneg _ (by decide)) (Int.emod_lt_of_pos _ (by decide))
      refine z_ixS (by decide +kernel) hg1 ?_
      walk_at "ar"
      refine z_tupr (by show 2 ≤ 100000; omega) fun p0 hp0 => ?_
      have s3 := Same.new hp0 (o := .tup [V.str "two", .str ⟨#[g]⟩])
      have hL3 := s3 _ _ hL2
      have O3 := O.trans (Off.same s3)
      have q33 := DpAll.mono (cut_mono (x := L) s3) q3
      have q23 := Same.seqT s3 q2
      have hp03 : upd H2 p0 (.tup [V.str "two", .str ⟨#[g]⟩]) p0 = some (.tup [V.str "two", .str ⟨#[g]⟩]) := upd_same
      generalize upd H2 p0 (.tup [V.str "two", .str ⟨#[g]⟩]) = H3 at hL3 O3 q33 q23 hp03
      have hdl := DpAll.len q33
      rw [tdatL_len] at hdl
      walk_at "ar"
      refine ⟨p0, tt, [V.str "two", .str ⟨#[g]⟩], dv, rfl, rfl, SqT.of hp03, q23, by simp, len_sz (by rw [hdl]; show 2 + 2 ≤ 100000; omega), fun z => ?_, fun _ p1 hp1 => ?_⟩
      · rw [z] at hdl
        cases hdl
      walk_at "ar"
      refine z_tupr (by show 2 ≤ 100000; omega) fun p2 hp2 => ?_
      obtain ⟨f1, f2, f3⟩ := fin_pr (K := K) (e := (d : Int) + 1) (t := (.two ⟨#[g]⟩ t0 t1)) (d := d + 1) hL3 hp1 hp2 (DpAll.app (.cons (.str _) (.cons (.str _) .nil)) q33) rfl (by omega)
      simp only [depthL] at q6
      refine k _ p2 (.two ⟨#[g]⟩ t0 t1) (d + 1) n hn (O3.trans f1) f2 f3 ⟨hg2, q5 t0 (by simp), q5 t1 (by simp)⟩ (by simp only [EH.T.depth]; omega) (by omega) ?_
      rw [← els]
      simp [EH.T.size, sizeL]
  walk_at "ar"
  refine ifI (fun e1 => ?_) (fun e1 => ?_)
  · walk_at "ar"
    refine z_tk (m' := 1) s1 hL hA hl S (by decide) fun H2 a tt dv d n ls hn els O hL2 q1 q2 q2c q3 q4 q5 q6 q7 => ?_
    refine z_gtup q1 rfl ?_
    walk_at "ar"
    obtain ⟨t0, rfl⟩ := ls1 (ls := ls) (by rw [q4]; omega)
    obtain ⟨v0, rfl, D0⟩ := dpl1 q3
    refine z_ixT q2 (v := v0) (atI_nat (j := 0) rfl) ?_
    walk_at "ar"
    refine z_tupr (by show 2 ≤ 100000; omega) fun p1 hp1 => ?_
    walk_at "ar"
    refine z_tupr (by show 2 ≤ 100000; omega) fun p2 hp2 => ?_
    obtain ⟨f1, f2, f3⟩ := fin_pr (K := K) (e := (d : Int) + 1) (t := .nt t0) (d := d + 1) hL2 hp1 hp2 (.cons (.str _) (.cons D0 .nil)) rfl (by omega)
    simp only [depthL] at q6
    refine k _ p2 (.nt t0) (d + 1) n hn (O.trans f1) f2 f3 (q5 t0 (by simp)) (by simp only [EH.T.depth]; omega) (by omega) ?_
    rw [← els]
    simp [EH.T.size, sizeL]
  walk_at "ar"
  refine z_tk (m' := 2) s1 hL hA hl S (by decide) fun H2 a tt dv d n ls hn els O hL2 q1 q2 q2c q3 q4 q5 q6 q7 => ?_
  refine z_gtup q1 rfl ?_
  walk_at "ar"
  refine ⟨tt, _, rfl, .inr q2, ?_⟩
  walk_at "ar"
  have hdl0 := DpAll.len q3
  rw [tdatL_len] at hdl0
  rw [hdl0]
  refine ifD (fun e2 => ?_) (fun e2 => ?_)
  · walk_at "ar"
    obtain ⟨t0, rfl⟩ := ls1 (ls := ls) (by omega)
    obtain ⟨v0, rfl, D0⟩ := dpl1 q3
    refine z_ixT q2 (v := v0) (atI_nat (j := 0) rfl) ?_
    walk_at "ar"
    refine z_tupr (by show 2 ≤ 100000; omega) fun p1 hp1 => ?_
    walk_at "ar"
    refine z_tupr (by show 2 ≤ 100000; omega) fun p2 hp2 => ?_
    obtain ⟨f1, f2, f3⟩ := fin_pr (K := K) (e := (d : Int) + 1) (t := .nt t0) (d := d + 1) hL2 hp1 hp2 (.cons (.str _) (.cons D0 .nil)) rfl (by omega)
    simp only [depthL] at q6
    refine k _ p2 (.nt t0) (d + 1) n hn (O.trans f1) f2 f3 (q5 t0 (by simp)) (by simp only [EH.T.depth]; omega) (by omega) ?_
    rw [← els]
    simp [EH.T.size, sizeL]
  walk_at "ar"
  obtain ⟨t0, t1, rfl⟩ := ls2 (ls := ls) (by omega)
  refine ifI (fun e3 => ?_) (fun e3 => ?_)
  · skip
    walk_at "ar"
    refine z_tupr (by show 2 ≤ 100000; omega) fun p0 hp0 => ?_
    have s3 := Same.new hp0 (o := .tup [V.str "let", .str x])
    have hL3 := s3 _ _ hL2
    have O3 := O.trans (Off.same s3)
    have q33 := DpAll.mono (cut_mono (x := L) s3) q3
    have q23 := Same.seqT s3 q2
    have hp03 : upd H2 p0 (.tup [V.str "let", .str x]) p0 = some (.tup [V.str "let", .str x]) := upd_same
    generalize upd H2 p0 (.tup [V.str "let", .str x]) = H3 at hL3 O3 q33 q23 hp03
    have hdl := DpAll.len q33
    rw [tdatL_len] at hdl
    walk_at "ar"
    refine ⟨p0, tt, [V.str "let", .str x], dv, rfl, rfl, SqT.of hp03, q23, by simp, len_sz (by rw [hdl]; show 2 + 2 ≤ 100000; omega), fun z => ?_, fun _ p1 hp1 => ?_⟩
    · rw [z] at hdl
      cases hdl
    walk_at "ar"
    refine z_tupr (by show 2 ≤ 100000; omega) fun p2 hp2 => ?_
    obtain ⟨f1, f2, f3⟩ := fin_pr (K := K) (e := (d : Int) + 1) (t := (.lt x t0 t1)) (d := d + 1) hL3 hp1 hp2 (DpAll.app (.cons (.str _) (.cons (.str x) .nil)) q33) rfl (by omega)
    simp only [depthL] at q6
    refine k _ p2 (.lt x t0 t1) (d + 1) n hn (O3.trans f1) f2 f3 ⟨hx, q5 t0 (by simp), q5 t1 (by simp)⟩ (by simp only [EH.T.depth]; omega) (by omega) ?_
    rw [← els]
    simp [EH.T.size, sizeL]
  walk_at "ar"
  refine ifI (fun e4 => ?_) (fun e4 => ?_)
  · walk_at "ar"
    obtain ⟨v0, r, rfl, D0, q3'⟩ := dpa_cons q3
    obtain ⟨v1, rfl, D1⟩ := dpl1 q3'
    refine z_ixT q2 (v := v0) (atI_nat (j := 0) rfl) ?_
    walk_at "ar"
    refine z_ixT q2 (v := v1) (atI_nat (j := 1) rfl) ?_
    walk_at "ar"
    refine z_tupr (by show 4 ≤ 100000; omega) fun p1 hp1 => ?_
    walk_at "ar"
    refine z_tupr (by show 2 ≤ 100000; omega) fun p2 hp2 => ?_
    obtain ⟨f1, f2, f3⟩ := fin_pr (K := K) (e := (d : Int) + 1) (t := .st t0 x t1) (d := d + 1) hL2 hp1 hp2 (.cons (.str _) (.cons D0 (.cons (.str x) (.cons D1 .nil)))) rfl (by omega)
    simp only [depthL] at q6
    refine k _ p2 (.st t0 x t1) (d + 1) n hn (O.trans f1) f2 f3 ⟨q5 t0 (by simp), hx, q5 t1 (by simp)⟩ (by simp only [EH.T.depth]; omega) (by omega) ?_
    rw [← els]
    simp [EH.T.size, sizeL]
  · walk_at "ar"
    obtain ⟨g, hg1, hg2⟩ := sgn_at (i := c / 7 % 7) (Int.emod_nonneg _ (by decide)) (Int.emod_lt_of_pos _ (by decide))
    refine z_ixS (by decide +kernel) hg1 ?_
    walk_at "ar"
    refine z_tupr (by show 2 ≤ 100000; omega) fun p0 hp0 => ?_
    have s3 := Same.new hp0 (o := .tup [V.str "two", .str ⟨#[g]⟩])
    have hL3 := s3 _ _ hL2
    have O3 := O.trans (Off.same s3)
    have q33 := DpAll.mono (cut_mono (x := L) s3) q3
    have q23 := Same.seqT s3 q2
    have hp03 : upd H2 p0 (.tup [V.str "two", .str ⟨#[g]⟩]) p0 = some (.tup [V.str "two", .str ⟨#[g]⟩]) := upd_same
    generalize upd H2 p0 (.tup [V.str "two", .str ⟨#[g]⟩]) = H3 at hL3 O3 q33 q23 hp03
    have hdl := DpAll.len q33
    rw [tdatL_len] at hdl
    walk_at "ar"
    refine ⟨p0, tt, [V.str "two", .str ⟨#[g]⟩], dv, rfl, rfl, SqT.of hp03, q23, by simp, len_sz (by rw [hdl]; show 2 + 2 ≤ 100000; omega), fun z => ?_, fun _ p1 hp1 => ?_⟩
    · rw [z] at hdl
      cases hdl
    walk_at "ar"
    refine z_tupr (by show 2 ≤ 100000; omega) fun p2 hp2 => ?_
    obtain ⟨f1, f2, f3⟩ := fin_pr (K := K) (e := (d : Int) + 1) (t := (.two ⟨#[g]⟩ t0 t1)) (d := d + 1) hL3 hp1 hp2 (DpAll.app (.cons (.str _) (.cons (.str _) .nil)) q33) rfl (by omega)
    simp only [depthL] at q6
    refine k _ p2 (.two ⟨#[g]⟩ t0 t1) (d + 1) n hn (O3.trans f1) f2 f3 ⟨hg2, q5 t0 (by simp), q5 t1 (by simp)⟩ (by simp only [EH.T.depth]; omega) (by omega) ?_
    rw [← els]
    simp [EH.T.size, sizeL]
end
end EH

set_option Elab.async false
set_option maxRecDepth 100000
set_option maxHeartbeats 4000000
set_option linter.unusedVariables false

/-! The law's own words: terms. Printed by mkl4.py. -/
namespace EH
open PySem PySem.Spec PyProof.Rows L2 TL
local macro_rules | `(tactic| walk_at "ar") => `(tactic| repeat (first | walk_at "rd1" | refine z_ic (C := CDiv) ⟨by decide, by decide⟩ ?_ | refine z_ic (C := CMul) (.inr ⟨by decide, by decide⟩) ?_ | refine z_ic (C := CMul) (.inl ⟨by decide, by decide⟩) ?_ | (refine z_ic (C := fun _ j => 0 < j) (by decide) ?_)))
local macro_rules | `(tactic| walk_at "rd1") => `(tactic| (first
  | with_reducible refine z_seq ?_ | with_reducible refine z_ifs ?_ | with_reducible refine z_next ?_ | with_reducible refine z_ret ?_ | with_reducible refine z_asg ?_ | with_reducible refine z_gname ?_
  | ((with_reducible apply z_var); exact rfl) | with_reducible refine z_c ?_ | with_reducible refine z_op ?_ | with_reducible refine z_bl ?_ | with_reducible refine z_test ?_ | with_reducible refine z_B ?_
  | with_reducible refine z_nil ?_ | with_reducible refine z_cons ?_ | with_reducible refine z_cb ?_ | with_reducible refine z_call ?_ | with_reducible refine iteT ?_ | with_reducible refine iteF ?_
  | with_reducible refine z_or ?_ | with_reducible refine z_and ?_ | with_reducible refine z_not ?_ | with_reducible refine z_orv ?_ | with_reducible refine z_andv ?_ | with_reducible refine z_notv ?_ | with_reducible refine z_un ?_
  | with_reducible refine z_eqS ?_ | with_reducible refine z_neS ?_ | with_reducible refine z_eqI ?_ | with_reducible refine z_neI ?_ | with_reducible refine z_i0 ?_ | with_reducible refine z_radd ?_ | with_reducible refine z_rsub ?_ | with_reducible refine z_iu ?_
  | with_reducible refine z_fld ?_ | with_reducible refine z_meth ?_ | with_reducible refine z_sfld ?_ | with_reducible refine z_flda ?_ | with_reducible refine z_make ?_ | with_reducible refine z_drop ?_ | with_reducible refine z_retn ?_ | with_reducible refine z_cont ?_
  | with_reducible refine z_tup ?_ | with_reducible refine z_lst ?_ | with_reducible refine z_slice ?_ | with_reducible refine z_nopart ?_ | with_reducible refine z_part ?_ | with_reducible refine z_intr ?_ | with_reducible refine z_m1 ?_ | with_reducible refine z_lc ?_ | with_reducible refine z_yes ?_ | with_reducible refine z_il ?_ | with_reducible refine z_it ?_ | with_reducible refine z_bm ?_ | with_reducible refine z_for ?_ | with_reducible refine z_gcons ?_ | with_reducible refine z_gnil ?_ | with_reducible refine z_es ?_ | with_reducible refine z_sub ?_ | with_reducible refine z_ri ?_ | with_reducible refine z_i0 ?_ | with_reducible refine z_bm0 ?_ | with_reducible refine z_revL ?_ | with_reducible refine z_rng ?_ | with_reducible refine z_enL ?_))
local macro_rules | `(tactic| walk_at "rd") => `(tactic| repeat (walk_at "rd1"))
local macro_rules | `(tactic| walk_at "no") => `(tactic| repeat (first | refine ifF (bSf (by decide +kernel)) ?_ | refine ifF (bSf num_ne) ?_ | (walk_at "rd1")))
local macro_rules | `(tactic| walk_at "ln") => `(tactic| (rintro vs H Q E h; repeat (first | (obtain ⟨e, _⟩ := h; subst e; rfl) | (obtain ⟨_, h⟩ := h))))
section
variable {P : Program} {w : World} {K : PySem.W.Frag} {mg : Str → Option Value} {base : Heap}
theorem sizeL_app : ∀ (a b : List EH.T), sizeL (a ++ b) = sizeL a + sizeL b
  | [], b => by show sizeL b = 0 + sizeL b; omega
  | t :: a, b => by
    show t.size + sizeL (a ++ b) = t.size + sizeL a + sizeL b
    rw [sizeL_app a b]
    omega
structure TI (K : PySem.W.Frag) (H Hc : Hp) (i : Nat) (L : Addr) (us : List V) (ps : List TD) : Prop where
  new : H L = none
  same : Same H Hc
  lst : Hc L = some (.lst us)
  prs : All2 (PrR K (cut L Hc)) ps us
  pos : 1 ≤ ps.length
  len : ps.length ≤ i + 1
  ok : ∀ p ∈ ps, p.1.wf ∧ p.1.depth ≤ p.2 ∧ p.2 ≤ 14
  sz : sizeL (ps.map (·.1)) = i + 1
section
variable {H Hc H' : Hp} {i n d : Nat} {L : Addr} {us W : List V} {ps pw : List TD} {t : EH.T} {va : V}
theorem ti_push (I : TI K H Hc i L us ps) (hn : n ≤ ps.length) (O : Off L Hc H') (hP : PrR K (cut L H') (t, d) va) (hw : t.wf) (hd : t.depth ≤ d) (h14 : d ≤ 14) (hs : t.size = 1 + sizeL ((ps.drop n).map (·.1))) :
    TI K H (upd H' L (.lst (us.take n ++ [va]))) (i + 1) L (us.take n ++ [va]) (ps.take n ++ [(t, d)]) := by
  have s1 : Same (cut L H') (cut L (upd H' L (.lst (us.take n ++ [va])))) := cut_upd
  refine ⟨I.new, fun b o e => ?_, upd_same, All2.app (all2_take n (All2.mono (fun p v q => prR_mono ((show Same (cut L Hc) (cut L H') from O).trans s1) p v q) I.prs)) (prR_mono s1 _ _ hP), by rw [List.length_append]; simp, by rw [List.length_append, List.length_take]; have := I.len; simp; omega, fun p hp => ?_, ?_⟩
  · have nb : b ≠ L := fun z => by rw [z, I.new] at e; cases e
    rw [upd_ne nb]
    exact O.at nb (I.same b o e)
  · rcases List.mem_append.mp hp with h | h
    · exact I.ok p (List.mem_of_mem_take h)
    · rw [List.mem_singleton.mp h]
      exact ⟨hw, hd, h14⟩
  · have e := I.sz
    rw [← List.take_append_drop n ps, List.map_append, sizeL_app] at e
    rw [List.map_append, sizeL_app]
    show sizeL ((ps.take n).map (·.1)) + (t.size + 0) = i + 1 + 1
    omega
theorem ti_rot {p1 p4 b : Addr} {tv : V} (I : TI K H Hc i L (W ++ [va]) (pw ++ [(t, d)])) (h1 : Hc p1 = none) (s : Same (upd Hc p1 (.tup [tv, .int 14])) H') (h4 : H' p4 = none) (hb : va = .ref b) (q1 : SqT K (cut L Hc) b [tv, .int d]) (q2 : Dp K (cut L Hc) tv (tdat t)) :
    TI K H (upd H' p4 (.lst (.ref p1 :: W))) i p4 (.ref p1 :: W) ((t, 14) :: pw) := by
  have s0 := Same.new h1 (o := .tup [tv, .int 14])
  have s1 := s0.trans s
  have s2 := Same.new h4 (o := .lst (.ref p1 :: W))
  have hp1 := s _ _ (upd_same (H := Hc) (a := p1) (o := .tup [tv, .int 14]))
  have n14 : p1 ≠ p4 := fun z => by rw [z, h4] at hp1; cases hp1
  have hm : Same (cut L Hc) (cut p4 (upd H' p4 (.lst (.ref p1 :: W)))) := fun b o e => by
    obtain ⟨nb, e⟩ := cut_at e
    have e' := s1 b o e
    have n4 : b ≠ p4 := fun z => by rw [z, h4] at e'; cases e'
    exact cut_of (s2 b o e') n4
  have hl := All2.len I.prs
  have hpw : All2 (PrR K (cut L Hc)) pw W := by
    have h := all2_take pw.length I.prs
    have hl' : W.length = pw.length := by simp at hl; exact hl
    rw [List.take_left, ← hl', List.take_left] at h
    exact h
  have okt := I.ok (t, d) (by simp)
  refine ⟨Fr.same I.same _ (Fr.same s1 _ h4), (I.same.trans s1).trans s2, upd_same, ⟨.ref p1, W, rfl, ⟨p1, tv, rfl, SqT.of (cut_of (s2 _ _ hp1) n14), Dp.mono hm q2⟩, All2.mono (fun p v q => prR_mono hm p v q) hpw⟩, by simp, ?_, fun p hp => ?_, ?_⟩
  · have := I.len
    simp at this ⊢
    omega
  · rcases List.mem_cons.mp hp with h | h
    · rw [h]
      exact ⟨okt.1, Nat.le_trans okt.2.1 okt.2.2, Nat.le_refl _⟩
    · exact I.ok p (List.mem_append_left _ h)
  · have e := I.sz
    rw [List.map_append, sizeL_app] at e
    show t.size + sizeL (pw.map (·.1)) = i + 1
    have e' : sizeL (pw.map (·.1)) + (t.size + 0) = i + 1 := by
      have : sizeL (List.map (·.1) [(t, d)]) = t.size + 0 := rfl
      rw [this] at e
      have hi := I.len
      omega
    omega
end
theorem cut9 (us : List V) : cutV us (some (-9)) none = us.drop (us.length - 9) := by
  unfold cutV
  have h1 : HT.sIx us.length 0 (some (-9)) = us.length - 9 := by
    show (-9 + (us.length : Int)).toNat = us.length - 9
    omega
  rw [h1]
  show (us.drop (us.length - 9)).take (us.length - (us.length - 9)) = _
  rw [List.take_of_length_le]
  rw [List.length_drop]
  exact Nat.le_refl _
theorem cutm1 (us : List V) (v : V) : cutV (us ++ [v]) none (some (-1)) = us := by
  unfold cutV
  have h1 : HT.sIx (us ++ [v]).length (us ++ [v]).length (some (-1)) = us.length := by
    show (-1 + ((us ++ [v]).length : Int)).toNat = us.length
    rw [List.length_append]
    simp
    omega
  rw [h1]
  show ((us ++ [v]).drop 0).take (us.length - 0) = us
  rw [List.drop_zero, Nat.sub_zero, List.take_left]
def spLTerm (K : PySem.W.Frag) : Sp := fun vs H Q _ => ∃ (C : Addr) (sh : Int) (ns : List Int), vs = [.ref C, .int sh] ∧ SqL K H C (ns.map V.int) ∧ ns.length ≤ 64 ∧ ∀ (H' : Hp) (v : V) (t : T), Same H H' → Dp K H' v (tdat t) → t.wf → t.depth ≤ 14 → t.size ≤ ns.length + 1 → Q v H'
theorem sc_z_term : FnScope ["_law_cells", "_law_shift", "_law_stack", "_law_k", "_law_cell", "_law_pair"] ["_law_cells", "_law_shift"] (defScope s_z_term) := ⟨rfl, rfl, rfl, by decide +kernel, rfl, by decide +kernel, by decide +kernel⟩
theorem ok_z_term (T : Tx K mg) : Cal P w K mg base CX0 4 "_law_term" ["_law_cells", "_law_shift"] [] (spLTerm K) := by
  obtain ⟨fd, F⟩ := T.f_z_term
  refine cal_def F T.g_z_term sc_z_term (fun _ _ _ _ _ _ us hl => match us, hl with | [_, _], _ => rfl) (by walk_at "ln") (fun cdv A outer s H vs Q E hr h => ?_)
  obtain ⟨C, sh, ns, rfl, hC, hns, k⟩ := h
  refine ⟨_, (pss_cons (ps_set (i := 2) sc_z_term.nd rfl (Or.inl rfl) (pe_lst (pa_cons (pe_tup (pa_cons (pe_cal (ok_z_atom T) (hr.mono (by decide)) pass0 (pa_cons pe_int (pa_cons (pv 1) pa_nil))) (pa_cons pe_int pa_nil))) pa_nil)))
    (pss_cons (ps_for PassesOwn.never rfl (pi_enum (by rfl) T.b_enumerate (pa_cons (pv 0) pa_nil)) (pg_tup (by rfl) (pgs_cons (pg_name (i := 3) sc_z_term.nd rfl (Or.inl rfl)) (pgs_cons (pg_name (i := 4) sc_z_term.nd rfl (Or.inl rfl)) pgs_nil))) (pss_cons (ps_set (i := 4) sc_z_term.nd rfl (Or.inl rfl) (pe_cal (ok_z_mixed T) (hr.mono (by decide)) pass0 (pa_cons (pv 4) (pa_cons (pv 3) pa_nil))))
    (pss_cons (ps_if (PW.pt (pw_or (pt_cmpR op_lt (pe_op op_mod (pv 4) pe_int) pe_int (nomark _)) (pw_or1 (pt_cmpR op_gt (pe_callB call_len_seq (by rfl) T.b_len PySem.boot_len (pa_cons (pe_lc (own := [("_law_pair", 5)]) (g := gName 5) (by rfl) sc_z_term.nd (pi_list (pe_slice sl_list (pv 2) (po_some (pe_un un_neg pe_int)) po_none)) (blkOk_by (own := [("_law_pair", 5)]) (N := ["_law_cells", "_law_shift", "_law_stack", "_law_k", "_law_cell", "_law_pair"]) (sc := defScope s_z_term) (by decide +kernel)) (fun _ _ _ _ _ => pg_name (i := 5) sc_z_term.nd rfl (Or.inl rfl)) (fun _ _ _ _ _ => (pts_one (pt_cmpR op_gt (pe_ix (ix_tupK (K := K) rfl) (pv 5) pe_int (fun _ _ => rfl)) pe_int (nomark _)))) (fun _ _ _ _ _ => (pv 5))) pa_nil)) pe_int (nomark _))))) (pss_one (ps_expr (pe_bm PySem.F.plainAttrs_list PySem.F.slot_list_append PySem.F.type_list_append mt_append (pv 2) (pa_cons (pe_tup (pa_cons (pe_cal (ok_z_atom T) (hr.mono (by decide)) pass0 (pa_cons (pe_op op_fdiv (pv 4) pe_int) (pa_cons (pv 1) pa_nil))) (pa_cons pe_int pa_nil))) pa_nil)))) (pss_one (ps_if (pt_cmpR op_eq (pe_op op_mod (pv 4) pe_int) pe_int (nomark _)) (pss_one (ps_expr (pe_bm PySem.F.plainAttrs_list PySem.F.slot_list_append PySem.F.type_list_append mt_append (pv 2) (pa_cons (pe_cal (ok_z_about T) (hr.mono (by decide)) pass0 (pa_cons (pv 2) (pa_cons (pe_op op_fdiv (pv 4) pe_int) (pa_cons (pv 1) pa_nil)))) pa_nil)))) (pss_one (ps_expr (pe_bm PySem.F.plainAttrs_list PySem.F.slot_list_append PySem.F.type_list_append mt_append (pv 2) (pa_cons (pe_cal (ok_z_joined T) (hr.mono (by decide)) pass0 (pa_cons (pv 2) (pa_cons (pe_op op_fdiv (pv 4) pe_int) (pa_cons (pv 1) pa_nil)))) pa_nil)))))))
    (pss_one (ps_if (pt_cmpR op_gt (pe_ix ix_tup (pe_ix ix_list (pv 2) (pe_un un_neg pe_int) (fun _ _ => rfl)) pe_int (fun _ _ => rfl)) pe_int (nomark _)) (pss_one (ps_set (i := 2) sc_z_term.nd rfl (Or.inl rfl) (pe_op op_cat (pe_lst (pa_cons (pe_tup (pa_cons (pe_ix ix_tup (pe_ix ix_list (pv 2) (pe_un un_neg pe_int) (fun _ _ => rfl)) pe_int (fun _ _ => rfl)) (pa_cons pe_int pa_nil))) pa_nil)) (pe_slice sl_list (pv 2) po_none (po_some (pe_un un_neg pe_int)))))) pss_nil)))))
    (pss_one (ps_ret (pe_ix ix_tup (pe_ix ix_list (pv 2) (pe_un un_neg pe_int) (fun _ _ => rfl)) pe_int (fun _ _ => rfl)))))), ?_⟩
  walk_at "ar"
  refine ⟨0, _, rfl, fun t0 v0 H1 s1 D0 w0 d0 z0 => ?_⟩
  walk_at "ar"
  refine z_tupr (by show 2 ≤ 100000; omega) fun p1 hp1 => ?_
  walk_at "ar"
  refine z_lstr (by show 1 ≤ 100000; omega) fun L0 hL0 => ?_
  walk_at "ar"
  have s2 := Same.new hp1 (o := .tup [v0, .int 1])
  have s3 := Same.new hL0 (o := .lst [.ref p1])
  have S3 := (s1.trans s2).trans s3
  refine ⟨C, _, rfl, Same.seq S3 hC, ?_⟩
  have n1 : p1 ≠ L0 := fun z => by rw [← z, upd_same] at hL0; cases hL0
  have I0 : TI K H (upd (upd H1 p1 (.tup [v0, .int 1])) L0 (.lst [.ref p1])) 0 L0 [.ref p1] [(t0, 1)] := by
    have hm : Same H1 (cut L0 (upd (upd H1 p1 (.tup [v0, .int 1])) L0 (.lst [.ref p1]))) := fun b o e => by
      have e2 := s2 b o e
      have nb : b ≠ L0 := fun z => by rw [z, hL0] at e2; cases e2
      exact cut_of (s3 b o e2) nb
    refine ⟨Fr.same (s1.trans s2) _ hL0, S3, upd_same, ⟨.ref p1, [], rfl, ⟨p1, v0, rfl, SqT.of (cut_of (s3 _ _ upd_same) n1), Dp.mono (nw_sub.trans hm) D0⟩, rfl⟩, by simp, by simp, fun p hp => ?_, by show t0.size + 0 = 0 + 1; omega⟩
    rw [List.mem_singleton.mp hp]
    exact ⟨w0, by rw [d0]; exact Nat.le_refl 1, by show 1 ≤ 14; omega⟩
  refine z_forr (walk_enum (K := K) (a := C) (xs := ns.map V.int)) (fun i σ Hc => ∃ L us ps c3 c4, σ = [some (.ref C), some (.int sh), some (.ref L), c3, c4, none] ∧ TI K H Hc i L us ps) ⟨L0, _, _, _, _, rfl, I0⟩ (fun i σ Hc _ q => ?_) ?_ ?_
  · obtain ⟨_, _, _, _, _, _, I⟩ := q
    exact Same.seq I.same hC
  · rintro i x σ Hc H' hi ⟨L, us, ps, c3, c4, rfl, I⟩ ⟨Ta, x0, y, rfl, hTa, rfl, hx0, hy⟩
    have hx0' : V.int (i : Nat) = x0 := Option.some.inj hx0
    subst hx0'
    have hy : (ns.map V.int)[i]? = some y := hy
    rw [List.getElem?_map] at hy
    rw [List.length_map] at hi
    cases ec : ns[i]? with
    | none => rw [ec] at hy; cases hy
    | some c =>
    rw [ec] at hy
    have hy' : V.int c = y := Option.some.inj hy
    subst hy'
    have sT := Same.new hTa (o := .tup [.int (i : Nat), .int c])
    have I : TI K H (upd Hc Ta (.tup [.int (i : Nat), .int c])) i L us ps := ⟨I.new, I.same.trans sT, sT _ _ I.lst, All2.mono (fun p v q => prR_mono (cut_mono sT) p v q) I.prs, I.pos, I.len, I.ok, I.sz⟩
    refine z_gtup (SqT.of upd_same) rfl ?_
    generalize upd Hc Ta (.tup [.int (i : Nat), .int c]) = Hc at I
    have hus := All2.len I.prs
    have hpl := I.len
    walk_at "ar"
    refine ⟨c, i, rfl, by omega, by omega, fun r => ?_⟩
    walk_at "ar"
    refine ifD (fun e1 => ?_) (fun e1 => ?_)
    · skip
      walk_at "ar"
      refine z_bml (SqL.of I.lst) ?_
      walk_at "ar"
      refine ⟨_, _, rfl, fun t v H2 s2 D2 w2 d2 z2 => ?_⟩
      walk_at "ar"
      refine z_tupr (by show 2 ≤ 100000; omega) fun p2 hp2 => ?_
      have s22 := Same.new hp2 (o := .tup [v, .int 1])
      have sc := s2.trans s22
      have hL2 := sc _ _ I.lst
      have n2 : p2 ≠ L := fun z => by rw [z, s2 _ _ I.lst] at hp2; cases hp2
      have nv : Same (nw Hc H2) (cut L (upd H2 p2 (.tup [v, .int 1]))) := fun b o e => by
        obtain ⟨e1, e2⟩ := nw_at e
        exact cut_of (s22 b o e2) (fun z => by rw [z, I.lst] at e1; cases e1)
      walk_at "ar"
      refine z_appd hL2 (by omega) ?_
      have IP := ti_push (n := ps.length) (t := t) (d := 1) (va := .ref p2) I (Nat.le_refl _) (Off.same sc) ⟨p2, v, rfl, SqT.of (cut_of upd_same n2), Dp.mono nv D2⟩ w2 (by omega) (by omega) (by rw [List.drop_length]; show t.size = 1 + 0; omega)
      rw [← hus, List.take_length] at IP
      rw [hus, List.take_length] at IP
      have q1 : SqT K (cut L (upd (upd H2 p2 (.tup [v, .int 1])) L (.lst (us ++ [.ref p2])))) p2 [v, .int 1] := SqT.of (cut_of (by rw [upd_ne n2]; exact upd_same) n2)
      generalize upd (upd H2 p2 (.tup [v, .int 1])) L (.lst (us ++ [.ref p2])) = Hd at IP q1
      walk_at "ar"
      refine z_ixL (SqL.of IP.lst) (atI_last _ _) ?_
      walk_at "ar"
      refine z_ixT (Same.seqT (cut_same L Hd) q1) (v := .int 1) (atI_nat (j := 1) rfl) ?_
      walk_at "ar"
      refine ifD (fun e => absurd e (by decide)) (fun _ => ?_)
      exact ⟨L, _, _, _, _, rfl, IP⟩
    walk_at "ar"
    refine ⟨L, us, rfl, SqL.of I.lst, fun P hP => ?_⟩
    rw [cut9]
    have sP := Same.new hP (o := .lst (us.drop (us.length - 9)))
    have hPP : upd Hc P (.lst (us.drop (us.length - 9))) P = some (.lst (us.drop (us.length - 9))) := upd_same
    have I : TI K H (upd Hc P (.lst (us.drop (us.length - 9)))) i L us ps := ⟨I.new, I.same.trans sP, sP _ _ I.lst, All2.mono (fun p v q => prR_mono (cut_mono sP) p v q) I.prs, I.pos, I.len, I.ok, I.sz⟩
    generalize upd Hc P (.lst (us.drop (us.length - 9))) = Hc at I hPP
    have hA9 := all2_drop (us.length - 9) I.prs
    refine z_ilr (SqL.of hPP) ?_
    refine z_lcr (walk_list (K := K) (a := P) (xs := us.drop (us.length - 9))) (fun j acc _ => acc = [] → ∀ m p, m < j → (ps.drop (us.length - 9))[m]? = some p → p.2 ≤ 13) (fun H2 hS => SqL.of (hS _ _ hPP)) (fun _ _ _ m p hm _ => absurd hm (by omega)) ?_ ?_
    · rintro D j acc y H2 H3 hD hj hS hal hacc hR ⟨rfl, hy⟩
      obtain ⟨p, hp, b, tv, rfl, q1, q2⟩ := All2.at hA9 hy
      walk_at "rd"
      refine ⟨rfl, ?_⟩
      walk_at "rd"
      refine z_ixT (Same.seqT ((cut_same L Hc).trans hS) q1) (v := .int p.2) (atI_nat (j := 1) rfl) ?_
      walk_at "rd"
      refine ifD (fun e => ?_) (fun e => ?_)
      · walk_at "rd"
        refine lc_end hD hS hacc hal (by rw [List.length_drop] at hj; omega) (Same.refl _) fun H5 _ _ _ => fun z => absurd z (by simp)
      · refine ⟨acc, hacc, Nat.le_succ_of_le hal, hS, fun z m q hm hq => ?_⟩
        by_cases hmj : m = j
        · rw [hmj, hp] at hq
          have hq' : p = q := Option.some.inj hq
          rw [← hq']
          omega
        · exact hR z m q (by omega) hq
    · intro D acc H2 hD hS hacc hR
      have I : TI K H H2 i L us ps := ⟨I.new, I.same.trans hS, hS _ _ I.lst, All2.mono (fun p v q => prR_mono (cut_mono hS) p v q) I.prs, I.pos, I.len, I.ok, I.sz⟩
      generalize H2 = Hc at I hacc
      walk_at "ar"
      refine ⟨D, _, rfl, .inl (SqL.of hacc), ?_⟩
      walk_at "ar"
      refine ifD (fun e2 => ?_) (fun e2 => ?_)
      · skip
        walk_at "ar"
        refine z_bml (SqL.of I.lst) ?_
        walk_at "ar"
        refine ⟨_, _, rfl, fun t v H2 s2 D2 w2 d2 z2 => ?_⟩
        walk_at "ar"
        refine z_tupr (by show 2 ≤ 100000; omega) fun p2 hp2 => ?_
        have s22 := Same.new hp2 (o := .tup [v, .int 1])
        have sc := s2.trans s22
        have hL2 := sc _ _ I.lst
        have n2 : p2 ≠ L := fun z => by rw [z, s2 _ _ I.lst] at hp2; cases hp2
        have nv : Same (nw Hc H2) (cut L (upd H2 p2 (.tup [v, .int 1]))) := fun b o e => by
          obtain ⟨e1, e2⟩ := nw_at e
          exact cut_of (s22 b o e2) (fun z => by rw [z, I.lst] at e1; cases e1)
        walk_at "ar"
        refine z_appd hL2 (by omega) ?_
        have IP := ti_push (n := ps.length) (t := t) (d := 1) (va := .ref p2) I (Nat.le_refl _) (Off.same sc) ⟨p2, v, rfl, SqT.of (cut_of upd_same n2), Dp.mono nv D2⟩ w2 (by omega) (by omega) (by rw [List.drop_length]; show t.size = 1 + 0; omega)
        rw [← hus, List.take_length] at IP
        rw [hus, List.take_length] at IP
        have q1 : SqT K (cut L (upd (upd H2 p2 (.tup [v, .int 1])) L (.lst (us ++ [.ref p2])))) p2 [v, .int 1] := SqT.of (cut_of (by rw [upd_ne n2]; exact upd_same) n2)
        generalize upd (upd H2 p2 (.tup [v, .int 1])) L (.lst (us ++ [.ref p2])) = Hd at IP q1
        walk_at "ar"
        refine z_ixL (SqL.of IP.lst) (atI_last _ _) ?_
        walk_at "ar"
        refine z_ixT (Same.seqT (cut_same L Hd) q1) (v := .int 1) (atI_nat (j := 1) rfl) ?_
        walk_at "ar"
        refine ifD (fun e => absurd e (by decide)) (fun _ => ?_)
        exact ⟨L, _, _, _, _, rfl, IP⟩
      have ea : acc = [] := List.length_eq_zero_iff.mp (by omega)
      have SO : StOk ps := ⟨fun p hp => ⟨(I.ok p hp).1, (I.ok p hp).2.1⟩, fun p hp => by
        obtain ⟨m, hm⟩ := List.mem_iff_getElem?.mp hp
        have hlt := (List.getElem?_eq_some_iff.mp hm).1
        rw [List.length_drop] at hlt
        exact hR ea m p (by rw [List.length_drop]; omega) (by rw [hus]; exact hm)⟩
      walk_at "ar"
      refine ifI (fun e3 => ?_) (fun e3 => ?_)
      · skip
        walk_at "ar"
        refine z_bml (SqL.of I.lst) ?_
        walk_at "ar"
        refine ⟨L, _, _, us, ps, rfl, I.lst, I.prs, I.pos, by omega, SO, fun H2 a t d n hn O hL2 hPr w2 d2 d14 z2 => ?_⟩
        walk_at "ar"
        refine z_appd hL2 (by rw [List.length_take]; omega) ?_
        have IP := ti_push (n := n) (t := t) (d := d) (va := .ref a) I hn O hPr w2 d2 d14 z2
        obtain ⟨b, tv, eb, q1, q2⟩ := prR_mono (cut_upd (x := L) (H := H2) (o := .lst (us.take n ++ [.ref a]))) _ _ hPr
        generalize upd H2 L (.lst (us.take n ++ [.ref a])) = Hd at IP q1 q2
        walk_at "ar"
        refine z_ixL (SqL.of IP.lst) (atI_last _ _) ?_
        rw [eb]
        walk_at "ar"
        refine z_ixT (Same.seqT (cut_same L Hd) q1) (v := .int d) (atI_nat (j := 1) rfl) ?_
        walk_at "ar"
        refine ifD (fun e => ?_) (fun _ => ⟨L, _, _, _, _, rfl, IP⟩)
        walk_at "ar"
        refine z_ixL (SqL.of IP.lst) (atI_last _ _) ?_
        rw [eb]
        walk_at "ar"
        refine z_ixT (Same.seqT (cut_same L Hd) q1) (v := tv) (atI_nat (j := 0) rfl) ?_
        walk_at "ar"
        refine z_tupr (by show 2 ≤ 100000; omega) fun r1 hr1 => ?_
        walk_at "ar"
        refine z_lstr (by show 1 ≤ 100000; omega) fun r2 hr2 => ?_
        have s1 := Same.new hr1 (o := .tup [tv, .int 14])
        have s2 := Same.new hr2 (o := .lst [.ref r1])
        walk_at "ar"
        refine ⟨L, _, rfl, SqL.of (s2 _ _ (s1 _ _ IP.lst)), fun r3 hr3 => ?_⟩
        rw [cutm1]
        have s3 := Same.new hr3 (o := .lst (us.take n))
        refine ⟨r2, r3, [.ref r1], us.take n, rfl, rfl, s3 _ _ upd_same, upd_same, len_sz (by rw [List.length_take]; show 1 + _ ≤ 100000; omega), fun r4 hr4 => ?_⟩
        exact ⟨r4, _, _, _, _, rfl, ti_rot IP hr1 (s2.trans s3) hr4 eb q1 q2⟩
      walk_at "ar"
      refine z_bml (SqL.of I.lst) ?_
      walk_at "ar"
      refine ⟨L, _, _, us, ps, rfl, I.lst, I.prs, I.pos, by omega, SO, fun H2 a t d n hn O hL2 hPr w2 d2 d14 z2 => ?_⟩
      walk_at "ar"
      refine z_appd hL2 (by rw [List.length_take]; omega) ?_
      have IP := ti_push (n := n) (t := t) (d := d) (va := .ref a) I hn O hPr w2 d2 d14 z2
      obtain ⟨b, tv, eb, q1, q2⟩ := prR_mono (cut_upd (x := L) (H := H2) (o := .lst (us.take n ++ [.ref a]))) _ _ hPr
      generalize upd H2 L (.lst (us.take n ++ [.ref a])) = Hd at IP q1 q2
      walk_at "ar"
      refine z_ixL (SqL.of IP.lst) (atI_last _ _) ?_
      rw [eb]
      walk_at "ar"
      refine z_ixT (Same.seqT (cut_same L Hd) q1) (v := .int d) (atI_nat (j := 1) rfl) ?_
      walk_at "ar"
      refine ifD (fun e => ?_) (fun _ => ⟨L, _, _, _, _, rfl, IP⟩)
      walk_at "ar"
      refine z_ixL (SqL.of IP.lst) (atI_last _ _) ?_
      rw [eb]
      walk_at "ar"
      refine z_ixT (Same.seqT (cut_same L Hd) q1) (v := tv) (atI_nat (j := 0) rfl) ?_
      walk_at "ar"
      refine z_tupr (by show 2 ≤ 100000; omega) fun r1 hr1 => ?_
      walk_at "ar"
      refine z_lstr (by show 1 ≤ 100000; omega) fun r2 hr2 => ?_
      have s1 := Same.new hr1 (o := .tup [tv, .int 14])
      have s2 := Same.new hr2 (o := .lst [.ref r1])
      walk_at "ar"
      refine ⟨L, _, rfl, SqL.of (s2 _ _ (s1 _ _ IP.lst)), fun r3 hr3 => ?_⟩
      rw [cutm1]
      have s3 := Same.new hr3 (o := .lst (us.take n))
      refine ⟨r2, r3, [.ref r1], us.take n, rfl, rfl, s3 _ _ upd_same, upd_same, len_sz (by rw [List.length_take]; show 1 + _ ≤ 100000; omega), fun r4 hr4 => ?_⟩
      exact ⟨r4, _, _, _, _, rfl, ti_rot IP hr1 (s2.trans s3) hr4 eb q1 q2⟩
  · rintro σ Hc ⟨L, us, ps, c3, c4, rfl, I⟩
    rw [List.length_map] at I
    have hus := All2.len I.prs
    have hpos := I.pos
    obtain ⟨W, va, rfl⟩ : ∃ W va, us = W ++ [va] := ⟨us.dropLast, us.getLast (fun z => by rw [z] at hus; simp at hus; omega), (List.dropLast_concat_getLast _).symm⟩
    obtain ⟨p, hp, b, tv, rfl, q1, q2⟩ := All2.at I.prs (i := W.length) (v := va) (by simp)
    walk_at "ar"
    refine z_ixL (SqL.of I.lst) (atI_last _ _) ?_
    walk_at "ar"
    refine z_ixT (Same.seqT (cut_same L Hc) q1) (v := tv) (atI_nat (j := 0) rfl) ?_
    have hm := List.mem_of_getElem? hp
    obtain ⟨o1, o2, o3⟩ := I.ok p hm
    refine k Hc tv p.1 I.same (Dp.mono (cut_same L Hc) q2) o1 (Nat.le_trans o2 o3) ?_
    rw [← I.sz]
    exact sizeL_at (Nat.le_refl _) (show (ps.map (·.1))[W.length]? = some p.1 by rw [List.getElem?_map, hp]; rfl)
end
end EH

set_option Elab.async false
set_option maxRecDepth 100000
set_option maxHeartbeats 4000000
set_option linter.unusedVariables false

/-! The law's own words: params, houses, programs. -/
namespace EH
open PySem PySem.Spec PyProof.Rows L2 TL
local macro_rules | `(tactic| walk_at "ar") => `(tactic| repeat (first | walk_at "rd1" | refine z_ic (C := CDiv) ⟨by decide, by decide⟩ ?_ | refine z_ic (C := CMul) (.inr ⟨by decide, by decide⟩) ?_ | refine z_ic (C := CMul) (.inl ⟨by decide, by decide⟩) ?_ | (refine z_ic (C := fun _ j => 0 < j) (by decide) ?_)))
/-! ### data without lists -/
mutual
def nl : PyData → Bool
  | .list _ => false
  | .dict _ => false
  | .tuple xs => nlL xs
  | _ => true
def nlL : List PyData → Bool
  | [] => true
  | d :: ds => nl d && nlL ds
end
section
variable {K : PySem.W.Frag} {H : Hp} {M : Addr} {us : List V}
theorem seqT_cut {a : Addr} {xs : List V} (hM : H M = some (.lst us)) (h : SqT K H a xs) : SqT K (cut M H) a xs := by
  rcases h with (h | ⟨o, h⟩) | h
  · exact .inl (.inl (cut_of h fun z => by rw [z, hM] at h; cases h))
  · exact .inl (.inr ⟨o, cut_of h fun z => by rw [z, hM] at h; cases h⟩)
  · exact .inr h
mutual
theorem dp_cut (hM : H M = some (.lst us)) : ∀ {v : V} {d : PyData}, nl d = true → Dp K H v d → Dp K (cut M H) v d
  | _, _, _, .non => .non
  | _, _, _, .bl b => .bl b
  | _, _, _, .int i => .int i
  | _, _, _, .str x => .str x
  | _, _, e, .lst _ _ => by simp [nl] at e
  | _, _, e, .tup h1 h2 => .tup (seqT_cut hM h1) (dpa_cut hM (by simpa [nl] using e) h2)
theorem dpa_cut (hM : H M = some (.lst us)) : ∀ {vs : List V} {ds : List PyData}, nlL ds = true → DpAll K H vs ds → DpAll K (cut M H) vs ds
  | _, _, _, .nil => .nil
  | _, _, e, .cons h1 h2 => by
    rw [nlL, Bool.and_eq_true] at e
    exact .cons (dp_cut hM e.1 h1) (dpa_cut hM e.2 h2)
end
end
theorem nlL_map {α : Type} {f : α → PyData} : ∀ {l : List α}, (∀ a ∈ l, nl (f a) = true) → nlL (l.map f) = true
  | [], _ => rfl
  | a :: l, h => by
    rw [List.map_cons, nlL, h a List.mem_cons_self, nlL_map fun b hb => h b (List.mem_cons_of_mem _ hb)]
    rfl
theorem nlL_td : ∀ {ts : List EH.T}, (∀ t ∈ ts, nl (tdat t) = true) → nlL (tdatL ts) = true
  | [], _ => rfl
  | t :: ts, h => by
    rw [tdatL, nlL, h t List.mem_cons_self, nlL_td fun b hb => h b (List.mem_cons_of_mem _ hb)]
    rfl
theorem nl_td (t : EH.T) : nl (tdat t) = true := by
  induction t using EH.T.ind with
  | hnum n => rfl
  | htru b => rfl
  | hnam x => rfl
  | hslf => rfl
  | hnew x ts ih => simp [tdat, nl, nlL, nlL_td ih]
  | held x ts ih => simp [tdat, nl, nlL, nlL_td ih]
  | hfld t x ih => simp [tdat, nl, nlL, ih]
  | hcal t x ts ih iht => simp [tdat, nl, nlL, ih, nlL_td iht]
  | hnt t ih => simp [tdat, nl, nlL, ih]
  | htwo g a b iha ihb => simp [tdat, nl, nlL, iha, ihb]
  | hite a b c iha ihb ihc => simp [tdat, nl, nlL, iha, ihb, ihc]
  | hlt x a b iha ihb => simp [tdat, nl, nlL, iha, ihb]
  | hst t x b iht ihb => simp [tdat, nl, nlL, iht, ihb]
theorem nl_par (ps : List (Str × Str)) : nl (parD ps) = true := by
  unfold parD
  rw [nl]
  exact nlL_map fun q _ => rfl
theorem nl_wd (w : Wd) : nl (wdD w) = true := by
  unfold wdD
  simp [nl, nlL, nl_par, nl_td]
theorem nl_hs (h : Hs) : nl (hsD h) = true := by
  unfold hsD
  have e : nl (eldD h.elder) = true := by cases h.elder <;> rfl
  simp [nl, nlL, nl_par, e, nlL_map fun w _ => nl_wd w]
local macro_rules | `(tactic| walk_at "rd1") => `(tactic| (first
  | with_reducible refine z_seq ?_ | with_reducible refine z_ifs ?_ | with_reducible refine z_next ?_ | with_reducible refine z_ret ?_ | with_reducible refine z_asg ?_ | with_reducible refine z_gname ?_
  | ((with_reducible apply z_var); exact rfl) | with_reducible refine z_c ?_ | with_reducible refine z_op ?_ | with_reducible refine z_bl ?_ | with_reducible refine z_test ?_ | with_reducible refine z_B ?_
  | with_reducible refine z_nil ?_ | with_reducible refine z_cons ?_ | with_reducible refine z_cb ?_ | with_reducible refine z_call ?_ | with_reducible refine iteT ?_ | with_reducible refine iteF ?_
  | with_reducible refine z_or ?_ | with_reducible refine z_and ?_ | with_reducible refine z_not ?_ | with_reducible refine z_orv ?_ | with_reducible refine z_andv ?_ | with_reducible refine z_notv ?_ | with_reducible refine z_un ?_
  | with_reducible refine z_eqS ?_ | with_reducible refine z_neS ?_ | with_reducible refine z_eqI ?_ | with_reducible refine z_neI ?_ | with_reducible refine z_i0 ?_ | with_reducible refine z_radd ?_ | with_reducible refine z_rsub ?_ | with_reducible refine z_iu ?_
  | with_reducible refine z_fld ?_ | with_reducible refine z_meth ?_ | with_reducible refine z_sfld ?_ | with_reducible refine z_flda ?_ | with_reducible refine z_make ?_ | with_reducible refine z_drop ?_ | with_reducible refine z_retn ?_ | with_reducible refine z_cont ?_
  | with_reducible refine z_tup ?_ | with_reducible refine z_lst ?_ | with_reducible refine z_slice ?_ | with_reducible refine z_nopart ?_ | with_reducible refine z_part ?_ | with_reducible refine z_intr ?_ | with_reducible refine z_m1 ?_ | with_reducible refine z_lc ?_ | with_reducible refine z_yes ?_ | with_reducible refine z_il ?_ | with_reducible refine z_it ?_ | with_reducible refine z_bm ?_ | with_reducible refine z_for ?_ | with_reducible refine z_gcons ?_ | with_reducible refine z_gnil ?_ | with_reducible refine z_es ?_ | with_reducible refine z_sub ?_ | with_reducible refine z_ri ?_ | with_reducible refine z_i0 ?_ | with_reducible refine z_bm0 ?_ | with_reducible refine z_revL ?_ | with_reducible refine z_rng ?_ | with_reducible refine z_enL ?_))
local macro_rules | `(tactic| walk_at "rd") => `(tactic| repeat (walk_at "rd1"))
local macro_rules | `(tactic| walk_at "no") => `(tactic| repeat (first | refine ifF (bSf (by decide +kernel)) ?_ | refine ifF (bSf num_ne) ?_ | (walk_at "rd1")))
local macro_rules | `(tactic| walk_at "ln") => `(tactic| (rintro vs H Q E h; repeat (first | (obtain ⟨e, _⟩ := h; subst e; rfl) | (obtain ⟨_, h⟩ := h))))
section
variable {P : Program} {w : World} {K : PySem.W.Frag} {mg : Str → Option Value} {base : Heap}
def spLParams (K : PySem.W.Frag) : Sp := fun vs H Q _ => ∃ (c sh : Int) (kl : Addr) (ks : List Str), vs = [.int c, .int sh, .ref kl] ∧ SqL K H kl (ks.map V.str) ∧ 1 ≤ ks.length ∧ (∀ x ∈ ks, kindOk x = true) ∧
  ∀ (H' : Hp) (v : V) (ps : List (Str × Str)), Same H H' → Dp K H' v (parD ps) → parOk ps → (∀ q ∈ ps, q.2 ∈ ks) → Q v H'
theorem kind_name {x : Str} (h : isName x = true) : kindOk x = true := by
  unfold kindOk
  rw [h]
  simp
theorem kinds_at {ks : List Str} {i : Int} (h0 : 0 ≤ i) (h1 : i < ks.length) : ∃ x, x ∈ ks ∧ atI (ks.map V.str) i = some (.str x) := by
  obtain ⟨v, h2, h3⟩ := atI_in (xs := ks.map V.str) h0 (by rw [List.length_map]; exact h1)
  rw [List.getElem?_map] at h2
  cases e : ks[i.toNat]? with
  | none => rw [e] at h2; cases h2
  | some x =>
    rw [e] at h2
    have hv : V.str x = v := Option.some.inj h2
    subst hv
    exact ⟨x, List.mem_of_getElem? e, h3⟩
theorem sc_z_params : FnScope ["_law_cell", "_law_shift", "_law_kinds", "_law_names", "_law_k"] ["_law_cell", "_law_shift", "_law_kinds"] (defScope s_z_params) := ⟨rfl, rfl, rfl, by decide +kernel, rfl, by decide +kernel, by decide +kernel⟩
theorem ok_z_params (T : Tx K mg) : Cal P w K mg base CX0 2 "_law_params" ["_law_cell", "_law_shift", "_law_kinds"] [] (spLParams K) := by
  obtain ⟨fd, F⟩ := T.f_z_params
  refine cal_def F T.g_z_params sc_z_params (fun _ _ _ _ _ _ us hl => match us, hl with | [_, _, _], _ => rfl) (by walk_at "ln") (fun cdv A outer s H vs Q E hr h => ?_)
  obtain ⟨c, sh, kl, ks, rfl, hk, hk1, hks, k⟩ := h
  refine ⟨_, (pss_cons (ps_set (i := 3) sc_z_params.nd rfl (Or.inr rfl) (pe_lc (own := [("_law_k", 4)]) (g := gName 4) (by rfl) sc_z_params.nd (pi_range1 (by rfl) T.b_range (pa_cons (pe_op op_mod (pv 0) pe_int) pa_nil)) (blkOk_by (own := [("_law_k", 4)]) (N := ["_law_cell", "_law_shift", "_law_kinds", "_law_names", "_law_k"]) (sc := defScope s_z_params) (by decide +kernel)) (fun _ _ _ _ _ => pg_name (i := 4) sc_z_params.nd rfl (Or.inl rfl)) (fun _ _ _ _ _ => pts_nil) (fun _ _ _ _ _ => (pe_cal (ok_z_name T) (hr.mono (by decide)) pass0 (pa_cons (pe_op op_mod (pe_op op_add (pe_op op_fdiv (pv 0) pe_int) (pv 4)) pe_int) (pa_cons (pv 1) pa_nil))))))
    (pss_one (ps_ret (pe_callTy call_tuple_of (by rfl) T.b_tuple (by decide +kernel) (pa_cons (pe_lc (own := [("_law_k", 4)]) (g := gName 4) (by rfl) sc_z_params.nd (pi_range1 (by rfl) T.b_range (pa_cons (pe_op op_mod (pv 0) pe_int) pa_nil)) (blkOk_by (own := [("_law_k", 4)]) (N := ["_law_cell", "_law_shift", "_law_kinds", "_law_names", "_law_k"]) (sc := defScope s_z_params) (by decide +kernel)) (fun _ _ _ _ _ => pg_name (i := 4) sc_z_params.nd rfl (Or.inl rfl)) (fun _ _ _ _ _ => pts_nil) (fun _ _ _ _ _ => (pe_tup (pa_cons (pe_ix (ix_listK (K := K) rfl) (pv 3) (pv 4) (fun _ _ => rfl)) (pa_cons (pe_ix (ix_listK (K := K) rfl) (pv 2) (pe_op op_mod (pe_op op_fdiv (pv 0) (pe_op op_add pe_int (pv 4))) (pe_callB (call_len_seqK (K := K) rfl) (by rfl) T.b_len PySem.boot_len (pa_cons (pv 2) pa_nil))) (fun _ _ => rfl)) pa_nil))))) pa_nil))))), ?_⟩
  have z1 : 0 ≤ c % 5 := Int.emod_nonneg _ (by decide)
  have z2 : c % 5 < 5 := Int.emod_lt_of_pos _ (by decide)
  generalize hm : (c % 5).toNat = m
  have hm' : c % 5 = (m : Int) := by omega
  walk_at "ar"
  refine z_rngr (n := m) hm' (by omega) ?_
  refine z_lcr (walk_range (lo := 0) (n := m)) (fun i acc _ => ∃ xs : List Str, acc = xs.map V.str ∧ xs.length = i ∧ ∀ x ∈ xs, isName x = true) (fun _ _ => trivial) (fun _ _ => ⟨[], rfl, rfl, fun _ z => nomatch z⟩) ?_ ?_
  · rintro D i acc y H2 H3 hD1 hi hS hal hacc ⟨xs, rfl, hxl, hxn⟩ ⟨rfl, rfl⟩
    walk_at "rd"
    refine ⟨rfl, ?_⟩
    walk_at "ar"
    refine ⟨_, _, rfl, fun x H4 hx s4 => ?_⟩
    refine lc_end hD1 hS hacc hal (by omega) s4 fun H5 _ _ _ => ⟨xs ++ [x], by rw [List.map_append]; rfl, by rw [List.length_append, hxl]; rfl, fun y hy => ?_⟩
    rcases List.mem_append.mp hy with q | q
    · exact hxn y q
    · rw [List.mem_singleton.mp q]; exact hx
  · rintro N acc H2 hD1 hS hacc ⟨xs, rfl, hxl, hxn⟩
    walk_at "ar"
    refine z_rngr (n := m) hm' (by omega) ?_
    refine z_lcj (walk_range (lo := 0) (n := m)) (fun D i acc Hd => ∃ ps : List (Str × Str), DpAll K (cut D Hd) acc (ps.map pairD) ∧ ps.length = i ∧ (∀ q ∈ ps, isName q.1 = true ∧ kindOk q.2 = true) ∧ ∀ q ∈ ps, q.2 ∈ ks) (fun _ _ => trivial) (fun _ _ _ _ => ⟨[], .nil, rfl, (fun _ z => nomatch z), fun _ z => nomatch z⟩) ?_ ?_
    · rintro D i acc y H4 H5 hD2 hi hS2 hal hacc2 ⟨ps, A, hpl, hp1, hp2⟩ ⟨rfl, rfl⟩
      walk_at "rd"
      refine ⟨rfl, ?_⟩
      walk_at "ar"
      have hix : i < xs.length := by omega
      refine z_ixL (SqL.of (hS2 _ _ hacc)) (v := .str xs[i]) (by rw [Int.zero_add]; exact atI_nat (by rw [List.getElem?_map, List.getElem?_eq_getElem hix]; rfl)) ?_
      walk_at "ar"
      refine z_ic (C := CDiv) ⟨by omega, by omega⟩ ?_
      walk_at "ar"
      refine ⟨kl, _, rfl, .inl (Same.seq (hS.trans hS2) hk), ?_⟩
      walk_at "ar"
      rw [List.length_map]
      refine z_ic (C := fun _ j => 0 < j) (by omega) ?_
      walk_at "ar"
      obtain ⟨kd, hkd1, hkd2⟩ := kinds_at (ks := ks) (i := c / (7 + (0 + (i : Int))) % (ks.length : Int)) (Int.emod_nonneg _ (by omega)) (Int.emod_lt_of_pos _ (by omega))
      refine z_ixL (Same.seq (hS.trans hS2) hk) hkd2 ?_
      walk_at "ar"
      refine z_tupr (by show 2 ≤ 100000; omega) fun tp htp => ?_
      have s5 := Same.new htp (o := .tup [.str xs[i], .str kd])
      have nT : tp ≠ D := fun z => by rw [z, hacc2] at htp; cases htp
      refine lc_end hD2 hS2 hacc2 hal (by omega) s5 fun H6 h6 keep S6 => ⟨ps ++ [(xs[i], kd)], ?_, by rw [List.length_append, hpl]; rfl, fun q hq => ?_, fun q hq => ?_⟩
      · rw [List.map_append]
        refine DpAll.app (DpAll.mono (fun b o e => ?_) A) (.cons (.tup (SqT.of (cut_of (keep tp _ nT upd_same) nT)) (.cons (.str _) (.cons (.str _) .nil))) .nil)
        obtain ⟨n, e⟩ := cut_at e
        exact cut_of (keep b o n (s5 _ _ e)) n
      · rcases List.mem_append.mp hq with z | z
        · exact hp1 q z
        · rw [List.mem_singleton.mp z]
          exact ⟨hxn _ (List.getElem_mem hix), hks _ hkd1⟩
      · rcases List.mem_append.mp hq with z | z
        · exact hp2 q z
        · rw [List.mem_singleton.mp z]
          exact hkd1
    · rintro D acc H4 hD2 hS2 hacc2 ⟨ps, A, hpl, hp1, hp2⟩
      walk_at "ar"
      refine ⟨D, acc, rfl, .inl ⟨SqL.of hacc2, fun l hl => ?_⟩⟩
      have s6 := Same.new hl (o := .tup acc)
      exact k _ _ ps ((hS.trans hS2).trans s6) (.tup (SqT.of upd_same) (DpAll.mono ((cut_same D H4).trans s6) A)) ⟨by omega, hp1⟩ hp2
end
end EH

set_option Elab.async false
set_option maxRecDepth 100000
set_option maxHeartbeats 4000000
set_option linter.unusedVariables false

/-! The law's own words: houses. -/
namespace EH
open PySem PySem.Spec PyProof.Rows L2 TL
local macro_rules | `(tactic| walk_at "ar") => `(tactic| repeat (first | walk_at "rd1" | refine z_ic (C := CDiv) ⟨by decide, by decide⟩ ?_ | refine z_ic (C := CMul) (.inr ⟨by decide, by decide⟩) ?_ | refine z_ic (C := CMul) (.inl ⟨by decide, by decide⟩) ?_ | (refine z_ic (C := fun _ j => 0 < j) (by decide) ?_)))
local macro_rules | `(tactic| walk_at "rd1") => `(tactic| (first
  | with_reducible refine z_seq ?_ | with_reducible refine z_ifs ?_ | with_reducible refine z_next ?_ | with_reducible refine z_ret ?_ | with_reducible refine z_asg ?_ | with_reducible refine z_gname ?_
  | ((with_reducible apply z_var); exact rfl) | with_reducible refine z_c ?_ | with_reducible refine z_op ?_ | with_reducible refine z_bl ?_ | with_reducible refine z_test ?_ | with_reducible refine z_B ?_
  | with_reducible refine z_nil ?_ | with_reducible refine z_cons ?_ | with_reducible refine z_cb ?_ | with_reducible refine z_call ?_ | with_reducible refine iteT ?_ | with_reducible refine iteF ?_
  | with_reducible refine z_or ?_ | with_reducible refine z_and ?_ | with_reducible refine z_not ?_ | with_reducible refine z_orv ?_ | with_reducible refine z_andv ?_ | with_reducible refine z_notv ?_ | with_reducible refine z_un ?_
  | with_reducible refine z_eqS ?_ | with_reducible refine z_neS ?_ | with_reducible refine z_eqI ?_ | with_reducible refine z_neI ?_ | with_reducible refine z_i0 ?_ | with_reducible refine z_radd ?_ | with_reducible refine z_rsub ?_ | with_reducible refine z_iu ?_
  | with_reducible refine z_fld ?_ | with_reducible refine z_meth ?_ | with_reducible refine z_sfld ?_ | with_reducible refine z_flda ?_ | with_reducible refine z_make ?_ | with_reducible refine z_drop ?_ | with_reducible refine z_retn ?_ | with_reducible refine z_cont ?_
  | with_reducible refine z_tup ?_ | with_reducible refine z_lst ?_ | with_reducible refine z_slice ?_ | with_reducible refine z_nopart ?_ | with_reducible refine z_part ?_ | with_reducible refine z_intr ?_ | with_reducible refine z_m1 ?_ | with_reducible refine z_lc ?_ | with_reducible refine z_yes ?_ | with_reducible refine z_il ?_ | with_reducible refine z_it ?_ | with_reducible refine z_bm ?_ | with_reducible refine z_for ?_ | with_reducible refine z_gcons ?_ | with_reducible refine z_gnil ?_ | with_reducible refine z_es ?_ | with_reducible refine z_sub ?_ | with_reducible refine z_ri ?_ | with_reducible refine z_i0 ?_ | with_reducible refine z_bm0 ?_ | with_reducible refine z_revL ?_ | with_reducible refine z_rng ?_ | with_reducible refine z_enL ?_))
local macro_rules | `(tactic| walk_at "rd") => `(tactic| repeat (walk_at "rd1"))
local macro_rules | `(tactic| walk_at "no") => `(tactic| repeat (first | refine ifF (bSf (by decide +kernel)) ?_ | refine ifF (bSf num_ne) ?_ | (walk_at "rd1")))
local macro_rules | `(tactic| walk_at "ln") => `(tactic| (rintro vs H Q E h; repeat (first | (obtain ⟨e, _⟩ := h; subst e; rfl) | (obtain ⟨_, h⟩ := h))))
section
variable {P : Program} {w : World} {K : PySem.W.Frag} {mg : Str → Option Value} {base : Heap}
theorem cut_ints (ns : List Int) (a b : Nat) (h : a ≤ b) : ∃ ms : List Int, cutV (ns.map V.int) (some (a : Int)) (some (b : Int)) = ms.map V.int ∧ ms.length ≤ b - a := by
  refine ⟨(ns.drop (HT.sIx (ns.map V.int).length 0 (some (a : Int)))).take (HT.sIx (ns.map V.int).length (ns.map V.int).length (some (b : Int)) - HT.sIx (ns.map V.int).length 0 (some (a : Int))), ?_, ?_⟩
  · unfold cutV
    rw [List.map_take, List.map_drop]
  · rw [List.length_take, HT.sIx_nat, HT.sIx_nat, List.length_drop]
    omega
def spLHouse (K : PySem.W.Frag) : Sp := fun vs H Q _ => ∃ (S : Addr) (n most : Nat) (sh : Int) (ns : List Int), vs = [.ref S, .int n, .int sh, .int most] ∧ SqL K H S (ns.map V.int) ∧ n ≤ 20 ∧ most ≤ 8 ∧
  ∀ (H' : Hp) (v : V) (h : Hs), Same H H' → Dp K H' v (hsD h) → h.wf → sizeW h.words ≤ 8 * most → Q v H'
theorem num_at {l : List Nat} {i : Int} (h0 : 0 ≤ i) (h1 : i < l.length) : ∃ m : Nat, m ∈ l ∧ atI (l.map fun (m : Nat) => V.int (m : Int)) i = some (.int m) := by
  obtain ⟨v, h2, h3⟩ := atI_in (xs := l.map fun (m : Nat) => V.int (m : Int)) h0 (by rw [List.length_map]; exact h1)
  rw [List.getElem?_map] at h2
  cases e : l[i.toNat]? with
  | none => rw [e] at h2; cases h2
  | some m =>
    rw [e] at h2
    have hv : V.int (m : Int) = v := Option.some.inj h2
    subst hv
    exact ⟨m, List.mem_of_getElem? e, h3⟩
theorem sizeW_app (a b : List Wd) : sizeW (a ++ b) = sizeW a + sizeW b := by
  unfold sizeW
  rw [List.map_append, List.sum_append]
theorem sc_z_house : FnScope ["_law_script", "_law_k", "_law_shift", "_law_most", "_law_cell", "_law_j", "_law_kinds", "_law_elder", "_law_names", "_law_fields", "_law_told_here", "_law_more", "_law_params_here", "_law_term_here"] ["_law_script", "_law_k", "_law_shift", "_law_most"] (defScope s_z_house) := ⟨rfl, rfl, rfl, by decide +kernel, rfl, by decide +kernel, by decide +kernel⟩
theorem ok_z_house (T : Tx K mg) : Cal P w K mg base CX0 5 "_law_house" ["_law_script", "_law_k", "_law_shift", "_law_most"] [] (spLHouse K) := by
  obtain ⟨fd, F⟩ := T.f_z_house
  refine cal_def F T.g_z_house sc_z_house (fun _ _ _ _ _ _ us hl => match us, hl with | [_, _, _, _], _ => rfl) (by walk_at "ln") (fun cdv A outer s H vs Q E hr h => ?_)
  obtain ⟨S, n, most, sh, ns, rfl, hS0, hn, hmost, k⟩ := h
  refine ⟨_, (pss_cons (ps_set (i := 4) sc_z_house.nd rfl (Or.inr rfl) (pe_cal (ok_z_mixed T) (hr.mono (by decide)) pass0 (pa_cons (pe_cal (ok_z_cell_at T) (hr.mono (by decide)) pass0 (pa_cons (pv 0) (pa_cons pe_int pa_nil))) (pa_cons (pe_op op_add pe_int (pv 1)) pa_nil))))
    (pss_cons (ps_set (i := 6) sc_z_house.nd rfl (Or.inr rfl) (pe_op op_cat (pe_lst (pa_cons pe_str (pa_cons pe_str pa_nil))) (pe_lc (own := [("_law_j", 5)]) (g := gName 5) (by rfl) sc_z_house.nd (pi_range1 (by rfl) T.b_range (pa_cons pe_int pa_nil)) (blkOk_by (own := [("_law_j", 5)]) (N := ["_law_script", "_law_k", "_law_shift", "_law_most", "_law_cell", "_law_j", "_law_kinds", "_law_elder", "_law_names", "_law_fields", "_law_told_here", "_law_more", "_law_params_here", "_law_term_here"]) (sc := defScope s_z_house) (by decide +kernel)) (fun _ _ _ _ _ => pg_name (i := 5) sc_z_house.nd rfl (Or.inl rfl)) (fun _ _ _ _ _ => pts_nil) (fun _ _ _ _ _ => (pe_cal (ok_z_name T) (hr.mono (by decide)) pass0 (pa_cons (pv 5) (pa_cons (pv 2) pa_nil)))))))
    (pss_cons (ps_set (i := 7) sc_z_house.nd rfl (Or.inl rfl) (pe_ix ix_list (pe_lst (pa_cons pe_non (pa_cons (pe_cal (ok_z_name T) (hr.mono (by decide)) pass0 (pa_cons (pe_op op_mod (pe_op op_fdiv (pv 4) pe_int) pe_int) (pa_cons (pv 2) pa_nil))) pa_nil))) (pe_op op_mod (pv 4) pe_int) (fun _ _ => rfl)))
    (pss_cons (ps_set (i := 8) sc_z_house.nd rfl (Or.inr rfl) (pe_lc (own := [("_law_j", 5)]) (g := gName 5) (by rfl) sc_z_house.nd (pi_range1 (by rfl) T.b_range (pa_cons (pe_op op_mod (pe_op op_fdiv (pv 4) pe_int) pe_int) pa_nil)) (blkOk_by (own := [("_law_j", 5)]) (N := ["_law_script", "_law_k", "_law_shift", "_law_most", "_law_cell", "_law_j", "_law_kinds", "_law_elder", "_law_names", "_law_fields", "_law_told_here", "_law_more", "_law_params_here", "_law_term_here"]) (sc := defScope s_z_house) (by decide +kernel)) (fun _ _ _ _ _ => pg_name (i := 5) sc_z_house.nd rfl (Or.inl rfl)) (fun _ _ _ _ _ => pts_nil) (fun _ _ _ _ _ => (pe_cal (ok_z_name T) (hr.mono (by decide)) pass0 (pa_cons (pe_op op_mod (pe_op op_add (pe_op op_fdiv (pv 4) pe_int) (pv 5)) pe_int) (pa_cons (pv 2) pa_nil))))))
    (pss_cons (ps_setLc (i := 9) (own := [("_law_j", 5)]) (g := gName 5) rfl sc_z_house.nd rfl rfl (sw_true rfl rfl rfl (by decide +kernel)) (pi_range1 (by rfl) T.b_range (pa_cons (pe_callB call_len_seq (by rfl) T.b_len PySem.boot_len (pa_cons (pv 8) pa_nil)) pa_nil)) (blkOk_by (own := [("_law_j", 5)]) (N := ["_law_script", "_law_k", "_law_shift", "_law_most", "_law_cell", "_law_j", "_law_kinds", "_law_elder", "_law_names", "_law_fields", "_law_told_here", "_law_more", "_law_params_here", "_law_term_here"]) (sc := defScope s_z_house) (by decide +kernel)) (fun _ _ _ _ _ => pg_name (i := 5) sc_z_house.nd rfl (Or.inl rfl)) (fun _ _ _ _ _ => pts_nil) (fun _ _ _ _ _ => (pe_tup (pa_cons (pe_ix (ix_listK (K := K) rfl) (pv 8) (pv 5) (fun _ _ => rfl)) (pa_cons (pe_ix (ix_listK (K := K) rfl) (pv 6) (pe_op op_mod (pe_op op_fdiv (pv 4) (pe_op op_add pe_int (pv 5))) pe_int) (fun _ _ => rfl)) pa_nil)))))
    (pss_cons (ps_set (i := 10) sc_z_house.nd rfl (Or.inl rfl) (pe_lst pa_nil))
    (pss_cons (ps_for PassesOwn.never rfl (pi_range1 (by rfl) T.b_range (pa_cons (pe_callB (call_min2 rfl) (by rfl) T.b_min (by decide +kernel) (pa_cons (pe_ix ix_list (pe_lst (pa_cons pe_int (pa_cons pe_int (pa_cons pe_int (pa_cons pe_int (pa_cons pe_int (pa_cons pe_int pa_nil))))))) (pe_op op_mod (pe_op op_fdiv (pv 4) pe_int) pe_int) (fun _ _ => rfl)) (pa_cons (pv 3) pa_nil))) pa_nil)) (pg_name (i := 5) sc_z_house.nd rfl (Or.inl rfl)) (pss_cons (ps_set (i := 11) sc_z_house.nd rfl (Or.inl rfl) (pe_cal (ok_z_mixed T) (hr.mono (by decide)) pass0 (pa_cons (pv 4) (pa_cons (pv 5) pa_nil))))
    (pss_cons (ps_set (i := 12) sc_z_house.nd rfl (Or.inl rfl) (pe_cal (ok_z_params T) (hr.mono (by decide)) pass0 (pa_cons (pe_op op_fdiv (pv 11) pe_int) (pa_cons (pv 2) (pa_cons (pv 6) pa_nil)))))
    (pss_cons (ps_set (i := 13) sc_z_house.nd rfl (Or.inl rfl) (pe_cal (ok_z_term T) (hr.mono (by decide)) pass0 (pa_cons (pe_slice sl_list (pv 0) (po_some (pe_op op_add (pe_op op_add pe_int (pe_op op_mul pe_int (pv 1))) (pv 5))) (po_some (pe_op op_add (pe_op op_add pe_int (pe_op op_mul pe_int (pv 1))) (pv 5)))) (pa_cons (pe_op op_add (pv 2) (pv 5)) pa_nil))))
    (pss_one (ps_expr (pe_bm PySem.F.plainAttrs_list PySem.F.slot_list_append PySem.F.type_list_append mt_append (pv 10) (pa_cons (pe_tup (pa_cons (pe_cal (ok_z_name T) (hr.mono (by decide)) pass0 (pa_cons (pe_op op_mod (pv 11) pe_int) (pa_cons (pv 2) pa_nil))) (pa_cons (pv 12) (pa_cons (pe_ix ix_list (pv 6) (pe_op op_mod (pe_op op_fdiv (pv 11) pe_int) pe_int) (fun _ _ => rfl)) (pa_cons (pv 13) pa_nil))))) pa_nil))))))))
    (pss_one (ps_ret (pe_tup (pa_cons (pe_cal (ok_z_name T) (hr.mono (by decide)) pass0 (pa_cons (pe_op op_mod (pe_op op_fdiv (pv 4) pe_int) pe_int) (pa_cons (pv 2) pa_nil))) (pa_cons (pv 7) (pa_cons (pe_callTy call_tuple_of (by rfl) T.b_tuple (by decide +kernel) (pa_cons (pv 9) pa_nil)) (pa_cons (pe_callTy call_tuple_of (by rfl) T.b_tuple (by decide +kernel) (pa_cons (pv 10) pa_nil)) pa_nil)))))))))))))), ?_⟩
  walk_at "ar"
  refine ⟨S, ns, 1, rfl, hS0, fun r0 => ?_⟩
  walk_at "ar"
  refine ⟨_, _, rfl, by omega, by omega, fun c => ?_⟩
  walk_at "ar"
  refine z_lstr (by show 2 ≤ 100000; omega) fun p1 hp1 => ?_
  have s1 := Same.new hp1 (o := .lst [.str "number", .str "truth"])
  have hq1 : upd H p1 (.lst [.str "number", .str "truth"]) p1 = some (.lst [.str "number", .str "truth"]) := upd_same
  generalize upd H p1 (.lst [.str "number", .str "truth"]) = H1 at s1 hq1
  walk_at "ar"
  refine z_rngr (n := 3) rfl (by omega) ?_
  refine z_lcr (walk_range (lo := 0) (n := 3)) (fun i acc _ => ∃ xs : List Str, acc = xs.map V.str ∧ xs.length = i ∧ ∀ x ∈ xs, isName x = true) (fun _ _ => trivial) (fun _ _ => ⟨[], rfl, rfl, fun _ z => nomatch z⟩) ?_ ?_
  · rintro D i acc y H2 H3 hD1 hi hS hal hacc ⟨xs, rfl, hxl, hxn⟩ ⟨rfl, rfl⟩
    walk_at "rd"
    refine ⟨rfl, ?_⟩
    walk_at "ar"
    refine ⟨_, _, rfl, fun x H4 hx s4 => ?_⟩
    refine lc_end hD1 hS hacc hal (by omega) s4 fun H5 _ _ _ => ⟨xs ++ [x], by rw [List.map_append]; rfl, by rw [List.length_append, hxl]; rfl, fun y hy => ?_⟩
    rcases List.mem_append.mp hy with q | q
    · exact hxn y q
    · rw [List.mem_singleton.mp q]; exact hx
  rintro D1 acc H2 hD1 hS1 hacc1 ⟨xs, rfl, hxl, hxn⟩
  walk_at "ar"
  refine ⟨p1, D1, _, _, rfl, rfl, hS1 _ _ hq1, hacc1, len_sz (by rw [List.length_map]; show 2 + _ ≤ 100000; omega), fun kl hkl => ?_⟩
  have s2 := Same.new hkl (o := .lst ([.str "number", .str "truth"] ++ xs.map V.str))
  have hK : upd H2 kl (.lst ([.str "number", .str "truth"] ++ xs.map V.str)) kl = some (.lst (((("number" : Str) :: "truth" :: xs).map V.str))) := upd_same
  have S2 := (s1.trans hS1).trans s2
  generalize upd H2 kl (.lst ([.str "number", .str "truth"] ++ xs.map V.str)) = H3 at s2 hK S2
  have hks : ∀ x ∈ (("number" : Str) :: "truth" :: xs), kindOk x = true := by
    intro x hx
    rcases List.mem_cons.mp hx with rfl | hx
    · decide +kernel
    rcases List.mem_cons.mp hx with rfl | hx
    · decide +kernel
    exact kind_name (hxn x hx)
  have hkl5 : (("number" : Str) :: "truth" :: xs).length = 5 := by simp [hxl]
  generalize (("number" : Str) :: "truth" :: xs) = ks at hK hks hkl5
  walk_at "ar"
  refine ⟨_, _, rfl, fun ex H4 hex s4 => ?_⟩
  walk_at "ar"
  refine z_lstr (by show 2 ≤ 100000; omega) fun p2 hp2 => ?_
  walk_at "ar"
  have s5 := Same.new hp2 (o := .lst [.non, .str ex])
  obtain ⟨eo, heo, heat⟩ : ∃ eo : Option Str, (∀ e, eo = some e → isName e = true) ∧ atI [V.non, .str ex] (c % 2) = some (eldV eo) := by
    have z := Int.emod_nonneg c (show (2 : Int) ≠ 0 by decide)
    have z2 := Int.emod_lt_of_pos c (show (0 : Int) < 2 by decide)
    by_cases h : c % 2 = 0
    · exact ⟨none, (fun e q => by cases q), by rw [h]; exact atI_nat (j := 0) rfl⟩
    · exact ⟨some ex, (fun e q => by cases q; exact hex), by rw [show c % 2 = 1 by omega]; exact atI_nat (j := 1) rfl⟩
  refine z_ixL (SqL.of upd_same) heat ?_
  have S5 := (S2.trans s4).trans s5
  have hK5 := s5 _ _ (s4 _ _ hK)
  generalize upd H4 p2 (.lst [.non, .str ex]) = H5 at S5 hK5
  clear s2 s5 s4
  walk_at "ar"
  have z1 : 0 ≤ c / 2 % 5 := Int.emod_nonneg _ (by decide)
  have z2 : c / 2 % 5 < 5 := Int.emod_lt_of_pos _ (by decide)
  generalize hm : (c / 2 % 5).toNat = m
  have hm' : c / 2 % 5 = (m : Int) := by omega
  refine z_rngr (n := m) hm' (by omega) ?_
  refine z_lcr (walk_range (lo := 0) (n := m)) (fun i acc _ => ∃ xs : List Str, acc = xs.map V.str ∧ xs.length = i ∧ ∀ x ∈ xs, isName x = true) (fun _ _ => trivial) (fun _ _ => ⟨[], rfl, rfl, fun _ z => nomatch z⟩) ?_ ?_
  · rintro D i acc y H6 H7 hD1 hi hS hal hacc ⟨xs, rfl, hxl, hxn⟩ ⟨rfl, rfl⟩
    walk_at "rd"
    refine ⟨rfl, ?_⟩
    walk_at "ar"
    refine ⟨_, _, rfl, fun x H4 hx s4 => ?_⟩
    refine lc_end hD1 hS hacc hal (by omega) s4 fun H5 _ _ _ => ⟨xs ++ [x], by rw [List.map_append]; rfl, by rw [List.length_append, hxl]; rfl, fun y hy => ?_⟩
    rcases List.mem_append.mp hy with q | q
    · exact hxn y q
    · rw [List.mem_singleton.mp q]; exact hx
  rintro N acc H6 hD2 hS2 hacc2 ⟨fs, rfl, hfl, hfn⟩
  walk_at "ar"
  refine ⟨N, _, rfl, .inl (SqL.of hacc2), ?_⟩
  walk_at "ar"
  refine z_rngr (n := m) (by rw [List.length_map, hfl]) (by omega) ?_
  have S6 := S5.trans hS2
  have hK6 := hS2 _ _ hK5
  refine z_lcj (walk_range (lo := 0) (n := m)) (fun D i acc Hd => ∃ ps : List (Str × Str), DpAll K (cut D Hd) acc (ps.map pairD) ∧ ps.length = i ∧ (∀ q ∈ ps, isName q.1 = true ∧ kindOk q.2 = true)) (fun _ _ => trivial) (fun _ _ _ _ => ⟨[], .nil, rfl, (fun _ z => nomatch z)⟩) ?_ ?_
  · rintro D i acc y H7 H8 hD3 hi hS3 hal hacc3 ⟨ps, A, hpl, hp1⟩ ⟨rfl, rfl⟩
    walk_at "rd"
    refine ⟨rfl, ?_⟩
    walk_at "ar"
    have hix : i < fs.length := by omega
    refine z_ixL (SqL.of (hS3 _ _ hacc2)) (v := .str fs[i]) (by rw [Int.zero_add]; exact atI_nat (by rw [List.getElem?_map, List.getElem?_eq_getElem hix]; rfl)) ?_
    walk_at "ar"
    refine z_ic (C := CDiv) ⟨by omega, by omega⟩ ?_
    walk_at "ar"
    obtain ⟨kd, hkd1, hkd2⟩ := kinds_at (ks := ks) (i := c / (11 + (0 + (i : Int))) % 5) (Int.emod_nonneg _ (by decide)) (by rw [hkl5]; exact Int.emod_lt_of_pos _ (by decide))
    refine z_ixL (SqL.of (hS3 _ _ hK6)) hkd2 ?_
    walk_at "ar"
    refine z_tupr (by show 2 ≤ 100000; omega) fun tp htp => ?_
    have s5 := Same.new htp (o := .tup [.str fs[i], .str kd])
    have nT : tp ≠ D := fun z => by rw [z, hacc3] at htp; cases htp
    refine lc_end hD3 hS3 hacc3 hal (by omega) s5 fun H9 h9 keep S9 => ⟨ps ++ [(fs[i], kd)], ?_, by rw [List.length_append, hpl]; rfl, fun q hq => ?_⟩
    · rw [List.map_append]
      refine DpAll.app (DpAll.mono (fun b o e => ?_) A) (.cons (.tup (SqT.of (cut_of (keep tp _ nT upd_same) nT)) (.cons (.str _) (.cons (.str _) .nil))) .nil)
      obtain ⟨n, e⟩ := cut_at e
      exact cut_of (keep b o n (s5 _ _ e)) n
    · rcases List.mem_append.mp hq with z | z
      · exact hp1 q z
      · rw [List.mem_singleton.mp z]
        exact ⟨hfn _ (List.getElem_mem hix), hks _ hkd1⟩
  rintro F acc H7 hD3 hS3 hacc3 ⟨fps, A, hpl, hp1⟩
  have S7 := S6.trans hS3
  have hK7 := hS3 _ _ hK6
  have A7 := DpAll.mono (cut_same F H7) A
  clear A
  walk_at "ar"
  refine z_lstr (by show 0 ≤ 100000; omega) fun M hM => ?_
  have nKM : kl ≠ M := ne_of_none hK7 hM
  have nFM : F ≠ M := ne_of_none hacc3 hM
  have hMH : H M = none := Fr.same S7 _ hM
  walk_at "ar"
  refine z_lstr (by show 6 ≤ 100000; omega) fun p3 hp3 => ?_
  walk_at "ar"
  obtain ⟨w, hw1, hw2⟩ := num_at (l := [0, 1, 1, 2, 3, 8]) (i := c / 10 % 6) (Int.emod_nonneg _ (by decide)) (Int.emod_lt_of_pos _ (by decide))
  refine z_ixL (SqL.of upd_same) hw2 ?_
  walk_at "ar"
  refine ⟨_, _, rfl, ?_⟩
  have hmin : (if (most : Int) < (w : Int) then (most : Int) else (w : Int)) = ((min w most : Nat) : Int) := by split <;> omega
  rw [hmin]
  generalize hW : min w most = wn
  have s8 := Same.new hM (o := .lst [])
  have s9 := Same.new hp3 (o := .lst [V.int 0, .int 1, .int 1, .int 2, .int 3, .int 8])
  have hM9 := s9 _ _ (upd_same (H := H7) (a := M) (o := .lst []))
  have S9 := s8.trans s9
  walk_at "ar"
  refine z_rngr (n := wn) rfl (by omega) ?_
  refine z_forr (walk_range (lo := 0) (n := wn)) (fun i σ Hc => ∃ ms ws c5 c11 c12 c13, σ = [some (.ref S), some (.int n), some (.int sh), some (.int most), some (.int c), c5, some (.ref kl), some (eldV eo), some (.ref N), some (.ref F), some (.ref M), c11, c12, c13] ∧ Same H7 (cut M Hc) ∧ Hc M = some (.lst ms) ∧ DpAll K Hc ms (ws.map wdD) ∧ ws.length = i ∧ (∀ w ∈ ws, w.wf) ∧ sizeW ws ≤ 8 * i)
    ⟨[], [], _, _, _, _, rfl, fun b o e => cut_of (S9 b o e) (fun z => by rw [z, hM] at e; cases e), hM9, .nil, rfl, (fun _ z => nomatch z), Nat.zero_le _⟩ (fun _ _ _ _ _ => trivial) ?_ ?_
  · rintro i x σ Hc H' hi ⟨ms, ws, c5, c11, c12, c13, rfl, sM, hMc, A, hwl, hww, hsz⟩ ⟨rfl, rfl⟩
    have sc := sM.trans (cut_same M H')
    have hml := DpAll.len A
    rw [List.length_map] at hml
    walk_at "ar"
    refine ⟨_, _, rfl, by omega, by omega, fun more => ?_⟩
    walk_at "ar"
    refine ⟨_, _, kl, ks, rfl, SqL.of (sc _ _ hK7), by omega, hks, fun G1 pv ps t1 D1 hpo _ => ?_⟩
    walk_at "ar"
    refine ⟨S, _, rfl, Same.seq ((S7.trans sc).trans t1) hS0, fun cl hcl => ?_⟩
    obtain ⟨nsj, en, hnl⟩ := cut_ints ns (3 + 7 * n + i) (10 + 7 * n + i) (by omega)
    rw [show (3 + 7 * (n : Int) + (0 + (i : Int))) = ((3 + 7 * n + i : Nat) : Int) by omega, show (10 + 7 * (n : Int) + (0 + (i : Int))) = ((10 + 7 * n + i : Nat) : Int) by omega, en]
    have t2 := Same.new hcl (o := .lst (nsj.map V.int))
    walk_at "ar"
    refine ⟨cl, _, nsj, rfl, SqL.of upd_same, by omega, fun G2 tv t t3 D2 tw td tz => ?_⟩
    have t13 := (t1.trans t2).trans t3
    have hM2 := t13 _ _ hMc
    walk_at "ar"
    refine z_bml (SqL.of hM2) ?_
    walk_at "ar"
    refine ⟨_, _, rfl, fun x G3 hx t4 => ?_⟩
    walk_at "ar"
    obtain ⟨kd, hkd1, hkd2⟩ := kinds_at (ks := ks) (i := more / 5 % 5) (Int.emod_nonneg _ (by decide)) (by rw [hkl5]; exact Int.emod_lt_of_pos _ (by decide))
    refine z_ixL (SqL.of (t4 _ _ (t13 _ _ (sc _ _ hK7)))) hkd2 ?_
    walk_at "ar"
    refine z_tupr (by show 4 ≤ 100000; omega) fun tp htp => ?_
    have t5 := Same.new htp (o := .tup [.str x, pv, .str kd, tv])
    have hM3 := t5 _ _ (t4 _ _ hM2)
    walk_at "ar"
    refine z_appd hM3 (by omega) ?_
    have t05 := (t13.trans t4).trans t5
    have cu := cut_upd (x := M) (H := upd G3 tp (.tup [.str x, pv, .str kd, tv])) (o := .lst (ms ++ [.ref tp]))
    have Dnew : Dp K (upd G3 tp (.tup [.str x, pv, .str kd, tv])) (.ref tp) (wdD ⟨x, ps, kd, t⟩) := .tup (SqT.of upd_same) (.cons (.str _) (.cons (Dp.mono (((t2.trans t3).trans t4).trans t5) D1) (.cons (.str _) (.cons (Dp.mono (t4.trans t5) D2) .nil))))
    refine ⟨_, ws ++ [⟨x, ps, kd, t⟩], _, _, _, _, rfl, (sM.trans (cut_mono t05)).trans cu, upd_same, ?_, by rw [List.length_append, hwl]; rfl, fun w hw => ?_, ?_⟩
    · rw [List.map_append]
      exact DpAll.mono (cu.trans (cut_same M _)) (DpAll.app (dpa_cut hM3 (nlL_map fun w _ => nl_wd w) (DpAll.mono t05 A)) (.cons (dp_cut hM3 (nl_wd _) Dnew) .nil))
    · rcases List.mem_append.mp hw with z | z
      · exact hww w z
      · rw [List.mem_singleton.mp z]
        exact ⟨hx, hpo, hks _ hkd1, tw, td⟩
    · rw [sizeW_app]
      have : sizeW [(⟨x, ps, kd, t⟩ : Wd)] = t.size + 0 := rfl
      omega
  · rintro σ Hc ⟨ms, ws, c5, c11, c12, c13, rfl, sM, hMc, A, hwl, hww, hsz⟩
    have sc := sM.trans (cut_same M Hc)
    walk_at "ar"
    refine ⟨_, _, rfl, fun x G1 hx t1 => ?_⟩
    walk_at "ar"
    refine ⟨F, acc, rfl, .inl ⟨SqL.of (t1 _ _ (sc _ _ hacc3)), fun ft hft => ?_⟩⟩
    have t2 := Same.new hft (o := .tup acc)
    walk_at "ar"
    refine ⟨M, ms, rfl, .inl ⟨SqL.of (t2 _ _ (t1 _ _ hMc)), fun mt hmt => ?_⟩⟩
    have t3 := Same.new hmt (o := .tup ms)
    walk_at "ar"
    refine z_tupr (by show 4 ≤ 100000; omega) fun tp htp => ?_
    have t4 := Same.new htp (o := .tup [.str x, eldV eo, .ref ft, .ref mt])
    have t04 := ((t1.trans t2).trans t3).trans t4
    have hwn : wn ≤ 8 := by omega
    refine k _ _ ⟨x, eo, fps, ws⟩ ((S7.trans sc).trans t04) (.tup (SqT.of upd_same) (.cons (.str _) (.cons (eld_dp _) (.cons (.tup (SqT.of (t4 _ _ (t3 _ _ upd_same))) (DpAll.mono (sc.trans t04) A7)) (.cons (.tup (SqT.of (t4 _ _ upd_same)) (DpAll.mono t04 A)) .nil))))) ⟨hx, heo, ⟨by show fps.length ≤ 4; omega, hp1⟩, by show ws.length ≤ 8; omega, hww⟩ ?_
    show sizeW ws ≤ 8 * most
    omega
end
end EH

set_option Elab.async false
set_option maxRecDepth 100000
set_option maxHeartbeats 4000000
set_option linter.unusedVariables false

/-! The law's own words: programs. -/
namespace EH
open PySem PySem.Spec PyProof.Rows L2 TL
local macro_rules | `(tactic| walk_at "ar") => `(tactic| repeat (first | walk_at "rd1" | refine z_ic (C := CDiv) ⟨by decide, by decide⟩ ?_ | refine z_ic (C := CMul) (.inr ⟨by decide, by decide⟩) ?_ | refine z_ic (C := CMul) (.inl ⟨by decide, by decide⟩) ?_ | (refine z_ic (C := fun _ j => 0 < j) (by decide) ?_)))
local macro_rules | `(tactic| walk_at "rd1") => `(tactic| (first
  | with_reducible refine z_seq ?_ | with_reducible refine z_ifs ?_ | with_reducible refine z_next ?_ | with_reducible refine z_ret ?_ | with_reducible refine z_asg ?_ | with_reducible refine z_gname ?_
  | ((with_reducible apply z_var); exact rfl) | with_reducible refine z_c ?_ | with_reducible refine z_op ?_ | with_reducible refine z_bl ?_ | with_reducible refine z_test ?_ | with_reducible refine z_B ?_
  | with_reducible refine z_nil ?_ | with_reducible refine z_cons ?_ | with_reducible refine z_cb ?_ | with_reducible refine z_call ?_ | with_reducible refine iteT ?_ | with_reducible refine iteF ?_
  | with_reducible refine z_or ?_ | with_reducible refine z_and ?_ | with_reducible refine z_not ?_ | with_reducible refine z_orv ?_ | with_reducible refine z_andv ?_ | with_reducible refine z_notv ?_ | with_reducible refine z_un ?_
  | with_reducible refine z_eqS ?_ | with_reducible refine z_neS ?_ | with_reducible refine z_eqI ?_ | with_reducible refine z_neI ?_ | with_reducible refine z_i0 ?_ | with_reducible refine z_radd ?_ | with_reducible refine z_rsub ?_ | with_reducible refine z_iu ?_
  | with_reducible refine z_fld ?_ | with_reducible refine z_meth ?_ | with_reducible refine z_sfld ?_ | with_reducible refine z_flda ?_ | with_reducible refine z_make ?_ | with_reducible refine z_drop ?_ | with_reducible refine z_retn ?_ | with_reducible refine z_cont ?_
  | with_reducible refine z_tup ?_ | with_reducible refine z_lst ?_ | with_reducible refine z_slice ?_ | with_reducible refine z_nopart ?_ | with_reducible refine z_part ?_ | with_reducible refine z_intr ?_ | with_reducible refine z_m1 ?_ | with_reducible refine z_lc ?_ | with_reducible refine z_yes ?_ | with_reducible refine z_il ?_ | with_reducible refine z_it ?_ | with_reducible refine z_bm ?_ | with_reducible refine z_for ?_ | with_reducible refine z_gcons ?_ | with_reducible refine z_gnil ?_ | with_reducible refine z_es ?_ | with_reducible refine z_sub ?_ | with_reducible refine z_ri ?_ | with_reducible refine z_i0 ?_ | with_reducible refine z_bm0 ?_ | with_reducible refine z_revL ?_ | with_reducible refine z_rng ?_ | with_reducible refine z_enL ?_))
local macro_rules | `(tactic| walk_at "rd") => `(tactic| repeat (walk_at "rd1"))
local macro_rules | `(tactic| walk_at "no") => `(tactic| repeat (first | refine ifF (bSf (by decide +kernel)) ?_ | refine ifF (bSf num_ne) ?_ | (walk_at "rd1")))
local macro_rules | `(tactic| walk_at "ln") => `(tactic| (rintro vs H Q E h; repeat (first | (obtain ⟨e, _⟩ := h; subst e; rfl) | (obtain ⟨_, h⟩ := h))))
section
variable {P : Program} {w : World} {K : PySem.W.Frag} {mg : Str → Option Value} {base : Heap}
def spLProg (K : PySem.W.Frag) : Sp := fun vs H Q _ => ∃ (S : Addr) (ns : List Int), vs = [.ref S] ∧ SqL K H S (ns.map V.int) ∧ ∀ (H' : Hp) (v : V) (pg : Pg), Same H H' → Dp K H' v (pgD pg) → pg.wf → Q v H'
theorem sizeH_app (a b : List Hs) : sizeH (a ++ b) = sizeH a + sizeH b := by
  unfold sizeH
  rw [List.map_append, List.sum_append]
theorem sc_z_program : FnScope ["_law_script", "_law_shift", "_law_many", "_law_houses", "_law_cell", "_law_kind", "_law_params_here", "_law_k"] ["_law_script"] (defScope s_z_program) := ⟨rfl, rfl, rfl, by decide +kernel, rfl, by decide +kernel, by decide +kernel⟩
theorem ok_z_program (T : Tx K mg) : Cal P w K mg base CX0 6 "_law_program" ["_law_script"] [] (spLProg K) := by
  obtain ⟨fd, F⟩ := T.f_z_program
  refine cal_def F T.g_z_program sc_z_program (fun _ _ _ _ _ _ us hl => match us, hl with | [_], _ => rfl) (by walk_at "ln") (fun cdv A outer s H vs Q E hr h => ?_)
  obtain ⟨S, ns, rfl, hS0, k⟩ := h
  refine ⟨_, (pss_cons (ps_set (i := 1) sc_z_program.nd rfl (Or.inr rfl) (pe_cal (ok_z_cell_at T) (hr.mono (by decide)) pass0 (pa_cons (pv 0) (pa_cons pe_int pa_nil))))
    (pss_cons (ps_set (i := 2) sc_z_program.nd rfl (Or.inr rfl) (pe_ix ix_list (pe_lst (pa_cons pe_int (pa_cons pe_int (pa_cons pe_int (pa_cons pe_int (pa_cons pe_int (pa_cons pe_int (pa_cons pe_int pa_nil)))))))) (pe_op op_mod (pe_cal (ok_z_cell_at T) (hr.mono (by decide)) pass0 (pa_cons (pv 0) (pa_cons pe_int pa_nil))) pe_int) (fun _ _ => rfl)))
    (pss_cons (ps_setLc (i := 3) (own := [("_law_k", 7)]) (g := gName 7) rfl sc_z_program.nd rfl rfl (sw_true rfl rfl rfl (by decide +kernel)) (pi_range1 (by rfl) T.b_range (pa_cons (pv 2) pa_nil)) (blkOk_by (own := [("_law_k", 7)]) (N := ["_law_script", "_law_shift", "_law_many", "_law_houses", "_law_cell", "_law_kind", "_law_params_here", "_law_k"]) (sc := defScope s_z_program) (by decide +kernel)) (fun _ _ _ _ _ => pg_name (i := 7) sc_z_program.nd rfl (Or.inl rfl)) (fun _ _ _ _ _ => pts_nil) (fun _ _ _ _ _ => (pe_cal (ok_z_house T) (hr.mono (by decide)) pass0 (pa_cons (pv 0) (pa_cons (pv 7) (pa_cons (pv 1) (pa_cons (pe_ix (ix_listK (K := K) rfl) (pe_lst (pa_cons pe_int (pa_cons pe_int pa_nil))) (pe_op op_fdiv (pv 2) pe_int) (fun _ _ => rfl)) pa_nil)))))))
    (pss_cons (ps_set (i := 4) sc_z_program.nd rfl (Or.inl rfl) (pe_cal (ok_z_mixed T) (hr.mono (by decide)) pass0 (pa_cons (pe_cal (ok_z_cell_at T) (hr.mono (by decide)) pass0 (pa_cons (pv 0) (pa_cons pe_int pa_nil))) (pa_cons pe_int pa_nil))))
    (pss_cons (ps_set (i := 5) sc_z_program.nd rfl (Or.inl rfl) (pe_ix ix_list (pe_lst (pa_cons pe_str (pa_cons pe_str (pa_cons (pe_cal (ok_z_name T) (hr.mono (by decide)) pass0 (pa_cons (pe_op op_mod (pv 4) pe_int) (pa_cons (pv 1) pa_nil))) pa_nil)))) (pe_op op_mod (pe_op op_fdiv (pv 4) pe_int) pe_int) (fun _ _ => rfl)))
    (pss_cons (ps_set (i := 6) sc_z_program.nd rfl (Or.inl rfl) (pe_cal (ok_z_params T) (hr.mono (by decide)) pass0 (pa_cons (pe_op op_fdiv (pv 4) pe_int) (pa_cons (pv 1) (pa_cons (pe_lst (pa_cons pe_str pa_nil)) pa_nil)))))
    (pss_one (ps_ret (pe_tup (pa_cons (pe_callTy call_tuple_of (by rfl) T.b_tuple (by decide +kernel) (pa_cons (pv 3) pa_nil)) (pa_cons (pe_tup (pa_cons (pv 6) (pa_cons (pv 5) (pa_cons (pe_cal (ok_z_term T) (hr.mono (by decide)) pass0 (pa_cons (pe_slice sl_list (pv 0) (po_some pe_int) (po_some pe_int)) (pa_cons (pv 1) pa_nil))) pa_nil)))) pa_nil))))))))))), ?_⟩
  walk_at "ar"
  refine ⟨S, ns, 0, rfl, hS0, fun sh => ?_⟩
  walk_at "ar"
  refine z_lstr (by show 7 ≤ 100000; omega) fun p1 hp1 => ?_
  have s1 := Same.new hp1 (o := .lst [V.int 0, .int 1, .int 2, .int 3, .int 1, .int 2, .int 12])
  have hq1 : upd H p1 (.lst [V.int 0, .int 1, .int 2, .int 3, .int 1, .int 2, .int 12]) p1 = some (.lst [V.int 0, .int 1, .int 2, .int 3, .int 1, .int 2, .int 12]) := upd_same
  generalize upd H p1 (.lst [V.int 0, .int 1, .int 2, .int 3, .int 1, .int 2, .int 12]) = H1 at s1 hq1
  walk_at "ar"
  refine ⟨S, ns, 1, rfl, Same.seq s1 hS0, fun r1 => ?_⟩
  walk_at "ar"
  obtain ⟨m, hm1, hm2⟩ := num_at (l := [0, 1, 2, 3, 1, 2, 12]) (i := r1 % 7) (Int.emod_nonneg _ (by decide)) (Int.emod_lt_of_pos _ (by decide))
  refine z_ixL (SqL.of hq1) hm2 ?_
  obtain ⟨most, hmo, hat, hbd⟩ : ∃ most : Nat, most ≤ 8 ∧ atI [V.int 8, .int 1] ((m : Int) / 12) = some (.int (most : Int)) ∧ m ≤ 12 ∧ 8 * most * m ≤ 192 := by
    simp only [List.mem_cons, List.not_mem_nil, or_false] at hm1
    rcases hm1 with rfl | rfl | rfl | rfl | rfl | rfl | rfl
    · exact ⟨8, by decide, atI_nat (j := 0) rfl, by decide, by decide⟩
    · exact ⟨8, by decide, atI_nat (j := 0) rfl, by decide, by decide⟩
    · exact ⟨8, by decide, atI_nat (j := 0) rfl, by decide, by decide⟩
    · exact ⟨8, by decide, atI_nat (j := 0) rfl, by decide, by decide⟩
    · exact ⟨8, by decide, atI_nat (j := 0) rfl, by decide, by decide⟩
    · exact ⟨8, by decide, atI_nat (j := 0) rfl, by decide, by decide⟩
    · exact ⟨1, by decide, atI_nat (j := 1) rfl, by decide, by decide⟩
  clear hm1 hm2
  walk_at "ar"
  refine z_rngr (n := m) rfl (by omega) ?_
  refine z_lcj (walk_range (lo := 0) (n := m)) (fun D i acc Hd => ∃ hs : List Hs, DpAll K (cut D Hd) acc (hs.map hsD) ∧ hs.length = i ∧ (∀ h ∈ hs, h.wf) ∧ sizeH hs ≤ 8 * most * i) (fun _ _ => trivial) (fun _ _ _ _ => ⟨[], .nil, rfl, (fun _ z => nomatch z), Nat.zero_le _⟩) ?_ ?_
  · rintro D i acc y H2 H3 hD1 hi hS hal hacc ⟨hs, A, hl, hw, hz⟩ ⟨rfl, rfl⟩
    walk_at "rd"
    refine ⟨rfl, ?_⟩
    walk_at "ar"
    refine z_lstr (by show 2 ≤ 100000; omega) fun p2 hp2 => ?_
    have s2 := Same.new hp2 (o := .lst [V.int 8, .int 1])
    walk_at "ar"
    refine z_ixL (SqL.of upd_same) hat ?_
    walk_at "ar"
    refine ⟨S, i, most, sh, ns, by show [V.ref S, .int (0 + (i : Int)), .int sh, .int most] = _; rw [Int.zero_add], Same.seq ((s1.trans hS).trans s2) hS0, by omega, hmo, fun H4 v h s4 D4 w4 z4 => ?_⟩
    have s24 := s2.trans s4
    refine lc_end hD1 hS hacc hal (by omega) s24 fun H5 h5 keep S5 => ⟨hs ++ [h], ?_, by rw [List.length_append, hl]; rfl, fun g hg => ?_, ?_⟩
    · rw [List.map_append]
      have mv : Same (cut D H4) (cut D H5) := fun b o e => by
        obtain ⟨n, e⟩ := cut_at e
        exact cut_of (keep b o n e) n
      exact DpAll.app (DpAll.mono ((cut_mono s24).trans mv) A) (.cons (Dp.mono mv (dp_cut (s24 _ _ hacc) (nl_hs h) D4)) .nil)
    · rcases List.mem_append.mp hg with z | z
      · exact hw g z
      · rw [List.mem_singleton.mp z]
        exact w4
    · rw [sizeH_app]
      have : sizeH [h] = sizeW h.words + 0 := rfl
      rw [Nat.mul_add]
      omega
  rintro F acc H2 hD hS hacc ⟨hs, A, hl, hw, hz⟩
  have S2 := s1.trans hS
  have A2 := DpAll.mono (cut_same F H2) A
  walk_at "ar"
  refine ⟨S, ns, 2, rfl, Same.seq S2 hS0, fun r2 => ?_⟩
  walk_at "ar"
  refine ⟨_, _, rfl, by decide, by decide, fun c => ?_⟩
  walk_at "ar"
  refine ⟨_, _, rfl, fun kx H3 hkx s3 => ?_⟩
  walk_at "ar"
  refine z_lstr (by show 3 ≤ 100000; omega) fun p3 hp3 => ?_
  have s4 := Same.new hp3 (o := .lst [.str "number", .str "truth", .str kx])
  walk_at "ar"
  obtain ⟨kd, hkd1, hkd2⟩ := kinds_at (ks := [("number" : Str), "truth", kx]) (i := c / 12 % 3) (Int.emod_nonneg _ (by decide)) (Int.emod_lt_of_pos _ (by decide))
  refine z_ixL (SqL.of upd_same) hkd2 ?_
  have hkd : kindOk kd = true := by
    simp only [List.mem_cons, List.not_mem_nil, or_false] at hkd1
    rcases hkd1 with rfl | rfl | rfl
    · decide +kernel
    · decide +kernel
    · exact kind_name hkx
  have S4 := (S2.trans s3).trans s4
  have sF := s3.trans s4
  generalize upd H3 p3 (.lst [.str "number", .str "truth", .str kx]) = H4 at S4 sF
  clear s4
  walk_at "ar"
  refine z_lstr (by show 1 ≤ 100000; omega) fun p4 hp4 => ?_
  have s5 := Same.new hp4 (o := .lst [.str "number"])
  walk_at "ar"
  refine ⟨_, _, p4, [("number" : Str)], rfl, SqL.of upd_same, by decide, fun x hx => by rw [List.mem_singleton.mp hx]; decide +kernel, fun H5 pv ps s6 D5 hpo hpn => ?_⟩
  walk_at "ar"
  have sF5 := (sF.trans s5).trans s6
  refine ⟨F, acc, rfl, .inl ⟨SqL.of (sF5 _ _ hacc), fun l hl' => ?_⟩⟩
  have s7 := Same.new hl' (o := .tup acc)
  walk_at "ar"
  refine ⟨S, _, rfl, Same.seq (((S4.trans s5).trans s6).trans s7) hS0, fun cl hcl => ?_⟩
  obtain ⟨nsj, en, hnl⟩ := cut_ints ns 3 40 (by omega)
  rw [show ((3 : Int)) = ((3 : Nat) : Int) from rfl, show ((40 : Int)) = ((40 : Nat) : Int) from rfl, en]
  have s8 := Same.new hcl (o := .lst (nsj.map V.int))
  walk_at "ar"
  refine ⟨cl, _, nsj, rfl, SqL.of upd_same, by omega, fun H6 tv t s9 D6 tw td tz => ?_⟩
  walk_at "ar"
  refine z_tupr (by show 3 ≤ 100000; omega) fun tp htp => ?_
  have s10 := Same.new htp (o := .tup [pv, .str kd, tv])
  walk_at "ar"
  refine z_tupr (by show 2 ≤ 100000; omega) fun tq htq => ?_
  have s11 := Same.new htq (o := .tup [.ref l, .ref tp])
  have t1 := ((s8.trans s9).trans s10).trans s11
  refine k _ _ ⟨hs, ps, kd, t⟩ ((((S4.trans s5).trans s6).trans s7).trans t1) (.tup (SqT.of upd_same) (.cons (.tup (SqT.of (t1 _ _ upd_same)) (DpAll.mono ((sF5.trans s7).trans t1) A2)) (.cons (.tup (SqT.of (s11 _ _ upd_same)) (.cons (Dp.mono (s7.trans t1) D5) (.cons (.str _) (.cons (Dp.mono (s10.trans s11) D6) .nil)))) .nil)))
    ⟨by show hs.length ≤ 12; omega, hw, hpo, fun q hq => List.mem_singleton.mp (hpn q hq), hkd, tw, td, ?_⟩
  show sizeH hs + t.size ≤ 400
  omega
end
end EH

set_option Elab.async false
set_option maxRecDepth 100000
set_option maxHeartbeats 4000000
set_option linter.unusedVariables false

/-! The law's own words: a term's text. -/
namespace EH
open PySem PySem.Spec PyProof.Rows L2 TL
local macro_rules | `(tactic| walk_at "ar") => `(tactic| repeat (first | walk_at "rd1" | refine z_ic (C := CDiv) ⟨by decide, by decide⟩ ?_ | refine z_ic (C := CMul) (.inr ⟨by decide, by decide⟩) ?_ | refine z_ic (C := CMul) (.inl ⟨by decide, by decide⟩) ?_ | (refine z_ic (C := fun _ j => 0 < j) (by decide) ?_)))
theorem hu1 {A : Around} {k : Nat} (hr : Room k A) : A.units + 1 < cLine := by have := hr.units; omega
def rStrAny : List V → Hp → VK → Prop := fun xs H Q => (∃ i, xs = [.int i] ∧ i.natAbs.log2 < 1920 ∧ Q (.str (toString i)) H) ∨ (∃ a, xs = [.str a] ∧ Q (.str a) H) ∨ (xs = [.non] ∧ Q (.str "None") H)
theorem z_strI {i : Int} {H : Hp} {Q : VK} (h : i.natAbs.log2 < 1920) (q : Q (.str (toString i)) H) : rStrAny [.int i] H Q := .inl ⟨i, rfl, h, q⟩
theorem z_strS {a : Str} {H : Hp} {Q : VK} (q : Q (.str a) H) : rStrAny [.str a] H Q := .inr (.inl ⟨a, rfl, q⟩)
theorem z_strN {H : Hp} {Q : VK} (q : Q (.str "None") H) : rStrAny [.non] H Q := .inr (.inr ⟨rfl, q⟩)
theorem call_str_any {X : Cx} : CallR X (.type "str") rStrAny := by
  intro pins s σ H xs us Q I r h
  rcases h with ⟨i, rfl, hz, q⟩ | ⟨a, rfl, q⟩ | ⟨rfl, q⟩
  · exact call_str_int pins s σ H _ us Q I r ⟨i, rfl, hz, q⟩
  · exact SkE.call_str_str pins s σ H _ us Q I r ⟨a, rfl, q⟩
  · obtain ⟨u, rfl, r1⟩ := vals1 r
    obtain rfl : u = Value.none := r1
    exact PySem.P.str_of_none ⟨.str "None", H, I.tok _, ⟨_, rfl⟩, q⟩
/-- a term's data, from the front -/
def tnm : T → Str
  | .num _ => "number"
  | .tru _ => "truth"
  | .nam _ => "name"
  | .slf => "self"
  | .new _ _ => "new"
  | .eld _ _ => "elder"
  | .fld _ _ => "field"
  | .cal _ _ _ => "call"
  | .nt _ => "not"
  | .two _ _ _ => "two"
  | .ite _ _ _ => "if"
  | .lt _ _ _ => "let"
  | .st _ _ _ => "set"
theorem t_hd (t : T) : ∃ r, tdat t = .tuple (.str (tnm t) :: r) := by cases t <;> exact ⟨_, rfl⟩
abbrev kvA : List (L2.Key × V) := [(.inr ";", .int 1), (.inr "<", .int 2), (.inr "=", .int 2), (.inr "+", .int 3), (.inr "-", .int 3)]
abbrev kvB : List (L2.Key × V) := [(.inr "if", .int 2), (.inr "let", .int 1), (.inr "set", .int 2), (.inr "not", .int 5)]
theorem kvA_m : mergeK [] kvA = kvA := by rfl
theorem kvB_m : mergeK [] kvB = kvB := by rfl
theorem kvA_at (g : Str) : (valV kvA (.inr g)).getD (.int 4) = .int ((pw g : Nat) : Int) := by
  have ne : ∀ {x : Str}, ¬ g = x → ¬ (Sum.inr x : L2.Key) = Sum.inr g := fun h e => h (Sum.inr.inj e).symm
  unfold pw kvA
  by_cases h1 : g = (";" : Str)
  · rw [if_pos h1, valV_pos (by rw [h1])]; rfl
  rw [if_neg h1, valV_neg (ne h1)]
  by_cases h2 : g = ("<" : Str)
  · rw [if_pos h2, valV_pos (by rw [h2])]; rfl
  rw [if_neg h2, valV_neg (ne h2)]
  by_cases h3 : g = ("=" : Str)
  · rw [if_pos h3, valV_pos (by rw [h3])]; rfl
  rw [if_neg h3, valV_neg (ne h3)]
  by_cases h4 : g = ("+" : Str)
  · rw [if_pos h4, valV_pos (by rw [h4])]; rfl
  rw [if_neg h4, valV_neg (ne h4)]
  by_cases h5 : g = ("-" : Str)
  · rw [if_pos h5, valV_pos (by rw [h5])]; rfl
  rw [if_neg h5, valV_neg (ne h5), valV_nil]
  rfl
theorem kvB_at (t : T) (h : tnm t ≠ ("two" : Str)) : (valV kvB (.inr (tnm t))).getD (.int 6) = .int ((power t : Nat) : Int) := by
  cases t with
  | two g a b => exact absurd rfl h
  | _ => rfl
local macro_rules | `(tactic| walk_at "rd1") => `(tactic| (first
  | with_reducible refine z_seq ?_ | with_reducible refine z_ifs ?_ | with_reducible refine z_next ?_ | with_reducible refine z_ret ?_ | with_reducible refine z_asg ?_ | with_reducible refine z_gname ?_
  | ((with_reducible apply z_var); exact rfl) | with_reducible refine z_c ?_ | with_reducible refine z_op ?_ | with_reducible refine z_bl ?_ | with_reducible refine z_test ?_ | with_reducible refine z_B ?_
  | with_reducible refine z_nil ?_ | with_reducible refine z_cons ?_ | with_reducible refine z_cb ?_ | with_reducible refine z_call ?_ | with_reducible refine iteT ?_ | with_reducible refine iteF ?_
  | with_reducible refine z_or ?_ | with_reducible refine z_and ?_ | with_reducible refine z_not ?_ | with_reducible refine z_orv ?_ | with_reducible refine z_andv ?_ | with_reducible refine z_notv ?_ | with_reducible refine z_un ?_
  | with_reducible refine z_eqS ?_ | with_reducible refine z_neS ?_ | with_reducible refine z_eqI ?_ | with_reducible refine z_neI ?_ | with_reducible refine z_i0 ?_ | with_reducible refine z_radd ?_ | with_reducible refine z_rsub ?_ | with_reducible refine z_iu ?_
  | with_reducible refine z_fld ?_ | with_reducible refine z_meth ?_ | with_reducible refine z_sfld ?_ | with_reducible refine z_flda ?_ | with_reducible refine z_make ?_ | with_reducible refine z_drop ?_ | with_reducible refine z_retn ?_ | with_reducible refine z_cont ?_
  | with_reducible refine z_tup ?_ | with_reducible refine z_lst ?_ | with_reducible refine z_slice ?_ | with_reducible refine z_nopart ?_ | with_reducible refine z_part ?_ | with_reducible refine z_intr ?_ | with_reducible refine z_m1 ?_ | with_reducible refine z_lc ?_ | with_reducible refine z_yes ?_ | with_reducible refine z_il ?_ | with_reducible refine z_it ?_ | with_reducible refine z_bm ?_ | with_reducible refine z_for ?_ | with_reducible refine z_gcons ?_ | with_reducible refine z_gnil ?_ | with_reducible refine z_es ?_ | with_reducible refine z_sub ?_ | with_reducible refine z_ri ?_ | with_reducible refine z_i0 ?_ | with_reducible refine z_bm0 ?_ | with_reducible refine z_revL ?_ | with_reducible refine z_rng ?_ | with_reducible refine z_enL ?_))
local macro_rules | `(tactic| walk_at "rd") => `(tactic| repeat (walk_at "rd1"))
local macro_rules | `(tactic| walk_at "no") => `(tactic| repeat (first | (walk_at "rd1") | refine ifF (bSf (by decide +kernel)) ?_ | refine ifF (bSf num_ne) ?_))
local macro_rules | `(tactic| walk_at "ln") => `(tactic| (rintro vs H Q E h; repeat (first | (obtain ⟨e, _⟩ := h; subst e; rfl) | (obtain ⟨_, h⟩ := h))))
section
variable {P : Program} {w : World} {K : PySem.W.Frag} {mg : Str → Option Value} {base : Heap}
def spPower (K : PySem.W.Frag) : Sp := fun vs H Q _ => ∃ (v : V) (t : T), vs = [v] ∧ Dp K H v (tdat t) ∧ t.wf ∧ ∀ H', Same H H' → Q (.int (power t : Nat)) H'
theorem sc_z_power : FnScope ["_law_term_here"] ["_law_term_here"] (defScope s_z_power) := ⟨rfl, rfl, rfl, by decide +kernel, rfl, by decide +kernel, by decide +kernel⟩
theorem ok_z_power (T : Tx K mg) : Cal P w K mg base CX0 1 "_law_power" ["_law_term_here"] [] (spPower K) := by
  obtain ⟨fd, F⟩ := T.f_z_power
  refine cal_def F T.g_z_power sc_z_power (fun _ _ _ _ _ _ us hl => match us, hl with | [_], _ => rfl) (by walk_at "ln") (fun cdv A outer s H vs Q E hr h => ?_)
  obtain ⟨v, t, rfl, hv, hw, k⟩ := h
  refine ⟨_, (pss_cons (ps_if (pt_cmpR op_eq (pe_ix ix_tup (pv 0) pe_int (fun _ _ => rfl)) pe_str (nomark _)) (pss_one (ps_ret (pe_dget2 (hu1 hr) (pe_disp (pps_cons pe_str pe_int (pps_cons pe_str pe_int (pps_cons pe_str pe_int (pps_cons pe_str pe_int (pps_cons pe_str pe_int pps_nil))))) rfl rfl (fun z => nomatch z) (by decide)) (pe_ix ix_tup (pv 0) pe_int (fun _ _ => rfl)) pe_int ⟨rfl, rfl, rfl, rfl⟩))) pss_nil)
    (pss_one (ps_ret (pe_dget2 (hu1 hr) (pe_disp (pps_cons pe_str pe_int (pps_cons pe_str pe_int (pps_cons pe_str pe_int (pps_cons pe_str pe_int pps_nil)))) rfl rfl (fun z => nomatch z) (by decide)) (pe_ix ix_tup (pv 0) pe_int (fun _ _ => rfl)) pe_int ⟨rfl, rfl, rfl, rfl⟩)))), ?_⟩
  obtain ⟨r, et⟩ := t_hd t
  have hv' := hv
  rw [et] at hv'
  obtain ⟨a, xs, rfl, h1, h2⟩ := dp_tup hv'
  obtain ⟨v0, vr, rfl, d0, d1⟩ := dpa_cons h2
  have e0 := dp_str d0
  subst e0
  walk_at "rd"
  refine z_ixT h1 (v := .str (tnm t)) (atI_nat (j := 0) rfl) ?_
  walk_at "rd"
  refine ifS (fun e => ?_) (fun e => ?_)
  · obtain ⟨g, ta, tb, rfl⟩ : ∃ g ta tb, t = .two g ta tb := by
      cases t <;> first | exact ⟨_, _, _, rfl⟩ | (exact absurd e (by simp only [tnm]; decide +kernel))
    cases et
    obtain ⟨v1, vr, rfl, d2, _⟩ := dpa_cons d1
    have e1 := dp_str d2
    subst e1
    walk_at "rd"
    unfold tDGet2
    refine fun p hp => ⟨upd_same, kvA, rfl, by decide, ?_⟩
    rw [kvA_m]
    have s1 : Same H (upd (upd H p (.dK [])) p (.dK kvA)) := fun b o e => by
      rw [upd_ne (ne_of_none e hp), upd_ne (ne_of_none e hp)]
      exact e
    refine ⟨p, rfl, .inl ⟨_, .inl upd_same⟩, ?_⟩
    walk_at "rd"
    refine z_ixT (Same.seqT s1 h1) (v := .str g) (atI_nat (j := 1) rfl) ?_
    walk_at "rd"
    refine ⟨_, .inl ⟨kvA, .inr g, .inl upd_same, rfl, rfl⟩, ?_⟩
    rw [kvA_at]
    exact k _ s1
  walk_at "rd"
  unfold tDGet2
  refine fun p hp => ⟨upd_same, kvB, rfl, by decide, ?_⟩
  rw [kvB_m]
  have s1 : Same H (upd (upd H p (.dK [])) p (.dK kvB)) := fun b o e => by
    rw [upd_ne (ne_of_none e hp), upd_ne (ne_of_none e hp)]
    exact e
  refine ⟨p, rfl, .inl ⟨_, .inl upd_same⟩, ?_⟩
  walk_at "rd"
  refine z_ixT (Same.seqT s1 h1) (v := .str (tnm t)) (atI_nat (j := 0) rfl) ?_
  walk_at "rd"
  refine ⟨_, .inl ⟨kvB, .inr (tnm t), .inl upd_same, rfl, rfl⟩, ?_⟩
  rw [kvB_at t e]
  exact k _ s1
end
end EH

set_option Elab.async false
set_option maxRecDepth 100000
set_option maxHeartbeats 4000000
set_option linter.unusedVariables false

/-! The law's own words: a term's text, walked. Printed by mkl9.py. -/
namespace EH
open PySem PySem.Spec PyProof.Rows L2 TL
local macro_rules | `(tactic| walk_at "ar") => `(tactic| repeat (first | walk_at "rd1" | refine z_ic (C := CDiv) ⟨by decide, by decide⟩ ?_ | refine z_ic (C := CMul) (.inr ⟨by decide, by decide⟩) ?_ | refine z_ic (C := CMul) (.inl ⟨by decide, by decide⟩) ?_ | (refine z_ic (C := fun _ j => 0 < j) (by decide) ?_)))
local macro_rules | `(tactic| walk_at "rd1") => `(tactic| (first
  | with_reducible refine z_seq ?_ | with_reducible refine z_ifs ?_ | with_reducible refine z_next ?_ | with_reducible refine z_ret ?_ | with_reducible refine z_asg ?_ | with_reducible refine z_gname ?_
  | ((with_reducible apply z_var); exact rfl) | with_reducible refine z_c ?_ | with_reducible refine z_op ?_ | with_reducible refine z_bl ?_ | with_reducible refine z_test ?_ | with_reducible refine z_B ?_
  | with_reducible refine z_nil ?_ | with_reducible refine z_cons ?_ | with_reducible refine z_cb ?_ | with_reducible refine z_call ?_ | with_reducible refine iteT ?_ | with_reducible refine iteF ?_
  | with_reducible refine z_or ?_ | with_reducible refine z_and ?_ | with_reducible refine z_not ?_ | with_reducible refine z_orv ?_ | with_reducible refine z_andv ?_ | with_reducible refine z_notv ?_ | with_reducible refine z_un ?_
  | with_reducible refine z_eqS ?_ | with_reducible refine z_neS ?_ | with_reducible refine z_eqI ?_ | with_reducible refine z_neI ?_ | with_reducible refine z_i0 ?_ | with_reducible refine z_radd ?_ | with_reducible refine z_rsub ?_ | with_reducible refine z_iu ?_
  | with_reducible refine z_fld ?_ | with_reducible refine z_meth ?_ | with_reducible refine z_sfld ?_ | with_reducible refine z_flda ?_ | with_reducible refine z_make ?_ | with_reducible refine z_drop ?_ | with_reducible refine z_retn ?_ | with_reducible refine z_cont ?_
  | with_reducible refine z_tup ?_ | with_reducible refine z_lst ?_ | with_reducible refine z_slice ?_ | with_reducible refine z_nopart ?_ | with_reducible refine z_part ?_ | with_reducible refine z_intr ?_ | with_reducible refine z_m1 ?_ | with_reducible refine z_lc ?_ | with_reducible refine z_yes ?_ | with_reducible refine z_il ?_ | with_reducible refine z_it ?_ | with_reducible refine z_bm ?_ | with_reducible refine z_for ?_ | with_reducible refine z_gcons ?_ | with_reducible refine z_gnil ?_ | with_reducible refine z_es ?_ | with_reducible refine z_sub ?_ | with_reducible refine z_ri ?_ | with_reducible refine z_i0 ?_ | with_reducible refine z_bm0 ?_ | with_reducible refine z_revL ?_ | with_reducible refine z_rng ?_ | with_reducible refine z_enL ?_))
local macro_rules | `(tactic| walk_at "rd") => `(tactic| repeat (walk_at "rd1"))
local macro_rules | `(tactic| walk_at "no") => `(tactic| repeat (first | (walk_at "rd1") | refine ifF (bSf (by decide +kernel)) ?_ | refine ifF (bSf num_ne) ?_))
local macro_rules | `(tactic| walk_at "ln") => `(tactic| (rintro vs H Q E h; repeat (first | (obtain ⟨e, _⟩ := h; subst e; rfl) | (obtain ⟨_, h⟩ := h))))
section
variable {P : Program} {w : World} {K : PySem.W.Frag} {mg : Str → Option Value} {base : Heap}
def rowS (ts : List T) : Str := (("(" : Str) ++ Str.join (", " : Str) (shL ts)) ++ (")" : Str)
def spInner (K : PySem.W.Frag) (n : Nat) : Sp := fun vs H Q _ => ∃ (v : V) (i : Int) (t : T), vs = [v, .int i] ∧ i = (power t : Nat) ∧ Dp K H v (tdat t) ∧ t.wf ∧ t.depth ≤ n ∧ t.size ≤ 1000 ∧ ∀ H', Same H H' → Q (.str (sh t)) H'
def spBare (K : PySem.W.Frag) (n : Nat) : Sp := fun vs H Q _ => ∃ (v : V) (i : Int) (lb : Nat) (t : T), vs = [v, .int i] ∧ i = (lb : Int) ∧ Dp K H v (tdat t) ∧ t.wf ∧ t.depth ≤ n ∧ t.size ≤ 1000 ∧ ∀ H', Same H H' → Q (.str (wrS (power t) lb (sh t))) H'
def spRow (K : PySem.W.Frag) (n : Nat) : Sp := fun vs H Q _ => ∃ (v : V) (ts : List T), vs = [v] ∧ Dp K H v (.tuple (tdatL ts)) ∧ wfL ts ∧ depthL ts ≤ n ∧ sizeL ts ≤ 1000 ∧ ∀ H', Same H H' → Q (.str ((("(" : Str) ++ Str.join (", " : Str) (shL ts)) ++ (")" : Str))) H'
def BrOk (P : Program) (w : World) (K : PySem.W.Frag) (mg : Str → Option Value) (base : Heap) (n : Nat) : Prop := Cal P w K mg base CX0 (3 * n + 3) "_law_bare" ["_law_term_here", "_law_least"] [] (spBare K n)
def RwOk (P : Program) (w : World) (K : PySem.W.Frag) (mg : Str → Option Value) (base : Heap) (n : Nat) : Prop := Cal P w K mg base CX0 (3 * n + 4) "_law_row" ["_law_terms"] [] (spRow K n)
theorem log_small {n : Nat} (h : n < 1000000000) : ((n : Int)).natAbs.log2 < 1920 := by
  show n.log2 < 1920
  by_cases h0 : n = 0
  · subst h0; decide
  · refine (Nat.log2_lt h0).mpr (Nat.lt_of_lt_of_le h ?_)
    calc 1000000000 ≤ 2 ^ 30 := by decide
      _ ≤ 2 ^ 1920 := Nat.pow_le_pow_right (by decide) (by decide)
theorem shL_at : ∀ {ts : List EH.T} {i : Nat} {t : EH.T}, ts[i]? = some t → (shL ts).take i ++ [wrS (power t) 1 (sh t)] = (shL ts).take (i + 1)
  | u :: ts, 0, t, e => by
    have e' : u = t := Option.some.inj (show some u = some t from e)
    subst e'
    rfl
  | u :: ts, i + 1, t, e => congrArg (wrS (power u) 1 (sh u) :: ·) (shL_at (ts := ts) (i := i) e)
theorem shL_length : ∀ ts : List EH.T, (shL ts).length = ts.length
  | [] => rfl
  | t :: ts => congrArg (· + 1) (shL_length ts)
theorem row_len40 {ts : List EH.T} (h : wfL ts) : ((shL ts).map (·.length)).sum + (shL ts).length * (", " : Str).length ≤ 40 * sizeL ts ∧ (rowS ts).length ≤ 40 * sizeL ts + 2 := by
  have hs : ∀ t ∈ ts, (sh t).length + 4 ≤ 40 * t.size := fun t ht => sh_len t (wfL_of h t ht)
  have h1 := shL_len ts hs
  refine ⟨?_, shR_len ts hs⟩
  have a3 : (", " : Str).length = 2 := by decide +kernel
  rw [a3]
  exact h1
theorem tdatL_get : ∀ {ts : List EH.T} {i : Nat} {d : PyData}, (tdatL ts)[i]? = some d → ∃ t, ts[i]? = some t ∧ d = tdat t
  | [], i, d, e => by simp [tdatL] at e
  | t :: ts, 0, d, e => ⟨t, rfl, (Option.some.inj (show some (tdat t) = some d from e)).symm⟩
  | t :: ts, i + 1, d, e => tdatL_get (ts := ts) (i := i) e
theorem two_l (g : Str) : ((pw g : Nat) : Int) + (if (decide (((pw g : Nat) : Int) < 3)) = true then 1 else 0) = ((pw g + if pw g < 3 then 1 else 0 : Nat) : Int) := by
  by_cases h : pw g < 3
  · rw [if_pos h, if_pos (decide_eq_true (by omega))]; omega
  · rw [if_neg h, if_neg (by simp; omega)]; omega
theorem two_r (g : Str) : ((pw g : Nat) : Int) + (if (decide ((1 : Int) < ((pw g : Nat) : Int))) = true then 1 else 0) = ((pw g + if pw g > 1 then 1 else 0 : Nat) : Int) := by
  by_cases h : pw g > 1
  · rw [if_pos h, if_pos (decide_eq_true (by omega))]; omega
  · rw [if_neg h, if_neg (by simp; omega)]; omega
theorem sc_z_row : FnScope ["_law_terms", "_law_term_here"] ["_law_terms"] (defScope s_z_row) := ⟨rfl, rfl, rfl, by decide +kernel, rfl, by decide +kernel, by decide +kernel⟩
theorem ok_z_row (T : Tx K mg) {n : Nat} (IB : BrOk P w K mg base n) : Cal P w K mg base CX0 (3*n+4) "_law_row" ["_law_terms"] [] (spRow K n) := by
  obtain ⟨fd, F⟩ := T.f_z_row
  refine cal_def F T.g_z_row sc_z_row (fun _ _ _ _ _ _ us hl => match us, hl with | [_], _ => rfl) (by walk_at "ln") (fun cdv A outer s H vs Q E hr h => ?_)
  obtain ⟨v, ts, rfl, hv, hw, hd, hz, k⟩ := h
  refine ⟨_, (pss_one (ps_ret (pe_op op_add_str (pe_op op_add_str pe_str (pe_join pe_str (pe_lc (own := [("_law_term_here", 1)]) (g := gName 1) (by rfl) sc_z_row.nd (pi_tup (pv 0)) (blkOk_by (own := [("_law_term_here", 1)]) (N := ["_law_terms", "_law_term_here"]) (sc := defScope s_z_row) (by decide +kernel)) (fun _ _ _ _ _ => pg_name (i := 1) sc_z_row.nd rfl (Or.inl rfl)) (fun _ _ _ _ _ => pts_nil) (fun _ _ _ _ _ => (pe_cal IB (hr.mono (by omega)) pass0 (pa_cons (pv 1) (pa_cons pe_int pa_nil))))))) pe_str))), ?_⟩
  obtain ⟨a, xs, rfl, h1, h2⟩ := dp_tup hv
  have hlx := DpAll.len h2
  rw [tdatL_len] at hlx
  have h20 := len_sizeL ts
  obtain ⟨L1, L2⟩ := row_len40 hw
  unfold rowS at L2
  simp only [ln_app] at L2
  walk_at "ar"
  refine ⟨⟨_, rfl⟩, ?_⟩
  walk_at "ar"
  refine z_itr h1 ?_
  refine z_lcr (walk_tup (K := K) (a := a) (xs := xs)) (fun i acc _ => acc = ((shL ts).take i).map V.str) (fun H2 hS => Same.seqT hS h1) (fun _ _ => rfl) ?_ ?_
  · rintro D i acc y H2 H3 hD1 hi hS hal hacc hR ⟨rfl, hy⟩
    obtain ⟨d, hd1, hd2⟩ := DpAll.at h2 hy
    obtain ⟨t, ht, rfl⟩ := tdatL_get hd1
    walk_at "rd"
    refine ⟨rfl, ?_⟩
    walk_at "ar"
    refine ⟨_, _, 1, t, rfl, rfl, Dp.mono hS hd2, wfL_of hw t (List.mem_of_getElem? ht), depthL_at hd ht, sizeL_at hz ht, fun H4 s4 => ?_⟩
    refine lc_end hD1 hS hacc hal (by omega) s4 fun H5 _ _ _ => ?_
    rw [hR, ← shL_at ht, List.map_append]
    rfl
  · intro D acc H2 hD1 hS hacc hR
    rw [hlx, ← shL_length, List.take_length] at hR
    subst hR
    refine ⟨_, D, shL ts, rfl, rfl, .inl (SqL.of hacc), by omega, ?_⟩
    rw [join_eq]
    refine ⟨_, _, rfl, rfl, len_sz (by omega), ?_⟩
    walk_at "ar"
    refine ⟨_, _, rfl, rfl, len_sz (by (try simp only [ln_app]); omega), ?_⟩
    exact k H2 hS
theorem sc_z_inner : FnScope ["_law_term_here", "_law_power_here", "_law_kind", "_law_left", "_law_thing", "_law_one"] ["_law_term_here", "_law_power_here"] (defScope s_z_inner) := ⟨rfl, rfl, rfl, by decide +kernel, rfl, by decide +kernel, by decide +kernel⟩
theorem ok_z_inner (T : Tx K mg) {n : Nat} (IB : ∀ m, m < n → BrOk P w K mg base m) : Cal P w K mg base CX0 (3*n+2) "_law_inner" ["_law_term_here", "_law_power_here"] [] (spInner K n) := by
  obtain ⟨fd, F⟩ := T.f_z_inner
  refine cal_def F T.g_z_inner sc_z_inner (fun _ _ _ _ _ _ us hl => match us, hl with | [_, _], _ => rfl) (by walk_at "ln") (fun cdv A outer s H vs Q E hr h => ?_)
  obtain ⟨v, i, t, rfl, hi, hv, hw, hd, hz, k⟩ := h
  have hn : n - 1 < n := by have := depth_pos t; omega
  generalize hm0 : n - 1 = m at hn
  have hm := hn
  have hdm : t.depth ≤ m + 1 := by omega
  refine ⟨_, (pss_cons (ps_set (i := 2) sc_z_inner.nd rfl (Or.inl rfl) (pe_ix ix_tup (pv 0) pe_int (fun _ _ => rfl)))
    (pss_cons (ps_if (pt_cmpR op_eq (pv 2) pe_str (nomark _)) (pss_one (ps_ret (pe_ix ix_list (pe_lst (pa_cons pe_str (pa_cons pe_str pa_nil))) (pe_callTy call_int1 (by rfl) T.b_int (by decide +kernel) (pa_cons (pe_ix ix_tup (pv 0) pe_int (fun _ _ => rfl)) pa_nil)) (fun _ _ => rfl)))) pss_nil)
    (pss_cons (ps_if (pt_cmpR op_in_seq (pv 2) (pe_tup (pa_cons pe_str (pa_cons pe_str (pa_cons pe_str pa_nil)))) (by rfl)) (pss_one (ps_ret (pe_callTy call_str_any (by rfl) T.b_str (by decide +kernel) (pa_cons (pe_ix ix_tup (pv 0) (pe_un un_neg pe_int) (fun _ _ => rfl)) pa_nil)))) pss_nil)
    (pss_cons (ps_if (pt_cmpR op_eq (pv 2) pe_str (nomark _)) (pss_one (ps_ret (pe_op op_add_str (pe_op op_add_str pe_str (pe_ix ix_tup (pv 0) pe_int (fun _ _ => rfl))) (pe_cal (ok_z_row T (IB _ hm)) (hr.mono (by omega)) pass0 (pa_cons (pe_ix ix_tup (pv 0) pe_int (fun _ _ => rfl)) pa_nil))))) pss_nil)
    (pss_cons (ps_if (pt_cmpR op_eq (pv 2) pe_str (nomark _)) (pss_one (ps_ret (pe_op op_add_str (pe_op op_add_str (pe_op op_add_str pe_str (pe_ix ix_tup (pv 0) pe_int (fun _ _ => rfl))) pe_str) (pe_cal (ok_z_row T (IB _ hm)) (hr.mono (by omega)) pass0 (pa_cons (pe_ix ix_tup (pv 0) pe_int (fun _ _ => rfl)) pa_nil))))) pss_nil)
    (pss_cons (ps_if (pt_cmpR op_eq (pv 2) pe_str (nomark _)) (pss_one (ps_ret (pe_op op_add_str (pe_op op_add_str (pe_cal (IB _ hm) (hr.mono (by omega)) pass0 (pa_cons (pe_ix ix_tup (pv 0) pe_int (fun _ _ => rfl)) (pa_cons pe_int pa_nil))) pe_str) (pe_ix ix_tup (pv 0) pe_int (fun _ _ => rfl))))) pss_nil)
    (pss_cons (ps_if (pt_cmpR op_eq (pv 2) pe_str (nomark _)) (pss_one (ps_ret (pe_op op_add_str (pe_op op_add_str (pe_op op_add_str (pe_cal (IB _ hm) (hr.mono (by omega)) pass0 (pa_cons (pe_ix ix_tup (pv 0) pe_int (fun _ _ => rfl)) (pa_cons pe_int pa_nil))) pe_str) (pe_ix ix_tup (pv 0) pe_int (fun _ _ => rfl))) (pe_cal (ok_z_row T (IB _ hm)) (hr.mono (by omega)) pass0 (pa_cons (pe_ix ix_tup (pv 0) pe_int (fun _ _ => rfl)) pa_nil))))) pss_nil)
    (pss_cons (ps_if (pt_cmpR op_eq (pv 2) pe_str (nomark _)) (pss_one (ps_ret (pe_op op_add_str pe_str (pe_cal (IB _ hm) (hr.mono (by omega)) pass0 (pa_cons (pe_ix ix_tup (pv 0) pe_int (fun _ _ => rfl)) (pa_cons pe_int pa_nil)))))) pss_nil)
    (pss_cons (ps_if (pt_cmpR op_eq (pv 2) pe_str (nomark _)) (pss_cons (ps_set (i := 3) sc_z_inner.nd rfl (Or.inl rfl) (pe_cal (IB _ hm) (hr.mono (by omega)) pass0 (pa_cons (pe_ix ix_tup (pv 0) pe_int (fun _ _ => rfl)) (pa_cons (pe_op op_add (pv 1) (pe_callTy call_int1 (by rfl) T.b_int (by decide +kernel) (pa_cons (pe_cmpR op_lt (pv 1) pe_int (nomark _)) pa_nil))) pa_nil))))
    (pss_one (ps_ret (pe_op op_add_str (pe_op op_add_str (pe_op op_add_str (pe_op op_add_str (pv 3) pe_str) (pe_ix ix_tup (pv 0) pe_int (fun _ _ => rfl))) pe_str) (pe_cal (IB _ hm) (hr.mono (by omega)) pass0 (pa_cons (pe_ix ix_tup (pv 0) pe_int (fun _ _ => rfl)) (pa_cons (pe_op op_add (pv 1) (pe_callTy call_int1 (by rfl) T.b_int (by decide +kernel) (pa_cons (pe_cmpR op_gt (pv 1) pe_int (nomark _)) pa_nil))) pa_nil))))))) pss_nil)
    (pss_cons (ps_if (pt_cmpR op_eq (pv 2) pe_str (nomark _)) (pss_cons (ps_set (i := 4) sc_z_inner.nd rfl (Or.inl rfl) (pe_op op_add_str (pe_op op_add_str (pe_op op_add_str pe_str (pe_cal (IB _ hm) (hr.mono (by omega)) pass0 (pa_cons (pe_ix ix_tup (pv 0) pe_int (fun _ _ => rfl)) (pa_cons pe_int pa_nil)))) pe_str) (pe_ix ix_tup (pv 0) pe_int (fun _ _ => rfl))))
    (pss_one (ps_ret (pe_op op_add_str (pe_op op_add_str (pv 4) pe_str) (pe_cal (IB _ hm) (hr.mono (by omega)) pass0 (pa_cons (pe_ix ix_tup (pv 0) pe_int (fun _ _ => rfl)) (pa_cons pe_int pa_nil))))))) pss_nil)
    (pss_cons (ps_if (pt_cmpR op_eq (pv 2) pe_str (nomark _)) (pss_cons (ps_set (i := 5) sc_z_inner.nd rfl (Or.inl rfl) (pe_op op_add_str (pe_op op_add_str (pe_op op_add_str pe_str (pe_ix ix_tup (pv 0) pe_int (fun _ _ => rfl))) pe_str) (pe_cal (IB _ hm) (hr.mono (by omega)) pass0 (pa_cons (pe_ix ix_tup (pv 0) pe_int (fun _ _ => rfl)) (pa_cons pe_int pa_nil)))))
    (pss_one (ps_ret (pe_op op_add_str (pe_op op_add_str (pv 5) pe_str) (pe_cal (IB _ hm) (hr.mono (by omega)) pass0 (pa_cons (pe_ix ix_tup (pv 0) pe_int (fun _ _ => rfl)) (pa_cons pe_int pa_nil))))))) pss_nil)
    (pss_cons (ps_set (i := 5) sc_z_inner.nd rfl (Or.inl rfl) (pe_op op_add_str (pe_op op_add_str (pe_op op_add_str pe_str (pe_cal (IB _ hm) (hr.mono (by omega)) pass0 (pa_cons (pe_ix ix_tup (pv 0) pe_int (fun _ _ => rfl)) (pa_cons pe_int pa_nil)))) pe_str) (pe_cal (IB _ hm) (hr.mono (by omega)) pass0 (pa_cons (pe_ix ix_tup (pv 0) pe_int (fun _ _ => rfl)) (pa_cons pe_int pa_nil)))))
    (pss_one (ps_ret (pe_op op_add_str (pe_op op_add_str (pv 5) pe_str) (pe_cal (IB _ hm) (hr.mono (by omega)) pass0 (pa_cons (pe_ix ix_tup (pv 0) pe_int (fun _ _ => rfl)) (pa_cons pe_int pa_nil)))))))))))))))))), ?_⟩
  have T0 := sh_len t hw
  cases t with

  | num n =>
    have hv2 : Dp K H v (.tuple [.str "number", .int n]) := hv
    obtain ⟨a, xs, rfl, h1, h2⟩ := dp_tup hv2
    obtain ⟨v0, r0, rfl, d0, e0⟩ := dpa_cons h2
    have q0 := dp_str d0
    subst q0
    obtain ⟨v1, r1, rfl, d1, e1⟩ := dpa_cons e0
    have en := dpa_nil e1
    subst en
    cases d1
    walk_at "ar"
    refine z_ixT h1 (v := .str "number") (atI_nat (j := 0) rfl) ?_
    walk_at "ar"
    refine ifF (bSf (by decide +kernel)) ?_
    walk_at "ar"
    refine z_tupr (by show 3 ≤ 100000; omega) fun p hp => ?_
    have s1 := Same.new hp (o := .tup [.str "number", .str "name", .str "self"])
    refine r_inT (SqT.of upd_same) (by rfl) (by rfl) ?_
    walk_at "ar"
    refine ifT (by decide +kernel) ?_
    walk_at "ar"
    refine z_ixT (Same.seqT s1 h1) (v := .int n) (atI_last [V.str "number"] _) ?_
    walk_at "ar"
    refine z_strI (log_small hw) ?_
    exact k _ s1
  | tru b =>
    have hv2 : Dp K H v (.tuple [.str "truth", .bool b]) := hv
    obtain ⟨a, xs, rfl, h1, h2⟩ := dp_tup hv2
    obtain ⟨v0, r0, rfl, d0, e0⟩ := dpa_cons h2
    have q0 := dp_str d0
    subst q0
    obtain ⟨v1, r1, rfl, d1, e1⟩ := dpa_cons e0
    have en := dpa_nil e1
    subst en
    cases d1
    walk_at "ar"
    refine z_ixT h1 (v := .str "truth") (atI_nat (j := 0) rfl) ?_
    walk_at "ar"
    refine ifT (bS rfl) ?_
    walk_at "ar"
    refine z_lstr (by show 2 ≤ 100000; omega) fun p hp => ?_
    have s1 := Same.new hp (o := .lst [.str "no", .str "yes"])
    walk_at "ar"
    refine z_ixT (Same.seqT s1 h1) (v := .bl b) (atI_nat (j := 1) rfl) ?_
    walk_at "ar"
    refine .inr ⟨_, rfl, ?_⟩
    cases b with
    | true =>
      refine z_ixL (SqL.of upd_same) (v := .str "yes") (atI_nat (j := 1) rfl) ?_
      exact k _ s1
    | false =>
      refine z_ixL (SqL.of upd_same) (v := .str "no") (atI_nat (j := 0) rfl) ?_
      exact k _ s1
  | nam x =>
    have hv2 : Dp K H v (.tuple [.str "name", .str x]) := hv
    obtain ⟨a, xs, rfl, h1, h2⟩ := dp_tup hv2
    obtain ⟨v0, r0, rfl, d0, e0⟩ := dpa_cons h2
    have q0 := dp_str d0
    subst q0
    obtain ⟨v1, r1, rfl, d1, e1⟩ := dpa_cons e0
    have en := dpa_nil e1
    subst en
    have q1 := dp_str d1
    subst q1
    walk_at "ar"
    refine z_ixT h1 (v := .str "name") (atI_nat (j := 0) rfl) ?_
    walk_at "ar"
    refine ifF (bSf (by decide +kernel)) ?_
    walk_at "ar"
    refine z_tupr (by show 3 ≤ 100000; omega) fun p hp => ?_
    have s1 := Same.new hp (o := .tup [.str "number", .str "name", .str "self"])
    refine r_inT (SqT.of upd_same) (by rfl) (by rfl) ?_
    walk_at "ar"
    refine ifT (by decide +kernel) ?_
    walk_at "ar"
    refine z_ixT (Same.seqT s1 h1) (v := .str x) (atI_last [V.str "name"] _) ?_
    walk_at "ar"
    refine z_strS ?_
    exact k _ s1
  | slf  =>
    have hv2 : Dp K H v (.tuple [.str "self"]) := hv
    obtain ⟨a, xs, rfl, h1, h2⟩ := dp_tup hv2
    obtain ⟨v0, r0, rfl, d0, e0⟩ := dpa_cons h2
    have q0 := dp_str d0
    subst q0
    have en := dpa_nil e0
    subst en
    walk_at "ar"
    refine z_ixT h1 (v := .str "self") (atI_nat (j := 0) rfl) ?_
    walk_at "ar"
    refine ifF (bSf (by decide +kernel)) ?_
    walk_at "ar"
    refine z_tupr (by show 3 ≤ 100000; omega) fun p hp => ?_
    have s1 := Same.new hp (o := .tup [.str "number", .str "name", .str "self"])
    refine r_inT (SqT.of upd_same) (by rfl) (by rfl) ?_
    walk_at "ar"
    refine ifT (by decide +kernel) ?_
    walk_at "ar"
    refine z_ixT (Same.seqT s1 h1) (v := .str "self") (atI_last [] _) ?_
    walk_at "ar"
    refine z_strS ?_
    exact k _ s1
  | new x ts =>
    have hv2 : Dp K H v (.tuple [.str "new", .str x, .tuple (tdatL ts)]) := hv
    obtain ⟨a, xs, rfl, h1, h2⟩ := dp_tup hv2
    obtain ⟨v0, r0, rfl, d0, e0⟩ := dpa_cons h2
    have q0 := dp_str d0
    subst q0
    obtain ⟨v1, r1, rfl, d1, e1⟩ := dpa_cons e0
    obtain ⟨v2, r2, rfl, d2, e2⟩ := dpa_cons e1
    have en := dpa_nil e2
    subst en
    have q1 := dp_str d1
    subst q1
    walk_at "ar"
    refine z_ixT h1 (v := .str "new") (atI_nat (j := 0) rfl) ?_
    walk_at "ar"
    refine ifF (bSf (by decide +kernel)) ?_
    walk_at "ar"
    refine z_tupr (by show 3 ≤ 100000; omega) fun p hp => ?_
    have s1 := Same.new hp (o := .tup [.str "number", .str "name", .str "self"])
    refine r_inT (SqT.of upd_same) (by rfl) (by rfl) ?_
    walk_at "ar"
    refine ifF (by decide +kernel) ?_
    generalize upd H p (.tup [.str "number", .str "name", .str "self"]) = H1 at s1
    walk_at "no"
    refine ifT (bS rfl) ?_
    simp only [sh, EH.T.size, ln_app] at T0 hz
    rw [EH.T.depth] at hdm
    simp only [EH.T.wf] at hw
    walk_at "ar"
    refine z_ixT (Same.seqT s1 h1) (v := .str x) (atI_nat (j := 1) rfl) ?_
    walk_at "ar"
    refine ⟨_, _, rfl, rfl, len_sz (by (try simp only [ln_app]); omega), ?_⟩
    walk_at "ar"
    refine z_ixT (Same.seqT s1 h1) (v := v2) (atI_nat (j := 2) rfl) ?_
    walk_at "ar"
    refine ⟨_, ts, rfl, Dp.mono s1 d2, hw.2.1, by omega, by omega, fun H2 w2 => ?_⟩
    have s2 := s1.trans w2
    walk_at "ar"
    refine ⟨_, _, rfl, rfl, len_sz (by (try simp only [ln_app]); omega), ?_⟩
    exact k _ s2
  | eld x ts =>
    have hv2 : Dp K H v (.tuple [.str "elder", .str x, .tuple (tdatL ts)]) := hv
    obtain ⟨a, xs, rfl, h1, h2⟩ := dp_tup hv2
    obtain ⟨v0, r0, rfl, d0, e0⟩ := dpa_cons h2
    have q0 := dp_str d0
    subst q0
    obtain ⟨v1, r1, rfl, d1, e1⟩ := dpa_cons e0
    obtain ⟨v2, r2, rfl, d2, e2⟩ := dpa_cons e1
    have en := dpa_nil e2
    subst en
    have q1 := dp_str d1
    subst q1
    walk_at "ar"
    refine z_ixT h1 (v := .str "elder") (atI_nat (j := 0) rfl) ?_
    walk_at "ar"
    refine ifF (bSf (by decide +kernel)) ?_
    walk_at "ar"
    refine z_tupr (by show 3 ≤ 100000; omega) fun p hp => ?_
    have s1 := Same.new hp (o := .tup [.str "number", .str "name", .str "self"])
    refine r_inT (SqT.of upd_same) (by rfl) (by rfl) ?_
    walk_at "ar"
    refine ifF (by decide +kernel) ?_
    generalize upd H p (.tup [.str "number", .str "name", .str "self"]) = H1 at s1
    walk_at "no"
    refine ifT (bS rfl) ?_
    simp only [sh, EH.T.size, ln_app] at T0 hz
    rw [EH.T.depth] at hdm
    simp only [EH.T.wf] at hw
    walk_at "ar"
    refine z_ixT (Same.seqT s1 h1) (v := .str x) (atI_nat (j := 1) rfl) ?_
    walk_at "ar"
    refine ⟨_, _, rfl, rfl, len_sz (by (try simp only [ln_app]); omega), ?_⟩
    walk_at "ar"
    refine ⟨_, _, rfl, rfl, len_sz (by (try simp only [ln_app]); omega), ?_⟩
    walk_at "ar"
    refine z_ixT (Same.seqT s1 h1) (v := v2) (atI_nat (j := 2) rfl) ?_
    walk_at "ar"
    refine ⟨_, ts, rfl, Dp.mono s1 d2, hw.2.1, by omega, by omega, fun H2 w2 => ?_⟩
    have s2 := s1.trans w2
    walk_at "ar"
    refine ⟨_, _, rfl, rfl, len_sz (by (try simp only [ln_app]); omega), ?_⟩
    exact k _ s2
  | fld t1 x =>
    have hv2 : Dp K H v (.tuple [.str "field", tdat t1, .str x]) := hv
    obtain ⟨a, xs, rfl, h1, h2⟩ := dp_tup hv2
    obtain ⟨v0, r0, rfl, d0, e0⟩ := dpa_cons h2
    have q0 := dp_str d0
    subst q0
    obtain ⟨v1, r1, rfl, d1, e1⟩ := dpa_cons e0
    obtain ⟨v2, r2, rfl, d2, e2⟩ := dpa_cons e1
    have en := dpa_nil e2
    subst en
    have q2 := dp_str d2
    subst q2
    walk_at "ar"
    refine z_ixT h1 (v := .str "field") (atI_nat (j := 0) rfl) ?_
    walk_at "ar"
    refine ifF (bSf (by decide +kernel)) ?_
    walk_at "ar"
    refine z_tupr (by show 3 ≤ 100000; omega) fun p hp => ?_
    have s1 := Same.new hp (o := .tup [.str "number", .str "name", .str "self"])
    refine r_inT (SqT.of upd_same) (by rfl) (by rfl) ?_
    walk_at "ar"
    refine ifF (by decide +kernel) ?_
    generalize upd H p (.tup [.str "number", .str "name", .str "self"]) = H1 at s1
    walk_at "no"
    refine ifT (bS rfl) ?_
    simp only [sh, EH.T.size, ln_app] at T0 hz
    rw [EH.T.depth] at hdm
    simp only [EH.T.wf] at hw
    walk_at "ar"
    refine z_ixT (Same.seqT s1 h1) (v := v1) (atI_nat (j := 1) rfl) ?_
    walk_at "ar"
    refine ⟨_, _, 6, t1, rfl, rfl, Dp.mono s1 d1, hw.1, by omega, by omega, fun H2 w2 => ?_⟩
    have s2 := s1.trans w2
    walk_at "ar"
    refine ⟨_, _, rfl, rfl, len_sz (by (try simp only [ln_app]); omega), ?_⟩
    walk_at "ar"
    refine z_ixT (Same.seqT s2 h1) (v := .str x) (atI_nat (j := 2) rfl) ?_
    walk_at "ar"
    refine ⟨_, _, rfl, rfl, len_sz (by (try simp only [ln_app]); omega), ?_⟩
    exact k _ s2
  | cal t1 x ts =>
    have hv2 : Dp K H v (.tuple [.str "call", tdat t1, .str x, .tuple (tdatL ts)]) := hv
    obtain ⟨a, xs, rfl, h1, h2⟩ := dp_tup hv2
    obtain ⟨v0, r0, rfl, d0, e0⟩ := dpa_cons h2
    have q0 := dp_str d0
    subst q0
    obtain ⟨v1, r1, rfl, d1, e1⟩ := dpa_cons e0
    obtain ⟨v2, r2, rfl, d2, e2⟩ := dpa_cons e1
    obtain ⟨v3, r3, rfl, d3, e3⟩ := dpa_cons e2
    have en := dpa_nil e3
    subst en
    have q2 := dp_str d2
    subst q2
    walk_at "ar"
    refine z_ixT h1 (v := .str "call") (atI_nat (j := 0) rfl) ?_
    walk_at "ar"
    refine ifF (bSf (by decide +kernel)) ?_
    walk_at "ar"
    refine z_tupr (by show 3 ≤ 100000; omega) fun p hp => ?_
    have s1 := Same.new hp (o := .tup [.str "number", .str "name", .str "self"])
    refine r_inT (SqT.of upd_same) (by rfl) (by rfl) ?_
    walk_at "ar"
    refine ifF (by decide +kernel) ?_
    generalize upd H p (.tup [.str "number", .str "name", .str "self"]) = H1 at s1
    walk_at "no"
    refine ifT (bS rfl) ?_
    simp only [sh, EH.T.size, ln_app] at T0 hz
    rw [EH.T.depth] at hdm
    simp only [EH.T.wf] at hw
    walk_at "ar"
    refine z_ixT (Same.seqT s1 h1) (v := v1) (atI_nat (j := 1) rfl) ?_
    walk_at "ar"
    refine ⟨_, _, 6, t1, rfl, rfl, Dp.mono s1 d1, hw.1, by omega, by omega, fun H2 w2 => ?_⟩
    have s2 := s1.trans w2
    walk_at "ar"
    refine ⟨_, _, rfl, rfl, len_sz (by (try simp only [ln_app]); omega), ?_⟩
    walk_at "ar"
    refine z_ixT (Same.seqT s2 h1) (v := .str x) (atI_nat (j := 2) rfl) ?_
    walk_at "ar"
    refine ⟨_, _, rfl, rfl, len_sz (by (try simp only [ln_app]); omega), ?_⟩
    walk_at "ar"
    refine z_ixT (Same.seqT s2 h1) (v := v3) (atI_nat (j := 3) rfl) ?_
    walk_at "ar"
    refine ⟨_, ts, rfl, Dp.mono s2 d3, hw.2.2.1, by omega, by omega, fun H3 w3 => ?_⟩
    have s3 := s2.trans w3
    walk_at "ar"
    refine ⟨_, _, rfl, rfl, len_sz (by (try simp only [ln_app]); omega), ?_⟩
    exact k _ s3
  | nt t1 =>
    have hv2 : Dp K H v (.tuple [.str "not", tdat t1]) := hv
    obtain ⟨a, xs, rfl, h1, h2⟩ := dp_tup hv2
    obtain ⟨v0, r0, rfl, d0, e0⟩ := dpa_cons h2
    have q0 := dp_str d0
    subst q0
    obtain ⟨v1, r1, rfl, d1, e1⟩ := dpa_cons e0
    have en := dpa_nil e1
    subst en
    walk_at "ar"
    refine z_ixT h1 (v := .str "not") (atI_nat (j := 0) rfl) ?_
    walk_at "ar"
    refine ifF (bSf (by decide +kernel)) ?_
    walk_at "ar"
    refine z_tupr (by show 3 ≤ 100000; omega) fun p hp => ?_
    have s1 := Same.new hp (o := .tup [.str "number", .str "name", .str "self"])
    refine r_inT (SqT.of upd_same) (by rfl) (by rfl) ?_
    walk_at "ar"
    refine ifF (by decide +kernel) ?_
    generalize upd H p (.tup [.str "number", .str "name", .str "self"]) = H1 at s1
    walk_at "no"
    refine ifT (bS rfl) ?_
    simp only [sh, EH.T.size, ln_app] at T0 hz
    rw [EH.T.depth] at hdm
    simp only [EH.T.wf] at hw
    walk_at "ar"
    refine z_ixT (Same.seqT s1 h1) (v := v1) (atI_nat (j := 1) rfl) ?_
    walk_at "ar"
    refine ⟨_, _, 5, t1, rfl, rfl, Dp.mono s1 d1, hw, by omega, by omega, fun H2 w2 => ?_⟩
    have s2 := s1.trans w2
    walk_at "ar"
    refine ⟨_, _, rfl, rfl, len_sz (by (try simp only [ln_app]); omega), ?_⟩
    exact k _ s2
  | two g t1 t2 =>
    have hv2 : Dp K H v (.tuple [.str "two", .str g, tdat t1, tdat t2]) := hv
    obtain ⟨a, xs, rfl, h1, h2⟩ := dp_tup hv2
    obtain ⟨v0, r0, rfl, d0, e0⟩ := dpa_cons h2
    have q0 := dp_str d0
    subst q0
    obtain ⟨v1, r1, rfl, d1, e1⟩ := dpa_cons e0
    obtain ⟨v2, r2, rfl, d2, e2⟩ := dpa_cons e1
    obtain ⟨v3, r3, rfl, d3, e3⟩ := dpa_cons e2
    have en := dpa_nil e3
    subst en
    have q1 := dp_str d1
    subst q1
    walk_at "ar"
    refine z_ixT h1 (v := .str "two") (atI_nat (j := 0) rfl) ?_
    walk_at "ar"
    refine ifF (bSf (by decide +kernel)) ?_
    walk_at "ar"
    refine z_tupr (by show 3 ≤ 100000; omega) fun p hp => ?_
    have s1 := Same.new hp (o := .tup [.str "number", .str "name", .str "self"])
    refine r_inT (SqT.of upd_same) (by rfl) (by rfl) ?_
    walk_at "ar"
    refine ifF (by decide +kernel) ?_
    generalize upd H p (.tup [.str "number", .str "name", .str "self"]) = H1 at s1
    walk_at "no"
    refine ifT (bS rfl) ?_
    simp only [sh, EH.T.size, ln_app] at T0 hz
    rw [EH.T.depth] at hdm
    simp only [EH.T.wf] at hw
    walk_at "ar"
    refine z_ixT (Same.seqT s1 h1) (v := v2) (atI_nat (j := 2) rfl) ?_
    walk_at "ar"
    refine .inr ⟨_, rfl, ?_⟩
    walk_at "ar"
    refine ⟨_, _, (pw g + if pw g < 3 then 1 else 0), t1, rfl, (by rw [hi]; exact two_l g), Dp.mono s1 d2, hw.2.1, by omega, by omega, fun H2 w2 => ?_⟩
    have s2 := s1.trans w2
    walk_at "ar"
    refine ⟨_, _, rfl, rfl, len_sz (by (try simp only [ln_app]); omega), ?_⟩
    walk_at "ar"
    refine z_ixT (Same.seqT s2 h1) (v := .str g) (atI_nat (j := 1) rfl) ?_
    walk_at "ar"
    refine ⟨_, _, rfl, rfl, len_sz (by (try simp only [ln_app]); omega), ?_⟩
    walk_at "ar"
    refine ⟨_, _, rfl, rfl, len_sz (by (try simp only [ln_app]); omega), ?_⟩
    walk_at "ar"
    refine z_ixT (Same.seqT s2 h1) (v := v3) (atI_nat (j := 3) rfl) ?_
    walk_at "ar"
    refine .inr ⟨_, rfl, ?_⟩
    walk_at "ar"
    refine ⟨_, _, (pw g + if pw g > 1 then 1 else 0), t2, rfl, (by rw [hi]; exact two_r g), Dp.mono s2 d3, hw.2.2, by omega, by omega, fun H3 w3 => ?_⟩
    have s3 := s2.trans w3
    walk_at "ar"
    refine ⟨_, _, rfl, rfl, len_sz (by (try simp only [ln_app]); omega), ?_⟩
    exact k _ s3
  | ite t1 t2 t3 =>
    have hv2 : Dp K H v (.tuple [.str "if", tdat t1, tdat t2, tdat t3]) := hv
    obtain ⟨a, xs, rfl, h1, h2⟩ := dp_tup hv2
    obtain ⟨v0, r0, rfl, d0, e0⟩ := dpa_cons h2
    have q0 := dp_str d0
    subst q0
    obtain ⟨v1, r1, rfl, d1, e1⟩ := dpa_cons e0
    obtain ⟨v2, r2, rfl, d2, e2⟩ := dpa_cons e1
    obtain ⟨v3, r3, rfl, d3, e3⟩ := dpa_cons e2
    have en := dpa_nil e3
    subst en
    walk_at "ar"
    refine z_ixT h1 (v := .str "if") (atI_nat (j := 0) rfl) ?_
    walk_at "ar"
    refine ifF (bSf (by decide +kernel)) ?_
    walk_at "ar"
    refine z_tupr (by show 3 ≤ 100000; omega) fun p hp => ?_
    have s1 := Same.new hp (o := .tup [.str "number", .str "name", .str "self"])
    refine r_inT (SqT.of upd_same) (by rfl) (by rfl) ?_
    walk_at "ar"
    refine ifF (by decide +kernel) ?_
    generalize upd H p (.tup [.str "number", .str "name", .str "self"]) = H1 at s1
    walk_at "no"
    simp only [sh, EH.T.size, ln_app] at T0 hz
    rw [EH.T.depth] at hdm
    simp only [EH.T.wf] at hw
    walk_at "ar"
    refine z_ixT (Same.seqT s1 h1) (v := v1) (atI_nat (j := 1) rfl) ?_
    walk_at "ar"
    refine ⟨_, _, 1, t1, rfl, rfl, Dp.mono s1 d1, hw.1, by omega, by omega, fun H2 w2 => ?_⟩
    have s2 := s1.trans w2
    walk_at "ar"
    refine ⟨_, _, rfl, rfl, len_sz (by (try simp only [ln_app]); omega), ?_⟩
    walk_at "ar"
    refine ⟨_, _, rfl, rfl, len_sz (by (try simp only [ln_app]); omega), ?_⟩
    walk_at "ar"
    refine z_ixT (Same.seqT s2 h1) (v := v2) (atI_nat (j := 2) rfl) ?_
    walk_at "ar"
    refine ⟨_, _, 1, t2, rfl, rfl, Dp.mono s2 d2, hw.2.1, by omega, by omega, fun H3 w3 => ?_⟩
    have s3 := s2.trans w3
    walk_at "ar"
    refine ⟨_, _, rfl, rfl, len_sz (by (try simp only [ln_app]); omega), ?_⟩
    walk_at "ar"
    refine ⟨_, _, rfl, rfl, len_sz (by (try simp only [ln_app]); omega), ?_⟩
    walk_at "ar"
    refine z_ixT (Same.seqT s3 h1) (v := v3) (atI_nat (j := 3) rfl) ?_
    walk_at "ar"
    refine ⟨_, _, 2, t3, rfl, rfl, Dp.mono s3 d3, hw.2.2, by omega, by omega, fun H4 w4 => ?_⟩
    have s4 := s3.trans w4
    walk_at "ar"
    refine ⟨_, _, rfl, rfl, len_sz (by (try simp only [ln_app]); omega), ?_⟩
    exact k _ s4
  | lt x t1 t2 =>
    have hv2 : Dp K H v (.tuple [.str "let", .str x, tdat t1, tdat t2]) := hv
    obtain ⟨a, xs, rfl, h1, h2⟩ := dp_tup hv2
    obtain ⟨v0, r0, rfl, d0, e0⟩ := dpa_cons h2
    have q0 := dp_str d0
    subst q0
    obtain ⟨v1, r1, rfl, d1, e1⟩ := dpa_cons e0
    obtain ⟨v2, r2, rfl, d2, e2⟩ := dpa_cons e1
    obtain ⟨v3, r3, rfl, d3, e3⟩ := dpa_cons e2
    have en := dpa_nil e3
    subst en
    have q1 := dp_str d1
    subst q1
    walk_at "ar"
    refine z_ixT h1 (v := .str "let") (atI_nat (j := 0) rfl) ?_
    walk_at "ar"
    refine ifF (bSf (by decide +kernel)) ?_
    walk_at "ar"
    refine z_tupr (by show 3 ≤ 100000; omega) fun p hp => ?_
    have s1 := Same.new hp (o := .tup [.str "number", .str "name", .str "self"])
    refine r_inT (SqT.of upd_same) (by rfl) (by rfl) ?_
    walk_at "ar"
    refine ifF (by decide +kernel) ?_
    generalize upd H p (.tup [.str "number", .str "name", .str "self"]) = H1 at s1
    walk_at "no"
    refine ifT (bS rfl) ?_
    simp only [sh, EH.T.size, ln_app] at T0 hz
    rw [EH.T.depth] at hdm
    simp only [EH.T.wf] at hw
    walk_at "ar"
    refine z_ixT (Same.seqT s1 h1) (v := .str x) (atI_nat (j := 1) rfl) ?_
    walk_at "ar"
    refine ⟨_, _, rfl, rfl, len_sz (by (try simp only [ln_app]); omega), ?_⟩
    walk_at "ar"
    refine ⟨_, _, rfl, rfl, len_sz (by (try simp only [ln_app]); omega), ?_⟩
    walk_at "ar"
    refine z_ixT (Same.seqT s1 h1) (v := v2) (atI_nat (j := 2) rfl) ?_
    walk_at "ar"
    refine ⟨_, _, 1, t1, rfl, rfl, Dp.mono s1 d2, hw.2.1, by omega, by omega, fun H2 w2 => ?_⟩
    have s2 := s1.trans w2
    walk_at "ar"
    refine ⟨_, _, rfl, rfl, len_sz (by (try simp only [ln_app]); omega), ?_⟩
    walk_at "ar"
    refine ⟨_, _, rfl, rfl, len_sz (by (try simp only [ln_app]); omega), ?_⟩
    walk_at "ar"
    refine z_ixT (Same.seqT s2 h1) (v := v3) (atI_nat (j := 3) rfl) ?_
    walk_at "ar"
    refine ⟨_, _, 1, t2, rfl, rfl, Dp.mono s2 d3, hw.2.2, by omega, by omega, fun H3 w3 => ?_⟩
    have s3 := s2.trans w3
    walk_at "ar"
    refine ⟨_, _, rfl, rfl, len_sz (by (try simp only [ln_app]); omega), ?_⟩
    exact k _ s3
  | st t1 x t2 =>
    have hv2 : Dp K H v (.tuple [.str "set", tdat t1, .str x, tdat t2]) := hv
    obtain ⟨a, xs, rfl, h1, h2⟩ := dp_tup hv2
    obtain ⟨v0, r0, rfl, d0, e0⟩ := dpa_cons h2
    have q0 := dp_str d0
    subst q0
    obtain ⟨v1, r1, rfl, d1, e1⟩ := dpa_cons e0
    obtain ⟨v2, r2, rfl, d2, e2⟩ := dpa_cons e1
    obtain ⟨v3, r3, rfl, d3, e3⟩ := dpa_cons e2
    have en := dpa_nil e3
    subst en
    have q2 := dp_str d2
    subst q2
    walk_at "ar"
    refine z_ixT h1 (v := .str "set") (atI_nat (j := 0) rfl) ?_
    walk_at "ar"
    refine ifF (bSf (by decide +kernel)) ?_
    walk_at "ar"
    refine z_tupr (by show 3 ≤ 100000; omega) fun p hp => ?_
    have s1 := Same.new hp (o := .tup [.str "number", .str "name", .str "self"])
    refine r_inT (SqT.of upd_same) (by rfl) (by rfl) ?_
    walk_at "ar"
    refine ifF (by decide +kernel) ?_
    generalize upd H p (.tup [.str "number", .str "name", .str "self"]) = H1 at s1
    walk_at "no"
    refine ifT (bS rfl) ?_
    simp only [sh, EH.T.size, ln_app] at T0 hz
    rw [EH.T.depth] at hdm
    simp only [EH.T.wf] at hw
    walk_at "ar"
    refine z_ixT (Same.seqT s1 h1) (v := v1) (atI_nat (j := 1) rfl) ?_
    walk_at "ar"
    refine ⟨_, _, 6, t1, rfl, rfl, Dp.mono s1 d1, hw.1, by omega, by omega, fun H2 w2 => ?_⟩
    have s2 := s1.trans w2
    walk_at "ar"
    refine ⟨_, _, rfl, rfl, len_sz (by (try simp only [ln_app]); omega), ?_⟩
    walk_at "ar"
    refine ⟨_, _, rfl, rfl, len_sz (by (try simp only [ln_app]); omega), ?_⟩
    walk_at "ar"
    refine z_ixT (Same.seqT s2 h1) (v := .str x) (atI_nat (j := 2) rfl) ?_
    walk_at "ar"
    refine ⟨_, _, rfl, rfl, len_sz (by (try simp only [ln_app]); omega), ?_⟩
    walk_at "ar"
    refine ⟨_, _, rfl, rfl, len_sz (by (try simp only [ln_app]); omega), ?_⟩
    walk_at "ar"
    refine z_ixT (Same.seqT s2 h1) (v := v3) (atI_nat (j := 3) rfl) ?_
    walk_at "ar"
    refine ⟨_, _, 2, t2, rfl, rfl, Dp.mono s2 d3, hw.2.2, by omega, by omega, fun H3 w3 => ?_⟩
    have s3 := s2.trans w3
    walk_at "ar"
    refine ⟨_, _, rfl, rfl, len_sz (by (try simp only [ln_app]); omega), ?_⟩
    exact k _ s3
theorem sc_z_bare : FnScope ["_law_term_here", "_law_least", "_law_power_here"] ["_law_term_here", "_law_least"] (defScope s_z_bare) := ⟨rfl, rfl, rfl, by decide +kernel, rfl, by decide +kernel, by decide +kernel⟩
theorem ok_z_bare (T : Tx K mg) {n : Nat} (IB : ∀ m, m < n → BrOk P w K mg base m) : Cal P w K mg base CX0 (3*n+3) "_law_bare" ["_law_term_here", "_law_least"] [] (spBare K n) := by
  obtain ⟨fd, F⟩ := T.f_z_bare
  refine cal_def F T.g_z_bare sc_z_bare (fun _ _ _ _ _ _ us hl => match us, hl with | [_, _], _ => rfl) (by walk_at "ln") (fun cdv A outer s H vs Q E hr h => ?_)
  obtain ⟨v, i, lb, t, rfl, hi, hv, hw, hd, hz, k⟩ := h
  refine ⟨_, (pss_cons (ps_set (i := 2) sc_z_bare.nd rfl (Or.inl rfl) (pe_cal (ok_z_power T) (hr.mono (by omega)) pass0 (pa_cons (pv 0) pa_nil)))
    (pss_cons (ps_if (pt_cmpR op_lt (pv 2) (pv 1) (nomark _)) (pss_one (ps_ret (pe_op op_add_str (pe_op op_add_str pe_str (pe_cal (ok_z_inner T IB) (hr.mono (by omega)) pass0 (pa_cons (pv 0) (pa_cons (pv 2) pa_nil)))) pe_str))) pss_nil)
    (pss_one (ps_ret (pe_cal (ok_z_inner T IB) (hr.mono (by omega)) pass0 (pa_cons (pv 0) (pa_cons (pv 2) pa_nil))))))), ?_⟩
  have T0 := sh_len t hw
  have c1 : ("(" : Str).length = 1 := by decide +kernel
  have c2 : (")" : Str).length = 1 := by decide +kernel
  walk_at "ar"
  refine ⟨_, t, rfl, hv, hw, fun H1 s1 => ?_⟩
  walk_at "ar"
  refine ifD (fun e => ?_) (fun e => ?_)
  · walk_at "ar"
    refine ⟨_, _, t, rfl, rfl, Dp.mono s1 hv, hw, hd, hz, fun H2 s2 => ?_⟩
    refine ⟨_, _, rfl, rfl, len_sz (by omega), ?_⟩
    walk_at "ar"
    refine ⟨_, _, rfl, rfl, len_sz (by (try simp only [ln_app]); omega), ?_⟩
    have q := k H2 (s1.trans s2)
    unfold wrS at q
    rw [if_pos (by omega)] at q
    exact q
  · walk_at "ar"
    refine ⟨_, _, t, rfl, rfl, Dp.mono s1 hv, hw, hd, hz, fun H2 s2 => ?_⟩
    have q := k H2 (s1.trans s2)
    unfold wrS at q
    rw [if_neg (by omega)] at q
    exact q
theorem br_ok (T : Tx K mg) : ∀ n, BrOk P w K mg base n := by
  intro n
  induction n using Nat.strongRecOn with
  | ind n ih => exact ok_z_bare T ih
end
end EH

set_option Elab.async false
set_option maxRecDepth 100000
set_option maxHeartbeats 4000000
set_option linter.unusedVariables false

/-! The law's own words: a program's text. -/
namespace EH
open PySem PySem.Spec PyProof.Rows L2 TL
local macro_rules | `(tactic| walk_at "ar") => `(tactic| repeat (first | walk_at "rd1" | refine z_ic (C := CDiv) ⟨by decide, by decide⟩ ?_ | refine z_ic (C := CMul) (.inr ⟨by decide, by decide⟩) ?_ | refine z_ic (C := CMul) (.inl ⟨by decide, by decide⟩) ?_ | (refine z_ic (C := fun _ j => 0 < j) (by decide) ?_)))
/-! ### how long -/
def tot (l : List Str) : Nat := (l.map (·.length)).sum + l.length
theorem tot_app (a b : List Str) : tot (a ++ b) = tot a + tot b := by
  unfold tot
  rw [List.map_append, List.sum_append, List.length_append]
  omega
theorem tot_cons (x : Str) (l : List Str) : tot (x :: l) = x.length + 1 + tot l := by
  unfold tot
  rw [List.map_cons, List.sum_cons, List.length_cons]
  omega
theorem tot_nil : tot [] = 0 := rfl
theorem par_len {q : Str × Str} (h1 : isName q.1 = true) (h2 : kindOk q.2 = true) : (shPar q).length ≤ 17 ∧ (shFld q).length ≤ 21 := by
  have a := name_len h1
  have b := kind_len h2
  have c : (" " : Str).length = 1 := by decide +kernel
  have d : ("has " : Str).length = 4 := by decide +kernel
  unfold shPar shFld
  simp only [ln_app]
  omega
theorem map_sum_le {α : Type} {f : α → Str} {m : Nat} : ∀ {l : List α}, (∀ a ∈ l, (f a).length ≤ m) → ((l.map f).map (·.length)).sum ≤ l.length * m
  | [], _ => Nat.zero_le _
  | a :: l, h => by
    have h1 := h a List.mem_cons_self
    have h2 := map_sum_le (l := l) fun b hb => h b (List.mem_cons_of_mem _ hb)
    rw [List.map_cons, List.map_cons, List.sum_cons, List.length_cons, Nat.add_mul]
    omega
theorem pars_sum {ps : List (Str × Str)} (h : parOk ps) : ((ps.map shPar).map (·.length)).sum + (ps.map shPar).length * (", " : Str).length ≤ 76 ∧ (shPs ps).length ≤ 78 := by
  have h1 := map_sum_le (f := shPar) (m := 17) (l := ps) fun q hq => (par_len (h.2 q hq).1 (h.2 q hq).2).1
  have h4 := h.1
  have a3 : (", " : Str).length = 2 := by decide +kernel
  have c1 : ("(" : Str).length = 1 := by decide +kernel
  have c2 : (")" : Str).length = 1 := by decide +kernel
  have h2 := ln_join (", " : Str) (ps.map shPar)
  rw [a3] at h2 ⊢
  rw [List.length_map] at h2 ⊢
  unfold shPs
  simp only [ln_app]
  have h5 : ps.length * 17 ≤ 68 := Nat.mul_le_mul_right 17 h4
  omega
theorem wd_tot {w : Wd} (h : w.wf) : tot (shWd w) ≤ 40 * w.body.size + 110 := by
  obtain ⟨h1, h2, h3, h4, _⟩ := h
  have a := name_len h1
  have b := (pars_sum h2).2
  have c := kind_len h3
  have d := shB_len h4 1
  have e1 : ("can" : Str).length = 3 := by decide +kernel
  have e2 : ("=" : Str).length = 1 := by decide +kernel
  unfold shWd
  simp only [tot_cons, tot_nil]
  omega
theorem wds_tot : ∀ {ws : List Wd}, (∀ w ∈ ws, w.wf) → tot (ws.flatMap shWd) ≤ 40 * sizeW ws + 110 * ws.length
  | [], _ => Nat.zero_le _
  | w :: ws, h => by
    have h1 := wd_tot (h w List.mem_cons_self)
    have h2 := wds_tot (ws := ws) fun u hu => h u (List.mem_cons_of_mem _ hu)
    rw [List.flatMap_cons, tot_app, sizeW_cons, List.length_cons]
    omega
theorem hs_tot {h : Hs} (hw : h.wf) : tot (shHs h) ≤ 40 * sizeW h.words + 1100 := by
  obtain ⟨h1, h2, h3, h4, h5⟩ := hw
  have a := name_len h1
  have b := wds_tot h5
  have c : tot (shEld h.elder) ≤ 12 := by
    cases e : h.elder with
    | none => exact Nat.zero_le _
    | some y =>
      have := name_len (h2 y e)
      have e1 : ("of" : Str).length = 2 := by decide +kernel
      show tot [("of" : Str), y] ≤ 12
      simp only [tot_cons, tot_nil]
      omega
  have d := map_sum_le (f := shFld) (m := 21) (l := h.fields) fun q hq => (par_len (h3.2 q hq).1 (h3.2 q hq).2).2
  have e1 : ("house" : Str).length = 5 := by decide +kernel
  have e2 : ("{" : Str).length = 1 := by decide +kernel
  have e3 : ("}" : Str).length = 1 := by decide +kernel
  have f := h3.1
  have g : h.fields.length * 21 ≤ 84 := Nat.mul_le_mul_right 21 f
  have d' : tot (h.fields.map shFld) ≤ 88 := by
    unfold tot
    rw [List.length_map]
    omega
  unfold shHs
  simp only [tot_app, tot_cons, tot_nil]
  omega
theorem hss_tot : ∀ {hs : List Hs}, (∀ h ∈ hs, h.wf) → tot (hs.flatMap shHs) ≤ 40 * sizeH hs + 1100 * hs.length
  | [], _ => Nat.zero_le _
  | h :: hs, q => by
    have h1 := hs_tot (q h List.mem_cons_self)
    have h2 := hss_tot (hs := hs) fun u hu => q u (List.mem_cons_of_mem _ hu)
    rw [List.flatMap_cons, tot_app, sizeH_cons, List.length_cons]
    omega
theorem pg_tot {p : Pg} (h : p.wf) : tot (shPg p) ≤ 30000 ∧ (pgText p).length ≤ 30000 := by
  obtain ⟨h1, h2, h3, h4, h5, h6, h7, h8⟩ := h
  have a := hss_tot h2
  have b := (pars_sum h3).2
  have c := kind_len h5
  have d := shB_len h6 1
  have e1 : ("main" : Str).length = 4 := by decide +kernel
  have e2 : ("=" : Str).length = 1 := by decide +kernel
  have e3 : (" " : Str).length = 1 := by decide +kernel
  have t : tot (shPg p) ≤ 30000 := by
    unfold shPg
    simp only [tot_app, tot_cons, tot_nil]
    omega
  refine ⟨t, ?_⟩
  have j := ln_join (" " : Str) (shPg p)
  rw [e3] at j
  unfold pgText
  unfold tot at t
  omega
local macro_rules | `(tactic| walk_at "rd1") => `(tactic| (first
  | with_reducible refine z_seq ?_ | with_reducible refine z_ifs ?_ | with_reducible refine z_next ?_ | with_reducible refine z_ret ?_ | with_reducible refine z_asg ?_ | with_reducible refine z_gname ?_
  | ((with_reducible apply z_var); exact rfl) | with_reducible refine z_c ?_ | with_reducible refine z_op ?_ | with_reducible refine z_bl ?_ | with_reducible refine z_test ?_ | with_reducible refine z_B ?_
  | with_reducible refine z_nil ?_ | with_reducible refine z_cons ?_ | with_reducible refine z_cb ?_ | with_reducible refine z_call ?_ | with_reducible refine iteT ?_ | with_reducible refine iteF ?_
  | with_reducible refine z_or ?_ | with_reducible refine z_and ?_ | with_reducible refine z_not ?_ | with_reducible refine z_orv ?_ | with_reducible refine z_andv ?_ | with_reducible refine z_notv ?_ | with_reducible refine z_un ?_
  | with_reducible refine z_eqS ?_ | with_reducible refine z_neS ?_ | with_reducible refine z_eqI ?_ | with_reducible refine z_neI ?_ | with_reducible refine z_i0 ?_ | with_reducible refine z_radd ?_ | with_reducible refine z_rsub ?_ | with_reducible refine z_iu ?_
  | with_reducible refine z_fld ?_ | with_reducible refine z_meth ?_ | with_reducible refine z_sfld ?_ | with_reducible refine z_flda ?_ | with_reducible refine z_make ?_ | with_reducible refine z_drop ?_ | with_reducible refine z_retn ?_ | with_reducible refine z_cont ?_
  | with_reducible refine z_tup ?_ | with_reducible refine z_lst ?_ | with_reducible refine z_slice ?_ | with_reducible refine z_nopart ?_ | with_reducible refine z_part ?_ | with_reducible refine z_intr ?_ | with_reducible refine z_m1 ?_ | with_reducible refine z_lc ?_ | with_reducible refine z_yes ?_ | with_reducible refine z_il ?_ | with_reducible refine z_it ?_ | with_reducible refine z_bm ?_ | with_reducible refine z_for ?_ | with_reducible refine z_gcons ?_ | with_reducible refine z_gnil ?_ | with_reducible refine z_es ?_ | with_reducible refine z_sub ?_ | with_reducible refine z_ri ?_ | with_reducible refine z_i0 ?_ | with_reducible refine z_bm0 ?_ | with_reducible refine z_revL ?_ | with_reducible refine z_rng ?_ | with_reducible refine z_enL ?_))
local macro_rules | `(tactic| walk_at "rd") => `(tactic| repeat (walk_at "rd1"))
local macro_rules | `(tactic| walk_at "no") => `(tactic| repeat (first | (walk_at "rd1") | refine ifF (bSf (by decide +kernel)) ?_ | refine ifF (bSf num_ne) ?_))
local macro_rules | `(tactic| walk_at "ln") => `(tactic| (rintro vs H Q E h; repeat (first | (obtain ⟨e, _⟩ := h; subst e; rfl) | (obtain ⟨_, h⟩ := h))))
section
variable {P : Program} {w : World} {K : PySem.W.Frag} {mg : Str → Option Value} {base : Heap}
def spPT (K : PySem.W.Frag) : Sp := fun vs H Q _ => ∃ (v : V) (ps : List (Str × Str)), vs = [v] ∧ Dp K H v (parD ps) ∧ parOk ps ∧ ∀ H', Same H H' → Q (.str (shPs ps)) H'
theorem sc_z_params_text : FnScope ["_law_params_here", "_law_param"] ["_law_params_here"] (defScope s_z_params_text) := ⟨rfl, rfl, rfl, by decide +kernel, rfl, by decide +kernel, by decide +kernel⟩
theorem ok_z_params_text (T : Tx K mg) : Cal P w K mg base CX0 1 "_law_params_text" ["_law_params_here"] [] (spPT K) := by
  obtain ⟨fd, F⟩ := T.f_z_params_text
  refine cal_def F T.g_z_params_text sc_z_params_text (fun _ _ _ _ _ _ us hl => match us, hl with | [_], _ => rfl) (by walk_at "ln") (fun cdv A outer s H vs Q E hr h => ?_)
  obtain ⟨v, ps, rfl, hv, hp, k⟩ := h
  refine ⟨_, (pss_one (ps_ret (pe_op op_add_str (pe_op op_add_str pe_str (pe_join pe_str (pe_lc (own := [("_law_param", 1)]) (g := gName 1) (by rfl) sc_z_params_text.nd (pi_tup (pv 0)) (blkOk_by (own := [("_law_param", 1)]) (N := ["_law_params_here", "_law_param"]) (sc := defScope s_z_params_text) (by decide +kernel)) (fun _ _ _ _ _ => pg_name (i := 1) sc_z_params_text.nd rfl (Or.inl rfl)) (fun _ _ _ _ _ => pts_nil) (fun _ _ _ _ _ => (pe_op op_add_str (pe_op op_add_str (pe_ix (ix_tupK (K := K) rfl) (pv 1) pe_int (fun _ _ => rfl)) pe_str) (pe_ix (ix_tupK (K := K) rfl) (pv 1) pe_int (fun _ _ => rfl))))))) pe_str))), ?_⟩
  obtain ⟨a, xs, rfl, h1, h2⟩ := dp_tup hv
  have hlx := DpAll.len h2
  rw [List.length_map] at hlx
  obtain ⟨L1, L2⟩ := pars_sum hp
  have h4 := hp.1
  walk_at "ar"
  refine ⟨⟨_, rfl⟩, ?_⟩
  walk_at "ar"
  refine z_itr h1 ?_
  refine z_lcr (walk_tup (K := K) (a := a) (xs := xs)) (fun i acc _ => acc = ((ps.take i).map shPar).map V.str) (fun H2 hS => Same.seqT hS h1) (fun _ _ => rfl) ?_ ?_
  · rintro D i acc y H2 H3 hD1 hi hS hal hacc hR ⟨rfl, hy⟩
    obtain ⟨d, hd1, hd2⟩ := DpAll.at h2 hy
    rw [List.getElem?_map] at hd1
    cases eq : ps[i]? with
    | none => rw [eq] at hd1; cases hd1
    | some q =>
    rw [eq] at hd1
    have hd1' : pairD q = d := Option.some.inj hd1
    subst hd1'
    obtain ⟨b, rfl, hq⟩ := pair_dp hd2
    have hl := par_len (hp.2 q (List.mem_of_getElem? eq)).1 (hp.2 q (List.mem_of_getElem? eq)).2
    unfold shPar at hl
    simp only [ln_app] at hl
    walk_at "rd"
    refine ⟨rfl, ?_⟩
    walk_at "ar"
    refine z_ixT (Same.seqT hS hq) (v := .str q.1) (atI_nat (j := 0) rfl) ?_
    walk_at "ar"
    refine ⟨_, _, rfl, rfl, len_sz (by omega), ?_⟩
    walk_at "ar"
    refine z_ixT (Same.seqT hS hq) (v := .str q.2) (atI_nat (j := 1) rfl) ?_
    refine ⟨_, _, rfl, rfl, len_sz (by simp only [ln_app]; omega), ?_⟩
    refine lc_end hD1 hS hacc hal (by omega) (Same.refl _) fun H5 _ _ _ => ?_
    rw [hR, List.take_add_one, eq]
    simp [shPar]
  · intro D acc H2 hD1 hS hacc hR
    rw [hlx, List.take_length] at hR
    subst hR
    refine ⟨_, D, ps.map shPar, rfl, rfl, .inl (SqL.of hacc), by omega, ?_⟩
    rw [join_eq]
    unfold shPs at L2
    simp only [ln_app] at L2
    refine ⟨_, _, rfl, rfl, len_sz (by omega), ?_⟩
    walk_at "ar"
    refine ⟨_, _, rfl, rfl, len_sz (by simp only [ln_app]; omega), ?_⟩
    exact k H2 hS
end
end EH

set_option Elab.async false
set_option maxRecDepth 100000
set_option maxHeartbeats 4000000
set_option linter.unusedVariables false

/-! The law's own words: a program's text, walked. -/
namespace EH
open PySem PySem.Spec PyProof.Rows L2 TL
local macro_rules | `(tactic| walk_at "ar") => `(tactic| repeat (first | walk_at "rd1" | refine z_ic (C := CDiv) ⟨by decide, by decide⟩ ?_ | refine z_ic (C := CMul) (.inr ⟨by decide, by decide⟩) ?_ | refine z_ic (C := CMul) (.inl ⟨by decide, by decide⟩) ?_ | (refine z_ic (C := fun _ j => 0 < j) (by decide) ?_)))
def seld : Option Str → Str
  | none => "None"
  | some e => e
local macro_rules | `(tactic| walk_at "rd1") => `(tactic| (first
  | with_reducible refine z_seq ?_ | with_reducible refine z_ifs ?_ | with_reducible refine z_next ?_ | with_reducible refine z_ret ?_ | with_reducible refine z_asg ?_ | with_reducible refine z_gname ?_
  | ((with_reducible apply z_var); exact rfl) | with_reducible refine z_c ?_ | with_reducible refine z_op ?_ | with_reducible refine z_bl ?_ | with_reducible refine z_test ?_ | with_reducible refine z_B ?_
  | with_reducible refine z_nil ?_ | with_reducible refine z_cons ?_ | with_reducible refine z_cb ?_ | with_reducible refine z_call ?_ | with_reducible refine iteT ?_ | with_reducible refine iteF ?_
  | with_reducible refine z_or ?_ | with_reducible refine z_and ?_ | with_reducible refine z_not ?_ | with_reducible refine z_orv ?_ | with_reducible refine z_andv ?_ | with_reducible refine z_notv ?_ | with_reducible refine z_un ?_
  | with_reducible refine z_eqS ?_ | with_reducible refine z_neS ?_ | with_reducible refine z_eqI ?_ | with_reducible refine z_neI ?_ | with_reducible refine z_i0 ?_ | with_reducible refine z_radd ?_ | with_reducible refine z_rsub ?_ | with_reducible refine z_iu ?_
  | with_reducible refine z_fld ?_ | with_reducible refine z_meth ?_ | with_reducible refine z_sfld ?_ | with_reducible refine z_flda ?_ | with_reducible refine z_make ?_ | with_reducible refine z_drop ?_ | with_reducible refine z_retn ?_ | with_reducible refine z_cont ?_
  | with_reducible refine z_tup ?_ | with_reducible refine z_lst ?_ | with_reducible refine z_slice ?_ | with_reducible refine z_nopart ?_ | with_reducible refine z_part ?_ | with_reducible refine z_intr ?_ | with_reducible refine z_m1 ?_ | with_reducible refine z_lc ?_ | with_reducible refine z_yes ?_ | with_reducible refine z_il ?_ | with_reducible refine z_it ?_ | with_reducible refine z_bm ?_ | with_reducible refine z_for ?_ | with_reducible refine z_gcons ?_ | with_reducible refine z_gnil ?_ | with_reducible refine z_es ?_ | with_reducible refine z_sub ?_ | with_reducible refine z_ri ?_ | with_reducible refine z_i0 ?_ | with_reducible refine z_bm0 ?_ | with_reducible refine z_revL ?_ | with_reducible refine z_rng ?_ | with_reducible refine z_enL ?_))
local macro_rules | `(tactic| walk_at "rd") => `(tactic| repeat (walk_at "rd1"))
local macro_rules | `(tactic| walk_at "no") => `(tactic| repeat (first | (walk_at "rd1") | refine ifF (bSf (by decide +kernel)) ?_ | refine ifF (bSf num_ne) ?_))
local macro_rules | `(tactic| walk_at "ln") => `(tactic| (rintro vs H Q E h; repeat (first | (obtain ⟨e, _⟩ := h; subst e; rfl) | (obtain ⟨_, h⟩ := h))))
section
variable {P : Program} {w : World} {K : PySem.W.Frag} {mg : Str → Option Value} {base : Heap}
theorem z_seld {H : Hp} {Q : VK} (e : Option Str) (q : Q (.str (seld e)) H) : rStrAny [eldV e] H Q := by
  cases e with
  | none => exact z_strN q
  | some e => exact z_strS q
theorem eld_rep (e : Option Str) : (List.replicate ((if (!decide (eldV e = V.non)) = true then 1 else 0 : Int)).toNat [V.str "of", .str (seld e)]).flatten = (shEld e).map V.str := by
  cases e with
  | none => rfl
  | some e => rfl
theorem eld_int (e : Option Str) : -(2 ^ 63) ≤ (if (!decide (eldV e = V.non)) = true then 1 else 0 : Int) ∧ (if (!decide (eldV e = V.non)) = true then 1 else 0 : Int) < 2 ^ 63 ∧ 2 * ((if (!decide (eldV e = V.non)) = true then 1 else 0 : Int)).toNat ≤ 2 := by
  split <;> decide
theorem dp_eld {H : Hp} {v : V} {e : Option Str} (h : Dp K H v (eldD e)) : v = eldV e := by
  cases e with
  | none => cases h; rfl
  | some e => exact dp_str h
theorem dp_hs {H : Hp} {v : V} {h : Hs} (q : Dp K H v (hsD h)) : ∃ a fv tv, v = .ref a ∧ SqT K H a [.str h.name, eldV h.elder, fv, tv] ∧ Dp K H fv (parD h.fields) ∧ Dp K H tv (.tuple (h.words.map wdD)) := by
  obtain ⟨a, xs, rfl, h1, h2⟩ := dp_tup q
  obtain ⟨v0, r0, rfl, d0, e0⟩ := dpa_cons h2
  obtain ⟨v1, r1, rfl, d1, e1⟩ := dpa_cons e0
  obtain ⟨v2, r2, rfl, d2, e2⟩ := dpa_cons e1
  obtain ⟨v3, r3, rfl, d3, e3⟩ := dpa_cons e2
  rw [dpa_nil e3, dp_str d0, dp_eld d1] at h1
  exact ⟨a, v2, v3, rfl, h1, d2, d3⟩
theorem dp_wd {H : Hp} {v : V} {w : Wd} (q : Dp K H v (wdD w)) : ∃ a pv tv, v = .ref a ∧ SqT K H a [.str w.name, pv, .str w.kind, tv] ∧ Dp K H pv (parD w.params) ∧ Dp K H tv (tdat w.body) := by
  obtain ⟨a, xs, rfl, h1, h2⟩ := dp_tup q
  obtain ⟨v0, r0, rfl, d0, e0⟩ := dpa_cons h2
  obtain ⟨v1, r1, rfl, d1, e1⟩ := dpa_cons e0
  obtain ⟨v2, r2, rfl, d2, e2⟩ := dpa_cons e1
  obtain ⟨v3, r3, rfl, d3, e3⟩ := dpa_cons e2
  rw [dpa_nil e3, dp_str d0, dp_str d2] at h1
  exact ⟨a, v1, v3, rfl, h1, d1, d3⟩
theorem dp_pg {H : Hp} {v : V} {p : Pg} (q : Dp K H v (pgD p)) : ∃ a b hv hvs pv tv, v = .ref a ∧ SqT K H a [.ref hv, .ref b] ∧ SqT K H hv hvs ∧ DpAll K H hvs (p.houses.map hsD) ∧ SqT K H b [pv, .str p.kind, tv] ∧ Dp K H pv (parD p.params) ∧ Dp K H tv (tdat p.body) := by
  obtain ⟨a, xs, rfl, h1, h2⟩ := dp_tup q
  obtain ⟨v0, r0, rfl, d0, e0⟩ := dpa_cons h2
  obtain ⟨v1, r1, rfl, d1, e1⟩ := dpa_cons e0
  rw [dpa_nil e1] at h1
  obtain ⟨hv, hvs, rfl, g1, g2⟩ := dp_tup d0
  obtain ⟨b, ys, rfl, k1, k2⟩ := dp_tup d1
  obtain ⟨w0, s0, rfl, f0, l0⟩ := dpa_cons k2
  obtain ⟨w1, s1, rfl, f1, l1⟩ := dpa_cons l0
  obtain ⟨w2, s2, rfl, f2, l2⟩ := dpa_cons l1
  rw [dpa_nil l2, dp_str f1] at k1
  exact ⟨a, b, hv, hvs, w0, w2, rfl, h1, g1, g2, k1, f0, f2⟩
theorem map_at {α : Type} {f : α → PyData} {l : List α} {i : Nat} {d : PyData} (h : (l.map f)[i]? = some d) : ∃ a, l[i]? = some a ∧ d = f a := by
  rw [List.getElem?_map] at h
  cases e : l[i]? with
  | none => rw [e] at h; cases h
  | some a => rw [e] at h; exact ⟨a, rfl, (Option.some.inj h).symm⟩
theorem term_small {t : T} (h : t.wf) (hd : t.depth ≤ 14) (hz : t.size ≤ 400) : t.size ≤ 1000 := by omega
structure RI (K : PySem.W.Frag) (H Hc : Hp) (R : Addr) (l : List Str) : Prop where
  new : H R = none
  same : Same H Hc
  lst : Hc R = some (.lst (l.map V.str))
theorem ri_next {H Hc H' : Hp} {R : Addr} {l l' : List Str} (I : RI K H Hc R l) (s : Same Hc H') (p : Addr) (hp : H' p = none) (xs : List V) (e : xs = l'.map V.str) : RI K H (upd H' p (.lst xs)) p l' :=
  ⟨Fr.same I.same _ (Fr.same s _ hp), (I.same.trans s).trans (Same.new hp), by rw [upd_same, e]⟩
theorem shHs_len {h : Hs} (hw : h.wf) : (shHs h).length ≤ 70 := by
  obtain ⟨h1, h2, h3, h4, h5⟩ := hw
  have e : (shEld h.elder).length ≤ 2 := by cases h.elder <;> simp [shEld]
  have w : (h.words.flatMap shWd).length = 6 * h.words.length := by
    rw [List.length_flatMap]
    have : ∀ ws : List Wd, (ws.map fun w => (shWd w).length).sum = 6 * ws.length := by
      intro ws
      induction ws with
      | nil => rfl
      | cons w ws ih => rw [List.map_cons, List.sum_cons, ih, List.length_cons]; show 6 + _ = _; omega
    exact this _
  have f := h3.1
  unfold shHs
  simp only [List.length_append, List.length_cons, List.length_map, List.length_nil, w]
  omega
def spShown (K : PySem.W.Frag) : Sp := fun vs H Q _ => ∃ (v : V) (p : Pg), vs = [v] ∧ Dp K H v (pgD p) ∧ p.wf ∧ ∀ H', Same H H' → Q (.str (pgText p)) H'
theorem flat_take {α : Type} {f : α → List Str} {l : List α} {i : Nat} {a : α} (h : l[i]? = some a) : (l.take (i + 1)).flatMap f = (l.take i).flatMap f ++ f a := by
  rw [List.take_add_one, h, List.flatMap_append]
  simp
theorem le_sum : ∀ {l : List Nat} {x : Nat}, x ∈ l → x ≤ l.sum
  | y :: l, x, h => by
    rw [List.sum_cons]
    rcases List.mem_cons.mp h with e | h
    · omega
    · have := le_sum h
      omega
theorem sizeW_le {ws : List Wd} {w : Wd} (h : w ∈ ws) : w.body.size ≤ sizeW ws := by
  unfold sizeW
  exact le_sum (List.mem_map.mpr ⟨w, h, rfl⟩)
theorem sizeH_le {hs : List Hs} {h : Hs} (q : h ∈ hs) : sizeW h.words ≤ sizeH hs := by
  unfold sizeH
  exact le_sum (List.mem_map.mpr ⟨h, q, rfl⟩)
theorem sc_z_shown : FnScope ["_law_program_here", "_law_rows", "_law_name_here", "_law_elder", "_law_fields", "_law_told_here", "_law_word", "_law_params_here", "_law_kind", "_law_term_here", "_law_field"] ["_law_program_here"] (defScope s_z_shown) := ⟨rfl, rfl, rfl, by decide +kernel, rfl, by decide +kernel, by decide +kernel⟩
theorem ok_z_shown (T : Tx K mg) : Cal P w K mg base CX0 46 "_law_shown" ["_law_program_here"] [] (spShown K) := by
  obtain ⟨fd, F⟩ := T.f_z_shown
  refine cal_def F T.g_z_shown sc_z_shown (fun _ _ _ _ _ _ us hl => match us, hl with | [_], _ => rfl) (by walk_at "ln") (fun cdv A outer s H vs Q E hr h => ?_)
  obtain ⟨v, p, rfl, hD, hw, k⟩ := h
  refine ⟨_, (pss_cons (ps_set (i := 1) sc_z_shown.nd rfl (Or.inl rfl) (pe_lst pa_nil))
    (pss_cons (ps_for PassesOwn.never rfl (pi_tup (pe_ix ix_tup (pv 0) pe_int (fun _ _ => rfl))) (pg_tup (by rfl) (pgs_cons (pg_name (i := 2) sc_z_shown.nd rfl (Or.inl rfl)) (pgs_cons (pg_name (i := 3) sc_z_shown.nd rfl (Or.inl rfl)) (pgs_cons (pg_name (i := 4) sc_z_shown.nd rfl (Or.inl rfl)) (pgs_cons (pg_name (i := 5) sc_z_shown.nd rfl (Or.inl rfl)) pgs_nil))))) (pss_cons (ps_set (i := 1) sc_z_shown.nd rfl (Or.inl rfl) (pe_op op_cat (pe_op op_cat (pv 1) (pe_lst (pa_cons pe_str (pa_cons (pv 2) pa_nil)))) (pe_op op_rep (pe_lst (pa_cons pe_str (pa_cons (pe_callTy call_str_any (by rfl) T.b_str (by decide +kernel) (pa_cons (pv 3) pa_nil)) pa_nil))) (pe_callTy call_int1 (by rfl) T.b_int (by decide +kernel) (pa_cons (pe_cmpR op_notN (pv 3) pe_non (nomark _)) pa_nil)))))
    (pss_cons (ps_set (i := 1) sc_z_shown.nd rfl (Or.inl rfl) (pe_op op_cat (pe_op op_cat (pv 1) (pe_lst (pa_cons pe_str pa_nil))) (pe_lc (own := [("_law_field", 10)]) (g := gName 10) (by rfl) sc_z_shown.nd (pi_tup (pv 4)) (blkOk_by (own := [("_law_field", 10)]) (N := ["_law_program_here", "_law_rows", "_law_name_here", "_law_elder", "_law_fields", "_law_told_here", "_law_word", "_law_params_here", "_law_kind", "_law_term_here", "_law_field"]) (sc := defScope s_z_shown) (by decide +kernel)) (fun _ _ _ _ _ => pg_name (i := 10) sc_z_shown.nd rfl (Or.inl rfl)) (fun _ _ _ _ _ => pts_nil) (fun _ _ _ _ _ => (pe_op op_add_str (pe_op op_add_str (pe_op op_add_str pe_str (pe_ix (ix_tupK (K := K) rfl) (pv 10) pe_int (fun _ _ => rfl))) pe_str) (pe_ix (ix_tupK (K := K) rfl) (pv 10) pe_int (fun _ _ => rfl)))))))
    (pss_cons (ps_for PassesOwn.never rfl (pi_tup (pv 5)) (pg_tup (by rfl) (pgs_cons (pg_name (i := 6) sc_z_shown.nd rfl (Or.inl rfl)) (pgs_cons (pg_name (i := 7) sc_z_shown.nd rfl (Or.inl rfl)) (pgs_cons (pg_name (i := 8) sc_z_shown.nd rfl (Or.inl rfl)) (pgs_cons (pg_name (i := 9) sc_z_shown.nd rfl (Or.inl rfl)) pgs_nil))))) (pss_one (ps_set (i := 1) sc_z_shown.nd rfl (Or.inl rfl) (pe_op op_cat (pv 1) (pe_lst (pa_cons pe_str (pa_cons (pv 6) (pa_cons (pe_cal (ok_z_params_text T) (hr.mono (by decide)) pass0 (pa_cons (pv 7) pa_nil)) (pa_cons (pv 8) (pa_cons pe_str (pa_cons (pe_cal (br_ok T 14) (hr.mono (by decide)) pass0 (pa_cons (pv 9) (pa_cons pe_int pa_nil))) pa_nil)))))))))))
    (pss_one (ps_expr (pe_bm PySem.F.plainAttrs_list PySem.F.slot_list_append PySem.F.type_list_append mt_append (pv 1) (pa_cons pe_str pa_nil))))))))
    (pss_cons (ps_asg (pe_ix ix_tup (pv 0) pe_int (fun _ _ => rfl)) (pg_tup (by rfl) (pgs_cons (pg_name (i := 7) sc_z_shown.nd rfl (Or.inl rfl)) (pgs_cons (pg_name (i := 8) sc_z_shown.nd rfl (Or.inl rfl)) (pgs_cons (pg_name (i := 9) sc_z_shown.nd rfl (Or.inl rfl)) pgs_nil)))))
    (pss_one (ps_ret (pe_join pe_str (pe_op op_cat (pv 1) (pe_lst (pa_cons pe_str (pa_cons (pe_cal (ok_z_params_text T) (hr.mono (by decide)) pass0 (pa_cons (pv 7) pa_nil)) (pa_cons (pv 8) (pa_cons pe_str (pa_cons (pe_cal (br_ok T 14) (hr.mono (by decide)) pass0 (pa_cons (pv 9) (pa_cons pe_int pa_nil))) pa_nil))))))))))))), ?_⟩
  obtain ⟨a, b, hv, hvs, pv, tv, rfl, g1, g2, g3, g4, g5, g6⟩ := dp_pg hD
  obtain ⟨T1, T2⟩ := pg_tot hw
  have hlx := DpAll.len g3
  rw [List.length_map] at hlx
  obtain ⟨w1, w2, w3, w4, w5, w6, w7, w8⟩ := hw
  walk_at "ar"
  refine z_lstr (by show 0 ≤ 100000; omega) fun R0 hR0 => ?_
  have s0 := Same.new hR0 (o := .lst [])
  walk_at "ar"
  refine z_ixT (Same.seqT s0 g1) (v := .ref hv) (atI_nat (j := 0) rfl) ?_
  refine z_itr (Same.seqT s0 g2) ?_
  refine z_forr (walk_tup (K := K) (a := hv) (xs := hvs)) (fun i σ Hc => ∃ R l c2 c3 c4 c5 c6 c7 c8 c9, σ = [some (.ref a), some (.ref R), c2, c3, c4, c5, c6, c7, c8, c9, none] ∧ RI K H Hc R l ∧ l = (p.houses.take i).flatMap shHs ∧ l.length ≤ 70 * i)
    ⟨R0, [], _, _, _, _, _, _, _, _, rfl, ⟨hR0, s0, upd_same⟩, rfl, Nat.zero_le _⟩ (fun i σ Hc _ q => ?_) ?_ ?_
  · obtain ⟨_, _, _, _, _, _, _, _, _, _, _, I, _⟩ := q
    exact Same.seqT I.same g2
  · rintro i x σ Hc H' hi ⟨R, l, c2, c3, c4, c5, c6, c7, c8, c9, rfl, I, el, hll⟩ ⟨rfl, hx⟩
    obtain ⟨d, hd1, hd2⟩ := DpAll.at g3 hx
    obtain ⟨h, hh, rfl⟩ := map_at hd1
    have hmem := List.mem_of_getElem? hh
    obtain ⟨ha, fv, tw, rfl, q1, q2, q3⟩ := dp_hs hd2
    have hwf := w2 h hmem
    have hsz := sizeH_le hmem
    have hlen := shHs_len hwf
    obtain ⟨x1, x2, x3, x4, x5⟩ := hwf
    refine z_gtup (Same.seqT I.same q1) rfl ?_
    walk_at "ar"
    -- rows + [house, name] + [of, elder] * ..
    refine z_lstr (by show 2 ≤ 100000; omega) fun p1 hp1 => ?_
    have s1 := Same.new hp1 (o := .lst [.str "house", .str h.name])
    refine ⟨R, p1, _, _, rfl, rfl, s1 _ _ I.lst, upd_same, len_sz (by rw [List.length_map]; show l.length + 2 ≤ 100000; omega), fun p2 hp2 => ?_⟩
    have I2 := ri_next (l' := l ++ [("house" : Str), h.name]) I s1 p2 hp2 (l.map V.str ++ [.str "house", .str h.name]) (by rw [List.map_append] <;> rfl)
    generalize upd (upd H' p1 (.lst [.str "house", .str h.name])) p2 (.lst (l.map V.str ++ [.str "house", .str h.name])) = H2 at I2
    walk_at "ar"
    refine z_seld h.elder ?_
    walk_at "ar"
    refine z_lstr (by show 2 ≤ 100000; omega) fun p3 hp3 => ?_
    have s3 := Same.new hp3 (o := .lst [.str "of", .str (seld h.elder)])
    walk_at "ar"
    refine ⟨rfl, ?_⟩
    walk_at "ar"
    refine .inr ⟨_, rfl, ?_⟩
    obtain ⟨i1, i2, i3⟩ := eld_int h.elder
    refine ⟨p3, _, _, rfl, rfl, upd_same, i1, i2, Nat.le_trans i3 (len_sz (by omega)), fun p4 hp4 => ?_⟩
    rw [eld_rep]
    have s4 := Same.new hp4 (o := .lst ((shEld h.elder).map V.str))
    have eln : (shEld h.elder).length ≤ 2 := by cases h.elder <;> simp [shEld]
    refine ⟨p2, p4, _, _, rfl, rfl, s4 _ _ (s3 _ _ I2.lst), upd_same, len_sz (by rw [List.length_map, List.length_map, List.length_append]; show l.length + 2 + _ ≤ 100000; omega), fun p5 hp5 => ?_⟩
    have I5 := ri_next (l' := (l ++ [("house" : Str), h.name]) ++ shEld h.elder) I2 (s3.trans s4) p5 hp5 ((l ++ [("house" : Str), h.name]).map V.str ++ (shEld h.elder).map V.str) (by rw [List.map_append (l₁ := l ++ [("house" : Str), h.name])])
    generalize upd (upd (upd H2 p3 (.lst [.str "of", .str (seld h.elder)])) p4 (.lst ((shEld h.elder).map V.str))) p5 (.lst ((l ++ [("house" : Str), h.name]).map V.str ++ (shEld h.elder).map V.str)) = H5 at I5
    have l5 : ((l ++ [("house" : Str), h.name]) ++ shEld h.elder).length ≤ l.length + 4 := by
      rw [List.length_append, List.length_append]
      show l.length + 2 + _ ≤ _
      omega
    generalize he5 : (l ++ [("house" : Str), h.name]) ++ shEld h.elder = L5 at I5 l5
    clear I2 s3 s4 s1
    -- rows + [{] + fields
    walk_at "ar"
    refine z_lstr (by show 1 ≤ 100000; omega) fun p6 hp6 => ?_
    have s6 := Same.new hp6 (o := .lst [.str "{"])
    refine ⟨p5, p6, _, _, rfl, rfl, s6 _ _ I5.lst, upd_same, len_sz (by rw [List.length_map]; show _ + 1 ≤ 100000; omega), fun p7 hp7 => ?_⟩
    have I7 := ri_next (l' := L5 ++ [("{" : Str)]) I5 s6 p7 hp7 (L5.map V.str ++ [.str "{"]) (by rw [List.map_append] <;> rfl)
    generalize upd (upd H5 p6 (.lst [.str "{"])) p7 (.lst (L5.map V.str ++ [.str "{"])) = H7 at I7
    clear I5 s6
    obtain ⟨fa, fxs, rfl, f1, f2⟩ := dp_tup q2
    have flx := DpAll.len f2
    rw [List.length_map] at flx
    have f4 := x3.1
    walk_at "ar"
    refine z_itr (Same.seqT I7.same f1) ?_
    refine z_lcr (walk_tup (K := K) (a := fa) (xs := fxs)) (fun i acc _ => acc = ((h.fields.take i).map shFld).map V.str) (fun H2 hS => Same.seqT (I7.same.trans hS) f1) (fun _ _ => rfl) ?_ ?_
    · rintro D i acc y H8 H9 hD1 hi hS hal hacc hR ⟨rfl, hy⟩
      obtain ⟨d, hd3, hd4⟩ := DpAll.at f2 hy
      obtain ⟨q, hq1, rfl⟩ := map_at hd3
      obtain ⟨qb, rfl, hq⟩ := pair_dp hd4
      have hl := par_len (x3.2 q (List.mem_of_getElem? hq1)).1 (x3.2 q (List.mem_of_getElem? hq1)).2
      unfold shFld at hl
      simp only [ln_app] at hl
      have sq := Same.seqT (I7.same.trans hS) hq
      walk_at "rd"
      refine ⟨rfl, ?_⟩
      walk_at "ar"
      refine z_ixT sq (v := .str q.1) (atI_nat (j := 0) rfl) ?_
      refine ⟨_, _, rfl, rfl, len_sz (by omega), ?_⟩
      walk_at "ar"
      refine ⟨_, _, rfl, rfl, len_sz (by simp only [ln_app]; omega), ?_⟩
      walk_at "ar"
      refine z_ixT sq (v := .str q.2) (atI_nat (j := 1) rfl) ?_
      refine ⟨_, _, rfl, rfl, len_sz (by simp only [ln_app]; omega), ?_⟩
      refine lc_end hD1 hS hacc hal (by omega) (Same.refl _) fun H5 _ _ _ => ?_
      rw [hR, List.take_add_one, hq1]
      simp [shFld]
    rintro D acc H8 hD1 hS8 hacc8 hR8
    rw [flx, List.take_length] at hR8
    subst hR8
    refine ⟨p7, D, _, _, rfl, rfl, hS8 _ _ I7.lst, hacc8, len_sz (by rw [List.length_map, List.length_map, List.length_map, List.length_append]; show _ + 1 + _ ≤ 100000; omega), fun p8 hp8 => ?_⟩
    have I8 := ri_next (l' := (L5 ++ [("{" : Str)]) ++ h.fields.map shFld) I7 hS8 p8 hp8 ((L5 ++ [("{" : Str)]).map V.str ++ (h.fields.map shFld).map V.str) (by rw [List.map_append (l₁ := L5 ++ [("{" : Str)])])
    generalize upd H8 p8 (.lst ((L5 ++ [("{" : Str)]).map V.str ++ (h.fields.map shFld).map V.str)) = H9 at I8
    have l8 : ((L5 ++ [("{" : Str)]) ++ h.fields.map shFld).length ≤ l.length + 9 := by
      rw [List.length_append, List.length_append, List.length_map]
      show L5.length + 1 + _ ≤ _
      omega
    generalize he8 : (L5 ++ [("{" : Str)]) ++ h.fields.map shFld = L8 at I8 l8
    clear I7
    -- the words
    obtain ⟨ta, txs, rfl, t1, t2⟩ := dp_tup q3
    have tlx := DpAll.len t2
    rw [List.length_map] at tlx
    walk_at "ar"
    refine z_itr (Same.seqT I8.same t1) ?_
    refine z_forr (walk_tup (K := K) (a := ta) (xs := txs)) (fun j σ Hc => ∃ R l c6 c7 c8 c9, σ = [some (.ref a), some (.ref R), some (.str h.name), some (eldV h.elder), some (.ref fa), some (.ref ta), c6, c7, c8, c9, none] ∧ RI K H Hc R l ∧ l = L8 ++ (h.words.take j).flatMap shWd ∧ l.length ≤ L8.length + 6 * j)
      ⟨p8, _, _, _, _, _, rfl, I8, by simp, Nat.le_refl _⟩ (fun j σ Hc _ q => ?_) ?_ ?_
    · obtain ⟨_, _, _, _, _, _, _, I, _⟩ := q
      exact Same.seqT I.same t1
    · rintro j y σ Hc H' hj ⟨R, l2, c6, c7, c8, c9, rfl, I, el2, hll2⟩ ⟨rfl, hy⟩
      obtain ⟨d, hd3, hd4⟩ := DpAll.at t2 hy
      obtain ⟨w, hwd, rfl⟩ := map_at hd3
      have hwm := List.mem_of_getElem? hwd
      obtain ⟨wa, wp, wt, rfl, u1, u2, u3⟩ := dp_wd hd4
      obtain ⟨y1, y2, y3, y4, y5⟩ := x5 w hwm
      have hws := sizeW_le hwm
      refine z_gtup (Same.seqT I.same u1) rfl ?_
      walk_at "ar"
      refine ⟨_, w.params, rfl, Dp.mono I.same u2, y2, fun H10 s10 => ?_⟩
      walk_at "ar"
      refine ⟨_, _, 1, w.body, rfl, rfl, Dp.mono (I.same.trans s10) u3, y4, y5, by omega, fun H11 s11 => ?_⟩
      walk_at "ar"
      refine z_lstr (by show 6 ≤ 100000; omega) fun p9 hp9 => ?_
      have s12 := Same.new hp9 (o := .lst [.str "can", .str w.name, .str (shPs w.params), .str w.kind, .str "=", .str (wrS (power w.body) 1 (sh w.body))])
      have s13 := (s10.trans s11).trans s12
      refine ⟨R, p9, _, _, rfl, rfl, s13 _ _ I.lst, upd_same, len_sz (by rw [List.length_map]; show l2.length + 6 ≤ 100000; omega), fun pA hpA => ?_⟩
      refine ⟨pA, l2 ++ shWd w, _, _, _, _, rfl, ri_next I s13 pA hpA (l2.map V.str ++ [.str "can", .str w.name, .str (shPs w.params), .str w.kind, .str "=", .str (wrS (power w.body) 1 (sh w.body))]) (by rw [List.map_append] <;> rfl), by rw [el2, flat_take hwd, List.append_assoc], by rw [List.length_append]; show l2.length + 6 ≤ _; omega⟩
    · rintro σ Hc ⟨R, l2, c6, c7, c8, c9, rfl, I, el2, hll2⟩
      rw [tlx, List.take_length] at el2
      walk_at "ar"
      refine z_bml (SqL.of I.lst) ?_
      walk_at "ar"
      refine z_appd I.lst (by rw [List.length_map]; omega) ?_
      have e9 : l2 ++ [("}" : Str)] = l ++ shHs h := by
        rw [el2, ← he8, ← he5]
        unfold shHs
        simp only [List.append_assoc, List.cons_append, List.nil_append]
      refine ⟨R, l ++ shHs h, _, _, _, _, _, _, _, _, rfl, ⟨I.new, fun b o e => ?_, by rw [upd_same, ← e9, List.map_append]; rfl⟩, by rw [flat_take hh, el], by rw [List.length_append]; omega⟩
      rw [upd_ne (fun z => by rw [z, I.new] at e; cases e)]
      exact I.same _ _ e
  · rintro σ Hc ⟨R, l, c2, c3, c4, c5, c6, c7, c8, c9, rfl, I, el, hll⟩
    rw [hlx, List.take_length] at el
    walk_at "ar"
    refine z_ixT (Same.seqT I.same g1) (v := .ref b) (atI_nat (j := 1) rfl) ?_
    refine z_gtup (Same.seqT I.same g4) rfl ?_
    walk_at "ar"
    refine ⟨⟨_, rfl⟩, ?_⟩
    walk_at "ar"
    refine ⟨_, p.params, rfl, Dp.mono I.same g5, w3, fun H10 s10 => ?_⟩
    walk_at "ar"
    refine ⟨_, _, 1, p.body, rfl, rfl, Dp.mono (I.same.trans s10) g6, w6, w7, by omega, fun H11 s11 => ?_⟩
    walk_at "ar"
    refine z_lstr (by show 5 ≤ 100000; omega) fun p9 hp9 => ?_
    have s12 := Same.new hp9 (o := .lst [.str "main", .str (shPs p.params), .str p.kind, .str "=", .str (wrS (power p.body) 1 (sh p.body))])
    have s13 := (s10.trans s11).trans s12
    refine ⟨R, p9, _, _, rfl, rfl, s13 _ _ I.lst, upd_same, len_sz (by rw [List.length_map]; show l.length + 5 ≤ 100000; omega), fun pA hpA => ?_⟩
    have e9 : l ++ [("main" : Str), shPs p.params, p.kind, "=", shB p.body 1] = shPg p := by rw [el]; rfl
    have a1 : (" " : Str).length = 1 := by decide +kernel
    refine ⟨_, pA, shPg p, rfl, rfl, .inl (SqL.of (by rw [upd_same, ← e9, List.map_append]; rfl)), ?_, ?_⟩
    · rw [a1]
      unfold tot at T1
      omega
    · rw [join_eq]
      exact k _ ((I.same.trans s13).trans (Same.new hpA))
end
end EH

set_option Elab.async false
set_option maxRecDepth 100000
set_option maxHeartbeats 4000000
set_option linter.unusedVariables false
/-! How long the text of the data is that repr gives. -/
namespace EH
open PySem PySem.Spec PyProof.Rows L2 TL
structure ShOk (d : PyData) (p w : Nat) : Prop where
  sh : d.showable = true
  nd : d.hasDict = false
  dp : d.depth ≤ p
  ln : d.shown.length ≤ w
structure ShAll (ds : List PyData) (p w : Nat) : Prop where
  sh : PyData.showableAll ds = true
  nd : PyData.hasDictAll ds = false
  dp : PyData.depthAll ds ≤ p
  ln : ((PyData.shownAll ds).map (·.length)).sum + 2 * ds.length ≤ w
theorem ShOk.mono {d : PyData} {p w p' w' : Nat} (h : ShOk d p w) (a : p ≤ p') (b : w ≤ w') : ShOk d p' w' := ⟨h.sh, h.nd, Nat.le_trans h.dp a, Nat.le_trans h.ln b⟩
theorem ShAll.mono {ds : List PyData} {p w p' w' : Nat} (h : ShAll ds p w) (a : p ≤ p') (b : w ≤ w') : ShAll ds p' w' := ⟨h.sh, h.nd, Nat.le_trans h.dp a, Nat.le_trans h.ln b⟩
theorem shn : ShOk .none 0 4 := ⟨rfl, rfl, Nat.le_refl _, by rw [PyData.shown_none]; decide +kernel⟩
theorem shb (b : Bool) : ShOk (.bool b) 0 5 := ⟨rfl, rfl, Nat.le_refl _, by rw [PyData.shown_bool]; cases b <;> decide +kernel⟩
theorem shi {n : Nat} (h : n < 1000000000) : ShOk (.int n) 0 20 := by
  refine ⟨?_, rfl, Nat.le_refl _, ?_⟩
  · simp only [PyData.showable]
    exact decide_eq_true (log_small h)
  · rw [PyData.shown_int]
    have := num_len h
    unfold numTok at this
    omega
theorem shs {x : Str} (h : ∀ c ∈ x.cps.toList, c < 16 ^ 8) : ShOk (.str x) 0 (10 * x.length + 2) := ⟨rfl, rfl, Nat.le_refl _, by rw [PyData.shown_str]; exact StrLaws.reprText_len x h⟩
theorem shn0 : ShAll [] 0 0 := ⟨rfl, rfl, Nat.le_refl _, Nat.le_refl _⟩
theorem shc {d : PyData} {ds : List PyData} {p w v : Nat} (h : ShOk d p w) (k : ShAll ds p v) : ShAll (d :: ds) p (w + 2 + v) := by
  refine ⟨?_, ?_, ?_, ?_⟩
  · simp only [PyData.showableAll, h.sh, k.sh, Bool.and_self]
  · simp only [PyData.hasDictAll, h.nd, k.nd, Bool.or_self]
  · simp only [PyData.depthAll]
    have := h.dp
    have := k.dp
    omega
  · rw [PyData.shownAll_cons, List.map_cons, List.sum_cons, List.length_cons]
    have := h.ln
    have := k.ln
    omega
theorem sht {ds : List PyData} {p w : Nat} (h : ShAll ds p w) : ShOk (.tuple ds) (p + 1) (w + 3) := by
  refine ⟨?_, ?_, ?_, ?_⟩
  · simp only [PyData.showable]; exact h.sh
  · simp only [PyData.hasDict]; exact h.nd
  · simp only [PyData.depth]
    have := h.dp
    omega
  · rw [PyData.shown_tuple]
    have j := ln_join (", " : Str) (PyData.shownAll ds)
    have a1 : (", " : Str).length = 2 := by decide +kernel
    have a2 : ("(" : Str).length = 1 := by decide +kernel
    have a3 : ((if (ds.length == 1) = true then ",)" else ")" : String) : Str).length ≤ 2 := by split <;> decide +kernel
    rw [a1, PyData.shownAll_length] at j
    have := h.ln
    rw [ln_app, ln_app, a2]
    omega
theorem row_ok {x : Str} (h : isNameRow x = true) : ShOk (.str x) 0 82 := by
  refine (shs fun c hc => ?_).mono (Nat.le_refl _) (by have := row_len h; omega)
  unfold isNameRow at h
  simp only [Bool.and_eq_true] at h
  have q := List.all_eq_true.mp h.2 c hc
  rw [Bool.or_eq_true] at q
  rcases q with q | q
  · unfold isLow at q
    have := of_decide_eq_true q
    omega
  · unfold isDig at q
    have := of_decide_eq_true q
    omega
theorem name_ok {x : Str} (h : isName x = true) : ShOk (.str x) 0 82 := row_ok (name_row h)
theorem kind_ok' {x : Str} (h : kindOk x = true) : ShOk (.str x) 0 82 := row_ok (kind_row h)
theorem sg_ok {g : Str} (h : g ∈ signs) : ShOk (.str g) 0 82 := by
  simp only [signs, List.mem_cons, List.not_mem_nil, or_false] at h
  rcases h with rfl | rfl | rfl | rfl | rfl | rfl | rfl <;> exact (shs (by decide +kernel)).mono (Nat.le_refl _) (by decide +kernel)
theorem w_ok (x : Str) (h : isNameRow x = true := by decide +kernel) : ShOk (.str x) 0 82 := row_ok h
theorem shl : ∀ {ts : List T}, (∀ t ∈ ts, ShOk (tdat t) (2 * t.depth) (250 * t.size - 2)) → ShAll (tdatL ts) (2 * depthL ts) (250 * sizeL ts)
  | [], _ => shn0
  | t :: ts, h => by
    have h1 := h t List.mem_cons_self
    have h2 := shl (ts := ts) fun u hu => h u (List.mem_cons_of_mem _ hu)
    have hp := size_pos t
    exact (shc (h1.mono (p' := 2 * depthL (t :: ts)) (by rw [depthL]; omega) (Nat.le_refl _)) (h2.mono (p' := 2 * depthL (t :: ts)) (by rw [depthL]; omega) (Nat.le_refl _))).mono (Nat.le_refl _) (by rw [sizeL]; omega)
theorem sh_t : ∀ t : T, t.wf → ShOk (tdat t) (2 * t.depth) (250 * t.size - 2) := by
  intro t
  have u : ∀ {d : PyData} {p q w : Nat}, ShOk d p w → p ≤ q → ShOk d q w := fun h e => h.mono e (Nat.le_refl _)
  induction t using T.ind with
  | hnum n => exact fun h => (sht (shc (w_ok "number") (shc (shi h) shn0))).mono (by simp only [T.depth]; omega) (by simp only [T.size]; omega)
  | htru b => exact fun h => (sht (shc (w_ok "truth") (shc (shb b) shn0))).mono (by simp only [T.depth]; omega) (by simp only [T.size]; omega)
  | hnam x => exact fun h => (sht (shc (w_ok "name") (shc (name_ok h) shn0))).mono (by simp only [T.depth]; omega) (by simp only [T.size]; omega)
  | hslf => exact fun h => (sht (shc (w_ok "self") shn0)).mono (by simp only [T.depth]; omega) (by simp only [T.size]; omega)
  | hnew x ts ih =>
    intro h
    have k := sht (shl fun t ht => ih t ht (wfL_of h.2.1 t ht))
    exact (sht (shc (u (w_ok "new") (Nat.zero_le _)) (shc (u (name_ok h.1) (Nat.zero_le _)) (shc k (shn0.mono (Nat.zero_le _) (Nat.le_refl _)))))).mono (by simp only [T.depth]; omega) (by simp only [T.size]; omega)
  | held x ts ih =>
    intro h
    have k := sht (shl fun t ht => ih t ht (wfL_of h.2.1 t ht))
    exact (sht (shc (u (w_ok "elder") (Nat.zero_le _)) (shc (u (name_ok h.1) (Nat.zero_le _)) (shc k (shn0.mono (Nat.zero_le _) (Nat.le_refl _)))))).mono (by simp only [T.depth]; omega) (by simp only [T.size]; omega)
  | hfld t x ih =>
    intro h
    have hp := size_pos t
    exact (sht (shc (u (w_ok "field") (Nat.zero_le _)) (shc (ih h.1) (shc (u (name_ok h.2) (Nat.zero_le _)) (shn0.mono (Nat.zero_le _) (Nat.le_refl _)))))).mono (by simp only [T.depth]; omega) (by simp only [T.size]; omega)
  | hcal t x ts ih iht =>
    intro h
    have hp := size_pos t
    have k := sht (shl fun t ht => iht t ht (wfL_of h.2.2.1 t ht))
    have e1 : 2 * t.depth ≤ 2 * max t.depth (depthL ts) + 1 := by omega
    have e2 : 2 * depthL ts + 1 ≤ 2 * max t.depth (depthL ts) + 1 := by omega
    exact (sht (shc (u (w_ok "call") (Nat.zero_le _)) (shc (u (ih h.1) e1) (shc (u (name_ok h.2.1) (Nat.zero_le _)) (shc (u k e2) (shn0.mono (Nat.zero_le _) (Nat.le_refl _))))))).mono (by simp only [T.depth]; omega) (by simp only [T.size]; omega)
  | hnt t ih =>
    intro h
    have hp := size_pos t
    exact (sht (shc (u (w_ok "not") (Nat.zero_le _)) (shc (ih h) (shn0.mono (Nat.zero_le _) (Nat.le_refl _))))).mono (by simp only [T.depth]; omega) (by simp only [T.size]; omega)
  | htwo g a b iha ihb =>
    intro h
    have hp := size_pos a
    have hq := size_pos b
    have e1 : 2 * a.depth ≤ 2 * max a.depth b.depth := by omega
    have e2 : 2 * b.depth ≤ 2 * max a.depth b.depth := by omega
    exact (sht (shc (u (w_ok "two") (Nat.zero_le _)) (shc (u (sg_ok h.1) (Nat.zero_le _)) (shc (u (iha h.2.1) e1) (shc (u (ihb h.2.2) e2) (shn0.mono (Nat.zero_le _) (Nat.le_refl _))))))).mono (by simp only [T.depth]; omega) (by simp only [T.size]; omega)
  | hite a b c iha ihb ihc =>
    intro h
    have hp := size_pos a
    have hq := size_pos b
    have hr := size_pos c
    have e1 : 2 * a.depth ≤ 2 * max a.depth (max b.depth c.depth) := by omega
    have e2 : 2 * b.depth ≤ 2 * max a.depth (max b.depth c.depth) := by omega
    have e3 : 2 * c.depth ≤ 2 * max a.depth (max b.depth c.depth) := by omega
    exact (sht (shc (u (w_ok "if") (Nat.zero_le _)) (shc (u (iha h.1) e1) (shc (u (ihb h.2.1) e2) (shc (u (ihc h.2.2) e3) (shn0.mono (Nat.zero_le _) (Nat.le_refl _))))))).mono (by simp only [T.depth]; omega) (by simp only [T.size]; omega)
  | hlt x a b iha ihb =>
    intro h
    have hp := size_pos a
    have hq := size_pos b
    have e1 : 2 * a.depth ≤ 2 * max a.depth b.depth := by omega
    have e2 : 2 * b.depth ≤ 2 * max a.depth b.depth := by omega
    exact (sht (shc (u (w_ok "let") (Nat.zero_le _)) (shc (u (name_ok h.1) (Nat.zero_le _)) (shc (u (iha h.2.1) e1) (shc (u (ihb h.2.2) e2) (shn0.mono (Nat.zero_le _) (Nat.le_refl _))))))).mono (by simp only [T.depth]; omega) (by simp only [T.size]; omega)
  | hst a x b iha ihb =>
    intro h
    have hp := size_pos a
    have hq := size_pos b
    have e1 : 2 * a.depth ≤ 2 * max a.depth b.depth := by omega
    have e2 : 2 * b.depth ≤ 2 * max a.depth b.depth := by omega
    exact (sht (shc (u (w_ok "set") (Nat.zero_le _)) (shc (u (iha h.1) e1) (shc (u (name_ok h.2.1) (Nat.zero_le _)) (shc (u (ihb h.2.2) e2) (shn0.mono (Nat.zero_le _) (Nat.le_refl _))))))).mono (by simp only [T.depth]; omega) (by simp only [T.size]; omega)
theorem sh_map {α : Type} {f : α → PyData} {p : Nat} {w : α → Nat} : ∀ {l : List α}, (∀ a ∈ l, ShOk (f a) p (w a)) → ShAll (l.map f) p ((l.map fun a => w a + 2).sum)
  | [], _ => shn0.mono (Nat.zero_le _) (Nat.le_refl _)
  | a :: l, h => by
    rw [List.map_cons, List.map_cons, List.sum_cons]
    exact shc (h a List.mem_cons_self) (sh_map fun b hb => h b (List.mem_cons_of_mem _ hb))
theorem sum_const {α : Type} (m : Nat) : ∀ l : List α, (l.map fun _ => m).sum = l.length * m
  | [] => by simp
  | a :: l => by rw [List.map_cons, List.sum_cons, sum_const m l, List.length_cons, Nat.add_mul]; omega
theorem sh_par {ps : List (Str × Str)} (h : parOk ps) : ShOk (parD ps) 2 700 := by
  have k := sh_map (f := pairD) (p := 1) (w := fun _ => 171) (l := ps) fun q hq => (sht (shc (name_ok (h.2 q hq).1) (shc (kind_ok' (h.2 q hq).2) shn0)))
  rw [sum_const] at k
  refine (sht k).mono (Nat.le_refl _) ?_
  have := Nat.mul_le_mul_right (171 + 2) h.1
  omega
theorem sh_wd {w : Wd} (h : w.wf) : ShOk (wdD w) 29 (250 * w.body.size + 1000) := by
  obtain ⟨h1, h2, h3, h4, h5⟩ := h
  have hp := size_pos w.body
  exact (sht ((shc ((name_ok h1).mono (Nat.zero_le _) (Nat.le_refl _)) (shc ((sh_par h2).mono (by omega) (Nat.le_refl _)) (shc ((kind_ok' h3).mono (Nat.zero_le _) (Nat.le_refl _)) (shc ((sh_t w.body h4).mono (p' := 28) (by omega) (Nat.le_refl _)) (shn0.mono (Nat.zero_le _) (Nat.le_refl _)))))))).mono (Nat.le_refl _) (by omega)
theorem sum_wds : ∀ ws : List Wd, (ws.map fun w => 250 * w.body.size + 1000 + 2).sum = 250 * sizeW ws + 1002 * ws.length
  | [] => rfl
  | w :: ws => by rw [List.map_cons, List.sum_cons, sum_wds ws, sizeW_cons, List.length_cons]; omega
theorem sh_hs {h : Hs} (q : h.wf) : ShOk (hsD h) 31 (250 * sizeW h.words + 10000) := by
  obtain ⟨h1, h2, h3, h4, h5⟩ := q
  have k := sh_map (f := wdD) (p := 29) (w := fun w => 250 * w.body.size + 1000) (l := h.words) fun w hw => sh_wd (h5 w hw)
  rw [sum_wds] at k
  have e : ShOk (eldD h.elder) 30 82 := by
    cases el : h.elder with
    | none => exact shn.mono (Nat.zero_le _) (by omega)
    | some y => exact (name_ok (h2 y el)).mono (Nat.zero_le _) (Nat.le_refl _)
  exact (sht ((shc ((name_ok h1).mono (Nat.zero_le _) (Nat.le_refl _)) (shc e (shc ((sh_par h3).mono (by omega) (Nat.le_refl _)) (shc (sht k) (shn0.mono (Nat.zero_le _) (Nat.le_refl _)))))))).mono (Nat.le_refl _) (by omega)
theorem sum_hss : ∀ hs : List Hs, (hs.map fun h => 250 * sizeW h.words + 10000 + 2).sum = 250 * sizeH hs + 10002 * hs.length
  | [] => rfl
  | h :: hs => by rw [List.map_cons, List.sum_cons, sum_hss hs, sizeH_cons, List.length_cons]; omega
theorem sh_pg {p : Pg} (h : p.wf) : ShOk (pgD p) 40 300000 := by
  obtain ⟨w1, w2, w3, w4, w5, w6, w7, w8⟩ := h
  have k := sh_map (f := hsD) (p := 31) (w := fun h => 250 * sizeW h.words + 10000) (l := p.houses) fun h hh => sh_hs (w2 h hh)
  rw [sum_hss] at k
  have hp := size_pos p.body
  have m := sht ((shc ((sh_par w3).mono (p' := 31) (by omega) (Nat.le_refl _)) (shc ((kind_ok' w5).mono (Nat.zero_le _) (Nat.le_refl _)) (shc ((sh_t p.body w6).mono (by omega) (Nat.le_refl _)) (shn0.mono (Nat.zero_le _) (Nat.le_refl _))))))
  exact (sht (shc (sht k) (shc m (shn0.mono (Nat.zero_le _) (Nat.le_refl _))))).mono (by omega) (by omega)
end EH

set_option Elab.async false
set_option maxRecDepth 100000
set_option maxHeartbeats 4000000
set_option linter.unusedVariables false

/-! The law's own words: how deep, how many. Printed by mkl12.py. -/
namespace EH
open PySem PySem.Spec PyProof.Rows L2 TL
local macro_rules | `(tactic| walk_at "ar") => `(tactic| repeat (first | walk_at "rd1" | refine z_ic (C := CDiv) ⟨by decide, by decide⟩ ?_ | refine z_ic (C := CMul) (.inr ⟨by decide, by decide⟩) ?_ | refine z_ic (C := CMul) (.inl ⟨by decide, by decide⟩) ?_ | (refine z_ic (C := fun _ j => 0 < j) (by decide) ?_)))
/-! ### a tuple against the empty one -/
section
variable {X : Cx}
def rNeT (K : PySem.W.Frag) : R2 := fun x y H Q => ∃ a b xs, x = .ref a ∧ y = .ref b ∧ SqT K H a xs ∧ SqT K H b [] ∧ Q (.bl (decide (xs ≠ []))) H
theorem op_neT (hu : X.A.units + 64 < cLine) : OpR X (compareOp .NotEq) (rNeT X.K) := by
  intro pins s σ H x y v u Q I rx ry h
  obtain ⟨a, b, xs, rfl, rfl, ha, hb, q⟩ := h
  obtain rfl : v = Value.ref a := rx
  obtain rfl : u = Value.ref b := ry
  obtain ⟨its, rv, hl, _⟩ := I.tuple ha
  obtain ⟨its2, rv2, hl2, _⟩ := I.tuple hb
  have e2 : its2 = [] := by cases rv2; rfl
  subst e2
  have hn := Paired.length rv
  refine SeqAt.RcNeAt.tuples (e := fun _ => true) hl hl2 (by omega) (fun j _ h2 => absurd h2 (by simp)) _ _ _ _ ⟨.bl _, H, I, ?_, q⟩
  show Value.bool _ = Value.bool _
  congr 1
  cases xs with
  | nil =>
    have e1 : its = [] := by cases rv; rfl
    subst e1
    rfl
  | cons z zs =>
    have : its.toArray.size ≠ 0 := by rw [List.size_toArray, ← hn]; simp
    simp
    intro e
    rw [e] at hn
    simp at hn
end
theorem tyX_tup {K : PySem.W.Frag} {H : Hp} {a : Addr} {xs : List V} (h : SqT K H a xs) : TyX K H (.ref a) (.type "tuple") := by
  rcases h with (h | ⟨o, h⟩) | ⟨o, its, n, hk, hc, _⟩
  · exact .base (.tup h)
  · exact .fTuple h
  · exact .kTuple hk hc
/-! ### a term's parts -/
inductive Pt where
  | fs (x : Str) | fi (i : Int) | fb (b : Bool) | one (t : T) | many (ts : List T)
def pdat : Pt → PyData
  | .fs x => .str x
  | .fi i => .int i
  | .fb b => .bool b
  | .one t => tdat t
  | .many ts => .tuple (tdatL ts)
def pks : Pt → List T
  | .one t => [t]
  | .many ts => ts
  | _ => []
def parts : T → List Pt
  | .num n => [.fi n]
  | .tru b => [.fb b]
  | .nam x => [.fs x]
  | .slf => []
  | .new x ts => [.fs x, .many ts]
  | .eld x ts => [.fs x, .many ts]
  | .fld t x => [.one t, .fs x]
  | .cal t x ts => [.one t, .fs x, .many ts]
  | .nt t => [.one t]
  | .two g a b => [.fs g, .one a, .one b]
  | .ite a b c => [.one a, .one b, .one c]
  | .lt x a b => [.fs x, .one a, .one b]
  | .st t x b => [.one t, .fs x, .one b]
theorem t_parts (t : T) : tdat t = .tuple (.str (tnm t) :: (parts t).map pdat) := by cases t <;> rfl
theorem t_kids (t : T) : t.depth = 1 + depthL ((parts t).flatMap pks) ∧ t.size = 1 + sizeL ((parts t).flatMap pks) := by
  cases t <;> simp [parts, pks, T.depth, T.size, depthL, sizeL]
local macro_rules | `(tactic| walk_at "rd1") => `(tactic| (first
  | with_reducible refine z_seq ?_ | with_reducible refine z_ifs ?_ | with_reducible refine z_next ?_ | with_reducible refine z_ret ?_ | with_reducible refine z_asg ?_ | with_reducible refine z_gname ?_
  | ((with_reducible apply z_var); exact rfl) | with_reducible refine z_c ?_ | with_reducible refine z_op ?_ | with_reducible refine z_bl ?_ | with_reducible refine z_test ?_ | with_reducible refine z_B ?_
  | with_reducible refine z_nil ?_ | with_reducible refine z_cons ?_ | with_reducible refine z_cb ?_ | with_reducible refine z_call ?_ | with_reducible refine iteT ?_ | with_reducible refine iteF ?_
  | with_reducible refine z_or ?_ | with_reducible refine z_and ?_ | with_reducible refine z_not ?_ | with_reducible refine z_orv ?_ | with_reducible refine z_andv ?_ | with_reducible refine z_notv ?_ | with_reducible refine z_un ?_
  | with_reducible refine z_eqS ?_ | with_reducible refine z_neS ?_ | with_reducible refine z_eqI ?_ | with_reducible refine z_neI ?_ | with_reducible refine z_i0 ?_ | with_reducible refine z_radd ?_ | with_reducible refine z_rsub ?_ | with_reducible refine z_iu ?_
  | with_reducible refine z_fld ?_ | with_reducible refine z_meth ?_ | with_reducible refine z_sfld ?_ | with_reducible refine z_flda ?_ | with_reducible refine z_make ?_ | with_reducible refine z_drop ?_ | with_reducible refine z_retn ?_ | with_reducible refine z_cont ?_
  | with_reducible refine z_tup ?_ | with_reducible refine z_lst ?_ | with_reducible refine z_slice ?_ | with_reducible refine z_nopart ?_ | with_reducible refine z_part ?_ | with_reducible refine z_intr ?_ | with_reducible refine z_m1 ?_ | with_reducible refine z_lc ?_ | with_reducible refine z_yes ?_ | with_reducible refine z_il ?_ | with_reducible refine z_it ?_ | with_reducible refine z_bm ?_ | with_reducible refine z_for ?_ | with_reducible refine z_gcons ?_ | with_reducible refine z_gnil ?_ | with_reducible refine z_es ?_ | with_reducible refine z_sub ?_ | with_reducible refine z_ri ?_ | with_reducible refine z_i0 ?_ | with_reducible refine z_bm0 ?_ | with_reducible refine z_revL ?_ | with_reducible refine z_rng ?_ | with_reducible refine z_enL ?_))
local macro_rules | `(tactic| walk_at "rd") => `(tactic| repeat (walk_at "rd1"))
local macro_rules | `(tactic| walk_at "no") => `(tactic| repeat (first | (walk_at "rd1") | refine ifF (bSf (by decide +kernel)) ?_ | refine ifF (bSf num_ne) ?_))
local macro_rules | `(tactic| walk_at "ln") => `(tactic| (rintro vs H Q E h; repeat (first | (obtain ⟨e, _⟩ := h; subst e; rfl) | (obtain ⟨_, h⟩ := h))))
section
variable {P : Program} {w : World} {K : PySem.W.Frag} {mg : Str → Option Value} {base : Heap}
def MsR (K : PySem.W.Frag) (H : Hp) (t : T) (v : V) : Prop := ∃ b, v = .ref b ∧ SqT K H b [.int (t.depth : Nat), .int (t.size : Nat)]
theorem msR_mono {H H' : Hp} (s : Same H H') (t : T) (v : V) (h : MsR K H t v) : MsR K H' t v := by
  obtain ⟨b, e, h⟩ := h
  exact ⟨b, e, Same.seqT s h⟩
def spMeas (K : PySem.W.Frag) (n : Nat) : Sp := fun vs H Q _ => ∃ (v : V) (t : T), vs = [v] ∧ Dp K H v (tdat t) ∧ t.depth ≤ n ∧ t.size ≤ 1000 ∧ ∀ H' u, Same H H' → MsR K H' t u → Q u H'
def MsOk (P : Program) (w : World) (K : PySem.W.Frag) (mg : Str → Option Value) (base : Heap) (n : Nat) : Prop := Cal P w K mg base CX0 (n + 1) "_law_measured" ["_law_term_here"] [] (spMeas K n)
structure MI (K : PySem.W.Frag) (H Hc : Hp) (R : Addr) (ks : List EH.T) (vs : List V) : Prop where
  new : H R = none
  same : Same H Hc
  lst : Hc R = some (.lst vs)
  ms : All2 (MsR K Hc) ks vs
theorem mi_next {H Hc H' : Hp} {R p : Addr} {ks ls : List EH.T} {vs ws : List V} (I : MI K H Hc R ks vs) (s : Same Hc H') (hp : H' p = none) (h : All2 (MsR K H') ls ws) : MI K H (upd H' p (.lst (vs ++ ws))) p (ks ++ ls) (vs ++ ws) := by
  have s2 := Same.new hp (o := .lst (vs ++ ws))
  have app : ∀ {a : List EH.T} {xs : List V} {b : List EH.T} {ys : List V}, All2 (MsR K (upd H' p (.lst (vs ++ ws)))) a xs → All2 (MsR K (upd H' p (.lst (vs ++ ws)))) b ys → All2 (MsR K (upd H' p (.lst (vs ++ ws)))) (a ++ b) (xs ++ ys) := by
    intro a
    induction a with
    | nil => intro xs b ys e q; rw [show xs = [] from e]; exact q
    | cons t a ih => intro xs b ys ⟨v, r, e, h1, h2⟩ q; rw [e]; exact ⟨v, r ++ ys, rfl, h1, ih h2 q⟩
  exact ⟨Fr.same I.same _ (Fr.same s _ hp), (I.same.trans s).trans s2, upd_same, app (All2.mono (fun t v q => msR_mono (s.trans s2) t v q) I.ms) (All2.mono (fun t v q => msR_mono s2 t v q) h)⟩
theorem kid_le {t : EH.T} {ks : List EH.T} {x : EH.T} (h : x ∈ ks) {n : Nat} (hd : depthL ks ≤ n) : x.depth ≤ n := Nat.le_trans (depthL_le h) hd
theorem sizeL_le {ks : List EH.T} {x : EH.T} (h : x ∈ ks) : x.size ≤ sizeL ks := by
  obtain ⟨i, hi⟩ := List.mem_iff_getElem?.mp h
  exact sizeL_at (Nat.le_refl _) hi
theorem pks_mem {ps : List Pt} {p : Pt} {x : EH.T} (h : p ∈ ps) (hx : x ∈ pks p) : x ∈ ps.flatMap pks := List.mem_flatMap.mpr ⟨p, h, hx⟩
theorem flat_takeP {l : List Pt} {i : Nat} {a : Pt} (h : l[i]? = some a) : (l.take (i + 1)).flatMap pks = (l.take i).flatMap pks ++ pks a := by
  rw [List.take_add_one, h, List.flatMap_append]
  simp
theorem sc_z_measured : FnScope ["_law_term_here", "_law_rows", "_law_part", "_law_some", "_law_one", "_law_row_here"] ["_law_term_here"] (defScope s_z_measured) := ⟨rfl, rfl, rfl, by decide +kernel, rfl, by decide +kernel, by decide +kernel⟩
theorem ok_z_measured (T : Tx K mg) {n : Nat} (IB : ∀ m, m < n → MsOk P w K mg base m) : Cal P w K mg base CX0 (n+1) "_law_measured" ["_law_term_here"] [] (spMeas K n) := by
  obtain ⟨fd, F⟩ := T.f_z_measured
  refine cal_def F T.g_z_measured sc_z_measured (fun _ _ _ _ _ _ us hl => match us, hl with | [_], _ => rfl) (by walk_at "ln") (fun cdv A outer s H vs Q E hr h => ?_)
  obtain ⟨v, t, rfl, hv, hd, hz, k⟩ := h
  have hn : n - 1 < n := by have := depth_pos t; omega
  generalize hm0 : n - 1 = m at hn
  have hm := hn
  obtain ⟨K1, K2⟩ := t_kids t
  rw [K1] at hd
  rw [K2] at hz
  have hdm : depthL ((parts t).flatMap pks) ≤ m := by omega
  refine ⟨_, (pss_cons (ps_set (i := 1) sc_z_measured.nd rfl (Or.inl rfl) (pe_lst pa_nil))
    (pss_cons (ps_for PassesOwn.never rfl (pi_tup (pe_slice sl_tup (pv 0) (po_some pe_int) po_none)) (pg_name (i := 2) sc_z_measured.nd rfl (Or.inl rfl)) (pss_cons (ps_set (i := 3) sc_z_measured.nd rfl (Or.inl rfl) (pe_op op_rep (pe_lst (pa_cons (pv 2) pa_nil)) (pe_callTy call_int1 (by rfl) T.b_int (by decide +kernel) (pa_cons (pe_and (pe_callB call_isi (by rfl) T.b_isinstance (by decide +kernel) (pa_cons (pv 2) (pa_cons (pe_bltn (v := .ty "tuple") (u := .type "tuple") (by rfl) T.b_tuple (by decide +kernel) rfl) pa_nil))) (pe_one (pe_cmpR (op_neT hr.units) (pv 2) (pe_tup pa_nil) (nomark _)))) pa_nil))))
    (pss_cons (ps_if (PW.pt (pw_and (pt_cmpR (op_neE hr.units) (pv 3) (pe_lst pa_nil) (nomark _)) (pw_and1 (pt_val (pe_callB call_isi (by rfl) T.b_isinstance (by decide +kernel) (pa_cons (pe_ix ix_tup (pv 2) pe_int (fun _ _ => rfl)) (pa_cons (pe_bltn (v := .ty "tuple") (u := .type "tuple") (by rfl) T.b_tuple (by decide +kernel) rfl) pa_nil))))))) (pss_one (ps_set (i := 3) sc_z_measured.nd rfl (Or.inl rfl) (pe_callTy call_list_of (by rfl) T.b_list (by decide +kernel) (pa_cons (pv 2) pa_nil)))) pss_nil)
    (pss_one (ps_set (i := 1) sc_z_measured.nd rfl (Or.inl rfl) (pe_op op_cat (pv 1) (pe_lc (own := [("_law_one", 4)]) (g := gName 4) (by rfl) sc_z_measured.nd (pi_list (pv 3)) (blkOk_by (own := [("_law_one", 4)]) (N := ["_law_term_here", "_law_rows", "_law_part", "_law_some", "_law_one", "_law_row_here"]) (sc := defScope s_z_measured) (by decide +kernel)) (fun _ _ _ _ _ => pg_name (i := 4) sc_z_measured.nd rfl (Or.inl rfl)) (fun _ _ _ _ _ => pts_nil) (fun _ _ _ _ _ => (pe_cal (IB _ hm) (hr.mono (by omega)) pass0 (pa_cons (pv 4) pa_nil))))))))))
    (pss_one (ps_ret (pe_tup (pa_cons (pe_op op_add pe_int (pe_callB (cr_max rfl) (by rfl) T.b_max (by decide +kernel) (pa_cons (pe_op op_cat (pe_lc (own := [("_law_row_here", 5)]) (g := gName 5) (by rfl) sc_z_measured.nd (pi_list (pv 1)) (blkOk_by (own := [("_law_row_here", 5)]) (N := ["_law_term_here", "_law_rows", "_law_part", "_law_some", "_law_one", "_law_row_here"]) (sc := defScope s_z_measured) (by decide +kernel)) (fun _ _ _ _ _ => pg_name (i := 5) sc_z_measured.nd rfl (Or.inl rfl)) (fun _ _ _ _ _ => pts_nil) (fun _ _ _ _ _ => (pe_ix (ix_tupK (K := K) rfl) (pv 5) pe_int (fun _ _ => rfl)))) (pe_lst (pa_cons pe_int pa_nil))) pa_nil))) (pa_cons (pe_op op_add pe_int (pe_callB (cr_sum rfl) (by rfl) T.b_sum (by decide +kernel) (pa_cons (pe_lc (own := [("_law_row_here", 5)]) (g := gName 5) (by rfl) sc_z_measured.nd (pi_list (pv 1)) (blkOk_by (own := [("_law_row_here", 5)]) (N := ["_law_term_here", "_law_rows", "_law_part", "_law_some", "_law_one", "_law_row_here"]) (sc := defScope s_z_measured) (by decide +kernel)) (fun _ _ _ _ _ => pg_name (i := 5) sc_z_measured.nd rfl (Or.inl rfl)) (fun _ _ _ _ _ => pts_nil) (fun _ _ _ _ _ => (pe_ix (ix_tupK (K := K) rfl) (pv 5) pe_int (fun _ _ => rfl)))) pa_nil))) pa_nil))))))), ?_⟩
  rw [t_parts t] at hv
  obtain ⟨a, xs, rfl, h1, h2⟩ := dp_tup hv
  obtain ⟨v0, vr, rfl, d0, h3⟩ := dpa_cons h2
  have hlx := DpAll.len h3
  rw [List.length_map] at hlx
  have hpn : ((parts t).flatMap pks).length ≤ 1000 := by have := len_sizeL ((parts t).flatMap pks); omega
  walk_at "ar"
  refine z_lstr (by show 0 ≤ 100000; omega) fun R0 hR0 => ?_
  have s0 := Same.new hR0 (o := .lst [])
  walk_at "ar"
  refine ⟨a, _, rfl, Same.seqT s0 h1, fun z => ?_, fun p1 hp1 => ?_⟩
  · have h1 := z.1
    have : HT.sIx (v0 :: vr).length 0 (some 1) = 1 := by
      show min (1 : Int).toNat (vr.length + 1) = 1
      have : (1 : Int).toNat = 1 := rfl
      omega
    rw [this] at h1
    cases h1
  rw [tail_cut]
  have s1 := Same.new hp1 (o := .tup vr)
  have hq1 : SqT K (upd (upd H R0 (.lst [])) p1 (.tup vr)) p1 vr := SqT.of upd_same
  have n01 : R0 ≠ p1 := fun z => by rw [← z, upd_same] at hp1; cases hp1
  have I0 : MI K H (upd (upd H R0 (.lst [])) p1 (.tup vr)) R0 [] [] := ⟨hR0, s0.trans s1, by rw [upd_ne n01]; exact upd_same, rfl⟩
  generalize upd (upd H R0 (.lst [])) p1 (.tup vr) = H1 at I0 hq1
  refine z_itr hq1 ?_
  refine z_forr (walk_tup (K := K) (a := p1) (xs := vr)) (fun j σ Hc => ∃ R vs c2 c3, σ = [some (.ref a), some (.ref R), c2, c3, none, none] ∧ Same H1 Hc ∧ MI K H Hc R (((parts t).take j).flatMap pks) vs) ⟨R0, [], _, _, rfl, Same.refl _, I0⟩ (fun j σ Hc _ q => ?_) ?_ ?_
  · obtain ⟨_, _, _, _, _, s, _⟩ := q
    exact Same.seqT s hq1
  · rintro j y σ Hc H' hj ⟨R, vs, c2, c3, rfl, sc, I⟩ ⟨rfl, hy⟩
    obtain ⟨d, hd1, hd2⟩ := DpAll.at h3 hy
    obtain ⟨p, hp, rfl⟩ := map_at hd1
    have hmem := List.mem_of_getElem? hp
    have hd3 := Dp.mono I.same hd2
    have hvl := All2.len I.ms
    have hvs : vs.length ≤ 1000 := by
      have q := congrArg List.length (List.take_append_drop j (parts t))
      have e : (((parts t).take j).flatMap pks).length ≤ ((parts t).flatMap pks).length := by
        conv => rhs; rw [← List.take_append_drop j (parts t), List.flatMap_append, List.length_append]
        omega
      omega
    have hks : ∀ x ∈ pks p, x.depth ≤ m ∧ x.size ≤ 1000 := fun x hx => ⟨Nat.le_trans (depthL_le (pks_mem hmem hx)) hdm, by have := sizeL_le (pks_mem hmem hx); omega⟩
    have hkl : (pks p).length ≤ 1000 := by
      obtain ⟨i, hi⟩ := List.mem_iff_getElem?.mp hmem
      have e : (pks p).length ≤ ((parts t).flatMap pks).length := by
        rw [List.length_flatMap]
        exact le_sum (List.mem_map.mpr ⟨p, hmem, rfl⟩)
      omega
    walk_at "ar"
    cases p with
    | fs x =>
      have ey : y = V.str x := by
        cases hd3
        rfl
      subst ey
      refine z_lstr (by show 1 ≤ 100000; omega) fun p2 hp2 => ?_
      have s2 := Same.new hp2 (o := .lst [.str x])
      walk_at "ar"
      refine ⟨_, _, _, _, false, rfl, .ty _, .base (.str _), kit_ty (a := "str") (by decide +kernel), ?_⟩
      walk_at "ar"
      refine .inr ⟨_, rfl, ?_⟩
      have q2 : upd H' p2 (.lst [.str x]) p2 = some (.lst [.str x]) := upd_same
      refine ⟨p2, 0, _, rfl, rfl, q2, by decide, by decide, len_sz (by show 1 * 0 ≤ 100000; omega), fun p4 hp4 => ?_⟩
      have s4 := Same.new hp4 (o := .lst [])
      have e4 : (List.replicate (0 : Int).toNat [V.str x]).flatten = [] := rfl
      rw [e4]
      walk_at "ar"
      refine z_lstr (by show 0 ≤ 100000; omega) fun p5 hp5 => ?_
      have s5 := Same.new hp5 (o := .lst [])
      refine z_neE (xs := []) (SqL.of (s5 _ _ upd_same)) (SqL.of upd_same) ?_
      have s25 := (s2.trans s4).trans s5
      walk_at "ar"
      refine ifF (by simp) ?_
      have hSM := s5 _ _ (upd_same (H := upd H' p2 (.lst [.str x])) (a := p4) (o := .lst []))
      have I5 : MI K H _ R (((parts t).take j).flatMap pks) vs := ⟨I.new, I.same.trans s25, s25 _ _ I.lst, All2.mono (fun t v q => msR_mono s25 t v q) I.ms⟩
      have hkd : DpAll K (upd (upd (upd H' p2 (.lst [.str x])) p4 (.lst [])) p5 (.lst [])) [] (tdatL []) := .nil
      have sc5 := sc.trans s25
      walk_at "ar"
      refine z_ilr (SqL.of hSM) ?_
      refine z_lcj (walk_list (K := K) (xs := ([] : List V))) (fun D i acc Hd => All2 (MsR K (cut D Hd)) ((([] : List EH.T)).take i) acc) (fun H2 hS => SqL.of (hS _ _ hSM)) (fun _ _ _ _ => rfl) ?_ ?_
      · rintro D i acc z H6 H7 hD1 hi hS hal hacc hR ⟨rfl, hz1⟩
        obtain ⟨d, hd5, hd6⟩ := DpAll.at hkd hz1
        obtain ⟨x, hx, rfl⟩ := tdatL_get hd5
        obtain ⟨c1, c2⟩ := hks x (List.mem_of_getElem? hx)
        have hsl := DpAll.len hkd
        rw [tdatL_len] at hsl
        walk_at "rd"
        refine ⟨rfl, ?_⟩
        walk_at "ar"
        refine ⟨_, x, rfl, Dp.mono hS hd6, c1, c2, fun H8 u8 s8 m8 => ?_⟩
        obtain ⟨b8, rfl, m8⟩ := m8
        refine lc_end hD1 hS hacc hal (by rw [hsl] at hi; have : i < (([] : List EH.T)).length := hi; have := hkl; simp only [pks] at this; omega) s8 fun H9 h9 keep S9 => ?_
        have mv : Same (cut D H8) (cut D H9) := fun b o e => by
          obtain ⟨n, e⟩ := cut_at e
          exact cut_of (keep b o n e) n
        rw [List.take_add_one, hx]
        exact All2.app (All2.mono (fun t v q => msR_mono ((cut_mono s8).trans mv) t v q) hR) ⟨b8, rfl, Same.seqT mv (seqT_cut (s8 _ _ hacc) m8)⟩
      · intro D acc H6 hD1 hS hacc hR
        have hsl := DpAll.len hkd
        rw [tdatL_len] at hsl
        have hR2 : All2 (MsR K H6) (([] : List EH.T)) acc := by
          rw [hsl, List.take_length] at hR
          exact All2.mono (fun t v q => msR_mono (cut_same D H6) t v q) hR
        have hal := All2.len hR2
        have hkl' := hkl
        simp only [pks] at hkl'
        refine ⟨R, D, _, _, rfl, rfl, hS _ _ I5.lst, hacc, len_sz (by omega), fun p9 hp9 => ?_⟩
        refine ⟨p9, vs ++ acc, _, _, rfl, (sc5.trans hS).trans (Same.new hp9), ?_⟩
        have q := mi_next I5 hS hp9 hR2
        rw [flat_takeP hp]
        exact q
    | fi i0 =>
      have ey : y = V.int i0 := by
        cases hd3
        rfl
      subst ey
      refine z_lstr (by show 1 ≤ 100000; omega) fun p2 hp2 => ?_
      have s2 := Same.new hp2 (o := .lst [.int i0])
      walk_at "ar"
      refine ⟨_, _, _, _, false, rfl, .ty _, .base (.int _), kit_ty (a := "int") (by decide +kernel), ?_⟩
      walk_at "ar"
      refine .inr ⟨_, rfl, ?_⟩
      have q2 : upd H' p2 (.lst [.int i0]) p2 = some (.lst [.int i0]) := upd_same
      refine ⟨p2, 0, _, rfl, rfl, q2, by decide, by decide, len_sz (by show 1 * 0 ≤ 100000; omega), fun p4 hp4 => ?_⟩
      have s4 := Same.new hp4 (o := .lst [])
      have e4 : (List.replicate (0 : Int).toNat [V.int i0]).flatten = [] := rfl
      rw [e4]
      walk_at "ar"
      refine z_lstr (by show 0 ≤ 100000; omega) fun p5 hp5 => ?_
      have s5 := Same.new hp5 (o := .lst [])
      refine z_neE (xs := []) (SqL.of (s5 _ _ upd_same)) (SqL.of upd_same) ?_
      have s25 := (s2.trans s4).trans s5
      walk_at "ar"
      refine ifF (by simp) ?_
      have hSM := s5 _ _ (upd_same (H := upd H' p2 (.lst [.int i0])) (a := p4) (o := .lst []))
      have I5 : MI K H _ R (((parts t).take j).flatMap pks) vs := ⟨I.new, I.same.trans s25, s25 _ _ I.lst, All2.mono (fun t v q => msR_mono s25 t v q) I.ms⟩
      have hkd : DpAll K (upd (upd (upd H' p2 (.lst [.int i0])) p4 (.lst [])) p5 (.lst [])) [] (tdatL []) := .nil
      have sc5 := sc.trans s25
      walk_at "ar"
      refine z_ilr (SqL.of hSM) ?_
      refine z_lcj (walk_list (K := K) (xs := ([] : List V))) (fun D i acc Hd => All2 (MsR K (cut D Hd)) ((([] : List EH.T)).take i) acc) (fun H2 hS => SqL.of (hS _ _ hSM)) (fun _ _ _ _ => rfl) ?_ ?_
      · rintro D i acc z H6 H7 hD1 hi hS hal hacc hR ⟨rfl, hz1⟩
        obtain ⟨d, hd5, hd6⟩ := DpAll.at hkd hz1
        obtain ⟨x, hx, rfl⟩ := tdatL_get hd5
        obtain ⟨c1, c2⟩ := hks x (List.mem_of_getElem? hx)
        have hsl := DpAll.len hkd
        rw [tdatL_len] at hsl
        walk_at "rd"
        refine ⟨rfl, ?_⟩
        walk_at "ar"
        refine ⟨_, x, rfl, Dp.mono hS hd6, c1, c2, fun H8 u8 s8 m8 => ?_⟩
        obtain ⟨b8, rfl, m8⟩ := m8
        refine lc_end hD1 hS hacc hal (by rw [hsl] at hi; have : i < (([] : List EH.T)).length := hi; have := hkl; simp only [pks] at this; omega) s8 fun H9 h9 keep S9 => ?_
        have mv : Same (cut D H8) (cut D H9) := fun b o e => by
          obtain ⟨n, e⟩ := cut_at e
          exact cut_of (keep b o n e) n
        rw [List.take_add_one, hx]
        exact All2.app (All2.mono (fun t v q => msR_mono ((cut_mono s8).trans mv) t v q) hR) ⟨b8, rfl, Same.seqT mv (seqT_cut (s8 _ _ hacc) m8)⟩
      · intro D acc H6 hD1 hS hacc hR
        have hsl := DpAll.len hkd
        rw [tdatL_len] at hsl
        have hR2 : All2 (MsR K H6) (([] : List EH.T)) acc := by
          rw [hsl, List.take_length] at hR
          exact All2.mono (fun t v q => msR_mono (cut_same D H6) t v q) hR
        have hal := All2.len hR2
        have hkl' := hkl
        simp only [pks] at hkl'
        refine ⟨R, D, _, _, rfl, rfl, hS _ _ I5.lst, hacc, len_sz (by omega), fun p9 hp9 => ?_⟩
        refine ⟨p9, vs ++ acc, _, _, rfl, (sc5.trans hS).trans (Same.new hp9), ?_⟩
        have q := mi_next I5 hS hp9 hR2
        rw [flat_takeP hp]
        exact q
    | fb b0 =>
      have ey : y = V.bl b0 := by
        cases hd3
        rfl
      subst ey
      refine z_lstr (by show 1 ≤ 100000; omega) fun p2 hp2 => ?_
      have s2 := Same.new hp2 (o := .lst [.bl b0])
      walk_at "ar"
      refine ⟨_, _, _, _, false, rfl, .ty _, .base (.bl _), kit_ty (a := "bool") (by decide +kernel), ?_⟩
      walk_at "ar"
      refine .inr ⟨_, rfl, ?_⟩
      have q2 : upd H' p2 (.lst [.bl b0]) p2 = some (.lst [.bl b0]) := upd_same
      refine ⟨p2, 0, _, rfl, rfl, q2, by decide, by decide, len_sz (by show 1 * 0 ≤ 100000; omega), fun p4 hp4 => ?_⟩
      have s4 := Same.new hp4 (o := .lst [])
      have e4 : (List.replicate (0 : Int).toNat [V.bl b0]).flatten = [] := rfl
      rw [e4]
      walk_at "ar"
      refine z_lstr (by show 0 ≤ 100000; omega) fun p5 hp5 => ?_
      have s5 := Same.new hp5 (o := .lst [])
      refine z_neE (xs := []) (SqL.of (s5 _ _ upd_same)) (SqL.of upd_same) ?_
      have s25 := (s2.trans s4).trans s5
      walk_at "ar"
      refine ifF (by simp) ?_
      have hSM := s5 _ _ (upd_same (H := upd H' p2 (.lst [.bl b0])) (a := p4) (o := .lst []))
      have I5 : MI K H _ R (((parts t).take j).flatMap pks) vs := ⟨I.new, I.same.trans s25, s25 _ _ I.lst, All2.mono (fun t v q => msR_mono s25 t v q) I.ms⟩
      have hkd : DpAll K (upd (upd (upd H' p2 (.lst [.bl b0])) p4 (.lst [])) p5 (.lst [])) [] (tdatL []) := .nil
      have sc5 := sc.trans s25
      walk_at "ar"
      refine z_ilr (SqL.of hSM) ?_
      refine z_lcj (walk_list (K := K) (xs := ([] : List V))) (fun D i acc Hd => All2 (MsR K (cut D Hd)) ((([] : List EH.T)).take i) acc) (fun H2 hS => SqL.of (hS _ _ hSM)) (fun _ _ _ _ => rfl) ?_ ?_
      · rintro D i acc z H6 H7 hD1 hi hS hal hacc hR ⟨rfl, hz1⟩
        obtain ⟨d, hd5, hd6⟩ := DpAll.at hkd hz1
        obtain ⟨x, hx, rfl⟩ := tdatL_get hd5
        obtain ⟨c1, c2⟩ := hks x (List.mem_of_getElem? hx)
        have hsl := DpAll.len hkd
        rw [tdatL_len] at hsl
        walk_at "rd"
        refine ⟨rfl, ?_⟩
        walk_at "ar"
        refine ⟨_, x, rfl, Dp.mono hS hd6, c1, c2, fun H8 u8 s8 m8 => ?_⟩
        obtain ⟨b8, rfl, m8⟩ := m8
        refine lc_end hD1 hS hacc hal (by rw [hsl] at hi; have : i < (([] : List EH.T)).length := hi; have := hkl; simp only [pks] at this; omega) s8 fun H9 h9 keep S9 => ?_
        have mv : Same (cut D H8) (cut D H9) := fun b o e => by
          obtain ⟨n, e⟩ := cut_at e
          exact cut_of (keep b o n e) n
        rw [List.take_add_one, hx]
        exact All2.app (All2.mono (fun t v q => msR_mono ((cut_mono s8).trans mv) t v q) hR) ⟨b8, rfl, Same.seqT mv (seqT_cut (s8 _ _ hacc) m8)⟩
      · intro D acc H6 hD1 hS hacc hR
        have hsl := DpAll.len hkd
        rw [tdatL_len] at hsl
        have hR2 : All2 (MsR K H6) (([] : List EH.T)) acc := by
          rw [hsl, List.take_length] at hR
          exact All2.mono (fun t v q => msR_mono (cut_same D H6) t v q) hR
        have hal := All2.len hR2
        have hkl' := hkl
        simp only [pks] at hkl'
        refine ⟨R, D, _, _, rfl, rfl, hS _ _ I5.lst, hacc, len_sz (by omega), fun p9 hp9 => ?_⟩
        refine ⟨p9, vs ++ acc, _, _, rfl, (sc5.trans hS).trans (Same.new hp9), ?_⟩
        have q := mi_next I5 hS hp9 hR2
        rw [flat_takeP hp]
        exact q
    | one u =>
      have hd4 : Dp K H' y (tdat u) := hd3
      obtain ⟨r, er⟩ := t_hd u
      have hd5 := hd4
      rw [er] at hd5
      obtain ⟨b, ys, rfl, g1, g2⟩ := dp_tup hd5
      obtain ⟨w0, wr, rfl, f0, f1⟩ := dpa_cons g2
      have e0 := dp_str f0
      subst e0
      refine z_lstr (by show 1 ≤ 100000; omega) fun p2 hp2 => ?_
      have s2 := Same.new hp2 (o := .lst [.ref b])
      walk_at "ar"
      refine ⟨_, _, _, _, true, rfl, .ty _, tyX_tup (Same.seqT s2 g1), kit_ty (a := "tuple") (by decide +kernel), ?_⟩
      walk_at "ar"
      refine z_tupr (by show 0 ≤ 100000; omega) fun p3 hp3 => ?_
      have s3 := Same.new hp3 (o := .tup [])
      refine ⟨b, p3, _, rfl, rfl, Same.seqT (s2.trans s3) g1, SqT.of upd_same, ?_⟩
      rw [decide_eq_true (by simp)]
      walk_at "ar"
      refine .inr ⟨_, rfl, ?_⟩
      have q2 := s3 _ _ (upd_same (H := H') (a := p2) (o := .lst [.ref b]))
      refine ⟨p2, 1, _, rfl, rfl, q2, by decide, by decide, len_sz (by show 1 * 1 ≤ 100000; omega), fun p4 hp4 => ?_⟩
      have s4 := Same.new hp4 (o := .lst [.ref b])
      have e4 : (List.replicate (1 : Int).toNat [V.ref b]).flatten = [.ref b] := rfl
      rw [e4]
      walk_at "ar"
      refine z_lstr (by show 0 ≤ 100000; omega) fun p5 hp5 => ?_
      have s5 := Same.new hp5 (o := .lst [])
      refine z_neE (xs := [.ref b]) (SqL.of (s5 _ _ upd_same)) (SqL.of upd_same) ?_
      have s25 := ((s2.trans s3).trans s4).trans s5
      walk_at "ar"
      refine ifT (by simp) ?_
      walk_at "ar"
      refine z_ixT (Same.seqT s25 g1) (v := .str (tnm u)) (atI_nat (j := 0) rfl) ?_
      walk_at "ar"
      refine ⟨_, _, _, _, false, rfl, .ty _, .base (.str _), kit_ty (a := "str") (by decide +kernel), ?_⟩
      have hSM := s5 _ _ (upd_same (H := upd (upd H' p2 (.lst [.ref b])) p3 (.tup [])) (a := p4) (o := .lst [.ref b]))
      have I5 : MI K H _ R (((parts t).take j).flatMap pks) vs := ⟨I.new, I.same.trans s25, s25 _ _ I.lst, All2.mono (fun t v q => msR_mono s25 t v q) I.ms⟩
      have hkd : DpAll K (upd (upd (upd (upd H' p2 (.lst [.ref b])) p3 (.tup [])) p4 (.lst [.ref b])) p5 (.lst [])) [.ref b] (tdatL [u]) := .cons (Dp.mono s25 hd4) .nil
      have sc5 := sc.trans s25
      walk_at "ar"
      refine z_ilr (SqL.of hSM) ?_
      refine z_lcj (walk_list (K := K) (xs := [V.ref b])) (fun D i acc Hd => All2 (MsR K (cut D Hd)) (([u]).take i) acc) (fun H2 hS => SqL.of (hS _ _ hSM)) (fun _ _ _ _ => rfl) ?_ ?_
      · rintro D i acc z H6 H7 hD1 hi hS hal hacc hR ⟨rfl, hz1⟩
        obtain ⟨d, hd5, hd6⟩ := DpAll.at hkd hz1
        obtain ⟨x, hx, rfl⟩ := tdatL_get hd5
        obtain ⟨c1, c2⟩ := hks x (List.mem_of_getElem? hx)
        have hsl := DpAll.len hkd
        rw [tdatL_len] at hsl
        walk_at "rd"
        refine ⟨rfl, ?_⟩
        walk_at "ar"
        refine ⟨_, x, rfl, Dp.mono hS hd6, c1, c2, fun H8 u8 s8 m8 => ?_⟩
        obtain ⟨b8, rfl, m8⟩ := m8
        refine lc_end hD1 hS hacc hal (by rw [hsl] at hi; have : i < ([u]).length := hi; have := hkl; simp only [pks] at this; omega) s8 fun H9 h9 keep S9 => ?_
        have mv : Same (cut D H8) (cut D H9) := fun b o e => by
          obtain ⟨n, e⟩ := cut_at e
          exact cut_of (keep b o n e) n
        rw [List.take_add_one, hx]
        exact All2.app (All2.mono (fun t v q => msR_mono ((cut_mono s8).trans mv) t v q) hR) ⟨b8, rfl, Same.seqT mv (seqT_cut (s8 _ _ hacc) m8)⟩
      · intro D acc H6 hD1 hS hacc hR
        have hsl := DpAll.len hkd
        rw [tdatL_len] at hsl
        have hR2 : All2 (MsR K H6) ([u]) acc := by
          rw [hsl, List.take_length] at hR
          exact All2.mono (fun t v q => msR_mono (cut_same D H6) t v q) hR
        have hal := All2.len hR2
        have hkl' := hkl
        simp only [pks] at hkl'
        refine ⟨R, D, _, _, rfl, rfl, hS _ _ I5.lst, hacc, len_sz (by omega), fun p9 hp9 => ?_⟩
        refine ⟨p9, vs ++ acc, _, _, rfl, (sc5.trans hS).trans (Same.new hp9), ?_⟩
        have q := mi_next I5 hS hp9 hR2
        rw [flat_takeP hp]
        exact q
    | many us =>
      have hd4 : Dp K H' y (.tuple (tdatL us)) := hd3
      obtain ⟨b, ys, rfl, g1, g2⟩ := dp_tup hd4
      refine z_lstr (by show 1 ≤ 100000; omega) fun p2 hp2 => ?_
      have s2 := Same.new hp2 (o := .lst [.ref b])
      walk_at "ar"
      refine ⟨_, _, _, _, true, rfl, .ty _, tyX_tup (Same.seqT s2 g1), kit_ty (a := "tuple") (by decide +kernel), ?_⟩
      walk_at "ar"
      refine z_tupr (by show 0 ≤ 100000; omega) fun p3 hp3 => ?_
      have s3 := Same.new hp3 (o := .tup [])
      refine ⟨b, p3, _, rfl, rfl, Same.seqT (s2.trans s3) g1, SqT.of upd_same, ?_⟩
      have q2 := s3 _ _ (upd_same (H := H') (a := p2) (o := .lst [.ref b]))
      cases us with
      | nil =>
        have ey := dpa_nil g2
        subst ey
        rw [decide_eq_false (by simp)]
        walk_at "ar"
        refine .inr ⟨_, rfl, ?_⟩
        refine ⟨p2, 0, _, rfl, rfl, q2, by decide, by decide, len_sz (by show 1 * 0 ≤ 100000; omega), fun p4 hp4 => ?_⟩
        have s4 := Same.new hp4 (o := .lst [])
        have e4 : (List.replicate (0 : Int).toNat [V.ref b]).flatten = [] := rfl
        rw [e4]
        walk_at "ar"
        refine z_lstr (by show 0 ≤ 100000; omega) fun p5 hp5 => ?_
        have s5 := Same.new hp5 (o := .lst [])
        refine z_neE (xs := []) (SqL.of (s5 _ _ upd_same)) (SqL.of upd_same) ?_
        have s25 := ((s2.trans s3).trans s4).trans s5
        walk_at "ar"
        refine ifF (by simp) ?_
        have hSM := s5 _ _ (upd_same (H := upd (upd H' p2 (.lst [.ref b])) p3 (.tup [])) (a := p4) (o := .lst []))
        have I5 : MI K H _ R (((parts t).take j).flatMap pks) vs := ⟨I.new, I.same.trans s25, s25 _ _ I.lst, All2.mono (fun t v q => msR_mono s25 t v q) I.ms⟩
        have hkd : DpAll K (upd (upd (upd (upd H' p2 (.lst [.ref b])) p3 (.tup [])) p4 (.lst [])) p5 (.lst [])) [] (tdatL []) := .nil
        have sc5 := sc.trans s25
        walk_at "ar"
        refine z_ilr (SqL.of hSM) ?_
        refine z_lcj (walk_list (K := K) (xs := ([] : List V))) (fun D i acc Hd => All2 (MsR K (cut D Hd)) ((([] : List EH.T)).take i) acc) (fun H2 hS => SqL.of (hS _ _ hSM)) (fun _ _ _ _ => rfl) ?_ ?_
        · rintro D i acc z H6 H7 hD1 hi hS hal hacc hR ⟨rfl, hz1⟩
          obtain ⟨d, hd5, hd6⟩ := DpAll.at hkd hz1
          obtain ⟨x, hx, rfl⟩ := tdatL_get hd5
          obtain ⟨c1, c2⟩ := hks x (List.mem_of_getElem? hx)
          have hsl := DpAll.len hkd
          rw [tdatL_len] at hsl
          walk_at "rd"
          refine ⟨rfl, ?_⟩
          walk_at "ar"
          refine ⟨_, x, rfl, Dp.mono hS hd6, c1, c2, fun H8 u8 s8 m8 => ?_⟩
          obtain ⟨b8, rfl, m8⟩ := m8
          refine lc_end hD1 hS hacc hal (by rw [hsl] at hi; have : i < (([] : List EH.T)).length := hi; have := hkl; simp only [pks] at this; omega) s8 fun H9 h9 keep S9 => ?_
          have mv : Same (cut D H8) (cut D H9) := fun b o e => by
            obtain ⟨n, e⟩ := cut_at e
            exact cut_of (keep b o n e) n
          rw [List.take_add_one, hx]
          exact All2.app (All2.mono (fun t v q => msR_mono ((cut_mono s8).trans mv) t v q) hR) ⟨b8, rfl, Same.seqT mv (seqT_cut (s8 _ _ hacc) m8)⟩
        · intro D acc H6 hD1 hS hacc hR
          have hsl := DpAll.len hkd
          rw [tdatL_len] at hsl
          have hR2 : All2 (MsR K H6) (([] : List EH.T)) acc := by
            rw [hsl, List.take_length] at hR
            exact All2.mono (fun t v q => msR_mono (cut_same D H6) t v q) hR
          have hal := All2.len hR2
          have hkl' := hkl
          simp only [pks] at hkl'
          refine ⟨R, D, _, _, rfl, rfl, hS _ _ I5.lst, hacc, len_sz (by omega), fun p9 hp9 => ?_⟩
          refine ⟨p9, vs ++ acc, _, _, rfl, (sc5.trans hS).trans (Same.new hp9), ?_⟩
          have q := mi_next I5 hS hp9 hR2
          rw [flat_takeP hp]
          exact q
      | cons u0 us =>
        obtain ⟨w0, wr, rfl, f0, f1⟩ := dpa_cons g2
        have hyl : (w0 :: wr).length = (tdatL (u0 :: us)).length := DpAll.len g2
        rw [tdatL_len] at hyl
        obtain ⟨r, er⟩ := t_hd u0
        rw [er] at f0
        obtain ⟨b0, ys0, rfl, g3, g4⟩ := dp_tup f0
        rw [decide_eq_true (by simp)]
        walk_at "ar"
        refine .inr ⟨_, rfl, ?_⟩
        refine ⟨p2, 1, _, rfl, rfl, q2, by decide, by decide, len_sz (by show 1 * 1 ≤ 100000; omega), fun p4 hp4 => ?_⟩
        have s4 := Same.new hp4 (o := .lst [.ref b])
        have e4 : (List.replicate (1 : Int).toNat [V.ref b]).flatten = [.ref b] := rfl
        rw [e4]
        walk_at "ar"
        refine z_lstr (by show 0 ≤ 100000; omega) fun p5 hp5 => ?_
        have s5 := Same.new hp5 (o := .lst [])
        refine z_neE (xs := [.ref b]) (SqL.of (s5 _ _ upd_same)) (SqL.of upd_same) ?_
        have s25 := ((s2.trans s3).trans s4).trans s5
        walk_at "ar"
        refine ifT (by simp) ?_
        walk_at "ar"
        refine z_ixT (Same.seqT s25 g1) (v := .ref b0) (atI_nat (j := 0) rfl) ?_
        walk_at "ar"
        refine ⟨_, _, _, _, true, rfl, .ty _, tyX_tup (Same.seqT s25 g3), kit_ty (a := "tuple") (by decide +kernel), ?_⟩
        walk_at "ar"
        refine ⟨b, _, rfl, .inr (Same.seqT s25 g1), fun p6 hp6 => ?_⟩
        have s6 := Same.new hp6 (o := .lst (.ref b0 :: wr))
        have s26 := s25.trans s6
        have hSM : upd (upd (upd (upd (upd H' p2 (.lst [.ref b])) p3 (.tup [])) p4 (.lst [.ref b])) p5 (.lst [])) p6 (.lst (.ref b0 :: wr)) p6 = some (.lst (.ref b0 :: wr)) := upd_same
        have I5 : MI K H _ R (((parts t).take j).flatMap pks) vs := ⟨I.new, I.same.trans s26, s26 _ _ I.lst, All2.mono (fun t v q => msR_mono s26 t v q) I.ms⟩
        have hkd : DpAll K (upd (upd (upd (upd (upd H' p2 (.lst [.ref b])) p3 (.tup [])) p4 (.lst [.ref b])) p5 (.lst [])) p6 (.lst (.ref b0 :: wr))) (.ref b0 :: wr) (tdatL (u0 :: us)) := DpAll.mono s26 g2
        have sc5 := sc.trans s26
        walk_at "ar"
        refine z_ilr (SqL.of hSM) ?_
        refine z_lcj (walk_list (K := K) (xs := (.ref b0 :: wr))) (fun D i acc Hd => All2 (MsR K (cut D Hd)) ((u0 :: us).take i) acc) (fun H2 hS => SqL.of (hS _ _ hSM)) (fun _ _ _ _ => rfl) ?_ ?_
        · rintro D i acc z H6 H7 hD1 hi hS hal hacc hR ⟨rfl, hz1⟩
          obtain ⟨d, hd5, hd6⟩ := DpAll.at hkd hz1
          obtain ⟨x, hx, rfl⟩ := tdatL_get hd5
          obtain ⟨c1, c2⟩ := hks x (List.mem_of_getElem? hx)
          have hsl := DpAll.len hkd
          rw [tdatL_len] at hsl
          walk_at "rd"
          refine ⟨rfl, ?_⟩
          walk_at "ar"
          refine ⟨_, x, rfl, Dp.mono hS hd6, c1, c2, fun H8 u8 s8 m8 => ?_⟩
          obtain ⟨b8, rfl, m8⟩ := m8
          refine lc_end hD1 hS hacc hal (by rw [hsl] at hi; have : i < (u0 :: us).length := hi; have := hkl; simp only [pks] at this; omega) s8 fun H9 h9 keep S9 => ?_
          have mv : Same (cut D H8) (cut D H9) := fun b o e => by
            obtain ⟨n, e⟩ := cut_at e
            exact cut_of (keep b o n e) n
          rw [List.take_add_one, hx]
          exact All2.app (All2.mono (fun t v q => msR_mono ((cut_mono s8).trans mv) t v q) hR) ⟨b8, rfl, Same.seqT mv (seqT_cut (s8 _ _ hacc) m8)⟩
        · intro D acc H6 hD1 hS hacc hR
          have hsl := DpAll.len hkd
          rw [tdatL_len] at hsl
          have hR2 : All2 (MsR K H6) (u0 :: us) acc := by
            rw [hsl, List.take_length] at hR
            exact All2.mono (fun t v q => msR_mono (cut_same D H6) t v q) hR
          have hal := All2.len hR2
          have hkl' := hkl
          simp only [pks] at hkl'
          refine ⟨R, D, _, _, rfl, rfl, hS _ _ I5.lst, hacc, len_sz (by omega), fun p9 hp9 => ?_⟩
          refine ⟨p9, vs ++ acc, _, _, rfl, (sc5.trans hS).trans (Same.new hp9), ?_⟩
          have q := mi_next I5 hS hp9 hR2
          rw [flat_takeP hp]
          exact q
  · rintro σ Hc ⟨R, vs, c2, c3, rfl, sc, I⟩
    rw [hlx, List.take_length] at I
    have hvl := All2.len I.ms
    walk_at "ar"
    refine z_ilr (SqL.of I.lst) ?_
    refine z_lcr (walk_list (K := K) (a := R) (xs := vs)) (fun i acc _ => acc = (((parts t).flatMap pks).take i).map fun t => V.int (t.depth : Nat)) (fun H2 hS => SqL.of (hS _ _ I.lst)) (fun _ _ => rfl) ?_ ?_
    · rintro D i acc y H2 H3 hD hi hS hal hacc hR ⟨rfl, hy⟩
      obtain ⟨u, hu, b, rfl, q1⟩ := All2.at I.ms hy
      walk_at "rd"
      refine ⟨rfl, ?_⟩
      walk_at "rd"
      refine z_ixT (Same.seqT hS q1) (v := .int (u.depth : Nat)) (atI_nat (j := 0) rfl) ?_
      refine lc_end hD hS hacc hal (by omega) (Same.refl _) fun H5 _ _ _ => ?_
      rw [hR]
      exact take_map hu
    intro D acc H2 hD hS hacc hR
    rw [hvl, List.take_length] at hR
    walk_at "ar"
    refine z_lstr (by show 1 ≤ 100000; omega) fun p0 hp0 => ?_
    have s5 := Same.new hp0 (o := .lst [.int 0])
    refine ⟨D, p0, acc, [.int 0], rfl, rfl, s5 _ _ hacc, upd_same, len_sz (by rw [hR, List.length_map]; show _ + 1 ≤ 100000; omega), fun p2 hp2 => ?_⟩
    have s6 := Same.new hp2 (o := .lst (acc ++ [.int 0]))
    refine ⟨p2, (((parts t).flatMap pks).map fun t => (t.depth : Int)) ++ [0], rfl, SqL.of (by rw [upd_same, hR, List.map_append, List.map_map]; rfl), by simp, fun mx hx1 hx2 => ?_⟩
    have em := maxI _ mx hx1 hx2
    subst em
    have s7 := (hS.trans s5).trans s6
    walk_at "ar"
    refine z_ilr (SqL.of (s7 _ _ I.lst)) ?_
    refine z_lcr (walk_list (K := K) (a := R) (xs := vs)) (fun i acc _ => acc = (((parts t).flatMap pks).take i).map fun t => V.int (t.size : Nat)) (fun H2 hS => SqL.of (hS _ _ (s7 _ _ I.lst))) (fun _ _ => rfl) ?_ ?_
    · rintro D i acc y H5 H6 hD hi hS2 hal hacc2 hR ⟨rfl, hy⟩
      obtain ⟨u, hu, b, rfl, q1⟩ := All2.at I.ms hy
      walk_at "rd"
      refine ⟨rfl, ?_⟩
      walk_at "rd"
      refine z_ixT (Same.seqT (s7.trans hS2) q1) (v := .int (u.size : Nat)) (atI_nat (j := 1) rfl) ?_
      refine lc_end hD hS2 hacc2 hal (by omega) (Same.refl _) fun H5 _ _ _ => ?_
      rw [hR]
      exact take_map hu
    intro D2 acc2 H5 hD2 hS2 hacc2 hR2
    rw [hvl, List.take_length] at hR2
    refine ⟨D2, (((parts t).flatMap pks).map fun t => (t.size : Int)), rfl, SqL.of (by rw [hacc2, hR2, List.map_map]; rfl), ?_⟩
    rw [sumI]
    walk_at "ar"
    refine z_tupr (by show 2 ≤ 100000; omega) fun p3 hp3 => ?_
    refine k _ _ (((I.same.trans s7).trans hS2).trans (Same.new hp3)) ⟨p3, rfl, SqT.of ?_⟩
    rw [upd_same, K1, K2, show ((1 + depthL ((parts t).flatMap pks) : Nat) : Int) = 1 + (depthL ((parts t).flatMap pks) : Int) by omega, show ((1 + sizeL ((parts t).flatMap pks) : Nat) : Int) = 1 + (sizeL ((parts t).flatMap pks) : Int) by omega]
theorem ms_ok (T : Tx K mg) : ∀ n, MsOk P w K mg base n := by
  intro n
  induction n using Nat.strongRecOn with
  | ind n ih => exact ok_z_measured T ih
end
end EH

set_option Elab.async false
set_option maxRecDepth 100000
set_option maxHeartbeats 4000000
set_option linter.unusedVariables false

/-! The law's own words: is the program great? -/
namespace EH
open PySem PySem.Spec PyProof.Rows L2 TL
local macro_rules | `(tactic| walk_at "ar") => `(tactic| repeat (first | walk_at "rd1" | refine z_ic (C := CDiv) ⟨by decide, by decide⟩ ?_ | refine z_ic (C := CMul) (.inr ⟨by decide, by decide⟩) ?_ | refine z_ic (C := CMul) (.inl ⟨by decide, by decide⟩) ?_ | (refine z_ic (C := fun _ j => 0 < j) (by decide) ?_)))
local macro_rules | `(tactic| walk_at "rd1") => `(tactic| (first
  | with_reducible refine z_seq ?_ | with_reducible refine z_ifs ?_ | with_reducible refine z_next ?_ | with_reducible refine z_ret ?_ | with_reducible refine z_asg ?_ | with_reducible refine z_gname ?_
  | ((with_reducible apply z_var); exact rfl) | with_reducible refine z_c ?_ | with_reducible refine z_op ?_ | with_reducible refine z_bl ?_ | with_reducible refine z_test ?_ | with_reducible refine z_B ?_
  | with_reducible refine z_nil ?_ | with_reducible refine z_cons ?_ | with_reducible refine z_cb ?_ | with_reducible refine z_call ?_ | with_reducible refine iteT ?_ | with_reducible refine iteF ?_
  | with_reducible refine z_or ?_ | with_reducible refine z_and ?_ | with_reducible refine z_not ?_ | with_reducible refine z_orv ?_ | with_reducible refine z_andv ?_ | with_reducible refine z_notv ?_ | with_reducible refine z_un ?_
  | with_reducible refine z_eqS ?_ | with_reducible refine z_neS ?_ | with_reducible refine z_eqI ?_ | with_reducible refine z_neI ?_ | with_reducible refine z_i0 ?_ | with_reducible refine z_radd ?_ | with_reducible refine z_rsub ?_ | with_reducible refine z_iu ?_
  | with_reducible refine z_fld ?_ | with_reducible refine z_meth ?_ | with_reducible refine z_sfld ?_ | with_reducible refine z_flda ?_ | with_reducible refine z_make ?_ | with_reducible refine z_drop ?_ | with_reducible refine z_retn ?_ | with_reducible refine z_cont ?_
  | with_reducible refine z_tup ?_ | with_reducible refine z_lst ?_ | with_reducible refine z_slice ?_ | with_reducible refine z_nopart ?_ | with_reducible refine z_part ?_ | with_reducible refine z_intr ?_ | with_reducible refine z_m1 ?_ | with_reducible refine z_lc ?_ | with_reducible refine z_yes ?_ | with_reducible refine z_il ?_ | with_reducible refine z_it ?_ | with_reducible refine z_bm ?_ | with_reducible refine z_for ?_ | with_reducible refine z_gcons ?_ | with_reducible refine z_gnil ?_ | with_reducible refine z_es ?_ | with_reducible refine z_sub ?_ | with_reducible refine z_ri ?_ | with_reducible refine z_i0 ?_ | with_reducible refine z_bm0 ?_ | with_reducible refine z_revL ?_ | with_reducible refine z_rng ?_ | with_reducible refine z_enL ?_))
local macro_rules | `(tactic| walk_at "rd") => `(tactic| repeat (walk_at "rd1"))
local macro_rules | `(tactic| walk_at "no") => `(tactic| repeat (first | (walk_at "rd1") | refine ifF (bSf (by decide +kernel)) ?_ | refine ifF (bSf num_ne) ?_))
local macro_rules | `(tactic| walk_at "ln") => `(tactic| (rintro vs H Q E h; repeat (first | (obtain ⟨e, _⟩ := h; subst e; rfl) | (obtain ⟨_, h⟩ := h))))
section
variable {P : Program} {w : World} {K : PySem.W.Frag} {mg : Str → Option Value} {base : Heap}
def bodies (hs : List Hs) : List T := hs.flatMap fun h => h.words.map (·.body)
theorem bodies_size : ∀ hs : List Hs, sizeL (bodies hs) = sizeH hs := by
  have w : ∀ ws : List Wd, sizeL (ws.map (·.body)) = sizeW ws := by
    intro ws
    induction ws with
    | nil => rfl
    | cons w ws ih => rw [List.map_cons, sizeW_cons, ← ih]; rfl
  intro hs
  induction hs with
  | nil => rfl
  | cons h hs ih =>
    unfold bodies at ih ⊢
    rw [List.flatMap_cons, sizeL_app, w, ih, sizeH_cons]
theorem bodies_take {hs : List Hs} {i : Nat} {h : Hs} (e : hs[i]? = some h) : bodies (hs.take (i + 1)) = bodies (hs.take i) ++ h.words.map (·.body) := by
  unfold bodies
  rw [List.take_add_one, e, List.flatMap_append]
  simp
theorem bodies_mem {hs : List Hs} {t : T} (h : t ∈ bodies hs) : ∃ g ∈ hs, ∃ w ∈ g.words, w.body = t := by
  obtain ⟨g, hg, h⟩ := List.mem_flatMap.mp h
  obtain ⟨w, hw, e⟩ := List.mem_map.mp h
  exact ⟨g, hg, w, hw, e⟩
theorem bodies_sub {hs : List Hs} {i : Nat} {t : T} (h : t ∈ bodies (hs.take i)) : t ∈ bodies hs := by
  obtain ⟨g, hg, h⟩ := List.mem_flatMap.mp h
  exact List.mem_flatMap.mpr ⟨g, List.mem_of_mem_take hg, h⟩
theorem bodies_len {hs : List Hs} : (bodies hs).length ≤ sizeH hs := by
  rw [← bodies_size]
  exact len_sizeL _
def spGreat (K : PySem.W.Frag) : Sp := fun vs H Q _ => ∃ (v : V) (x : Str) (p : Pg), vs = [v, .str x] ∧ Dp K H v (pgD p) ∧ p.wf ∧ x.length ≤ 6000 ∧ ∀ H', Same H H' → Q (.bl false) H'
theorem sc_z_is_great : FnScope ["_law_program_here", "_law_text", "_law_rows", "_law_house_here", "_law_word", "_law_row_here"] ["_law_program_here", "_law_text"] (defScope s_z_is_great) := ⟨rfl, rfl, rfl, by decide +kernel, rfl, by decide +kernel, by decide +kernel⟩
theorem ok_z_is_great (T : Tx K mg) : Cal P w K mg base CX0 16 "_law_is_great" ["_law_program_here", "_law_text"] [] (spGreat K) := by
  obtain ⟨fd, F⟩ := T.f_z_is_great
  refine cal_def F T.g_z_is_great sc_z_is_great (fun _ _ _ _ _ _ us hl => match us, hl with | [_, _], _ => rfl) (by walk_at "ln") (fun cdv A outer s H vs Q E hr h => ?_)
  obtain ⟨v, x, p, rfl, hD, hw, hx, k⟩ := h
  refine ⟨_, (pss_cons (ps_set (i := 2) sc_z_is_great.nd rfl (Or.inl rfl) (pe_lst (pa_cons (pe_cal (ms_ok T 14) (hr.mono (by decide)) pass0 (pa_cons (pe_ix ix_tup (pe_ix ix_tup (pv 0) pe_int (fun _ _ => rfl)) pe_int (fun _ _ => rfl)) pa_nil)) pa_nil)))
    (pss_cons (ps_for PassesOwn.never rfl (pi_tup (pe_ix ix_tup (pv 0) pe_int (fun _ _ => rfl))) (pg_name (i := 3) sc_z_is_great.nd rfl (Or.inl rfl)) (pss_one (ps_set (i := 2) sc_z_is_great.nd rfl (Or.inl rfl) (pe_op op_cat (pv 2) (pe_lc (own := [("_law_word", 4)]) (g := gName 4) (by rfl) sc_z_is_great.nd (pi_tup (pe_ix ix_tup (pv 3) pe_int (fun _ _ => rfl))) (blkOk_by (own := [("_law_word", 4)]) (N := ["_law_program_here", "_law_text", "_law_rows", "_law_house_here", "_law_word", "_law_row_here"]) (sc := defScope s_z_is_great) (by decide +kernel)) (fun _ _ _ _ _ => pg_name (i := 4) sc_z_is_great.nd rfl (Or.inl rfl)) (fun _ _ _ _ _ => pts_nil) (fun _ _ _ _ _ => (pe_cal (ms_ok T 14) (hr.mono (by decide)) pass0 (pa_cons (pe_ix (ix_tupK (K := K) rfl) (pv 4) pe_int (fun _ _ => rfl)) pa_nil))))))))
    (pss_one (ps_ret (pe_or (pe_cmpR op_gt (pe_callB call_len_str (by rfl) T.b_len PySem.boot_len (pa_cons (pv 1) pa_nil)) pe_int (nomark _)) (pe_or (pe_cmpR op_gt (pe_callB (cr_sum rfl) (by rfl) T.b_sum (by decide +kernel) (pa_cons (pe_lc (own := [("_law_row_here", 5)]) (g := gName 5) (by rfl) sc_z_is_great.nd (pi_list (pv 2)) (blkOk_by (own := [("_law_row_here", 5)]) (N := ["_law_program_here", "_law_text", "_law_rows", "_law_house_here", "_law_word", "_law_row_here"]) (sc := defScope s_z_is_great) (by decide +kernel)) (fun _ _ _ _ _ => pg_name (i := 5) sc_z_is_great.nd rfl (Or.inl rfl)) (fun _ _ _ _ _ => pts_nil) (fun _ _ _ _ _ => (pe_ix (ix_tupK (K := K) rfl) (pv 5) pe_int (fun _ _ => rfl)))) pa_nil)) pe_int (nomark _)) (pe_one (pe_cmpR op_gt (pe_callB (cr_max rfl) (by rfl) T.b_max (by decide +kernel) (pa_cons (pe_lc (own := [("_law_row_here", 5)]) (g := gName 5) (by rfl) sc_z_is_great.nd (pi_list (pv 2)) (blkOk_by (own := [("_law_row_here", 5)]) (N := ["_law_program_here", "_law_text", "_law_rows", "_law_house_here", "_law_word", "_law_row_here"]) (sc := defScope s_z_is_great) (by decide +kernel)) (fun _ _ _ _ _ => pg_name (i := 5) sc_z_is_great.nd rfl (Or.inl rfl)) (fun _ _ _ _ _ => pts_nil) (fun _ _ _ _ _ => (pe_ix (ix_tupK (K := K) rfl) (pv 5) pe_int (fun _ _ => rfl)))) pa_nil)) pe_int (nomark _))))))))), ?_⟩
  obtain ⟨a, b, hv, hvs, pv, tv, rfl, g1, g2, g3, g4, g5, g6⟩ := dp_pg hD
  have hlx := DpAll.len g3
  rw [List.length_map] at hlx
  obtain ⟨w1, w2, w3, w4, w5, w6, w7, w8⟩ := hw
  walk_at "ar"
  refine z_ixT g1 (v := .ref b) (atI_nat (j := 1) rfl) ?_
  walk_at "ar"
  refine z_ixT g4 (v := tv) (atI_nat (j := 2) rfl) ?_
  walk_at "ar"
  refine ⟨_, p.body, rfl, g6, w7, by omega, fun H1 u1 s1 m1 => ?_⟩
  walk_at "ar"
  refine z_lstr (by show 1 ≤ 100000; omega) fun R0 hR0 => ?_
  have s2 := Same.new hR0 (o := .lst [u1])
  have I0 : MI K H (upd H1 R0 (.lst [u1])) R0 [p.body] [u1] := ⟨Fr.same s1 _ hR0, s1.trans s2, upd_same, ⟨u1, [], rfl, msR_mono s2 _ _ m1, rfl⟩⟩
  walk_at "ar"
  refine z_ixT (Same.seqT (s1.trans s2) g1) (v := .ref hv) (atI_nat (j := 0) rfl) ?_
  refine z_itr (Same.seqT (s1.trans s2) g2) ?_
  refine z_forr (walk_tup (K := K) (a := hv) (xs := hvs)) (fun i σ Hc => ∃ R vs c3, σ = [some (.ref a), some (.str x), some (.ref R), c3, none, none] ∧ MI K H Hc R (p.body :: bodies (p.houses.take i)) vs) ⟨R0, _, _, rfl, I0⟩ (fun i σ Hc _ q => ?_) ?_ ?_
  · obtain ⟨_, _, _, _, I⟩ := q
    exact Same.seqT I.same g2
  · rintro i y σ Hc H' hi ⟨R, vs, c3, rfl, I⟩ ⟨rfl, hy⟩
    obtain ⟨d, hd1, hd2⟩ := DpAll.at g3 hy
    obtain ⟨h, hh, rfl⟩ := map_at hd1
    have hmem := List.mem_of_getElem? hh
    obtain ⟨ha, fv, tw, rfl, q1, q2, q3⟩ := dp_hs hd2
    obtain ⟨x1, x2, x3, x4, x5⟩ := w2 h hmem
    have hsz := sizeH_le hmem
    obtain ⟨ta, txs, rfl, t1, t2⟩ := dp_tup q3
    have tlx := DpAll.len t2
    rw [List.length_map] at tlx
    have hvl := All2.len I.ms
    have hbl : (bodies (p.houses.take i)).length ≤ 400 := by
      have e : (bodies (p.houses.take i)).length ≤ (bodies p.houses).length := by
        conv => rhs; rw [← List.take_append_drop i p.houses]
        unfold bodies
        rw [List.flatMap_append, List.length_append]
        omega
      have := bodies_len (hs := p.houses)
      omega
    walk_at "ar"
    refine z_ixT (Same.seqT I.same q1) (v := .ref ta) (atI_nat (j := 3) rfl) ?_
    refine z_itr (Same.seqT I.same t1) ?_
    refine z_lcj (walk_tup (K := K) (a := ta) (xs := txs)) (fun D j acc Hd => All2 (MsR K (cut D Hd)) ((h.words.map (·.body)).take j) acc) (fun H2 hS => Same.seqT (I.same.trans hS) t1) (fun _ _ _ _ => rfl) ?_ ?_
    · rintro D j acc z H6 H7 hD1 hj hS hal hacc hR ⟨rfl, hz1⟩
      obtain ⟨d, hd5, hd6⟩ := DpAll.at t2 hz1
      obtain ⟨w, hwd, rfl⟩ := map_at hd5
      obtain ⟨wa, wp, wt, rfl, u1, u2, u3⟩ := dp_wd hd6
      have hwm := List.mem_of_getElem? hwd
      have hws := sizeW_le hwm
      obtain ⟨y1, y2, y3, y4, y5⟩ := x5 w hwm
      have sh := I.same.trans hS
      walk_at "rd"
      refine ⟨rfl, ?_⟩
      walk_at "ar"
      refine z_ixT (Same.seqT sh u1) (v := wt) (atI_nat (j := 3) rfl) ?_
      walk_at "ar"
      refine ⟨_, w.body, rfl, Dp.mono sh u3, y5, by omega, fun H8 u8 s8 m8 => ?_⟩
      obtain ⟨b8, rfl, m8⟩ := m8
      refine lc_end hD1 hS hacc hal (by omega) s8 fun H9 h9 keep S9 => ?_
      have mv : Same (cut D H8) (cut D H9) := fun b o e => by
        obtain ⟨n, e⟩ := cut_at e
        exact cut_of (keep b o n e) n
      rw [List.take_add_one, List.getElem?_map, hwd]
      exact All2.app (All2.mono (fun t v q => msR_mono ((cut_mono s8).trans mv) t v q) hR) ⟨b8, rfl, Same.seqT mv (seqT_cut (s8 _ _ hacc) m8)⟩
    · intro D acc H6 hD1 hS hacc hR
      have hR2 : All2 (MsR K H6) (h.words.map (·.body)) acc := by
        rw [tlx, show h.words.length = (h.words.map (·.body)).length by rw [List.length_map], List.take_length] at hR
        exact All2.mono (fun t v q => msR_mono (cut_same D H6) t v q) hR
      have hal := All2.len hR2
      rw [List.length_map] at hal
      have hvl2 : vs.length ≤ 401 := by rw [hvl]; show (bodies (p.houses.take i)).length + 1 ≤ 401; omega
      refine ⟨R, D, _, _, rfl, rfl, hS _ _ I.lst, hacc, len_sz (by omega), fun p9 hp9 => ?_⟩
      refine ⟨p9, vs ++ acc, _, rfl, ?_⟩
      have q := mi_next I hS hp9 hR2
      rw [bodies_take hh]
      exact q
  · rintro σ Hc ⟨R, vs, c3, rfl, I⟩
    rw [hlx, List.take_length] at I
    have hvl := All2.len I.ms
    have hbl := bodies_len (hs := p.houses)
    have hvl2 : vs.length ≤ 401 := by rw [hvl]; show (bodies p.houses).length + 1 ≤ 401; omega
    have hsum : sizeL (p.body :: bodies p.houses) ≤ 400 := by
      show p.body.size + sizeL (bodies p.houses) ≤ 400
      rw [bodies_size]
      omega
    have hdep : ∀ t ∈ p.body :: bodies p.houses, t.depth ≤ 14 := by
      intro t ht
      rcases List.mem_cons.mp ht with rfl | ht
      · exact w7
      · obtain ⟨g, hg, w, hw, rfl⟩ := bodies_mem ht
        exact ((w2 g hg).2.2.2.2 w hw).2.2.2.2
    generalize hks : p.body :: bodies p.houses = ks at I hsum hdep hvl
    have hne : ks ≠ [] := by rw [← hks]; simp
    walk_at "ar"
    refine ⟨x, rfl, len_sz (by omega), ?_⟩
    walk_at "ar"
    refine ifF (decide_eq_false (by omega)) ?_
    walk_at "ar"
    refine z_ilr (SqL.of I.lst) ?_
    refine z_lcr (walk_list (K := K) (a := R) (xs := vs)) (fun i acc _ => acc = (ks.take i).map fun t => V.int (t.size : Nat)) (fun H2 hS => SqL.of (hS _ _ I.lst)) (fun _ _ => rfl) ?_ ?_
    · rintro D i acc y H2 H3 hD hi hS hal hacc hR ⟨rfl, hy⟩
      obtain ⟨u, hu, b, rfl, q1⟩ := All2.at I.ms hy
      walk_at "rd"
      refine ⟨rfl, ?_⟩
      walk_at "rd"
      refine z_ixT (Same.seqT hS q1) (v := .int (u.size : Nat)) (atI_nat (j := 1) rfl) ?_
      refine lc_end hD hS hacc hal (by omega) (Same.refl _) fun H5 _ _ _ => ?_
      rw [hR]
      exact take_map hu
    intro D acc H2 hD hS hacc hR
    rw [hvl, List.take_length] at hR
    refine ⟨D, (ks.map fun t => (t.size : Int)), rfl, SqL.of (by rw [hacc, hR, List.map_map]; rfl), ?_⟩
    rw [sumI]
    walk_at "ar"
    refine ifF (decide_eq_false (by omega)) ?_
    walk_at "ar"
    refine z_ilr (SqL.of (hS _ _ I.lst)) ?_
    refine z_lcr (walk_list (K := K) (a := R) (xs := vs)) (fun i acc _ => acc = (ks.take i).map fun t => V.int (t.depth : Nat)) (fun H2 hS2 => SqL.of (hS2 _ _ (hS _ _ I.lst))) (fun _ _ => rfl) ?_ ?_
    · rintro D i acc y H5 H6 hD hi hS2 hal hacc2 hR ⟨rfl, hy⟩
      obtain ⟨u, hu, b, rfl, q1⟩ := All2.at I.ms hy
      walk_at "rd"
      refine ⟨rfl, ?_⟩
      walk_at "rd"
      refine z_ixT (Same.seqT (hS.trans hS2) q1) (v := .int (u.depth : Nat)) (atI_nat (j := 0) rfl) ?_
      refine lc_end hD hS2 hacc2 hal (by omega) (Same.refl _) fun H5 _ _ _ => ?_
      rw [hR]
      exact take_map hu
    intro D2 acc2 H5 hD2 hS2 hacc2 hR2
    rw [hvl, List.take_length] at hR2
    refine ⟨D2, (ks.map fun t => (t.depth : Int)), rfl, SqL.of (by rw [hacc2, hR2, List.map_map]; rfl), by rw [List.length_map]; exact List.length_pos_iff.mpr hne, fun mx hx1 _ => ?_⟩
    obtain ⟨t, ht, e⟩ := List.mem_map.mp hx1
    have ht14 := hdep t ht
    walk_at "ar"
    rw [show decide ((14 : Int) < mx) = false from decide_eq_false (by omega)]
    exact k _ ((I.same.trans hS).trans hS2)
end
end EH

set_option Elab.async false
set_option maxRecDepth 100000
set_option maxHeartbeats 4000000
set_option linter.unusedVariables false

/-! The law's own words: what is told. -/
namespace EH
open PySem PySem.Spec PyProof.Rows L2 TL
local macro_rules | `(tactic| walk_at "lk") => `(tactic| repeat (first | exact lk_eq | exact lk_nil | refine lk_ne (by decide +kernel) ?_))
theorem passN {P : Program} {w : World} {X : Cx} : Passes (L2.CX P w) X (fun _ _ _ => False) := fun _ _ _ _ _ _ _ h => by
  obtain ⟨_, _, _, _, _, _, _, _, _, _, _, _, z⟩ := h
  exact z.elim
theorem pe_calS {X : Cx} {CX : CXT} {k : Nat} {ps : List Str} {sp : Sp} {dvs : List V} {x : Str} {p pos : Pos} {e : Expr} {es : List Expr} {t : TA} {E : L2.St → XK} (G : Cal X.prog X.w X.K X.mg X.base CX k x ps dvs sp) (hr : Room k X.A) (hx : ∀ σ, PassesAt CX X σ (E σ)) (ha : L2.PA X (e :: es) t) (hg : Gl X x := by rfl) (hdb : (x == ("__debug__" : Str)) = false := by decide)
    (he : starEach (e :: es) X.env = (false, eval e X.env) :: starEach es X.env := by rfl) (hpl : (backTo pos (starEach es X.env)).any (·.1) = false := by rfl) : PE X (.Call (.Name x p) (e :: es) [] pos) (tCallSD sp dvs E t) :=
  let ⟨_, _, _, F, hm, hk, hd, hb⟩ := G
  pe_callSD F hr hg hm hk hb hd hx ha hdb he hpl
local macro_rules | `(tactic| walk_at "rd1") => `(tactic| (first
  | with_reducible refine z_seq ?_ | with_reducible refine z_ifs ?_ | with_reducible refine z_next ?_ | with_reducible refine z_ret ?_ | with_reducible refine z_asg ?_ | with_reducible refine z_gname ?_
  | ((with_reducible apply z_var); exact rfl) | with_reducible refine z_c ?_ | with_reducible refine z_op ?_ | with_reducible refine z_bl ?_ | with_reducible refine z_test ?_ | with_reducible refine z_B ?_
  | with_reducible refine z_nil ?_ | with_reducible refine z_cons ?_ | with_reducible refine z_cb ?_ | with_reducible refine z_call ?_ | with_reducible refine iteT ?_ | with_reducible refine iteF ?_
  | with_reducible refine z_or ?_ | with_reducible refine z_and ?_ | with_reducible refine z_not ?_ | with_reducible refine z_orv ?_ | with_reducible refine z_andv ?_ | with_reducible refine z_notv ?_ | with_reducible refine z_un ?_
  | with_reducible refine z_eqS ?_ | with_reducible refine z_neS ?_ | with_reducible refine z_eqI ?_ | with_reducible refine z_neI ?_ | with_reducible refine z_i0 ?_ | with_reducible refine z_radd ?_ | with_reducible refine z_rsub ?_ | with_reducible refine z_iu ?_
  | with_reducible refine z_fld ?_ | with_reducible refine z_meth ?_ | with_reducible refine z_sfld ?_ | with_reducible refine z_flda ?_ | with_reducible refine z_make ?_ | with_reducible refine z_drop ?_ | with_reducible refine z_retn ?_ | with_reducible refine z_cont ?_
  | with_reducible refine z_tup ?_ | with_reducible refine z_lst ?_ | with_reducible refine z_slice ?_ | with_reducible refine z_nopart ?_ | with_reducible refine z_part ?_ | with_reducible refine z_intr ?_ | with_reducible refine z_m1 ?_ | with_reducible refine z_lc ?_ | with_reducible refine z_yes ?_ | with_reducible refine z_il ?_ | with_reducible refine z_it ?_ | with_reducible refine z_bm ?_ | with_reducible refine z_for ?_ | with_reducible refine z_gcons ?_ | with_reducible refine z_gnil ?_ | with_reducible refine z_es ?_ | with_reducible refine z_sub ?_ | with_reducible refine z_ri ?_ | with_reducible refine z_i0 ?_ | with_reducible refine z_bm0 ?_ | with_reducible refine z_revL ?_ | with_reducible refine z_rng ?_ | with_reducible refine z_enL ?_))
local macro_rules | `(tactic| walk_at "rd") => `(tactic| repeat (walk_at "rd1"))
local macro_rules | `(tactic| walk_at "no") => `(tactic| repeat (first | (walk_at "rd1") | refine ifF (bSf (by decide +kernel)) ?_ | refine ifF (bSf num_ne) ?_))
local macro_rules | `(tactic| walk_at "ln") => `(tactic| (rintro vs H Q E h; repeat (first | (obtain ⟨e, _⟩ := h; subst e; rfl) | (obtain ⟨_, h⟩ := h))))
section
variable {P : Program} {w : World} {K : PySem.W.Frag} {mg : Str → Option Value} {base : Heap}
def spTold (K : PySem.W.Frag) : Sp := fun vs H Q _ => ∃ x : Str, vs = [.str x] ∧ x.length ≤ 100000 ∧ ((x.length ≤ 6000 ∧ ∃ pg : Pg, pg.wf ∧ x = pgText pg ∧ ∀ H' u, Same H H' → Dp K H' u (pgD pg) → Q u H') ∨ (6000 < x.length ∧ ∀ H' p, Same H H' → H' p = some (.lst [.str "words", .int 0]) → Q (.ref p) H'))
theorem sc_z_told : FnScope ["_law_text", "e"] ["_law_text"] (defScope s_z_told) := ⟨rfl, rfl, rfl, by decide +kernel, rfl, by decide +kernel, by decide +kernel⟩
theorem ok_told (T : Tx K mg) : Cal P w K mg base CX0 176 "_law_told" ["_law_text"] [] (spTold K) := by
  obtain ⟨fd, F⟩ := T.f_z_told
  refine cal_def F T.g_z_told sc_z_told (fun _ _ _ _ _ _ us hl => match us, hl with | [_], _ => rfl) (by walk_at "ln") (fun cdv A outer s H vs Q E hr h => ?_)
  obtain ⟨x, rfl, hb, h⟩ := h
  rcases h with ⟨hl, pg, hw, rfl, k⟩ | ⟨hl, k⟩
  · refine ⟨_, pss_one (ps_try_thru0 (pss_one (ps_ret (pe_calm0 (pe_cal (E := fun _ _ _ => False) (ok_read T) (hr.mono (by decide)) passN (pa_cons (pv 0) pa_nil)) (okm_Program_plain T) (hr.mono (by decide)) pass0)))), ?_⟩
    walk_at "rd"
    refine ⟨pgText pg, rfl, hb, .inl ⟨hl, pgT pg, pg, words_of hw, prog_of hw, fun H1 v s1 R1 => ?_⟩⟩
    obtain ⟨a, dx, l, us, m, pv, tv, rfl, q1, q2⟩ := id R1
    refine ⟨a, dx, _, rfl, q1, lp_plain, ?_⟩
    refine ⟨_, pg, rfl, R1, hw.1, fun g hg => ⟨(hw.2.1 g hg).2.2.2.1, fun w hwd => ?_⟩, ?_, fun H2 u s2 D2 => k H2 u (s1.trans s2) D2⟩
    · have hsz := sizeW_le hwd
      have hsz2 := sizeH_le hg
      have h400 := hw.2.2.2.2.2.2.2
      have h14 := ((hw.2.1 g hg).2.2.2.2 w hwd).2.2.2.2
      exact ⟨h14, by omega⟩
    · have h400 := hw.2.2.2.2.2.2.2
      exact ⟨hw.2.2.2.2.2.2.1, by omega⟩
  · refine ⟨_, pss_one (ps_try2 (i := 1) (c1 := .ref (He.ga K "BadForm")) (c2 := .ref (He.ga K "BadWords")) (tb := fun W => tRet (tMeth (He.ga K "Program") "plain" (spProgPlain K) [] E (tCallSD (spRead K) [] (WE W) (tCons (tVar 0) tNil)) tNil))
      (ts := fun a cls d => tRet (tLst (tCons (tC (.str "words")) (tCons (tXf a cls d (He.ga K "BadWords") "at" (tVar 1)) tNil)))) rfl rfl sc_z_told.nd rfl rfl ⟨rfl, by decide, Or.inl T.g_BadForm⟩ ⟨rfl, by decide, Or.inl T.g_BadWords⟩
      (fun W pn xe tk _ => pss_one (ps_ret (pe_calm0 (pe_calS (ok_read T) (hr.mono (by decide)) (fun σ => passAt tk σ) (pa_cons (pv 0) pa_nil)) (okm_Program_plain T) (hr.mono (by decide)) pass0)))
      (fun a oe cls d pn hz hf => pss_one (ps_ret (pe_lst (pa_cons pe_str (pa_cons (pe_xf T.x.xf T.x.no hz hf (pv 1)) pa_nil)))))), ?_⟩
    walk_at "rd"
    unfold tCallSD
    walk_at "rd"
    refine ⟨x, rfl, hb, .inr ⟨hl, fun d H1 s1 hd => ⟨T.x.m0, T.x.m1, fun a ha => ?_⟩⟩⟩
    walk_at "rd"
    refine ⟨.ref a, rfl, rfl, rfl, d, _, .int 0, rfl, hd, by walk_at "lk", ?_⟩
    walk_at "rd"
    refine z_lstr (by show 2 ≤ 100000; omega) fun p hp => ?_
    exact k _ p (s1.trans (Same.new hp)) upd_same
end
end EH

set_option Elab.async false
set_option maxRecDepth 100000
set_option maxHeartbeats 4000000
set_option linter.unusedVariables false

/-! The law. -/
namespace EH
open PySem PySem.Spec PyProof.Rows L2 TL
section
variable {X : Cx}
def rRepr (K : PySem.W.Frag) : List V → Hp → VK → Prop := fun xs H Q => ∃ a d w, xs = [.ref a] ∧ Dp K H (.ref a) d ∧ ShOk d 60 w ∧ w ≤ 16000000 ∧ Q (.str d.shown) H
theorem call_repr (hg : X.A.guards = some []) (hu : X.A.units + 64 < cLine) : CallR X (.builtin "repr") (rRepr X.K) := by
  intro pins s σ H xs us Q I r h
  obtain ⟨a, d, w, rfl, hd, S, hw, q⟩ := h
  obtain ⟨u, rfl, r1⟩ := vals1 r
  obtain ⟨as, R⟩ := Dp.reads I d _ u hd r1
  obtain rfl : u = Value.ref a := r1
  refine repr_of_reads' R S.sh (PyData.noDict_hsm S.nd) hg (by have := S.dp; omega) (fun _ _ e => e) (fun h' t tk kp => ⟨.str d.shown, H, I.kept kp, ⟨_, rfl⟩, q⟩) ?_
  rw [sizeLine_eq]
  have := S.ln
  omega
end
local macro_rules | `(tactic| walk_at "rd1") => `(tactic| (first
  | with_reducible refine z_seq ?_ | with_reducible refine z_ifs ?_ | with_reducible refine z_next ?_ | with_reducible refine z_ret ?_ | with_reducible refine z_asg ?_ | with_reducible refine z_gname ?_
  | ((with_reducible apply z_var); exact rfl) | with_reducible refine z_c ?_ | with_reducible refine z_op ?_ | with_reducible refine z_bl ?_ | with_reducible refine z_test ?_ | with_reducible refine z_B ?_
  | with_reducible refine z_nil ?_ | with_reducible refine z_cons ?_ | with_reducible refine z_cb ?_ | with_reducible refine z_call ?_ | with_reducible refine iteT ?_ | with_reducible refine iteF ?_
  | with_reducible refine z_or ?_ | with_reducible refine z_and ?_ | with_reducible refine z_not ?_ | with_reducible refine z_orv ?_ | with_reducible refine z_andv ?_ | with_reducible refine z_notv ?_ | with_reducible refine z_un ?_
  | with_reducible refine z_eqS ?_ | with_reducible refine z_neS ?_ | with_reducible refine z_eqI ?_ | with_reducible refine z_neI ?_ | with_reducible refine z_i0 ?_ | with_reducible refine z_radd ?_ | with_reducible refine z_rsub ?_ | with_reducible refine z_iu ?_
  | with_reducible refine z_fld ?_ | with_reducible refine z_meth ?_ | with_reducible refine z_sfld ?_ | with_reducible refine z_flda ?_ | with_reducible refine z_make ?_ | with_reducible refine z_drop ?_ | with_reducible refine z_retn ?_ | with_reducible refine z_cont ?_
  | with_reducible refine z_tup ?_ | with_reducible refine z_lst ?_ | with_reducible refine z_slice ?_ | with_reducible refine z_nopart ?_ | with_reducible refine z_part ?_ | with_reducible refine z_intr ?_ | with_reducible refine z_m1 ?_ | with_reducible refine z_lc ?_ | with_reducible refine z_yes ?_ | with_reducible refine z_il ?_ | with_reducible refine z_it ?_ | with_reducible refine z_bm ?_ | with_reducible refine z_for ?_ | with_reducible refine z_gcons ?_ | with_reducible refine z_gnil ?_ | with_reducible refine z_es ?_ | with_reducible refine z_sub ?_ | with_reducible refine z_ri ?_ | with_reducible refine z_i0 ?_ | with_reducible refine z_bm0 ?_ | with_reducible refine z_revL ?_ | with_reducible refine z_rng ?_ | with_reducible refine z_enL ?_))
local macro_rules | `(tactic| walk_at "rd") => `(tactic| repeat (walk_at "rd1"))
local macro_rules | `(tactic| walk_at "no") => `(tactic| repeat (first | (walk_at "rd1") | refine ifF (bSf (by decide +kernel)) ?_ | refine ifF (bSf num_ne) ?_))
local macro_rules | `(tactic| walk_at "ln") => `(tactic| (rintro vs H Q E h; repeat (first | (obtain ⟨e, _⟩ := h; subst e; rfl) | (obtain ⟨_, h⟩ := h))))
section
variable {P : Program} {w : World} {K : PySem.W.Frag} {mg : Str → Option Value} {base : Heap}
theorem z_repr {H : Hp} {Q : VK} {v : V} {p : Pg} (hw : p.wf) (h : Dp K H v (pgD p)) (q : Q (.str (pgD p).shown) H) : rRepr K [v] H Q := by
  obtain ⟨a, xs, rfl, h1, h2⟩ := dp_tup h
  exact ⟨a, pgD p, 300000, rfl, h, (sh_pg hw).mono (by decide) (Nat.le_refl _), by decide, q⟩
def spLaw (K : PySem.W.Frag) : Sp := fun vs H Q _ => ∃ (S : Addr) (ns : List Int), vs = [.ref S] ∧ SqL K H S (ns.map V.int) ∧ ∀ H', Q (.bl true) H'
theorem sc_law : FnScope ["_law_script", "_law_plain", "_law_text", "_law_found"] ["_law_script"] (defScope s_law) := ⟨rfl, rfl, rfl, by decide +kernel, rfl, by decide +kernel, by decide +kernel⟩
theorem law_body (T : Tx K mg) {f : Addr} {cdv : Value} {A : Around} {outer : List Env} {s : Shared} {H : Hp} {vs : List V} {Q : VK} {E : XK} (hg : A.guards = some []) (hr : Room 180 (A.deeper (envOfC "law" (defScope s_law) s.heap.objs.size f cdv))) (h : spLaw K vs H Q E) :
    ∃ t, PSs (cxOf CX0 P w K mg base ["_law_script", "_law_plain", "_law_text", "_law_found"] "law" (defScope s_law) f cdv A outer s H E).nox (defBody s_law) t ∧ t { nx := fun _ H' => Q .non H', rt := Q } (L2.start ["_law_script", "_law_plain", "_law_text", "_law_found"] vs) H := by
  obtain ⟨S, ns, rfl, hS, k⟩ := h
  refine ⟨_, (pss_cons (ps_set (i := 1) sc_law.nd rfl (Or.inl rfl) (pe_cal (ok_z_program T) (hr.mono (by decide)) pass0 (pa_cons (pv 0) pa_nil)))
    (pss_cons (ps_set (i := 2) sc_law.nd rfl (Or.inl rfl) (pe_cal (ok_z_shown T) (hr.mono (by decide)) pass0 (pa_cons (pv 1) pa_nil)))
    (pss_cons (ps_set (i := 3) sc_law.nd rfl (Or.inl rfl) (pe_cal (ok_told T) (hr.mono (by decide)) pass0 (pa_cons (pv 2) pa_nil)))
    (pss_cons (ps_if (pt_cmpR op_gt (pe_callB call_len_str (by rfl) T.b_len PySem.boot_len (pa_cons (pv 2) pa_nil)) pe_int (nomark _)) (pss_one (ps_ret (pe_cmpR (op_eqD hr.units) (pv 3) (pe_lst (pa_cons pe_str (pa_cons pe_int pa_nil))) (nomark _)))) pss_nil)
    (pss_cons (ps_if (pt_val (pe_cal (ok_z_is_great T) (hr.mono (by decide)) pass0 (pa_cons (pv 1) (pa_cons (pv 2) pa_nil)))) (pss_one (ps_ret (pe_cmpR (op_eqD hr.units) (pv 3) (pe_lst (pa_cons pe_str pa_nil)) (nomark _)))) pss_nil)
    (pss_one (ps_ret (pe_and (pe_cmpR op_eq (pe_callB (call_repr hg hr.units) (by rfl) T.b_repr (by decide +kernel) (pa_cons (pv 3) pa_nil)) (pe_callB (call_repr hg hr.units) (by rfl) T.b_repr (by decide +kernel) (pa_cons (pv 1) pa_nil)) (nomark _)) (pe_one (pe_cmpR op_eq (pe_callB (call_repr hg hr.units) (by rfl) T.b_repr (by decide +kernel) (pa_cons (pe_cal (ok_told T) (hr.mono (by decide)) pass0 (pa_cons (pv 2) pa_nil)) pa_nil)) (pe_callB (call_repr hg hr.units) (by rfl) T.b_repr (by decide +kernel) (pa_cons (pv 1) pa_nil)) (nomark _))))))))))), ?_⟩
  walk_at "rd"
  refine ⟨S, ns, rfl, hS, fun H1 v pg s1 D1 hw => ?_⟩
  walk_at "rd"
  refine ⟨v, pg, rfl, D1, hw, fun H2 s2 => ?_⟩
  have hln := (pg_tot hw).2
  have D2 := Dp.mono s2 D1
  walk_at "rd"
  by_cases h6 : (pgText pg).length ≤ 6000
  · refine ⟨_, rfl, by omega, .inl ⟨h6, pg, hw, rfl, fun H3 u s3 D3 => ?_⟩⟩
    walk_at "rd"
    refine ⟨_, rfl, len_sz (by omega), ?_⟩
    walk_at "rd"
    refine ifF (decide_eq_false (by omega)) ?_
    walk_at "rd"
    refine ⟨v, _, pg, rfl, Dp.mono s3 D2, hw, h6, fun H4 s4 => ?_⟩
    walk_at "rd"
    refine z_repr hw (Dp.mono s4 D3) ?_
    walk_at "rd"
    refine z_repr hw (Dp.mono (s3.trans s4) D2) ?_
    generalize (pgD pg).shown = z
    walk_at "rd"
    refine ifT (bS rfl) ?_
    walk_at "rd"
    refine ⟨_, rfl, by omega, .inl ⟨h6, pg, hw, rfl, fun H5 u5 s5 D5 => ?_⟩⟩
    walk_at "rd"
    refine z_repr hw D5 ?_
    walk_at "rd"
    refine z_repr hw (Dp.mono ((s3.trans s4).trans s5) D2) ?_
    generalize (pgD pg).shown = z2
    walk_at "rd"
    rw [bS (rfl : z2 = z2)]
    exact k _
  · refine ⟨_, rfl, by omega, .inr ⟨by omega, fun H3 p s3 hp => ?_⟩⟩
    walk_at "rd"
    refine ⟨_, rfl, len_sz (by omega), ?_⟩
    walk_at "rd"
    refine ifT (decide_eq_true (by omega)) ?_
    walk_at "rd"
    refine z_lstr (by show 2 ≤ 100000; omega) fun p2 hp2 => ?_
    have s4 := Same.new hp2 (o := .lst [.str "words", .int 0])
    refine ⟨.list [.str "words", .int 0], .list [.str "words", .int 0], .lst (SqL.of (s4 _ _ hp)) (.cons (.str _) (.cons (.int _) .nil)), .lst (SqL.of upd_same) (.cons (.str _) (.cons (.int _) .nil)), by decide +kernel, by decide +kernel, ?_⟩
    rw [show PyData.eqv (.list [.str "words", .int 0]) (.list [.str "words", .int 0]) = true by decide +kernel]
    exact k _
end
end EH

set_option Elab.async false
set_option maxRecDepth 100000
set_option maxHeartbeats 4000000
set_option linter.unusedVariables false

/-! The law is called. -/
namespace EH
open PySem PySem.Spec PyProof.Rows L2 TL
theorem room_c : Room 181 callerA := ⟨rfl, by decide, by decide⟩
local macro_rules | `(tactic| walk_at "rd1") => `(tactic| (first
  | with_reducible refine z_seq ?_ | with_reducible refine z_ifs ?_ | with_reducible refine z_next ?_ | with_reducible refine z_ret ?_ | with_reducible refine z_asg ?_ | with_reducible refine z_gname ?_
  | ((with_reducible apply z_var); exact rfl) | with_reducible refine z_c ?_ | with_reducible refine z_op ?_ | with_reducible refine z_bl ?_ | with_reducible refine z_test ?_ | with_reducible refine z_B ?_
  | with_reducible refine z_nil ?_ | with_reducible refine z_cons ?_ | with_reducible refine z_cb ?_ | with_reducible refine z_call ?_ | with_reducible refine iteT ?_ | with_reducible refine iteF ?_
  | with_reducible refine z_or ?_ | with_reducible refine z_and ?_ | with_reducible refine z_not ?_ | with_reducible refine z_orv ?_ | with_reducible refine z_andv ?_ | with_reducible refine z_notv ?_ | with_reducible refine z_un ?_
  | with_reducible refine z_eqS ?_ | with_reducible refine z_neS ?_ | with_reducible refine z_eqI ?_ | with_reducible refine z_neI ?_ | with_reducible refine z_i0 ?_ | with_reducible refine z_radd ?_ | with_reducible refine z_rsub ?_ | with_reducible refine z_iu ?_
  | with_reducible refine z_fld ?_ | with_reducible refine z_meth ?_ | with_reducible refine z_sfld ?_ | with_reducible refine z_flda ?_ | with_reducible refine z_make ?_ | with_reducible refine z_drop ?_ | with_reducible refine z_retn ?_ | with_reducible refine z_cont ?_
  | with_reducible refine z_tup ?_ | with_reducible refine z_lst ?_ | with_reducible refine z_slice ?_ | with_reducible refine z_nopart ?_ | with_reducible refine z_part ?_ | with_reducible refine z_intr ?_ | with_reducible refine z_m1 ?_ | with_reducible refine z_lc ?_ | with_reducible refine z_yes ?_ | with_reducible refine z_il ?_ | with_reducible refine z_it ?_ | with_reducible refine z_bm ?_ | with_reducible refine z_for ?_ | with_reducible refine z_gcons ?_ | with_reducible refine z_gnil ?_ | with_reducible refine z_es ?_ | with_reducible refine z_sub ?_ | with_reducible refine z_ri ?_ | with_reducible refine z_i0 ?_ | with_reducible refine z_bm0 ?_ | with_reducible refine z_revL ?_ | with_reducible refine z_rng ?_ | with_reducible refine z_enL ?_))
local macro_rules | `(tactic| walk_at "rd") => `(tactic| repeat (walk_at "rd1"))
local macro_rules | `(tactic| walk_at "no") => `(tactic| repeat (first | (walk_at "rd1") | refine ifF (bSf (by decide +kernel)) ?_ | refine ifF (bSf num_ne) ?_))
local macro_rules | `(tactic| walk_at "ln") => `(tactic| (rintro vs H Q E h; repeat (first | (obtain ⟨e, _⟩ := h; subst e; rfl) | (obtain ⟨_, h⟩ := h))))
section
variable {P : Program} {w : World} {K : PySem.W.Frag} {mg : Str → Option Value} {base : Heap}
theorem law_at (T : Tx K mg) {f S : Addr} {fd : FuncData} {s : Shared} {H : Hp} {args : Args} {us : List Value} {ns : List Int} (F : FunD K "law" "law" (defArgs s_law) (defBody s_law) (defScope s_law) [] [] f fd) (e0 : Env0 P w K mg base callerA [] s H)
    (hb : BindsTo s fd args ((["_law_script"] : List Str).zip us)) (r : Vals [V.ref S] us) (hS : SqL K H S (ns.map V.int)) : codeAny (model P w) callerA (.call (.ref f) args) (CR CX0 [] P w H s (fun v _ => v = .bl true) (fun _ _ _ => False)) s := by
  obtain ⟨oc, od, dV, kV, doc, pm, an, cdv, ct, osl, rfl, lk, hcd, _, _⟩ := F.ex
  have inK : K.In s.heap := e0.mod.kin.keeps fun b o e => (e0.bs b o e).1
  have few : s.heap.NoLimit := e0.mod.nolimit.keeps fun b o e => (e0.bs b o e).1
  have kinds : ∀ y ∈ (["_law_script"] : List Str).zip us, (defScope s_law).names.lookup y.1 = some .local ∨ ((defScope s_law).names.lookup y.1 = some .cell ∧ ((cellsFrom (s.heap.objs.size + 1) (defScope s_law).names []).lookup y.1).isSome = true) := fun ⟨n, v⟩ hy =>
    (sc_law.par n (List.of_mem_zip hy).1).imp id fun q => ⟨q, PySem.W.cellsFrom_some _ _ _ (.inl q)⟩
  refine codeAny_call_function room_c.depth (inK _ _ lk) rfl sc_law.co sc_law.gen rfl (PySem.W.codeRec_of inK hcd) (hb _ _ _ _ ?_)
  refine wpAny_newFunctionEnv_cells sc_law.kind kinds fun env he s1 x => ?_
  subst he
  refine ⟨few.keeps x.toInCall.keep, codeAny_func ?_⟩
  obtain ⟨t, d1, d2⟩ := law_body (P := P) (w := w) (base := base) (mg := mg) (K := K) T (f := f) (cdv := cdv) (A := callerA) (outer := []) (s := s) (H := H) (vs := [.ref S]) (Q := fun v _ => v = .bl true) (E := fun _ _ _ => False) rfl (room_c.deeper _) ⟨S, ns, rfl, hS, fun _ => rfl⟩
  have I := inv_start (CX := CX0) (E := fun _ _ _ => False) sc_law room_c.hd e0 rfl r x
  refine wpAny_mono ((d1.nox).run [] s1 _ H _ I d2) (fun fl s' z => ?_) fun _ _ z => z
  cases fl with
  | ret u =>
    obtain ⟨v, σ', H', J, rv, q⟩ := z
    exact ⟨v, H', J.os, J.bare, J.base, J.hok, rv, q⟩
  | next =>
    obtain ⟨σ', H', J, q⟩ := z
    exact absurd q (by intro e; cases e)
  | brk =>
    obtain ⟨_, _, _, q⟩ := z
    exact q.elim
  | cont =>
    obtain ⟨_, _, _, q⟩ := z
    exact q.elim
end
end EH

set_option Elab.async false
set_option maxRecDepth 100000
set_option maxHeartbeats 4000000
set_option linter.unusedVariables false

/-! The law is called in the caller's state; the end. -/
namespace EH
open PySem PySem.Spec PyProof.Rows L2 TL
local macro_rules | `(tactic| walk_at "rd1") => `(tactic| (first
  | with_reducible refine z_seq ?_ | with_reducible refine z_ifs ?_ | with_reducible refine z_next ?_ | with_reducible refine z_ret ?_ | with_reducible refine z_asg ?_ | with_reducible refine z_gname ?_
  | ((with_reducible apply z_var); exact rfl) | with_reducible refine z_c ?_ | with_reducible refine z_op ?_ | with_reducible refine z_bl ?_ | with_reducible refine z_test ?_ | with_reducible refine z_B ?_
  | with_reducible refine z_nil ?_ | with_reducible refine z_cons ?_ | with_reducible refine z_cb ?_ | with_reducible refine z_call ?_ | with_reducible refine iteT ?_ | with_reducible refine iteF ?_
  | with_reducible refine z_or ?_ | with_reducible refine z_and ?_ | with_reducible refine z_not ?_ | with_reducible refine z_orv ?_ | with_reducible refine z_andv ?_ | with_reducible refine z_notv ?_ | with_reducible refine z_un ?_
  | with_reducible refine z_eqS ?_ | with_reducible refine z_neS ?_ | with_reducible refine z_eqI ?_ | with_reducible refine z_neI ?_ | with_reducible refine z_i0 ?_ | with_reducible refine z_radd ?_ | with_reducible refine z_rsub ?_ | with_reducible refine z_iu ?_
  | with_reducible refine z_fld ?_ | with_reducible refine z_meth ?_ | with_reducible refine z_sfld ?_ | with_reducible refine z_flda ?_ | with_reducible refine z_make ?_ | with_reducible refine z_drop ?_ | with_reducible refine z_retn ?_ | with_reducible refine z_cont ?_
  | with_reducible refine z_tup ?_ | with_reducible refine z_lst ?_ | with_reducible refine z_slice ?_ | with_reducible refine z_nopart ?_ | with_reducible refine z_part ?_ | with_reducible refine z_intr ?_ | with_reducible refine z_m1 ?_ | with_reducible refine z_lc ?_ | with_reducible refine z_yes ?_ | with_reducible refine z_il ?_ | with_reducible refine z_it ?_ | with_reducible refine z_bm ?_ | with_reducible refine z_for ?_ | with_reducible refine z_gcons ?_ | with_reducible refine z_gnil ?_ | with_reducible refine z_es ?_ | with_reducible refine z_sub ?_ | with_reducible refine z_ri ?_ | with_reducible refine z_i0 ?_ | with_reducible refine z_bm0 ?_ | with_reducible refine z_revL ?_ | with_reducible refine z_rng ?_ | with_reducible refine z_enL ?_))
local macro_rules | `(tactic| walk_at "rd") => `(tactic| repeat (walk_at "rd1"))
local macro_rules | `(tactic| walk_at "no") => `(tactic| repeat (first | (walk_at "rd1") | refine ifF (bSf (by decide +kernel)) ?_ | refine ifF (bSf num_ne) ?_))
local macro_rules | `(tactic| walk_at "ln") => `(tactic| (rintro vs H Q E h; repeat (first | (obtain ⟨e, _⟩ := h; subst e; rfl) | (obtain ⟨_, h⟩ := h))))
section
variable {P : Program} {w : World} {K : PySem.W.Frag} {mg : Str → Option Value} {base : Heap}
/-- what the caller keeps to itself: the script alone may be tracked -/
structure Stg (K : PySem.W.Frag) (h : Heap) (H : Hp) (a : Addr) : Prop where
  only : ∀ b, H b ≠ none → b = a
  free : H a ≠ none → K.lookup a = none
  kept : ∀ b, H b = none ∨ ∃ o xs, H b = some (.frz o (.lst xs))
theorem law_go {mb : Str → Option Value} {fa a : Addr} {s1 : Shared} {vs : List Value} {ns : List Int} (T : Tx K mg) (glob : mg "law" = some (.ref fa)) (KX : K.In s1.heap) (n1 : s1.heap.Ns mainGlobals mg) (n2 : s1.heap.Ns builtinsNs mb) (n3 : ∀ x : Str, x ≠ "__name__" → mb x = bootBuiltins x) (few : s1.heap.NoLimit) (bare : s1.gens = #[])
    (ha : s1.heap.get? a = some { cls := .type "list", data := .seq vs.toArray }) (hi : IntsAre vs ns) (hl : ns.length ≤ sizeLine) :
    codeAny (model P w) callerA (.call (.ref fa) ⟨[.ref a], []⟩) (fun r s' => r = .ok (.ret (.bool true)) ∧ OldK s1.heap s'.heap ∧ s'.os = s1.os ∧ AllBare s'.gens) s1 := by
  have rel := vals_ints hi
  have cnt := hi.length
  obtain ⟨fd, F⟩ := T.f_law
  have efa : fa = He.ga K "law" := by
    have e := glob.symm.trans T.g_law
    cases e
    rfl
  subst efa
  have main : ∀ H : Hp, Stg K s1.heap H a → SqL K H a (ns.map V.int) → HOk P w H s1.heap →
      codeAny (model P w) callerA (.call (.ref (He.ga K "law")) ⟨[.ref a], []⟩) (fun r s' => r = .ok (.ret (.bool true)) ∧ OldK s1.heap s'.heap ∧ s'.os = s1.os ∧ AllBare s'.gens) s1 := by
    intro H St hS hok
    have lay : ∀ {b : Addr} {o : Obj}, s1.heap.get? b = some o → H b = none → (hidT s1.heap H).get? b = some o := fun e n => hidT_get e n
    have other : ∀ {b : Addr} {o : Obj}, s1.heap.get? b = some o → b ≠ a → (hidT s1.heap H).get? b = some o := fun {b o} e n => lay e (by
      cases q : H b with
      | none => rfl
      | some u => exact absurd (St.only b (by rw [q]; simp)) n)
    have spaces : ∀ {b : Addr} {m : Str → Option Value}, s1.heap.Ns b m → (hidT s1.heap H).Ns b m := fun {b m} ⟨o, es, ep, e, d, r⟩ => ⟨o, es, ep, other e (fun z => by
      rw [z, ha] at e
      cases e
      cases (show Data.seq vs.toArray _ = Data.dict es ep from d)), d, r⟩
    have kin : K.In (hidT s1.heap H) := fun b o e => by
      by_cases n : b = a
      · cases q : H b with
        | none => exact lay (KX b o e) q
        | some u =>
          rw [n] at e q
          rw [St.free (by rw [q]; simp)] at e
          cases e
      · exact other (KX b o e) n
    have mod : Mod K mg (hidT s1.heap H) := ⟨kin, spaces n1, ⟨mb, spaces n2, n3⟩, let ⟨mc, h1, h2⟩ := few; ⟨mc, spaces h1, h2⟩⟩
    have e0 : Env0 P w K mg (hidT s1.heap H) callerA [] s1 H := ⟨rfl, mod, fun b o e => of_hidT e, Nat.le_of_eq (hidT_size _ _), trivial, fun b hb => absurd (show b ∈ ([] : List Addr) from hb) (by simp), hok, .of_eq bare⟩
    have bind : BindsTo s1 fd ⟨[.ref a], []⟩ ((["_law_script"] : List Str).zip [Value.ref a]) := FunD.bindsA (ps := ["_law_script"]) F (fun _ _ _ _ _ _ us hl => match us, hl with | [_], _ => rfl) s1 [.ref a] rfl
    refine codeAny_mono (law_at T F e0 bind (.cons rfl .nil) hS) fun r s' z => ?_
    cases r with
    | error e => exact False.elim z
    | ok fl =>
      cases fl with
      | ret u =>
        obtain ⟨v, H', os, br, un, hok', rv, q⟩ := z
        have q' : v = .bl true := q
        subst q'
        obtain rfl : u = Value.bool true := rv
        refine ⟨rfl, OldK.of_keep fun b o e => ?_, os, br⟩
        rcases St.kept b with n | ⟨ob, xs, n⟩
        · exact un.keep b o e n (by intro z; exact absurd (show b ∈ ([] : List Addr) from z) (by simp)) (by simp)
        · obtain ⟨g1, _⟩ := hok b _ n
          obtain ⟨g2, _⟩ := hok' b _ (un.frzs b ob _ n)
          rw [e] at g1
          cases g1
          exact g2
      | next => exact False.elim z
      | brk => exact False.elim z
      | cont => exact False.elim z
  cases hk : K.lookup a with
  | some o =>
    have e := KX a o hk
    rw [ha] at e
    cases e
    exact main (fun _ => none) ⟨fun _ z => absurd rfl z, fun z => absurd rfl z, fun _ => .inl rfl⟩ (.inr ⟨_, vs.toArray, _, hk, rfl, rfl, rfl, by rw [List.size_toArray, cnt]; exact hl, by simpa using rel⟩) fun b u z => by cases (show (none : Option HO) = some u from z)
  | none =>
    have at_ : ∀ b, b = a → (if b = a then some (HO.frz { cls := .type "list", data := .seq vs.toArray } (.lst (ns.map V.int))) else none) = some (HO.frz { cls := .type "list", data := .seq vs.toArray } (.lst (ns.map V.int))) := fun b h => if_pos h
    refine main (fun b => if b = a then some (.frz { cls := .type "list", data := .seq vs.toArray } (.lst (ns.map V.int))) else none) ⟨fun b z => Classical.byContradiction fun n => z (if_neg n), fun _ => hk, fun b => ?_⟩ (.inl (.inr ⟨_, if_pos rfl⟩)) fun b u z => ?_
    · by_cases n : b = a
      · exact .inr ⟨_, _, if_pos n⟩
      · exact .inl (if_neg n)
    · by_cases n : b = a
      · have z' := (if_pos n).symm.trans z
        cases z'
        subst n
        exact ⟨ha, by rw [List.length_map]; exact hl, vs, _, rel, ha⟩
      · cases (if_neg n).symm.trans z
end
end EH
open PySem PySem.W PySem.Calls PyProof.Rows
theorem PySem.Challenge.cw_elderhouse_k16_whole_few_brackets_holds : PySem.Challenge.rw_elderhouse_k16_whole_few_brackets.Holds := by
  w_on; o_law
  refine HandSHeadRun.head_any (r := EH.R) (q := view EH.R.prog [82]) (H := EH.hkE) (ob := EH.ob) (M := 20000) (loose := EH.names) (d := HandSHeadRun.topDef EH.R.prog 82) (kwd := []) EH.ob_eq
    (by kernel_rfl) (fun s => by kernel_rfl) EH.run (by kernel_rfl) (by kernel_rfl) (by kernel_rfl) (by rfl) (by first | assumption | decide +kernel) (by decide +kernel) ⟨rfl, rfl, rfl, rfl, rfl, by decide +kernel⟩ ?hw ?hc
  case hw => w_witness2
  case hc =>
    refine Att.attach_call (l := PySem.Challenge.rw_elderhouse_k16_whole_few_brackets) (n := 63) rfl (by kernel_rfl) fun w s₀ s₁ mg mb fa o pm cd doc a vs ns G Y ho hd hcd hmg hobj hints hlen hg => ?_
    obtain ⟨K, KX, c, x⟩ := Y
    have hlaw : mg ("law" : PySem.Str) = some (.ref fa) := by
      have e : (HandSHeadRun.topDef EH.R.prog 82).name = ("law" : PySem.Str) := by kernel_rfl
      rw [← e]
      exact hmg
    exact EH.law_go ⟨c, x, ⟨_, KX, G.T.g⟩⟩ hlaw KX G.T.g G.T.b G.T.builtins G.T.nolimit hg hobj hints (Nat.le_trans hlen (by decide))

