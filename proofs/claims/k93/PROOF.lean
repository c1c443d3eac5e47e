import PyProof.Rows.All
import Wide.All
import OpenK.AllK
import Wide.FinOn
import PySem.Str
import HandS.Text
import KE.KStateDown
import Lean
import HandS.ForMost
import HandS.ForExc
import HandS.ExcInit
import HandS.ExcField
import HandS.TryMany
import HandS.Star
import HandS.Flow
import HandS.Walk
import HandS.IsInst
import HandS.WrittenGet
import HandS.RaiseMore
import HandS.Conv
import HandS.TupAny
import HandS.Defaults
import HandS.Head0
import HandS.Head1
import HandS.Head2
import HandS.HeadEnd
import HandS.HeadHook1
import HandS.HeadHook2
import HandS.HeadHook3
import HandS.HeadHook4
import PySem.Challenge.RW_shapelang_k93_whole_beginnings_of_texts
import HandS.Evl
import HandS.Steps
import KE.KUnpackStar
import HandS.Codes
import HandS.TryOnly
set_option linter.all false
set_option maxRecDepth 100000
set_option maxHeartbeats 4000000
/-! The reader as a machine that takes one token at a time (plain Lean). -/
namespace Sh
inductive Tk where
  | lp | rp | arrow | bar | us | comma | semi | plus | minus | star | lt | eq
  | word | name | num | kfun | klet | kin | kmatch | kwith | kend | kas | kdata | kis | khole | bad
  deriving DecidableEq, Repr
inductive Fr where
  | br | fn | lt | inn | matched | row (n : Nat) | mk (n : Nat) | call | op (s : Tk)
  deriving DecidableEq, Repr
inductive PF where
  | br | mk (n : Nat)
  deriving DecidableEq, Repr
inductive Cfg where
  | opd (s : List Fr) | funW (s : List Fr) | funA (s : List Fr) | letW (s : List Fr) | letE (s : List Fr) | aft (s : List Fr)
  | rowS (n : Nat) (s : List Fr) | pb (n : Nat) (ps : List PF) (s : List Fr) | pa (n : Nat) (ps : List PF) (s : List Fr) | red (s : List Fr)
  deriving DecidableEq, Repr
def str : Tk → Nat
  | .star => 3
  | .plus => 2
  | .minus => 2
  | .lt => 1
  | .eq => 1
  | _ => 0
def atomK : Tk → Bool
  | .num => true
  | .word => true
  | .khole => true
  | .name => true
  | .lp => true
  | .kmatch => true
  | _ => false
def patK : Tk → Bool
  | .us => true
  | .word => true
  | .name => true
  | .lp => true
  | _ => false
/-- the classes of frames: wide, operator, make or call -/
def Fr.wide : Fr → Bool
  | .op _ => false
  | .mk _ => false
  | .call => false
  | _ => true
def Fr.isM : Fr → Bool
  | .mk _ => true
  | .call => true
  | _ => false
def wideTop : List Fr → Bool
  | [] => true
  | f :: _ => f.wide
def topM : List Fr → Bool
  | [] => false
  | f :: _ => f.isM
def attach : List Fr → List Fr
  | .mk n :: s => .mk (n + 1) :: s
  | .call :: s => .call :: s
  | s => .call :: s
def dOpd (s : List Fr) : Tk → Option Cfg
  | .lp => some (.opd (.br :: s))
  | .kmatch => some (.opd (.matched :: s))
  | .kfun => if wideTop s = true then some (.funW s) else none
  | .klet => if wideTop s = true then some (.letW s) else none
  | .num => some (.aft (attach s))
  | .word => some (.aft (attach s))
  | .khole => some (.aft (attach s))
  | .name => if topM s = true then some (.aft (attach s)) else some (.aft (.mk 0 :: s))
  | _ => none
def dRow (n : Nat) (s : List Fr) (t : Tk) : Option Cfg :=
  if t = .kend then some (.aft (attach s)) else if n = 8 then none else if t = .bar then some (.pb n [] s) else none
def dClose : List Fr → Tk → Option Cfg
  | .fn :: s, t => dClose s t
  | .inn :: s, t => dClose s t
  | .br :: s, t => if t = .rp then some (.aft (attach s)) else none
  | .lt :: s, t => if t = .kin then some (.opd (.inn :: s)) else none
  | .matched :: s, t => if t = .kwith then some (.rowS 0 s) else none
  | .row n :: s, t => dRow (n + 1) s t
  | _, _ => none
def dEnd (s : List Fr) (t : Tk) : Option Cfg := if 0 < str t then some (.opd (.op t :: s)) else dClose s t
def dRed : List Fr → Tk → Option Cfg
  | .op o :: s, t => if str o < str t then some (.opd (.op t :: .op o :: s)) else if str o = 1 ∧ str t = 1 then none else dRed s t
  | s, t => dEnd s t
def dAft : List Fr → Tk → Option Cfg
  | .mk n :: s, t => if atomK t = true then (if 3 ≤ n then none else dOpd (.mk n :: s) t) else dRed s t
  | .call :: s, t => if atomK t = true then dOpd (.call :: s) t else dRed s t
  | _, _ => none
def patt : List PF → List PF
  | .mk n :: ps => .mk (n + 1) :: ps
  | ps => ps
def dPB (n : Nat) (ps : List PF) (s : List Fr) : Tk → Option Cfg
  | .lp => some (.pb n (.br :: ps) s)
  | .us => some (.pa n (patt ps) s)
  | .word => some (.pa n (patt ps) s)
  | .name => match ps with
    | .mk k :: r => some (.pa n (.mk (k + 1) :: r) s)
    | ps => some (.pa n (.mk 0 :: ps) s)
  | _ => none
def dPC (n : Nat) : List PF → List Fr → Tk → Option Cfg
  | [], s, t => if t = .arrow then some (.opd (.row n :: s)) else none
  | .br :: r, s, t => if t = .rp then some (.pa n (patt r) s) else none
  | _, _, _ => none
def dPA (n : Nat) : List PF → List Fr → Tk → Option Cfg
  | .mk k :: r, s, t => if patK t = true then (if 3 ≤ k then none else dPB n (.mk k :: r) s t) else dPC n r s t
  | ps, s, t => dPC n ps s t
def dl : Cfg → Tk → Option Cfg
  | .opd s, t => dOpd s t
  | .funW s, t => if t = .word then some (.funA s) else none
  | .funA s, t => if t = .arrow then some (.opd (.fn :: s)) else none
  | .letW s, t => if t = .word then some (.letE s) else none
  | .letE s, t => if t = .eq then some (.opd (.lt :: s)) else none
  | .aft s, t => dAft s t
  | .rowS n s, t => dRow n s t
  | .pb n ps s, t => dPB n ps s t
  | .pa n ps s, t => dPA n ps s t
  | .red s, t => dRed s t
def accC : List Fr → Bool
  | .fn :: s => accC s
  | .inn :: s => accC s
  | [] => true
  | _ => false
def accR : List Fr → Bool
  | .op _ :: s => accR s
  | s => accC s
def acc : Cfg → Bool
  | .aft (.mk _ :: s) => accR s
  | .aft (.call :: s) => accR s
  | .red s => accR s
  | _ => false
/-- none: a text; some i: what is wrong is found at token i -/
def runC : Cfg → List Tk → Nat → Option Nat
  | c, [], i => if acc c = true then none else some i
  | c, t :: ts, i => match dl c t with
    | none => some i
    | some c' => runC c' ts (i + 1)
def steps : Cfg → List Tk → Option Cfg
  | c, [] => some c
  | c, t :: ts => match dl c t with
    | none => none
    | some c' => steps c' ts
theorem steps_app {a b : List Tk} : ∀ {c c' : Cfg}, steps c a = some c' → steps c (a ++ b) = steps c' b := by
  induction a with
  | nil => intro c c' h; cases h; rfl
  | cons t a ih =>
    intro c c' h
    simp only [steps, List.cons_append] at h ⊢
    cases e : dl c t with
    | none => rw [e] at h; cases h
    | some c1 => rw [e] at h; exact ih h
theorem runC_app {a b : List Tk} : ∀ {c c' : Cfg} {i : Nat}, steps c a = some c' → runC c (a ++ b) i = runC c' b (i + a.length) := by
  induction a with
  | nil => intro c c' i h; cases h; rfl
  | cons t a ih =>
    intro c c' i h
    simp only [steps, runC, List.cons_append, List.length_cons] at h ⊢
    cases e : dl c t with
    | none => rw [e] at h; cases h
    | some c1 =>
      rw [e] at h
      rw [show i + (a.length + 1) = i + 1 + a.length by omega]
      exact ih h
theorem steps_take : ∀ {a : List Tk} {c c' : Cfg}, steps c a = some c' → ∀ n : Nat, ∃ c1, steps c (a.take n) = some c1 ∧ steps c1 (a.drop n) = some c'
  | a, c, c', h, 0 => ⟨c, by simp [steps], by simpa using h⟩
  | [], c, c', h, n + 1 => ⟨c, by simp [steps], by simpa using h⟩
  | t :: a, c, c', h, n + 1 => by
    simp only [steps, List.take_succ_cons, List.drop_succ_cons] at h ⊢
    cases e : dl c t with
    | none => rw [e] at h; cases h
    | some c1 => rw [e] at h; exact steps_take h n
theorem runC_ge : ∀ {ts : List Tk} {c : Cfg} {i j : Nat}, runC c ts i = some j → i ≤ j
  | [], c, i, j, h => by
    simp only [runC] at h
    split at h
    · cases h
    · cases h; exact Nat.le_refl _
  | t :: ts, c, i, j, h => by
    simp only [runC] at h
    split at h
    · cases h; exact Nat.le_refl _
    · exact Nat.le_of_succ_le (runC_ge h)
/-- the index that the law speaks of -/
def ix : Option Nat → Int
  | none => -1
  | some i => (i : Int)
def c0 : Cfg := .opd []
def idx (ts : List Tk) : Int := ix (runC c0 ts 0)
theorem runC_nil {c : Cfg} {i : Nat} : runC c [] i = if acc c = true then none else some i := rfl
theorem idx_pre {a : List Tk} {c : Cfg} (h : steps c0 a = some c) : idx a = -1 ∨ idx a = (a.length : Int) := by
  unfold idx
  have e := runC_app (b := []) (i := 0) h
  rw [List.append_nil] at e
  rw [e, runC_nil]
  cases acc c <;> simp [ix]
theorem idx_app {a b : List Tk} {c : Cfg} (h : steps c0 a = some c) : idx (a ++ b) = ix (runC c b a.length) := by
  unfold idx
  rw [runC_app h, Nat.zero_add]
/-- one token behind a beginning -/
theorem idx_one {a : List Tk} {c : Cfg} (h : steps c0 a = some c) (t : Tk) : (dl c t = none ∧ idx (a ++ [t]) = (a.length : Int)) ∨ (∃ c', dl c t = some c' ∧ (idx (a ++ [t]) = -1 ∨ idx (a ++ [t]) = (a.length : Int) + 1)) := by
  rw [idx_app h]
  simp only [runC]
  cases e : dl c t with
  | none => exact .inl ⟨rfl, rfl⟩
  | some c' =>
    refine .inr ⟨c', rfl, ?_⟩
    simp only
    cases acc c' <;> simp [ix]
/-- what follows a token that cannot come -/
theorem idx_bad {a b : List Tk} {c : Cfg} {t : Tk} (h : steps c0 a = some c) (hd : dl c t = none) : idx (a ++ t :: b) = (a.length : Int) := by
  rw [idx_app h]
  simp only [runC, hd, ix]
theorem idx_good {a b : List Tk} {c c' : Cfg} {t : Tk} (h : steps c0 a = some c) (hd : dl c t = some c') : idx (a ++ t :: b) = -1 ∨ (a.length : Int) < idx (a ++ t :: b) := by
  rw [idx_app h]
  simp only [runC, hd]
  cases e : runC c' b (a.length + 1) with
  | none => exact .inl rfl
  | some j =>
    have := runC_ge e
    right
    simp only [ix]
    omega
/-- what the law asks at a cut -/
theorem cut_ok {a b : List Tk} {c : Cfg} (h : steps c0 a = some c) (t m : Tk) :
    (idx a = -1 ∨ idx a = (a.length : Int)) ∧ (idx (a ++ [t]) = -1 ∨ idx (a ++ [t]) = (a.length : Int) ∨ idx (a ++ [t]) = (a.length : Int) + 1) ∧
    (idx (a ++ [t]) = (a.length : Int) → idx (a ++ [t, m]) = (a.length : Int) ∧ idx (a ++ [t] ++ b) = (a.length : Int)) ∧
    (idx (a ++ [t]) ≠ (a.length : Int) → (idx (a ++ [t, m]) = -1 ∨ (a.length : Int) < idx (a ++ [t, m])) ∧ (idx (a ++ [t] ++ b) = -1 ∨ (a.length : Int) < idx (a ++ [t] ++ b))) := by
  have e1 : a ++ [t, m] = a ++ t :: [m] := rfl
  have e2 : a ++ [t] ++ b = a ++ t :: b := by simp
  rw [e1, e2]
  refine ⟨idx_pre h, ?_, ?_, ?_⟩
  · rcases idx_one h t with ⟨_, q⟩ | ⟨_, _, q | q⟩
    · exact .inr (.inl q)
    · exact .inl q
    · exact .inr (.inr q)
  · intro q
    rcases idx_one h t with ⟨d, _⟩ | ⟨_, _, z | z⟩
    · exact ⟨idx_bad h d, idx_bad h d⟩
    · rw [z] at q; omega
    · rw [z] at q; omega
  · intro q
    rcases idx_one h t with ⟨d, z⟩ | ⟨c', d, _⟩
    · exact absurd z q
    · exact ⟨idx_good h d, idx_good h d⟩
/-! ### a beginning is ended -/
def Fr.pot : Fr → Nat
  | .br => 1
  | .matched => 2
  | .lt => 2
  | .row _ => 1
  | _ => 0
def potS : List Fr → Nat
  | [] => 0
  | f :: s => f.pot + potS s
def potP : List PF → Nat
  | [] => 0
  | .br :: s => 1 + potP s
  | .mk _ :: s => potP s
def pot : Cfg → Nat
  | .opd s => 1 + potS s
  | .funW s => 3 + potS s
  | .funA s => 2 + potS s
  | .letW s => 5 + potS s
  | .letE s => 4 + potS s
  | .aft s => potS s
  | .rowS _ s => 1 + potS s
  | .pb _ ps s => 4 + potP ps + potS s
  | .pa _ ps s => 3 + potP ps + potS s
  | .red s => potS s
def okOver (f : Fr) : List Fr → Bool
  | [] => true
  | g :: _ => match f with
    | .fn => g.wide
    | .lt => g.wide
    | .inn => g.wide
    | .op _ => !g.isM
    | .mk _ => !g.isM
    | .call => !g.isM
    | _ => true
def wf : List Fr → Bool
  | [] => true
  | f :: s => okOver f s && wf s
def notMk : List PF → Bool
  | .mk _ :: _ => false
  | _ => true
def wfp : List PF → Bool
  | [] => true
  | .br :: s => wfp s
  | .mk _ :: s => notMk s && wfp s
/-- what stands between two tokens -/
def Cfg.ok : Cfg → Bool
  | .opd s => wf s
  | .funW s => wideTop s && wf s
  | .funA s => wideTop s && wf s
  | .letW s => wideTop s && wf s
  | .letE s => wideTop s && wf s
  | .aft s => topM s && wf s
  | .rowS _ s => wf s
  | .pb _ ps s => wfp ps && wf s
  | .pa _ ps s => wfp ps && wf s
  | .red s => !topM s && wf s
theorem wf_attach {s : List Fr} (h : wf s = true) : wf (attach s) = true ∧ topM (attach s) = true ∧ potS (attach s) = potS s := by
  cases s with
  | nil => exact ⟨rfl, rfl, rfl⟩
  | cons f s => cases f <;> simp_all [attach, wf, okOver, topM, Fr.isM, potS, Fr.pot, Fr.wide] <;> (cases s <;> simp_all [okOver])
theorem wf_tail {f : Fr} {s : List Fr} (h : wf (f :: s) = true) : wf s = true := by
  simp only [wf, Bool.and_eq_true] at h; exact h.2
theorem wf_cons {f : Fr} {s : List Fr} (h : wf s = true) (ho : okOver f s = true) : wf (f :: s) = true := by
  simp only [wf, Bool.and_eq_true]; exact ⟨ho, h⟩
theorem ok_br {s : List Fr} : okOver .br s = true := by cases s <;> rfl
theorem ok_matched {s : List Fr} : okOver .matched s = true := by cases s <;> rfl
theorem ok_row {n : Nat} {s : List Fr} : okOver (.row n) s = true := by cases s <;> rfl
theorem ok_wide {f : Fr} {s : List Fr} (hf : f = .fn ∨ f = .lt ∨ f = .inn) (h : wideTop s = true) : okOver f s = true := by
  cases s with
  | nil => rfl
  | cons g s => rcases hf with rfl | rfl | rfl <;> exact h
theorem ok_op {o : Tk} {s : List Fr} (h : topM s = false) : okOver (.op o) s = true := by
  cases s with
  | nil => rfl
  | cons g s => simp only [topM] at h; simp [okOver, h]
theorem ok_M {f : Fr} {s : List Fr} (hf : f.isM = true) (h : topM s = false) : okOver f s = true := by
  cases s with
  | nil => rfl
  | cons g s => simp only [topM] at h; cases f <;> simp_all [okOver, Fr.isM]
theorem wide_notM {s : List Fr} (h : wideTop s = true) : topM s = false := by
  cases s with
  | nil => rfl
  | cons g s => cases g <;> simp_all [wideTop, topM, Fr.wide, Fr.isM]
end Sh
set_option linter.all false
set_option maxRecDepth 100000
set_option maxHeartbeats 4000000
/-! What one token does to the machine; how a beginning is ended (plain Lean). -/
namespace Sh
theorem dOpd_ok {s : List Fr} {t : Tk} {c' : Cfg} (h : wf s = true) (e : dOpd s t = some c') : c'.ok = true ∧ pot c' ≤ potS s + 5 := by
  obtain ⟨a1, a2, a3⟩ := wf_attach h
  cases t <;> simp only [dOpd] at e <;> (try cases e)
  case lp => exact ⟨wf_cons h ok_br, by simp only [pot, potS, Fr.pot]; omega⟩
  case kmatch => exact ⟨wf_cons h ok_matched, by simp only [pot, potS, Fr.pot]; omega⟩
  case num => exact ⟨by simp only [Cfg.ok, a1, a2, Bool.and_self], by simp only [pot, a3]; omega⟩
  case word => exact ⟨by simp only [Cfg.ok, a1, a2, Bool.and_self], by simp only [pot, a3]; omega⟩
  case khole => exact ⟨by simp only [Cfg.ok, a1, a2, Bool.and_self], by simp only [pot, a3]; omega⟩
  case kfun =>
    split at e
    · rename_i w; cases e; exact ⟨by simp only [Cfg.ok, h, w, Bool.and_self], by simp only [pot]; omega⟩
    · cases e
  case klet =>
    split at e
    · rename_i w; cases e; exact ⟨by simp only [Cfg.ok, h, w, Bool.and_self], by simp only [pot]; omega⟩
    · cases e
  case name =>
    split at e
    · cases e; exact ⟨by simp only [Cfg.ok, a1, a2, Bool.and_self], by simp only [pot, a3]; omega⟩
    · rename_i w
      cases e
      have w' : topM s = false := by simpa using w
      exact ⟨by simp only [Cfg.ok, topM, Fr.isM, wf, ok_M (f := .mk 0) rfl w', h, Bool.and_self], by simp only [pot, potS, Fr.pot]; omega⟩
theorem dRow_ok {n : Nat} {s : List Fr} {t : Tk} {c' : Cfg} (h : wf s = true) (e : dRow n s t = some c') : c'.ok = true ∧ pot c' ≤ potS s + 4 := by
  obtain ⟨a1, a2, a3⟩ := wf_attach h
  unfold dRow at e
  split at e
  · cases e; exact ⟨by simp only [Cfg.ok, a1, a2, Bool.and_self], by simp only [pot, a3]; omega⟩
  · split at e
    · cases e
    · split at e
      · cases e; exact ⟨by simp only [Cfg.ok, wfp, h, Bool.and_self], by simp only [pot, potP]; omega⟩
      · cases e
theorem wide_under {f : Fr} {s : List Fr} (hf : f = .fn ∨ f = .inn ∨ f = .lt) (h : wf (f :: s) = true) : wideTop s = true := by
  cases s with
  | nil => rfl
  | cons g s =>
    simp only [wf, Bool.and_eq_true] at h
    rcases hf with rfl | rfl | rfl <;> exact h.1
theorem notM_under {f : Fr} {s : List Fr} (hf : f.isM = true ∨ ∃ o, f = .op o) (h : wf (f :: s) = true) : topM s = false := by
  cases s with
  | nil => rfl
  | cons g s =>
    simp only [wf, Bool.and_eq_true] at h
    have h1 := h.1
    simp only [topM]
    rcases hf with hf | ⟨o, rfl⟩
    · cases f <;> simp_all [okOver, Fr.isM]
    · simpa [okOver] using h1
theorem dClose_ok {t : Tk} {c' : Cfg} : ∀ {s : List Fr}, wf s = true → dClose s t = some c' → c'.ok = true ∧ pot c' ≤ potS s + 4
  | [], _, e => by simp [dClose] at e
  | .fn :: s, h, e => by
    have := dClose_ok (s := s) (wf_tail h) e
    exact ⟨this.1, by simp only [potS, Fr.pot]; omega⟩
  | .inn :: s, h, e => by
    have := dClose_ok (s := s) (wf_tail h) e
    exact ⟨this.1, by simp only [potS, Fr.pot]; omega⟩
  | .br :: s, h, e => by
    obtain ⟨a1, a2, a3⟩ := wf_attach (wf_tail h)
    simp only [dClose] at e
    split at e
    · cases e; exact ⟨by simp only [Cfg.ok, a1, a2, Bool.and_self], by simp only [pot, a3, potS, Fr.pot]; omega⟩
    · cases e
  | .lt :: s, h, e => by
    simp only [dClose] at e
    split at e
    · cases e
      exact ⟨wf_cons (wf_tail h) (ok_wide (.inr (.inr rfl)) (wide_under (.inr (.inr rfl)) h)), by simp only [pot, potS, Fr.pot]; omega⟩
    · cases e
  | .matched :: s, h, e => by
    simp only [dClose] at e
    split at e
    · cases e; exact ⟨wf_tail h, by simp only [pot, potS, Fr.pot]; omega⟩
    · cases e
  | .row n :: s, h, e => by
    have := dRow_ok (wf_tail h) (show dRow (n + 1) s t = some c' from e)
    exact ⟨this.1, by simp only [potS, Fr.pot]; omega⟩
  | .mk _ :: s, _, e => by simp [dClose] at e
  | .call :: s, _, e => by simp [dClose] at e
  | .op _ :: s, _, e => by simp [dClose] at e
theorem dEnd_ok {t : Tk} {c' : Cfg} {s : List Fr} (hm : topM s = false) (h : wf s = true) (e : dEnd s t = some c') : c'.ok = true ∧ pot c' ≤ potS s + 4 := by
  unfold dEnd at e
  split at e
  · cases e; exact ⟨wf_cons h (ok_op hm), by simp only [pot, potS, Fr.pot]; omega⟩
  · exact dClose_ok h e
theorem dRed_ok {t : Tk} {c' : Cfg} : ∀ {s : List Fr}, topM s = false → wf s = true → dRed s t = some c' → c'.ok = true ∧ pot c' ≤ potS s + 4
  | .op o :: s, hm, h, e => by
    simp only [dRed] at e
    split at e
    · cases e; exact ⟨wf_cons h (ok_op rfl), by simp only [pot, potS, Fr.pot]; omega⟩
    · split at e
      · cases e
      · have := dRed_ok (s := s) (notM_under (.inr ⟨o, rfl⟩) h) (wf_tail h) e
        exact ⟨this.1, by simp only [potS, Fr.pot]; omega⟩
  | [], hm, h, e => dEnd_ok hm h e
  | .br :: s, hm, h, e => dEnd_ok hm h e
  | .fn :: s, hm, h, e => dEnd_ok hm h e
  | .lt :: s, hm, h, e => dEnd_ok hm h e
  | .inn :: s, hm, h, e => dEnd_ok hm h e
  | .matched :: s, hm, h, e => dEnd_ok hm h e
  | .row _ :: s, hm, h, e => dEnd_ok hm h e
  | .mk _ :: s, hm, h, e => dEnd_ok hm h e
  | .call :: s, hm, h, e => dEnd_ok hm h e
theorem dOpd_okA {s : List Fr} {t : Tk} {c' : Cfg} (h : wf s = true) (ha : atomK t = true) (e : dOpd s t = some c') : pot c' ≤ potS s + 3 := by
  obtain ⟨a1, a2, a3⟩ := wf_attach h
  cases t <;> simp only [dOpd] at e <;> (try cases e) <;> (try cases ha)
  case lp => simp only [pot, potS, Fr.pot]; omega
  case kmatch => simp only [pot, potS, Fr.pot]; omega
  case num => simp only [pot, a3]; omega
  case word => simp only [pot, a3]; omega
  case khole => simp only [pot, a3]; omega
  case name =>
    split at e
    · cases e; simp only [pot, a3]; omega
    · cases e; simp only [pot, potS, Fr.pot]; omega
theorem dAft_ok {t : Tk} {c' : Cfg} {s : List Fr} (h : wf s = true) (e : dAft s t = some c') : c'.ok = true ∧ pot c' ≤ potS s + 4 := by
  unfold dAft at e
  split at e
  · rename_i n s
    split at e
    · rename_i ha
      split at e
      · cases e
      · have := dOpd_okA h ha e
        exact ⟨(dOpd_ok h e).1, by omega⟩
    · have := dRed_ok (notM_under (.inl rfl) h) (wf_tail h) e
      exact ⟨this.1, by simp only [potS, Fr.pot]; omega⟩
  · rename_i s
    split at e
    · rename_i ha
      have := dOpd_okA h ha e
      exact ⟨(dOpd_ok h e).1, by omega⟩
    · have := dRed_ok (notM_under (.inl rfl) h) (wf_tail h) e
      exact ⟨this.1, by simp only [potS, Fr.pot]; omega⟩
  · cases e
theorem wfp_patt {ps : List PF} (h : wfp ps = true) : wfp (patt ps) = true ∧ potP (patt ps) = potP ps := by
  cases ps with
  | nil => exact ⟨rfl, rfl⟩
  | cons f ps => cases f <;> simp_all [patt, wfp, potP]
theorem dPB_ok {n : Nat} {ps : List PF} {s : List Fr} {t : Tk} {c' : Cfg} (hp : wfp ps = true) (h : wf s = true) (e : dPB n ps s t = some c') : c'.ok = true ∧ pot c' ≤ potP ps + potS s + 5 := by
  obtain ⟨q1, q2⟩ := wfp_patt hp
  cases t <;> simp only [dPB] at e <;> (try cases e)
  case lp => exact ⟨by simp only [Cfg.ok, wfp, hp, h, Bool.and_self], by simp only [pot, potP]; omega⟩
  case us => exact ⟨by simp only [Cfg.ok, q1, h, Bool.and_self], by simp only [pot, q2]; omega⟩
  case word => exact ⟨by simp only [Cfg.ok, q1, h, Bool.and_self], by simp only [pot, q2]; omega⟩
  case name =>
    split at e
    · rename_i k r
      cases e
      exact ⟨by simp only [patt] at q1; simp only [Cfg.ok, q1, h, Bool.and_self], by simp only [pot, potP]; omega⟩
    · rename_i hne
      cases e
      have z : wfp (PF.mk 0 :: ps) = true := by
        cases ps with
        | nil => rfl
        | cons f ps =>
          cases f with
          | br => simpa [wfp, notMk] using hp
          | mk k => exact absurd rfl (hne k ps)
      exact ⟨by simp only [Cfg.ok, z, h, Bool.and_self], by simp only [pot, potP]; omega⟩
theorem dPC_ok {n : Nat} {ps : List PF} {s : List Fr} {t : Tk} {c' : Cfg} (hp : wfp ps = true) (h : wf s = true) (e : dPC n ps s t = some c') : c'.ok = true ∧ pot c' ≤ potP ps + potS s + 4 := by
  unfold dPC at e
  split at e
  · split at e
    · cases e; exact ⟨wf_cons h ok_row, by simp only [pot, potS, Fr.pot, potP]; omega⟩
    · cases e
  · rename_i s t r
    obtain ⟨q1, q2⟩ := wfp_patt (ps := r) (by simpa [wfp] using hp)
    split at e
    · cases e; exact ⟨by simp only [Cfg.ok, q1, h, Bool.and_self], by simp only [pot, q2, potP]; omega⟩
    · cases e
  · cases e
theorem wfp_tail {f : PF} {ps : List PF} (h : wfp (f :: ps) = true) : wfp ps = true := by
  cases f with
  | br => simpa [wfp] using h
  | mk k => simp only [wfp, Bool.and_eq_true] at h; exact h.2
theorem dPA_ok {n : Nat} {ps : List PF} {s : List Fr} {t : Tk} {c' : Cfg} (hp : wfp ps = true) (h : wf s = true) (e : dPA n ps s t = some c') : c'.ok = true ∧ pot c' ≤ potP ps + potS s + 5 := by
  unfold dPA at e
  split at e
  · rename_i k r s t
    split at e
    · split at e
      · cases e
      · exact dPB_ok hp h e
    · have := dPC_ok (wfp_tail hp) h e
      exact ⟨this.1, by simp only [potP]; omega⟩
  · have := dPC_ok hp h e
    exact ⟨this.1, by omega⟩
theorem pot_opd {s : List Fr} : pot (.opd s) = 1 + potS s := rfl
theorem pot_funW {s : List Fr} : pot (.funW s) = 3 + potS s := rfl
theorem pot_funA {s : List Fr} : pot (.funA s) = 2 + potS s := rfl
theorem pot_letW {s : List Fr} : pot (.letW s) = 5 + potS s := rfl
theorem pot_letE {s : List Fr} : pot (.letE s) = 4 + potS s := rfl
theorem pot_aft {s : List Fr} : pot (.aft s) = potS s := rfl
theorem pot_rowS {n : Nat} {s : List Fr} : pot (.rowS n s) = 1 + potS s := rfl
theorem pot_pb {n : Nat} {ps : List PF} {s : List Fr} : pot (.pb n ps s) = 4 + potP ps + potS s := rfl
theorem pot_pa {n : Nat} {ps : List PF} {s : List Fr} : pot (.pa n ps s) = 3 + potP ps + potS s := rfl
theorem pot_red {s : List Fr} : pot (.red s) = potS s := rfl
theorem dl_ok {c c' : Cfg} {t : Tk} (h : c.ok = true) (e : dl c t = some c') : c'.ok = true ∧ pot c' ≤ pot c + 4 := by
  cases c with
  | opd s =>
    have := dOpd_ok (show wf s = true from h) e
    exact ⟨this.1, by rw [pot_opd]; omega⟩
  | funW s =>
    simp only [dl] at e
    split at e
    · cases e; exact ⟨h, by rw [pot_funA, pot_funW]; omega⟩
    · cases e
  | funA s =>
    simp only [dl] at e
    simp only [Cfg.ok, Bool.and_eq_true] at h
    split at e
    · cases e; exact ⟨wf_cons h.2 (ok_wide (.inl rfl) h.1), by simp only [pot, potS, Fr.pot]; omega⟩
    · cases e
  | letW s =>
    simp only [dl] at e
    split at e
    · cases e; exact ⟨h, by rw [pot_letW, pot_letE]; omega⟩
    · cases e
  | letE s =>
    simp only [dl] at e
    simp only [Cfg.ok, Bool.and_eq_true] at h
    split at e
    · cases e; exact ⟨wf_cons h.2 (ok_wide (.inr (.inl rfl)) h.1), by simp only [pot, potS, Fr.pot]; omega⟩
    · cases e
  | aft s =>
    simp only [Cfg.ok, Bool.and_eq_true] at h
    have := dAft_ok h.2 e
    exact ⟨this.1, by rw [pot_aft]; omega⟩
  | rowS n s =>
    have := dRow_ok (show wf s = true from h) e
    exact ⟨this.1, by rw [pot_rowS]; omega⟩
  | pb n ps s =>
    simp only [Cfg.ok, Bool.and_eq_true] at h
    have := dPB_ok h.1 h.2 e
    exact ⟨this.1, by rw [pot_pb]; omega⟩
  | pa n ps s =>
    simp only [Cfg.ok, Bool.and_eq_true] at h
    have := dPA_ok h.1 h.2 e
    exact ⟨this.1, by rw [pot_pa]; omega⟩
  | red s =>
    simp only [Cfg.ok, Bool.and_eq_true] at h
    have := dRed_ok (by simpa using h.1) h.2 e
    exact ⟨this.1, by rw [pot_red]; omega⟩
theorem steps_ok : ∀ {ts : List Tk} {c c' : Cfg}, c.ok = true → steps c ts = some c' → c'.ok = true ∧ pot c' ≤ pot c + 4 * ts.length
  | [], c, c', h, e => by cases e; exact ⟨h, by simp⟩
  | t :: ts, c, c', h, e => by
    simp only [steps] at e
    cases d : dl c t with
    | none => rw [d] at e; cases e
    | some c1 =>
      rw [d] at e
      have h1 := dl_ok h d
      have h2 := steps_ok h1.1 e
      exact ⟨h2.1, by simp only [List.length_cons]; omega⟩
/-! ### closing -/
def closers : List Tk := [.rp, .kwith, .kend, .kin, .arrow, .eq, .num, .us, .word]
/-- t closes: it can come, none ahead of it among the closers can, and less is open behind it -/
def Closes (c : Cfg) (f : Tk → Option Cfg) : Prop := ∃ t pre post c', closers = pre ++ t :: post ∧ (∀ u ∈ pre, f u = none) ∧ f t = some c' ∧ pot c' < pot c
theorem closeC : ∀ {s : List Fr}, wf s = true → wideTop s = true → accC s = false →
    ∃ t pre post c', [Tk.rp, .kwith, .kend, .kin] = pre ++ t :: post ∧ (∀ u ∈ pre, dClose s u = none) ∧ dClose s t = some c' ∧ pot c' < potS s
  | [], _, _, ha => by simp [accC] at ha
  | .fn :: s, h, _, ha => by
    obtain ⟨t, pre, post, c', e1, e2, e3, e4⟩ := closeC (s := s) (wf_tail h) (wide_under (.inl rfl) h) ha
    exact ⟨t, pre, post, c', e1, e2, e3, by simp only [potS, Fr.pot]; omega⟩
  | .inn :: s, h, _, ha => by
    obtain ⟨t, pre, post, c', e1, e2, e3, e4⟩ := closeC (s := s) (wf_tail h) (wide_under (.inr (.inl rfl)) h) ha
    exact ⟨t, pre, post, c', e1, e2, e3, by simp only [potS, Fr.pot]; omega⟩
  | .br :: s, h, _, ha => ⟨.rp, [], _, .aft (attach s), rfl, fun u hu => (nomatch hu), rfl, by rw [pot_aft, (wf_attach (wf_tail h)).2.2]; simp only [potS, Fr.pot]; omega⟩
  | .matched :: s, h, _, ha => ⟨.kwith, [.rp], _, .rowS 0 s, rfl, by simp [dClose], rfl, by simp only [pot, potS, Fr.pot]; omega⟩
  | .row n :: s, h, _, ha => ⟨.kend, [.rp, .kwith], _, .aft (attach s), rfl, by simp [dClose, dRow], by simp [dClose, dRow], by rw [pot_aft, (wf_attach (wf_tail h)).2.2]; simp only [potS, Fr.pot]; omega⟩
  | .lt :: s, h, _, ha => ⟨.kin, [.rp, .kwith, .kend], [], .opd (.inn :: s), rfl, by simp [dClose], rfl, by simp only [pot, potS, Fr.pot]; omega⟩
  | .mk _ :: s, _, hw, _ => by simp [wideTop, Fr.wide] at hw
  | .call :: s, _, hw, _ => by simp [wideTop, Fr.wide] at hw
  | .op _ :: s, _, hw, _ => by simp [wideTop, Fr.wide] at hw
theorem str4 {t : Tk} {pre post : List Tk} (e : [Tk.rp, .kwith, .kend, .kin] = pre ++ t :: post) : str t = 0 ∧ atomK t = false ∧ ∀ u ∈ pre, str u = 0 ∧ atomK u = false := by
  have m : ∀ u ∈ [Tk.rp, .kwith, .kend, .kin], str u = 0 ∧ atomK u = false := by decide
  refine ⟨(m t (by rw [e]; simp)).1, (m t (by rw [e]; simp)).2, fun u hu => m u (by rw [e]; simp [hu])⟩
theorem dEnd0 {s : List Fr} {t : Tk} (h : str t = 0) : dEnd s t = dClose s t := by unfold dEnd; rw [if_neg (by omega)]
theorem closeR : ∀ {s : List Fr}, wf s = true → topM s = false → accR s = false →
    ∃ t pre post c', [Tk.rp, .kwith, .kend, .kin] = pre ++ t :: post ∧ (∀ u ∈ pre, dRed s u = none) ∧ dRed s t = some c' ∧ pot c' < potS s
  | .op o :: s, h, _, ha => by
    obtain ⟨t, pre, post, c', e1, e2, e3, e4⟩ := closeR (s := s) (wf_tail h) (notM_under (.inr ⟨o, rfl⟩) h) ha
    obtain ⟨z1, _, z2⟩ := str4 e1
    have red0 : ∀ u, str u = 0 → dRed (.op o :: s) u = dRed s u := fun u hu => by
      simp only [dRed]
      rw [if_neg (by omega), if_neg (by omega)]
    exact ⟨t, pre, post, c', e1, fun u hu => by rw [red0 u (z2 u hu).1]; exact e2 u hu, by rw [red0 t z1]; exact e3, by simp only [potS, Fr.pot]; omega⟩
  | [], _, _, ha => by simp [accR, accC] at ha
  | .br :: s, h, _, ha => closeW h rfl ha fun _ => rfl
  | .fn :: s, h, _, ha => closeW h rfl ha fun _ => rfl
  | .lt :: s, h, _, ha => closeW h rfl ha fun _ => rfl
  | .inn :: s, h, _, ha => closeW h rfl ha fun _ => rfl
  | .matched :: s, h, _, ha => closeW h rfl ha fun _ => rfl
  | .row _ :: s, h, _, ha => closeW h rfl ha fun _ => rfl
  | .mk _ :: s, _, hm, _ => by simp [topM, Fr.isM] at hm
  | .call :: s, _, hm, _ => by simp [topM, Fr.isM] at hm
where
  closeW {s : List Fr} (h : wf s = true) (hw : wideTop s = true) (ha : accC s = false) (hd : ∀ t, dRed s t = dEnd s t) :
      ∃ t pre post c', [Tk.rp, .kwith, .kend, .kin] = pre ++ t :: post ∧ (∀ u ∈ pre, dRed s u = none) ∧ dRed s t = some c' ∧ pot c' < potS s := by
    obtain ⟨t, pre, post, c', e1, e2, e3, e4⟩ := closeC h hw ha
    obtain ⟨z1, _, z2⟩ := str4 e1
    exact ⟨t, pre, post, c', e1, fun u hu => by rw [hd, dEnd0 (z2 u hu).1]; exact e2 u hu, by rw [hd, dEnd0 z1]; exact e3, e4⟩
def notRed : Cfg → Bool
  | .red _ => false
  | _ => true
theorem close_ok {c : Cfg} (h : c.ok = true) (hr : notRed c = true) (ha : acc c = false) : Closes c (dl c) := by
  cases c with
  | opd s => exact ⟨.num, [.rp, .kwith, .kend, .kin, .arrow, .eq], _, .aft (attach s), rfl, by simp [dl, dOpd], rfl, by rw [pot_aft, (wf_attach (show wf s = true from h)).2.2, pot_opd]; omega⟩
  | funW s => exact ⟨.word, [.rp, .kwith, .kend, .kin, .arrow, .eq, .num, .us], _, .funA s, rfl, by simp [dl], rfl, by rw [pot_funA, pot_funW]; omega⟩
  | funA s => exact ⟨.arrow, [.rp, .kwith, .kend, .kin], _, .opd (.fn :: s), rfl, by simp [dl], rfl, by simp only [pot, potS, Fr.pot]; omega⟩
  | letW s => exact ⟨.word, [.rp, .kwith, .kend, .kin, .arrow, .eq, .num, .us], _, .letE s, rfl, by simp [dl], rfl, by rw [pot_letW, pot_letE]; omega⟩
  | letE s => exact ⟨.eq, [.rp, .kwith, .kend, .kin, .arrow], _, .opd (.lt :: s), rfl, by simp [dl], rfl, by simp only [pot, potS, Fr.pot]; omega⟩
  | rowS n s => exact ⟨.kend, [.rp, .kwith], _, .aft (attach s), rfl, by simp [dl, dRow], by simp [dl, dRow], by rw [pot_aft, (wf_attach (show wf s = true from h)).2.2, pot_rowS]; omega⟩
  | pb n ps s =>
    simp only [Cfg.ok, Bool.and_eq_true] at h
    exact ⟨.us, [.rp, .kwith, .kend, .kin, .arrow, .eq, .num], _, .pa n (patt ps) s, rfl, by simp [dl, dPB], rfl, by rw [pot_pa, pot_pb, (wfp_patt h.1).2]; omega⟩
  | pa n ps s =>
    simp only [Cfg.ok, Bool.and_eq_true] at h
    have key : ∀ ps : List PF, wfp ps = true → notMk ps = true → ∃ t pre post c', closers = pre ++ t :: post ∧ (∀ u ∈ pre, dPC n ps s u = none) ∧ dPC n ps s t = some c' ∧ pot c' < 3 + potP ps + potS s ∧ patK t = false ∧ ∀ u ∈ pre, patK u = false := by
      intro ps hp hm
      cases ps with
      | nil => exact ⟨.arrow, [.rp, .kwith, .kend, .kin], _, .opd (.row n :: s), rfl, by simp [dPC], rfl, by simp only [pot, potS, Fr.pot, potP]; omega, rfl, by decide⟩
      | cons f r =>
        cases f with
        | br => exact ⟨.rp, [], _, .pa n (patt r) s, rfl, by simp, rfl, by rw [pot_pa, (wfp_patt (wfp_tail hp)).2]; simp only [potP]; omega, rfl, by decide⟩
        | mk k => simp [notMk] at hm
    cases ps with
    | nil =>
      obtain ⟨t, pre, post, c', e1, e2, e3, e4, _, _⟩ := key [] h.1 rfl
      exact ⟨t, pre, post, c', e1, e2, e3, e4⟩
    | cons f r =>
      cases f with
      | br =>
        obtain ⟨t, pre, post, c', e1, e2, e3, e4, _, _⟩ := key (.br :: r) h.1 rfl
        exact ⟨t, pre, post, c', e1, e2, e3, e4⟩
      | mk k =>
        have hr2 : notMk r = true := by
          have := h.1
          simp only [wfp, Bool.and_eq_true] at this
          exact this.1
        obtain ⟨t, pre, post, c', e1, e2, e3, e4, e5, e6⟩ := key r (wfp_tail h.1) hr2
        refine ⟨t, pre, post, c', e1, fun u hu => ?_, ?_, by rw [pot_pa]; simp only [potP]; omega⟩
        · show (if patK u = true then _ else _) = none
          rw [if_neg (by rw [e6 u hu]; decide)]; exact e2 u hu
        · show (if patK t = true then _ else _) = some c'
          rw [if_neg (by rw [e5]; decide)]; exact e3
  | aft s =>
    simp only [Cfg.ok, Bool.and_eq_true] at h
    have key : ∀ (f : Fr) (r : List Fr), f.isM = true → wf (f :: r) = true → accR r = false → (∀ t, atomK t = false → dAft (f :: r) t = dRed r t) → Closes (.aft (f :: r)) (dl (.aft (f :: r))) := by
      intro f r hf hw ha hd
      obtain ⟨t, pre, post, c', e1, e2, e3, e4⟩ := closeR (wf_tail hw) (notM_under (.inl hf) hw) ha
      obtain ⟨_, z1, z2⟩ := str4 e1
      refine ⟨t, pre, post ++ [.arrow, .eq, .num, .us, .word], c', ?_, fun u hu => ?_, ?_, ?_⟩
      · show [Tk.rp, .kwith, .kend, .kin] ++ [Tk.arrow, .eq, .num, .us, .word] = _
        rw [e1]; simp
      · show dAft (f :: r) u = none
        rw [hd u (z2 u hu).2]; exact e2 u hu
      · show dAft (f :: r) t = some c'
        rw [hd t z1]; exact e3
      · rw [pot_aft]; simp only [potS]; omega
    cases s with
    | nil => simp [topM] at h
    | cons f r =>
      cases f with
      | mk n => exact key _ _ rfl h.2 ha fun t ht => by simp only [dAft]; rw [if_neg (by rw [ht]; decide)]
      | call => exact key _ _ rfl h.2 ha fun t ht => by simp only [dAft]; rw [if_neg (by rw [ht]; decide)]
      | br => simp [topM, Fr.isM] at h
      | fn => simp [topM, Fr.isM] at h
      | lt => simp [topM, Fr.isM] at h
      | inn => simp [topM, Fr.isM] at h
      | matched => simp [topM, Fr.isM] at h
      | row n => simp [topM, Fr.isM] at h
      | op o => simp [topM, Fr.isM] at h
  | red s => simp [notRed] at hr
theorem dl_notRed {c c' : Cfg} {t : Tk} (e : dl c t = some c') : notRed c' = true := by
  have dRow_n : ∀ {n s t c'}, dRow n s t = some c' → notRed c' = true := by
    intro n s t c' e
    unfold dRow at e
    split at e
    · cases e; rfl
    · split at e
      · cases e
      · split at e
        · cases e; rfl
        · cases e
  have dOpd_n : ∀ {s t c'}, dOpd s t = some c' → notRed c' = true := by
    intro s t c' e
    cases t <;> simp only [dOpd] at e <;> (try cases e) <;> (try rfl)
    all_goals (split at e <;> (try cases e) <;> rfl)
  have dClose_n : ∀ {s : List Fr} {t c'}, dClose s t = some c' → notRed c' = true := by
    intro s
    induction s with
    | nil => intro t c' e; simp [dClose] at e
    | cons f s ih =>
      intro t c' e
      cases f <;> simp only [dClose] at e
      case fn => exact ih e
      case inn => exact ih e
      case row => exact dRow_n e
      case br => split at e <;> cases e; rfl
      case lt => split at e <;> cases e; rfl
      case matched => split at e <;> cases e; rfl
      all_goals cases e
  have dEnd_n : ∀ {s t c'}, dEnd s t = some c' → notRed c' = true := by
    intro s t c' e
    unfold dEnd at e
    split at e
    · cases e; rfl
    · exact dClose_n e
  have dRed_n : ∀ {s : List Fr} {t c'}, dRed s t = some c' → notRed c' = true := by
    intro s
    induction s with
    | nil => intro t c' e; exact dEnd_n e
    | cons f s ih =>
      intro t c' e
      cases f
      case op o =>
        simp only [dRed] at e
        split at e
        · cases e; rfl
        · split at e
          · cases e
          · exact ih e
      all_goals exact dEnd_n e
  have dPB_n : ∀ {n ps s t c'}, dPB n ps s t = some c' → notRed c' = true := by
    intro n ps s t c' e
    cases t <;> simp only [dPB] at e <;> (try cases e) <;> (try rfl)
    split at e <;> cases e <;> rfl
  have dPC_n : ∀ {n ps s t c'}, dPC n ps s t = some c' → notRed c' = true := by
    intro n ps s t c' e
    unfold dPC at e
    split at e
    · split at e <;> cases e; rfl
    · split at e <;> cases e; rfl
    · cases e
  cases c with
  | opd s => exact dOpd_n e
  | funW s => simp only [dl] at e; split at e <;> cases e; rfl
  | funA s => simp only [dl] at e; split at e <;> cases e; rfl
  | letW s => simp only [dl] at e; split at e <;> cases e; rfl
  | letE s => simp only [dl] at e; split at e <;> cases e; rfl
  | rowS n s => exact dRow_n e
  | pb n ps s => exact dPB_n e
  | pa n ps s =>
    simp only [dl] at e
    unfold dPA at e
    split at e
    · split at e
      · split at e
        · cases e
        · exact dPB_n e
      · exact dPC_n e
    · exact dPC_n e
  | aft s =>
    simp only [dl] at e
    unfold dAft at e
    split at e
    · split at e
      · split at e
        · cases e
        · exact dOpd_n e
      · exact dRed_n e
    · split at e
      · exact dOpd_n e
      · exact dRed_n e
    · cases e
  | red s => exact dRed_n e
theorem steps_notRed : ∀ {ts : List Tk} {c c' : Cfg}, notRed c = true → steps c ts = some c' → notRed c' = true
  | [], c, c', h, e => by cases e; exact h
  | t :: ts, c, c', h, e => by
    simp only [steps] at e
    cases d : dl c t with
    | none => rw [d] at e; cases e
    | some c1 => rw [d] at e; exact steps_notRed (dl_notRed d) e
end Sh
set_option linter.all false
set_option maxRecDepth 100000
set_option maxHeartbeats 4000000
/-! What the law writes can be read (plain Lean). -/
namespace Sh
def ctx (k : Nat) : List Fr → Bool
  | [] => true
  | .op o :: _ => decide (str o < k)
  | f :: _ => f.wide
def bnd : Nat → Nat
  | 0 => 0
  | 1 => 0
  | 2 => 2
  | _ => 3
theorem bnd_mono {j k : Nat} (h : j ≤ k) : bnd j ≤ bnd k := by
  match j, k, h with
  | 0, k, _ => simp [bnd]
  | 1, k, _ => simp [bnd]
  | 2, 0, h => omega
  | 2, 1, h => omega
  | 2, 2, _ => simp [bnd]
  | 2, k + 3, _ => simp [bnd]
  | j + 3, 0, h => omega
  | j + 3, 1, h => omega
  | j + 3, 2, h => omega
  | j + 3, k + 3, _ => simp [bnd]
theorem str_le (t : Tk) : str t ≤ 3 := by cases t <;> decide
theorem ctx_mono {j k : Nat} {s : List Fr} (h : j ≤ k) (c : ctx j s = true) : ctx k s = true := by
  cases s with
  | nil => rfl
  | cons f s =>
    cases f <;> simp only [ctx] at c ⊢ <;> (try exact c)
    have := of_decide_eq_true c
    exact decide_eq_true (by omega)
theorem ctx_notM {k : Nat} {s : List Fr} (c : ctx k s = true) : topM s = false := by
  cases s with
  | nil => rfl
  | cons f s => cases f <;> simp_all [ctx, topM, Fr.isM, Fr.wide]
theorem ctx0 {s : List Fr} (c : ctx 0 s = true) : wideTop s = true := by
  cases s with
  | nil => rfl
  | cons f s => cases f <;> simp_all [ctx, wideTop, Fr.wide]
theorem ctx4 {s : List Fr} (c : topM s = false) : ctx 4 s = true := by
  cases s with
  | nil => rfl
  | cons f s =>
    cases f <;> simp_all [ctx, topM, Fr.isM, Fr.wide]
    rename_i o; exact Nat.lt_of_le_of_lt (str_le o) (by decide)
theorem wide_ctx {k : Nat} {s : List Fr} (c : wideTop s = true) : ctx k s = true := by
  cases s with
  | nil => rfl
  | cons f s => cases f <;> simp_all [ctx, wideTop, Fr.wide]
theorem attach_notM {s : List Fr} (c : topM s = false) : attach s = .call :: s := by
  cases s with
  | nil => rfl
  | cons f s => cases f <;> simp_all [attach, topM, Fr.isM]
/-- a text of strength k -/
def Rd (k : Nat) (ts : List Tk) : Prop := ∀ s, wf s = true → ctx k s = true → ∃ c, steps (.opd s) ts = some c ∧ acc c = accR s ∧ ∀ t, atomK t = false → str t ≤ bnd k → dl c t = dRed s t
/-- .. that can be an argument | a function -/
def Arg (ts : List Tk) : Prop := (∃ t r, ts = t :: r ∧ atomK t = true) ∧ ∀ s, wf s = true → topM s = true → steps (.opd s) ts = some (.aft (attach s))
def Fn (ts : List Tk) : Prop := ∀ s, wf s = true → topM s = false → steps (.opd s) ts = some (.aft (.call :: s))
def Al (ts : List Tk) : Prop := (∃ t r, ts = t :: r ∧ atomK t = true) ∧ ∀ s, wf s = true → steps (.opd s) ts = some (.aft (attach s))
theorem Rd.mono {j k : Nat} {ts : List Tk} (r : Rd k ts) (h : j ≤ k) : Rd j ts := fun s hs hc => by
  obtain ⟨c, e1, e2, e3⟩ := r s hs (ctx_mono h hc)
  exact ⟨c, e1, e2, fun t ha hb => e3 t ha (Nat.le_trans hb (bnd_mono h))⟩
theorem acc_call {s : List Fr} : acc (.aft (.call :: s)) = accR s := rfl
theorem acc_mk {n : Nat} {s : List Fr} : acc (.aft (.mk n :: s)) = accR s := rfl
theorem dl_call {s : List Fr} {t : Tk} (h : atomK t = false) : dl (.aft (.call :: s)) t = dRed s t := by
  show (if atomK t = true then _ else _) = _
  rw [if_neg (by rw [h]; decide)]
theorem dl_mk {n : Nat} {s : List Fr} {t : Tk} (h : atomK t = false) : dl (.aft (.mk n :: s)) t = dRed s t := by
  show (if atomK t = true then _ else _) = _
  rw [if_neg (by rw [h]; decide)]
theorem Fn.rd {ts : List Tk} (f : Fn ts) : Rd 4 ts := fun s hs hc => ⟨_, f s hs (ctx_notM hc), acc_call, fun t ha _ => dl_call ha⟩
theorem Al.arg {ts : List Tk} (a : Al ts) : Arg ts := ⟨a.1, fun s hs _ => a.2 s hs⟩
theorem Al.fn {ts : List Tk} (a : Al ts) : Fn ts := fun s hs hm => by rw [a.2 s hs, attach_notM hm]
theorem Al.rd {ts : List Tk} (a : Al ts) : Rd 5 ts := fun s hs hc => ⟨_, a.fn s hs (ctx_notM hc), acc_call, fun t ha _ => dl_call ha⟩
theorem steps_cons {c c1 : Cfg} {t : Tk} {ts : List Tk} (h : dl c t = some c1) : steps c (t :: ts) = steps c1 ts := by simp only [steps, h]
theorem al_num : Al [.num] := ⟨⟨_, _, rfl, rfl⟩, fun _ _ => rfl⟩
theorem al_word : Al [.word] := ⟨⟨_, _, rfl, rfl⟩, fun _ _ => rfl⟩
theorem al_hole : Al [.khole] := ⟨⟨_, _, rfl, rfl⟩, fun _ _ => rfl⟩
theorem dRed_wide {s : List Fr} {t : Tk} (h : wideTop s = true) : dRed s t = dEnd s t := by
  cases s with
  | nil => rfl
  | cons f s => cases f <;> simp_all [wideTop, Fr.wide, dRed]
theorem accR_wide {s : List Fr} (h : wideTop s = true) : accR s = accC s := by
  cases s with
  | nil => rfl
  | cons f s => cases f <;> simp_all [wideTop, Fr.wide, accR]
theorem al_br {ts : List Tk} (r : Rd 0 ts) : Al (.lp :: ts ++ [.rp]) := by
  refine ⟨⟨_, _, rfl, rfl⟩, fun s hs => ?_⟩
  obtain ⟨c, e1, _, e3⟩ := r (.br :: s) (wf_cons hs ok_br) rfl
  show steps (.opd s) (.lp :: (ts ++ [.rp])) = _
  rw [steps_cons (c1 := .opd (.br :: s)) rfl, steps_app e1, steps_cons (c1 := .aft (attach s)) ?_]
  · rfl
  · rw [e3 .rp rfl (by decide)]; rfl
theorem rd_fun {b : List Tk} (r : Rd 0 b) : Rd 0 (.kfun :: .word :: .arrow :: b) := fun s hs hc => by
  have hw := ctx0 hc
  obtain ⟨c, e1, e2, e3⟩ := r (.fn :: s) (wf_cons hs (ok_wide (.inl rfl) hw)) rfl
  refine ⟨c, ?_, ?_, fun t ha hb => ?_⟩
  · rw [steps_cons (c1 := .funW s) (by simp only [dl, dOpd]; rw [if_pos hw]), steps_cons (c1 := .funA s) rfl, steps_cons (c1 := .opd (.fn :: s)) rfl, e1]
  · rw [e2, accR_wide hw]; rfl
  · have h0 : str t = 0 := by simp only [bnd] at hb; omega
    rw [e3 t ha hb, dRed_wide rfl, dRed_wide hw, dEnd0 h0, dEnd0 h0]; rfl
theorem rd_let {a b : List Tk} (ra : Rd 0 a) (rb : Rd 0 b) : Rd 0 (.klet :: .word :: .eq :: (a ++ .kin :: b)) := fun s hs hc => by
  have hw := ctx0 hc
  obtain ⟨c1, e1, _, e3⟩ := ra (.lt :: s) (wf_cons hs (ok_wide (.inr (.inl rfl)) hw)) rfl
  obtain ⟨c, f1, f2, f3⟩ := rb (.inn :: s) (wf_cons hs (ok_wide (.inr (.inr rfl)) hw)) rfl
  refine ⟨c, ?_, ?_, fun t ha hb => ?_⟩
  · rw [steps_cons (c1 := .letW s) (by simp only [dl, dOpd]; rw [if_pos hw]), steps_cons (c1 := .letE s) rfl, steps_cons (c1 := .opd (.lt :: s)) rfl, steps_app e1,
      steps_cons (c1 := .opd (.inn :: s)) (by rw [e3 .kin rfl (by decide)]; rfl), f1]
  · rw [f2, accR_wide hw]; rfl
  · have h0 : str t = 0 := by simp only [bnd] at hb; omega
    rw [f3 t ha hb, dRed_wide rfl, dRed_wide hw, dEnd0 h0, dEnd0 h0]; rfl
theorem push_op {s : List Fr} {o : Tk} (h : 0 < str o) (hc : ctx (str o) s = true) : dRed s o = some (.opd (.op o :: s)) := by
  cases s with
  | nil => show dEnd [] o = _; unfold dEnd; rw [if_pos h]
  | cons f s =>
    cases f with
    | op p =>
      have := of_decide_eq_true (show decide (str p < str o) = true from hc)
      show (if str p < str o then _ else _) = _
      rw [if_pos this]
    | mk n => simp [ctx, Fr.wide] at hc
    | call => simp [ctx, Fr.wide] at hc
    | _ => show dEnd _ o = _; unfold dEnd; rw [if_pos h]
theorem sign_atom {o : Tk} (h : 0 < str o) : atomK o = false := by cases o <;> first | rfl | exact absurd h (by decide)
theorem rd_op {o : Tk} {a b : List Tk} (h : 0 < str o) (ra : Rd (max (str o) 2) a) (rb : Rd (str o + 1) b) : Rd (str o) (a ++ o :: b) := fun s hs hc => by
  have hle := str_le o
  obtain ⟨c1, e1, _, e3⟩ := ra s hs (ctx_mono (Nat.le_max_left _ _) hc)
  obtain ⟨c, f1, f2, f3⟩ := rb (.op o :: s) (wf_cons hs (ok_op (ctx_notM hc))) (decide_eq_true (Nat.lt_succ_self _))
  have hb1 : str o ≤ bnd (max (str o) 2) := by
    have : str o = 1 ∨ str o = 2 ∨ str o = 3 := by omega
    rcases this with q | q | q <;> rw [q] <;> decide
  refine ⟨c, ?_, f2, fun t ha hb => ?_⟩
  · rw [steps_app e1, steps_cons (c1 := .opd (.op o :: s)) ?_, f1]
    rw [e3 o (sign_atom h) hb1, push_op h hc]
  · have hb2 : str t ≤ bnd (str o + 1) := Nat.le_trans hb (bnd_mono (Nat.le_succ _))
    rw [f3 t ha hb2]
    have h3 : ¬ str o < str t ∧ ¬ (str o = 1 ∧ str t = 1) := by
      have : str o = 1 ∨ str o = 2 ∨ str o = 3 := by omega
      rcases this with q | q | q <;> rw [q] at hb ⊢ <;> simp only [bnd] at hb <;> omega
    show (if str o < str t then _ else if str o = 1 ∧ str t = 1 then _ else _) = _
    rw [if_neg h3.1, if_neg h3.2]
theorem steps_aft_arg {m : Fr} {s : List Fr} {b : List Tk} (hm : m = .call ∨ ∃ n, m = .mk n ∧ n < 3) (hs : wf (m :: s) = true) (a : Arg b) : steps (.aft (m :: s)) b = some (.aft (attach (m :: s))) := by
  obtain ⟨⟨t, r, rfl, ht⟩, h2⟩ := a
  have hM : topM (m :: s) = true := by rcases hm with rfl | ⟨n, rfl, _⟩ <;> rfl
  rw [← h2 (m :: s) hs hM]
  simp only [steps]
  have : dl (.aft (m :: s)) t = dl (.opd (m :: s)) t := by
    rcases hm with rfl | ⟨n, rfl, hn⟩
    · show (if atomK t = true then _ else _) = _
      rw [if_pos ht]; rfl
    · show (if atomK t = true then _ else _) = _
      rw [if_pos ht, if_neg (by omega)]; rfl
  rw [this]
theorem fn_call {a b : List Tk} (fa : Fn a) (ab : Arg b) : Fn (a ++ b) := fun s hs hm => by
  rw [steps_app (fa s hs hm)]
  exact steps_aft_arg (.inl rfl) (wf_cons hs (ok_M rfl hm)) ab
/-- a Name with n parts behind it -/
def MkP (n : Nat) (ts : List Tk) : Prop := ∀ s, wf s = true → topM s = false → steps (.opd s) ts = some (.aft (.mk n :: s))
theorem mkp0 : MkP 0 [.name] := fun s _ hm => by
  rw [steps_cons (c1 := .aft (.mk 0 :: s)) (by simp only [dl, dOpd]; rw [if_neg (by rw [hm]; decide)])]; rfl
theorem mkp_more {n : Nat} {ts b : List Tk} (h : MkP n ts) (hn : n < 3) (ab : Arg b) : MkP (n + 1) (ts ++ b) := fun s hs hm => by
  rw [steps_app (h s hs hm)]
  exact steps_aft_arg (.inr ⟨n, rfl, hn⟩) (wf_cons hs (ok_M rfl hm)) ab
theorem MkP.rd {n : Nat} {ts : List Tk} (h : MkP n ts) : Rd 5 ts := fun s hs hc => ⟨_, h s hs (ctx_notM hc), acc_mk, fun t ha _ => dl_mk ha⟩
theorem arg_name : Arg [.name] := ⟨⟨_, _, rfl, rfl⟩, fun s _ hm => by
  rw [steps_cons (c1 := .aft (attach s)) (by simp only [dl, dOpd]; rw [if_pos hm])]; rfl⟩
/-! ### patterns -/
def PRd (p : List Tk) : Prop := ∀ n ps s, notMk ps = true → ∃ ps', steps (.pb n ps s) p = some (.pa n ps' s) ∧ ∀ t, patK t = false → dPA n ps' s t = dPC n ps s t
def PArg (p : List Tk) : Prop := (∃ t r, p = t :: r ∧ patK t = true) ∧ ∀ n k ps s, steps (.pb n (.mk k :: ps) s) p = some (.pa n (.mk (k + 1) :: ps) s)
def PAl (p : List Tk) : Prop := (∃ t r, p = t :: r ∧ patK t = true) ∧ ∀ n ps s, steps (.pb n ps s) p = some (.pa n (patt ps) s)
theorem patt_notMk {ps : List PF} (h : notMk ps = true) : patt ps = ps := by
  cases ps with
  | nil => rfl
  | cons f ps => cases f <;> simp_all [patt, notMk]
theorem dPA_notMk {n : Nat} {ps : List PF} {s : List Fr} {t : Tk} (h : notMk ps = true) : dPA n ps s t = dPC n ps s t := by
  cases ps with
  | nil => rfl
  | cons f ps => cases f <;> simp_all [dPA, notMk]
theorem PAl.rd {p : List Tk} (a : PAl p) : PRd p := fun n ps s h => ⟨patt ps, a.2 n ps s, fun t _ => by rw [patt_notMk h, dPA_notMk h]⟩
theorem PAl.arg {p : List Tk} (a : PAl p) : PArg p := ⟨a.1, fun n k ps s => a.2 n (.mk k :: ps) s⟩
theorem pal_us : PAl [.us] := ⟨⟨_, _, rfl, rfl⟩, fun _ _ _ => rfl⟩
theorem pal_word : PAl [.word] := ⟨⟨_, _, rfl, rfl⟩, fun _ _ _ => rfl⟩
theorem pal_br {p : List Tk} (r : PRd p) : PAl (.lp :: p ++ [.rp]) := by
  refine ⟨⟨_, _, rfl, rfl⟩, fun n ps s => ?_⟩
  obtain ⟨ps', e1, e2⟩ := r n (.br :: ps) s rfl
  show steps (.pb n ps s) (.lp :: (p ++ [.rp])) = _
  rw [steps_cons (c1 := .pb n (.br :: ps) s) rfl, steps_app e1, steps_cons (c1 := .pa n (patt ps) s) ?_]
  · rfl
  · show dPA n ps' s .rp = _
    rw [e2 .rp rfl]; rfl
def PatMk (k : Nat) (p : List Tk) : Prop := ∀ n ps s, notMk ps = true → steps (.pb n ps s) p = some (.pa n (.mk k :: ps) s)
theorem pmk0 : PatMk 0 [.name] := fun n ps s h => by
  cases ps with
  | nil => rfl
  | cons f ps => cases f <;> simp_all [notMk, steps, dl, dPB]
theorem pmk_more {k : Nat} {ts p : List Tk} (h : PatMk k ts) (hk : k < 3) (a : PArg p) : PatMk (k + 1) (ts ++ p) := fun n ps s hn => by
  rw [steps_app (h n ps s hn)]
  obtain ⟨⟨t, r, rfl, ht⟩, h2⟩ := a
  rw [← h2 n k ps s]
  simp only [steps]
  have : dl (.pa n (.mk k :: ps) s) t = dl (.pb n (.mk k :: ps) s) t := by
    show (if patK t = true then _ else _) = _
    rw [if_pos ht, if_neg (by omega)]; rfl
  rw [this]
theorem PatMk.rd {k : Nat} {p : List Tk} (h : PatMk k p) : PRd p := fun n ps s hn => ⟨_, h n ps s hn, fun t ht => by
  show (if patK t = true then _ else _) = _
  rw [if_neg (by rw [ht]; decide)]⟩
theorem parg_name : PArg [.name] := ⟨⟨_, _, rfl, rfl⟩, fun _ _ _ _ => rfl⟩
/-! ### matches -/
/-- a match with r rows, not ended -/
def RowP (r : Nat) (ts : List Tk) : Prop := (∃ u, ts = .kmatch :: u) ∧ ∀ s, wf s = true → ∃ c, steps (.opd s) ts = some c ∧ dl c .bar = dRow r s .bar ∧ dl c .kend = dRow r s .kend
theorem rowp0 {e : List Tk} (r : Rd 0 e) : RowP 0 (.kmatch :: e ++ [.kwith]) := by
  refine ⟨⟨_, rfl⟩, fun s hs => ?_⟩
  obtain ⟨c, e1, _, e3⟩ := r (.matched :: s) (wf_cons hs ok_matched) rfl
  refine ⟨.rowS 0 s, ?_, rfl, rfl⟩
  show steps (.opd s) (.kmatch :: (e ++ [.kwith])) = _
  rw [steps_cons (c1 := .opd (.matched :: s)) rfl, steps_app e1, steps_cons (c1 := .rowS 0 s) ?_]
  · rfl
  · rw [e3 .kwith rfl (by decide)]; rfl
theorem rowp_more {n : Nat} {ts p e : List Tk} (h : RowP n ts) (hn : n < 8) (hp : PRd p) (r : Rd 0 e) : RowP (n + 1) (ts ++ [.bar] ++ p ++ [.arrow] ++ e) := by
  obtain ⟨⟨u, rfl⟩, h⟩ := h
  refine ⟨⟨u ++ [.bar] ++ p ++ [.arrow] ++ e, by simp⟩, fun s hs => ?_⟩
  obtain ⟨c, e1, e2, _⟩ := h s hs
  obtain ⟨ps', f1, f2⟩ := hp n [] s rfl
  obtain ⟨c', g1, _, g3⟩ := r (.row n :: s) (wf_cons hs ok_row) rfl
  refine ⟨c', ?_, ?_, ?_⟩
  · have q : (Tk.kmatch :: u) ++ [.bar] ++ p ++ [.arrow] ++ e = (Tk.kmatch :: u) ++ (.bar :: (p ++ (.arrow :: e))) := by simp
    rw [q, steps_app e1, steps_cons (c1 := .pb n [] s) ?_, steps_app f1, steps_cons (c1 := .opd (.row n :: s)) ?_, g1]
    · show dPA n ps' s .arrow = _
      rw [f2 .arrow rfl]; rfl
    · rw [e2]; unfold dRow; rw [if_neg (by decide), if_neg (by omega), if_pos rfl]
  · rw [g3 .bar rfl (by decide)]; rfl
  · rw [g3 .kend rfl (by decide)]; rfl
theorem al_match {n : Nat} {ts : List Tk} (h : RowP n ts) : Al (ts ++ [.kend]) := by
  obtain ⟨⟨u, rfl⟩, h⟩ := h
  refine ⟨⟨.kmatch, u ++ [.kend], rfl, rfl⟩, fun s hs => ?_⟩
  obtain ⟨c, e1, _, e2⟩ := h s hs
  rw [steps_app e1, steps_cons (c1 := .aft (attach s)) ?_]
  · rfl
  · rw [e2]; rfl
/-! ### what the law's writers hand back -/
/-- bare tokens of strength own; m: the expression is a make -/
def Pb (own : Nat) (m : Bool) (ts : List Tk) : Prop := own ≤ 5 ∧ Rd own ts ∧ (own = 5 → Arg ts) ∧ (4 ≤ own → m = false → Fn ts)
/-- tokens where wanted is wanted -/
def Pt (wanted : Nat) (m : Bool) (ts : List Tk) : Prop := (∀ k, k ≤ wanted → k ≤ 5 → Rd k ts) ∧ (5 ≤ wanted → Arg ts) ∧ ((wanted = 4 ∧ m = false) ∨ wanted = 6 → Fn ts)
def brs (j : Nat) (ts : List Tk) : List Tk := List.replicate j .lp ++ ts ++ List.replicate j .rp
theorem brs_succ {j : Nat} {ts : List Tk} : brs (j + 1) ts = .lp :: brs j ts ++ [.rp] := by
  unfold brs
  rw [List.replicate_succ, List.replicate_succ']
  simp
theorem brs_zero {ts : List Tk} : brs 0 ts = ts := by simp [brs]
theorem al_brs {ts : List Tk} (r : Rd 0 ts) : ∀ j : Nat, Al (brs (j + 1) ts)
  | 0 => by rw [brs_succ, brs_zero]; exact al_br r
  | j + 1 => by rw [brs_succ]; exact al_br ((al_brs r j).rd.mono (by decide))
theorem pal_brs {p : List Tk} (r : PRd p) : ∀ j : Nat, PAl (brs (j + 1) p)
  | 0 => by rw [brs_succ, brs_zero]; exact pal_br r
  | j + 1 => by rw [brs_succ]; exact pal_br (pal_brs r j).rd
theorem pt_of {own wanted j : Nat} {m : Bool} {ts : List Tk} (h : Pb own m ts) (hj : own < wanted → 1 ≤ j) : Pt wanted m (brs j ts) := by
  obtain ⟨h1, h2, h3, h4⟩ := h
  cases j with
  | zero =>
    have hw : wanted ≤ own := by
      rcases Nat.lt_or_ge own wanted with q | q
      · have := hj q; omega
      · exact q
    rw [brs_zero]
    refine ⟨fun k hk _ => h2.mono (by omega), fun q => h3 (by omega), fun q => ?_⟩
    rcases q with ⟨q, hm⟩ | q
    · exact h4 (by omega) hm
    · omega
  | succ j =>
    have a := al_brs (h2.mono (Nat.zero_le _)) j
    exact ⟨fun k _ hk => a.rd.mono hk, fun _ => a.arg, fun _ => a.fn⟩
/-- of a pattern -/
def Pp (inner : Bool) (ts : List Tk) : Prop := PRd ts ∧ (inner = true → PArg ts)
theorem pp_of {inner : Bool} {j : Nat} {ts : List Tk} (r : PRd ts) (h : j = 0 → inner = true → PArg ts) : Pp inner (brs j ts) := by
  cases j with
  | zero => rw [brs_zero]; exact ⟨r, h rfl⟩
  | succ j =>
    have a := pal_brs r j
    exact ⟨a.rd, fun _ => a.arg⟩
theorem pb_al {ts : List Tk} {m : Bool} (a : Al ts) : Pb 5 m ts := ⟨Nat.le_refl _, a.rd, fun _ => a.arg, fun _ _ => a.fn⟩
theorem pb_fun {b : List Tk} {m : Bool} (r : Rd 0 b) : Pb 0 m (.kfun :: .word :: .arrow :: b) := ⟨by omega, rd_fun r, fun q => by omega, fun q => by omega⟩
theorem pb_let {a b : List Tk} {m : Bool} (ra : Rd 0 a) (rb : Rd 0 b) : Pb 0 m (.klet :: .word :: .eq :: (a ++ .kin :: b)) := ⟨by omega, rd_let ra rb, fun q => by omega, fun q => by omega⟩
theorem pb_op {o : Tk} {a b : List Tk} {m : Bool} (h : 0 < str o) (ra : Rd (max (str o) 2) a) (rb : Rd (str o + 1) b) : Pb (str o) m (a ++ o :: b) := by
  have := str_le o
  exact ⟨by omega, rd_op h ra rb, fun q => by omega, fun q => by omega⟩
theorem pb_call {a b : List Tk} {m : Bool} (fa : Fn a) (ab : Arg b) : Pb 4 m (a ++ b) := ⟨by omega, (fn_call fa ab).rd, fun q => by omega, fun _ _ => fn_call fa ab⟩
theorem pb_make0 : Pb 5 true [.name] := ⟨Nat.le_refl _, mkp0.rd, fun _ => arg_name, fun _ q => by cases q⟩
theorem pb_make {n : Nat} {ts : List Tk} (h : MkP n ts) : Pb 4 true ts := ⟨by omega, h.rd.mono (by decide), fun q => by omega, fun _ q => by cases q⟩
theorem rd0_steps {ts : List Tk} (r : Rd 0 ts) : ∃ c, steps c0 ts = some c := by
  obtain ⟨c, e, _⟩ := r [] rfl rfl
  exact ⟨c, e⟩
end Sh
set_option linter.all false
set_option maxRecDepth 100000
set_option maxHeartbeats 4000000
/-! Texts and their tokens; the law's own functions on lists of tokens (plain Lean). -/
namespace Sh
open PySem
def isSm (c : Nat) : Bool := decide (97 ≤ c) && decide (c ≤ 122)
def isCap (c : Nat) : Bool := decide (65 ≤ c) && decide (c ≤ 90)
def isDig (c : Nat) : Bool := decide (48 ≤ c) && decide (c ≤ 57)
def isAn (c : Nat) : Bool := isSm c || isCap c || isDig c
def zSmall : Str := "abcdefghijklmnopqrstuvwxyz"
def zCap : Str := "ABCDEFGHIJKLMNOPQRSTUVWXYZ"
def zDig : Str := "0123456789"
def zMarks : Str := "()|_,;+-*<="
theorem small_eq : zSmall.cps.toList = List.range' 97 26 := by decide +kernel
theorem cap_eq : zCap.cps.toList = List.range' 65 26 := by decide +kernel
theorem dig_eq : zDig.cps.toList = List.range' 48 10 := by decide +kernel
theorem marks_eq : zMarks.cps.toList = [40, 41, 124, 95, 44, 59, 43, 45, 42, 60, 61] := by decide +kernel
theorem in_small (c : Nat) : decide (c ∈ zSmall.cps.toList) = isSm c := by
  rw [small_eq, isSm, ← Bool.decide_and]
  exact decide_eq_decide.mpr (by rw [List.mem_range'_1]; omega)
theorem in_cap (c : Nat) : decide (c ∈ zCap.cps.toList) = isCap c := by
  rw [cap_eq, isCap, ← Bool.decide_and]
  exact decide_eq_decide.mpr (by rw [List.mem_range'_1]; omega)
theorem in_dig (c : Nat) : decide (c ∈ zDig.cps.toList) = isDig c := by
  rw [dig_eq, isDig, ← Bool.decide_and]
  exact decide_eq_decide.mpr (by rw [List.mem_range'_1]; omega)
def hdB (f : Nat → Bool) (z : Str) : Bool := match z.cps.toList with
  | c :: _ => f c
  | [] => false
def isNumS (z : Str) : Bool := (decide (1 ≤ z.length) && decide (z.length ≤ 6)) && z.cps.toList.all isDig && (decide (z = ("0" : Str)) || !hdB (fun c => decide (c = 48)) z)
def isNameS (z : Str) : Bool := (decide (1 ≤ z.length) && decide (z.length ≤ 8)) && hdB isCap z && z.cps.toList.all isAn
def kwL : List Str := ["fun", "let", "in", "match", "with", "end", "as", "data", "is", "hole"]
def isWordS (z : Str) : Bool := (decide (1 ≤ z.length) && decide (z.length ≤ 8)) && hdB isSm z && (!decide (z ∈ kwL) && z.cps.toList.all fun c => isSm c || isDig c)
def kwTab : List (Str × Tk) := [("fun", .kfun), ("let", .klet), ("in", .kin), ("match", .kmatch), ("with", .kwith), ("end", .kend), ("as", .kas), ("data", .kdata), ("is", .kis), ("hole", .khole), ("->", .arrow),
  ("(", .lp), (")", .rp), ("|", .bar), ("_", .us), (",", .comma), (";", .semi), ("+", .plus), ("-", .minus), ("*", .star), ("<", .lt), ("=", .eq)]
def tabGet (z : Str) : List (Str × Tk) → Option Tk
  | [] => none
  | (x, k) :: r => if z = x then some k else tabGet z r
def kd (z : Str) : Tk := match tabGet z kwTab with
  | some k => k
  | none => if isWordS z then .word else if isNameS z then .name else if isNumS z then .num else .bad
/-- the sort's own text -/
def Tk.txt : Tk → Str
  | .lp => "(" | .rp => ")" | .arrow => "->" | .bar => "|" | .us => "_" | .comma => "," | .semi => ";" | .plus => "+" | .minus => "-" | .star => "*" | .lt => "<" | .eq => "="
  | .word => "word" | .name => "Name" | .num => "number" | .kfun => "fun" | .klet => "let" | .kin => "in" | .kmatch => "match" | .kwith => "with" | .kend => "end" | .kas => "as" | .kdata => "data" | .kis => "is" | .khole => "hole" | .bad => "?"
def allTk : List Tk := [.lp, .rp, .arrow, .bar, .us, .comma, .semi, .plus, .minus, .star, .lt, .eq, .word, .name, .num, .kfun, .klet, .kin, .kmatch, .kwith, .kend, .kas, .kdata, .kis, .khole, .bad]
theorem mem_allTk (k : Tk) : k ∈ allTk := by cases k <;> simp [allTk]
/-- what kind() says -/
def kTxt : Option Tk → Str
  | some k => k.txt
  | none => ""
def unTxt (z : Str) : Option (Option Tk) := if z = ("" : Str) then some none else (allTk.find? fun k => decide (k.txt = z)).map some
theorem unTxt_eq : ∀ o : Option Tk, unTxt (kTxt o) = some o := by
  intro o
  cases o with
  | none => decide +kernel
  | some k =>
    have : allTk.all (fun k => decide (unTxt (kTxt (some k)) = some (some k))) = true := by decide +kernel
    exact of_decide_eq_true (List.all_eq_true.mp this k (mem_allTk k))
theorem kTxt_inj {a b : Option Tk} (h : kTxt a = kTxt b) : a = b := by
  have := unTxt_eq a
  rw [h, unTxt_eq b] at this
  exact (Option.some.inj this).symm
theorem kTxt_dec (a b : Option Tk) : decide (kTxt a = kTxt b) = decide (a = b) := decide_eq_decide.mpr ⟨kTxt_inj, fun h => by rw [h]⟩
theorem tab_txt : kwTab.all (fun p => decide (p.2.txt = p.1)) = true := by decide +kernel
theorem tabGet_some {z : Str} {k : Tk} : ∀ {l : List (Str × Tk)}, tabGet z l = some k → (z, k) ∈ l
  | [], h => by cases h
  | (x, j) :: r, h => by
    unfold tabGet at h
    split at h
    · rename_i e; cases h; rw [e]; exact List.mem_cons_self
    · exact List.mem_cons_of_mem _ (tabGet_some h)
theorem tabGet_none {z : Str} : ∀ {l : List (Str × Tk)}, tabGet z l = none → z ∉ l.map (·.1)
  | [], _ => by simp
  | (x, j) :: r, h => by
    unfold tabGet at h
    split at h
    · cases h
    · rename_i e
      rw [List.map_cons, List.mem_cons]
      rintro (q | q)
      · exact e q
      · exact tabGet_none h q
def spec : List Str := kwTab.map (·.1)
theorem kd_spec {z : Str} (h : z ∈ spec) : (kd z).txt = z := by
  unfold kd
  cases e : tabGet z kwTab with
  | none => exact absurd h (tabGet_none e)
  | some k => exact of_decide_eq_true (List.all_eq_true.mp tab_txt _ (tabGet_some e))
theorem kd_not {z : Str} (h : z ∉ spec) : kd z = if isWordS z then .word else if isNameS z then .name else if isNumS z then .num else .bad := by
  unfold kd
  cases e : tabGet z kwTab with
  | none => rfl
  | some k => exact absurd (List.mem_map.mpr ⟨_, tabGet_some e, rfl⟩) h
theorem spec_eq : spec = kwL ++ [("->" : Str)] ++ zMarks.cps.toList.map (fun c => (⟨#[c]⟩ : Str)) := by decide +kernel
theorem spec_iff {z : Str} : z ∈ spec ↔ z ∈ kwL ∨ z = ("->" : Str) ∨ ∃ c, z = ⟨#[c]⟩ ∧ c ∈ zMarks.cps.toList := by
  rw [spec_eq]
  simp only [List.mem_append, List.mem_singleton, List.mem_map, or_assoc]
  constructor
  · rintro (h | h | ⟨c, h, e⟩)
    · exact .inl h
    · exact .inr (.inl h)
    · exact .inr (.inr ⟨c, e.symm, h⟩)
  · rintro (h | h | ⟨c, e, h⟩)
    · exact .inl h
    · exact .inr (.inl h)
    · exact .inr (.inr ⟨c, h, e.symm⟩)
/-! ### tokens -/
def tokLen (l : List Nat) : Nat := if l.take 2 = [45, 62] then 2 else max (l.takeWhile isAn).length 1
def blank (c : Nat) : Bool := decide (c = 32) || decide (c = 10)
def toksL : Nat → List Nat → List (List Nat)
  | 0, _ => []
  | _ + 1, [] => []
  | f + 1, c :: r => (if blank c then [] else [(c :: r).take (tokLen (c :: r))]) ++ toksL f ((c :: r).drop (tokLen (c :: r)))
theorem tokLen_pos (l : List Nat) : 1 ≤ tokLen l := by unfold tokLen; split <;> omega
theorem toksL_fuel : ∀ {f g : Nat} {l : List Nat}, l.length ≤ f → l.length ≤ g → toksL f l = toksL g l
  | 0, 0, _, _, _ => rfl
  | 0, g + 1, [], _, _ => rfl
  | 0, g + 1, c :: r, h, _ => by simp at h
  | f + 1, 0, [], _, _ => rfl
  | f + 1, 0, c :: r, _, h => by simp at h
  | f + 1, g + 1, [], _, _ => rfl
  | f + 1, g + 1, c :: r, hf, hg => by
    simp only [toksL]
    have p := tokLen_pos (c :: r)
    rw [toksL_fuel (f := f) (g := g)] <;> (rw [List.length_drop]; simp only [List.length_cons] at hf hg ⊢; omega)
def ofL (l : List Nat) : Str := ⟨l.toArray⟩
def toks (z : Str) : List Str := (toksL z.length z.cps.toList).map ofL
/-- the index that the law finds: of a list of texts, joined -/
def idxT (ws : List Str) : Int := idx ((toks (Str.join " " ws)).map kd)
def goodL (l : List Nat) : Bool := decide (l = [45, 62]) || (match l with | [c] => !blank c | _ => false) || (!l.isEmpty && l.all isAn)
def goodT (z : Str) : Bool := goodL z.cps.toList
theorem an_not {c : Nat} (h : isAn c = true) : c ≠ 45 ∧ c ≠ 32 ∧ c ≠ 10 := by
  refine ⟨?_, ?_, ?_⟩ <;> (rintro rfl; exact absurd h (by decide))
theorem takeWhile_all {l r : List Nat} {f : Nat → Bool} (h : l.all f = true) : (l ++ r).takeWhile f = l ++ r.takeWhile f := by
  induction l with
  | nil => rfl
  | cons a l ih =>
    simp only [List.all_cons, Bool.and_eq_true] at h
    rw [List.cons_append, List.takeWhile_cons, if_pos h.1, ih h.2]; rfl
/-- r: nothing, or a blank ahead -/
theorem tokLen_good {l r : List Nat} (h : goodL l = true) (hr : r = [] ∨ ∃ q, r = 32 :: q) : tokLen (l ++ r) = l.length ∧ l ≠ [] ∧ (∀ c q, l = c :: q → blank c = false) := by
  have rn : r.takeWhile isAn = [] := by
    rcases hr with rfl | ⟨q, rfl⟩
    · rfl
    · rw [List.takeWhile_cons, if_neg (by decide)]
  simp only [goodL, Bool.or_eq_true, decide_eq_true_eq] at h
  rcases h with (rfl | h) | h
  · exact ⟨rfl, by simp, fun c q e => by cases e; decide⟩
  · split at h
    · rename_i c
      have hb : blank c = false := by simpa using h
      have h2 : ¬ (([c] ++ r).take 2 = [45, 62]) := by
        rcases hr with rfl | ⟨q, rfl⟩ <;> simp
      refine ⟨?_, by simp, fun d q e => by cases e; exact hb⟩
      unfold tokLen
      rw [if_neg h2]
      cases e : isAn c with
      | true =>
        have a : ([c] : List Nat).all isAn = true := by simp [e]
        rw [takeWhile_all a, rn]; rfl
      | false =>
        rw [List.cons_append, List.takeWhile_cons, if_neg (by rw [e]; decide)]; rfl
    · cases h
  · simp only [Bool.and_eq_true, Bool.not_eq_true', List.isEmpty_eq_false_iff] at h
    obtain ⟨h1, h2⟩ := h
    have hc : ∀ c q, l = c :: q → isAn c = true := fun c q e => by rw [e] at h2; simp only [List.all_cons, Bool.and_eq_true] at h2; exact h2.1
    refine ⟨?_, h1, fun c q e => ?_⟩
    · unfold tokLen
      rw [if_neg, takeWhile_all h2, rn, List.append_nil]
      · cases l with
        | nil => exact absurd rfl h1
        | cons a l => simp only [List.length_cons]; omega
      · cases l with
        | nil => exact absurd rfl h1
        | cons a l =>
          have := (an_not (hc a l rfl)).1
          intro e
          simp only [List.cons_append, List.take_succ_cons] at e
          injection e with e1 _
          exact this e1
    · have := an_not (hc c q e)
      simp [blank, this.2.1, this.2.2]
theorem toksL_one {l r : List Nat} {f : Nat} (h : goodL l = true) (hr : r = [] ∨ ∃ q, r = 32 :: q) : toksL (f + 1) (l ++ r) = l :: toksL f r := by
  obtain ⟨e1, e2, e3⟩ := tokLen_good h hr
  cases l with
  | nil => exact absurd rfl e2
  | cons c q =>
    show (if blank c then [] else [(c :: q ++ r).take (tokLen (c :: q ++ r))]) ++ toksL f ((c :: q ++ r).drop (tokLen (c :: q ++ r))) = _
    rw [e1, e3 c q rfl, List.take_left, List.drop_left]; rfl
theorem toksL_blank {r : List Nat} {f : Nat} : toksL (f + 1) (32 :: r) = toksL f r := by
  have e : tokLen (32 :: r) = 1 := by
    unfold tokLen
    rw [if_neg]
    · rw [List.takeWhile_cons, if_neg (by decide)]; rfl
    · cases r <;> simp
  show (if blank 32 then [] else _) ++ toksL f ((32 :: r).drop (tokLen (32 :: r))) = _
  rw [e]; rfl
theorem toksL_join : ∀ {ls : List (List Nat)} {f : Nat}, (∀ l ∈ ls, goodL l = true) → (TL.joinL [32] ls).length ≤ f → toksL f (TL.joinL [32] ls) = ls
  | [], f, _, _ => by cases f <;> rfl
  | [l], f, h, hf => by
    have g := h l (by simp)
    have e : TL.joinL [32] [l] = l ++ [] := by simp [TL.joinL]
    obtain ⟨_, e2, _⟩ := tokLen_good (r := []) g (.inl rfl)
    rw [e] at hf ⊢
    cases f with
    | zero =>
      rw [List.append_nil] at hf
      exact absurd (List.length_eq_zero_iff.mp (Nat.le_zero.mp hf)) e2
    | succ f => rw [toksL_one g (.inl rfl)]; cases f <;> rfl
  | l :: m :: r, f, h, hf => by
    have g := h l (by simp)
    have e : TL.joinL [32] (l :: m :: r) = l ++ 32 :: TL.joinL [32] (m :: r) := by simp [TL.joinL]
    obtain ⟨_, e2, _⟩ := tokLen_good (r := []) g (.inl rfl)
    have hl : 1 ≤ l.length := by
      cases l with
      | nil => exact absurd rfl e2
      | cons a b => simp
    rw [e] at hf ⊢
    rw [List.length_append, List.length_cons] at hf
    match f, hf with
    | 0, hf => omega
    | 1, hf => omega
    | f + 2, hf =>
      rw [toksL_one g (.inr ⟨_, rfl⟩), toksL_blank, toksL_join (fun x hx => h x (by simp at hx ⊢; exact .inr hx)) (by omega)]
theorem ofL_tl (z : Str) : ofL (TL.tl z) = z := by cases z; rfl
theorem toks_join {ws : List Str} (h : ∀ z ∈ ws, goodT z = true) : toks (Str.join " " ws) = ws := by
  unfold toks
  have e : (Str.join " " ws).cps.toList = TL.joinL [32] (ws.map TL.tl) := TL.tl_join " " ws
  have hl : (Str.join " " ws).length = (TL.joinL [32] (ws.map TL.tl)).length := by rw [← e]; simp [Str.length]
  rw [e, hl, toksL_join _ (Nat.le_refl _), List.map_map]
  · conv => rhs; rw [← List.map_id ws]
    exact List.map_congr_left fun z _ => ofL_tl z
  · intro l hl
    obtain ⟨z, hz, rfl⟩ := List.mem_map.mp hl
    exact h z hz
theorem idxT_good {ws : List Str} (h : ∀ z ∈ ws, goodT z = true) : idxT ws = idx (ws.map kd) := by unfold idxT; rw [toks_join h]
/-! ### the law's own functions -/
def someS : List Str := ["(", ")", "->", "|", "_", ",", ";", "+", "-", "*", "<", "=", "x", "Nil", "7", "fun", "let", "in", "match", "with", "end", "hole", "as", "is", "data", ":", "9x", "aB"]
def closS : List Str := [")", "with", "end", "in", "->", "=", "7", "_", "x"]
theorem some_good : ∀ z ∈ someS, goodT z = true := by decide +kernel
theorem clos_some : ∀ z ∈ closS, z ∈ someS := by decide +kernel
theorem clos_kd : closS.map kd = closers := by decide +kernel
def canS (ws : List Str) : List Str := someS.filter fun t => !decide (idxT (ws ++ [t]) = (ws.length : Int))
def closing (ws : List Str) : List Str := closS.filter fun t => decide (t ∈ canS ws)
def endedS : Nat → List Str → Bool
  | 0, _ => false
  | n + 1, ws => if idxT ws = -1 then true else match closing ws with
    | [] => false
    | t :: _ => endedS n (ws ++ [t])
theorem good_app {ws : List Str} {t : Str} (h : ∀ z ∈ ws, goodT z = true) (ht : goodT t = true) : ∀ z ∈ ws ++ [t], goodT z = true := fun z hz => by
  rcases List.mem_append.mp hz with q | q
  · exact h z q
  · rw [List.mem_singleton.mp q]; exact ht
theorem can_iff {ws : List Str} {c : Cfg} (h : ∀ z ∈ ws, goodT z = true) (e : steps c0 (ws.map kd) = some c) {t : Str} (ht : t ∈ someS) : (idxT (ws ++ [t]) = (ws.length : Int)) ↔ dl c (kd t) = none := by
  rw [idxT_good (good_app h (some_good t ht)), List.map_append, List.map_singleton]
  have hl : (ws.map kd).length = ws.length := List.length_map _
  rcases idx_one e (kd t) with ⟨d, q⟩ | ⟨c', d, q⟩
  · rw [q, hl]; exact ⟨fun _ => d, fun _ => rfl⟩
  · constructor
    · intro z
      rw [z] at q
      omega
    · intro z
      rw [d] at z; cases z
theorem filter_first {α : Type} {p : α → Bool} {t : α} {q : List α} : ∀ {pre : List α}, (∀ u ∈ pre, p u = false) → p t = true → (pre ++ t :: q).filter p = t :: q.filter p
  | [], _, ht => by rw [List.nil_append, List.filter_cons, if_pos ht]
  | u :: pre, h, ht => by
    rw [List.cons_append, List.filter_cons, if_neg (by rw [h u (by simp)]; decide)]
    exact filter_first (fun v hv => h v (List.mem_cons_of_mem _ hv)) ht
theorem map_split {α β : Type} {f : α → β} : ∀ {l : List α} {pre : List β} {t : β} {post : List β}, l.map f = pre ++ t :: post → ∃ p a q, l = p ++ a :: q ∧ p.map f = pre ∧ f a = t ∧ q.map f = post
  | [], [], t, post, h => by simp at h
  | [], _ :: _, t, post, h => by simp at h
  | x :: l, [], t, post, h => by
    simp only [List.map_cons, List.nil_append] at h
    injection h with h1 h2
    exact ⟨[], x, l, rfl, rfl, h1, h2⟩
  | x :: l, y :: pre, t, post, h => by
    simp only [List.map_cons, List.cons_append] at h
    injection h with h1 h2
    obtain ⟨p, a, q, e1, e2, e3, e4⟩ := map_split h2
    exact ⟨x :: p, a, q, by rw [e1]; rfl, by rw [List.map_cons, h1, e2], e3, e4⟩
theorem closing_ok {ws : List Str} {c : Cfg} (h : ∀ z ∈ ws, goodT z = true) (e : steps c0 (ws.map kd) = some c) (ok : c.ok = true) (nr : notRed c = true) (ha : acc c = false) :
    ∃ t r c', closing ws = t :: r ∧ goodT t = true ∧ dl c (kd t) = some c' ∧ pot c' < pot c := by
  obtain ⟨t, pre, post, c', e1, e2, e3, e4⟩ := close_ok ok nr ha
  rw [← clos_kd] at e1
  obtain ⟨p, a, q, f1, f2, f3, f4⟩ := map_split e1
  subst f3
  have mem : ∀ z, z ∈ closS → (decide (z ∈ canS ws) = !decide (dl c (kd z) = none)) := fun z hz => by
    have hs := clos_some z hz
    have i := can_iff h e hs
    cases d : dl c (kd z) with
    | none =>
      have n : z ∉ canS ws := fun m => by
        have := (List.mem_filter.mp m).2
        rw [i.mpr d] at this
        simp at this
      rw [decide_eq_false n]; rfl
    | some c1 =>
      have m : z ∈ canS ws := List.mem_filter.mpr ⟨hs, by
        have : ¬ idxT (ws ++ [z]) = (ws.length : Int) := fun x => by rw [i.mp x] at d; cases d
        rw [decide_eq_false this]; rfl⟩
      rw [decide_eq_true m]; rfl
  have ha' : a ∈ closS := by rw [f1]; simp
  refine ⟨a, q.filter fun t => decide (t ∈ canS ws), c', ?_, some_good a (clos_some a ha'), e3, e4⟩
  unfold closing
  rw [f1]
  refine filter_first (fun u hu => ?_) ?_
  · rw [mem u (by rw [f1]; simp [hu]), e2 (kd u) (by rw [← f2]; exact List.mem_map_of_mem hu)]; rfl
  · rw [mem a ha', e3]; rfl
theorem ended_ok : ∀ {n : Nat} {ws : List Str} {c : Cfg}, (∀ z ∈ ws, goodT z = true) → steps c0 (ws.map kd) = some c → c.ok = true → pot c < n → endedS n ws = true
  | 0, _, _, _, _, _, hn => by omega
  | n + 1, ws, c, h, e, ok, hn => by
    unfold endedS
    split
    · rfl
    · rename_i hi
      have ha : acc c = false := by
        cases q : acc c with
        | false => rfl
        | true =>
          refine absurd ?_ hi
          rw [idxT_good h]
          unfold idx
          have := runC_app (b := []) (i := 0) e
          rw [List.append_nil] at this
          rw [this, runC_nil, if_pos q]; rfl
      obtain ⟨t, r, c', e1, e2, e3, e4⟩ := closing_ok h e ok (steps_notRed rfl e) ha
      rw [e1]
      refine ended_ok (c := c') (good_app h e2) ?_ (dl_ok ok e3).1 (by omega)
      rw [List.map_append, List.map_singleton, steps_app e, steps_cons e3]; rfl
/-- the law's own question about an end -/
theorem ended_law {ws : List Str} {c : Cfg} (h : ∀ z ∈ ws, goodT z = true) (e : steps c0 (ws.map kd) = some c) (k : Nat) (hk : k ≤ 12) : endedS 60 (ws.take k) = true := by
  obtain ⟨c1, e1, _⟩ := steps_take e k
  rw [← List.map_take] at e1
  have q := steps_ok (c := c0) (by rfl) e1
  have hp : pot c0 = 1 := rfl
  have hl : ((ws.take k).map kd).length ≤ k := by rw [List.length_map, List.length_take]; omega
  refine ended_ok (fun z hz => h z (List.mem_of_mem_take hz)) e1 q.1 ?_
  have := q.2
  rw [hp] at this
  omega
/-! ### the cut -/
theorem cutS_ok {ws : List Str} {c : Cfg} (h : ∀ z ∈ ws, goodT z = true) (e : steps c0 (ws.map kd) = some c) (k : Nat) (hk : k ≤ ws.length) {t m : Str} (ht : t ∈ someS) (hm : m ∈ someS) :
    (idxT (ws.take k) = -1 ∨ idxT (ws.take k) = (k : Int)) ∧ (idxT (ws.take k ++ [t]) = -1 ∨ idxT (ws.take k ++ [t]) = (k : Int) ∨ idxT (ws.take k ++ [t]) = (k : Int) + 1) ∧
    (idxT (ws.take k ++ [t]) = (k : Int) → idxT (ws.take k ++ [t, m]) = (k : Int) ∧ idxT (ws.take k ++ [t] ++ ws.drop k) = (k : Int)) ∧
    (idxT (ws.take k ++ [t]) ≠ (k : Int) → (idxT (ws.take k ++ [t, m]) = -1 ∨ (k : Int) < idxT (ws.take k ++ [t, m])) ∧ (idxT (ws.take k ++ [t] ++ ws.drop k) = -1 ∨ (k : Int) < idxT (ws.take k ++ [t] ++ ws.drop k))) := by
  obtain ⟨c1, e1, _⟩ := steps_take e k
  rw [← List.map_take] at e1
  have g0 : ∀ z ∈ ws.take k, goodT z = true := fun z hz => h z (List.mem_of_mem_take hz)
  have g1 := good_app g0 (some_good t ht)
  have g2 : ∀ z ∈ ws.take k ++ [t, m], goodT z = true := by
    have := good_app g1 (some_good m hm)
    rw [List.append_assoc] at this
    exact this
  have g3 : ∀ z ∈ ws.take k ++ [t] ++ ws.drop k, goodT z = true := fun z hz => by
    rcases List.mem_append.mp hz with q | q
    · exact g1 z q
    · exact h z (List.mem_of_mem_drop q)
  have hl : ((ws.take k).map kd).length = k := by rw [List.length_map, List.length_take]; omega
  rw [idxT_good g0, idxT_good g1, idxT_good g2, idxT_good g3]
  simp only [List.map_append, List.map_cons, List.map_nil]
  have := cut_ok (b := (ws.drop k).map kd) e1 (kd t) (kd m)
  rw [hl] at this
  exact this
end Sh
set_option linter.all false
set_option maxRecDepth 100000
set_option maxHeartbeats 4000000
/-! The closed part of the law (plain Lean). -/
namespace Sh
open PySem
def rowA : List Str := ["match", "1", "with", "|"]
def standsS : List (List Str × List Str) := [(["fun"], ["->", "1"]), (["let"], ["=", "1", "in", "1"]), (rowA, ["->", "1", "end"]), (["match", "1", "with", "|", "P"], ["->", "1", "end"]), ([], []), (["f"], []), (["P", "1"], []), (["1", "+"], []), (["fun", "x", "->"], [])]
def canStand (t : Str) (s : List Str × List Str) : Option Bool :=
  if idxT (s.1 ++ [t] ++ s.2) = -1 then some true else if idxT (s.1 ++ [t] ++ s.2) = (s.1.length : Int) then some false else none
def noneS : List Str := [("aB" : Str), "xYz", "x1Y", "a1B2", "abcdefghi", "Abcdefghi", "9x", "9X", "00", "007", "1000000", "0x", "12a"]
def keysS : List Str := ["in", "with", "end", "as", "data", "is"]
def earlyS : List Str := ["fun", "let", "match", "hole"]
def rowsS : List (List Str × List Bool) := [(noneS ++ keysS, List.replicate 9 false), (["x", "zzzzzzzz", "a1b2c3d4", "z9999999"], List.replicate 9 true),
  (["N", "AbCdEfGh", "A1b2C3d4", "Z9999999"], [false, false] ++ List.replicate 7 true), (["0", "7", "999999"], List.replicate 4 false ++ List.replicate 5 true)]
theorem rows_ok : ∀ r ∈ rowsS, ∀ t ∈ r.1, standsS.map (canStand t) = r.2.map some := by decide +kernel
theorem early_ok : ∀ t ∈ earlyS, (standsS.take 4).map (canStand t) = [some false, some false, some false, some false] := by decide +kernel
theorem last_ok : idxT ["fun", "x_y", "->", "1"] = 2 ∧ idxT ["x_"] = 1 ∧ idxT ["_x"] = 0 := by decide +kernel
theorem can1_ok : canS ["fun"] = [("x" : Str)] := by decide +kernel
theorem can2_ok : (canS ["x"]).take 2 = [("(" : Str), "+"] := by decide +kernel
end Sh
set_option Elab.async false
set_option linter.all false
set_option maxRecDepth 100000
set_option maxHeartbeats 4000000
/-! The text by places, the facts of the head. Printed by wip/gen_head.py. -/
namespace Sh
open PySem PySem.Spec PyProof.Rows L2
def top (i : Nat) : Stmt := PySem.Challenge.pw_shapelang_k93_whole_beginnings_of_texts.main.body.getD i (.Pass ⟨0, 0, 0, 0⟩)
abbrev s_TooLarge_init : Stmt := inClass (top 4) 0
abbrev s_BadText_init : Stmt := inClass (top 5) 0
abbrev s_is_number_text : Stmt := top 14
abbrev s_is_name : Stmt := top 15
abbrev s_is_word : Stmt := top 16
abbrev s_sort_of : Stmt := top 17
abbrev s_run_end : Stmt := top 18
abbrev s_tokens_of : Stmt := top 19
abbrev s_Source_init : Stmt := inClass (top 20) 0
abbrev s_Source_kind : Stmt := inClass (top 20) 1
abbrev s_Source_text : Stmt := inClass (top 20) 2
abbrev s_Source_take : Stmt := inClass (top 20) 3
abbrev s_Source_takes : Stmt := inClass (top 20) 4
abbrev s_top_of : Stmt := top 27
abbrev s_begin_inner : Stmt := top 28
abbrev s_read_pattern : Stmt := top 29
abbrev s_open_wide : Stmt := top 30
abbrev s_begin_operand : Stmt := top 31
abbrev s_attach : Stmt := top 32
abbrev s_next_row : Stmt := top 33
abbrev s_reduced : Stmt := top 34
abbrev s_end_expression : Stmt := top 35
abbrev s_read_expression : Stmt := top 36
abbrev s_parts_of : Stmt := top 37
abbrev s_check_places : Stmt := top 38
abbrev s_check_end : Stmt := top 39
abbrev s_parse_expression : Stmt := top 40
abbrev s_l_draws : Stmt := top 42
abbrev s_l_next : Stmt := top 43
abbrev s_l_one : Stmt := top 44
abbrev s_l_some_word : Stmt := top 45
abbrev s_l_some_name : Stmt := top 46
abbrev s_l_some_number : Stmt := top 47
abbrev s_l_free_pattern : Stmt := top 48
abbrev s_l_free : Stmt := top 49
abbrev s_l_inner : Stmt := top 50
abbrev s_l_size : Stmt := top 51
abbrev s_l_high : Stmt := top 52
abbrev s_l_free_program : Stmt := top 53
abbrev s_l_wrapped : Stmt := top 54
abbrev s_l_pattern_tokens : Stmt := top 55
abbrev s_l_bare : Stmt := top 56
abbrev s_l_tokens : Stmt := top 57
abbrev s_l_index : Stmt := top 58
abbrev s_l_some_tokens : Stmt := top 59
abbrev s_l_can_follow : Stmt := top 60
abbrev s_l_ended : Stmt := top 61
abbrev s_l_cut_right : Stmt := top 62
abbrev s_l_stands : Stmt := top 63
abbrev s_l_can_stand : Stmt := top 64
abbrev s_l_runs_right : Stmt := top 65
abbrev s_law : Stmt := top 66
abbrev FnP (K : PySem.W.Frag) (x qual : Str) (st : Stmt) (f : Addr) (fd : FuncData) : Prop := FunD K x qual (defArgs st) (defBody st) (defScope st) [] [] f fd
/-! ### the head's facts -/
def d_TooLarge_init : He.DefD := ⟨("TooLarge", some "__init__"), "__init__", "TooLarge.__init__", defArgs s_TooLarge_init, defBody s_TooLarge_init, defScope s_TooLarge_init, [], []⟩
def d_BadText_init : He.DefD := ⟨("BadText", some "__init__"), "__init__", "BadText.__init__", defArgs s_BadText_init, defBody s_BadText_init, defScope s_BadText_init, [], []⟩
def d_is_number_text : He.DefD := ⟨("is_number_text", none), "is_number_text", "is_number_text", defArgs s_is_number_text, defBody s_is_number_text, defScope s_is_number_text, [], []⟩
def d_is_name : He.DefD := ⟨("is_name", none), "is_name", "is_name", defArgs s_is_name, defBody s_is_name, defScope s_is_name, [], []⟩
def d_is_word : He.DefD := ⟨("is_word", none), "is_word", "is_word", defArgs s_is_word, defBody s_is_word, defScope s_is_word, [], []⟩
def d_sort_of : He.DefD := ⟨("sort_of", none), "sort_of", "sort_of", defArgs s_sort_of, defBody s_sort_of, defScope s_sort_of, [], []⟩
def d_run_end : He.DefD := ⟨("run_end", none), "run_end", "run_end", defArgs s_run_end, defBody s_run_end, defScope s_run_end, [], []⟩
def d_tokens_of : He.DefD := ⟨("tokens_of", none), "tokens_of", "tokens_of", defArgs s_tokens_of, defBody s_tokens_of, defScope s_tokens_of, [], []⟩
def d_Source_init : He.DefD := ⟨("Source", some "__init__"), "__init__", "Source.__init__", defArgs s_Source_init, defBody s_Source_init, defScope s_Source_init, [], []⟩
def d_Source_kind : He.DefD := ⟨("Source", some "kind"), "kind", "Source.kind", defArgs s_Source_kind, defBody s_Source_kind, defScope s_Source_kind, [], []⟩
def d_Source_text : He.DefD := ⟨("Source", some "text"), "text", "Source.text", defArgs s_Source_text, defBody s_Source_text, defScope s_Source_text, [], []⟩
def d_Source_take : He.DefD := ⟨("Source", some "take"), "take", "Source.take", defArgs s_Source_take, defBody s_Source_take, defScope s_Source_take, [], []⟩
def d_Source_takes : He.DefD := ⟨("Source", some "takes"), "takes", "Source.takes", defArgs s_Source_takes, defBody s_Source_takes, defScope s_Source_takes, [], []⟩
def d_top_of : He.DefD := ⟨("top_of", none), "top_of", "top_of", defArgs s_top_of, defBody s_top_of, defScope s_top_of, [], []⟩
def d_begin_inner : He.DefD := ⟨("begin_inner", none), "begin_inner", "begin_inner", defArgs s_begin_inner, defBody s_begin_inner, defScope s_begin_inner, [], []⟩
def d_read_pattern : He.DefD := ⟨("read_pattern", none), "read_pattern", "read_pattern", defArgs s_read_pattern, defBody s_read_pattern, defScope s_read_pattern, [], []⟩
def d_open_wide : He.DefD := ⟨("open_wide", none), "open_wide", "open_wide", defArgs s_open_wide, defBody s_open_wide, defScope s_open_wide, [], []⟩
def d_begin_operand : He.DefD := ⟨("begin_operand", none), "begin_operand", "begin_operand", defArgs s_begin_operand, defBody s_begin_operand, defScope s_begin_operand, [], []⟩
def d_attach : He.DefD := ⟨("attach", none), "attach", "attach", defArgs s_attach, defBody s_attach, defScope s_attach, [], []⟩
def d_next_row : He.DefD := ⟨("next_row", none), "next_row", "next_row", defArgs s_next_row, defBody s_next_row, defScope s_next_row, [], []⟩
def d_reduced : He.DefD := ⟨("reduced", none), "reduced", "reduced", defArgs s_reduced, defBody s_reduced, defScope s_reduced, [], []⟩
def d_end_expression : He.DefD := ⟨("end_expression", none), "end_expression", "end_expression", defArgs s_end_expression, defBody s_end_expression, defScope s_end_expression, [], []⟩
def d_read_expression : He.DefD := ⟨("read_expression", none), "read_expression", "read_expression", defArgs s_read_expression, defBody s_read_expression, defScope s_read_expression, [], []⟩
def d_parts_of : He.DefD := ⟨("parts_of", none), "parts_of", "parts_of", defArgs s_parts_of, defBody s_parts_of, defScope s_parts_of, [], []⟩
def d_check_places : He.DefD := ⟨("check_places", none), "check_places", "check_places", defArgs s_check_places, defBody s_check_places, defScope s_check_places, [], []⟩
def d_check_end : He.DefD := ⟨("check_end", none), "check_end", "check_end", defArgs s_check_end, defBody s_check_end, defScope s_check_end, [], []⟩
def d_parse_expression : He.DefD := ⟨("parse_expression", none), "parse_expression", "parse_expression", defArgs s_parse_expression, defBody s_parse_expression, defScope s_parse_expression, [], []⟩
def d_l_draws : He.DefD := ⟨("_law_draws", none), "_law_draws", "_law_draws", defArgs s_l_draws, defBody s_l_draws, defScope s_l_draws, [], []⟩
def d_l_next : He.DefD := ⟨("_law_next", none), "_law_next", "_law_next", defArgs s_l_next, defBody s_l_next, defScope s_l_next, [], []⟩
def d_l_one : He.DefD := ⟨("_law_one", none), "_law_one", "_law_one", defArgs s_l_one, defBody s_l_one, defScope s_l_one, [], []⟩
def d_l_some_word : He.DefD := ⟨("_law_some_word", none), "_law_some_word", "_law_some_word", defArgs s_l_some_word, defBody s_l_some_word, defScope s_l_some_word, [], []⟩
def d_l_some_name : He.DefD := ⟨("_law_some_name", none), "_law_some_name", "_law_some_name", defArgs s_l_some_name, defBody s_l_some_name, defScope s_l_some_name, [], []⟩
def d_l_some_number : He.DefD := ⟨("_law_some_number", none), "_law_some_number", "_law_some_number", defArgs s_l_some_number, defBody s_l_some_number, defScope s_l_some_number, [], []⟩
def d_l_free_pattern : He.DefD := ⟨("_law_free_pattern", none), "_law_free_pattern", "_law_free_pattern", defArgs s_l_free_pattern, defBody s_l_free_pattern, defScope s_l_free_pattern, [], []⟩
def d_l_free : He.DefD := ⟨("_law_free", none), "_law_free", "_law_free", defArgs s_l_free, defBody s_l_free, defScope s_l_free, [], []⟩
def d_l_inner : He.DefD := ⟨("_law_inner", none), "_law_inner", "_law_inner", defArgs s_l_inner, defBody s_l_inner, defScope s_l_inner, [], []⟩
def d_l_size : He.DefD := ⟨("_law_size", none), "_law_size", "_law_size", defArgs s_l_size, defBody s_l_size, defScope s_l_size, [], []⟩
def d_l_high : He.DefD := ⟨("_law_high", none), "_law_high", "_law_high", defArgs s_l_high, defBody s_l_high, defScope s_l_high, [], []⟩
def d_l_free_program : He.DefD := ⟨("_law_free_program", none), "_law_free_program", "_law_free_program", defArgs s_l_free_program, defBody s_l_free_program, defScope s_l_free_program, [], []⟩
def d_l_wrapped : He.DefD := ⟨("_law_wrapped", none), "_law_wrapped", "_law_wrapped", defArgs s_l_wrapped, defBody s_l_wrapped, defScope s_l_wrapped, [], []⟩
def d_l_pattern_tokens : He.DefD := ⟨("_law_pattern_tokens", none), "_law_pattern_tokens", "_law_pattern_tokens", defArgs s_l_pattern_tokens, defBody s_l_pattern_tokens, defScope s_l_pattern_tokens, [], []⟩
def d_l_bare : He.DefD := ⟨("_law_bare", none), "_law_bare", "_law_bare", defArgs s_l_bare, defBody s_l_bare, defScope s_l_bare, [], []⟩
def d_l_tokens : He.DefD := ⟨("_law_tokens", none), "_law_tokens", "_law_tokens", defArgs s_l_tokens, defBody s_l_tokens, defScope s_l_tokens, [], []⟩
def d_l_index : He.DefD := ⟨("_law_index", none), "_law_index", "_law_index", defArgs s_l_index, defBody s_l_index, defScope s_l_index, [], []⟩
def d_l_some_tokens : He.DefD := ⟨("_law_some_tokens", none), "_law_some_tokens", "_law_some_tokens", defArgs s_l_some_tokens, defBody s_l_some_tokens, defScope s_l_some_tokens, [], []⟩
def d_l_can_follow : He.DefD := ⟨("_law_can_follow", none), "_law_can_follow", "_law_can_follow", defArgs s_l_can_follow, defBody s_l_can_follow, defScope s_l_can_follow, [], []⟩
def d_l_ended : He.DefD := ⟨("_law_ended", none), "_law_ended", "_law_ended", defArgs s_l_ended, defBody s_l_ended, defScope s_l_ended, [], []⟩
def d_l_cut_right : He.DefD := ⟨("_law_cut_right", none), "_law_cut_right", "_law_cut_right", defArgs s_l_cut_right, defBody s_l_cut_right, defScope s_l_cut_right, [], []⟩
def d_l_stands : He.DefD := ⟨("_law_stands", none), "_law_stands", "_law_stands", defArgs s_l_stands, defBody s_l_stands, defScope s_l_stands, [], []⟩
def d_l_can_stand : He.DefD := ⟨("_law_can_stand", none), "_law_can_stand", "_law_can_stand", defArgs s_l_can_stand, defBody s_l_can_stand, defScope s_l_can_stand, [], []⟩
def d_l_runs_right : He.DefD := ⟨("_law_runs_right", none), "_law_runs_right", "_law_runs_right", defArgs s_l_runs_right, defBody s_l_runs_right, defScope s_l_runs_right, [], []⟩
def d_law : He.DefD := ⟨("law", none), "law", "law", defArgs s_law, defBody s_law, defScope s_law, [], []⟩
def fn : List He.DefD := [d_TooLarge_init, d_BadText_init, d_is_number_text, d_is_name, d_is_word, d_sort_of, d_run_end, d_tokens_of, d_Source_init, d_Source_kind, d_Source_text, d_Source_take, d_Source_takes, d_top_of, d_begin_inner, d_read_pattern, d_open_wide, d_begin_operand, d_attach, d_next_row, d_reduced, d_end_expression, d_read_expression, d_parts_of, d_check_places, d_check_end, d_parse_expression, d_l_draws, d_l_next, d_l_one, d_l_some_word, d_l_some_name, d_l_some_number, d_l_free_pattern, d_l_free, d_l_inner, d_l_size, d_l_high, d_l_free_program, d_l_wrapped, d_l_pattern_tokens, d_l_bare, d_l_tokens, d_l_index, d_l_some_tokens, d_l_can_follow, d_l_ended, d_l_cut_right, d_l_stands, d_l_can_stand, d_l_runs_right, d_law]
def fa : List He.Fa := [.glo "is_number_text",
  .glo "is_name",
  .glo "is_word",
  .glo "sort_of",
  .glo "run_end",
  .glo "tokens_of",
  .glo "top_of",
  .glo "begin_inner",
  .glo "read_pattern",
  .glo "open_wide",
  .glo "begin_operand",
  .glo "attach",
  .glo "next_row",
  .glo "reduced",
  .glo "end_expression",
  .glo "read_expression",
  .glo "parts_of",
  .glo "check_places",
  .glo "check_end",
  .glo "parse_expression",
  .glo "_law_draws",
  .glo "_law_next",
  .glo "_law_one",
  .glo "_law_some_word",
  .glo "_law_some_name",
  .glo "_law_some_number",
  .glo "_law_free_pattern",
  .glo "_law_free",
  .glo "_law_inner",
  .glo "_law_size",
  .glo "_law_high",
  .glo "_law_free_program",
  .glo "_law_wrapped",
  .glo "_law_pattern_tokens",
  .glo "_law_bare",
  .glo "_law_tokens",
  .glo "_law_index",
  .glo "_law_some_tokens",
  .glo "_law_can_follow",
  .glo "_law_ended",
  .glo "_law_cut_right",
  .glo "_law_stands",
  .glo "_law_can_stand",
  .glo "_law_runs_right",
  .glo "law",
  .glo "LangError",
  .glo "TooLarge",
  .glo "BadText",
  .glo "Source",
  .free "len",
  .free "isinstance",
  .free "str",
  .free "all",
  .free "max",
  .free "min",
  .free "int",
  .free "list",
  .free "tuple",
  .free "range",
  .free "sum",
  .free "abs",
  .int "PLACES" 60,
  .int "ROWS" 8,
  .int "MOST_SIGNS" 8,
  .int "MOST_FIGURES" 6,
  .int "MOST_PARTS" 3,
  .int "MOST_LEVELS" 20,
  .str "SMALL" "abcdefghijklmnopqrstuvwxyz",
  .str "CAPITALS" "ABCDEFGHIJKLMNOPQRSTUVWXYZ",
  .str "DIGITS" "0123456789",
  .str "MARKS" "()|_,;+-*<=",
  .cls "Source",
  .mkr "Source",
  .meth "Source" "kind",
  .meth "Source" "take",
  .meth "Source" "takes",
  .noat "Source" "tokens",
  .noat "Source" "at",
  .noat "BadText" "index",
  .exm "BadText" "BadText" true,
  .keep "BadText",
  .noat "TooLarge" "limit",
  .exm "TooLarge" "TooLarge" true,
  .keep "TooLarge",
  .exm "TooLarge" "BadText" false,
  .glo "KEYWORDS",
  .glo "ATOMS",
  .glo "WIDE",
  .glo "STRENGTHS"]
def ts : List He.Tab := [((fun K => He.ga K "STRENGTHS"), ["*", "+", "-", "<", "="])]
/-- an own exception class over ValueError with an own __init__ -/
def oexB (K : PySem.W.Frag) (C : Addr) : Bool := (match K.lookup C with
  | some ⟨.type "type", _, .cls own, six⟩ => (match own.mro, six.toList with
    | .ref C' :: bm, [_, _, _, _, some (.builtin n), _] => decide (C' = C) && (decide (n = "ValueError.__new__") && (!own.hasDel && (own.hasDict && PySem.HandSPX.refsVE bm)))
    | _, _ => false)
  | _ => false) && (decide (PySem.W.findIn K (.ref C) "__setattr__" = some (some (.builtin "object.__setattr__"))) && (decide (PySem.W.subIn K (.ref C) (.type "BaseException") = some true) && (decide (PySem.W.typeIn K (.ref C) = some (.type "type")) && PySem.W.keepIn K (.ref C))))
theorem oexB_ok {K : PySem.W.Frag} {C : Addr} (h : oexB K C = true) : OexC K C := by
  have p1 := Bool.and_eq_true_iff.mp h
  have p2 := Bool.and_eq_true_iff.mp p1.2
  have p3 := Bool.and_eq_true_iff.mp p2.2
  have p4 := Bool.and_eq_true_iff.mp p3.2
  have h1 := p1.1
  have h2 := p2.1
  have h3 := p3.1
  have h4 := p4.1
  have h5 := p4.2
  refine ⟨?_, of_decide_eq_true h2, of_decide_eq_true h3, of_decide_eq_true h4, h5⟩
  split at h1
  · rename_i dd cd sl ho
    split at h1
    · rename_i C' bm q0 q1 q2 q3 n q5 hm hs
      simp only [Bool.and_eq_true, decide_eq_true_eq, Bool.not_eq_true'] at h1
      obtain ⟨e1, e2, e3, e4, e5⟩ := h1
      subst e1 e2
      obtain ⟨sll⟩ := sl
      dsimp only at hs
      subst hs
      obtain ⟨a1, a2, a3, a4, a5, a6, a7, a8, a9, a10, a11⟩ := cd
      dsimp only at hm e3 e4
      subst hm e3 e4
      exact ⟨_, _, _, _, _, _, _, _, _, _, _, _, _, _, _, ho, e5⟩
    · cases h1
  · cases h1
def iniB (K : PySem.W.Frag) (C : Addr) : Bool := decide (PySem.W.findIn K (.ref C) "__init__" = some (some (.ref (He.ma K C "__init__")))) && decide (PySem.W.typeIn K (.ref (He.ma K C "__init__")) = some (.type "function"))
def exL (K : PySem.W.Frag) : List Bool := [He.tupB K "KEYWORDS" [.str "fun", .str "let", .str "in", .str "match", .str "with", .str "end", .str "as", .str "data", .str "is", .str "hole"],
  He.tupB K "ATOMS" [.str "number", .str "word", .str "hole", .str "Name", .str "(", .str "match"],
  He.tupB K "WIDE" [.str "bracket", .str "fun", .str "in", .str "let", .str "matched", .str "row"],
  He.valsB K (He.ga K "STRENGTHS") [("*", .int 3), ("+", .int 2), ("-", .int 2), ("<", .int 1), ("=", .int 1)],
  oexB K (He.ga K "BadText"),
  xfB K (He.ga K "BadText"),
  iniB K (He.ga K "BadText"),
  oexB K (He.ga K "TooLarge"),
  xfB K (He.ga K "TooLarge"),
  iniB K (He.ga K "TooLarge")]
def ex (K : PySem.W.Frag) : Bool := (exL K).all id
theorem int_of {K : PySem.W.Frag} {mg : Str → Option Value} (rd : ∀ x r, PySem.W.nsIn K mainGlobals x = some r → mg x = r) {x : Str} {i : Int} (c : (He.Fa.int x i).ok K = true) : ∃ t, mg x = some (.int i t) := by
  dsimp only [He.Fa.ok] at c
  split at c
  · rename_i j t e
    obtain rfl : j = i := of_decide_eq_true c
    exact ⟨t, rd _ _ e⟩
  · cases c
theorem str_of {K : PySem.W.Frag} {mg : Str → Option Value} (rd : ∀ x r, PySem.W.nsIn K mainGlobals x = some r → mg x = r) {x z : Str} (c : (He.Fa.str x z).ok K = true) : ∃ t, mg x = some (.str z t) := by
  dsimp only [He.Fa.ok] at c
  split at c
  · rename_i y t e
    obtain rfl : y = z := of_decide_eq_true c
    exact ⟨t, rd _ _ e⟩
  · cases c
/-- what the top has written, in short -/
structure Txt (K : PySem.W.Frag) (mg : Str → Option Value) (w : World) : Prop where
  t : He.SaysT fa fn ts w K
  more : ex K = true
  rd : ∀ x r, PySem.W.nsIn K mainGlobals x = some r → mg x = r
section
variable {K : PySem.W.Frag} {mg : Str → Option Value} {w : World}
theorem Txt.fact (T : Txt K mg w) (i : Nat) {f : He.Fa} (h : fa[i]? = some f := by rfl) : f.ok K = true := T.t.d.fact i h
theorem Txt.def_ (T : Txt K mg w) (i : Nat) {d : He.DefD} (h : fn[i]? = some d := by rfl) : ∃ fd, FunD K d.name d.qual d.params d.body d.scope (d.dvs K) (d.kws K) (He.fAd K d.at_) fd := T.t.d.def_ i h
theorem Txt.ex_ (T : Txt K mg w) (i : Nat) {b : Bool} (h : (exL K)[i]? = some b := by rfl) : b = true := List.all_eq_true.mp T.more b (List.mem_of_getElem? h)
theorem Txt.f_TooLarge_init (T : Txt K mg w) : ∃ fd, FnP K "__init__" "TooLarge.__init__" s_TooLarge_init (He.ma K (He.ga K "TooLarge") "__init__") fd := T.def_ 0 (d := d_TooLarge_init) rfl
theorem Txt.f_BadText_init (T : Txt K mg w) : ∃ fd, FnP K "__init__" "BadText.__init__" s_BadText_init (He.ma K (He.ga K "BadText") "__init__") fd := T.def_ 1 (d := d_BadText_init) rfl
theorem Txt.f_is_number_text (T : Txt K mg w) : ∃ fd, FnP K "is_number_text" "is_number_text" s_is_number_text (He.ga K "is_number_text") fd := T.def_ 2 (d := d_is_number_text) rfl
theorem Txt.f_is_name (T : Txt K mg w) : ∃ fd, FnP K "is_name" "is_name" s_is_name (He.ga K "is_name") fd := T.def_ 3 (d := d_is_name) rfl
theorem Txt.f_is_word (T : Txt K mg w) : ∃ fd, FnP K "is_word" "is_word" s_is_word (He.ga K "is_word") fd := T.def_ 4 (d := d_is_word) rfl
theorem Txt.f_sort_of (T : Txt K mg w) : ∃ fd, FnP K "sort_of" "sort_of" s_sort_of (He.ga K "sort_of") fd := T.def_ 5 (d := d_sort_of) rfl
theorem Txt.f_run_end (T : Txt K mg w) : ∃ fd, FnP K "run_end" "run_end" s_run_end (He.ga K "run_end") fd := T.def_ 6 (d := d_run_end) rfl
theorem Txt.f_tokens_of (T : Txt K mg w) : ∃ fd, FnP K "tokens_of" "tokens_of" s_tokens_of (He.ga K "tokens_of") fd := T.def_ 7 (d := d_tokens_of) rfl
theorem Txt.f_Source_init (T : Txt K mg w) : ∃ fd, FnP K "__init__" "Source.__init__" s_Source_init (He.ma K (He.ga K "Source") "__init__") fd := T.def_ 8 (d := d_Source_init) rfl
theorem Txt.f_Source_kind (T : Txt K mg w) : ∃ fd, FnP K "kind" "Source.kind" s_Source_kind (He.ma K (He.ga K "Source") "kind") fd := T.def_ 9 (d := d_Source_kind) rfl
theorem Txt.f_Source_text (T : Txt K mg w) : ∃ fd, FnP K "text" "Source.text" s_Source_text (He.ma K (He.ga K "Source") "text") fd := T.def_ 10 (d := d_Source_text) rfl
theorem Txt.f_Source_take (T : Txt K mg w) : ∃ fd, FnP K "take" "Source.take" s_Source_take (He.ma K (He.ga K "Source") "take") fd := T.def_ 11 (d := d_Source_take) rfl
theorem Txt.f_Source_takes (T : Txt K mg w) : ∃ fd, FnP K "takes" "Source.takes" s_Source_takes (He.ma K (He.ga K "Source") "takes") fd := T.def_ 12 (d := d_Source_takes) rfl
theorem Txt.f_top_of (T : Txt K mg w) : ∃ fd, FnP K "top_of" "top_of" s_top_of (He.ga K "top_of") fd := T.def_ 13 (d := d_top_of) rfl
theorem Txt.f_begin_inner (T : Txt K mg w) : ∃ fd, FnP K "begin_inner" "begin_inner" s_begin_inner (He.ga K "begin_inner") fd := T.def_ 14 (d := d_begin_inner) rfl
theorem Txt.f_read_pattern (T : Txt K mg w) : ∃ fd, FnP K "read_pattern" "read_pattern" s_read_pattern (He.ga K "read_pattern") fd := T.def_ 15 (d := d_read_pattern) rfl
theorem Txt.f_open_wide (T : Txt K mg w) : ∃ fd, FnP K "open_wide" "open_wide" s_open_wide (He.ga K "open_wide") fd := T.def_ 16 (d := d_open_wide) rfl
theorem Txt.f_begin_operand (T : Txt K mg w) : ∃ fd, FnP K "begin_operand" "begin_operand" s_begin_operand (He.ga K "begin_operand") fd := T.def_ 17 (d := d_begin_operand) rfl
theorem Txt.f_attach (T : Txt K mg w) : ∃ fd, FnP K "attach" "attach" s_attach (He.ga K "attach") fd := T.def_ 18 (d := d_attach) rfl
theorem Txt.f_next_row (T : Txt K mg w) : ∃ fd, FnP K "next_row" "next_row" s_next_row (He.ga K "next_row") fd := T.def_ 19 (d := d_next_row) rfl
theorem Txt.f_reduced (T : Txt K mg w) : ∃ fd, FnP K "reduced" "reduced" s_reduced (He.ga K "reduced") fd := T.def_ 20 (d := d_reduced) rfl
theorem Txt.f_end_expression (T : Txt K mg w) : ∃ fd, FnP K "end_expression" "end_expression" s_end_expression (He.ga K "end_expression") fd := T.def_ 21 (d := d_end_expression) rfl
theorem Txt.f_read_expression (T : Txt K mg w) : ∃ fd, FnP K "read_expression" "read_expression" s_read_expression (He.ga K "read_expression") fd := T.def_ 22 (d := d_read_expression) rfl
theorem Txt.f_parts_of (T : Txt K mg w) : ∃ fd, FnP K "parts_of" "parts_of" s_parts_of (He.ga K "parts_of") fd := T.def_ 23 (d := d_parts_of) rfl
theorem Txt.f_check_places (T : Txt K mg w) : ∃ fd, FnP K "check_places" "check_places" s_check_places (He.ga K "check_places") fd := T.def_ 24 (d := d_check_places) rfl
theorem Txt.f_check_end (T : Txt K mg w) : ∃ fd, FnP K "check_end" "check_end" s_check_end (He.ga K "check_end") fd := T.def_ 25 (d := d_check_end) rfl
theorem Txt.f_parse_expression (T : Txt K mg w) : ∃ fd, FnP K "parse_expression" "parse_expression" s_parse_expression (He.ga K "parse_expression") fd := T.def_ 26 (d := d_parse_expression) rfl
theorem Txt.f_l_draws (T : Txt K mg w) : ∃ fd, FnP K "_law_draws" "_law_draws" s_l_draws (He.ga K "_law_draws") fd := T.def_ 27 (d := d_l_draws) rfl
theorem Txt.f_l_next (T : Txt K mg w) : ∃ fd, FnP K "_law_next" "_law_next" s_l_next (He.ga K "_law_next") fd := T.def_ 28 (d := d_l_next) rfl
theorem Txt.f_l_one (T : Txt K mg w) : ∃ fd, FnP K "_law_one" "_law_one" s_l_one (He.ga K "_law_one") fd := T.def_ 29 (d := d_l_one) rfl
theorem Txt.f_l_some_word (T : Txt K mg w) : ∃ fd, FnP K "_law_some_word" "_law_some_word" s_l_some_word (He.ga K "_law_some_word") fd := T.def_ 30 (d := d_l_some_word) rfl
theorem Txt.f_l_some_name (T : Txt K mg w) : ∃ fd, FnP K "_law_some_name" "_law_some_name" s_l_some_name (He.ga K "_law_some_name") fd := T.def_ 31 (d := d_l_some_name) rfl
theorem Txt.f_l_some_number (T : Txt K mg w) : ∃ fd, FnP K "_law_some_number" "_law_some_number" s_l_some_number (He.ga K "_law_some_number") fd := T.def_ 32 (d := d_l_some_number) rfl
theorem Txt.f_l_free_pattern (T : Txt K mg w) : ∃ fd, FnP K "_law_free_pattern" "_law_free_pattern" s_l_free_pattern (He.ga K "_law_free_pattern") fd := T.def_ 33 (d := d_l_free_pattern) rfl
theorem Txt.f_l_free (T : Txt K mg w) : ∃ fd, FnP K "_law_free" "_law_free" s_l_free (He.ga K "_law_free") fd := T.def_ 34 (d := d_l_free) rfl
theorem Txt.f_l_inner (T : Txt K mg w) : ∃ fd, FnP K "_law_inner" "_law_inner" s_l_inner (He.ga K "_law_inner") fd := T.def_ 35 (d := d_l_inner) rfl
theorem Txt.f_l_size (T : Txt K mg w) : ∃ fd, FnP K "_law_size" "_law_size" s_l_size (He.ga K "_law_size") fd := T.def_ 36 (d := d_l_size) rfl
theorem Txt.f_l_high (T : Txt K mg w) : ∃ fd, FnP K "_law_high" "_law_high" s_l_high (He.ga K "_law_high") fd := T.def_ 37 (d := d_l_high) rfl
theorem Txt.f_l_free_program (T : Txt K mg w) : ∃ fd, FnP K "_law_free_program" "_law_free_program" s_l_free_program (He.ga K "_law_free_program") fd := T.def_ 38 (d := d_l_free_program) rfl
theorem Txt.f_l_wrapped (T : Txt K mg w) : ∃ fd, FnP K "_law_wrapped" "_law_wrapped" s_l_wrapped (He.ga K "_law_wrapped") fd := T.def_ 39 (d := d_l_wrapped) rfl
theorem Txt.f_l_pattern_tokens (T : Txt K mg w) : ∃ fd, FnP K "_law_pattern_tokens" "_law_pattern_tokens" s_l_pattern_tokens (He.ga K "_law_pattern_tokens") fd := T.def_ 40 (d := d_l_pattern_tokens) rfl
theorem Txt.f_l_bare (T : Txt K mg w) : ∃ fd, FnP K "_law_bare" "_law_bare" s_l_bare (He.ga K "_law_bare") fd := T.def_ 41 (d := d_l_bare) rfl
theorem Txt.f_l_tokens (T : Txt K mg w) : ∃ fd, FnP K "_law_tokens" "_law_tokens" s_l_tokens (He.ga K "_law_tokens") fd := T.def_ 42 (d := d_l_tokens) rfl
theorem Txt.f_l_index (T : Txt K mg w) : ∃ fd, FnP K "_law_index" "_law_index" s_l_index (He.ga K "_law_index") fd := T.def_ 43 (d := d_l_index) rfl
theorem Txt.f_l_some_tokens (T : Txt K mg w) : ∃ fd, FnP K "_law_some_tokens" "_law_some_tokens" s_l_some_tokens (He.ga K "_law_some_tokens") fd := T.def_ 44 (d := d_l_some_tokens) rfl
theorem Txt.f_l_can_follow (T : Txt K mg w) : ∃ fd, FnP K "_law_can_follow" "_law_can_follow" s_l_can_follow (He.ga K "_law_can_follow") fd := T.def_ 45 (d := d_l_can_follow) rfl
theorem Txt.f_l_ended (T : Txt K mg w) : ∃ fd, FnP K "_law_ended" "_law_ended" s_l_ended (He.ga K "_law_ended") fd := T.def_ 46 (d := d_l_ended) rfl
theorem Txt.f_l_cut_right (T : Txt K mg w) : ∃ fd, FnP K "_law_cut_right" "_law_cut_right" s_l_cut_right (He.ga K "_law_cut_right") fd := T.def_ 47 (d := d_l_cut_right) rfl
theorem Txt.f_l_stands (T : Txt K mg w) : ∃ fd, FnP K "_law_stands" "_law_stands" s_l_stands (He.ga K "_law_stands") fd := T.def_ 48 (d := d_l_stands) rfl
theorem Txt.f_l_can_stand (T : Txt K mg w) : ∃ fd, FnP K "_law_can_stand" "_law_can_stand" s_l_can_stand (He.ga K "_law_can_stand") fd := T.def_ 49 (d := d_l_can_stand) rfl
theorem Txt.f_l_runs_right (T : Txt K mg w) : ∃ fd, FnP K "_law_runs_right" "_law_runs_right" s_l_runs_right (He.ga K "_law_runs_right") fd := T.def_ 50 (d := d_l_runs_right) rfl
theorem Txt.f_law (T : Txt K mg w) : ∃ fd, FnP K "law" "law" s_law (He.ga K "law") fd := T.def_ 51 (d := d_law) rfl
theorem Txt.g_is_number_text (T : Txt K mg w) : mg "is_number_text" = some (.ref (He.ga K "is_number_text")) := T.rd _ _ (He.eqO_ok (T.fact 0 (f := .glo "is_number_text") rfl))
theorem Txt.g_is_name (T : Txt K mg w) : mg "is_name" = some (.ref (He.ga K "is_name")) := T.rd _ _ (He.eqO_ok (T.fact 1 (f := .glo "is_name") rfl))
theorem Txt.g_is_word (T : Txt K mg w) : mg "is_word" = some (.ref (He.ga K "is_word")) := T.rd _ _ (He.eqO_ok (T.fact 2 (f := .glo "is_word") rfl))
theorem Txt.g_sort_of (T : Txt K mg w) : mg "sort_of" = some (.ref (He.ga K "sort_of")) := T.rd _ _ (He.eqO_ok (T.fact 3 (f := .glo "sort_of") rfl))
theorem Txt.g_run_end (T : Txt K mg w) : mg "run_end" = some (.ref (He.ga K "run_end")) := T.rd _ _ (He.eqO_ok (T.fact 4 (f := .glo "run_end") rfl))
theorem Txt.g_tokens_of (T : Txt K mg w) : mg "tokens_of" = some (.ref (He.ga K "tokens_of")) := T.rd _ _ (He.eqO_ok (T.fact 5 (f := .glo "tokens_of") rfl))
theorem Txt.g_top_of (T : Txt K mg w) : mg "top_of" = some (.ref (He.ga K "top_of")) := T.rd _ _ (He.eqO_ok (T.fact 6 (f := .glo "top_of") rfl))
theorem Txt.g_begin_inner (T : Txt K mg w) : mg "begin_inner" = some (.ref (He.ga K "begin_inner")) := T.rd _ _ (He.eqO_ok (T.fact 7 (f := .glo "begin_inner") rfl))
theorem Txt.g_read_pattern (T : Txt K mg w) : mg "read_pattern" = some (.ref (He.ga K "read_pattern")) := T.rd _ _ (He.eqO_ok (T.fact 8 (f := .glo "read_pattern") rfl))
theorem Txt.g_open_wide (T : Txt K mg w) : mg "open_wide" = some (.ref (He.ga K "open_wide")) := T.rd _ _ (He.eqO_ok (T.fact 9 (f := .glo "open_wide") rfl))
theorem Txt.g_begin_operand (T : Txt K mg w) : mg "begin_operand" = some (.ref (He.ga K "begin_operand")) := T.rd _ _ (He.eqO_ok (T.fact 10 (f := .glo "begin_operand") rfl))
theorem Txt.g_attach (T : Txt K mg w) : mg "attach" = some (.ref (He.ga K "attach")) := T.rd _ _ (He.eqO_ok (T.fact 11 (f := .glo "attach") rfl))
theorem Txt.g_next_row (T : Txt K mg w) : mg "next_row" = some (.ref (He.ga K "next_row")) := T.rd _ _ (He.eqO_ok (T.fact 12 (f := .glo "next_row") rfl))
theorem Txt.g_reduced (T : Txt K mg w) : mg "reduced" = some (.ref (He.ga K "reduced")) := T.rd _ _ (He.eqO_ok (T.fact 13 (f := .glo "reduced") rfl))
theorem Txt.g_end_expression (T : Txt K mg w) : mg "end_expression" = some (.ref (He.ga K "end_expression")) := T.rd _ _ (He.eqO_ok (T.fact 14 (f := .glo "end_expression") rfl))
theorem Txt.g_read_expression (T : Txt K mg w) : mg "read_expression" = some (.ref (He.ga K "read_expression")) := T.rd _ _ (He.eqO_ok (T.fact 15 (f := .glo "read_expression") rfl))
theorem Txt.g_parts_of (T : Txt K mg w) : mg "parts_of" = some (.ref (He.ga K "parts_of")) := T.rd _ _ (He.eqO_ok (T.fact 16 (f := .glo "parts_of") rfl))
theorem Txt.g_check_places (T : Txt K mg w) : mg "check_places" = some (.ref (He.ga K "check_places")) := T.rd _ _ (He.eqO_ok (T.fact 17 (f := .glo "check_places") rfl))
theorem Txt.g_check_end (T : Txt K mg w) : mg "check_end" = some (.ref (He.ga K "check_end")) := T.rd _ _ (He.eqO_ok (T.fact 18 (f := .glo "check_end") rfl))
theorem Txt.g_parse_expression (T : Txt K mg w) : mg "parse_expression" = some (.ref (He.ga K "parse_expression")) := T.rd _ _ (He.eqO_ok (T.fact 19 (f := .glo "parse_expression") rfl))
theorem Txt.g_l_draws (T : Txt K mg w) : mg "_law_draws" = some (.ref (He.ga K "_law_draws")) := T.rd _ _ (He.eqO_ok (T.fact 20 (f := .glo "_law_draws") rfl))
theorem Txt.g_l_next (T : Txt K mg w) : mg "_law_next" = some (.ref (He.ga K "_law_next")) := T.rd _ _ (He.eqO_ok (T.fact 21 (f := .glo "_law_next") rfl))
theorem Txt.g_l_one (T : Txt K mg w) : mg "_law_one" = some (.ref (He.ga K "_law_one")) := T.rd _ _ (He.eqO_ok (T.fact 22 (f := .glo "_law_one") rfl))
theorem Txt.g_l_some_word (T : Txt K mg w) : mg "_law_some_word" = some (.ref (He.ga K "_law_some_word")) := T.rd _ _ (He.eqO_ok (T.fact 23 (f := .glo "_law_some_word") rfl))
theorem Txt.g_l_some_name (T : Txt K mg w) : mg "_law_some_name" = some (.ref (He.ga K "_law_some_name")) := T.rd _ _ (He.eqO_ok (T.fact 24 (f := .glo "_law_some_name") rfl))
theorem Txt.g_l_some_number (T : Txt K mg w) : mg "_law_some_number" = some (.ref (He.ga K "_law_some_number")) := T.rd _ _ (He.eqO_ok (T.fact 25 (f := .glo "_law_some_number") rfl))
theorem Txt.g_l_free_pattern (T : Txt K mg w) : mg "_law_free_pattern" = some (.ref (He.ga K "_law_free_pattern")) := T.rd _ _ (He.eqO_ok (T.fact 26 (f := .glo "_law_free_pattern") rfl))
theorem Txt.g_l_free (T : Txt K mg w) : mg "_law_free" = some (.ref (He.ga K "_law_free")) := T.rd _ _ (He.eqO_ok (T.fact 27 (f := .glo "_law_free") rfl))
theorem Txt.g_l_inner (T : Txt K mg w) : mg "_law_inner" = some (.ref (He.ga K "_law_inner")) := T.rd _ _ (He.eqO_ok (T.fact 28 (f := .glo "_law_inner") rfl))
theorem Txt.g_l_size (T : Txt K mg w) : mg "_law_size" = some (.ref (He.ga K "_law_size")) := T.rd _ _ (He.eqO_ok (T.fact 29 (f := .glo "_law_size") rfl))
theorem Txt.g_l_high (T : Txt K mg w) : mg "_law_high" = some (.ref (He.ga K "_law_high")) := T.rd _ _ (He.eqO_ok (T.fact 30 (f := .glo "_law_high") rfl))
theorem Txt.g_l_free_program (T : Txt K mg w) : mg "_law_free_program" = some (.ref (He.ga K "_law_free_program")) := T.rd _ _ (He.eqO_ok (T.fact 31 (f := .glo "_law_free_program") rfl))
theorem Txt.g_l_wrapped (T : Txt K mg w) : mg "_law_wrapped" = some (.ref (He.ga K "_law_wrapped")) := T.rd _ _ (He.eqO_ok (T.fact 32 (f := .glo "_law_wrapped") rfl))
theorem Txt.g_l_pattern_tokens (T : Txt K mg w) : mg "_law_pattern_tokens" = some (.ref (He.ga K "_law_pattern_tokens")) := T.rd _ _ (He.eqO_ok (T.fact 33 (f := .glo "_law_pattern_tokens") rfl))
theorem Txt.g_l_bare (T : Txt K mg w) : mg "_law_bare" = some (.ref (He.ga K "_law_bare")) := T.rd _ _ (He.eqO_ok (T.fact 34 (f := .glo "_law_bare") rfl))
theorem Txt.g_l_tokens (T : Txt K mg w) : mg "_law_tokens" = some (.ref (He.ga K "_law_tokens")) := T.rd _ _ (He.eqO_ok (T.fact 35 (f := .glo "_law_tokens") rfl))
theorem Txt.g_l_index (T : Txt K mg w) : mg "_law_index" = some (.ref (He.ga K "_law_index")) := T.rd _ _ (He.eqO_ok (T.fact 36 (f := .glo "_law_index") rfl))
theorem Txt.g_l_some_tokens (T : Txt K mg w) : mg "_law_some_tokens" = some (.ref (He.ga K "_law_some_tokens")) := T.rd _ _ (He.eqO_ok (T.fact 37 (f := .glo "_law_some_tokens") rfl))
theorem Txt.g_l_can_follow (T : Txt K mg w) : mg "_law_can_follow" = some (.ref (He.ga K "_law_can_follow")) := T.rd _ _ (He.eqO_ok (T.fact 38 (f := .glo "_law_can_follow") rfl))
theorem Txt.g_l_ended (T : Txt K mg w) : mg "_law_ended" = some (.ref (He.ga K "_law_ended")) := T.rd _ _ (He.eqO_ok (T.fact 39 (f := .glo "_law_ended") rfl))
theorem Txt.g_l_cut_right (T : Txt K mg w) : mg "_law_cut_right" = some (.ref (He.ga K "_law_cut_right")) := T.rd _ _ (He.eqO_ok (T.fact 40 (f := .glo "_law_cut_right") rfl))
theorem Txt.g_l_stands (T : Txt K mg w) : mg "_law_stands" = some (.ref (He.ga K "_law_stands")) := T.rd _ _ (He.eqO_ok (T.fact 41 (f := .glo "_law_stands") rfl))
theorem Txt.g_l_can_stand (T : Txt K mg w) : mg "_law_can_stand" = some (.ref (He.ga K "_law_can_stand")) := T.rd _ _ (He.eqO_ok (T.fact 42 (f := .glo "_law_can_stand") rfl))
theorem Txt.g_l_runs_right (T : Txt K mg w) : mg "_law_runs_right" = some (.ref (He.ga K "_law_runs_right")) := T.rd _ _ (He.eqO_ok (T.fact 43 (f := .glo "_law_runs_right") rfl))
theorem Txt.g_law (T : Txt K mg w) : mg "law" = some (.ref (He.ga K "law")) := T.rd _ _ (He.eqO_ok (T.fact 44 (f := .glo "law") rfl))
theorem Txt.g_LangError (T : Txt K mg w) : mg "LangError" = some (.ref (He.ga K "LangError")) := T.rd _ _ (He.eqO_ok (T.fact 45 (f := .glo "LangError") rfl))
theorem Txt.g_TooLarge (T : Txt K mg w) : mg "TooLarge" = some (.ref (He.ga K "TooLarge")) := T.rd _ _ (He.eqO_ok (T.fact 46 (f := .glo "TooLarge") rfl))
theorem Txt.g_BadText (T : Txt K mg w) : mg "BadText" = some (.ref (He.ga K "BadText")) := T.rd _ _ (He.eqO_ok (T.fact 47 (f := .glo "BadText") rfl))
theorem Txt.g_Source (T : Txt K mg w) : mg "Source" = some (.ref (He.ga K "Source")) := T.rd _ _ (He.eqO_ok (T.fact 48 (f := .glo "Source") rfl))
theorem Txt.b_len (T : Txt K mg w) : mg "len" = none := T.rd _ _ (He.eqO_ok (T.fact 49 (f := .free "len") rfl))
theorem Txt.b_isinstance (T : Txt K mg w) : mg "isinstance" = none := T.rd _ _ (He.eqO_ok (T.fact 50 (f := .free "isinstance") rfl))
theorem Txt.b_str (T : Txt K mg w) : mg "str" = none := T.rd _ _ (He.eqO_ok (T.fact 51 (f := .free "str") rfl))
theorem Txt.b_all (T : Txt K mg w) : mg "all" = none := T.rd _ _ (He.eqO_ok (T.fact 52 (f := .free "all") rfl))
theorem Txt.b_max (T : Txt K mg w) : mg "max" = none := T.rd _ _ (He.eqO_ok (T.fact 53 (f := .free "max") rfl))
theorem Txt.b_min (T : Txt K mg w) : mg "min" = none := T.rd _ _ (He.eqO_ok (T.fact 54 (f := .free "min") rfl))
theorem Txt.b_int (T : Txt K mg w) : mg "int" = none := T.rd _ _ (He.eqO_ok (T.fact 55 (f := .free "int") rfl))
theorem Txt.b_list (T : Txt K mg w) : mg "list" = none := T.rd _ _ (He.eqO_ok (T.fact 56 (f := .free "list") rfl))
theorem Txt.b_tuple (T : Txt K mg w) : mg "tuple" = none := T.rd _ _ (He.eqO_ok (T.fact 57 (f := .free "tuple") rfl))
theorem Txt.b_range (T : Txt K mg w) : mg "range" = none := T.rd _ _ (He.eqO_ok (T.fact 58 (f := .free "range") rfl))
theorem Txt.b_sum (T : Txt K mg w) : mg "sum" = none := T.rd _ _ (He.eqO_ok (T.fact 59 (f := .free "sum") rfl))
theorem Txt.b_abs (T : Txt K mg w) : mg "abs" = none := T.rd _ _ (He.eqO_ok (T.fact 60 (f := .free "abs") rfl))
theorem Txt.i_PLACES (T : Txt K mg w) : ∃ t, mg "PLACES" = some (.int 60 t) := by
  have c2 := T.fact 61 (f := .int "PLACES" 60) rfl
  exact int_of T.rd c2
theorem Txt.i_ROWS (T : Txt K mg w) : ∃ t, mg "ROWS" = some (.int 8 t) := by
  have c2 := T.fact 62 (f := .int "ROWS" 8) rfl
  exact int_of T.rd c2
theorem Txt.i_MOST_SIGNS (T : Txt K mg w) : ∃ t, mg "MOST_SIGNS" = some (.int 8 t) := by
  have c2 := T.fact 63 (f := .int "MOST_SIGNS" 8) rfl
  exact int_of T.rd c2
theorem Txt.i_MOST_FIGURES (T : Txt K mg w) : ∃ t, mg "MOST_FIGURES" = some (.int 6 t) := by
  have c2 := T.fact 64 (f := .int "MOST_FIGURES" 6) rfl
  exact int_of T.rd c2
theorem Txt.i_MOST_PARTS (T : Txt K mg w) : ∃ t, mg "MOST_PARTS" = some (.int 3 t) := by
  have c2 := T.fact 65 (f := .int "MOST_PARTS" 3) rfl
  exact int_of T.rd c2
theorem Txt.i_MOST_LEVELS (T : Txt K mg w) : ∃ t, mg "MOST_LEVELS" = some (.int 20 t) := by
  have c2 := T.fact 66 (f := .int "MOST_LEVELS" 20) rfl
  exact int_of T.rd c2
theorem Txt.s_SMALL (T : Txt K mg w) : ∃ t, mg "SMALL" = some (.str "abcdefghijklmnopqrstuvwxyz" t) := by
  have c2 := T.fact 67 (f := .str "SMALL" "abcdefghijklmnopqrstuvwxyz") rfl
  exact str_of T.rd c2
theorem Txt.s_CAPITALS (T : Txt K mg w) : ∃ t, mg "CAPITALS" = some (.str "ABCDEFGHIJKLMNOPQRSTUVWXYZ" t) := by
  have c2 := T.fact 68 (f := .str "CAPITALS" "ABCDEFGHIJKLMNOPQRSTUVWXYZ") rfl
  exact str_of T.rd c2
theorem Txt.s_DIGITS (T : Txt K mg w) : ∃ t, mg "DIGITS" = some (.str "0123456789" t) := by
  have c2 := T.fact 69 (f := .str "DIGITS" "0123456789") rfl
  exact str_of T.rd c2
theorem Txt.s_MARKS (T : Txt K mg w) : ∃ t, mg "MARKS" = some (.str "()|_,;+-*<=" t) := by
  have c2 := T.fact 70 (f := .str "MARKS" "()|_,;+-*<=") rfl
  exact str_of T.rd c2
theorem Txt.c_Source (T : Txt K mg w) : Cls K (He.ga K "Source") := He.cls_ok (T.fact 71 (f := .cls "Source") rfl)
theorem Txt.mk_Source (T : Txt K mg w) : Mk K (He.ga K "Source") (He.ma K (He.ga K "Source") "__init__") := He.mkr_ok (T.fact 72 (f := .mkr "Source") rfl)
theorem Txt.m_Source_kind (T : Txt K mg w) : Meth K (He.ga K "Source") "kind" (He.ma K (He.ga K "Source") "kind") := He.meth_ok (T.fact 73 (f := .meth "Source" "kind") rfl)
theorem Txt.m_Source_take (T : Txt K mg w) : Meth K (He.ga K "Source") "take" (He.ma K (He.ga K "Source") "take") := He.meth_ok (T.fact 74 (f := .meth "Source" "take") rfl)
theorem Txt.m_Source_takes (T : Txt K mg w) : Meth K (He.ga K "Source") "takes" (He.ma K (He.ga K "Source") "takes") := He.meth_ok (T.fact 75 (f := .meth "Source" "takes") rfl)
theorem Txt.n_Source_tokens (T : Txt K mg w) : NoAttr K (He.ga K "Source") "tokens" := He.noat_ok (T.fact 76 (f := .noat "Source" "tokens") rfl)
theorem Txt.n_Source_at (T : Txt K mg w) : NoAttr K (He.ga K "Source") "at" := He.noat_ok (T.fact 77 (f := .noat "Source" "at") rfl)
theorem Txt.n_BadText_index (T : Txt K mg w) : NoAttr K (He.ga K "BadText") "index" := He.noat_ok (T.fact 78 (f := .noat "BadText" "index") rfl)
theorem Txt.x_BadText_BadText (T : Txt K mg w) : PySem.W.exmOne K (.ref (He.ga K "BadText")) (.ref (He.ga K "BadText")) = some true := He.exm_ok (T.fact 79 (f := .exm "BadText" "BadText" true) rfl)
theorem Txt.n_TooLarge_limit (T : Txt K mg w) : NoAttr K (He.ga K "TooLarge") "limit" := He.noat_ok (T.fact 81 (f := .noat "TooLarge" "limit") rfl)
theorem Txt.x_TooLarge_TooLarge (T : Txt K mg w) : PySem.W.exmOne K (.ref (He.ga K "TooLarge")) (.ref (He.ga K "TooLarge")) = some true := He.exm_ok (T.fact 82 (f := .exm "TooLarge" "TooLarge" true) rfl)
theorem Txt.x_TooLarge_BadText (T : Txt K mg w) : PySem.W.exmOne K (.ref (He.ga K "TooLarge")) (.ref (He.ga K "BadText")) = some false := He.exm_ok (T.fact 84 (f := .exm "TooLarge" "BadText" false) rfl)
theorem Txt.g_KEYWORDS (T : Txt K mg w) : mg "KEYWORDS" = some (.ref (He.ga K "KEYWORDS")) := T.rd _ _ (He.eqO_ok (T.fact 85 (f := .glo "KEYWORDS") rfl))
theorem Txt.g_ATOMS (T : Txt K mg w) : mg "ATOMS" = some (.ref (He.ga K "ATOMS")) := T.rd _ _ (He.eqO_ok (T.fact 86 (f := .glo "ATOMS") rfl))
theorem Txt.g_WIDE (T : Txt K mg w) : mg "WIDE" = some (.ref (He.ga K "WIDE")) := T.rd _ _ (He.eqO_ok (T.fact 87 (f := .glo "WIDE") rfl))
theorem Txt.g_STRENGTHS (T : Txt K mg w) : mg "STRENGTHS" = some (.ref (He.ga K "STRENGTHS")) := T.rd _ _ (He.eqO_ok (T.fact 88 (f := .glo "STRENGTHS") rfl))
theorem Txt.t_KEYWORDS (T : Txt K mg w) (H : Hp) : SqT K H (He.ga K "KEYWORDS") [V.str "fun", V.str "let", V.str "in", V.str "match", V.str "with", V.str "end", V.str "as", V.str "data", V.str "is", V.str "hole"] := He.tupB_ok (T.ex_ 0 (b := He.tupB K "KEYWORDS" [.str "fun", .str "let", .str "in", .str "match", .str "with", .str "end", .str "as", .str "data", .str "is", .str "hole"]) rfl) H
theorem Txt.t_ATOMS (T : Txt K mg w) (H : Hp) : SqT K H (He.ga K "ATOMS") [V.str "number", V.str "word", V.str "hole", V.str "Name", V.str "(", V.str "match"] := He.tupB_ok (T.ex_ 1 (b := He.tupB K "ATOMS" [.str "number", .str "word", .str "hole", .str "Name", .str "(", .str "match"]) rfl) H
theorem Txt.t_WIDE (T : Txt K mg w) (H : Hp) : SqT K H (He.ga K "WIDE") [V.str "bracket", V.str "fun", V.str "in", V.str "let", V.str "matched", V.str "row"] := He.tupB_ok (T.ex_ 2 (b := He.tupB K "WIDE" [.str "bracket", .str "fun", .str "in", .str "let", .str "matched", .str "row"]) rfl) H
theorem Txt.vals (T : Txt K mg w) : He.valsB K (He.ga K "STRENGTHS") [("*", .int 3), ("+", .int 2), ("-", .int 2), ("<", .int 1), ("=", .int 1)] = true := T.ex_ 3 rfl
theorem Txt.tab (T : Txt K mg w) : ∃ es n, KDict K w (He.ga K "STRENGTHS") es n := T.t.tab 0
theorem Txt.o_BadText (T : Txt K mg w) : OexC K (He.ga K "BadText") := oexB_ok (T.ex_ 4 rfl)
theorem Txt.xf_BadText (T : Txt K mg w) : XfC K (He.ga K "BadText") := xfB_ok (T.ex_ 5 rfl)
theorem Txt.in_BadText (T : Txt K mg w) : PySem.W.findIn K (.ref (He.ga K "BadText")) "__init__" = some (some (.ref (He.ma K (He.ga K "BadText") "__init__"))) ∧ PySem.W.typeIn K (.ref (He.ma K (He.ga K "BadText") "__init__")) = some (.type "function") := by
  obtain ⟨h1, h2⟩ := Bool.and_eq_true_iff.mp (T.ex_ 6 (b := iniB K (He.ga K "BadText")) rfl)
  exact ⟨of_decide_eq_true h1, of_decide_eq_true h2⟩
theorem Txt.o_TooLarge (T : Txt K mg w) : OexC K (He.ga K "TooLarge") := oexB_ok (T.ex_ 7 rfl)
theorem Txt.xf_TooLarge (T : Txt K mg w) : XfC K (He.ga K "TooLarge") := xfB_ok (T.ex_ 8 rfl)
theorem Txt.in_TooLarge (T : Txt K mg w) : PySem.W.findIn K (.ref (He.ga K "TooLarge")) "__init__" = some (some (.ref (He.ma K (He.ga K "TooLarge") "__init__"))) ∧ PySem.W.typeIn K (.ref (He.ma K (He.ga K "TooLarge") "__init__")) = some (.type "function") := by
  obtain ⟨h1, h2⟩ := Bool.and_eq_true_iff.mp (T.ex_ 9 (b := iniB K (He.ga K "TooLarge")) rfl)
  exact ⟨of_decide_eq_true h1, of_decide_eq_true h2⟩
end
end Sh
set_option Elab.async false
set_option linter.all false
set_option maxRecDepth 100000
set_option maxHeartbeats 0
namespace Sh
open PySem PySem.Spec PyProof.Rows L2
abbrev R : PySem.W.OpenRow := PySem.W.OpenLaw.row PySem.Challenge.rw_shapelang_k93_whole_beginnings_of_texts
abbrev hk : PySem.W.Hook := He.hookX 5 fa fn ts [] ex
def ob (s : PySem.W.SharedT) : He.AlX := He.obsX 5 fa fn ts [] ex (HandSHeadRun.getT s)
theorem ob_eq (s : PySem.W.SharedT) : ob s = hk.obs s.abs := He.obsX_eq (HandSHeadRun.getT_eq s)
def nm0 : List Str := ["PLACES", "ROWS", "__name__", "LangError", "TooLarge", "BadText", "SMALL", "CAPITALS", "DIGITS", "KEYWORDS", "MARKS", "MOST_SIGNS", "MOST_FIGURES", "is_number_text", "is_name", "is_word", "sort_of", "run_end", "tokens_of", "Source", "MOST_PARTS", "MOST_LEVELS", "STRENGTHS", "ATOMS", "WIDE", "top_of", "begin_inner", "read_pattern", "open_wide", "begin_operand"]
def nm1 : List Str := ["attach", "next_row", "reduced", "end_expression", "read_expression", "parts_of", "check_places", "check_end", "parse_expression", "_law_draws", "_law_next", "_law_one", "_law_some_word", "_law_some_name", "_law_some_number", "_law_free_pattern", "_law_free", "_law_inner", "_law_size", "_law_high", "_law_free_program", "_law_wrapped", "_law_pattern_tokens", "_law_bare", "_law_tokens", "_law_index", "_law_some_tokens", "_law_can_follow", "_law_ended", "_law_cut_right"]
def nm2 : List Str := ["_law_stands", "_law_can_stand", "_law_runs_right"]
def names : List Str := nm0 ++ nm1 ++ nm2
theorem run_f (w : World) : HandSHeadRun.RunEq R (PySem.W.view R.prog [66]) hk ob 3000 names (w.withFollow "special-get-raises" false) := by
  intro os
  kernel_rfl
theorem run_t (w : World) : HandSHeadRun.RunEq R (PySem.W.view R.prog [66]) hk ob 3000 names (w.withFollow "special-get-raises" true) := by
  intro os
  kernel_rfl
theorem run (w : World) : HandSHeadRun.RunEq R (PySem.W.view R.prog [66]) hk ob 3000 names w := PySem.W.byRow2 "special-get-raises" run_f run_t w
end Sh
set_option Elab.async false
set_option linter.all false
set_option maxRecDepth 100000
set_option maxHeartbeats 4000000
/-! Short words for the walk. -/
namespace Sh
open PySem PySem.Spec PyProof.Rows L2
/-! ### defs by their promises -/
structure Cal (P : Program) (w : World) (K : PySem.W.Frag) (mg : Str → Option Value) (base : Heap) (CX : CXT) (k : Nat) (x : Str) (ps : List Str) (sp : Sp) : Prop where
  ex : ∃ fd, FnOk P w K mg base CX k (He.ga K x) fd ps sp ∧ Binds K fd ps []
  kp : PySem.W.keepIn K (.ref (He.ga K x)) = true
  g : mg x = some (.ref (He.ga K x))
structure MCal (P : Program) (w : World) (K : PySem.W.Frag) (mg : Str → Option Value) (base : Heap) (CX : CXT) (k : Nat) (C : Addr) (m : Str) (ps : List Str) (sp : Sp) : Prop where
  ex : ∃ fd, FnOk P w K mg base CX k (He.ma K C m) fd ps sp ∧ Binds K fd ps []
  M : Meth K C m (He.ma K C m)
  c : Cls K C
section
variable {P : Program} {w : World} {K : PySem.W.Frag} {mg : Str → Option Value} {base : Heap} {x qual m : Str} {st : Stmt} {N ps : List Str} {k : Nat} {sp : Sp} {f C : Addr}
theorem ok0 (F : ∃ fd, FnP K x qual st f fd) (S : FnScope N ps (defScope st)) (len : ∀ vs H Q E, sp vs H Q E → vs.length = ps.length)
    (bd : ∀ (kV doc pm : Value) (an : Option Addr) (cdv ct : Value) (us : List Value), us.length = ps.length → bindArgs (PySem.W.fnOf x qual (defArgs st) (defBody st) (defScope st) .none kV doc pm an cdv ct) ⟨us, []⟩ = pure (ps.zip us))
    (hbody : ∀ (cdv : Value) (A : Around) (outer : List Env) (s : Shared) (H : Hp) (vs : List V) (Q : VK) (E : XK), Room k (A.deeper (envOfC qual (defScope st) s.heap.objs.size f cdv)) → sp vs H Q E →
      ∃ t, PSs (cxOf CX0 P w K mg base N qual (defScope st) f cdv A outer s H E).nox (defBody st) t ∧ t { nx := fun _ H' => Q .non H', rt := Q } (start N vs) H) : ∃ fd, FnOk P w K mg base CX0 (k + 1) f fd ps sp ∧ Binds K fd ps [] := by
  obtain ⟨fd, F⟩ := F
  refine ⟨fd, FunD.ok F S len fun cdv A outer s H vs Q E hr hsp => ?_, F.bindsN bd⟩
  obtain ⟨t, h, q⟩ := hbody cdv A outer s H vs Q E hr hsp
  exact ⟨t, h.nox, q⟩
theorem okX (F : ∃ fd, FnP K x qual st f fd) (S : FnScope N ps (defScope st)) (len : ∀ vs H Q E, sp vs H Q E → vs.length = ps.length)
    (bd : ∀ (kV doc pm : Value) (an : Option Addr) (cdv ct : Value) (us : List Value), us.length = ps.length → bindArgs (PySem.W.fnOf x qual (defArgs st) (defBody st) (defScope st) .none kV doc pm an cdv ct) ⟨us, []⟩ = pure (ps.zip us))
    (hbody : ∀ (cdv : Value) (A : Around) (outer : List Env) (s : Shared) (H : Hp) (vs : List V) (Q : VK) (E : XK), Room k (A.deeper (envOfC qual (defScope st) s.heap.objs.size f cdv)) → sp vs H Q E →
      ∃ t, PSs (cxOf (L2.CX P w) P w K mg base N qual (defScope st) f cdv A outer s H E) (defBody st) t ∧ t { nx := fun _ H' => Q .non H', rt := Q } (start N vs) H) : ∃ fd, FnOk P w K mg base (L2.CX P w) (k + 1) f fd ps sp ∧ Binds K fd ps [] := by
  obtain ⟨fd, F⟩ := F
  exact ⟨fd, FunD.ok F S len hbody, F.bindsN bd⟩
theorem kpOf (F : ∃ fd, FnP K x qual st f fd) : PySem.W.keepIn K (.ref f) = true := by
  obtain ⟨fd, F⟩ := F
  exact F.kp
end
section
variable {X : Cx} {CX : CXT} {j k : Nat} {ps : List Str} {sp : Sp} {E : XK} {x m : Str} {p pos apos : Pos} {e o : Expr} {es : List Expr} {ta : TE} {t : TA} {C : Addr}
theorem pe_cal (c : Cal X.prog X.w X.K X.mg X.base CX j x ps sp) (hr : Room k X.A) (hj : j ≤ k) (hg : Gl X x) (hx : Passes CX X E) (ha : PA X (e :: es) t) (hdb : (x == ("__debug__" : Str)) = false := by decide)
    (he : starEach (e :: es) X.env = (false, eval e X.env) :: starEach es X.env := by rfl) (hpl : (backTo pos (starEach es X.env)).any (·.1) = false := by rfl) : PE X (.Call (.Name x p) (e :: es) [] pos) (tCall sp [] E t) := by
  obtain ⟨⟨fd, F, b⟩, kp, g⟩ := c
  exact pe_call F (hr.mono hj) hg g kp b .nil hx ha hdb he hpl
theorem pe_cal0 (c : Cal X.prog X.w X.K X.mg X.base CX j x ps sp) (hr : Room k X.A) (hj : j ≤ k) (hg : Gl X x) (hx : Passes CX X E) (hdb : (x == ("__debug__" : Str)) = false := by decide) : PE X (.Call (.Name x p) [] [] pos) (tCall sp [] E tNil) := by
  obtain ⟨⟨fd, F, b⟩, kp, g⟩ := c
  exact pe_call0 F (hr.mono hj) hg g kp b .nil hx hdb
theorem pe_mcal {pl : Sem Bool} (c : MCal X.prog X.w X.K X.mg X.base CX j C m ps sp) (hr : Room k X.A) (hj : j ≤ k) (hx : Passes CX X E) (ho : PE X o ta) (ha : PA X (e :: es) t)
    (hst : starEach (e :: es) X.env = (false, eval e X.env) :: starEach es X.env := by rfl) (hpl : (backTo pos (starEach es X.env)).any (·.1) = false := by rfl)
    (ht : eval (.Call (.Attribute o m apos) (e :: es) [] pos) X.env = (do
      let ov ← eval o X.env
      standAt apos.atName
      let (f, first) ← holding [ov] (getMethod ov m pl)
      callWith pos f first (backTo pos (starEach (e :: es) X.env)) (backToKw pos (keywordEach [] X.env))) := by rfl) : PE X (.Call (.Attribute o m apos) (e :: es) [] pos) (tMeth C m sp [] E ta t) := by
  obtain ⟨⟨fd, F, b⟩, M, c⟩ := c
  exact pe_meth ho c M F (hr.mono hj) b .nil hx ha hst hpl ht
theorem pe_mcal0 {pl : Sem Bool} (c : MCal X.prog X.w X.K X.mg X.base CX j C m ps sp) (hr : Room k X.A) (hj : j ≤ k) (hx : Passes CX X E) (ho : PE X o ta)
    (ht : eval (.Call (.Attribute o m apos) [] [] pos) X.env = (do
      let ov ← eval o X.env
      standAt apos.atName
      let (f, first) ← holding [ov] (getMethod ov m pl)
      callWith pos f first (backTo pos (starEach [] X.env)) (backToKw pos (keywordEach [] X.env))) := by rfl) : PE X (.Call (.Attribute o m apos) [] [] pos) (tMeth C m sp [] E ta tNil) := by
  obtain ⟨⟨fd, F, b⟩, M, c⟩ := c
  exact pe_meth0 ho c M F (hr.mono hj) b .nil hx ht
theorem pgi {i : Int} {px : Pos} (hg : Gl X x) (h : ∃ t, X.mg x = some (.int i t)) (hd : (x == ("__debug__" : Str)) = false := by decide) : PE X (.Name x px) (tC (.int i)) := by
  obtain ⟨t, h⟩ := h
  exact pe_glob hg h ⟨t, rfl⟩ hd
theorem pgs {z : Str} {px : Pos} (hg : Gl X x) (h : ∃ t, X.mg x = some (.str z t)) (hd : (x == ("__debug__" : Str)) = false := by decide) : PE X (.Name x px) (tC (.str z)) := by
  obtain ⟨t, h⟩ := h
  exact pe_glob hg h ⟨t, rfl⟩ hd
theorem pgr {a : Addr} {px : Pos} (hg : Gl X x) (h : X.mg x = some (.ref a)) (hd : (x == ("__debug__" : Str)) = false := by decide) : PE X (.Name x px) (tC (.ref a)) := pe_glob hg h (show RelV (.ref a) (Value.ref a) from rfl) hd
/-- a list or a tuple walked -/
def iSeq (K : PySem.W.Frag) (tl : TE) : TI := fun σ H R => tl σ H fun x H1 => ∃ a, x = .ref a ∧ (((∃ xs, SqL K H1 a xs) ∧ R (Itl K a) H1) ∨ ((∃ xs, SqT K H1 a xs) ∧ R (Itt K a) H1))
/-- an iterator laid now, none of ours before -/
theorem pie_new {tg : Expr} {pins : List (Addr × Obj)} {σ : L2.St} {H1 : Hp} {s2 : Shared} {J : It} {R : It → Hp → Prop} {o : Obj} {tn : Nat → Heap → Prop} (Iv : Inv X pins σ H1 s2) (tr : Turn X.prog X.w X.K tg J [s2.heap.objs.size] s2.heap.objs.size tn)
    (t0 : tn 0 (s2.heap.push o)) (hR : R J H1) : PIE X pins σ tg R (.ref s2.heap.objs.size) { s2 with heap := s2.heap.push o } := by
  have fresh : ∀ z ∈ [s2.heap.objs.size], FpOk X pins H1 z := fun z hz => by
    rw [List.mem_singleton.mp hz]
    have none1 : H1 s2.heap.objs.size = none := Iv.hok.fresh (Nat.le_refl _)
    exact Iv.fpOk (Nat.le_refl _) none1
  exact ⟨_, _, tn, J, H1, rfl, Iv.kept (t' := s2.toks) (fun z u hz => Heap.get?_push_of_some _ hz), tr, t0, fresh, hR⟩
theorem pi_seq {tg l : Expr} {tl : TE} (hl : PE X l tl) : PI X tg l (iSeq X.K tl) where
  run := fun pins s σ H _ Iv hw => thn (hl.run pins s σ H _ Iv hw) fun val s2 back => by
    obtain ⟨_, H1, Iv1, rel, a, rfl, hcase⟩ := back
    obtain rfl : val = Value.ref a := rel
    cases hcase with
    | inl hL =>
      obtain ⟨⟨xs, hsq⟩, hR⟩ := hL
      obtain ⟨_, _, there, _⟩ := Iv1.list hsq
      exact wpAny_pyIter_list there.isList (pie_new Iv1 (turn_list a _) ⟨_, Heap.get?_push_size _ rfl, rfl, rfl⟩ hR)
    | inr hT =>
      obtain ⟨⟨xs, hsq⟩, hR⟩ := hT
      obtain ⟨its, _, there, _⟩ := Iv1.tuple hsq
      exact wpAny_pyIter_tuple (items := its.toArray) there (pie_new Iv1 (turn_tuple a _) ⟨_, Heap.get?_push_size _ rfl, rfl, rfl⟩ hR)
/-! ### xs == [], xs != [] by lengths -/
def rNeL (K : PySem.W.Frag) : R2 := fun x y H Q => ∃ a b xs, x = .ref a ∧ y = .ref b ∧ SqL K H a xs ∧ SqL K H b [] ∧ Q (.bl (!xs.isEmpty)) H
def rEqL (K : PySem.W.Frag) : R2 := fun x y H Q => ∃ a b xs, x = .ref a ∧ y = .ref b ∧ SqL K H a xs ∧ SqL K H b [] ∧ Q (.bl xs.isEmpty) H
theorem op_neL (hu : X.A.units < cLine) : OpR X (compareOp .NotEq) (rNeL X.K) := by
  intro pins s σ H x y v u Q I rx ry h
  obtain ⟨a, b, xs, rfl, rfl, h1, h2, q⟩ := h
  cases rx
  cases ry
  obtain ⟨i1, r1, p1, _⟩ := I.list h1
  obtain ⟨i2, r2, p2, _⟩ := I.list h2
  cases r2
  cases r1 with
  | nil =>
    have z := SeqAt.RcNeAt.lists (A := X.A) (e := fun _ => true) p1.isList p2.isList rfl hu (fun j h1 _ => absurd h1 (Nat.not_lt_zero j))
    exact z _ _ _ _ ⟨.bl false, H, I, rfl, q⟩
  | cons _ _ =>
    have z := SeqAt.RcNeAt.lists_lengths (A := X.A) p1.isList p2.isList (by simp) hu
    exact z _ _ _ _ ⟨.bl true, H, I, rfl, q⟩
theorem op_eqL (hu : X.A.units < cLine) : OpR X (compareOp .Eq) (rEqL X.K) := by
  intro pins s σ H x y v u Q I rx ry h
  obtain ⟨a, b, xs, rfl, rfl, h1, h2, q⟩ := h
  cases rx
  cases ry
  obtain ⟨i1, r1, p1, _⟩ := I.list h1
  obtain ⟨i2, r2, p2, _⟩ := I.list h2
  cases r2
  cases r1 with
  | nil =>
    exact SeqAt.eq_listAt (e := fun _ => true) p1.isList p2.isList rfl hu (fun j h1 _ => absurd h1 (Nat.not_lt_zero j)) ⟨.bl true, H, I, rfl, q⟩
  | cons _ _ =>
    exact SeqAt.eq_list_lengthsAt p1.isList p2.isList (by simp) hu ⟨.bl false, H, I, rfl, q⟩
end
/-! ### tests over kinds -/
theorem ite_kq {o p : Option Tk} {A B : Prop} (h1 : o = p → A) (h2 : o ≠ p → B) : if decide (V.str (kTxt o) = V.str (kTxt p)) = true then A else B := by
  by_cases e : o = p
  · rw [if_pos (decide_eq_true (by rw [e]))]; exact h1 e
  · rw [if_neg]
    · exact h2 e
    · intro h
      have := of_decide_eq_true h
      injection this with h'
      exact e (kTxt_inj h')
theorem ite_kn {o p : Option Tk} {A B : Prop} (h1 : o ≠ p → A) (h2 : o = p → B) : if (!decide (V.str (kTxt o) = V.str (kTxt p))) = true then A else B := by
  by_cases e : o = p
  · rw [decide_eq_true (by rw [e])]; exact iteF (h2 e)
  · have : decide (V.str (kTxt o) = V.str (kTxt p)) = false := by
      refine decide_eq_false fun h => ?_
      injection h with h'
      exact e (kTxt_inj h')
    rw [this]; exact iteT (h1 e)
theorem inV_k (o : Option Tk) (ps : List (Option Tk)) : inV (.str (kTxt o)) (ps.map fun p => V.str (kTxt p)) = decide (o ∈ ps) := by
  induction ps with
  | nil => rfl
  | cons p ps ih =>
    show (eqV (.str (kTxt p)) (.str (kTxt o)) || inV (.str (kTxt o)) (ps.map fun p => V.str (kTxt p))) = _
    rw [ih]
    show ((kTxt p == kTxt o) || decide (o ∈ ps)) = _
    by_cases e : o = p
    · subst e; simp
    · have : (kTxt p == kTxt o) = false := by simpa using fun h => e (kTxt_inj h).symm
      rw [this]; simp [e]
theorem ite_in {o : Option Tk} {xs : List V} (ps : List (Option Tk)) (hx : xs = ps.map fun p => V.str (kTxt p)) {A B : Prop} (h1 : o ∈ ps → A) (h2 : o ∉ ps → B) : if inV (.str (kTxt o)) xs = true then A else B := by
  subst hx
  rw [inV_k]
  by_cases e : o ∈ ps
  · rw [if_pos (decide_eq_true e)]; exact h1 e
  · rw [if_neg (by simpa using e)]; exact h2 e
theorem flat_k (ps : List (Option Tk)) : (ps.map fun p => V.str (kTxt p)).all flatV = true := by
  induction ps with
  | nil => rfl
  | cons p ps ih => show (true && _) = true; rw [ih]; rfl
/-! ### heaps -/
def But (S : List Addr) (H H' : Hp) : Prop := ∀ a o, a ∉ S → H a = some o → H' a = some o
theorem But.refl {S : List Addr} {H : Hp} : But S H H := fun _ _ _ h => h
theorem But.trans {S : List Addr} {H H1 H2 : Hp} (a : But S H H1) (b : But S H1 H2) : But S H H2 := fun x o h e => b x o h (a x o h e)
theorem But.mono {S S' : List Addr} {H H' : Hp} (a : But S H H') (h : ∀ x ∈ S, x ∈ S') : But S' H H' := fun x o n e => a x o (fun z => n (h x z)) e
theorem But.new {S : List Addr} {H : Hp} {p : Addr} {o : HO} (h : H p = none) : But S H (upd H p o) := fun a u _ e => by rw [upd_ne (ne_of_none e h)]; exact e
theorem But.put {S : List Addr} {H : Hp} {p : Addr} {o : HO} (h : p ∈ S) : But S H (upd H p o) := fun a u n e => by
  rw [upd_ne (fun z => n (by rw [z]; exact h))]; exact e
/-- a place that H does not know may change -/
theorem But.free {S : List Addr} {H H' : Hp} {p : Addr} {o : HO} (a : But S H H') (h : H p = none) : But S H (upd H' p o) := fun x u n e => by
  rw [upd_ne (ne_of_none e h)]; exact a x u n e
theorem But.fresh {S : List Addr} {H H' : Hp} {p : Addr} (a : But S H H') (n : p ∉ S) (h : H' p = none) : H p = none := by
  cases q : H p with
  | none => rfl
  | some o => rw [a p o n q] at h; cases h
theorem But.drop {S : List Addr} {H H' : Hp} {q : Addr} (a : But (q :: S) H H') (h : H q = none) : But S H H' := fun x o n e => a x o (fun z => by
  rcases List.mem_cons.mp z with z | z
  · rw [z, h] at e; cases e
  · exact n z) e
/-- tuples stand -/
def Tups (H H' : Hp) : Prop := ∀ a xs, H a = some (.tup xs) → H' a = some (.tup xs)
theorem Tups.refl {H : Hp} : Tups H H := fun _ _ h => h
theorem Tups.trans {H H1 H2 : Hp} (a : Tups H H1) (b : Tups H1 H2) : Tups H H2 := fun x o e => b x o (a x o e)
theorem Tups.new {H : Hp} {p : Addr} {o : HO} (h : H p = none) : Tups H (upd H p o) := fun a u e => by rw [upd_ne (ne_of_none e h)]; exact e
theorem Tups.put {H : Hp} {p : Addr} {o u : HO} (h : H p = some u) (hu : ∀ xs, u ≠ .tup xs) : Tups H (upd H p o) := fun a xs e => by
  rw [upd_ne (fun z => by rw [z, h] at e; exact hu xs (Option.some.inj e))]; exact e
theorem Tups.lst {H : Hp} {p : Addr} {o : HO} {ys : List V} (h : H p = some (.lst ys)) : Tups H (upd H p o) := Tups.put h fun xs z => by cases z
theorem Tups.ins {H : Hp} {p : Addr} {o : HO} {C d : Addr} {fs : List (Str × V)} (h : H p = some (.ins C d fs)) : Tups H (upd H p o) := Tups.put h fun xs z => by cases z
theorem But.tups {S : List Addr} {H H' : Hp} (a : But S H H') (h : ∀ p ∈ S, ∀ xs, H p ≠ some (.tup xs)) : Tups H H' := fun x xs e => a x _ (fun z => h x z xs e) e
theorem small_sz {n : Nat} (h : n ≤ 100000) : n ≤ sizeLine := Nat.le_trans h (by decide)
theorem small_lt {n : Nat} (h : n ≤ 100000) : n < sizeLine := Nat.lt_of_le_of_lt h (by decide)
end Sh
set_option Elab.async false
set_option linter.all false
set_option maxRecDepth 100000
set_option maxHeartbeats 4000000
/-! More evaluations. -/
namespace Sh
open PySem PySem.Spec PyProof.Rows L2 Evl
section
variable {K : PySem.W.Frag} {σ : L2.St} {H H' : Hp} {ta tb tc te tx : TE} {t u : TT} {x y z v : V} {r r' : R2}
theorem ev_chain {k k' : Bool} (ha : Ev ta σ H x) (hb : Ev tb σ H y) (hr : RV r x y H (.bl k)) (hc : k = true → Ev tc σ H z) (hr' : k = true → RV r' y z H (.bl k')) : Ev (tChain r r' ta tb tc) σ H (.bl (k && k')) := fun H1 e Q q =>
  ha H1 e _ fun H2 e2 => hb H2 (e.trans e2) _ fun H3 e3 => hr H3 ((e.trans e2).trans e3) _ fun H4 e4 => ⟨k, rfl, by
    cases k with
    | true =>
      show tc σ H4 _
      exact hc rfl H4 (((e.trans e2).trans e3).trans e4) _ fun H5 e5 => hr' rfl H5 ((((e.trans e2).trans e3).trans e4).trans e5) Q fun H6 e6 => q H6 (((e2.trans e3).trans e4).trans (e5.trans e6))
    | false =>
      show Q (.bl false) H4
      exact q H4 ((e2.trans e3).trans e4)⟩
theorem rc_of {r : List V → Hp → VK → Prop} {vs : List V} (h : ∀ H1, Ex H H1 → ∀ Q : VK, Q z H1 → r vs H1 Q) : RC r vs H z := fun H1 e Q q => h H1 e Q (q H1 (Ex.refl H1))
/-- len of anything -/
def rLenA (K : PySem.W.Frag) : List V → Hp → VK → Prop := fun xs H Q => ∃ x n, xs = [x] ∧ LenV K x H n ∧ Q (.int n) H
theorem rc_lenS {z : Str} (h : z.length ≤ 100000) : RC (rLenA K) [.str z] H (.int (z.length : Int)) := rc_of fun H1 _ Q q => ⟨_, _, rfl, ⟨sz_of h, rfl⟩, q⟩
theorem rc_lenL {a : Addr} {xs : List V} (h : SqL K H a xs) : RC (rLenA K) [.ref a] H (.int (xs.length : Int)) := rc_of fun H1 e Q q => ⟨_, _, rfl, .inl ⟨_, ex_l e h, rfl⟩, q⟩
theorem rc_lenT {a : Addr} {xs : List V} (h : SqT K H a xs) : RC (rLenA K) [.ref a] H (.int (xs.length : Int)) := rc_of fun H1 e Q q => ⟨_, _, rfl, .inr ⟨_, ex_t e h, rfl⟩, q⟩
theorem ev_len1 {n : Nat} (ha : Ev ta σ H x) (hr : RC (rLenA K) [x] H (.int n)) : Ev (tCB (rLenA K) (tCons ta tNil)) σ H (.int (n : Int)) := ev_cb (ea_cons ha ea_nil) hr
theorem rv_inS {c : Nat} {z : Str} : RV rInS (.str ⟨#[c]⟩) (.str z) H (.bl (decide (c ∈ z.cps.toList))) := fun H1 _ _ q => ⟨c, z, rfl, rfl, q H1 (Ex.refl H1)⟩
theorem rv_notInS {c : Nat} {z : Str} : RV rNotInS (.str ⟨#[c]⟩) (.str z) H (.bl (!decide (c ∈ z.cps.toList))) := fun H1 _ _ q => ⟨c, z, rfl, rfl, q H1 (Ex.refl H1)⟩
/-- a list made of a text's signs -/
theorem el_lcS {zt : Str} {tl : TE} {j : Nat} {vs : List Nat} (f : Nat → V) (h : Ev tl σ H (.str zt)) (hz : zt.length ≤ 40000) (hw : ∀ x, wipe ((wipe σ vs).set j (some x)) vs = wipe σ vs)
    (he : ∀ (c : Nat) H1, Ex H H1 → Ev te ((wipe σ vs).set j (some (.str ⟨#[c]⟩))) H1 (f c)) : EvL (tLc (iStr tl) (gName j) tYes te vs) σ H (zt.cps.toList.map f) := fun H0 e Q q => h H0 e _ fun H1 e1 => ⟨zt, rfl, fun Dl hD => by
  have hsz : zt.cps.toList.length = zt.cps.size := Array.length_toList
  have hz' : zt.cps.size ≤ 40000 := hz
  refine ⟨fun i m H' => m = zt.cps.size - i ∧ i ≤ zt.cps.size ∧ Ex H1 H' ∧ H' Dl = some (.lst ((zt.cps.toList.take i).map f)), ⟨_, rfl, Nat.zero_le _, Ex.new hD, upd_same⟩, ?_⟩
  rintro i m H' ⟨rfl, hi, p1, p2⟩
  by_cases hlt : i < zt.cps.size
  · refine .inr ⟨hlt, fun H'' => (i + 1) ≤ zt.cps.size ∧ Ex H1 H'' ∧ H'' Dl = some (.lst ((zt.cps.toList.take (i + 1)).map f)), fun H'' p => ⟨zt.cps.size - (i + 1), by omega, rfl, p⟩, fun x H'' y => ?_⟩
    obtain ⟨rfl, c, hc, rfl⟩ := y
    have hc' : zt.cps.toList[i]? = some c := by rw [Array.getElem?_toList]; exact hc
    refine ⟨hw _, ?_⟩
    simp only [tYes, if_true, ↓reduceIte]
    refine he c H1 (e.trans e1) _ p1 _ fun H4 e4 => ⟨_, e4 Dl _ p2, ?_, hlt, Ex.mut (p1.trans e4) hD, ?_⟩
    · rw [List.length_map, List.length_take]; exact sz_lt (by omega)
    · rw [upd_same, take_more hc', List.map_append]; rfl
  · refine .inl ⟨Nat.le_of_not_lt hlt, q Dl H' (fresh_back e1 hD) (e1.trans p1) ?_⟩
    rw [p2, List.take_of_length_le (by omega)]⟩
where
  take_more {α : Type} : ∀ {l : List α} {i : Nat} {x : α}, l[i]? = some x → l.take (i + 1) = l.take i ++ [x]
  | [], i, x, h => by simp at h
  | a :: l, 0, x, h => by
    have e : a = x := Option.some.inj h
    subst e; rfl
  | a :: l, i + 1, x, h => by
    show a :: l.take (i + 1) = a :: l.take i ++ [x]
    rw [take_more (l := l) (i := i) (x := x) h]; rfl
/-- all of a list made on the way -/
theorem ev_all {bs : List Bool} (h : EvL ta σ H (bs.map V.bl)) : Ev (tCB (rAll K) (tCons ta tNil)) σ H (.bl (bs.all id)) := fun H1 e Q q =>
  h H1 e _ fun p H2 _ e2 hp => ⟨p, bs, rfl, sq_of hp, q H2 e2⟩
theorem ex_but {H H' : Hp} : Ex H H' ↔ But [] H H' := ⟨fun h a o _ e => h a o e, fun h a o e => h a o (by simp) e⟩
end
end Sh
set_option Elab.async false
set_option linter.all false
set_option maxRecDepth 100000
set_option maxHeartbeats 4000000
/-! Own rules: x, *rest = a tuple; the written table; a number's text. -/
namespace Sh
open PySem PySem.Spec PyProof.Rows L2 Evl
/-- name, *rest = a tuple: rest is a new list -/
def gStar (K : PySem.W.Frag) (g1 g2 : TG) : TG := fun v σ H Q => ∃ a x xs, v = .ref a ∧ SqT K H a (x :: xs) ∧ xs.length ≤ 100000 ∧ ∀ p, H p = none → g1 x σ (upd H p (.lst xs)) fun σ1 H1 => g2 (.ref p) σ1 H1 Q
theorem pg_star {X : Cx} {t1 t2 : Expr} {k : Nat} {pos p2 : Pos} {g1 g2 : TG} (hc : X.calm = true) (h1 : PG X t1 g1) (h2 : PG X t2 g2)
    (hl : (assignEach [t1, .Starred t2 p2] X.env).length = 2 := by rfl) (hst : (assignEach [t1, .Starred t2 p2] X.env).findIdx? (·.1) = some 1 := by rfl)
    (hm : (assignEach [t1, .Starred t2 p2] X.env).map (·.2) = [assign t1 X.env, assign t2 X.env] := by rfl) : PG X (.Tuple [t1, .Starred t2 p2] k pos) (gStar X.K g1 g2) := by
  refine ⟨fun pins s σ H v u Q I r hw => ?_⟩
  obtain ⟨a, x, xs, e1, hq, hlen, hw⟩ := hw
  subst e1
  cases r
  obtain ⟨its, rv, ht, hz⟩ := I.tuple hq
  have ht : IsTup s.heap a its.toArray := ht
  cases rv with
  | @cons _ w _ ws r1 rs =>
  have hh : X.A.handled = none := I.ok.hd hc
  have hwl : ws.length = xs.length := rs.length.symm
  rw [assign_Tuple]
  refine wpAny_bind (wpAny_standAt ?_)
  unfold unpack
  rw [hl, hst]
  refine wpAny_bind (wpAny_holding ?_)
  have hlt : a ≠ s.heap.objs.size := by obtain ⟨o, ho, _⟩ := ht; exact Nat.ne_of_lt (Heap.lt_size ho)
  have hsz : (w :: ws).toArray.size = xs.length + 1 := by simp [hwl]
  unfold unpackItems
  refine wpAny_bind ?_
  unfold notIterableAtAll
  refine wpAny_bind (wpAny_specialOf ht.typeIs slot_tuple_iter.lookup ?_)
  refine wpAny_pure ?_
  simp only [Bool.false_eq_true, if_false]
  refine wpAny_bind (wpAny_holding (iter_tuple ht ?_))
  refine wpAny_bind (wpAny_holding (draw_tuple hlt 1 0 _ _ ⟨_, Heap.get?_push_size _ rfl, rfl, rfl⟩ (ht.push _) (by omega) fun h₁ hit₁ hs₁ => ?_))
  have hl₁ : IsTup h₁ a (w :: ws).toArray := (ht.push _).extBut hs₁.extBut hlt
  rw [Nat.zero_add] at hit₁
  have hit₁' := hit₁
  obtain ⟨oi, hoi, _⟩ := hit₁'
  have hl₁' := hl₁
  obtain ⟨ol, hol, _⟩ := hl₁'
  rw [List.drop_zero]
  rw [if_neg (show ¬ (((w :: ws).toArray.toList.take 1).length < 1) by simp)]
  refine wpAny_bind (wpAny_holding (PySem.W.kun_collect (s := { s with heap := h₁ }) (T := "tuple_iterator") (.inr (.inr (.inr rfl))) (Walks.tuple (A := X.A.in1) hh s.heap.objs.size a hlt (w :: ws).toArray) (fun j u st => st.1.typeIs) (k := 1) (by omega) ⟨hit₁, hl₁⟩ (Heap.lt_size hoi) (Heap.lt_size hol) (fun h₂ tk hk => ?_) (by rw [hsz, sizeLine_eq]; omega)))
  have hd : (w :: ws).toArray.toList.drop 1 = ws := by simp
  rw [hd]
  show wpAny _ _ (if ws.length < 2 - 1 - 1 then _ else _) _ _ _
  rw [if_neg (by omega)]
  show wpAny _ _ (newList (ws.take (ws.length - (2 - 1 - 1))) >>= fun d => pure ((w :: ws).toArray.toList.take 1 ++ [d] ++ ws.drop (ws.length - (2 - 1 - 1)))) _ _ _
  have e3 : ws.take (ws.length - (2 - 1 - 1)) = ws := List.take_of_length_le (by omega)
  have e4 : ws.drop (ws.length - (2 - 1 - 1)) = [] := List.drop_eq_nil_of_le (by omega)
  rw [e3, e4]
  have he : ∀ b o, s.heap.get? b = some o → h₂.get? b = some o := fun b o e => by
    have hb : b ≠ s.heap.objs.size := Nat.ne_of_lt (Heap.lt_size e)
    exact hk b o hb (hs₁.extBut b o hb (Heap.get?_push_of_some _ e))
  have I2 : Inv X pins σ H { s with heap := h₂, toks := tk } := I.kept (h' := h₂) (t' := tk) he
  refine wpAny_bind (wpAny_newList (s := { s with heap := h₂, toks := tk }) ?_ (by rw [hwl, sizeLine_eq]; omega))
  refine wpAny_pure ?_
  have hf : H h₂.objs.size = none := I2.hok.fresh (Nat.le_refl _)
  have hlay : Inv X pins σ (upd H h₂.objs.size (.lst xs)) { s with heap := h₂.push { cls := .type "list", data := .seq ws.toArray }, toks := tk } :=
    I2.laid (t' := tk) (fun b u e => Heap.get?_push_of_some _ e) (Nat.le_refl _) ⟨by rw [sizeLine_eq]; omega, ws, 0, rs, Heap.get?_push_size _ rfl⟩
  show wpAny _ _ (assignInOrder _ [w, .ref h₂.objs.size]) _ _ _
  rw [hm]
  refine PyProof.Rows.assignInOrder_cons (thn (h1.run pins _ σ _ x w _ hlay r1 (hw _ hf)) fun _ s3 ⟨σ1, H1, I3, q1⟩ => ?_)
  refine PyProof.Rows.assignInOrder_cons (thn (h2.run pins s3 σ1 H1 (.ref h₂.objs.size) (.ref h₂.objs.size) _ I3 rfl q1) fun _ s4 ⟨σ2, H2, I4, q2⟩ => ?_)
  exact PyProof.Rows.assignInOrder_nil ⟨σ2, H2, I4, q2⟩
/-! ### a written dict -/
theorem find_none {P : Params} {z : Str} : ∀ {l : List DictEntry} {ks : List Str}, l.map He.keyOf = He.keysIn P ks → z ∉ ks → l.find? (·.key.isStr z) = none ∧ l.any (·.refKey) = false
  | [], _, _, _ => ⟨rfl, rfl⟩
  | e :: r, [], h, _ => by cases h
  | e :: r, k :: ks, h, hz => by
    have h1 : He.keyOf e :: r.map He.keyOf = some (k, PyData.keyHash P k) :: He.keysIn P ks := h
    injection h1 with h2 h3
    obtain ⟨i1, i2⟩ := find_none h3 (fun q => hz (List.mem_cons_of_mem _ q))
    have hk : ∃ t, e.key = .str k t := by
      unfold He.keyOf at h2
      split at h2
      · rename_i x t q
        have h4 := Option.some.inj h2
        exact ⟨t, by rw [q, (Prod.mk.inj h4).1]⟩
      · cases h2
    obtain ⟨t, hk⟩ := hk
    have hne : (k == z) = false := by
      rw [beq_eq_false_iff_ne]
      rintro rfl
      exact hz (List.mem_cons_self ..)
    constructor
    · rw [List.find?_cons]
      have : e.key.isStr z = false := by rw [hk]; exact hne
      rw [this]; exact i1
    · rw [List.any_cons, i2]
      have : e.refKey = false := by unfold DictEntry.refKey; rw [hk]
      rw [this]; rfl
theorem dic_none {K : PySem.W.Frag} {P : Params} {a : Addr} {ks : List Str} {z : Str} (h : He.dicW K a = some (He.keysIn P ks)) (hz : z ∉ ks) : PySem.W.nsIn K a z = some none := by
  obtain ⟨es, n, hl, he⟩ : ∃ es n, K.lookup a = some ⟨.type "dict", none, .dict es n, #[]⟩ ∧ es.toList.map He.keyOf = He.keysIn P ks := by
    unfold He.dicW at h
    split at h
    · rename_i c es n sl q
      cases z : decide (c = "dict") && (sl.isEmpty && !(a == sysModules)) with
      | false => rw [z] at h; cases h
      | true =>
        rw [z] at h
        rw [Bool.and_eq_true, Bool.and_eq_true] at z
        have e1 : c = "dict" := of_decide_eq_true z.1
        have e2 : sl = #[] := Array.isEmpty_iff.mp z.2.1
        subst e1 e2
        exact ⟨es, n, q, Option.some.inj h⟩
    · cases h
  obtain ⟨h1, h2⟩ := find_none he hz
  unfold PySem.W.nsIn
  rw [hl]
  simp only [h1, h2]
  rfl
/-- the table of signs -/
structure StrT (K : PySem.W.Frag) (w : World) (d : Addr) (es : Array DictEntry) (n : Nat) : Prop where
  D : KDict K w d es n
  yes : ∀ o : Tk, 0 < str o → ∃ t, PySem.W.nsIn K d (kTxt (some o)) = some (some (.int (str o : Nat) t))
  no : ∀ o : Option Tk, (∀ t, o = some t → str t = 0) → PySem.W.nsIn K d (kTxt o) = some none
theorem Txt.strT {K : PySem.W.Frag} {mg : Str → Option Value} {w : World} (T : Txt K mg w) : ∃ es n, StrT K w (He.ga K "STRENGTHS") es n := by
  obtain ⟨es, n, D⟩ := T.tab
  refine ⟨es, n, D, fun o h => ?_, fun o h => ?_⟩
  · have g : ∀ {x : Str} {i : Int}, (x, He.Dv.int i) ∈ [(("*" : Str), He.Dv.int 3), ("+", .int 2), ("-", .int 2), ("<", .int 1), ("=", .int 1)] → ∃ t, PySem.W.nsIn K (He.ga K "STRENGTHS") x = some (some (.int i t)) := fun hm => by
      obtain ⟨u, h1, h2⟩ := He.valsB_ok T.vals hm
      obtain ⟨t, rfl⟩ := h2
      exact ⟨t, h1⟩
    cases o <;> first | exact absurd h (by decide) | exact g (.head _) | exact g (.tail _ (.head _)) | exact g (.tail _ (.tail _ (.head _))) | exact g (.tail _ (.tail _ (.tail _ (.head _)))) | exact g (.tail _ (.tail _ (.tail _ (.tail _ (.head _)))))
  · have e : He.dicW K (He.ga K "STRENGTHS") = some (He.keysIn w.params ["*", "+", "-", "<", "="]) := by
      have e : ts.map (fun t => He.dicW K (t.1 K)) = ts.map fun t => some (He.keysIn w.params t.2) := congrArg (fun z : He.AlT => z.2) T.t
      exact (List.cons.inj e).1
    refine dic_none e ?_
    cases o with
    | none => decide +kernel
    | some t =>
      have := h t rfl
      cases t <;> first | exact absurd this (by decide) | decide +kernel
section
variable {X : Cx} {d : Addr} {es : Array DictEntry} {n : Nat} {o e f : Expr} {apos cpos : Pos} {td ty tx : TE}
def tKGet (K : PySem.W.Frag) (d : Addr) (td ty tx : TE) : TE := fun σ H Q => td σ H fun x H1 => x = .ref d ∧ ty σ H1 fun y H2 => tx σ H2 fun z H3 => ∃ (k : Str) (r : Option Value) (v : V), y = .str k ∧ PySem.W.nsIn K d k = some r ∧ (match r with | some u => RelV v u | none => v = z) ∧ Q v H3
theorem pe_kget (D : KDict X.K X.w d es n) (ho : PE X o td) (he : PE X e ty) (hf : PE X f tx) (m : M2 X o "get" apos e f cpos) : PE X (.Call (.Attribute o "get" apos) [e, f] [] cpos) (tKGet X.K d td ty tx) := by
  refine ⟨fun pins s σ H Q I h => ?_⟩
  refine wpAny_Call_method m.base m.few m.line PySem.F.plainAttrs_dict PySem.F.slot_dict_get PySem.F.type_dict_get (thn (ho.run pins s σ H _ I h) fun u s1 ⟨x, H1, I1, rx, ex, q1⟩ => ?_)
  subst ex
  obtain rfl : u = Value.ref d := rx
  refine ⟨kd_type D I1, fun b q => ?_, ?_⟩
  · cases q
    exact ⟨_, I1.kIn _ _ D.at_, rfl⟩
  rw [m.trees]
  refine Calls.callWith_builtin rfl (Calls.evalArgs_plain (Calls.spliced_cons (thn (he.run pins s1 σ H1 _ I1 q1) fun iv s2 ⟨y, H2, I2, ry, q2⟩ =>
    Calls.spliced_cons (thn (hf.run pins s2 σ H2 _ I2 q2) fun fv s3 ⟨z, H3, I3, rz, k, r, v, ey, hk, hr, q3⟩ => Calls.spliced_nil ?_))))
  subst ey
  obtain ⟨t, rfl⟩ := (show ∃ t, iv = Value.str k t from ry)
  refine call_meetsIn PySem.F.slot_dict_get (kd_type D I3) PySem.F.entry_dict_get (PySem.F.args_dict_get_3 _ _ _) (meets_dict_get_default (strKind X.prog X.w) d (strKind_is X.prog X.w k t) D.low fv) ⟨_, PySem.W.mapOf_K (prog := X.prog) I3.kIn D.at_ D.lit, ?_⟩
  rw [PySem.W.find_K D.at_ hk]
  refine ⟨v, H3, I3.tok _, ?_, q3⟩
  cases r with
  | some u => exact hr
  | none =>
    have hr : v = z := hr
    subst hr
    exact rz
end
/-! ### a number's text -/
theorem num_int {z : Str} (h : kd z = .num) : ∃ n : Int, PySem.intText? z = some n ∧ z.length ≤ 640 := by
  by_cases hs : z ∈ spec
  · have e := kd_spec hs
    rw [h] at e
    rw [← e] at hs
    exact absurd hs (by decide +kernel)
  · rw [kd_not hs] at h
    split at h
    · cases h
    · split at h
      · cases h
      · split at h
        · rename_i hn
          simp only [isNumS, Bool.and_eq_true, decide_eq_true_eq] at hn
          obtain ⟨⟨⟨h1, h2⟩, h3⟩, _⟩ := hn
          have e : z = SX.S z.cps.toList := rfl
          have hl : z.cps.toList.length = z.length := Array.length_toList
          have hq := SX.int_S (a := z.cps.toList) h3 (fun q => by rw [q] at hl; simp at hl; omega) (by omega)
          exact ⟨_, hq, by omega⟩
        · cases h
end Sh
set_option Elab.async false
set_option linter.all false
set_option maxRecDepth 100000
set_option maxHeartbeats 4000000
/-! Own rule: try: .. except A as n: .. except B: .. (nothing else is raised). -/
namespace Sh
open PySem PySem.Spec PyProof.Rows L2
/-- the exception's place is none of the frames' own -/
theorem exc_apart {X : Cx} {bd : _} {hp : Heap} {ex : Addr} {ob : Obj} {fl : Array Value} (frame : X.env.frame = some X.env.locals) (FF : hp.FunFrames bd (X.env :: X.outer)) (at_ : hp.get? ex = some ob) (da : ob.data = .fields fl) : ex ≠ X.env.locals ∧ ex ∉ X.fs := by
  have out : ex ∉ frs (X.env :: X.outer) := by
    intro inn
    obtain ⟨_, ob2, at2, not2⟩ := FF.mem inn
    obtain rfl : ob = ob2 := Option.some.inj (at_.symm.trans at2)
    exact not2 _ da
  constructor
  · intro same
    exact out (List.mem_filterMap.mpr ⟨X.env, List.mem_cons_self, by rw [frame, same]⟩)
  · intro inn
    obtain ⟨en, hen, hq⟩ := List.mem_filterMap.mp inn
    exact out (List.mem_filterMap.mpr ⟨en, List.mem_cons_of_mem _ hen, hq⟩)
/-- a clause's class is read -/
theorem clause_name {X : Cx} {z : Str} {cl : Value} {pz : Pos} {ex : Addr} {ob : Obj} {pins : List (Addr × Obj)} {σ : L2.St} {H : Hp} {st : Shared} {Q E : Value → Shared → Prop} (Sx : Inv (X.suite ex ((ex, ob) :: (X.pn ++ pins))) [] σ H st) (nm : Names X z cl) (q : Q cl st) :
    wpAny (model X.prog X.w) (X.A.mark (some (.ref ex))) (eval (.Name z pz) X.env) Q E st := by
  rcases nm with ⟨g1, g2, g3 | ⟨g3, g4, g5⟩⟩
  · exact ld_glob (X := X.suite ex ((ex, ob) :: (X.pn ++ pins))) Sx g1 g3 q g2
  · exact ld_blt (X := X.suite ex ((ex, ob) :: (X.pn ++ pins))) Sx g1 g3 g4 q g5 g2
def wTwo (K : PySem.W.Frag) (c1 c2 : Value) (i : Nat) (ts us : Addr → Value → Option Addr → TS) (D : Ends) : WX := fun cls d σ H =>
  (PySem.W.exmOne K cls c1 = some true ∧ ∀ a, H a = none → ts a cls d { nx := fun σ' H' => D.nx (σ'.set i none) H', rt := D.rt, bk := fun σ' H' => D.bk (σ'.set i none) H', ct := fun σ' H' => D.ct (σ'.set i none) H' } (σ.set i (some (.ref a))) H) ∨
  (PySem.W.exmOne K cls c1 = some false ∧ PySem.W.exmOne K cls c2 = some true ∧ ∀ a, H a = none → us a cls d D σ H)
section
variable {X : Cx} {x y n : Str} {c1 c2 : Value} {i : Nat} {body suite suite2 : List Stmt} {b₀ b₁ : Stmt} {np np2 pos pos1 pos2 : Pos} {tb : WX → TS} {ts us : Addr → Value → Option Addr → TS}
theorem ps_try_two (hs : X.stack = X.env :: X.outer) (hf : X.env.frame = some X.env.locals) (hN : X.N.Nodup) (hi : X.N[i]? = some n) (hln : X.env.kindOf n = some .local) (hc1 : Names X x c1) (hc2 : Names X y c2)
    (hbody : ∀ (W : WX) (pn : List (Addr × Obj)) (xe : Value → Shared → Prop), Takes (X.tr pn xe) W → PassesOwn (model X.prog X.w) X.A X.env xe → PSs (X.tr pn xe) body (tb W))
    (hs1 : ∀ (a : Addr) (oe : Obj) (cls : Value) (d : Option Addr) (pn : List (Addr × Obj)), Zc cls d oe → (∃ vs, oe.data = .fields vs) → PSs (X.suite a ((a, oe) :: pn)) (b₀ :: suite) (ts a cls d))
    (hs2 : ∀ (a : Addr) (oe : Obj) (cls : Value) (d : Option Addr) (pn : List (Addr × Obj)), Zc cls d oe → (∃ vs, oe.data = .fields vs) → PSs (X.suite a ((a, oe) :: pn)) (b₁ :: suite2) (us a cls d)) :
    PS X (.Try body [.ExceptHandler (some (.Name x np)) (some n) (b₀ :: suite) pos1, .ExceptHandler (some (.Name y np2)) none (b₁ :: suite2) pos2] [] [] pos) (fun D σ H => tb (wTwo X.K c1 c2 i ts us D) D σ H) where
  run := fun pins s σ H D Iv wish => wpAny_Try_except (by
    have good := Iv.ok
    have frames : X.A.frames = some (X.env :: X.outer) := good.frames.trans (congrArg some hs)
    refine wpAny_mono ((hbody (wTwo X.K c1 c2 i ts us D) (X.pn ++ pins) _ (fun u sx caught => ?_) PassesOwn.looking).run [] s σ H D (Iv.toTry _) wish) (fun fl s1 ended => ?_) (fun _ _ z => z)
    · obtain ⟨ex, bd, s0, pins0, σx, Hx, cls, dct, rfl, I0, nb, up, sky, new, os, ag, told⟩ := caught
      have I0 := I0.ofTry good
      rw [hs] at sky
      refine Sky.land Zc.steady frames hf sky fun hp la upA => ?_
      have upB := up.trans upA
      have I1 : Inv X pins σx Hx { sx with heap := hp } := I0.landed nb la.1 upB os ag
      obtain ⟨ob, fl, at_, zc, da⟩ := la.there
      obtain ⟨apartL, apartF⟩ := exc_apart hf la.2.2.1 at_ da
      have I2 := I1.suite at_ da new apartL apartF
      have looks : PySem.W.Looks (model X.prog X.w) hp (typeOf (.ref ex)) cls := by
        intro A Q E s2 keep q
        exact wpAny_typeOf_ref (keep _ _ at_) (by rw [zc.1]; exact q)
      -- the clause's suite, at the heap it lands on
      rcases told with ⟨is1, go1⟩ | ⟨no1, is2, go2⟩
      · apply wpAny_handleBy_cons (codeAny_handlers_test _) (by intro q; cases q)
        refine clause_name I2 hc1 ((PySem.W.exm_one (M := model X.prog X.w) I1.kIn looks is1).here (codeAny_handlers_suite_as ?_))
        apply HandSPX.lands_againZ la
        intro hp2 la2 upC
        have I3 : Inv X pins σx Hx { sx with heap := hp2 } := I0.landed nb la2.1 (upB.trans upC) os ag
        obtain ⟨ob2, fl2, at2, zc2, da2⟩ := la2.there
        have I4 := I3.suite at2 da2 new apartL apartF
        refine store_ok (X := X.suite ex ((ex, ob2) :: (X.pn ++ pins))) (v := .ref ex) I4 hN hi (.inl hln) rfl (fun s5 I5 => ?_) (.inr hln)
        refine wpAny_mono ((hs1 ex ob2 cls dct (X.pn ++ pins) zc2 ⟨fl2, da2⟩).run [] s5 _ Hx _ I5 (go1 ex new)) (fun fl s6 e6 => ?_) (fun _ _ z => z.elim)
        have gone : ∀ {σ6 : L2.St} {H6 : Hp} {Q : Shared → Prop}, Inv (X.suite ex ((ex, ob2) :: (X.pn ++ pins))) [] σ6 H6 s6 → (∀ s7, Inv X pins (σ6.set i none) H6 s7 → Q s7) →
            wpAny (model X.prog X.w) X.A (do bindName X.env n .none; unbindBehindTheSuite X.env n pos1) (fun _ s7 => Q s7) X.xe s6 := fun I6 k => gone_ok (I6.unsuite good) hN hi hln k
        match fl, e6 with
        | .next, ⟨_, _, I6, q6⟩ => exact gone I6 fun _ I7 => ⟨_, _, I7, q6⟩
        | .brk, ⟨_, _, I6, q6⟩ => exact gone I6 fun _ I7 => ⟨_, _, I7, q6⟩
        | .cont, ⟨_, _, I6, q6⟩ => exact gone I6 fun _ I7 => ⟨_, _, I7, q6⟩
        | .ret _, ⟨_, _, _, I6, r6, q6⟩ => exact gone I6 fun _ I7 => ⟨_, _, _, I7, r6, q6⟩
      · apply wpAny_handleBy_cons (codeAny_handlers_test _) (by intro q; cases q)
        refine clause_name I2 hc1 ((PySem.W.exm_one (M := model X.prog X.w) I1.kIn looks no1).here ?_)
        show wpAny _ X.A (handleBy (.ref ex) X.env [.ExceptHandler (some (.Name y np2)) none (b₁ :: suite2) pos2]) _ _ _
        apply wpAny_handleBy_cons (codeAny_handlers_test _) (by intro q; cases q)
        refine clause_name I2 hc2 ((PySem.W.exm_one (M := model X.prog X.w) I1.kIn looks is2).here (codeAny_handlers_suite ?_))
        apply HandSPX.lands_againZ la
        intro hp2 la2 upC
        have I3 : Inv X pins σx Hx { sx with heap := hp2 } := I0.landed nb la2.1 (upB.trans upC) os ag
        obtain ⟨ob2, fl2, at2, zc2, da2⟩ := la2.there
        have I4 := I3.suite at2 da2 new apartL apartF
        refine wpAny_mono ((hs2 ex ob2 cls dct (X.pn ++ pins) zc2 ⟨fl2, da2⟩).run [] _ _ Hx _ I4 (go2 ex new)) (fun fl s6 e6 => ?_) (fun _ _ z => z.elim)
        match fl, e6 with
        | .next, ⟨_, _, I6, q6⟩ => exact ⟨_, _, I6.unsuite good, q6⟩
        | .brk, ⟨_, _, I6, q6⟩ => exact ⟨_, _, I6.unsuite good, q6⟩
        | .cont, ⟨_, _, I6, q6⟩ => exact ⟨_, _, I6.unsuite good, q6⟩
        | .ret _, ⟨_, _, _, I6, r6, q6⟩ => exact ⟨_, _, _, I6.unsuite good, r6, q6⟩
    · match fl, ended with
      | .next, ⟨_, _, I1, q⟩ => exact wpAny_execs_nil ⟨_, _, I1.ofTry good, q⟩
      | .brk, ⟨_, _, I1, q⟩ => exact ⟨_, _, I1.ofTry good, q⟩
      | .cont, ⟨_, _, I1, q⟩ => exact ⟨_, _, I1.ofTry good, q⟩
      | .ret _, ⟨_, _, _, I1, r, q⟩ => exact ⟨_, _, _, I1.ofTry good, r, q⟩)
end
end Sh
set_option Elab.async false
set_option linter.all false
set_option maxRecDepth 100000
set_option maxHeartbeats 4000000
namespace Sh
open PySem PySem.Spec PyProof.Rows L2 Evl
def spS (f : Str → V) : Sp := fun vs H Q _ => ∃ z : Str, vs = [.str z] ∧ z.length ≤ 40000 ∧ ∀ H', Ex H H' → Q (f z) H'
theorem spV_S {f : Str → V} {z : Str} {H : Hp} (h : z.length ≤ 40000) : SpV (spS f) ([.str z] ++ []) H (f z) := fun H1 e Q q E => ⟨z, rfl, h, q⟩
section
variable {P : Program} {w : World} {K : PySem.W.Frag} {mg : Str → Option Value} {base : Heap}
theorem hdB_ix {f : Nat → Bool} {z : Str} (h : 1 ≤ z.length) : ∃ c, atI z.cps.toList 0 = some c ∧ hdB f z = f c ∧ ∃ r, z.cps.toList = c :: r := by
  have hl : z.cps.toList.length = z.length := Array.length_toList
  unfold hdB
  cases e : z.cps.toList with
  | nil => rw [e] at hl; simp at hl; omega
  | cons c r => exact ⟨c, atI_nat (j := 0) rfl, rfl, r, rfl⟩
theorem all_map {f : Nat → Bool} (l : List Nat) : ((l.map fun c => f c).all id) = l.all f := by rw [List.all_map]; rfl
abbrev n_is_number_text : List Str := ["text", "sign"]
theorem sc_is_number_text : FnScope n_is_number_text ["text"] (defScope s_is_number_text) := ⟨rfl, rfl, rfl, by decide +kernel, rfl, by decide +kernel, by decide +kernel⟩
theorem ok_is_number_text (T : Txt K mg w) : Cal P w K mg base CX0 1 "is_number_text" ["text"] (spS fun z => .bl (isNumS z)) := by
  refine ⟨ok0 T.f_is_number_text sc_is_number_text (fun vs H Q E h => ?_) (fun _ _ _ _ _ _ us hl => match us, hl with | [_], _ => rfl) (fun cdv A outer s H vs Q E hr h => ?_), kpOf T.f_is_number_text, T.g_is_number_text⟩
  · obtain ⟨z, rfl, _⟩ := h; rfl
  obtain ⟨z, rfl, hz, q0⟩ := h
  have q : ∀ H', Ex H H' → Q (.bl (isNumS z)) H' := q0
  refine ⟨_, (pss_cons (ps_if (PW.pt (pw_or (pt_not (pt_chain op_le op_le pe_int (pe_callB call_len rfl T.b_len PySem.boot_len (pa_cons (pv 0) pa_nil)) (pgi rfl T.i_MOST_FIGURES))) (pw_or1 (pt_not (pt_val (pe_callB (cr_all rfl) rfl T.b_all (by decide +kernel) (pa_cons (pe_lc (own := [(("sign" : Str), 1)]) (g := gName 1) rfl sc_is_number_text.nd (pi_str (pv 0)) (blkOk_by (own := [(("sign" : Str), 1)]) (N := n_is_number_text) (sc := defScope s_is_number_text) (by decide +kernel)) (fun _ _ _ _ _ => pg_name (i := 1) sc_is_number_text.nd rfl (by first | exact Or.inl rfl | exact Or.inr rfl)) (fun _ _ _ _ _ => pts_nil) (fun _ _ _ _ _ => (pe_cmpR op_in_sign (pv 1) (pgs rfl T.s_DIGITS) rfl))) pa_nil))))))) (pss_one (ps_ret pe_bl)) pss_nil)
    (pss_one (ps_ret (pe_or (pe_cmpR op_eq (pv 0) pe_str (nomark _)) (pe_one (pe_cmpR op_ne (pe_ix ix_str (pv 0) pe_int (fun _ _ => rfl)) pe_str (nomark _))))))), ?_⟩
  have hz2 : z.length ≤ 100000 := by omega
  refine q_when (b := !(decide ((1 : Int) ≤ (z.length : Int)) && decide ((z.length : Int) ≤ 6)) || !(((z.cps.toList.map fun c => decide (c ∈ zDig.cps.toList)).all id)))
    (et_or (et_not (et_test (ev_chain ev_c (ev_len1 (ev_var rfl) (rc_lenS hz2)) rv_I0 (fun _ => ev_c) fun _ => rv_I0))) fun _ => et_not (et_B (ev_all (bs := z.cps.toList.map fun c => decide (c ∈ zDig.cps.toList))
      (by rw [List.map_map]; exact el_lcS (fun c => .bl (decide (c ∈ zDig.cps.toList))) (ev_var rfl) hz (fun _ => rfl) fun c H1 e => ev_op (ev_var rfl) ev_c rv_inS)))) (fun hb H1 e1 => ?_) (fun hb H1 e1 => ?_)
  · have e : isNumS z = false := by
      rw [all_map] at hb
      unfold isNumS
      have hd : (z.cps.toList.all fun c => decide (c ∈ zDig.cps.toList)) = z.cps.toList.all isDig := congrArg _ (funext in_dig)
      rw [hd] at hb
      rcases Bool.or_eq_true_iff.mp hb with h | h
      · have : ¬ (1 ≤ z.length ∧ z.length ≤ 6) := fun c => by
          rw [decide_eq_true (by omega), decide_eq_true (by omega)] at h; cases h
        have : (decide (1 ≤ z.length) && decide (z.length ≤ 6)) = false := by
          rw [← Bool.decide_and]; exact decide_eq_false this
        rw [this]; rfl
      · rw [Bool.not_eq_true'] at h; rw [h, Bool.and_false]; rfl
    refine s_ret ev_c fun H2 e2 => ?_
    have := q H2 (e1.trans e2)
    rw [e] at this; exact this
  · rw [all_map] at hb
    have hd : (z.cps.toList.all fun c => decide (c ∈ zDig.cps.toList)) = z.cps.toList.all isDig := congrArg _ (funext in_dig)
    rw [hd] at hb
    obtain ⟨h1, h2⟩ := Bool.or_eq_false_iff.mp hb
    have h3 : 1 ≤ z.length ∧ z.length ≤ 6 := by
      rw [Bool.not_eq_false', Bool.and_eq_true] at h1
      have := of_decide_eq_true h1.1
      have := of_decide_eq_true h1.2
      omega
    obtain ⟨c, hc, hh, _⟩ := hdB_ix (f := fun c => decide (c = 48)) (z := z) h3.1
    refine s_ret (ev_orV (ev_op (ev_var rfl) ev_c (rv_eq rfl)) fun _ => ev_op (ev_op (ev_var rfl) ev_c (rv_ixS hz2 hc)) ev_c (rv_ne rfl)) fun H2 e2 => ?_
    have := q H2 (e1.trans e2)
    unfold isNumS at this
    rw [Bool.not_eq_false'] at h2
    rw [h2, decide_eq_true h3.1, decide_eq_true h3.2, hh] at this
    have e1' : decide (V.str z = V.str ("0" : Str)) = decide (z = ("0" : Str)) := decide_eq_decide.mpr ⟨fun h => V.str.inj h, fun h => by rw [h]⟩
    have e2' : decide (V.str (⟨#[c]⟩ : Str) = V.str ("0" : Str)) = decide (c = 48) := decide_eq_decide.mpr ⟨fun h => by
      have := V.str.inj h
      have h0 : ("0" : Str) = ⟨#[48]⟩ := by decide +kernel
      rw [h0] at this
      injection this with this
      injection this with this
      injection this, fun h => by rw [h]; decide +kernel⟩
    rw [e1', e2']
    exact this
theorem rc_isi {z : Str} {H : Hp} : RC (rIsi K) [.str z, .ty "str"] H (.bl true) := rc_of fun H1 _ Q q => ⟨_, _, _, _, true, rfl, .ty _, .base (.str z), kit_ty (by decide +kernel), q⟩
abbrev n_is_name : List Str := ["value", "sign"]
theorem sc_is_name : FnScope n_is_name ["value"] (defScope s_is_name) := ⟨rfl, rfl, rfl, by decide +kernel, rfl, by decide +kernel, by decide +kernel⟩
theorem ok_is_name (T : Txt K mg w) : Cal P w K mg base CX0 1 "is_name" ["value"] (spS fun z => .bl (isNameS z)) := by
  refine ⟨ok0 T.f_is_name sc_is_name (fun vs H Q E h => ?_) (fun _ _ _ _ _ _ us hl => match us, hl with | [_], _ => rfl) (fun cdv A outer s H vs Q E hr h => ?_), kpOf T.f_is_name, T.g_is_name⟩
  · obtain ⟨z, rfl, _⟩ := h; rfl
  obtain ⟨z, rfl, hz, q0⟩ := h
  have q : ∀ H', Ex H H' → Q (.bl (isNameS z)) H' := q0
  refine ⟨_, (pss_cons (ps_if (PW.pt (pw_or (pt_not (pt_val (pe_callB call_isi rfl T.b_isinstance (by decide +kernel) (pa_cons (pv 0) (pa_cons (pe_bltn (v := .ty "str") rfl T.b_str (by decide +kernel) rfl) pa_nil))))) (pw_or (pt_not (pt_chain op_le op_le pe_int (pe_callB call_len rfl T.b_len PySem.boot_len (pa_cons (pv 0) pa_nil)) (pgi rfl T.i_MOST_SIGNS))) (pw_or1 (pt_cmpR op_notIn_sign (pe_ix ix_str (pv 0) pe_int (fun _ _ => rfl)) (pgs rfl T.s_CAPITALS) rfl))))) (pss_one (ps_ret pe_bl)) pss_nil)
    (pss_one (ps_ret (pe_callB (cr_all rfl) rfl T.b_all (by decide +kernel) (pa_cons (pe_lc (own := [(("sign" : Str), 1)]) (g := gName 1) rfl sc_is_name.nd (pi_str (pv 0)) (blkOk_by (own := [(("sign" : Str), 1)]) (N := n_is_name) (sc := defScope s_is_name) (by decide +kernel)) (fun _ _ _ _ _ => pg_name (i := 1) sc_is_name.nd rfl (by first | exact Or.inl rfl | exact Or.inr rfl)) (fun _ _ _ _ _ => pts_nil) (fun _ _ _ _ _ => (pe_or (pe_cmpR op_in_sign (pv 1) (pgs rfl T.s_SMALL) rfl) (pe_or (pe_cmpR op_in_sign (pv 1) (pgs rfl T.s_CAPITALS) rfl) (pe_one (pe_cmpR op_in_sign (pv 1) (pgs rfl T.s_DIGITS) rfl)))))) pa_nil))))), ?_⟩
  have hz2 : z.length ≤ 100000 := by omega
  have hcap : ∀ {H : Hp} {σ : L2.St}, σ[0]? = some (some (.str z)) → 1 ≤ z.length → Ev (tOp rNotInS (tOp rIxS (tVar 0) (tC (.int 0))) (tC (.str zCap))) σ H (.bl (!hdB isCap z)) := by
    intro H σ h0 h1
    obtain ⟨c, hc, hh, _⟩ := hdB_ix (f := isCap) h1
    rw [hh, ← in_cap]
    exact ev_op (ev_op (ev_var h0) ev_c (rv_ixS hz2 hc)) ev_c rv_notInS
  refine q_when (b := !true || (!(decide ((1 : Int) ≤ (z.length : Int)) && decide ((z.length : Int) ≤ 8)) || !hdB isCap z))
    (et_or (et_not (et_B (ev_cb (ea_cons (ev_var rfl) (ea_cons ev_c ea_nil)) rc_isi))) fun _ => et_or (et_not (et_test (ev_chain ev_c (ev_len1 (ev_var rfl) (rc_lenS hz2)) rv_I0 (fun _ => ev_c) fun _ => rv_I0))) fun hb => et_test (hcap rfl (by
      rw [Bool.not_eq_false', Bool.and_eq_true] at hb
      have := of_decide_eq_true hb.1
      omega))) (fun hb H1 e1 => ?_) (fun hb H1 e1 => ?_)
  · have e : isNameS z = false := by
      unfold isNameS
      rcases Bool.or_eq_true_iff.mp (show (!(decide ((1 : Int) ≤ (z.length : Int)) && decide ((z.length : Int) ≤ 8)) || !hdB isCap z) = true from hb) with h | h
      · have : ¬ (1 ≤ z.length ∧ z.length ≤ 8) := fun c => by
          rw [decide_eq_true (by omega), decide_eq_true (by omega)] at h; cases h
        have : (decide (1 ≤ z.length) && decide (z.length ≤ 8)) = false := by
          rw [← Bool.decide_and]; exact decide_eq_false this
        rw [this]; rfl
      · rw [Bool.not_eq_true'] at h; rw [h, Bool.and_false]; rfl
    refine s_ret ev_c fun H2 e2 => ?_
    have := q H2 (e1.trans e2)
    rw [e] at this; exact this
  · obtain ⟨h1, h2⟩ := Bool.or_eq_false_iff.mp (show (!(decide ((1 : Int) ≤ (z.length : Int)) && decide ((z.length : Int) ≤ 8)) || !hdB isCap z) = false from hb)
    have h3 : 1 ≤ z.length ∧ z.length ≤ 8 := by
      rw [Bool.not_eq_false', Bool.and_eq_true] at h1
      have := of_decide_eq_true h1.1
      have := of_decide_eq_true h1.2
      omega
    refine s_ret (ev_all (bs := z.cps.toList.map fun c => decide (c ∈ zSmall.cps.toList) || (decide (c ∈ zCap.cps.toList) || decide (c ∈ zDig.cps.toList)))
      (by rw [List.map_map]; exact el_lcS (fun c => .bl (decide (c ∈ zSmall.cps.toList) || (decide (c ∈ zCap.cps.toList) || decide (c ∈ zDig.cps.toList)))) (ev_var rfl) hz (fun _ => rfl) fun c H1 e => ev_orV (ev_op (ev_var rfl) ev_c rv_inS) fun _ => ev_orV (ev_op (ev_var rfl) ev_c rv_inS) fun _ => ev_op (ev_var rfl) ev_c rv_inS)) fun H2 e2 => ?_
    have := q H2 (e1.trans e2)
    unfold isNameS at this
    rw [Bool.not_eq_false'] at h2
    rw [h2, decide_eq_true h3.1, decide_eq_true h3.2] at this
    rw [all_map]
    have ha : (z.cps.toList.all fun c => decide (c ∈ zSmall.cps.toList) || (decide (c ∈ zCap.cps.toList) || decide (c ∈ zDig.cps.toList))) = z.cps.toList.all isAn := congrArg _ (funext fun c => by rw [in_small, in_cap, in_dig, isAn, Bool.or_assoc])
    rw [ha]
    exact this
theorem inV_str (z : Str) (l : List Str) : inV (.str z) (l.map V.str) = decide (z ∈ l) := by
  induction l with
  | nil => rfl
  | cons p ps ih =>
    show ((p == z) || inV (.str z) (ps.map V.str)) = _
    rw [ih]
    by_cases e : z = p
    · subst e; simp
    · have : (p == z) = false := by simpa using fun h : p = z => e h.symm
      rw [this]; simp [e]
theorem flat_str (l : List Str) : (l.map V.str).all flatV = true := by
  induction l with
  | nil => rfl
  | cons p ps ih => show (true && _) = true; rw [ih]; rfl
abbrev n_is_word : List Str := ["value", "sign"]
theorem sc_is_word : FnScope n_is_word ["value"] (defScope s_is_word) := ⟨rfl, rfl, rfl, by decide +kernel, rfl, by decide +kernel, by decide +kernel⟩
theorem ok_is_word (T : Txt K mg w) : Cal P w K mg base CX0 1 "is_word" ["value"] (spS fun z => .bl (isWordS z)) := by
  refine ⟨ok0 T.f_is_word sc_is_word (fun vs H Q E h => ?_) (fun _ _ _ _ _ _ us hl => match us, hl with | [_], _ => rfl) (fun cdv A outer s H vs Q E hr h => ?_), kpOf T.f_is_word, T.g_is_word⟩
  · obtain ⟨z, rfl, _⟩ := h; rfl
  obtain ⟨z, rfl, hz, q0⟩ := h
  have q : ∀ H', Ex H H' → Q (.bl (isWordS z)) H' := q0
  refine ⟨_, (pss_cons (ps_if (PW.pt (pw_or (pt_not (pt_val (pe_callB call_isi rfl T.b_isinstance (by decide +kernel) (pa_cons (pv 0) (pa_cons (pe_bltn (v := .ty "str") rfl T.b_str (by decide +kernel) rfl) pa_nil))))) (pw_or (pt_not (pt_chain op_le op_le pe_int (pe_callB call_len rfl T.b_len PySem.boot_len (pa_cons (pv 0) pa_nil)) (pgi rfl T.i_MOST_SIGNS))) (pw_or1 (pt_cmpR op_notIn_sign (pe_ix ix_str (pv 0) pe_int (fun _ _ => rfl)) (pgs rfl T.s_SMALL) rfl))))) (pss_one (ps_ret pe_bl)) pss_nil)
    (pss_one (ps_ret (pe_and (pe_cmpR op_notIn_seq (pv 0) (pgr rfl T.g_KEYWORDS) (by first | exact nomark _ | rfl)) (pe_one (pe_callB (cr_all rfl) rfl T.b_all (by decide +kernel) (pa_cons (pe_lc (own := [(("sign" : Str), 1)]) (g := gName 1) rfl sc_is_word.nd (pi_str (pv 0)) (blkOk_by (own := [(("sign" : Str), 1)]) (N := n_is_word) (sc := defScope s_is_word) (by decide +kernel)) (fun _ _ _ _ _ => pg_name (i := 1) sc_is_word.nd rfl (by first | exact Or.inl rfl | exact Or.inr rfl)) (fun _ _ _ _ _ => pts_nil) (fun _ _ _ _ _ => (pe_or (pe_cmpR op_in_sign (pv 1) (pgs rfl T.s_SMALL) rfl) (pe_one (pe_cmpR op_in_sign (pv 1) (pgs rfl T.s_DIGITS) rfl))))) pa_nil))))))), ?_⟩
  have hz2 : z.length ≤ 100000 := by omega
  have hcap : ∀ {H : Hp} {σ : L2.St}, σ[0]? = some (some (.str z)) → 1 ≤ z.length → Ev (tOp rNotInS (tOp rIxS (tVar 0) (tC (.int 0))) (tC (.str zSmall))) σ H (.bl (!hdB isSm z)) := by
    intro H σ h0 h1
    obtain ⟨c, hc, hh, _⟩ := hdB_ix (f := isSm) h1
    rw [hh, ← in_small]
    exact ev_op (ev_op (ev_var h0) ev_c (rv_ixS hz2 hc)) ev_c rv_notInS
  refine q_when (b := !true || (!(decide ((1 : Int) ≤ (z.length : Int)) && decide ((z.length : Int) ≤ 8)) || !hdB isSm z))
    (et_or (et_not (et_B (ev_cb (ea_cons (ev_var rfl) (ea_cons ev_c ea_nil)) rc_isi))) fun _ => et_or (et_not (et_test (ev_chain ev_c (ev_len1 (ev_var rfl) (rc_lenS hz2)) rv_I0 (fun _ => ev_c) fun _ => rv_I0))) fun hb => et_test (hcap rfl (by
      rw [Bool.not_eq_false', Bool.and_eq_true] at hb
      have := of_decide_eq_true hb.1
      omega))) (fun hb H1 e1 => ?_) (fun hb H1 e1 => ?_)
  · have e : isWordS z = false := by
      unfold isWordS
      rcases Bool.or_eq_true_iff.mp (show (!(decide ((1 : Int) ≤ (z.length : Int)) && decide ((z.length : Int) ≤ 8)) || !hdB isSm z) = true from hb) with h | h
      · have : ¬ (1 ≤ z.length ∧ z.length ≤ 8) := fun c => by
          rw [decide_eq_true (by omega), decide_eq_true (by omega)] at h; cases h
        have : (decide (1 ≤ z.length) && decide (z.length ≤ 8)) = false := by
          rw [← Bool.decide_and]; exact decide_eq_false this
        rw [this]; rfl
      · rw [Bool.not_eq_true'] at h; rw [h, Bool.and_false]; rfl
    refine s_ret ev_c fun H2 e2 => ?_
    have := q H2 (e1.trans e2)
    rw [e] at this; exact this
  · obtain ⟨h1, h2⟩ := Bool.or_eq_false_iff.mp (show (!(decide ((1 : Int) ≤ (z.length : Int)) && decide ((z.length : Int) ≤ 8)) || !hdB isSm z) = false from hb)
    have h3 : 1 ≤ z.length ∧ z.length ≤ 8 := by
      rw [Bool.not_eq_false', Bool.and_eq_true] at h1
      have := of_decide_eq_true h1.1
      have := of_decide_eq_true h1.2
      omega
    refine s_ret (ev_andV (a := !decide (z ∈ kwL)) (by rw [← inV_str]; exact ev_op (ev_var rfl) ev_c (rv_niT (T.t_KEYWORDS _) rfl rfl)) fun _ => ev_all (bs := z.cps.toList.map fun c => decide (c ∈ zSmall.cps.toList) || decide (c ∈ zDig.cps.toList))
      (by rw [List.map_map]; exact el_lcS (fun c => .bl (decide (c ∈ zSmall.cps.toList) || decide (c ∈ zDig.cps.toList))) (ev_var rfl) hz (fun _ => rfl) fun c H1 e => ev_orV (ev_op (ev_var rfl) ev_c rv_inS) fun _ => ev_op (ev_var rfl) ev_c rv_inS)) fun H2 e2 => ?_
    have := q H2 (e1.trans e2)
    unfold isWordS at this
    rw [Bool.not_eq_false'] at h2
    rw [h2, decide_eq_true h3.1, decide_eq_true h3.2] at this
    rw [all_map]
    have ha : (z.cps.toList.all fun c => decide (c ∈ zSmall.cps.toList) || decide (c ∈ zDig.cps.toList)) = z.cps.toList.all fun c => isSm c || isDig c := congrArg _ (funext fun c => by rw [in_small, in_dig])
    rw [ha]
    exact this
abbrev n_sort_of : List Str := ["text"]
theorem sc_sort_of : FnScope n_sort_of ["text"] (defScope s_sort_of) := ⟨rfl, rfl, rfl, by decide +kernel, rfl, by decide +kernel, by decide +kernel⟩
theorem ok_sort_of (T : Txt K mg w) : Cal P w K mg base CX0 2 "sort_of" ["text"] (spS fun z => .str (kd z).txt) := by
  have c_is_number_text : Cal P w K mg base _ _ _ _ _ := ok_is_number_text (P := P) (base := base) T
  have c_is_name : Cal P w K mg base _ _ _ _ _ := ok_is_name (P := P) (base := base) T
  have c_is_word : Cal P w K mg base _ _ _ _ _ := ok_is_word (P := P) (base := base) T
  refine ⟨ok0 T.f_sort_of sc_sort_of (fun vs H Q E h => ?_) (fun _ _ _ _ _ _ us hl => match us, hl with | [_], _ => rfl) (fun cdv A outer s H vs Q E hr h => ?_), kpOf T.f_sort_of, T.g_sort_of⟩
  · obtain ⟨z, rfl, _⟩ := h; rfl
  obtain ⟨z, rfl, hz, q0⟩ := h
  have q : ∀ H', Ex H H' → Q (.str (kd z).txt) H' := q0
  refine ⟨_, (pss_cons (ps_if (PW.pt (pw_or (pt_cmpR op_in_seq (pv 0) (pgr rfl T.g_KEYWORDS) (by first | exact nomark _ | rfl)) (pw_or (pt_cmpR op_eq (pv 0) pe_str (nomark _)) (pw_or1 (PW.pt (pw_and (pt_cmpR op_eq (pe_callB call_len rfl T.b_len PySem.boot_len (pa_cons (pv 0) pa_nil)) pe_int (nomark _)) (pw_and1 (pt_cmpR op_in_sign (pv 0) (pgs rfl T.s_MARKS) rfl)))))))) (pss_one (ps_ret (pv 0))) pss_nil)
    (pss_cons (ps_if (pt_val (pe_cal c_is_word hr (by decide) rfl pass0 (pa_cons (pv 0) pa_nil))) (pss_one (ps_ret pe_str)) pss_nil)
    (pss_cons (ps_if (pt_val (pe_cal c_is_name hr (by decide) rfl pass0 (pa_cons (pv 0) pa_nil))) (pss_one (ps_ret pe_str)) pss_nil)
    (pss_one (ps_ret (pe_ifExp (pt_val (pe_cal c_is_number_text hr (by decide) rfl pass0 (pa_cons (pv 0) pa_nil))) pe_str pe_str)))))), ?_⟩
  have hz2 : z.length ≤ 100000 := by omega
  have one : z.length = 1 → z = ⟨#[z.cps.toList.headD 0]⟩ := fun h => by
    obtain ⟨⟨l⟩⟩ := z
    match l, h with
    | [c], _ => rfl
  refine q_when (b := decide (z ∈ kwL) || (decide (z = ("->" : Str)) || (decide (z.length = 1) && decide (z.cps.toList.headD 0 ∈ zMarks.cps.toList))))
    (et_or (et_test (by rw [← inV_str]; exact ev_op (ev_var rfl) ev_c (rv_isT (T.t_KEYWORDS _) rfl rfl))) fun _ => et_or (et_is (et_test (ev_op (ev_var rfl) ev_c (rv_eq rfl))) (decide_eq_decide.mpr ⟨fun h => V.str.inj h, fun h => by rw [h]⟩)) fun _ =>
      et_and (et_is (et_test (ev_op (ev_len1 (ev_var rfl) (rc_lenS hz2)) ev_c (rv_eq rfl))) (decide_eq_decide.mpr ⟨fun h => by have := V.int.inj h; omega, fun h => by rw [h]; rfl⟩)) fun hb => et_test (ev_op (ev_is (ev_var rfl) (congrArg V.str (one (of_decide_eq_true hb)))) ev_c rv_inS)) (fun hb H1 e1 => ?_) (fun hb H1 e1 => ?_)
  · have hs : z ∈ spec := by
      rw [spec_iff]
      rcases Bool.or_eq_true_iff.mp hb with h | h
      · exact .inl (of_decide_eq_true h)
      · rcases Bool.or_eq_true_iff.mp h with h | h
        · exact .inr (.inl (of_decide_eq_true h))
        · obtain ⟨h1, h2⟩ := Bool.and_eq_true_iff.mp h
          exact .inr (.inr ⟨_, one (of_decide_eq_true h1), of_decide_eq_true h2⟩)
    refine s_ret (ev_var rfl) fun H2 e2 => ?_
    have := q H2 (e1.trans e2)
    rw [kd_spec hs] at this; exact this
  · have hs : z ∉ spec := by
      rw [spec_iff]
      obtain ⟨h1, h⟩ := Bool.or_eq_false_iff.mp hb
      obtain ⟨h2, h3⟩ := Bool.or_eq_false_iff.mp h
      rintro (y | y | ⟨c, rfl, y⟩)
      · exact of_decide_eq_false h1 y
      · exact of_decide_eq_false h2 y
      · have e1 : (⟨#[c]⟩ : Str).length = 1 := rfl
        have e2 : (⟨#[c]⟩ : Str).cps.toList.headD 0 = c := rfl
        rw [e1, e2, decide_eq_true y] at h3
        cases h3
    have q2 : ∀ H', Ex H H' → Q (.str (if isWordS z then Tk.word else if isNameS z then .name else if isNumS z then .num else .bad).txt) H' := fun H' e => by
      have := q H' e
      rw [kd_not hs] at this; exact this
    refine q_when (b := isWordS z) (et_B (ev_call (ea_cons (ev_var rfl) ea_nil) (spV_S hz))) (fun hb H2 e2 => s_ret ev_c fun H3 e3 => ?_) (fun hb H2 e2 => ?_)
    · have := q2 H3 ((e1.trans e2).trans e3)
      rw [if_pos hb] at this; exact this
    refine q_when (b := isNameS z) (et_B (ev_call (ea_cons (ev_var rfl) ea_nil) (spV_S hz))) (fun hb2 H3 e3 => s_ret ev_c fun H4 e4 => ?_) (fun hb2 H3 e3 => ?_)
    · have := q2 H4 (((e1.trans e2).trans e3).trans e4)
      rw [if_neg (by rw [hb]; decide), if_pos hb2] at this; exact this
    refine s_ret (ev_if (v := .str (if isNumS z then Tk.num else .bad).txt) (et_B (ev_call (ea_cons (ev_var rfl) ea_nil) (spV_S hz))) (fun h => by rw [if_pos h]; exact ev_c) (fun h => by rw [if_neg (by rw [h]; decide)]; exact ev_c)) fun H4 e4 => ?_
    have := q2 H4 (((e1.trans e2).trans e3).trans e4)
    rw [if_neg (by rw [hb]; decide), if_neg (by rw [hb2]; decide)] at this; exact this
end
end Sh
set_option Elab.async false
set_option linter.all false
set_option maxRecDepth 100000
set_option maxHeartbeats 4000000
namespace Sh
open PySem PySem.Spec PyProof.Rows L2 Evl
/-- what stands for a list of tokens -/
def TokR (H : Hp) : List V → List Str → Prop := Paired fun v z => ∃ p, v = .ref p ∧ H p = some (.tup [.str (kd z).txt, .str z])
theorem TokR.mono {H H' : Hp} {vs : List V} {zs : List Str} (h : TokR H vs zs) (t : Tups H H') : TokR H' vs zs := Paired.mapP h fun _ _ ⟨p, e, q⟩ => ⟨p, e, t p _ q⟩
theorem TokR.add {H : Hp} {v : V} {z : Str} : ∀ {vs : List V} {zs : List Str}, TokR H vs zs → (∃ p, v = .ref p ∧ H p = some (.tup [.str (kd z).txt, .str z])) → TokR H (vs ++ [v]) (zs ++ [z])
  | _, _, .nil, h => .cons h .nil
  | _, _, .cons a r, h => .cons a (TokR.add r h)
theorem Ex.tups {H H' : Hp} (e : Ex H H') : Tups H H' := fun a xs h => e a _ h
def spRunEnd : Sp := fun vs H Q _ => ∃ (z : Str) (k : Nat), vs = [.str z, .int (k : Int)] ∧ z.length ≤ 40000 ∧ k ≤ z.length ∧ ∀ H', Ex H H' → Q (.int ((k + ((z.cps.toList.drop k).takeWhile isAn).length : Nat) : Int)) H'
def spToks : Sp := fun vs H Q _ => ∃ z : Str, vs = [.str z] ∧ z.length ≤ 40000 ∧ ∀ (p : Addr) (H' : Hp) (tvs : List V), H p = none → Ex H H' → H' p = some (.lst tvs) → TokR H' tvs (toks z) → Q (.ref p) H'
theorem ev_slS {σ : L2.St} {H : Hp} {te : TE} {tl th : TO} {zt : Str} {lo hi : Option Int} (h : Ev te σ H (.str zt)) (hz : zt.length ≤ 100000) (h1 : EvO tl σ H lo) (h2 : EvO th σ H hi) : Ev (tSl rSlS te tl th) σ H (.str (cutS zt lo hi)) := fun H1 e Q q =>
  h H1 e _ fun H2 e2 => h1 H2 (e.trans e2) _ fun H3 e3 => h2 H3 ((e.trans e2).trans e3) _ fun H4 e4 => ⟨zt, rfl, sz_of hz, q H4 ((e2.trans e3).trans e4)⟩
theorem cut_eq {z : Str} {k e : Nat} (hk : k ≤ z.length) : cutS z (some (k : Int)) (some (e : Int)) = ofL ((z.cps.toList.drop k).take (e - k)) := by
  have hl : z.cps.toList.length = z.length := Array.length_toList
  unfold cutS ofL
  have h1 : HT.sIx z.length 0 (some (k : Int)) = k := by
    show (if (k : Int) < 0 then ((k : Int) + (z.length : Int)).toNat else min (k : Int).toNat z.length) = k
    rw [if_neg (by omega)]; simp; omega
  have h2 : HT.sIx z.length z.length (some (e : Int)) = min e z.length := by
    show (if (e : Int) < 0 then ((e : Int) + (z.length : Int)).toNat else min (e : Int).toNat z.length) = _
    rw [if_neg (by omega)]; simp
  rw [h1, h2]
  congr 2
  rw [List.take_eq_take_iff, List.length_drop, hl]
  omega
section
variable {P : Program} {w : World} {K : PySem.W.Frag} {mg : Str → Option Value} {base : Heap}
abbrev n_run_end : List Str := ["text", "place"]
theorem sc_run_end : FnScope n_run_end ["text", "place"] (defScope s_run_end) := ⟨rfl, rfl, rfl, by decide +kernel, rfl, by decide +kernel, by decide +kernel⟩
theorem ok_run_end (T : Txt K mg w) : Cal P w K mg base CX0 1 "run_end" ["text", "place"] spRunEnd := by
  refine ⟨ok0 T.f_run_end sc_run_end (fun vs H Q E h => ?_) (fun _ _ _ _ _ _ us hl => match us, hl with | [_, _], _ => rfl) (fun cdv A outer s H vs Q E hr h => ?_), kpOf T.f_run_end, T.g_run_end⟩
  · obtain ⟨z, k, rfl, _⟩ := h; rfl
  obtain ⟨z, k, rfl, hz, hk, q⟩ := h
  refine ⟨_, (pss_cons (ps_while PassesOwn.never (PW.pt (pw_and (pt_cmpR op_lt (pv 1) (pe_callB call_len rfl T.b_len PySem.boot_len (pa_cons (pv 0) pa_nil)) (nomark _)) (pw_and1 (PW.pt (pw_or (pt_cmpR op_in_sign (pe_ix ix_str (pv 0) (pv 1) (fun _ _ => rfl)) (pgs rfl T.s_SMALL) rfl) (pw_or (pt_cmpR op_in_sign (pe_ix ix_str (pv 0) (pv 1) (fun _ _ => rfl)) (pgs rfl T.s_CAPITALS) rfl) (pw_or1 (pt_cmpR op_in_sign (pe_ix ix_str (pv 0) (pv 1) (fun _ _ => rfl)) (pgs rfl T.s_DIGITS) rfl)))))))) (pss_one (ps_aug (i := 1) sc_run_end.nd rfl (by first | exact Or.inl rfl | exact Or.inr rfl) pe_int ip_add)))
    (pss_one (ps_ret (pv 1)))), ?_⟩
  have hz2 : z.length ≤ 100000 := by omega
  have hl : z.cps.toList.length = z.length := Array.length_toList
  refine q_while (fun m σ H' => ∃ j : Nat, σ = [some (.str z), some (.int ((k + j : Nat) : Int))] ∧ Ex H H' ∧ k + j ≤ z.length ∧ ((z.cps.toList.drop k).takeWhile isAn).length = j + ((z.cps.toList.drop (k + j)).takeWhile isAn).length ∧ m = z.length - (k + j))
    _ ⟨0, rfl, Ex.refl H, hk, by simp, rfl⟩ ?_
  rintro m σ H' ⟨j, rfl, e, hj, htw, rfl⟩
  have fin : ((z.cps.toList.drop (k + j)).takeWhile isAn) = [] → ∀ H1, Ex H' H1 → Q (.int ((k + j : Nat) : Int)) H1 := fun h0 H1 e1 => by
    have := q H1 (e.trans e1)
    rw [htw, h0] at this
    exact this
  by_cases hlt : k + j < z.length
  · have hc : z.cps.toList[k + j]? = some (z.cps.toList[k + j]'(by omega)) := List.getElem?_eq_getElem _
    have hd : z.cps.toList.drop (k + j) = z.cps.toList[k + j]'(by omega) :: z.cps.toList.drop (k + j + 1) := List.drop_eq_getElem_cons _
    generalize (z.cps.toList[k + j]'(by omega)) = c at hc hd
    refine ⟨decide (((k + j : Nat) : Int) < (z.length : Int)) && (decide (c ∈ zSmall.cps.toList) || (decide (c ∈ zCap.cps.toList) || decide (c ∈ zDig.cps.toList))),
      et_and (et_test (ev_op (ev_var rfl) (ev_len1 (ev_var rfl) (rc_lenS hz2)) rv_I0)) fun _ => et_or (et_test (ev_op (ev_op (ev_var rfl) (ev_var rfl) (rv_ixS hz2 (atI_nat hc))) ev_c rv_inS)) fun _ => et_or (et_test (ev_op (ev_op (ev_var rfl) (ev_var rfl) (rv_ixS hz2 (atI_nat hc))) ev_c rv_inS)) fun _ =>
        et_test (ev_op (ev_op (ev_var rfl) (ev_var rfl) (rv_ixS hz2 (atI_nat hc))) ev_c rv_inS), ?_⟩
    rw [decide_eq_true (by omega), Bool.true_and, in_small, in_cap, in_dig, ← Bool.or_assoc]
    show (isAn c = true → _) ∧ (isAn c = false → _)
    refine ⟨fun hb H1 e1 => ?_, fun hb H1 e1 => ?_⟩
    · refine ⟨fun σ2 H2 => ∃ m', m' < z.length - (k + j) ∧ ∃ j : Nat, σ2 = [some (.str z), some (.int ((k + j : Nat) : Int))] ∧ Ex H H2 ∧ k + j ≤ z.length ∧ ((z.cps.toList.drop k).takeWhile isAn).length = j + ((z.cps.toList.drop (k + j)).takeWhile isAn).length ∧ m' = z.length - (k + j), fun _ _ h => h, ?_⟩
      refine s_aug (a := ((k + j : Nat) : Int)) (b := 1) rfl ev_c fun H2 e2 => ?_
      refine ⟨z.length - (k + (j + 1)), by omega, j + 1, rfl, (e.trans e1).trans e2, by omega, ?_, rfl⟩
      rw [htw, hd, List.takeWhile_cons, if_pos hb, List.length_cons]
      show _ = j + 1 + ((z.cps.toList.drop (k + j + 1)).takeWhile isAn).length
      omega
    · refine s_ret (ev_var rfl) fun H2 e2 => fin ?_ H2 (e1.trans e2)
      rw [hd, List.takeWhile_cons, if_neg (by rw [hb]; decide)]
  · refine ⟨false, et_is (b := false) (et_and (b := false) (et_test (ev_op (ev_var rfl) (ev_len1 (ev_var rfl) (rc_lenS hz2)) rv_I0)) fun h => absurd (of_decide_eq_true h) (by omega)) (Bool.and_false _), fun h => (nomatch h), fun _ H1 e1 => s_ret (ev_var rfl) fun H2 e2 => fin ?_ H2 (e1.trans e2)⟩
    rw [List.drop_eq_nil_of_le (by omega)]; rfl
theorem blank_in (c : Nat) : inV (.str (⟨#[c]⟩ : Str)) [.str " ", .str "\n"] = blank c := by
  have h := inV_str (⟨#[c]⟩ : Str) [(" " : Str), "\n"]
  refine Eq.trans h ?_
  unfold blank
  rw [← Bool.decide_or]
  have e1 : (" " : Str) = ⟨#[32]⟩ := by decide +kernel
  have e2 : ("\n" : Str) = ⟨#[10]⟩ := by decide +kernel
  refine decide_eq_decide.mpr ?_
  rw [e1, e2]
  simp
theorem arrow_dec (l : List Nat) : decide (V.str (ofL l) = V.str ("->" : Str)) = decide (l = [45, 62]) := by
  have e1 : ("->" : Str) = ofL [45, 62] := by decide +kernel
  rw [e1]
  refine decide_eq_decide.mpr ⟨fun h => ?_, fun h => by rw [h]⟩
  have := V.str.inj h
  unfold ofL at this
  injection this with this
  injection this
abbrev n_tokens_of : List Str := ["text", "found", "place", "end"]
theorem sc_tokens_of : FnScope n_tokens_of ["text"] (defScope s_tokens_of) := ⟨rfl, rfl, rfl, by decide +kernel, rfl, by decide +kernel, by decide +kernel⟩
theorem ok_tokens_of (T : Txt K mg w) : Cal P w K mg base CX0 3 "tokens_of" ["text"] spToks := by
  have c_sort_of : Cal P w K mg base _ _ _ _ _ := ok_sort_of (P := P) (base := base) T
  have c_run_end : Cal P w K mg base _ _ _ _ _ := ok_run_end (P := P) (base := base) T
  refine ⟨ok0 T.f_tokens_of sc_tokens_of (fun vs H Q E h => ?_) (fun _ _ _ _ _ _ us hl => match us, hl with | [_], _ => rfl) (fun cdv A outer s H vs Q E hr h => ?_), kpOf T.f_tokens_of, T.g_tokens_of⟩
  · obtain ⟨z, rfl, _⟩ := h; rfl
  obtain ⟨z, rfl, hz, q⟩ := h
  refine ⟨_, (pss_cons (ps_par (i := 1) (j := 2) rfl sc_tokens_of.nd rfl rfl (by decide) rfl rfl (pa_cons (pe_lst pa_nil) (pa_cons pe_int pa_nil)) (by rfl))
    (pss_cons (ps_while PassesOwn.never (pt_cmpR op_lt (pv 2) (pe_callB call_len rfl T.b_len PySem.boot_len (pa_cons (pv 0) pa_nil)) (nomark _)) (pss_cons (ps_set (i := 3) sc_tokens_of.nd rfl (by first | exact Or.inl rfl | exact Or.inr rfl) (pe_callB (call_max2 rfl) rfl T.b_max (by decide +kernel) (pa_cons (pe_cal c_run_end hr (by decide) rfl pass0 (pa_cons (pv 0) (pa_cons (pv 2) pa_nil))) (pa_cons (pe_op op_add (pv 2) pe_int) pa_nil))))
    (pss_cons (ps_if (pt_cmpR op_eq (pe_slice sl_str (pv 0) (po_some (pv 2)) (po_some (pe_op op_add (pv 2) pe_int))) pe_str (nomark _)) (pss_one (ps_set (i := 3) sc_tokens_of.nd rfl (by first | exact Or.inl rfl | exact Or.inr rfl) (pe_op op_add (pv 2) pe_int))) pss_nil)
    (pss_cons (ps_if (pt_cmpR op_notIn_seq (pe_ix ix_str (pv 0) (pv 2) (fun _ _ => rfl)) (pe_tup (pa_cons pe_str (pa_cons pe_str pa_nil))) (by first | exact nomark _ | rfl)) (pss_one (ps_expr (pe_bm PySem.F.plainAttrs_list PySem.F.slot_list_append PySem.F.type_list_append mt_append (pv 1) (pa_cons (pe_tup (pa_cons (pe_cal c_sort_of hr (by decide) rfl pass0 (pa_cons (pe_slice sl_str (pv 0) (po_some (pv 2)) (po_some (pv 3))) pa_nil)) (pa_cons (pe_slice sl_str (pv 0) (po_some (pv 2)) (po_some (pv 3))) pa_nil))) pa_nil)))) pss_nil)
    (pss_one (ps_set (i := 2) sc_tokens_of.nd rfl (by first | exact Or.inl rfl | exact Or.inr rfl) (pv 3)))))))
    (pss_one (ps_ret (pv 1))))), ?_⟩
  have hz2 : z.length ≤ 100000 := by omega
  have hl : z.cps.toList.length = z.length := Array.length_toList
  refine ⟨small_sz (by simp), fun fl hfl => ⟨_, _, rfl, ?_⟩⟩
  refine q_while (fun m σ H' => ∃ (k : Nat) (e : Option V) (tvs : List V) (done : List Str), σ = [some (.str z), some (.ref fl), some (.int (k : Int)), e] ∧ k ≤ z.length ∧ Ex H H' ∧ H' fl = some (.lst tvs) ∧ TokR H' tvs done ∧ tvs.length ≤ k ∧
    toks z = done ++ (toksL (z.length - k) (z.cps.toList.drop k)).map ofL ∧ m = z.length - k) _ ⟨0, none, [], [], rfl, Nat.zero_le _, Ex.new hfl, upd_same, .nil, Nat.le_refl _, by unfold toks; simp, rfl⟩ ?_
  rintro m σ H' ⟨k, e0, tvs, done, rfl, hk, eH, hf, htr, hlen, hdone, rfl⟩
  by_cases hlt : k < z.length
  · refine ⟨true, et_is (et_test (ev_op (ev_var rfl) (ev_len1 (ev_var rfl) (rc_lenS hz2)) rv_I0)) (decide_eq_true (by omega)), fun _ H1 e1 => ?_, fun h => (nomatch h)⟩
    have hc : z.cps.toList[k]? = some (z.cps.toList[k]'(by omega)) := List.getElem?_eq_getElem _
    have hd : z.cps.toList.drop k = z.cps.toList[k]'(by omega) :: z.cps.toList.drop (k + 1) := List.drop_eq_getElem_cons _
    generalize (z.cps.toList[k]'(by omega)) = c at hc hd
    generalize hL : z.cps.toList.drop k = l at hd
    have hll : l.length = z.length - k := by rw [← hL, List.length_drop, hl]
    have htl := tokLen_pos l
    have htl2 : tokLen l ≤ l.length := by
      unfold tokLen
      split
      · rename_i h
        have := congrArg List.length h
        rw [List.length_take] at this
        simp at this
        omega
      · have : (l.takeWhile isAn).length ≤ l.length := (List.takeWhile_sublist _).length_le
        omega
    refine ⟨fun σ2 H2 => ∃ (k' : Nat) (e : Option V) (tvs : List V) (done : List Str), σ2 = [some (.str z), some (.ref fl), some (.int (k' : Int)), e] ∧ k' ≤ z.length ∧ Ex H H2 ∧ H2 fl = some (.lst tvs) ∧ TokR H2 tvs done ∧ tvs.length ≤ k' ∧
      toks z = done ++ (toksL (z.length - k') (z.cps.toList.drop k')).map ofL ∧ k < k', fun σ2 H2 ⟨k', e, tvs, done, h1, h2, h3, h4, h5, h6, h7, h8⟩ => ⟨z.length - k', by omega, k', e, tvs, done, h1, h2, h3, h4, h5, h6, h7, rfl⟩, ?_⟩
    have hmax : (if ((k : Int) + 1) > ((k + (l.takeWhile isAn).length : Nat) : Int) then ((k : Int) + 1) else ((k + (l.takeWhile isAn).length : Nat) : Int)) = ((k + max (l.takeWhile isAn).length 1 : Nat) : Int) := by split <;> omega
    refine q_asg (v := .int ((k + max (l.takeWhile isAn).length 1 : Nat) : Int)) (ev_is (ev_max2 (i := ((k + (l.takeWhile isAn).length : Nat) : Int)) (j := (k : Int) + 1) (ev_call (ea_cons (ev_var rfl) (ea_cons (ev_var rfl) ea_nil)) (fun H3 e3 Q q E => ⟨z, k, rfl, hz, hk, fun H4 e4 => by rw [hL]; exact q H4 e4⟩)) (ev_op (ev_var rfl) ev_c rv_I0)) (congrArg V.int hmax)) fun H2 e2 => ?_
    have hcut2 : cutS z (some (k : Int)) (some ((k : Int) + 2)) = ofL (l.take 2) := by
      have := cut_eq (z := z) (k := k) (e := k + 2) hk
      rw [hL] at this
      rw [show k + 2 - k = 2 by omega] at this
      exact this
    refine q_ifAsg (b := decide (l.take 2 = [45, 62])) (v := .int ((k + tokLen l : Nat) : Int)) (et_is (et_test (ev_op (ev_slS (ev_var rfl) hz2 (eo_some (ev_var rfl)) (eo_some (ev_op (ev_var rfl) ev_c rv_I0))) ev_c (rv_eq rfl))) (by rw [hcut2, arrow_dec])) (fun hb => ?_) (fun hb => ?_) fun H3 e3 => ?_
    · have : tokLen l = 2 := by unfold tokLen; rw [if_pos (of_decide_eq_true hb)]
      rw [this]
      exact ev_op (ev_var rfl) ev_c rv_I0
    · have : tokLen l = max (l.takeWhile isAn).length 1 := by unfold tokLen; rw [if_neg (of_decide_eq_false hb)]
      rw [this]; rfl
    have hcutE : cutS z (some (k : Int)) (some ((k + tokLen l : Nat) : Int)) = ofL (l.take (tokLen l)) := by
      rw [cut_eq hk, hL, show k + tokLen l - k = tokLen l by omega]
    have e13 : Ex H' H3 := (e1.trans e2).trans e3
    have hstep : toksL (z.length - k) l = (if blank c then [] else [l.take (tokLen l)]) ++ toksL (z.length - (k + tokLen l)) (z.cps.toList.drop (k + tokLen l)) := by
      obtain ⟨n, hn⟩ : ∃ n, z.length - k = n + 1 := ⟨z.length - k - 1, by omega⟩
      have hdr : l.drop (tokLen l) = z.cps.toList.drop (k + tokLen l) := by rw [← hL, List.drop_drop]
      rw [hn, ← hdr]
      conv => lhs; rw [hd]
      show (if blank c then [] else [(c :: z.cps.toList.drop (k + 1)).take (tokLen (c :: z.cps.toList.drop (k + 1)))]) ++ toksL n ((c :: z.cps.toList.drop (k + 1)).drop (tokLen (c :: z.cps.toList.drop (k + 1)))) = _
      rw [← hd]
      congr 1
      refine toksL_fuel ?_ ?_ <;> rw [List.length_drop] <;> omega
    refine q_when (b := !blank c) (et_test (by rw [← blank_in]; exact ev_niU (ev_op (ev_var rfl) (ev_var rfl) (rv_ixS hz2 (atI_nat hc))) (eu_tup (ea_cons ev_c (ea_cons ev_c ea_nil)) (by simp)) rfl rfl)) (fun hb H4 e4 => ?_) (fun hb H4 e4 => ?_)
    · have hb' : blank c = false := by simpa using hb
      refine s_appU (l := fl) (xs := tvs) (ys := [.str (kd (ofL (l.take (tokLen l)))).txt, .str (ofL (l.take (tokLen l)))]) ((e13.trans e4) fl _ hf) (ev_var rfl) (eu_tup (ea_cons (ev_call (ea_cons (by rw [← hcutE]; exact ev_slS (ev_var rfl) hz2 (eo_some (ev_var rfl)) (eo_some (ev_var rfl))) ea_nil) (spV_S ?_)) (ea_cons (by rw [← hcutE]; exact ev_slS (ev_var rfl) hz2 (eo_some (ev_var rfl)) (eo_some (ev_var rfl))) ea_nil)) (by simp)) (by omega) fun p H5 hp e5 h5 => ?_
      · show (l.take (tokLen l)).toArray.size ≤ 40000
        rw [List.size_toArray, List.length_take]; omega
      refine s_asg (ev_var rfl) fun H6 e6 => ?_
      have hfl5 : H5 fl = some (.lst tvs) := e5 fl _ ((e13.trans e4) fl _ hf)
      have hne : p ≠ fl := fun z => by rw [z, hfl5] at h5; cases h5
      refine ⟨k + tokLen l, _, tvs ++ [.ref p], done ++ [ofL (l.take (tokLen l))], rfl, by omega, ?_, ?_, ?_, ?_, ?_, by omega⟩
      · exact (Ex.mut (eH.trans ((e13.trans e4).trans e5)) hfl).trans e6
      · exact e6 fl _ upd_same
      · have t5 : Tups H5 H6 := (Tups.lst hfl5).trans (Ex.tups e6)
        exact (htr.mono ((Ex.tups ((e13.trans e4).trans e5)).trans t5)).add ⟨p, rfl, t5 p _ h5⟩
      · rw [List.length_append, List.length_singleton]; omega
      · rw [hdone, hL, hstep, hb']; simp
    · have hb' : blank c = true := by simpa using hb
      refine s_asg (ev_var rfl) fun H6 e6 => ?_
      have e16 : Ex H' H6 := (e13.trans e4).trans e6
      refine ⟨k + tokLen l, _, tvs, done, rfl, by omega, eH.trans e16, e16 fl _ hf, htr.mono (Ex.tups e16), by omega, ?_, by omega⟩
      rw [hdone, hL, hstep, hb']; simp
  · refine ⟨false, et_is (et_test (ev_op (ev_var rfl) (ev_len1 (ev_var rfl) (rc_lenS hz2)) rv_I0)) (decide_eq_false (by omega)), fun h => (nomatch h), fun _ H1 e1 => s_ret (ev_var rfl) fun H2 e2 => ?_⟩
    have e12 : Ex H' H2 := e1.trans e2
    refine q fl H2 tvs hfl (eH.trans e12) (e12 fl _ hf) ?_
    have : toks z = done := by
      rw [hdone, List.drop_eq_nil_of_le (by omega)]
      have : toksL (z.length - k) [] = [] := by cases z.length - k <;> rfl
      rw [this]; simp
    rw [this]
    exact htr.mono (Ex.tups e12)
end
end Sh
set_option Elab.async false
set_option linter.all false
set_option maxRecDepth 100000
set_option maxHeartbeats 4000000
namespace Sh
open PySem PySem.Spec PyProof.Rows L2 Evl
/-- own __init__ of an own error: one field f -/
def spEI (C : Addr) (f : Str) : Sp := fun vs H Q _ => ∃ (a : Addr) (v : V), vs = [.ref a, v] ∧ H a = some (exo a C none) ∧ ∀ dx, H dx = none → dx ≠ a → Q .non (upd (upd H dx (exd dx [(f, v)])) a (exo a C (some dx)))
theorem raise_ok {C : Addr} {f : Str} {v : V} {σ : L2.St} {H : Hp} {E : XK} {ta : TA} (hta : ∀ Q : List V → Hp → Prop, Q [v] H → ta σ H Q) (hE : ∀ (d : Addr) (H' : Hp), Ex H H' → H' d = some (.xd [(f, v)]) → E (.ref C) (some d) H') :
    tMkO C (spEI C f) [] ta σ H E := by
  refine hta _ ⟨by simp, fun a ha => ⟨a, v, rfl, upd_same, fun dx hdx hne => ⟨rfl, dx, [(f, v)], upd_same, ?_, ?_, hE dx _ (fun b o hb => ?_) upd_same⟩⟩⟩
  · rw [upd_ne hne]; exact upd_same
  · rw [upd_ne hne] at hdx; exact hdx
  · rw [upd_ne hne] at hdx
    have h1 : b ≠ a := ne_of_none hb ha
    have h2 : b ≠ dx := ne_of_none hb hdx
    rw [upd_ne h2, del_ne h1, upd_ne h1, upd_ne h2, upd_ne h1]; exact hb
section
variable {X : Cx} {CX : CXT} {j k : Nat} {ps : List Str} {sp : Sp} {x : Str} {p pos : Pos} {e : Expr} {es : List Expr} {ta : TA} {C fI : Addr}
theorem pmk_ex (o : OexC X.K C) (i : PySem.W.findIn X.K (.ref C) "__init__" = some (some (.ref fI)) ∧ PySem.W.typeIn X.K (.ref fI) = some (.type "function")) (c : ∃ fd, FnOk X.prog X.w X.K X.mg X.base CX0 j fI fd ps sp ∧ Binds X.K fd ps [])
    (hr : Room k X.A) (hj : j + 1 ≤ k) (hg : Gl X x) (hm : X.mg x = some (.ref C)) (ha : PA X (e :: es) ta) (hdb : (x == ("__debug__" : Str)) = false := by decide) (he : starEach (e :: es) X.env = (false, eval e X.env) :: starEach es X.env := by rfl)
    (hpl : (backTo pos (starEach es X.env)).any (·.1) = false := by rfl) : PMk X (.Call (.Name x p) (e :: es) [] pos) (tMkO C sp [] ta) := by
  obtain ⟨fd, F, b⟩ := c
  exact pmk_oex o i.1 i.2 F (hr.mono hj) b .nil pass0 hg hm ha hdb he hpl
end
/-- a Source: so the instance, dx its own dict, tl its tokens -/
structure Src (K : PySem.W.Frag) (H : Hp) (so dx tl : Addr) (tvs : List V) (ws : List Str) (n : Nat) : Prop where
  o : H so = some (.ins (He.ga K "Source") dx [("tokens", .ref tl), ("at", .int (n : Int))])
  l : H tl = some (.lst tvs)
  r : TokR H tvs ws
  le : n ≤ ws.length
  sz : ws.length ≤ 40000
def ksAt (ws : List Str) (n : Nat) : Option Tk := (ws.map kd)[n]?
theorem ksAt_some {ws : List Str} {n : Nat} {k : Tk} (h : ksAt ws n = some k) : ∃ z, ws[n]? = some z ∧ kd z = k ∧ n < ws.length := by
  unfold ksAt at h
  rw [List.getElem?_map] at h
  cases e : ws[n]? with
  | none => rw [e] at h; cases h
  | some z =>
    rw [e] at h
    exact ⟨z, rfl, Option.some.inj h, (List.getElem?_eq_some_iff.mp e).1⟩
theorem ksAt_none {ws : List Str} {n : Nat} (h : ksAt ws n = none) : ws.length ≤ n := by
  unfold ksAt at h
  rw [List.getElem?_map] at h
  cases e : ws[n]? with
  | none => exact List.getElem?_eq_none_iff.mp e
  | some z => rw [e] at h; cases h
theorem Paired.at_ {α β : Type} {F : α → β → Prop} : ∀ {l : List α} {m : List β} {i : Nat} {y : β}, Paired F l m → m[i]? = some y → ∃ x, l[i]? = some x ∧ F x y
  | _, _, 0, _, .cons a _, h => by cases h; exact ⟨_, rfl, a⟩
  | _, _, i + 1, y, .cons _ r, h => by
    have h' : (_ : List β)[i]? = some y := h
    obtain ⟨x, e, f⟩ := Paired.at_ (i := i) r h'
    exact ⟨x, e, f⟩
  | _, _, i, _, .nil, h => by simp at h
section
variable {K : PySem.W.Frag} {H H' : Hp} {so dx tl : Addr} {tvs : List V} {ws : List Str} {n : Nat}
theorem Src.len (S : Src K H so dx tl tvs ws n) : tvs.length = ws.length := Paired.length S.r
theorem Src.tok (S : Src K H so dx tl tvs ws n) {i : Nat} {z : Str} (h : ws[i]? = some z) : ∃ p, tvs[i]? = some (.ref p) ∧ H p = some (.tup [.str (kd z).txt, .str z]) := by
  obtain ⟨v, e, p, rfl, q⟩ := Paired.at_ S.r h
  exact ⟨p, e, q⟩
theorem Src.ex (S : Src K H so dx tl tvs ws n) (e : Ex H H') : Src K H' so dx tl tvs ws n := ⟨e _ _ S.o, e _ _ S.l, S.r.mono (Ex.tups e), S.le, S.sz⟩
theorem Src.ne (S : Src K H so dx tl tvs ws n) : tl ≠ so := fun z => by have := S.l; rw [z, S.o] at this; cases this
/-- the index put further -/
def srcAt (K : PySem.W.Frag) (H : Hp) (so dx tl : Addr) (n : Nat) : Hp := upd H so (.ins (He.ga K "Source") dx [("tokens", .ref tl), ("at", .int (n : Int))])
theorem Src.go (S : Src K H so dx tl tvs ws n) {m : Nat} (h : m ≤ ws.length) : Src K (srcAt K H so dx tl m) so dx tl tvs ws m :=
  ⟨upd_same, by unfold srcAt; rw [upd_ne S.ne]; exact S.l, S.r.mono (Tups.ins S.o), h, S.sz⟩
theorem Src.tups (S : Src K H so dx tl tvs ws n) {m : Nat} : Tups H (srcAt K H so dx tl m) := Tups.ins S.o
theorem srcAt_but {m : Nat} : But [so] H (srcAt K H so dx tl m) := But.put (by simp)
theorem lk_at {a b : V} : List.lookup ("at" : Str) [(("tokens" : Str), a), ("at", b)] = some b := by rfl
theorem lk_tok {a b : V} : List.lookup ("tokens" : Str) [(("tokens" : Str), a), ("at", b)] = some a := by rfl
theorem lk_kind {a b : V} : List.lookup ("kind" : Str) [(("tokens" : Str), a), ("at", b)] = none := by rfl
theorem lk_take {a b : V} : List.lookup ("take" : Str) [(("tokens" : Str), a), ("at", b)] = none := by rfl
theorem lk_takes {a b : V} : List.lookup ("takes" : Str) [(("tokens" : Str), a), ("at", b)] = none := by rfl
theorem pf_at {a b c : V} : putF ("at" : Str) c [(("tokens" : Str), a), ("at", b)] = [(("tokens" : Str), a), ("at", c)] := by rfl
theorem pf_0 {a : V} : putF ("tokens" : Str) a [] = [(("tokens" : Str), a)] := by rfl
theorem pf_1 {a b : V} : putF ("at" : Str) b [(("tokens" : Str), a)] = [(("tokens" : Str), a), ("at", b)] := by rfl
end
def spSrcI (K : PySem.W.Frag) : Sp := fun vs H Q _ => ∃ (so dx : Addr) (z : Str), vs = [.ref so, .str z] ∧ z.length ≤ 40000 ∧ H so = some (.ins (He.ga K "Source") dx []) ∧
  ∀ (tl : Addr) (tvs : List V) (H' : Hp), H tl = none → But [so] H H' → H' so = some (.ins (He.ga K "Source") dx [("tokens", .ref tl), ("at", .int 0)]) → H' tl = some (.lst tvs) → TokR H' tvs (toks z) → Q .non H'
def spKind (K : PySem.W.Frag) : Sp := fun vs H Q _ => ∃ (so dx tl : Addr) (tvs : List V) (ws : List Str) (n : Nat), vs = [.ref so] ∧ Src K H so dx tl tvs ws n ∧ Q (.str (kTxt (ksAt ws n))) H
def spTake (K : PySem.W.Frag) : Sp := fun vs H Q E => ∃ (so dx tl : Addr) (tvs : List V) (ws : List Str) (n : Nat) (k : Tk), vs = [.ref so, .str (kTxt (some k))] ∧ Src K H so dx tl tvs ws n ∧
  (∀ z, ksAt ws n = some k → ws[n]? = some z → kd z = k → n < ws.length → Q (.str z) (srcAt K H so dx tl (n + 1))) ∧
  (ksAt ws n ≠ some k → ∀ (d : Addr) (H' : Hp), Ex H H' → H' d = some (.xd [("index", .int (n : Int))]) → E (.ref (He.ga K "BadText")) (some d) H')
def spTakes (K : PySem.W.Frag) : Sp := fun vs H Q _ => ∃ (so dx tl : Addr) (tvs : List V) (ws : List Str) (n : Nat) (k : Tk), vs = [.ref so, .str (kTxt (some k))] ∧ Src K H so dx tl tvs ws n ∧
  (ksAt ws n = some k → n < ws.length → Q (.bl true) (srcAt K H so dx tl (n + 1))) ∧ (ksAt ws n ≠ some k → Q (.bl false) H)
section
variable {P : Program} {w : World} {K : PySem.W.Frag} {mg : Str → Option Value} {base : Heap}
abbrev n_BadText_init : List Str := ["self", "index"]
theorem sc_BadText_init : FnScope n_BadText_init ["self", "index"] (defScope s_BadText_init) := ⟨rfl, rfl, rfl, by decide +kernel, rfl, by decide +kernel, by decide +kernel⟩
theorem ok_BadText_init (T : Txt K mg w) : ∃ fd, FnOk P w K mg base CX0 1 (He.ma K (He.ga K "BadText") "__init__") fd ["self", "index"] (spEI (He.ga K "BadText") "index") ∧ Binds K fd ["self", "index"] [] := by
  refine ok0 T.f_BadText_init sc_BadText_init (fun vs H Q E h => ?_) (fun _ _ _ _ _ _ us hl => match us, hl with | [_, _], _ => rfl) (fun cdv A outer s H vs Q E hr h => ?_)
  · obtain ⟨a, v, rfl, _⟩ := h; rfl
  obtain ⟨a, v, rfl, ha, q⟩ := h
  refine ⟨_, (pss_one (ps_ost (pv 0) (pv 1))), ?_⟩
  exact ⟨_, rfl, _, rfl, a, _, rfl, T.o_BadText, T.n_BadText_index, .inl ⟨ha, fun dx h1 h2 => q dx h1 h2⟩⟩
abbrev n_TooLarge_init : List Str := ["self", "limit"]
theorem sc_TooLarge_init : FnScope n_TooLarge_init ["self", "limit"] (defScope s_TooLarge_init) := ⟨rfl, rfl, rfl, by decide +kernel, rfl, by decide +kernel, by decide +kernel⟩
theorem ok_TooLarge_init (T : Txt K mg w) : ∃ fd, FnOk P w K mg base CX0 1 (He.ma K (He.ga K "TooLarge") "__init__") fd ["self", "limit"] (spEI (He.ga K "TooLarge") "limit") ∧ Binds K fd ["self", "limit"] [] := by
  refine ok0 T.f_TooLarge_init sc_TooLarge_init (fun vs H Q E h => ?_) (fun _ _ _ _ _ _ us hl => match us, hl with | [_, _], _ => rfl) (fun cdv A outer s H vs Q E hr h => ?_)
  · obtain ⟨a, v, rfl, _⟩ := h; rfl
  obtain ⟨a, v, rfl, ha, q⟩ := h
  refine ⟨_, (pss_one (ps_ost (pv 0) (pv 1))), ?_⟩
  exact ⟨_, rfl, _, rfl, a, _, rfl, T.o_TooLarge, T.n_TooLarge_limit, .inl ⟨ha, fun dx h1 h2 => q dx h1 h2⟩⟩
abbrev n_Source_init : List Str := ["self", "value"]
theorem sc_Source_init : FnScope n_Source_init ["self", "value"] (defScope s_Source_init) := ⟨rfl, rfl, rfl, by decide +kernel, rfl, by decide +kernel, by decide +kernel⟩
theorem ok_Source_init (T : Txt K mg w) : ∃ fd, FnOk P w K mg base CX0 4 (He.ma K (He.ga K "Source") "__init__") fd ["self", "value"] (spSrcI K) ∧ Binds K fd ["self", "value"] [] := by
  have c_tokens_of : Cal P w K mg base _ _ _ _ _ := ok_tokens_of (P := P) (base := base) T
  refine ok0 T.f_Source_init sc_Source_init (fun vs H Q E h => ?_) (fun _ _ _ _ _ _ us hl => match us, hl with | [_, _], _ => rfl) (fun cdv A outer s H vs Q E hr h => ?_)
  · obtain ⟨so, dx, z, rfl, _⟩ := h; rfl
  obtain ⟨so, dx, z, rfl, hz, ho, q⟩ := h
  refine ⟨_, (pss_cons (ps_if (pt_not (pt_val (pe_callB call_isi rfl T.b_isinstance (by decide +kernel) (pa_cons (pv 1) (pa_cons (pe_bltn (v := .ty "str") rfl T.b_str (by decide +kernel) rfl) pa_nil))))) (pss_one ps_never) pss_nil)
    (pss_cons (ps_fld (pv 0) (pe_cal c_tokens_of hr (by decide) rfl pass0 (pa_cons (pv 1) pa_nil)) rfl)
    (pss_one (ps_fld (pv 0) pe_int rfl)))), ?_⟩
  refine q_when (b := !true) (et_not (et_B (ev_cb (ea_cons (ev_var rfl) (ea_cons ev_c ea_nil)) rc_isi))) (fun h => (nomatch h)) fun _ H1 e1 => ?_
  refine ⟨_, rfl, z, rfl, hz, fun tl H2 tvs hn e2 hl hr2 => ?_⟩
  have ho2 : H2 so = some (.ins (He.ga K "Source") dx []) := (e1.trans e2) so _ ho
  refine ⟨_, rfl, so, _, dx, _, rfl, ho2, T.c_Source, T.n_Source_tokens, by simp, ?_⟩
  have hne : tl ≠ so := fun h => by rw [h, ho2] at hl; cases hl
  refine ⟨_, rfl, so, _, dx, _, rfl, upd_same, T.c_Source, T.n_Source_at, by rw [pf_0]; simp, ?_⟩
  refine q tl tvs _ (fresh_back e1 hn) ?_ ?_ ?_ ?_
  · exact ((But.mono (ex_but.mp (e1.trans e2)) (by simp)).trans (But.put (by simp))).trans (But.put (by simp))
  · rw [upd_same, pf_0, pf_1]
  · rw [upd_ne hne, upd_ne hne]; exact hl
  · exact hr2.mono ((Tups.ins ho2).trans (Tups.ins upd_same))
abbrev n_Source_kind : List Str := ["self"]
theorem sc_Source_kind : FnScope n_Source_kind ["self"] (defScope s_Source_kind) := ⟨rfl, rfl, rfl, by decide +kernel, rfl, by decide +kernel, by decide +kernel⟩
theorem ok_kind (T : Txt K mg w) : MCal P w K mg base CX0 1 (He.ga K "Source") "kind" ["self"] (spKind K) := by
  refine ⟨ok0 T.f_Source_kind sc_Source_kind (fun vs H Q E h => ?_) (fun _ _ _ _ _ _ us hl => match us, hl with | [_], _ => rfl) (fun cdv A outer s H vs Q E hr h => ?_), T.m_Source_kind, T.c_Source⟩
  · obtain ⟨so, dx, tl, tvs, ws, n, rfl, _⟩ := h; rfl
  obtain ⟨so, dx, tl, tvs, ws, n, rfl, S, q⟩ := h
  refine ⟨_, (pss_one (ps_ret (pe_ifExp (pt_cmpR op_lt (pe_fld (pv 0) rfl) (pe_callB call_len rfl T.b_len PySem.boot_len (pa_cons (pe_fld (pv 0) rfl) pa_nil)) (nomark _)) (pe_ix ix_tup (pe_ix ix_list (pe_fld (pv 0) rfl) (pe_fld (pv 0) rfl) (fun _ _ => rfl)) pe_int (fun _ _ => rfl)) pe_str))), ?_⟩
  refine ⟨_, rfl, so, _, dx, _, _, rfl, S.o, T.c_Source, T.n_Source_at, lk_at, _, rfl, so, _, dx, _, _, rfl, S.o, T.c_Source, T.n_Source_tokens, lk_tok, _, _, rfl, .inl ⟨_, SqL.of S.l, rfl⟩, _, _, rfl, rfl, _, rfl, ?_⟩
  rw [S.len]
  refine ite2 (fun h => ?_) (fun h => ?_)
  · have hn : n < ws.length := by have := of_decide_eq_true h; omega
    have hz : ws[n]? = some ws[n] := List.getElem?_eq_getElem hn
    have hk : ksAt ws n = some (kd ws[n]) := by unfold ksAt; rw [List.getElem?_map, hz]; rfl
    obtain ⟨p, h1, h2⟩ := S.tok hz
    refine ⟨_, rfl, so, _, dx, _, _, rfl, S.o, T.c_Source, T.n_Source_tokens, lk_tok, _, rfl, so, _, dx, _, _, rfl, S.o, T.c_Source, T.n_Source_at, lk_at, tl, tvs, _, .ref p, rfl, rfl, SqL.of S.l, atI_nat h1, p, _, _, _, rfl, rfl, SqT.of h2, atI_nat (j := 0) rfl, ?_⟩
    rw [hk] at q
    exact q
  · have hn : ¬ n < ws.length := fun c => h (decide_eq_true (by omega))
    have hk : ksAt ws n = none := by unfold ksAt; rw [List.getElem?_map, List.getElem?_eq_none_iff.mpr (by omega)]; rfl
    rw [hk] at q
    exact q
abbrev n_Source_take : List Str := ["self", "sort"]
theorem sc_Source_take : FnScope n_Source_take ["self", "sort"] (defScope s_Source_take) := ⟨rfl, rfl, rfl, by decide +kernel, rfl, by decide +kernel, by decide +kernel⟩
theorem ok_take (T : Txt K mg w) : MCal P w K mg base (L2.CX P w) 3 (He.ga K "Source") "take" ["self", "sort"] (spTake K) := by
  have m_kind : MCal P w K mg base _ _ _ _ _ _ := ok_kind (P := P) (base := base) T
  have c_BadText_init := ok_BadText_init (P := P) (base := base) T
  refine ⟨okX T.f_Source_take sc_Source_take (fun vs H Q E h => ?_) (fun _ _ _ _ _ _ us hl => match us, hl with | [_, _], _ => rfl) (fun cdv A outer s H vs Q E hr h => ?_), T.m_Source_take, T.c_Source⟩
  · obtain ⟨so, dx, tl, tvs, ws, n, k, rfl, _⟩ := h; rfl
  obtain ⟨so, dx, tl, tvs, ws, n, k, rfl, S, q1, q2⟩ := h
  have tk : Takes (cxOf (L2.CX P w) P w K mg base n_Source_take "Source.take" (defScope s_Source_take) (He.ma K (He.ga K "Source") "take") cdv A outer s H E) (fun cls d _ H => E cls d H) := takes_of rfl rfl rfl rfl
  refine ⟨_, (pss_cons (ps_if (pt_cmpR op_ne (pe_mcal0 m_kind hr (by decide) pass0 (pv 0)) (pv 1) (nomark _)) (pss_one (ps_raise rfl tk (pmk_ex T.o_BadText T.in_BadText c_BadText_init hr (by decide) rfl T.g_BadText (pa_cons (pe_fld (pv 0) rfl) pa_nil)))) pss_nil)
    (pss_cons (ps_fldaug (pv 0) pe_int in_add)
    (pss_one (ps_ret (pe_ix ix_tup (pe_ix ix_list (pe_fld (pv 0) rfl) (pe_op op_sub (pe_fld (pv 0) rfl) pe_int) (fun _ _ => rfl)) pe_int (fun _ _ => rfl)))))), ?_⟩
  refine ⟨_, rfl, so, dx, _, rfl, S.o, lk_kind, so, dx, tl, tvs, ws, n, rfl, S, _, rfl, rfl, _, rfl, ?_⟩
  refine ite_kn (fun h => ?_) (fun h => ?_)
  · exact raise_ok (fun Q hQ => ⟨_, rfl, so, _, dx, _, _, rfl, S.o, T.c_Source, T.n_Source_at, lk_at, hQ⟩) (q2 h)
  · obtain ⟨z, hz, hk, hn⟩ := ksAt_some h
    obtain ⟨p, h1, h2⟩ := S.tok hz
    refine ⟨_, rfl, so, _, dx, _, _, rfl, S.o, T.c_Source, T.n_Source_at, lk_at, _, _, rfl, rfl, dx, _, S.o, by simp, ?_⟩
    have S2 := S.go (m := n + 1) (by omega)
    have hh : upd H so (.ins (He.ga K "Source") dx (putF "at" (.int ((n : Int) + 1)) [("tokens", .ref tl), ("at", .int (n : Int))])) = srcAt K H so dx tl (n + 1) := by rw [pf_at]; rfl
    rw [hh]
    have h2' := S.tups (m := n + 1) p _ h2
    have hi : ((n + 1 : Nat) : Int) - 1 = (n : Int) := by omega
    refine ⟨_, rfl, so, _, dx, _, _, rfl, S2.o, T.c_Source, T.n_Source_tokens, lk_tok, _, rfl, so, _, dx, _, _, rfl, S2.o, T.c_Source, T.n_Source_at, lk_at, _, _, rfl, rfl, tl, tvs, _, .ref p, rfl, rfl, SqL.of S2.l, by rw [hi]; exact atI_nat h1, p, _, _, _, rfl, rfl, SqT.of h2', atI_nat (j := 1) rfl, ?_⟩
    exact q1 z h hz hk hn
abbrev n_Source_takes : List Str := ["self", "sort"]
theorem sc_Source_takes : FnScope n_Source_takes ["self", "sort"] (defScope s_Source_takes) := ⟨rfl, rfl, rfl, by decide +kernel, rfl, by decide +kernel, by decide +kernel⟩
theorem ok_takes (T : Txt K mg w) : MCal P w K mg base CX0 2 (He.ga K "Source") "takes" ["self", "sort"] (spTakes K) := by
  have m_kind : MCal P w K mg base _ _ _ _ _ _ := ok_kind (P := P) (base := base) T
  refine ⟨ok0 T.f_Source_takes sc_Source_takes (fun vs H Q E h => ?_) (fun _ _ _ _ _ _ us hl => match us, hl with | [_, _], _ => rfl) (fun cdv A outer s H vs Q E hr h => ?_), T.m_Source_takes, T.c_Source⟩
  · obtain ⟨so, dx, tl, tvs, ws, n, k, rfl, _⟩ := h; rfl
  obtain ⟨so, dx, tl, tvs, ws, n, k, rfl, S, q1, q2⟩ := h
  refine ⟨_, (pss_cons (ps_if (pt_cmpR op_ne (pe_mcal0 m_kind hr (by decide) pass0 (pv 0)) (pv 1) (nomark _)) (pss_one (ps_ret pe_bl)) pss_nil)
    (pss_cons (ps_fldaug (pv 0) pe_int in_add)
    (pss_one (ps_ret pe_bl)))), ?_⟩
  refine ⟨_, rfl, so, dx, _, rfl, S.o, lk_kind, so, dx, tl, tvs, ws, n, rfl, S, _, rfl, rfl, _, rfl, ?_⟩
  refine ite_kn (fun h => ?_) (fun h => ?_)
  · exact q2 h
  · obtain ⟨z, hz, hk, hn⟩ := ksAt_some h
    refine ⟨_, rfl, so, _, dx, _, _, rfl, S.o, T.c_Source, T.n_Source_at, lk_at, _, _, rfl, rfl, dx, _, S.o, by simp, ?_⟩
    have hh : upd H so (.ins (He.ga K "Source") dx (putF "at" (.int ((n : Int) + 1)) [("tokens", .ref tl), ("at", .int (n : Int))])) = srcAt K H so dx tl (n + 1) := by rw [pf_at]; rfl
    rw [hh]
    exact q1 h hn
end
end Sh
set_option Elab.async false
set_option linter.all false
set_option maxRecDepth 100000
set_option maxHeartbeats 4000000
namespace Sh
open PySem PySem.Spec PyProof.Rows L2 Evl
/-- what the reader builds: an expression, a pattern -/
inductive IsE (H : Hp) : V → Prop where
  | leaf {a : Addr} {s : Str} {r : List V} : H a = some (.tup (.str s :: r)) → s ∈ [("number" : Str), "word", "hole", "any"] → IsE H (.ref a)
  | mk {a : Addr} {nm : V} {ps : List V} : H a = some (.tup (.str "make" :: nm :: ps)) → (∀ p, p ∈ ps → IsE H p) → ps.length ≤ 40000 → IsE H (.ref a)
  | fn {a : Addr} {x e : V} : H a = some (.tup [.str "fun", x, e]) → IsE H e → IsE H (.ref a)
  | lt {a : Addr} {x e f : V} : H a = some (.tup [.str "let", x, e, f]) → IsE H e → IsE H f → IsE H (.ref a)
  | op {a : Addr} {x e f : V} : H a = some (.tup [.str "op", x, e, f]) → IsE H e → IsE H f → IsE H (.ref a)
  | call {a : Addr} {e f : V} : H a = some (.tup [.str "call", e, f]) → IsE H e → IsE H f → IsE H (.ref a)
  | mt {a r : Addr} {e : V} {rows : List (Addr × V × V)} : H a = some (.tup [.str "match", e, .ref r]) → IsE H e → H r = some (.tup (rows.map fun t => V.ref t.1)) → (∀ t, t ∈ rows → H t.1 = some (.tup [t.2.1, t.2.2])) →
      (∀ t, t ∈ rows → IsE H t.2.1) → (∀ t, t ∈ rows → IsE H t.2.2) → rows.length ≤ 40000 → IsE H (.ref a)
theorem IsE.mono {H H' : Hp} (t : Tups H H') {v : V} (h : IsE H v) : IsE H' v := by
  induction h with
  | leaf h1 h2 => exact .leaf (t _ _ h1) h2
  | mk h1 _ h3 ih => exact .mk (t _ _ h1) ih h3
  | fn h1 _ ih => exact .fn (t _ _ h1) ih
  | lt h1 _ _ i1 i2 => exact .lt (t _ _ h1) i1 i2
  | op h1 _ _ i1 i2 => exact .op (t _ _ h1) i1 i2
  | call h1 _ _ i1 i2 => exact .call (t _ _ h1) i1 i2
  | mt h1 _ h3 h4 _ _ h7 i2 i5 i6 => exact .mt (t _ _ h1) i2 (t _ _ h3) (fun x hx => t _ _ (h4 x hx)) i5 i6 h7
/-- the rows of a match so far -/
def RowsR (H : Hp) (r : Addr) (n : Nat) : Prop := ∃ rows : List (Addr × V × V), H r = some (.tup (rows.map fun t => V.ref t.1)) ∧ rows.length = n ∧ (∀ t, t ∈ rows → H t.1 = some (.tup [t.2.1, t.2.2])) ∧ (∀ t, t ∈ rows → IsE H t.2.1) ∧ ∀ t, t ∈ rows → IsE H t.2.2
theorem RowsR.mono {H H' : Hp} (t : Tups H H') {r : Addr} {n : Nat} (h : RowsR H r n) : RowsR H' r n := by
  obtain ⟨rows, h1, h2, h3, h4, h5⟩ := h
  exact ⟨rows, t _ _ h1, h2, fun x hx => t _ _ (h3 x hx), fun x hx => (h4 x hx).mono t, fun x hx => (h5 x hx).mono t⟩
/-- an open make: its tuple, n parts -/
def MkR (H : Hp) (t : Addr) (n : Nat) : Prop := ∃ (nm : V) (ps : List V), H t = some (.tup (.str "make" :: nm :: ps)) ∧ ps.length = n ∧ ∀ p, p ∈ ps → IsE H p
theorem MkR.mono {H H' : Hp} (t : Tups H H') {a : Addr} {n : Nat} (h : MkR H a n) : MkR H' a n := by
  obtain ⟨nm, ps, h1, h2, h3⟩ := h
  exact ⟨nm, ps, t _ _ h1, h2, fun p hp => (h3 p hp).mono t⟩
theorem MkR.isE {H : Hp} {a : Addr} {n : Nat} (h : MkR H a n) (hn : n ≤ 40000) : IsE H (.ref a) := by
  obtain ⟨nm, ps, h1, h2, h3⟩ := h
  exact .mk h1 h3 (by omega)
inductive FrR (H : Hp) : V → Fr → Prop where
  | br {a : Addr} : H a = some (.tup [.str "bracket"]) → FrR H (.ref a) .br
  | fn {a : Addr} {x : V} : H a = some (.tup [.str "fun", x]) → FrR H (.ref a) .fn
  | lt {a : Addr} {x : V} : H a = some (.tup [.str "let", x]) → FrR H (.ref a) .lt
  | inn {a : Addr} {x e : V} : H a = some (.tup [.str "in", x, e]) → IsE H e → FrR H (.ref a) .inn
  | matched {a : Addr} : H a = some (.tup [.str "matched"]) → FrR H (.ref a) .matched
  | row {a r : Addr} {e p : V} {n : Nat} : H a = some (.tup [.str "row", e, .ref r, p]) → IsE H e → RowsR H r n → IsE H p → FrR H (.ref a) (.row n)
  | mk {a t : Addr} {n : Nat} : H a = some (.tup [.str "make", .ref t]) → MkR H t n → FrR H (.ref a) (.mk n)
  | call {a : Addr} {e : V} : H a = some (.tup [.str "call", e]) → IsE H e → FrR H (.ref a) .call
  | op {a : Addr} {e : V} {o : Tk} : H a = some (.tup [.str "op", .str o.txt, e]) → IsE H e → 0 < str o → FrR H (.ref a) (.op o)
theorem FrR.mono {H H' : Hp} (t : Tups H H') {v : V} {f : Fr} (h : FrR H v f) : FrR H' v f := by
  cases h with
  | br h1 => exact .br (t _ _ h1)
  | fn h1 => exact .fn (t _ _ h1)
  | lt h1 => exact .lt (t _ _ h1)
  | inn h1 h2 => exact .inn (t _ _ h1) (h2.mono t)
  | matched h1 => exact .matched (t _ _ h1)
  | row h1 h2 h3 h4 => exact .row (t _ _ h1) (h2.mono t) (h3.mono t) (h4.mono t)
  | mk h1 h2 => exact .mk (t _ _ h1) (h2.mono t)
  | call h1 h2 => exact .call (t _ _ h1) (h2.mono t)
  | op h1 h2 h3 => exact .op (t _ _ h1) (h2.mono t) h3
def Fr.nm : Fr → Str
  | .br => "bracket" | .fn => "fun" | .lt => "let" | .inn => "in" | .matched => "matched" | .row _ => "row" | .mk _ => "make" | .call => "call" | .op _ => "op"
def topNm : List Fr → Str
  | [] => ""
  | f :: _ => f.nm
theorem FrR.at_ {H : Hp} {v : V} {f : Fr} (h : FrR H v f) : ∃ (t : Addr) (r : List V), v = .ref t ∧ H t = some (.tup (.str f.nm :: r)) := by
  cases h with
  | br h1 => exact ⟨_, _, rfl, h1⟩
  | fn h1 => exact ⟨_, _, rfl, h1⟩
  | lt h1 => exact ⟨_, _, rfl, h1⟩
  | inn h1 => exact ⟨_, _, rfl, h1⟩
  | matched h1 => exact ⟨_, _, rfl, h1⟩
  | row h1 => exact ⟨_, _, rfl, h1⟩
  | mk h1 => exact ⟨_, _, rfl, h1⟩
  | call h1 => exact ⟨_, _, rfl, h1⟩
  | op h1 => exact ⟨_, _, rfl, h1⟩
/-- of patterns -/
inductive PFR (H : Hp) : V → PF → Prop where
  | br {a : Addr} : H a = some (.tup [.str "bracket"]) → PFR H (.ref a) .br
  | mk {a t : Addr} {n : Nat} : H a = some (.tup [.str "make", .ref t]) → MkR H t n → PFR H (.ref a) (.mk n)
theorem PFR.mono {H H' : Hp} (t : Tups H H') {v : V} {f : PF} (h : PFR H v f) : PFR H' v f := by
  cases h with
  | br h1 => exact .br (t _ _ h1)
  | mk h1 h2 => exact .mk (t _ _ h1) (h2.mono t)
def PF.nm : PF → Str
  | .br => "bracket" | .mk _ => "make"
def ptopNm : List PF → Str
  | [] => ""
  | f :: _ => f.nm
theorem PFR.at_ {H : Hp} {v : V} {f : PF} (h : PFR H v f) : ∃ (t : Addr) (r : List V), v = .ref t ∧ H t = some (.tup (.str f.nm :: r)) := by
  cases h with
  | br h1 => exact ⟨_, _, rfl, h1⟩
  | mk h1 => exact ⟨_, _, rfl, h1⟩
/-- a stack: the last item is the top -/
def Stk {α : Type} (R : V → α → Prop) (xs : List V) (stk : List α) : Prop := Paired R xs stk.reverse
section
variable {α : Type} {R R' : V → α → Prop}
theorem Paired.app {β : Type} {R : V → β → Prop} : ∀ {xs ys : List V} {l m : List β}, Paired R xs l → Paired R ys m → Paired R (xs ++ ys) (l ++ m)
  | _, _, _, _, .nil, h => h
  | _, _, _, _, .cons a r, h => .cons a (Paired.app r h)
theorem Paired.last {β : Type} {R : V → β → Prop} : ∀ {l : List β} {xs : List V} {f : β}, Paired R xs (l ++ [f]) → ∃ ys v, xs = ys ++ [v] ∧ Paired R ys l ∧ R v f
  | [], _, f, h => by
    cases h with
    | cons a r => cases r; exact ⟨[], _, rfl, .nil, a⟩
  | g :: l, _, f, h => by
    cases h with
    | cons a r =>
      obtain ⟨ys, v, rfl, h1, h2⟩ := Paired.last (l := l) r
      exact ⟨_ :: ys, v, rfl, .cons a h1, h2⟩
theorem Stk.nil : Stk R [] [] := Paired.nil
theorem Stk.push {xs : List V} {stk : List α} {v : V} {f : α} (h : Stk R xs stk) (r : R v f) : Stk R (xs ++ [v]) (f :: stk) := by
  unfold Stk; rw [List.reverse_cons]; exact Paired.app h (.cons r .nil)
theorem Stk.pop {xs : List V} {stk : List α} {f : α} (h : Stk R xs (f :: stk)) : ∃ ys v, xs = ys ++ [v] ∧ Stk R ys stk ∧ R v f := by
  unfold Stk at h; rw [List.reverse_cons] at h; exact Paired.last h
theorem Stk.nil_iff {xs : List V} (h : Stk R xs []) : xs = [] := by cases h; rfl
theorem Stk.imp {xs : List V} {stk : List α} (h : Stk R xs stk) (i : ∀ v f, R v f → R' v f) : Stk R' xs stk := Paired.mapP h i
theorem Stk.len {xs : List V} {stk : List α} (h : Stk R xs stk) : xs.length = stk.length := by
  have := Paired.length h
  rw [List.length_reverse] at this; exact this
end
abbrev FrsR (H : Hp) (xs : List V) (stk : List Fr) : Prop := Stk (FrR H) xs stk
abbrev PFsR (H : Hp) (xs : List V) (stk : List PF) : Prop := Stk (PFR H) xs stk
theorem FrsR.mono {H H' : Hp} {xs : List V} {stk : List Fr} (h : FrsR H xs stk) (t : Tups H H') : FrsR H' xs stk := Stk.imp h fun _ _ q => q.mono t
theorem PFsR.mono {H H' : Hp} {xs : List V} {stk : List PF} (h : PFsR H xs stk) (t : Tups H H') : PFsR H' xs stk := Stk.imp h fun _ _ q => q.mono t
theorem nmM {f : Fr} (h : f.nm = ("make" : Str)) : ∃ n, f = .mk n := by
  cases f <;> simp only [Fr.nm] at h <;> first | exact ⟨_, rfl⟩ | exact absurd h (by decide +kernel)
theorem nmC {f : Fr} (h : f.nm = ("call" : Str)) : f = .call := by
  cases f <;> simp only [Fr.nm] at h <;> first | rfl | exact absurd h (by decide +kernel)
theorem nmO {f : Fr} (h : f.nm = ("op" : Str)) : ∃ o, f = .op o := by
  cases f <;> simp only [Fr.nm] at h <;> first | exact ⟨_, rfl⟩ | exact absurd h (by decide +kernel)
theorem nmB {f : Fr} (h : f.nm = ("bracket" : Str)) : f = .br := by
  cases f <;> simp only [Fr.nm] at h <;> first | rfl | exact absurd h (by decide +kernel)
theorem nmL {f : Fr} (h : f.nm = ("let" : Str)) : f = .lt := by
  cases f <;> simp only [Fr.nm] at h <;> first | rfl | exact absurd h (by decide +kernel)
theorem nmT {f : Fr} (h : f.nm = ("matched" : Str)) : f = .matched := by
  cases f <;> simp only [Fr.nm] at h <;> first | rfl | exact absurd h (by decide +kernel)
theorem nmF {f : Fr} (h : f.nm = ("fun" : Str)) : f = .fn := by
  cases f <;> simp only [Fr.nm] at h <;> first | rfl | exact absurd h (by decide +kernel)
theorem nmI {f : Fr} (h : f.nm = ("in" : Str)) : f = .inn := by
  cases f <;> simp only [Fr.nm] at h <;> first | rfl | exact absurd h (by decide +kernel)
theorem pnmM {f : PF} (h : f.nm = ("make" : Str)) : ∃ n, f = .mk n := by
  cases f <;> simp only [PF.nm] at h <;> first | exact ⟨_, rfl⟩ | exact absurd h (by decide +kernel)
theorem topMk {s : List Fr} (h : topNm s = ("make" : Str)) : ∃ n r, s = .mk n :: r := by
  cases s with
  | nil => exact absurd h (by decide +kernel)
  | cons f r => obtain ⟨n, rfl⟩ := nmM h; exact ⟨n, r, rfl⟩
theorem topCl {s : List Fr} (h : topNm s = ("call" : Str)) : ∃ r, s = .call :: r := by
  cases s with
  | nil => exact absurd h (by decide +kernel)
  | cons f r => obtain rfl := nmC h; exact ⟨r, rfl⟩
theorem topOp {s : List Fr} (h : topNm s = ("op" : Str)) : ∃ o r, s = .op o :: r := by
  cases s with
  | nil => exact absurd h (by decide +kernel)
  | cons f r => obtain ⟨o, rfl⟩ := nmO h; exact ⟨o, r, rfl⟩
theorem ptopMk {s : List PF} (h : ptopNm s = ("make" : Str)) : ∃ n r, s = .mk n :: r := by
  cases s with
  | nil => exact absurd h (by decide +kernel)
  | cons f r => obtain ⟨n, rfl⟩ := pnmM h; exact ⟨n, r, rfl⟩
theorem ite_nm {a b : Str} {A B : Prop} (h1 : a = b → A) (h2 : a ≠ b → B) : if decide (V.str a = V.str b) = true then A else B := by
  by_cases e : a = b
  · rw [if_pos (decide_eq_true (by rw [e]))]; exact h1 e
  · rw [if_neg]
    · exact h2 e
    · intro h; exact e (V.str.inj (of_decide_eq_true h))
/-- what top_of tells -/
def TopIs (H : Hp) (xs : List V) (nm : Str) : Prop := (xs = [] ∧ nm = ("" : Str)) ∨ ∃ ys t r, xs = ys ++ [V.ref t] ∧ H t = some (.tup (.str nm :: r))
theorem FrsR.top {H : Hp} {xs : List V} {stk : List Fr} (h : FrsR H xs stk) : TopIs H xs (topNm stk) := by
  cases stk with
  | nil => exact .inl ⟨h.nil_iff, rfl⟩
  | cons f stk =>
    obtain ⟨ys, v, rfl, _, h2⟩ := h.pop
    obtain ⟨t, r, rfl, e⟩ := h2.at_
    exact .inr ⟨ys, t, r, rfl, e⟩
theorem PFsR.top {H : Hp} {xs : List V} {stk : List PF} (h : PFsR H xs stk) : TopIs H xs (ptopNm stk) := by
  cases stk with
  | nil => exact .inl ⟨h.nil_iff, rfl⟩
  | cons f stk =>
    obtain ⟨ys, v, rfl, _, h2⟩ := h.pop
    obtain ⟨t, r, rfl, e⟩ := h2.at_
    exact .inr ⟨ys, t, r, rfl, e⟩
def spTop : Sp := fun vs H Q _ => ∃ (fr : Addr) (xs : List V) (nm : Str), vs = [.ref fr] ∧ H fr = some (.lst xs) ∧ TopIs H xs nm ∧ ∀ H', Ex H H' → Q (.str nm) H'
def spAttach : Sp := fun vs H Q _ => ∃ (fr : Addr) (xs : List V) (stk : List Fr) (v : V), vs = [.ref fr, v] ∧ H fr = some (.lst xs) ∧ FrsR H xs stk ∧ IsE H v ∧ xs.length ≤ 50000 ∧ (∀ n r, stk = .mk n :: r → n ≤ 40000) ∧
  ∀ (H' : Hp) (xs' : List V), But [fr] H H' → H' fr = some (.lst xs') → FrsR H' xs' (attach stk) → Q .non H'
theorem tyL {K : PySem.W.Frag} {H : Hp} {l : Addr} {xs : List V} (h : H l = some (.lst xs)) : tyV K "list" (.ref l) H := .inl ⟨rfl, _, SqL.of h⟩
theorem last_at {ys : List V} {v : V} : (ys ++ [v])[(ys ++ [v]).length - 1]? = some v := by simp
theorem drop_last {ys : List V} {v : V} : (ys ++ [v]).dropLast = ys := by simp
section
variable {P : Program} {w : World} {K : PySem.W.Frag} {mg : Str → Option Value} {base : Heap}
abbrev n_top_of : List Str := ["frames"]
theorem sc_top_of : FnScope n_top_of ["frames"] (defScope s_top_of) := ⟨rfl, rfl, rfl, by decide +kernel, rfl, by decide +kernel, by decide +kernel⟩
theorem ok_top_of (T : Txt K mg w) : Cal P w K mg base CX0 1 "top_of" ["frames"] spTop := by
  refine ⟨ok0 T.f_top_of sc_top_of (fun vs H Q E h => ?_) (fun _ _ _ _ _ _ us hl => match us, hl with | [_], _ => rfl) (fun cdv A outer s H vs Q E hr h => ?_), kpOf T.f_top_of, T.g_top_of⟩
  · obtain ⟨fr, xs, nm, rfl, _⟩ := h; rfl
  obtain ⟨fr, xs, nm, rfl, hf, ht, q⟩ := h
  refine ⟨_, (pss_one (ps_ret (pe_ifExp (pt_cmpR (op_neL hr.units0) (pv 0) (pe_lst pa_nil) (nomark _)) (pe_ix ix_tup (pe_ix ix_list (pv 0) (pe_un un_neg pe_int) (fun _ _ => rfl)) pe_int (fun _ _ => rfl)) pe_str))), ?_⟩
  refine ⟨_, rfl, small_sz (by simp), fun n hn => ?_⟩
  have e1 : Ex H (upd H n (.lst [])) := Ex.new hn
  refine ⟨fr, n, xs, rfl, rfl, SqL.of (e1 _ _ hf), SqL.of upd_same, _, rfl, ?_⟩
  rcases ht with ⟨rfl, rfl⟩ | ⟨ys, t, r, rfl, h2⟩
  · exact q _ e1
  · refine ite2 (fun h => ?_) (fun h => (h (by simp)).elim)
    refine ⟨_, rfl, _, rfl, fr, _, _, .ref t, rfl, rfl, SqL.of (e1 _ _ hf), atI_last _ _, t, _, _, _, rfl, rfl, SqT.of (e1 _ _ h2), atI_nat (j := 0) rfl, ?_⟩
    exact q _ e1
abbrev n_attach : List Str := ["frames", "atom"]
theorem sc_attach : FnScope n_attach ["frames", "atom"] (defScope s_attach) := ⟨rfl, rfl, rfl, by decide +kernel, rfl, by decide +kernel, by decide +kernel⟩
theorem ok_attach (T : Txt K mg w) : Cal P w K mg base CX0 2 "attach" ["frames", "atom"] spAttach := by
  have c_top_of : Cal P w K mg base _ _ _ _ _ := ok_top_of (P := P) (base := base) T
  refine ⟨ok0 T.f_attach sc_attach (fun vs H Q E h => ?_) (fun _ _ _ _ _ _ us hl => match us, hl with | [_, _], _ => rfl) (fun cdv A outer s H vs Q E hr h => ?_), kpOf T.f_attach, T.g_attach⟩
  · obtain ⟨fr, xs, stk, v, rfl, _⟩ := h; rfl
  obtain ⟨fr, xs, stk, v, rfl, hf, hs, hv, hlen, hmk, q⟩ := h
  refine ⟨_, (pss_one (ps_if (pt_cmpR op_eq (pe_cal c_top_of hr (by decide) rfl pass0 (pa_cons (pv 0) pa_nil)) pe_str (nomark _)) (pss_one (ps_expr (pe_bm PySem.F.plainAttrs_list PySem.F.slot_list_append PySem.F.type_list_append mt_append (pv 0) (pa_cons (pe_tup (pa_cons pe_str (pa_cons (pe_tup (StX.pa_star (pe_ix ix_tup (pe_bm0 PySem.F.plainAttrs_list PySem.F.slot_list_pop PySem.F.type_list_pop mt_pop (pv 0)) pe_int (fun _ _ => rfl)) (pa_cons (pv 1) pa_nil))) pa_nil))) pa_nil)))) (pss_one (ps_if (pt_cmpR op_eq (pe_cal c_top_of hr (by decide) rfl pass0 (pa_cons (pv 0) pa_nil)) pe_str (nomark _)) (pss_one (ps_expr (pe_bm PySem.F.plainAttrs_list PySem.F.slot_list_append PySem.F.type_list_append mt_append (pv 0) (pa_cons (pe_tup (pa_cons pe_str (pa_cons (pe_tup (pa_cons pe_str (pa_cons (pe_ix ix_tup (pe_bm0 PySem.F.plainAttrs_list PySem.F.slot_list_pop PySem.F.type_list_pop mt_pop (pv 0)) pe_int (fun _ _ => rfl)) (pa_cons (pv 1) pa_nil)))) pa_nil))) pa_nil)))) (pss_one (ps_expr (pe_bm PySem.F.plainAttrs_list PySem.F.slot_list_append PySem.F.type_list_append mt_append (pv 0) (pa_cons (pe_tup (pa_cons pe_str (pa_cons (pv 1) pa_nil))) pa_nil)))))))), ?_⟩
  refine ⟨_, rfl, fr, xs, topNm stk, rfl, hf, hs.top, fun H1 e1 => ⟨rfl, _, rfl, ?_⟩⟩
  have last : ∀ H2, Ex H H2 → (∀ r, stk ≠ .call :: r) → (∀ n r, stk ≠ .mk n :: r) → tDrop (tBM K "list" rAppend (tVar 0) (tCons (tTup (tCons (tC (.str "call")) (tCons (tVar 1) tNil))) tNil)) { nx := fun _ H' => Q .non H', rt := Q } [some (.ref fr), some v] H2 := by
    intro H2 e2 h1 h2
    refine ⟨_, rfl, tyL (e2 _ _ hf), _, rfl, small_sz (by simp), fun p hp => ?_⟩
    have e3 := e2.trans (Ex.new (o := .tup [.str "call", v]) hp)
    refine ⟨fr, xs, _, rfl, rfl, e3 _ _ hf, small_lt (by omega), ?_⟩
    have t3 : Tups H (upd (upd H2 p (.tup [.str "call", v])) fr (.lst (xs ++ [.ref p]))) := (Ex.tups e3).trans (Tups.lst (e3 _ _ hf))
    refine q _ _ ((ex_but.mp e3).mono (by simp) |>.trans (But.put (by simp))) upd_same ?_
    have ha : attach stk = .call :: stk := by
      cases stk with
      | nil => rfl
      | cons f r => cases f <;> first | rfl | exact absurd rfl (h2 _ _) | exact absurd rfl (h1 _)
    rw [ha]
    refine (hs.mono t3).push (.call ?_ (hv.mono t3))
    exact Tups.lst (e3 _ _ hf) p _ upd_same
  refine ite_nm (fun h => ?_) (fun h' => ?_)
  · obtain ⟨n, r, rfl⟩ := topMk h
    obtain ⟨ys, u, rfl, hs1, hu⟩ := hs.pop
    cases hu with
    | @mk a t n h1 h2 =>
      refine ⟨_, rfl, tyL (e1 _ _ hf), ?_⟩
      refine ⟨_, rfl, tyL (e1 _ _ hf), fr, _, _, rfl, rfl, e1 _ _ hf, last_at, ?_⟩
      rw [drop_last]
      have hf1 := e1 _ _ hf
      have t2 : Tups H (upd H1 fr (.lst ys)) := (Ex.tups e1).trans (Tups.lst hf1)
      refine ⟨a, _, _, .ref t, rfl, rfl, SqT.of (t2 _ _ h1), atI_nat (j := 1) rfl, ?_⟩
      obtain ⟨nm, ps, h3, h4, h5⟩ := h2
      have hn := hmk n r rfl
      refine ⟨t, _, rfl, .inl (SqT.of (t2 _ _ h3)), _, rfl, by rw [List.length_append, List.length_cons, List.length_cons, h4]; exact small_sz (by simp; omega), fun p hp => ?_⟩
      refine ⟨small_sz (by simp), fun p2 hp2 => ?_⟩
      have b2 : But [fr] H (upd H1 fr (.lst ys)) := ((ex_but.mp e1).mono (by simp)).trans (But.put (by simp))
      have b3 := b2.trans (But.new (S := [fr]) (o := .tup ((.str "make" :: nm :: ps) ++ [v])) hp)
      have b4 := b3.trans (But.new (S := [fr]) (o := .tup [.str "make", .ref p]) hp2)
      have t4 : Tups H (upd (upd (upd H1 fr (.lst ys)) p (.tup ((.str "make" :: nm :: ps) ++ [v]))) p2 (.tup [.str "make", .ref p])) := (t2.trans (Tups.new hp)).trans (Tups.new hp2)
      have hf4 : (upd (upd (upd H1 fr (.lst ys)) p (.tup ((.str "make" :: nm :: ps) ++ [v]))) p2 (.tup [.str "make", .ref p])) fr = some (.lst ys) := by
        have n1 : fr ≠ p := ne_of_none (H := upd H1 fr (.lst ys)) upd_same hp
        have n2 : fr ≠ p2 := ne_of_none (H := upd (upd H1 fr (.lst ys)) p _) (by rw [upd_ne n1]; exact upd_same) hp2
        rw [upd_ne n2, upd_ne n1]; exact upd_same
      refine ⟨fr, ys, _, rfl, rfl, hf4, small_lt (by simp at hlen; omega), ?_⟩
      have t5 := t4.trans (Tups.lst (o := .lst (ys ++ [.ref p2])) hf4)
      refine q _ _ (b4.trans (But.put (by simp))) upd_same ?_
      show FrsR _ _ (.mk (n + 1) :: r)
      refine (FrsR.mono hs1 t5).push (.mk (t := p) ?_ ⟨nm, ps ++ [v], ?_, by rw [List.length_append, h4]; rfl, fun x hx => ?_⟩)
      · exact Tups.lst hf4 p2 _ upd_same
      · refine Tups.lst hf4 p _ ?_
        rw [upd_ne (ne_of_none (H := upd (upd H1 fr (.lst ys)) p _) upd_same hp2)]
        exact upd_same
      · rcases List.mem_append.mp hx with hx | hx
        · exact (h5 x hx).mono t5
        · rw [List.mem_singleton.mp hx]; exact hv.mono t5
  · refine ⟨_, rfl, fr, xs, topNm stk, rfl, e1 _ _ hf, (hs.mono (Ex.tups e1)).top, fun H2 e2 => ⟨rfl, _, rfl, ?_⟩⟩
    refine ite_nm (fun h => ?_) (fun h => ?_)
    · obtain ⟨r, rfl⟩ := topCl h
      obtain ⟨ys, u, rfl, hs1, hu⟩ := hs.pop
      cases hu with
      | @call a e h1 h2 =>
        have e12 := e1.trans e2
        have hf2 := e12 _ _ hf
        refine ⟨_, rfl, tyL hf2, _, rfl, tyL hf2, fr, _, _, rfl, rfl, hf2, last_at, ?_⟩
        rw [drop_last]
        have t2 : Tups H (upd H2 fr (.lst ys)) := (Ex.tups e12).trans (Tups.lst hf2)
        refine ⟨a, _, _, _, rfl, rfl, SqT.of (t2 _ _ h1), atI_nat (j := 1) rfl, _, rfl, small_sz (by simp), fun p hp => ?_⟩
        refine ⟨small_sz (by simp), fun p2 hp2 => ?_⟩
        have b2 : But [fr] H (upd H2 fr (.lst ys)) := ((ex_but.mp e12).mono (by simp)).trans (But.put (by simp))
        have b3 := b2.trans (But.new (S := [fr]) (o := .tup [.str "call", e, v]) hp)
        have b4 := b3.trans (But.new (S := [fr]) (o := .tup [.str "call", .ref p]) hp2)
        have t4 : Tups H (upd (upd (upd H2 fr (.lst ys)) p (.tup [.str "call", e, v])) p2 (.tup [.str "call", .ref p])) := (t2.trans (Tups.new hp)).trans (Tups.new hp2)
        have hf4 : (upd (upd (upd H2 fr (.lst ys)) p (.tup [.str "call", e, v])) p2 (.tup [.str "call", .ref p])) fr = some (.lst ys) := by
          have n1 : fr ≠ p := ne_of_none (H := upd H2 fr (.lst ys)) upd_same hp
          have n2 : fr ≠ p2 := ne_of_none (H := upd (upd H2 fr (.lst ys)) p _) (by rw [upd_ne n1]; exact upd_same) hp2
          rw [upd_ne n2, upd_ne n1]; exact upd_same
        refine ⟨fr, ys, _, rfl, rfl, hf4, small_lt (by simp at hlen; omega), ?_⟩
        have t5 := t4.trans (Tups.lst (o := .lst (ys ++ [.ref p2])) hf4)
        refine q _ _ (b4.trans (But.put (by simp))) upd_same ?_
        show FrsR _ _ (.call :: r)
        refine (FrsR.mono hs1 t5).push (FrR.call (a := p2) (e := .ref p) ?_ (IsE.call (a := p) (e := e) (f := v) ?_ (h2.mono t5) (hv.mono t5)))
        · exact Tups.lst hf4 p2 _ upd_same
        · refine Tups.lst hf4 p _ ?_
          rw [upd_ne (ne_of_none (H := upd (upd H2 fr (.lst ys)) p _) upd_same hp2)]
          exact upd_same
    · exact last H2 (e1.trans e2) (fun r e => h (by rw [e]; rfl)) (fun n r e => h' (by rw [e]; rfl))
end
end Sh
set_option Elab.async false
set_option linter.all false
set_option maxRecDepth 100000
set_option maxHeartbeats 4000000
namespace Sh
open PySem PySem.Spec PyProof.Rows L2 Evl
/-- what the machine ends with from here -/
def res (ws : List Str) (c : Cfg) (n : Nat) : Option Nat := runC c ((ws.map kd).drop n) n
section
variable {ws : List Str} {c c' : Cfg} {n : Nat} {t : Tk}
theorem res_cons (h : ksAt ws n = some t) : res ws c n = match dl c t with | none => some n | some c' => res ws c' (n + 1) := by
  unfold res
  have hl : n < (ws.map kd).length := by
    unfold ksAt at h
    exact (List.getElem?_eq_some_iff.mp h).1
  have e : (ws.map kd).drop n = t :: (ws.map kd).drop (n + 1) := by
    rw [List.drop_eq_getElem_cons hl]
    unfold ksAt at h
    rw [List.getElem?_eq_getElem hl] at h
    rw [Option.some.inj h]
  rw [e]; rfl
theorem res_some (h : ksAt ws n = some t) (d : dl c t = some c') : res ws c n = res ws c' (n + 1) := by rw [res_cons h, d]
theorem res_bad (h : ksAt ws n = some t) (d : dl c t = none) : res ws c n = some n := by rw [res_cons h, d]
theorem res_end (h : ksAt ws n = none) : res ws c n = if acc c = true then none else some n := by
  unfold res
  rw [List.drop_eq_nil_of_le (by rw [List.length_map]; exact ksAt_none h)]; rfl
/-- two machines alike at the next token, and at the end -/
theorem res_like {d : Cfg} (h1 : ∀ t, ksAt ws n = some t → dl c t = dl d t) (h2 : ksAt ws n = none → acc c = acc d) : res ws c n = res ws d n := by
  cases h : ksAt ws n with
  | none => rw [res_end h, res_end h, h2 h]
  | some t => rw [res_cons h, res_cons h, h1 t h]
theorem res_stop (h1 : ∀ t, ksAt ws n = some t → dl c t = none) (h2 : ksAt ws n = none → acc c = false) : res ws c n = some n := by
  cases h : ksAt ws n with
  | none => rw [res_end h, h2 h]; rfl
  | some t => rw [res_cons h, h1 t h]
end
def BadP (K : PySem.W.Frag) (S : List Addr) (H : Hp) (r : Option Nat) (E : XK) : Prop := ∀ (i : Nat) (d : Addr) (H' : Hp), r = some i → But S H H' → H' d = some (.xd [("index", .int (i : Int))]) → E (.ref (He.ga K "BadText")) (some d) H'
theorem BadP.from {K : PySem.W.Frag} {S : List Addr} {H H1 : Hp} {r r' : Option Nat} {E : XK} (h : BadP K S H r E) (b : But S H H1) (e : r = r') : BadP K S H1 r' E := fun i d H' q b' hd => h i d H' (e.trans q) (b.trans b') hd
/-- a source beside a list of frames -/
structure FSt {α : Type} (R : Hp → V → α → Prop) (K : PySem.W.Frag) (H : Hp) (so dx tl : Addr) (tvs : List V) (ws : List Str) (n : Nat) (fr : Addr) (xs : List V) (stk : List α) : Prop where
  S : Src K H so dx tl tvs ws n
  f : H fr = some (.lst xs)
  p : Stk (R H) xs stk
  ne : tl ≠ fr
  len : stk.length ≤ n
def MonoR {α : Type} (R : Hp → V → α → Prop) : Prop := ∀ (H H' : Hp) (v : V) (f : α), Tups H H' → R H v f → R H' v f
theorem mono_F : MonoR FrR := fun _ _ _ _ t h => h.mono t
theorem mono_P : MonoR PFR := fun _ _ _ _ t h => h.mono t
section
variable {α : Type} {R : Hp → V → α → Prop} {K : PySem.W.Frag} {H H1 : Hp} {so dx tl fr : Addr} {tvs xs : List V} {ws : List Str} {n : Nat} {stk : List α} {f : α}
theorem FSt.fne (F : FSt R K H so dx tl tvs ws n fr xs stk) : fr ≠ so := fun z => by have := F.f; rw [z, F.S.o] at this; cases this
theorem FSt.ex (m : MonoR R) (F : FSt R K H so dx tl tvs ws n fr xs stk) (e : Ex H H1) : FSt R K H1 so dx tl tvs ws n fr xs stk := ⟨F.S.ex e, e _ _ F.f, F.p.imp fun _ _ q => m _ _ _ _ (Ex.tups e) q, F.ne, F.len⟩
theorem FSt.go (m : MonoR R) (F : FSt R K H so dx tl tvs ws n fr xs stk) (h : n < ws.length) : FSt R K (srcAt K H so dx tl (n + 1)) so dx tl tvs ws (n + 1) fr xs stk :=
  ⟨F.S.go h, by unfold srcAt; rw [upd_ne F.fne]; exact F.f, F.p.imp fun _ _ q => m _ _ _ _ F.S.tups q, F.ne, Nat.le_succ_of_le F.len⟩
/-- the frames' list changed -/
theorem FSt.put (m : MonoR R) (F : FSt R K H so dx tl tvs ws n fr xs stk) {ys : List V} {stk' : List α} (h : Stk (R (upd H fr (.lst ys))) ys stk') (hl : stk'.length ≤ n) : FSt R K (upd H fr (.lst ys)) so dx tl tvs ws n fr ys stk' :=
  ⟨⟨by rw [upd_ne (Ne.symm F.fne)]; exact F.S.o, by rw [upd_ne F.ne]; exact F.S.l, F.S.r.mono (Tups.lst F.f), F.S.le, F.S.sz⟩, upd_same, h, F.ne, hl⟩
theorem FSt.pop (m : MonoR R) (F : FSt R K H so dx tl tvs ws n fr xs (f :: stk)) : ∃ ys v, xs = ys ++ [v] ∧ R H v f ∧ FSt R K (upd H fr (.lst ys)) so dx tl tvs ws n fr ys stk := by
  obtain ⟨ys, v, e, h1, h2⟩ := F.p.pop
  exact ⟨ys, v, e, h2, F.put m (h1.imp fun _ _ q => m _ _ _ _ (Tups.lst F.f) q) (Nat.le_of_succ_le F.len)⟩
theorem FSt.push (m : MonoR R) (F : FSt R K H so dx tl tvs ws n fr xs stk) {v : V} (h : R H v f) (hl : stk.length + 1 ≤ n) : FSt R K (upd H fr (.lst (xs ++ [v]))) so dx tl tvs ws n fr (xs ++ [v]) (f :: stk) :=
  F.put m ((F.p.imp fun _ _ q => m _ _ _ _ (Tups.lst F.f) q).push (m _ _ _ _ (Tups.lst F.f) h)) hl
theorem FSt.xlen (F : FSt R K H so dx tl tvs ws n fr xs stk) : xs.length ≤ 40000 := by have := F.p.len; have := F.len; have := F.S.le; have := F.S.sz; omega
/-! calls of the source's methods -/
theorem mt_kind {σ : L2.St} {i : Nat} {E : XK} {Q : VK} (S : Src K H so dx tl tvs ws n) (hi : σ[i]? = some (some (.ref so))) (h : Q (.str (kTxt (ksAt ws n))) H) : tMeth (He.ga K "Source") "kind" (spKind K) [] E (tVar i) tNil σ H Q :=
  ⟨_, hi, so, dx, _, rfl, S.o, lk_kind, so, dx, tl, tvs, ws, n, rfl, S, h⟩
theorem mt_takes {σ : L2.St} {i : Nat} {E : XK} {Q : VK} (k : Tk) (S : Src K H so dx tl tvs ws n) (hi : σ[i]? = some (some (.ref so))) (h1 : ksAt ws n = some k → n < ws.length → Q (.bl true) (srcAt K H so dx tl (n + 1))) (h2 : ksAt ws n ≠ some k → Q (.bl false) H) :
    tMeth (He.ga K "Source") "takes" (spTakes K) [] E (tVar i) (tCons (tC (.str (kTxt (some k)))) tNil) σ H Q := ⟨_, hi, so, dx, _, rfl, S.o, lk_takes, so, dx, tl, tvs, ws, n, k, rfl, S, h1, h2⟩
theorem mt_take {σ : L2.St} {i : Nat} {E : XK} {Q : VK} (k : Tk) (S : Src K H so dx tl tvs ws n) (hi : σ[i]? = some (some (.ref so))) (h1 : ∀ z, ksAt ws n = some k → ws[n]? = some z → kd z = k → n < ws.length → Q (.str z) (srcAt K H so dx tl (n + 1)))
    (h2 : ksAt ws n ≠ some k → ∀ (d : Addr) (H' : Hp), Ex H H' → H' d = some (.xd [("index", .int (n : Int))]) → E (.ref (He.ga K "BadText")) (some d) H') :
    tMeth (He.ga K "Source") "take" (spTake K) [] E (tVar i) (tCons (tC (.str (kTxt (some k)))) tNil) σ H Q := ⟨_, hi, so, dx, _, rfl, S.o, lk_take, so, dx, tl, tvs, ws, n, k, rfl, S, h1, h2⟩
/-- frames.append((..)) -/
theorem st_app {σ : L2.St} {i : Nat} {te : TE} {D : Ends} (m : MonoR R) (F : FSt R K H so dx tl tvs ws n fr xs stk) (hi : σ[i]? = some (some (.ref fr))) (hl : stk.length + 1 ≤ n) (ts : List V)
    (ht : ∀ Q : VK, (∀ p H1, Ex H H1 → H1 p = some (.tup ts) → Q (.ref p) H1) → te σ H Q) (hk : ∀ p H1, Ex H H1 → H1 p = some (.tup ts) → R H1 (.ref p) f)
    (k : ∀ H2 xs2, But [fr] H H2 → Tups H H2 → FSt R K H2 so dx tl tvs ws n fr xs2 (f :: stk) → D.nx σ H2) : tDrop (tBM K "list" rAppend (tVar i) (tCons te tNil)) D σ H := by
  refine ⟨_, hi, tyL F.f, ht _ fun p H1 e1 hp => ?_⟩
  have F1 := F.ex m e1
  refine ⟨fr, xs, _, rfl, rfl, F1.f, small_lt (by have := F.xlen; omega), ?_⟩
  refine k _ _ (((ex_but.mp e1).mono (by simp)).trans (But.put (by simp))) ((Ex.tups e1).trans (Tups.lst F1.f)) (F1.push m (hk p H1 e1 hp) hl)
end
theorem tup1 {σ : L2.St} {H : Hp} {a : V} {ta : TE} (ha : ∀ Q : VK, Q a H → ta σ H Q) (Q : VK) (q : ∀ p H1, Ex H H1 → H1 p = some (.tup [a]) → Q (.ref p) H1) : tTup (tCons ta tNil) σ H Q := ha _ ⟨small_sz (by simp), fun p hp => q p _ (Ex.new hp) upd_same⟩
theorem tup2 {σ : L2.St} {H : Hp} {a b : V} {ta tb : TE} (ha : ∀ Q : VK, Q a H → ta σ H Q) (hb : ∀ Q : VK, Q b H → tb σ H Q) (Q : VK) (q : ∀ p H1, Ex H H1 → H1 p = some (.tup [a, b]) → Q (.ref p) H1) : tTup (tCons ta (tCons tb tNil)) σ H Q :=
  ha _ (hb _ ⟨small_sz (by simp), fun p hp => q p _ (Ex.new hp) upd_same⟩)
theorem v_c {σ : L2.St} {H : Hp} {v : V} (Q : VK) (q : Q v H) : tC v σ H Q := q
theorem v_v {σ : L2.St} {H : Hp} {v : V} {i : Nat} (h : σ[i]? = some (some v)) (Q : VK) (q : Q v H) : tVar i σ H Q := ⟨v, h, q⟩
/-! ### patterns -/
abbrev PSt := FSt PFR
def pLe (ps : List PF) (n : Nat) : Prop := ∀ k, PF.mk k ∈ ps → k ≤ n
theorem pLe.mono {ps : List PF} {n m : Nat} (h : pLe ps n) (l : n ≤ m) : pLe ps m := fun k hk => Nat.le_trans (h k hk) l
def spBeginI (K : PySem.W.Frag) : Sp := fun vs H Q E => ∃ (so dx tl fr : Addr) (tvs xs : List V) (ws : List Str) (n : Nat) (ps : List PF) (m : Nat) (s : List Fr), vs = [.ref so, .ref fr] ∧ PSt K H so dx tl tvs ws n fr xs ps ∧ wfp ps = true ∧
  (∀ H' v xs' ps' n', But [so, fr] H H' → PSt K H' so dx tl tvs ws n' fr xs' ps' → IsE H' v → n < n' → wfp ps' = true → (pLe ps n → pLe ps' n ) → res ws (.pb m ps s) n = res ws (.pa m (patt ps') s) n' → v ≠ .non → Q v H') ∧
  (∀ H' xs' ps' n', But [so, fr] H H' → PSt K H' so dx tl tvs ws n' fr xs' (.mk 0 :: ps') → n < n' → wfp (.mk 0 :: ps') = true → (pLe ps n → pLe ps' n) → res ws (.pb m ps s) n = res ws (.pa m (.mk 0 :: ps') s) n' → Q .non H') ∧
  BadP K [so, fr] H (res ws (.pb m ps s) n) E
def spReadP (K : PySem.W.Frag) : Sp := fun vs H Q E => ∃ (so dx tl : Addr) (tvs : List V) (ws : List Str) (n : Nat) (m : Nat) (s : List Fr), vs = [.ref so] ∧ Src K H so dx tl tvs ws n ∧
  (∀ H' v n', But [so] H H' → Src K H' so dx tl tvs ws n' → IsE H' v → n < n' → res ws (.pb m [] s) n = res ws (.pa m [] s) n' → Q v H') ∧ BadP K [so] H (res ws (.pb m [] s) n) E
section
variable {P : Program} {w : World} {K : PySem.W.Frag} {mg : Str → Option Value} {base : Heap}
abbrev n_begin_inner : List Str := ["source", "frames", "pattern"]
theorem sc_begin_inner : FnScope n_begin_inner ["source", "frames"] (defScope s_begin_inner) := ⟨rfl, rfl, rfl, by decide +kernel, rfl, by decide +kernel, by decide +kernel⟩
theorem ok_begin_inner (T : Txt K mg w) : Cal P w K mg base (L2.CX P w) 4 "begin_inner" ["source", "frames"] (spBeginI K) := by
  have c_top_of : Cal P w K mg base _ _ _ _ _ := ok_top_of (P := P) (base := base) T
  have m_kind : MCal P w K mg base _ _ _ _ _ _ := ok_kind (P := P) (base := base) T
  have m_take : MCal P w K mg base _ _ _ _ _ _ := ok_take (P := P) (base := base) T
  have m_takes : MCal P w K mg base _ _ _ _ _ _ := ok_takes (P := P) (base := base) T
  refine ⟨okX T.f_begin_inner sc_begin_inner (fun vs H Q E h => ?_) (fun _ _ _ _ _ _ us hl => match us, hl with | [_, _], _ => rfl) (fun cdv A outer s H vs Q E hr h => ?_), kpOf T.f_begin_inner, T.g_begin_inner⟩
  · obtain ⟨so, dx, tl, fr, tvs, xs, ws, n, ps, m, s, rfl, _⟩ := h; rfl
  obtain ⟨so, dx, tl, fr, tvs, xs, ws, n, ps, m, st, rfl, F, hwf, qA, qB, qE⟩ := h
  have tk : Takes (cxOf (L2.CX P w) P w K mg base n_begin_inner "begin_inner" (defScope s_begin_inner) (He.ga K "begin_inner") cdv A outer s H E) (fun cls d _ H => E cls d H) := takes_of rfl rfl rfl rfl
  refine ⟨_, (pss_cons (ps_while (passes_of rfl) (pt_val (pe_mcal m_takes hr (by decide) pass0 (pv 0) (pa_cons pe_str pa_nil))) (pss_one (ps_expr (pe_bm PySem.F.plainAttrs_list PySem.F.slot_list_append PySem.F.type_list_append mt_append (pv 1) (pa_cons (pe_tup (pa_cons pe_str pa_nil)) pa_nil)))))
    (pss_cons (ps_if (pt_val (pe_mcal m_takes hr (by decide) pass0 (pv 0) (pa_cons pe_str pa_nil))) (pss_one (ps_ret (pe_tup (pa_cons pe_str pa_nil)))) pss_nil)
    (pss_cons (ps_if (pt_cmpR op_eq (pe_mcal0 m_kind hr (by decide) pass0 (pv 0)) pe_str (nomark _)) (pss_one (ps_ret (pe_tup (pa_cons pe_str (pa_cons (pe_mcal m_take hr (by decide) (passes_call tk fun _ _ _ _ h => h) (pv 0) (pa_cons pe_str pa_nil)) pa_nil))))) pss_nil)
    (pss_cons (ps_set (i := 2) sc_begin_inner.nd rfl (by first | exact Or.inl rfl | exact Or.inr rfl) (pe_tup (pa_cons pe_str (pa_cons (pe_mcal m_take hr (by decide) (passes_call tk fun _ _ _ _ h => h) (pv 0) (pa_cons pe_str pa_nil)) pa_nil))))
    (pss_cons (ps_if (pt_cmpR op_eq (pe_cal c_top_of hr (by decide) rfl pass0 (pa_cons (pv 1) pa_nil)) pe_str (nomark _)) (pss_one (ps_ret (pv 2))) pss_nil)
    (pss_cons (ps_expr (pe_bm PySem.F.plainAttrs_list PySem.F.slot_list_append PySem.F.type_list_append mt_append (pv 1) (pa_cons (pe_tup (pa_cons pe_str (pa_cons (pv 2) pa_nil))) pa_nil)))
    (pss_one (ps_ret pe_non)))))))), ?_⟩
  refine ⟨fun mm σ H' => ∃ (xs' : List V) (ps' : List PF) (n' : Nat), σ = [some (.ref so), some (.ref fr), none] ∧ But [so, fr] H H' ∧ PSt K H' so dx tl tvs ws n' fr xs' ps' ∧ n ≤ n' ∧ wfp ps' = true ∧ (pLe ps n → pLe ps' n) ∧ res ws (.pb m ps st) n = res ws (.pb m ps' st) n' ∧ mm = ws.length - n',
    ⟨_, xs, ps, n, rfl, But.refl, F, Nat.le_refl _, hwf, id, rfl, rfl⟩, ?_⟩
  rintro mm σ H1 ⟨xs1, ps1, n1, rfl, b1, F1, hn1, wf1, le1, r1, rfl⟩
  refine mt_takes .lp F1.S rfl (fun hk hlt => ?_) (fun hk => ?_)
  · -- a bracket
    refine ⟨true, rfl, iteT ?_⟩
    have F2 := F1.go mono_P hlt
    refine ⟨fun σ2 H2 => ∃ (xs' : List V) (ps' : List PF) (n' : Nat), σ2 = [some (.ref so), some (.ref fr), none] ∧ But [so, fr] H H2 ∧ PSt K H2 so dx tl tvs ws n' fr xs' ps' ∧ n ≤ n' ∧ wfp ps' = true ∧ (pLe ps n → pLe ps' n) ∧ res ws (.pb m ps st) n = res ws (.pb m ps' st) n' ∧ n1 < n',
      fun σ2 H2 ⟨a, b, c, h1, h2, h3, h4, h5, h6, h7, h8⟩ => ⟨ws.length - c, by have := h3.S.le; omega, a, b, c, h1, h2, h3, h4, h5, h6, h7, rfl⟩, ?_⟩
    refine st_app mono_P F2 rfl (by have := F1.len; omega) [.str "bracket"] (tup1 v_c) (fun p H3 _ hp => .br hp) fun H2 xs2 b2 t2 F3 => ?_
    refine ⟨xs2, .br :: ps1, n1 + 1, rfl, (b1.trans (srcAt_but.mono (by simp))).trans (b2.mono (by simp)), F3, by omega, wf1, fun h k hk => ?_, r1.trans (res_some hk rfl), Nat.lt_succ_self _⟩
    exact le1 h k (by simpa using hk)
  · refine ⟨false, rfl, iteF ?_⟩
    -- _
    refine mt_takes .us F1.S rfl (fun hk2 hlt => ?_) (fun hk2 => ?_)
    · refine ⟨true, rfl, iteT ?_⟩
      have F2 := F1.go mono_P hlt
      refine tup1 v_c _ fun p H3 e3 hp => ?_
      exact qA H3 (.ref p) xs1 ps1 (n1 + 1) ((b1.trans (srcAt_but.mono (by simp))).trans ((ex_but.mp e3).mono (by simp))) (F2.ex mono_P e3) (.leaf hp (by decide +kernel)) (by omega) wf1 le1 (r1.trans (res_some hk2 rfl)) (by simp)
    refine ⟨false, rfl, iteF ?_⟩
    -- a word
    refine mt_kind F1.S rfl ⟨rfl, _, rfl, ?_⟩
    refine ite_kq (p := some .word) (fun hk3 => ?_) (fun hk3 => ?_)
    · refine mt_take .word F1.S rfl (fun z hk _ _ hlt => ?_) (fun h => absurd hk3 h)
      have F2 := F1.go mono_P hlt
      refine ⟨small_sz (by simp), fun p hp => ?_⟩
      have e3 := Ex.new (o := .tup [.str "word", .str z]) hp
      exact qA _ (.ref p) xs1 ps1 (n1 + 1) ((b1.trans (srcAt_but.mono (by simp))).trans ((ex_but.mp e3).mono (by simp))) (F2.ex mono_P e3) (.leaf upd_same (by decide +kernel)) (by omega) wf1 le1 (r1.trans (res_some hk3 rfl)) (by simp)
    -- a Name
    have bad : ksAt ws n1 ≠ some .name → res ws (.pb m ps st) n = some n1 := fun h4 => by
      rw [r1]
      refine res_stop (fun t ht => ?_) fun _ => rfl
      rw [ht] at hk hk2 hk3 h4
      cases t <;> first | rfl | exact absurd rfl hk | exact absurd rfl hk2 | exact absurd rfl hk3 | exact absurd rfl h4
    refine mt_take .name F1.S rfl (fun z hk4 _ _ hlt => ?_) (fun h4 d H' e' hd => qE n1 d H' (bad h4) (b1.trans ((ex_but.mp e').mono (by simp))) hd)
    have F2 := F1.go mono_P hlt
    have b2 : But [so, fr] H (srcAt K H1 so dx tl (n1 + 1)) := b1.trans (srcAt_but.mono (by simp))
    refine ⟨small_sz (by simp), fun p hp => ?_⟩
    have e3 := Ex.new (o := .tup [.str "make", .str z]) hp
    have F3 := F2.ex mono_P e3
    have hmk : MkR (upd (srcAt K H1 so dx tl (n1 + 1)) p (.tup [.str "make", .str z])) p 0 := ⟨.str z, [], upd_same, rfl, fun x hx => by simp at hx⟩
    refine ⟨_, rfl, fr, xs1, ptopNm ps1, rfl, F3.f, PFsR.top F3.p, fun H4 e4 => ⟨rfl, _, rfl, ?_⟩⟩
    have b4 : But [so, fr] H H4 := (b2.trans ((ex_but.mp e3).mono (by simp))).trans ((ex_but.mp e4).mono (by simp))
    have F4 := F3.ex mono_P e4
    refine ite_nm (fun h => ?_) (fun h => ?_)
    · obtain ⟨k, r, rfl⟩ := ptopMk h
      refine ⟨_, rfl, qA H4 (.ref p) xs1 (.mk k :: r) (n1 + 1) b4 F4 ((hmk.mono (Ex.tups e4)).isE (by omega)) (by omega) wf1 le1 (r1.trans (res_some hk4 rfl)) (by simp)⟩
    · have hnm : notMk ps1 = true := by
        cases ps1 with
        | nil => rfl
        | cons f r =>
          cases f with
          | br => rfl
          | mk k => exact absurd rfl h
      have hd : dl (.pb m ps1 st) .name = some (.pa m (.mk 0 :: ps1) st) := by
        cases ps1 with
        | nil => rfl
        | cons f r =>
          cases f with
          | br => rfl
          | mk k => exact absurd rfl h
      refine st_app mono_P F4 rfl (by have := F1.len; omega) [.str "make", .ref p] (tup2 v_c (v_v rfl)) (fun p2 H5 e5 hp2 => PFR.mk (t := p) hp2 (hmk.mono ((Ex.tups e4).trans (Ex.tups e5)))) fun H5 xs5 b5 t5 F5 => ?_
      exact qB H5 xs5 ps1 (n1 + 1) (b4.trans (b5.mono (by simp))) F5 (by omega) (by simp only [wfp, hnm, wf1, Bool.and_self]) le1 (r1.trans (res_some hk4 hd))
end
end Sh
set_option Elab.async false
set_option linter.all false
set_option maxRecDepth 100000
set_option maxHeartbeats 4000000
namespace Sh
open PySem PySem.Spec PyProof.Rows L2 Evl
theorem pLe.tail {f : PF} {ps : List PF} {n : Nat} (h : pLe (f :: ps) n) : pLe ps n := fun k hk => h k (List.mem_cons_of_mem _ hk)
theorem pLe.cons {f : PF} {ps : List PF} {n : Nat} (h : pLe ps n) (hf : ∀ k, f = .mk k → k ≤ n) : pLe (f :: ps) n := fun k hk => by
  rcases List.mem_cons.mp hk with e | e
  · exact hf k e.symm
  · exact h k e
theorem But.swap {a b : Addr} {H H' : Hp} (h : But [a, b] H H') (hb : H b = none) : But [a] H H' := (h.mono (S' := [b, a]) (by intro x hx; simp at hx ⊢; exact hx.symm)).drop hb
theorem notMk_tail {k : Nat} {r : List PF} (h : wfp (.mk k :: r) = true) : notMk r = true ∧ wfp r = true := by
  simp only [wfp, Bool.and_eq_true] at h; exact h
/-- a pattern's tuple and what was found behind it -/
theorem cat_found {K : PySem.W.Frag} {σ : L2.St} {H H1 : Hp} {i : Nat} {fv : V} {ta : TE} {t : Addr} {k k' : Nat} (hi : σ[i]? = some (some fv)) (hA : ∀ Q : VK, Q (.ref t) H1 → ta σ H Q) (hm : MkR H1 t k) (hk : k ≤ 40000)
    (hf : (fv ≠ .non ∧ IsE H1 fv ∧ k' = k + 1) ∨ (fv = .non ∧ k' = k)) (Q : VK) (q : ∀ p H', Ex H1 H' → MkR H' p k' → Q (.ref p) H') :
    tOp (rCatT K) ta (tIf (tTest (tOp (fun x y H Q => y = .non ∧ Q (.bl (decide (x = .non))) H) (tVar i) (tC .non))) (tTup tNil) (tTup (tCons (tVar i) tNil))) σ H Q := by
  refine hA _ ⟨_, hi, rfl, _, rfl, ?_⟩
  obtain ⟨nm, ps, h1, h2, h3⟩ := hm
  rcases hf with ⟨hn, hv, rfl⟩ | ⟨rfl, rfl⟩
  · refine ite2 (fun h => absurd (of_decide_eq_true h) hn) (fun _ => ?_)
    refine ⟨_, hi, small_sz (by simp), fun p hp => ?_⟩
    have e1 := Ex.new (o := .tup [fv]) hp
    refine ⟨t, p, _, [fv], rfl, rfl, SqT.of (e1 _ _ h1), SqT.of upd_same, by simp, small_sz (by simp; omega), fun h => (by simp at h), fun _ p2 hp2 => ?_⟩
    have e2 := e1.trans (Ex.new (o := .tup ((.str "make" :: nm :: ps) ++ [fv])) hp2)
    refine q p2 _ e2 ⟨nm, ps ++ [fv], upd_same, by rw [List.length_append, h2]; rfl, fun x hx => ?_⟩
    rcases List.mem_append.mp hx with hx | hx
    · exact (h3 x hx).mono (Ex.tups e2)
    · rw [List.mem_singleton.mp hx]; exact hv.mono (Ex.tups e2)
  · refine ite2 (fun _ => ?_) (fun h => (h (decide_eq_true rfl)).elim)
    refine ⟨small_sz (by simp), fun p hp => ?_⟩
    have e1 := Ex.new (o := .tup []) hp
    refine ⟨t, p, _, [], rfl, rfl, SqT.of (e1 _ _ h1), SqT.of upd_same, by simp, small_sz (by simp; omega), fun _ => ?_, fun h => absurd rfl h⟩
    exact q t _ e1 ⟨nm, ps, e1 _ _ h1, h2, fun x hx => (h3 x hx).mono (Ex.tups e1)⟩
section
variable {P : Program} {w : World} {K : PySem.W.Frag} {mg : Str → Option Value} {base : Heap}
abbrev n_read_pattern : List Str := ["source", "frames", "found", "pattern"]
theorem sc_read_pattern : FnScope n_read_pattern ["source"] (defScope s_read_pattern) := ⟨rfl, rfl, rfl, by decide +kernel, rfl, by decide +kernel, by decide +kernel⟩
theorem ok_read_pattern (T : Txt K mg w) : Cal P w K mg base (L2.CX P w) 5 "read_pattern" ["source"] (spReadP K) := by
  have c_top_of : Cal P w K mg base _ _ _ _ _ := ok_top_of (P := P) (base := base) T
  have m_kind : MCal P w K mg base _ _ _ _ _ _ := ok_kind (P := P) (base := base) T
  have m_take : MCal P w K mg base _ _ _ _ _ _ := ok_take (P := P) (base := base) T
  have c_begin_inner : Cal P w K mg base _ _ _ _ _ := ok_begin_inner (P := P) (base := base) T
  have c_BadText_init := ok_BadText_init (P := P) (base := base) T
  refine ⟨okX T.f_read_pattern sc_read_pattern (fun vs H Q E h => ?_) (fun _ _ _ _ _ _ us hl => match us, hl with | [_], _ => rfl) (fun cdv A outer s H vs Q E hr h => ?_), kpOf T.f_read_pattern, T.g_read_pattern⟩
  · obtain ⟨so, dx, tl, tvs, ws, n, m, s, rfl, _⟩ := h; rfl
  obtain ⟨so, dx, tl, tvs, ws, n, m, st, rfl, S, qA, qE⟩ := h
  have tk : Takes (cxOf (L2.CX P w) P w K mg base n_read_pattern "read_pattern" (defScope s_read_pattern) (He.ga K "read_pattern") cdv A outer s H E) (fun cls d _ H => E cls d H) := takes_of rfl rfl rfl rfl
  refine ⟨_, (pss_cons (ps_set (i := 1) sc_read_pattern.nd rfl (by first | exact Or.inl rfl | exact Or.inr rfl) (pe_lst pa_nil))
    (pss_cons (ps_set (i := 2) sc_read_pattern.nd rfl (by first | exact Or.inl rfl | exact Or.inr rfl) (pe_cal c_begin_inner hr (by decide) rfl (passes_call tk fun _ _ _ _ h => h) (pa_cons (pv 0) (pa_cons (pv 1) pa_nil))))
    (pss_one (ps_while (passes_of rfl) (pt_val pe_bl) (pss_cut (ps_if (pt_cmpR op_eq (pe_cal c_top_of hr (by decide) rfl pass0 (pa_cons (pv 1) pa_nil)) pe_str (nomark _)) (pss_cons (ps_set (i := 3) sc_read_pattern.nd rfl (by first | exact Or.inl rfl | exact Or.inr rfl) (pe_op op_catT (pe_ix ix_tup (pe_bm0 PySem.F.plainAttrs_list PySem.F.slot_list_pop PySem.F.type_list_pop mt_pop (pv 1)) pe_int (fun _ _ => rfl)) (pe_ifExp (pt_cmpR op_isN (pv 2) pe_non (nomark _)) (pe_tup pa_nil) (pe_tup (pa_cons (pv 2) pa_nil)))))
    (pss_cons (ps_if (pt_cmpR op_in_seq (pe_mcal0 m_kind hr (by decide) pass0 (pv 0)) (pe_tup (pa_cons pe_str (pa_cons pe_str (pa_cons pe_str (pa_cons pe_str pa_nil))))) (by first | exact nomark _ | rfl)) (pss_cons (ps_if (pt_cmpR op_gt (pe_callB call_len rfl T.b_len PySem.boot_len (pa_cons (pv 3) pa_nil)) (pe_op op_add (pgi rfl T.i_MOST_PARTS) pe_int) (nomark _)) (pss_one (ps_raise rfl tk (pmk_ex T.o_BadText T.in_BadText c_BadText_init hr (by decide) rfl T.g_BadText (pa_cons (pe_fld (pv 0) rfl) pa_nil)))) pss_nil)
    (pss_cons (ps_expr (pe_bm PySem.F.plainAttrs_list PySem.F.slot_list_append PySem.F.type_list_append mt_append (pv 1) (pa_cons (pe_tup (pa_cons pe_str (pa_cons (pv 3) pa_nil))) pa_nil)))
    (pss_cons (ps_set (i := 2) sc_read_pattern.nd rfl (by first | exact Or.inl rfl | exact Or.inr rfl) (pe_cal c_begin_inner hr (by decide) rfl (passes_call tk fun _ _ _ _ h => h) (pa_cons (pv 0) (pa_cons (pv 1) pa_nil))))
    (pss_one ps_continue)))) pss_nil)
    (pss_one (ps_set (i := 2) sc_read_pattern.nd rfl (by first | exact Or.inl rfl | exact Or.inr rfl) (pv 3))))) pss_nil)
    (pss_cons (ps_if (pt_cmpR (op_eqL hr.units0) (pv 1) (pe_lst pa_nil) (nomark _)) (pss_one (ps_ret (pv 2))) pss_nil)
    (pss_cons (ps_expr (pe_mcal m_take hr (by decide) (passes_call tk fun _ _ _ _ h => h) (pv 0) (pa_cons pe_str pa_nil)))
    (pss_one (ps_expr (pe_bm0 PySem.F.plainAttrs_list PySem.F.slot_list_pop PySem.F.type_list_pop mt_pop (pv 1))))))))))), ?_⟩
  refine ⟨small_sz (by simp), fun fr hfr => ?_⟩
  have e0 : Ex H (upd H fr (.lst [])) := Ex.new hfr
  have F0 : PSt K (upd H fr (.lst [])) so dx tl tvs ws n fr [] [] := ⟨S.ex e0, upd_same, Stk.nil, (fun z => by have := S.l; rw [z, hfr] at this; cases this), Nat.zero_le _⟩
  have bad : ∀ {H1 : Hp} {r : Option Nat}, But [so, fr] H H1 → res ws (.pb m [] st) n = r → BadP K [so, fr] H1 r E := fun b e i d H' q b' hd => qE i d H' (e.trans q) ((b.trans b').swap hfr) hd
  have b0 : But [so, fr] H (upd H fr (.lst [])) := (ex_but.mp e0).mono (by simp)
  -- the word of the loop
  let W : Nat → L2.St → Hp → Prop := fun mm σ H' => ∃ (fv : V) (pv : Option V) (xs : List V) (ps : List PF) (n' : Nat), σ = [some (.ref so), some (.ref fr), some fv, pv] ∧ But [so, fr] H H' ∧ PSt K H' so dx tl tvs ws n' fr xs ps ∧ n < n' ∧ wfp ps = true ∧ pLe ps (n' - 1) ∧ mm = ws.length - n' ∧
    ((fv ≠ .non ∧ IsE H' fv ∧ res ws (.pb m [] st) n = res ws (.pa m (patt ps) st) n') ∨ (fv = .non ∧ ∃ r, ps = .mk 0 :: r ∧ res ws (.pb m [] st) n = res ws (.pa m ps st) n'))
  have into : ∀ {H1 : Hp} {xs : List V} {ps : List PF} {n1 : Nat} {fv0 : Option V} {pv : Option V} {Nx : L2.St → Hp → Prop} {g : VK}, But [so, fr] H H1 → PSt K H1 so dx tl tvs ws n1 fr xs ps → n ≤ n1 → wfp ps = true → pLe ps n1 → res ws (.pb m [] st) n = res ws (.pb m ps st) n1 →
      (∀ v H' mm, n1 < ws.length → mm < ws.length - n1 → W mm [some (.ref so), some (.ref fr), some v, pv] H' → g v H') → spBeginI K [.ref so, .ref fr] H1 g E := by
    intro H1 xs ps n1 fv0 pv Nx g b1 F1 hn wf1 le1 r1 hg
    refine ⟨so, dx, tl, fr, tvs, xs, ws, n1, ps, m, st, rfl, F1, wf1, fun H' v xs' ps' n' b' F' hv hlt wf' le' r' hne => ?_, fun H' xs' ps' n' b' F' hlt wf' le' r' => ?_, bad b1 r1⟩
    · have hle := F'.S.le
      exact hg v H' (ws.length - n') (by omega) (by omega) ⟨v, pv, xs', ps', n', rfl, b1.trans b', F', by omega, wf', (le' le1).mono (by omega), rfl, .inl ⟨hne, hv, r1.trans r'⟩⟩
    · have hle := F'.S.le
      exact hg .non H' (ws.length - n') (by omega) (by omega) ⟨.non, pv, xs', .mk 0 :: ps', n', rfl, b1.trans b', F', by omega, wf', ((le' le1).mono (by omega)).cons (fun k e => by cases e; omega), rfl, .inr ⟨rfl, ps', rfl, r1.trans r'⟩⟩
  refine ⟨_, rfl, _, rfl, into (fv0 := none) (pv := none) (Nx := fun _ _ => True) b0 F0 (Nat.le_refl _) rfl (fun k hk => by simp at hk) rfl fun v H1 mm _ _ w1 => ?_⟩
  refine ⟨W, ⟨mm, w1⟩, ?_⟩
  rintro mm σ H1 ⟨fv, pv, xs, ps, n1, rfl, b1, F1, hn1, wf1, le1, rfl, hf⟩
  refine ⟨true, rfl, iteT ⟨fun σ2 H2 => ∃ m', m' < ws.length - n1 ∧ W m' σ2 H2, fun _ _ h => h, ?_⟩⟩
  -- behind the first if
  refine ⟨fun σ2 H2 => ∃ (v : V) (pv : Option V) (xs : List V) (ps : List PF), σ2 = [some (.ref so), some (.ref fr), some v, pv] ∧ But [so, fr] H H2 ∧ PSt K H2 so dx tl tvs ws n1 fr xs ps ∧ notMk ps = true ∧ wfp ps = true ∧ pLe ps n1 ∧ IsE H2 v ∧ v ≠ .non ∧ res ws (.pb m [] st) n = res ws (.pa m ps st) n1, ?_, ?_⟩
  · refine ⟨_, rfl, fr, xs, ptopNm ps, rfl, F1.f, PFsR.top F1.p, fun H2 e2 => ⟨rfl, _, rfl, ?_⟩⟩
    have F2 := F1.ex mono_P e2
    have b2 : But [so, fr] H H2 := b1.trans ((ex_but.mp e2).mono (by simp))
    refine ite_nm (fun h => ?_) (fun h => ?_)
    · obtain ⟨k, r, rfl⟩ := ptopMk h
      obtain ⟨nm1, wfr⟩ := notMk_tail wf1
      obtain ⟨ys, v, rfl, hv, F3⟩ := F2.pop mono_P
      have b3 : But [so, fr] H (upd H2 fr (.lst ys)) := b2.trans (But.put (by simp))
      have t3 : Tups H1 (upd H2 fr (.lst ys)) := (Ex.tups e2).trans (Tups.lst F2.f)
      cases hv with
      | @mk a t k h1 h2 =>
      have h1' := Tups.lst (o := .lst ys) F2.f _ _ h1
      have h2' := h2.mono (Tups.lst (o := .lst ys) F2.f)
      have hkn : k ≤ n1 - 1 := le1 k (by simp)
      have hle := F1.S.le
      have hsz := F1.S.sz
      obtain ⟨k', hf2, hk', r4⟩ : ∃ k', ((fv ≠ .non ∧ IsE (upd H2 fr (.lst ys)) fv ∧ k' = k + 1) ∨ (fv = .non ∧ k' = k)) ∧ k' ≤ n1 ∧ res ws (.pb m [] st) n = res ws (.pa m (.mk k' :: r) st) n1 := by
        rcases hf with ⟨g1, g2, g3⟩ | ⟨g1, r', g2, g3⟩
        · exact ⟨k + 1, .inl ⟨g1, g2.mono t3, rfl⟩, by omega, g3⟩
        · exact ⟨k, .inr ⟨g1, rfl⟩, by omega, g3⟩
      show tOp (rCatT _) _ (tIf _ _ _) _ _ _
      refine cat_found rfl (fun Q hQ => ⟨_, rfl, tyL F2.f, fr, _, _, rfl, rfl, F2.f, last_at, by rw [drop_last]; exact ⟨a, _, _, .ref t, rfl, rfl, SqT.of h1', atI_nat (j := 1) rfl, hQ⟩⟩) h2' (by omega) hf2 _ fun p H4 e4 hm => ?_
      have F4 := F3.ex mono_P e4
      have b4 : But [so, fr] H H4 := b3.trans ((ex_but.mp e4).mono (by simp))
      refine mt_kind F4.S rfl ⟨small_sz (by simp), fun q hq => ?_⟩
      have e5 := Ex.new (o := .tup [.str "_", .str "word", .str "Name", .str "("]) hq
      have F5 := F4.ex mono_P e5
      have b5 : But [so, fr] H _ := b4.trans ((ex_but.mp e5).mono (by simp))
      have hm5 := hm.mono (Ex.tups e5)
      refine ⟨q, _, rfl, .inr (SqT.of upd_same), rfl, rfl, _, rfl, ?_⟩
      refine ite_in [some .us, some .word, some .name, some .lp] rfl (fun hin => ?_) (fun hin => ?_)
      · obtain ⟨t4, ht4, hp4⟩ : ∃ t, ksAt ws n1 = some t ∧ patK t = true := by
          simp only [List.mem_cons, List.not_mem_nil, or_false] at hin
          rcases hin with h | h | h | h <;> exact ⟨_, h, rfl⟩
        obtain ⟨nm5, ps5, g1, g2, g3⟩ := id hm5
        refine ⟨_, rfl, _, _, rfl, .inr ⟨_, SqT.of g1, rfl⟩, _, _, rfl, rfl, _, _, rfl, rfl, _, rfl, ?_⟩
        refine ite2 (fun hlt => ?_) (fun hlt => ?_)
        · have hk3 : 3 ≤ k' := by have := of_decide_eq_true hlt; simp at this; omega
          refine raise_ok (v := .int (n1 : Int)) (fun Q hQ => ⟨_, rfl, so, _, dx, _, _, rfl, F5.S.o, T.c_Source, T.n_Source_at, lk_at, hQ⟩) fun d H' e' hd => ?_
          refine bad b5 (r := some n1) ?_ n1 d H' rfl ((ex_but.mp e').mono (by simp)) hd
          rw [r4]
          refine res_bad ht4 ?_
          show (if patK t4 = true then _ else _) = none
          rw [if_pos hp4, if_pos hk3]
        · have hk3 : ¬ 3 ≤ k' := fun c => hlt (decide_eq_true (by simp; omega))
          refine st_app mono_P F5 rfl (by have := F2.len; simpa using this) [.str "make", .ref p] (tup2 v_c (v_v rfl)) (fun p2 H6 e6 hp2 => PFR.mk (t := p) hp2 (hm5.mono (Ex.tups e6))) fun H6 xs6 b6 t6 F6 => ?_
          refine ⟨_, rfl, _, rfl, into (fv0 := none) (pv := some (.ref p)) (Nx := fun _ _ => True) (b5.trans (b6.mono (by simp))) F6 (by omega) (by simp only [wfp, nm1, wfr, Bool.and_self]) ?_ ?_ ?_⟩
          · exact (le1.tail.mono (by omega)).cons fun k2 e => by cases e; exact hk'
          · rw [r4]
            refine res_like (fun t5 ht5 => ?_) fun _ => rfl
            rw [ht4] at ht5
            cases ht5
            show (if patK t4 = true then _ else _) = _
            rw [if_pos hp4, if_neg hk3]; rfl
          · intro v H' mm' h1 h2 hW
            exact ⟨mm', h2, hW⟩
      · refine ⟨_, rfl, .ref p, some (.ref p), ys, r, rfl, b5, F5, nm1, wfr, le1.tail.mono (by omega), hm5.isE (by omega), by simp, ?_⟩
        rw [r4]
        refine res_like (fun t5 ht5 => ?_) fun _ => by cases r <;> rfl
        rw [ht5] at hin
        have hp5 : patK t5 = false := by
          cases t5 <;> first | rfl | exact absurd (by simp) hin
        show (if patK t5 = true then _ else _) = dPA m r st t5
        rw [if_neg (by rw [hp5]; decide), dPA_notMk nm1]
    · have hnm : notMk ps = true := by
        cases ps with
        | nil => rfl
        | cons f r =>
          cases f with
          | br => rfl
          | mk k => exact absurd rfl h
      rcases hf with ⟨g1, g2, g3⟩ | ⟨g1, r', g2, g3⟩
      · rw [patt_notMk hnm] at g3
        exact ⟨fv, pv, xs, ps, rfl, b2, F2, hnm, wf1, le1.mono (by omega), g2.mono (Ex.tups e2), g1, g3⟩
      · rw [g2] at hnm; simp [notMk] at hnm
  · rintro σ2 H2 ⟨v, pv2, xs2, ps2, rfl, b2, F2, nm2, wf2, le2, hv, hvn, r2⟩
    refine ⟨_, rfl, small_sz (by simp), fun q hq => ?_⟩
    have e3 := Ex.new (o := .lst []) hq
    have F3 := F2.ex mono_P e3
    have b3 : But [so, fr] H _ := b2.trans ((ex_but.mp e3).mono (by simp))
    refine ⟨fr, q, xs2, rfl, rfl, SqL.of F3.f, SqL.of upd_same, _, rfl, ?_⟩
    cases ps2 with
    | nil =>
      have : xs2 = [] := Stk.nil_iff F2.p
      subst this
      refine iteT ⟨_, rfl, ?_⟩
      exact qA _ v n1 (b3.swap hfr) F3.S (hv.mono (Ex.tups e3)) hn1 r2
    | cons f r =>
      cases f with
      | mk k => simp [notMk] at nm2
      | br =>
        have hx : xs2.isEmpty = false := by
          obtain ⟨ys, u, rfl, _⟩ := F2.p.pop
          simp
        rw [hx]
        refine iteF ?_
        refine mt_take .rp F3.S rfl (fun z hk _ _ hlt => ?_) (fun hk d H' e' hd => ?_)
        · have F4 := F3.go mono_P hlt
          obtain ⟨ys, u, rfl, hu, F5⟩ := F4.pop mono_P
          refine ⟨_, rfl, tyL F4.f, fr, _, _, rfl, rfl, F4.f, last_at, ?_⟩
          rw [drop_last]
          refine ⟨ws.length - (n1 + 1), by omega, v, pv2, ys, r, n1 + 1, rfl, (b3.trans (srcAt_but.mono (by simp))).trans (But.put (by simp)), F5, by omega, wfp_tail wf2, le2.tail, rfl, .inl ⟨hvn, ?_, r2.trans (res_some hk rfl)⟩⟩
          exact hv.mono (((Ex.tups e3).trans F3.S.tups).trans (Tups.lst F4.f))
        · refine bad b3 (r := some n1) ?_ n1 d H' rfl ((ex_but.mp e').mono (by simp)) hd
          rw [r2]
          refine res_stop (fun t ht => ?_) fun _ => rfl
          rw [ht] at hk
          show (if t = .rp then _ else none) = none
          rw [if_neg (fun z => hk (by rw [z]))]
end
end Sh
set_option Elab.async false
set_option linter.all false
set_option maxRecDepth 100000
set_option maxHeartbeats 4000000
namespace Sh
open PySem PySem.Spec PyProof.Rows L2 Evl
abbrev ESt := FSt FrR
def fLe (s : List Fr) (n : Nat) : Prop := ∀ k, (Fr.mk k ∈ s ∨ Fr.row k ∈ s) → k ≤ n
theorem fLe.mono {s : List Fr} {n m : Nat} (h : fLe s n) (l : n ≤ m) : fLe s m := fun k hk => Nat.le_trans (h k hk) l
theorem fLe.tail {f : Fr} {s : List Fr} {n : Nat} (h : fLe (f :: s) n) : fLe s n := fun k hk => h k (hk.imp (List.mem_cons_of_mem _) (List.mem_cons_of_mem _))
theorem fLe.cons {f : Fr} {s : List Fr} {n : Nat} (h : fLe s n) (h1 : ∀ k, f = .mk k → k ≤ n) (h2 : ∀ k, f = .row k → k ≤ n) : fLe (f :: s) n := fun k hk => by
  rcases hk with hk | hk
  · rcases List.mem_cons.mp hk with e | e
    · exact h1 k e.symm
    · exact h k (.inl e)
  · rcases List.mem_cons.mp hk with e | e
    · exact h2 k e.symm
    · exact h k (.inr e)
theorem fLe.nil {n : Nat} : fLe [] n := fun k hk => by rcases hk with h | h <;> simp at h
theorem fLe.attach {s : List Fr} {n : Nat} (h : fLe s n) : fLe (attach s) (n + 1) := by
  cases s with
  | nil => exact (h.mono (Nat.le_succ n)).cons (fun k e => by cases e) (fun k e => by cases e)
  | cons f r =>
    cases f with
    | mk k => exact (h.tail.mono (Nat.le_succ n)).cons (fun k' e => by cases e; exact Nat.succ_le_succ (h k (.inl (List.mem_cons_self ..)))) (fun k e => by cases e)
    | call => exact h.mono (Nat.le_succ n)
    | _ => exact (h.mono (Nat.le_succ n)).cons (fun k e => by cases e) (fun k e => by cases e)
theorem attach_len {s : List Fr} : (attach s).length ≤ s.length + 1 := by
  cases s with
  | nil => exact Nat.le_refl _
  | cons f r => cases f <;> simp [attach]
theorem wide_nm {s : List Fr} (h : s ≠ []) : inV (.str (topNm s)) [V.str "bracket", V.str "fun", V.str "in", V.str "let", V.str "matched", V.str "row"] = wideTop s := by
  cases s with
  | nil => exact absurd rfl h
  | cons f r => cases f <;> simp only [topNm, Fr.nm, wideTop, Fr.wide] <;> decide +kernel
section
variable {α : Type} {R : Hp → V → α → Prop} {K : PySem.W.Frag} {H H1 : Hp} {so dx tl fr : Addr} {tvs xs : List V} {ws : List Str} {n n' : Nat} {stk : List α} {f : α}
theorem FSt.but (m : MonoR R) (F : FSt R K H so dx tl tvs ws n fr xs stk) (b : But [so] H H1) (S : Src K H1 so dx tl tvs ws n') (h : n ≤ n') : FSt R K H1 so dx tl tvs ws n' fr xs stk :=
  have t : Tups H H1 := b.tups fun p hp xs e => by rw [List.mem_singleton.mp hp, F.S.o] at e; cases e
  ⟨S, b _ _ (by simpa using F.fne) F.f, F.p.imp fun _ _ q => m _ _ _ _ t q, F.ne, Nat.le_trans F.len h⟩
theorem FSt.tups (F : FSt R K H so dx tl tvs ws n fr xs stk) (b : But [so, fr] H H1) : Tups H H1 := b.tups fun p hp xs e => by
  rcases List.mem_cons.mp hp with z | z
  · rw [z, F.S.o] at e; cases e
  · rw [List.mem_singleton.mp z, F.f] at e; cases e
theorem mt_takeE {σ : L2.St} {i : Nat} {E : XK} {Q : VK} {ta : TE} (k : Tk) (S : Src K H so dx tl tvs ws n) (hi : σ[i]? = some (some (.ref so))) (ha : ∀ Q : VK, Q (.str (kTxt (some k))) H → ta σ H Q)
    (h1 : ∀ z, ksAt ws n = some k → ws[n]? = some z → kd z = k → n < ws.length → Q (.str z) (srcAt K H so dx tl (n + 1)))
    (h2 : ksAt ws n ≠ some k → ∀ (d : Addr) (H' : Hp), Ex H H' → H' d = some (.xd [("index", .int (n : Int))]) → E (.ref (He.ga K "BadText")) (some d) H') :
    tMeth (He.ga K "Source") "take" (spTake K) [] E (tVar i) (tCons ta tNil) σ H Q := ⟨_, hi, so, dx, _, rfl, S.o, lk_take, ha _ ⟨so, dx, tl, tvs, ws, n, k, rfl, S, h1, h2⟩⟩
end
def spOpen (K : PySem.W.Frag) : Sp := fun vs H Q E => ∃ (so dx tl fr : Addr) (tvs xs : List V) (ws : List Str) (n : Nat) (s : List Fr), vs = [.ref so, .ref fr] ∧ ESt K H so dx tl tvs ws n fr xs s ∧ wf s = true ∧ fLe s n ∧
  (∀ H' xs' s' n', But [so, fr] H H' → ESt K H' so dx tl tvs ws n' fr xs' s' → n ≤ n' → wf s' = true → fLe s' n' → res ws (.opd s) n = res ws (.opd s') n' → ksAt ws n' ≠ some .lp → ksAt ws n' ≠ some .kmatch →
    (ksAt ws n' = some .kfun ∨ ksAt ws n' = some .klet → wideTop s' = false) → Q .non H') ∧ BadP K [so, fr] H (res ws (.opd s) n) E
section
variable {P : Program} {w : World} {K : PySem.W.Frag} {mg : Str → Option Value} {base : Heap}
abbrev n_open_wide : List Str := ["source", "frames", "kind", "word"]
theorem sc_open_wide : FnScope n_open_wide ["source", "frames"] (defScope s_open_wide) := ⟨rfl, rfl, rfl, by decide +kernel, rfl, by decide +kernel, by decide +kernel⟩
theorem ok_open_wide (T : Txt K mg w) : Cal P w K mg base (L2.CX P w) 4 "open_wide" ["source", "frames"] (spOpen K) := by
  have c_top_of : Cal P w K mg base _ _ _ _ _ := ok_top_of (P := P) (base := base) T
  have m_kind : MCal P w K mg base _ _ _ _ _ _ := ok_kind (P := P) (base := base) T
  have m_take : MCal P w K mg base _ _ _ _ _ _ := ok_take (P := P) (base := base) T
  refine ⟨okX T.f_open_wide sc_open_wide (fun vs H Q E h => ?_) (fun _ _ _ _ _ _ us hl => match us, hl with | [_, _], _ => rfl) (fun cdv A outer s H vs Q E hr h => ?_), kpOf T.f_open_wide, T.g_open_wide⟩
  · obtain ⟨so, dx, tl, fr, tvs, xs, ws, n, s, rfl, _⟩ := h; rfl
  obtain ⟨so, dx, tl, fr, tvs, xs, ws, n, st, rfl, F, hwf, hle, qA, qE⟩ := h
  have tk : Takes (cxOf (L2.CX P w) P w K mg base n_open_wide "open_wide" (defScope s_open_wide) (He.ga K "open_wide") cdv A outer s H E) (fun cls d _ H => E cls d H) := takes_of rfl rfl rfl rfl
  refine ⟨_, (pss_one (ps_while (passes_of rfl) (pt_cmpR op_in_seq (pe_mcal0 m_kind hr (by decide) pass0 (pv 0)) (pe_tup (pa_cons pe_str (pa_cons pe_str (pa_cons pe_str (pa_cons pe_str pa_nil))))) (by first | exact nomark _ | rfl)) (pss_cons (ps_set (i := 2) sc_open_wide.nd rfl (by first | exact Or.inl rfl | exact Or.inr rfl) (pe_mcal0 m_kind hr (by decide) pass0 (pv 0)))
    (pss_cut (ps_if (PW.pt (pw_and (pt_cmpR op_in_seq (pv 2) (pe_tup (pa_cons pe_str (pa_cons pe_str pa_nil))) (by first | exact nomark _ | rfl)) (pw_and (pt_cmpR (op_neL hr.units0) (pv 1) (pe_lst pa_nil) (nomark _)) (pw_and1 (pt_cmpR op_notIn_seq (pe_cal c_top_of hr (by decide) rfl pass0 (pa_cons (pv 1) pa_nil)) (pgr rfl T.g_WIDE) (by first | exact nomark _ | rfl)))))) (pss_one ps_retN) pss_nil)
    (pss_cons (ps_expr (pe_mcal m_take hr (by decide) (passes_call tk fun _ _ _ _ h => h) (pv 0) (pa_cons (pv 2) pa_nil)))
    (pss_one (ps_if (pt_cmpR op_eq (pv 2) pe_str (nomark _)) (pss_one (ps_expr (pe_bm PySem.F.plainAttrs_list PySem.F.slot_list_append PySem.F.type_list_append mt_append (pv 1) (pa_cons (pe_tup (pa_cons pe_str pa_nil)) pa_nil)))) (pss_one (ps_if (pt_cmpR op_eq (pv 2) pe_str (nomark _)) (pss_one (ps_expr (pe_bm PySem.F.plainAttrs_list PySem.F.slot_list_append PySem.F.type_list_append mt_append (pv 1) (pa_cons (pe_tup (pa_cons pe_str pa_nil)) pa_nil)))) (pss_cons (ps_set (i := 3) sc_open_wide.nd rfl (by first | exact Or.inl rfl | exact Or.inr rfl) (pe_mcal m_take hr (by decide) (passes_call tk fun _ _ _ _ h => h) (pv 0) (pa_cons pe_str pa_nil)))
    (pss_cons (ps_expr (pe_mcal m_take hr (by decide) (passes_call tk fun _ _ _ _ h => h) (pv 0) (pa_cons (pe_ifExp (pt_cmpR op_eq (pv 2) pe_str (nomark _)) pe_str pe_str) pa_nil)))
    (pss_one (ps_expr (pe_bm PySem.F.plainAttrs_list PySem.F.slot_list_append PySem.F.type_list_append mt_append (pv 1) (pa_cons (pe_tup (pa_cons (pv 2) (pa_cons (pv 3) pa_nil))) pa_nil))))))))))))))), ?_⟩
  let W : Nat → L2.St → Hp → Prop := fun mm σ H' => ∃ (kv wv : Option V) (xs' : List V) (s' : List Fr) (n' : Nat), σ = [some (.ref so), some (.ref fr), kv, wv] ∧ But [so, fr] H H' ∧ ESt K H' so dx tl tvs ws n' fr xs' s' ∧ n ≤ n' ∧ wf s' = true ∧ fLe s' n' ∧ res ws (.opd st) n = res ws (.opd s') n' ∧ mm = ws.length - n'
  refine ⟨W, ⟨_, none, none, xs, st, n, rfl, But.refl, F, Nat.le_refl _, hwf, hle, rfl, rfl⟩, ?_⟩
  rintro mm σ H1 ⟨kv, wv, xs1, s1, n1, rfl, b1, F1, hn1, wf1, le1, r1, rfl⟩
  refine mt_kind F1.S rfl ⟨small_sz (by simp), fun q hq => ⟨q, _, rfl, .inr (SqT.of upd_same), rfl, rfl, _, rfl, ?_⟩⟩
  have e2 := Ex.new (o := .tup [.str "(", .str "match", .str "fun", .str "let"]) hq
  have F2 := F1.ex mono_F e2
  have b2 := b1.trans ((ex_but.mp e2).mono (S' := [so, fr]) (by simp))
  refine ite_in [some .lp, some .kmatch, some .kfun, some .klet] rfl (fun hin => ?_) (fun hin => ?_)
  · obtain ⟨t, ht, h4⟩ : ∃ t, ksAt ws n1 = some t ∧ (t = .lp ∨ t = .kmatch ∨ t = .kfun ∨ t = .klet) := by
      simp only [List.mem_cons, List.not_mem_nil, or_false] at hin
      rcases hin with h | h | h | h <;> exact ⟨_, h, by simp⟩
    refine ⟨fun σ2 H2 => ∃ m', m' < ws.length - n1 ∧ W m' σ2 H2, fun _ _ h => h, ?_⟩
    refine mt_kind F2.S rfl ?_
    rw [ht]
    refine ⟨fun σ2 H2 => σ2 = [some (.ref so), some (.ref fr), some (.str (kTxt (some t))), wv] ∧ But [so, fr] H H2 ∧ ESt K H2 so dx tl tvs ws n1 fr xs1 s1 ∧ (t = .kfun ∨ t = .klet → wideTop s1 = true), ?_, ?_⟩
    · refine ⟨_, rfl, small_sz (by simp), fun q2 hq2 => ⟨q2, _, rfl, .inr (SqT.of upd_same), rfl, rfl, _, rfl, ?_⟩⟩
      have e3 := Ex.new (o := .tup [.str "fun", .str "let"]) hq2
      have F3 := F2.ex mono_F e3
      have b3 := b2.trans ((ex_but.mp e3).mono (S' := [so, fr]) (by simp))
      refine ite_in [some .kfun, some .klet] rfl (fun hfl => ?_) (fun hfl => ?_)
      · refine ⟨_, rfl, small_sz (by simp), fun q3 hq3 => ?_⟩
        have e4 := Ex.new (o := .lst []) hq3
        have F4 := F3.ex mono_F e4
        have b4 := b3.trans ((ex_but.mp e4).mono (S' := [so, fr]) (by simp))
        refine ⟨fr, q3, xs1, rfl, rfl, SqL.of F4.f, SqL.of upd_same, _, rfl, ?_⟩
        cases s1 with
        | nil =>
          have : xs1 = [] := Stk.nil_iff F2.p
          subst this
          exact iteF (iteF ⟨rfl, b4, F4, fun _ => rfl⟩)
        | cons f r =>
          have hx : xs1.isEmpty = false := by
            obtain ⟨ys, u, rfl, _⟩ := F2.p.pop
            simp
          rw [hx]
          refine iteT ?_
          refine ⟨_, rfl, fr, xs1, topNm (f :: r), rfl, F4.f, FrsR.top F4.p, fun H5 e5 => ?_⟩
          have F5 := F4.ex mono_F e5
          have b5 := b4.trans ((ex_but.mp e5).mono (S' := [so, fr]) (by simp))
          refine ⟨_, _, rfl, .inr (T.t_WIDE _), rfl, rfl, _, rfl, ?_⟩
          show if (!inV _ _) = true then _ else _
          rw [wide_nm (by simp)]
          cases hw : wideTop (f :: r) with
          | true => exact iteF ⟨rfl, b5, F5, fun _ => rfl⟩
          | false =>
            refine iteT ?_
            refine qA H5 xs1 (f :: r) n1 b5 F5 hn1 wf1 le1 r1 ?_ ?_ (fun _ => hw)
            · rintro z
              rw [ht] at z; cases z
              exact absurd hfl (by decide)
            · rintro z
              rw [ht] at z; cases z
              exact absurd hfl (by decide)
      · refine iteF ⟨rfl, b3, F3, fun h => absurd ?_ hfl⟩
        rcases h with rfl | rfl <;> simp
    rintro σ2 H2 ⟨rfl, b3, F3, hw⟩
    refine mt_takeE t F3.S rfl (fun Q q => ⟨_, rfl, q⟩) (fun z _ _ _ hlt => ?_) (fun h => absurd ht h)
    have F4 := F3.go mono_F hlt
    have b4 := b3.trans (srcAt_but (K := K) (H := H2) (so := so) (dx := dx) (tl := tl) (m := n1 + 1) |>.mono (S' := [so, fr]) (by simp))
    refine ⟨_, rfl, rfl, _, rfl, ?_⟩
    refine ite_kq (o := some t) (p := some .lp) (fun h => ?_) (fun h => ?_)
    · cases h
      refine st_app mono_F F4 rfl (by have := F3.len; omega) [.str "bracket"] (tup1 v_c) (fun p H5 _ hp => FrR.br hp) fun H5 xs5 b5 t5 F5 => ?_
      have := F5.S.le
      exact ⟨ws.length - (n1 + 1), by omega, _, _, xs5, .br :: s1, n1 + 1, rfl, b4.trans (b5.mono (by simp)), F5, by omega, wf_cons wf1 ok_br, (le1.mono (Nat.le_succ _)).cons (fun k e => by cases e) (fun k e => by cases e), r1.trans (res_some ht rfl), rfl⟩
    refine ⟨_, rfl, rfl, _, rfl, ?_⟩
    refine ite_kq (o := some t) (p := some .kmatch) (fun h' => ?_) (fun h' => ?_)
    · cases h'
      refine st_app mono_F F4 rfl (by have := F3.len; omega) [.str "matched"] (tup1 v_c) (fun p H5 _ hp => FrR.matched hp) fun H5 xs5 b5 t5 F5 => ?_
      have := F5.S.le
      exact ⟨ws.length - (n1 + 1), by omega, _, _, xs5, .matched :: s1, n1 + 1, rfl, b4.trans (b5.mono (by simp)), F5, by omega, wf_cons wf1 ok_matched, (le1.mono (Nat.le_succ _)).cons (fun k e => by cases e) (fun k e => by cases e), r1.trans (res_some ht rfl), rfl⟩
    have hfl : t = .kfun ∨ t = .klet := by
      rcases h4 with rfl | rfl | rfl | rfl
      · exact absurd rfl h
      · exact absurd rfl h'
      · exact .inl rfl
      · exact .inr rfl
    have hw1 := hw hfl
    -- the two machines' states
    obtain ⟨cW, cA, f, sep, d1, d2, d3, hsep, hf, hnf, hfr⟩ : ∃ (cW cA : Cfg) (f : Fr) (sep : Tk), dl (.opd s1) t = some cW ∧ (∀ u, dl cW u = if u = .word then some cA else none) ∧ (∀ u, dl cA u = if u = sep then some (.opd (f :: s1)) else none) ∧
        (if t = .kfun then sep = .arrow else sep = .eq) ∧ (f = .fn ∨ f = .lt) ∧ (acc cW = false ∧ acc cA = false) ∧ (∀ (H : Hp) (p : Addr) (x : V), H p = some (.tup [.str (kTxt (some t)), x]) → FrR H (.ref p) f) := by
      rcases hfl with rfl | rfl
      · exact ⟨.funW s1, .funA s1, .fn, .arrow, by simp only [dl, dOpd]; rw [if_pos hw1], fun u => rfl, fun u => rfl, rfl, .inl rfl, ⟨rfl, rfl⟩, fun H p x h => .fn h⟩
      · exact ⟨.letW s1, .letE s1, .lt, .eq, by simp only [dl, dOpd]; rw [if_pos hw1], fun u => rfl, fun u => rfl, rfl, .inr rfl, ⟨rfl, rfl⟩, fun H p x h => .lt h⟩
    have r2 : res ws (.opd st) n = res ws cW (n1 + 1) := r1.trans (res_some ht d1)
    refine mt_take .word F4.S rfl (fun z hk _ _ hlt2 => ?_) (fun hk d H' e' hd => ?_)
    · have F5 := F4.go mono_F hlt2
      have b5 := b4.trans (srcAt_but (K := K) (H := srcAt K H2 so dx tl (n1 + 1)) (so := so) (dx := dx) (tl := tl) (m := n1 + 1 + 1) |>.mono (S' := [so, fr]) (by simp))
      have r3 : res ws (.opd st) n = res ws cA (n1 + 1 + 1) := r2.trans (res_some hk (by rw [d2]; rfl))
      refine mt_takeE sep F5.S rfl (fun Q q => ?_) (fun z2 hk2 _ _ hlt3 => ?_) (fun hk2 d H' e' hd => ?_)
      · refine ⟨_, rfl, rfl, _, rfl, ?_⟩
        refine ite_kq (o := some t) (p := some .kfun) (fun h5 => ?_) (fun h5 => ?_)
        · cases h5
          rw [if_pos rfl] at hsep
          subst hsep
          exact q
        · rw [if_neg (fun z => h5 (by rw [z]))] at hsep
          subst hsep
          exact q
      · have F6 := F5.go mono_F hlt3
        have b6 := b5.trans (srcAt_but (K := K) (H := srcAt K (srcAt K H2 so dx tl (n1 + 1)) so dx tl (n1 + 1 + 1)) (so := so) (dx := dx) (tl := tl) (m := n1 + 1 + 1 + 1) |>.mono (S' := [so, fr]) (by simp))
        refine st_app mono_F F6 rfl (by have := F3.len; omega) [.str (kTxt (some t)), .str z] (tup2 (v_v rfl) (v_v rfl)) (fun p H7 _ hp => hfr H7 p _ hp) fun H7 xs7 b7 t7 F7 => ?_
        have := F7.S.le
        refine ⟨ws.length - (n1 + 1 + 1 + 1), by omega, _, _, xs7, f :: s1, n1 + 1 + 1 + 1, rfl, b6.trans (b7.mono (by simp)), F7, by omega, wf_cons wf1 (ok_wide (by rcases hf with h | h <;> simp [h]) hw1), (le1.mono (by omega)).cons (fun k e => by rcases hf with h | h <;> rw [h] at e <;> cases e) (fun k e => by rcases hf with h | h <;> rw [h] at e <;> cases e), r3.trans (res_some hk2 (by rw [d3]; rw [if_pos rfl])), rfl⟩
      · refine qE _ d H' (r3.trans (res_stop (fun u hu => ?_) fun _ => hnf.2)) (b5.trans ((ex_but.mp e').mono (by simp))) hd
        rw [d3, if_neg (fun z => hk2 (by rw [hu, z]))]
    · refine qE _ d H' (r2.trans (res_stop (fun u hu => ?_) fun _ => hnf.1)) (b4.trans ((ex_but.mp e').mono (by simp))) hd
      rw [d2, if_neg (fun z => hk (by rw [hu, z]))]
  · refine qA _ xs1 s1 n1 b2 F2 hn1 wf1 le1 r1 (fun z => hin (by rw [z]; simp)) (fun z => hin (by rw [z]; simp)) (fun h => ?_)
    rcases h with z | z <;> exact absurd (by rw [z]; simp) hin
end
end Sh
set_option Elab.async false
set_option linter.all false
set_option maxRecDepth 100000
set_option maxHeartbeats 4000000
namespace Sh
open PySem PySem.Spec PyProof.Rows L2 Evl
/-- what the readers of an operand hand back: an atom, or None and an open make -/
def OpdP (K : PySem.W.Frag) (so dx tl : Addr) (tvs : List V) (ws : List Str) (n : Nat) (fr : Addr) (H : Hp) (r0 : Option Nat) (Q : VK) : Prop :=
  (∀ H' v xs' s' n', But [so, fr] H H' → ESt K H' so dx tl tvs ws n' fr xs' s' → IsE H' v → v ≠ .non → n < n' → s'.length + 1 ≤ n' → wf s' = true → fLe s' (n' - 1) → r0 = res ws (.aft (attach s')) n' → Q v H') ∧
  (∀ H' xs' s' n', But [so, fr] H H' → ESt K H' so dx tl tvs ws n' fr xs' (.mk 0 :: s') → n < n' → wf (.mk 0 :: s') = true → fLe (.mk 0 :: s') (n' - 1) → r0 = res ws (.aft (.mk 0 :: s')) n' → Q .non H')
theorem OpdP.from {K : PySem.W.Frag} {so dx tl fr : Addr} {tvs : List V} {ws : List Str} {n n1 : Nat} {H H1 : Hp} {r0 r1 : Option Nat} {Q : VK} (h : OpdP K so dx tl tvs ws n fr H r0 Q) (b : But [so, fr] H H1) (hn : n ≤ n1) (e : r0 = r1) : OpdP K so dx tl tvs ws n1 fr H1 r1 Q :=
  ⟨fun H' v xs' s' n' b' F hv hne hlt hl w f r => h.1 H' v xs' s' n' (b.trans b') F hv hne (by omega) hl w f (e.trans r), fun H' xs' s' n' b' F hlt w f r => h.2 H' xs' s' n' (b.trans b') F (by omega) w f (e.trans r)⟩
def spOperand (K : PySem.W.Frag) : Sp := fun vs H Q E => ∃ (so dx tl fr : Addr) (tvs xs : List V) (ws : List Str) (n : Nat) (s : List Fr), vs = [.ref so, .ref fr] ∧ ESt K H so dx tl tvs ws n fr xs s ∧ wf s = true ∧ fLe s n ∧
  OpdP K so dx tl tvs ws n fr H (res ws (.opd s) n) Q ∧ BadP K [so, fr] H (res ws (.opd s) n) E
theorem topM_nm {s : List Fr} (h : inV (.str (topNm s)) [V.str "call", V.str "make"] = true) : topM s = true := by
  cases s with
  | nil => exact absurd h (by decide +kernel)
  | cons f r => cases f <;> first | rfl | (simp only [topNm, Fr.nm] at h; exact absurd h (by decide +kernel))
theorem topM_nmF {s : List Fr} (h : ¬ inV (.str (topNm s)) [V.str "call", V.str "make"] = true) : topM s = false := by
  cases s with
  | nil => rfl
  | cons f r => cases f <;> first | rfl | (simp only [topNm, Fr.nm] at h; exact absurd (by decide +kernel) h)
section
variable {P : Program} {w : World} {K : PySem.W.Frag} {mg : Str → Option Value} {base : Heap}
abbrev n_begin_operand : List Str := ["source", "frames", "kind", "found"]
theorem sc_begin_operand : FnScope n_begin_operand ["source", "frames"] (defScope s_begin_operand) := ⟨rfl, rfl, rfl, by decide +kernel, rfl, by decide +kernel, by decide +kernel⟩
theorem ok_begin_operand (T : Txt K mg w) : Cal P w K mg base (L2.CX P w) 5 "begin_operand" ["source", "frames"] (spOperand K) := by
  have c_top_of : Cal P w K mg base _ _ _ _ _ := ok_top_of (P := P) (base := base) T
  have c_open_wide : Cal P w K mg base _ _ _ _ _ := ok_open_wide (P := P) (base := base) T
  have m_kind : MCal P w K mg base _ _ _ _ _ _ := ok_kind (P := P) (base := base) T
  have m_take : MCal P w K mg base _ _ _ _ _ _ := ok_take (P := P) (base := base) T
  have m_takes : MCal P w K mg base _ _ _ _ _ _ := ok_takes (P := P) (base := base) T
  refine ⟨okX T.f_begin_operand sc_begin_operand (fun vs H Q E h => ?_) (fun _ _ _ _ _ _ us hl => match us, hl with | [_, _], _ => rfl) (fun cdv A outer s H vs Q E hr h => ?_), kpOf T.f_begin_operand, T.g_begin_operand⟩
  · obtain ⟨so, dx, tl, fr, tvs, xs, ws, n, s, rfl, _⟩ := h; rfl
  obtain ⟨so, dx, tl, fr, tvs, xs, ws, n, st, rfl, F, hwf, hle, ⟨qA, qB⟩, qE⟩ := h
  have tk : Takes (cxOf (L2.CX P w) P w K mg base n_begin_operand "begin_operand" (defScope s_begin_operand) (He.ga K "begin_operand") cdv A outer s H E) (fun cls d _ H => E cls d H) := takes_of rfl rfl rfl rfl
  refine ⟨_, (pss_cons (ps_expr (pe_cal c_open_wide hr (by decide) rfl (passes_call tk fun _ _ _ _ h => h) (pa_cons (pv 0) (pa_cons (pv 1) pa_nil))))
    (pss_cons (ps_set (i := 2) sc_begin_operand.nd rfl (by first | exact Or.inl rfl | exact Or.inr rfl) (pe_mcal0 m_kind hr (by decide) pass0 (pv 0)))
    (pss_cons (ps_if (pt_cmpR op_eq (pv 2) pe_str (nomark _)) (pss_one (ps_ret (pe_tup (pa_cons pe_str (pa_cons (pe_callTy call_int_str rfl T.b_int (by decide +kernel) (pa_cons (pe_mcal m_take hr (by decide) (passes_call tk fun _ _ _ _ h => h) (pv 0) (pa_cons pe_str pa_nil)) pa_nil)) pa_nil))))) pss_nil)
    (pss_cons (ps_if (pt_cmpR op_eq (pv 2) pe_str (nomark _)) (pss_one (ps_ret (pe_tup (pa_cons pe_str (pa_cons (pe_mcal m_take hr (by decide) (passes_call tk fun _ _ _ _ h => h) (pv 0) (pa_cons pe_str pa_nil)) pa_nil))))) pss_nil)
    (pss_cons (ps_if (pt_val (pe_mcal m_takes hr (by decide) pass0 (pv 0) (pa_cons pe_str pa_nil))) (pss_one (ps_ret (pe_tup (pa_cons pe_str pa_nil)))) pss_nil)
    (pss_cons (ps_set (i := 3) sc_begin_operand.nd rfl (by first | exact Or.inl rfl | exact Or.inr rfl) (pe_tup (pa_cons pe_str (pa_cons (pe_mcal m_take hr (by decide) (passes_call tk fun _ _ _ _ h => h) (pv 0) (pa_cons pe_str pa_nil)) pa_nil))))
    (pss_cons (ps_if (pt_cmpR op_in_seq (pe_cal c_top_of hr (by decide) rfl pass0 (pa_cons (pv 1) pa_nil)) (pe_tup (pa_cons pe_str (pa_cons pe_str pa_nil))) (by first | exact nomark _ | rfl)) (pss_one (ps_ret (pv 3))) pss_nil)
    (pss_cons (ps_expr (pe_bm PySem.F.plainAttrs_list PySem.F.slot_list_append PySem.F.type_list_append mt_append (pv 1) (pa_cons (pe_tup (pa_cons pe_str (pa_cons (pv 3) pa_nil))) pa_nil)))
    (pss_one (ps_ret pe_non)))))))))), ?_⟩
  refine ⟨_, rfl, _, rfl, so, dx, tl, fr, tvs, xs, ws, n, st, rfl, F, hwf, hle, fun H1 xs1 s1 n1 b1 F1 hn1 wf1 le1 r1 g1 g2 g3 => ?_, qE⟩
  refine mt_kind F1.S rfl ?_
  have bA : ∀ m, But [so, fr] H (srcAt K H1 so dx tl m) := fun m => b1.trans (srcAt_but.mono (by simp))
  -- an atom that is one token
  have one : ∀ {H2 : Hp} {v : V} {t : Tk}, ksAt ws n1 = some t → dl (.opd s1) t = some (.aft (attach s1)) → But [so, fr] H H2 → ESt K H2 so dx tl tvs ws (n1 + 1) fr xs1 s1 → IsE H2 v → v ≠ .non → Q v H2 := fun ht hd b F2 hv hne =>
    qA _ _ xs1 s1 (n1 + 1) b F2 hv hne (by omega) (by have := F1.len; omega) wf1 le1 (r1.trans (res_some ht hd))
  refine ⟨_, rfl, rfl, _, rfl, ?_⟩
  refine ite_kq (p := some .num) (fun hk => ?_) (fun hk => ?_)
  · refine mt_take .num F1.S rfl (fun z _ hz hkz hlt => ?_) (fun h => absurd hk h)
    obtain ⟨i, hi1, hi2⟩ := num_int hkz
    refine ⟨z, i, rfl, hi1, hi2, small_sz (by simp), fun p hp => ?_⟩
    have F2 := F1.go mono_F hlt
    have e3 := Ex.new (o := .tup [.str "number", .int i]) hp
    exact one hk rfl ((bA (n1 + 1)).trans ((ex_but.mp e3).mono (by simp))) (F2.ex mono_F e3) (.leaf upd_same (by decide +kernel)) (by simp)
  refine ⟨_, rfl, rfl, _, rfl, ?_⟩
  refine ite_kq (p := some .word) (fun hk2 => ?_) (fun hk2 => ?_)
  · refine mt_take .word F1.S rfl (fun z _ hz hkz hlt => ?_) (fun h => absurd hk2 h)
    refine ⟨small_sz (by simp), fun p hp => ?_⟩
    have F2 := F1.go mono_F hlt
    have e3 := Ex.new (o := .tup [.str "word", .str z]) hp
    exact one hk2 rfl ((bA (n1 + 1)).trans ((ex_but.mp e3).mono (by simp))) (F2.ex mono_F e3) (.leaf upd_same (by decide +kernel)) (by simp)
  refine mt_takes .khole F1.S rfl (fun hk3 hlt => ⟨true, rfl, iteT ?_⟩) (fun hk3 => ⟨false, rfl, iteF ?_⟩)
  · refine ⟨small_sz (by simp), fun p hp => ?_⟩
    have F2 := F1.go mono_F hlt
    have e3 := Ex.new (o := .tup [.str "hole"]) hp
    exact one hk3 rfl ((bA (n1 + 1)).trans ((ex_but.mp e3).mono (by simp))) (F2.ex mono_F e3) (.leaf upd_same (by decide +kernel)) (by simp)
  have bad : ksAt ws n1 ≠ some .name → res ws (.opd st) n = some n1 := fun h4 => by
    rw [r1]
    refine res_stop (fun t ht => ?_) fun _ => rfl
    rw [ht] at hk hk2 hk3 h4 g1 g2 g3
    cases t <;> first | rfl | exact absurd rfl hk | exact absurd rfl hk2 | exact absurd rfl hk3 | exact absurd rfl h4 | exact absurd rfl g1 | exact absurd rfl g2 | skip
    · show (if wideTop s1 = true then _ else none) = none
      rw [if_neg (by rw [g3 (.inl rfl)]; simp)]
    · show (if wideTop s1 = true then _ else none) = none
      rw [if_neg (by rw [g3 (.inr rfl)]; simp)]
  refine mt_take .name F1.S rfl (fun z hk4 _ _ hlt => ?_) (fun h4 d H' e' hd => qE n1 d H' (bad h4) (b1.trans ((ex_but.mp e').mono (by simp))) hd)
  have F2 := F1.go mono_F hlt
  refine ⟨small_sz (by simp), fun p hp => ?_⟩
  have e3 := Ex.new (o := .tup [.str "make", .str z]) hp
  have F3 := F2.ex mono_F e3
  have hmk : MkR (upd (srcAt K H1 so dx tl (n1 + 1)) p (.tup [.str "make", .str z])) p 0 := ⟨.str z, [], upd_same, rfl, fun x hx => by simp at hx⟩
  refine ⟨_, rfl, fr, xs1, topNm s1, rfl, F3.f, FrsR.top F3.p, fun H4 e4 => ?_⟩
  have b4 : But [so, fr] H H4 := ((bA (n1 + 1)).trans ((ex_but.mp e3).mono (by simp))).trans ((ex_but.mp e4).mono (by simp))
  have F4 := F3.ex mono_F e4
  refine ⟨small_sz (by simp), fun q hq => ⟨q, _, rfl, .inr (SqT.of upd_same), rfl, rfl, _, rfl, ?_⟩⟩
  have e5 := Ex.new (o := .tup [.str "call", .str "make"]) hq
  have b5 := b4.trans ((ex_but.mp e5).mono (S' := [so, fr]) (by simp))
  have F5 := F4.ex mono_F e5
  have hmk5 := (hmk.mono (Ex.tups e4)).mono (Ex.tups e5)
  refine ite2 (fun h => ?_) (fun h => ?_)
  · have hM := topM_nm h
    refine ⟨_, rfl, one hk4 ?_ b5 F5 (hmk5.isE (by omega)) (by simp)⟩
    show (if topM s1 = true then _ else _) = _
    rw [if_pos hM]
  · have hM := topM_nmF h
    refine st_app mono_F F5 rfl (by have := F1.len; omega) [.str "make", .ref p] (tup2 v_c (v_v rfl)) (fun p2 H6 e6 hp2 => FrR.mk (t := p) hp2 (hmk5.mono (Ex.tups e6))) fun H6 xs6 b6 t6 F6 => ?_
    refine qB H6 xs6 s1 (n1 + 1) (b5.trans (b6.mono (by simp))) F6 (by omega) (wf_cons wf1 (ok_M rfl hM)) (le1.cons (fun k e => by cases e; exact Nat.zero_le _) (fun k e => by cases e)) (r1.trans (res_some hk4 ?_))
    show (if topM s1 = true then _ else _) = _
    rw [if_neg (by rw [hM]; simp)]
def spNextRow (K : PySem.W.Frag) : Sp := fun vs H Q E => ∃ (so dx tl fr r : Addr) (e : V) (tvs xs : List V) (ws : List Str) (n cnt : Nat) (s : List Fr), vs = [.ref so, .ref fr, e, .ref r] ∧ ESt K H so dx tl tvs ws n fr xs s ∧ s.length + 1 ≤ n ∧ wf s = true ∧ fLe s n ∧ IsE H e ∧ RowsR H r cnt ∧ cnt ≤ n + 1 ∧
  OpdP K so dx tl tvs ws n fr H (res ws (.rowS cnt s) n) Q ∧ BadP K [so, fr] H (res ws (.rowS cnt s) n) E
abbrev n_next_row : List Str := ["source", "frames", "subject", "rows", "pattern"]
theorem sc_next_row : FnScope n_next_row ["source", "frames", "subject", "rows"] (defScope s_next_row) := ⟨rfl, rfl, rfl, by decide +kernel, rfl, by decide +kernel, by decide +kernel⟩
theorem ok_next_row (T : Txt K mg w) : Cal P w K mg base (L2.CX P w) 6 "next_row" ["source", "frames", "subject", "rows"] (spNextRow K) := by
  have c_read_pattern : Cal P w K mg base _ _ _ _ _ := ok_read_pattern (P := P) (base := base) T
  have c_begin_operand : Cal P w K mg base _ _ _ _ _ := ok_begin_operand (P := P) (base := base) T
  have m_take : MCal P w K mg base _ _ _ _ _ _ := ok_take (P := P) (base := base) T
  have m_takes : MCal P w K mg base _ _ _ _ _ _ := ok_takes (P := P) (base := base) T
  have c_BadText_init := ok_BadText_init (P := P) (base := base) T
  refine ⟨okX T.f_next_row sc_next_row (fun vs H Q E h => ?_) (fun _ _ _ _ _ _ us hl => match us, hl with | [_, _, _, _], _ => rfl) (fun cdv A outer s H vs Q E hr h => ?_), kpOf T.f_next_row, T.g_next_row⟩
  · obtain ⟨so, dx, tl, fr, r, e, tvs, xs, ws, n, cnt, s, rfl, _⟩ := h; rfl
  obtain ⟨so, dx, tl, fr, r, e, tvs, xs, ws, n, cnt, st, rfl, F, hlen, hwf, hle, he, hrows, hcnt, qP, qE⟩ := h
  have tk : Takes (cxOf (L2.CX P w) P w K mg base n_next_row "next_row" (defScope s_next_row) (He.ga K "next_row") cdv A outer s H E) (fun cls d _ H => E cls d H) := takes_of rfl rfl rfl rfl
  refine ⟨_, (pss_cons (ps_if (pt_val (pe_mcal m_takes hr (by decide) pass0 (pv 0) (pa_cons pe_str pa_nil))) (pss_one (ps_ret (pe_tup (pa_cons pe_str (pa_cons (pv 2) (pa_cons (pv 3) pa_nil)))))) pss_nil)
    (pss_cons (ps_if (pt_cmpR op_eq (pe_callB call_len rfl T.b_len PySem.boot_len (pa_cons (pv 3) pa_nil)) (pgi rfl T.i_ROWS) (nomark _)) (pss_one (ps_raise rfl tk (pmk_ex T.o_BadText T.in_BadText c_BadText_init hr (by decide) rfl T.g_BadText (pa_cons (pe_fld (pv 0) rfl) pa_nil)))) pss_nil)
    (pss_cons (ps_expr (pe_mcal m_take hr (by decide) (passes_call tk fun _ _ _ _ h => h) (pv 0) (pa_cons pe_str pa_nil)))
    (pss_cons (ps_set (i := 4) sc_next_row.nd rfl (by first | exact Or.inl rfl | exact Or.inr rfl) (pe_cal c_read_pattern hr (by decide) rfl (passes_call tk fun _ _ _ _ h => h) (pa_cons (pv 0) pa_nil)))
    (pss_cons (ps_expr (pe_mcal m_take hr (by decide) (passes_call tk fun _ _ _ _ h => h) (pv 0) (pa_cons pe_str pa_nil)))
    (pss_cons (ps_expr (pe_bm PySem.F.plainAttrs_list PySem.F.slot_list_append PySem.F.type_list_append mt_append (pv 1) (pa_cons (pe_tup (pa_cons pe_str (pa_cons (pv 2) (pa_cons (pv 3) (pa_cons (pv 4) pa_nil))))) pa_nil)))
    (pss_one (ps_ret (pe_cal c_begin_operand hr (by decide) rfl (passes_call tk fun _ _ _ _ h => h) (pa_cons (pv 0) (pa_cons (pv 1) pa_nil))))))))))), ?_⟩
  refine mt_takes .kend F.S rfl (fun hk hlt => ⟨true, rfl, iteT ?_⟩) (fun hk => ⟨false, rfl, iteF ?_⟩)
  · have F2 := F.go mono_F hlt
    have b2 : But [so, fr] H (srcAt K H so dx tl (n + 1)) := srcAt_but.mono (by simp)
    refine ⟨_, rfl, _, rfl, small_sz (by simp), fun p hp => ?_⟩
    have e3 := Ex.new (o := .tup [.str "match", e, .ref r]) hp
    have b3 := b2.trans ((ex_but.mp e3).mono (S' := [so, fr]) (by simp))
    have t3 := F.tups b3
    obtain ⟨rows, g1, g2, g3, g4, g5⟩ := hrows.mono t3
    have hsz := F.S.sz
    exact qP.1 _ (.ref p) xs st (n + 1) b3 (F2.ex mono_F e3) (.mt upd_same (he.mono t3) g1 g3 g4 g5 (by omega)) (by simp) (by omega) (by omega) hwf (hle.mono (by omega)) (res_some hk rfl)
  obtain ⟨rows, g1, g2, g3, g4, g5⟩ := id hrows
  refine ⟨_, rfl, _, _, rfl, .inr ⟨_, SqT.of g1, rfl⟩, rfl, _, rfl, ?_⟩
  rw [List.length_map, g2]
  refine ite2 (fun h8 => ?_) (fun h8 => ?_)
  · have h8 : cnt = 8 := by have := of_decide_eq_true h8; injection this with h; omega
    refine raise_ok (v := .int (n : Int)) (fun Q hQ => ⟨_, rfl, so, _, dx, _, _, rfl, F.S.o, T.c_Source, T.n_Source_at, lk_at, hQ⟩) fun d H' e' hd => ?_
    refine qE n d H' (res_stop (fun t ht => ?_) fun _ => rfl) ((ex_but.mp e').mono (by simp)) hd
    show (if t = .kend then _ else if cnt = 8 then none else _) = none
    rw [if_neg (fun z => hk (by rw [ht, z])), if_pos h8]
  have h8' : cnt ≠ 8 := fun c => h8 (decide_eq_true (by rw [c]; rfl))
  refine mt_take .bar F.S rfl (fun z hkb _ _ hlt => ?_) (fun hkb d H' e' hd => ?_)
  · have F2 := F.go mono_F hlt
    have b2 : But [so, fr] H (srcAt K H so dx tl (n + 1)) := srcAt_but.mono (by simp)
    have r2 : res ws (.rowS cnt st) n = res ws (.pb cnt [] st) (n + 1) := res_some hkb (by
      simp only [dl, dRow]
      rw [if_neg (by decide), if_neg h8', if_pos trivial])
    refine ⟨_, rfl, so, dx, tl, tvs, ws, n + 1, cnt, st, rfl, F2.S, fun H3 v n3 b3 S3 hv hn3 r3 => ?_, fun i d H' q b' hd => qE i d H' (r2.trans q) (b2.trans (b'.mono (by simp))) hd⟩
    have F3 := F2.but mono_F b3 S3 (by omega)
    have b3' : But [so, fr] H H3 := b2.trans (b3.mono (by simp))
    have r3' := r2.trans r3
    refine mt_take .arrow S3 rfl (fun z2 hka _ _ hlt2 => ?_) (fun hka d H' e' hd => ?_)
    · have F4 := F3.go mono_F hlt2
      have b4 : But [so, fr] H (srcAt K H3 so dx tl (n3 + 1)) := b3'.trans (srcAt_but.mono (by simp))
      have t4 := F.tups b4
      refine st_app mono_F F4 rfl (by omega) [.str "row", e, .ref r, v] (fun Q q => ⟨_, rfl, _, rfl, _, rfl, small_sz (by simp), fun p hp => q p _ (Ex.new hp) upd_same⟩)
        (fun p H5 e5 hp => FrR.row hp (he.mono (t4.trans (Ex.tups e5))) (hrows.mono (t4.trans (Ex.tups e5))) (hv.mono (F3.S.tups.trans (Ex.tups e5)))) fun H5 xs5 b5 t5 F5 => ?_
      have b5' := b4.trans (b5.mono (by simp))
      have r5 : res ws (.rowS cnt st) n = res ws (.opd (.row cnt :: st)) (n3 + 1) := r3'.trans (res_some hka rfl)
      refine ⟨_, rfl, _, rfl, so, dx, tl, fr, tvs, xs5, ws, n3 + 1, .row cnt :: st, rfl, F5, wf_cons hwf ok_row, (hle.mono (by omega)).cons (fun k e => by cases e) (fun k e => by cases e; omega), qP.from b5' (by omega) r5, qE.from b5' r5⟩
    · refine qE n3 d H' (r3'.trans (res_stop (fun t ht => ?_) fun _ => rfl)) (b3'.trans ((ex_but.mp e').mono (by simp))) hd
      show (if t = .arrow then _ else none) = none
      rw [if_neg (fun z => hka (by rw [ht, z]))]
  · refine qE n d H' (res_stop (fun t ht => ?_) fun _ => rfl) ((ex_but.mp e').mono (by simp)) hd
    show (if t = .kend then _ else if cnt = 8 then none else if t = .bar then _ else none) = none
    rw [if_neg (fun z => hk (by rw [ht, z])), if_neg h8', if_neg (fun z => hkb (by rw [ht, z]))]
end
end Sh
set_option Elab.async false
set_option linter.all false
set_option maxRecDepth 100000
set_option maxHeartbeats 4000000
namespace Sh
open PySem PySem.Spec PyProof.Rows L2 Evl
def stO : Option Tk → Nat
  | none => 0
  | some t => str t
theorem StrT.get {K : PySem.W.Frag} {w : World} {d : Addr} {es : Array DictEntry} {n : Nat} (D : StrT K w d es n) (o : Option Tk) : ∃ r : Option Value, PySem.W.nsIn K d (kTxt o) = some r ∧ (match r with | some u => RelV (.int (stO o : Nat)) u | none => (V.int (stO o : Nat)) = .int 0) ∧ r.isSome = decide (0 < stO o) := by
  by_cases h : 0 < stO o
  · cases o with
    | none => exact absurd h (by decide)
    | some t =>
      obtain ⟨k, e⟩ := D.yes t h
      exact ⟨_, e, ⟨k, rfl⟩, (decide_eq_true h).symm⟩
  · have e := D.no o fun t ht => by subst ht; simp only [stO] at h; omega
    refine ⟨_, e, ?_, (decide_eq_false h).symm⟩
    rw [show stO o = 0 by omega]; rfl
theorem StrT.dct {K : PySem.W.Frag} {w : World} {d : Addr} {es : Array DictEntry} {n : Nat} (D : StrT K w d es n) {o : Tk} (h : 0 < str o) : KDct K w d o.txt (.int (str o : Nat)) := by
  obtain ⟨k, e⟩ := D.yes o h
  exact ⟨es, n, _, D.D.at_, D.D.lit, e, ⟨k, rfl⟩⟩
theorem IsE.ne {H : Hp} {v : V} (h : IsE H v) : v ≠ .non := by cases h <;> simp
def RedP (K : PySem.W.Frag) (so dx tl : Addr) (tvs : List V) (ws : List Str) (n : Nat) (fr : Addr) (H : Hp) (s : List Fr) (Q : VK) : Prop := ∀ H' v xs' s', But [so, fr] H H' → ESt K H' so dx tl tvs ws n fr xs' s' → IsE H' v → wf s' = true → fLe s' n → s'.length ≤ s.length →
  ((∃ t, ksAt ws n = some t ∧ 0 < str t ∧ topM s' = false ∧ res ws (.red s) n = res ws (.opd (.op t :: s')) (n + 1)) ∨ ((∀ t, ksAt ws n = some t → str t = 0) ∧ wideTop s' = true ∧ res ws (.red s) n = res ws (.red s') n)) → Q v H'
def spReduced (K : PySem.W.Frag) : Sp := fun vs H Q E => ∃ (so dx tl fr : Addr) (v : V) (tvs xs : List V) (ws : List Str) (n : Nat) (s : List Fr), vs = [.ref so, .ref fr, v] ∧ ESt K H so dx tl tvs ws n fr xs s ∧ wf s = true ∧ topM s = false ∧ fLe s n ∧ IsE H v ∧
  RedP K so dx tl tvs ws n fr H s Q ∧ BadP K [so, fr] H (res ws (.red s) n) E
def spEndE (K : PySem.W.Frag) : Sp := fun vs H Q E => ∃ (so dx tl fr : Addr) (v : V) (tvs xs : List V) (ws : List Str) (n : Nat) (s : List Fr), vs = [.ref so, .ref fr, v] ∧ ESt K H so dx tl tvs ws n fr xs s ∧ wf s = true ∧ wideTop s = true ∧ s ≠ [] ∧ (∀ r, s ≠ .fn :: r) ∧ (∀ r, s ≠ .inn :: r) ∧ fLe s n ∧
  (∀ t, ksAt ws n = some t → str t = 0) ∧ IsE H v ∧ OpdP K so dx tl tvs ws n fr H (res ws (.red s) n) Q ∧ BadP K [so, fr] H (res ws (.red s) n) E
section
variable {P : Program} {w : World} {K : PySem.W.Frag} {mg : Str → Option Value} {base : Heap}
abbrev n_reduced : List Str := ["source", "frames", "found", "strength", "own", "name", "sign", "left"]
theorem sc_reduced : FnScope n_reduced ["source", "frames", "found"] (defScope s_reduced) := ⟨rfl, rfl, rfl, by decide +kernel, rfl, by decide +kernel, by decide +kernel⟩
theorem ok_reduced (T : Txt K mg w) : Cal P w K mg base (L2.CX P w) 3 "reduced" ["source", "frames", "found"] (spReduced K) := by
  have c_top_of : Cal P w K mg base _ _ _ _ _ := ok_top_of (P := P) (base := base) T
  have m_kind : MCal P w K mg base _ _ _ _ _ _ := ok_kind (P := P) (base := base) T
  have c_BadText_init := ok_BadText_init (P := P) (base := base) T
  obtain ⟨des, dn, D⟩ := T.strT
  refine ⟨okX T.f_reduced sc_reduced (fun vs H Q E h => ?_) (fun _ _ _ _ _ _ us hl => match us, hl with | [_, _, _], _ => rfl) (fun cdv A outer s H vs Q E hr h => ?_), kpOf T.f_reduced, T.g_reduced⟩
  · obtain ⟨so, dx, tl, fr, v, tvs, xs, ws, n, s, rfl, _⟩ := h; rfl
  obtain ⟨so, dx, tl, fr, v, tvs, xs, ws, n, st, rfl, F, hwf, hM, hle, hv, qP, qE⟩ := h
  have tk : Takes (cxOf (L2.CX P w) P w K mg base n_reduced "reduced" (defScope s_reduced) (He.ga K "reduced") cdv A outer s H E) (fun cls d _ H => E cls d H) := takes_of rfl rfl rfl rfl
  refine ⟨_, (pss_cons (ps_set (i := 3) sc_reduced.nd rfl (by first | exact Or.inl rfl | exact Or.inr rfl) (pe_kget D.D (pgr rfl T.g_STRENGTHS) (pe_mcal0 m_kind hr (by decide) pass0 (pv 0)) pe_int ⟨rfl, rfl, rfl, rfl⟩))
    (pss_cons (ps_while (passes_of rfl) (pt_cmpR op_eq (pe_cal c_top_of hr (by decide) rfl pass0 (pa_cons (pv 1) pa_nil)) pe_str (nomark _)) (pss_cons (ps_set (i := 4) sc_reduced.nd rfl (by first | exact Or.inl rfl | exact Or.inr rfl) (pe_ix ix_kdict (pgr rfl T.g_STRENGTHS) (pe_ix ix_tup (pe_ix ix_list (pv 1) (pe_un un_neg pe_int) (fun _ _ => rfl)) pe_int (fun _ _ => rfl)) (fun _ _ => rfl)))
    (pss_cons (ps_if (pt_cmpR op_lt (pv 4) (pv 3) (nomark _)) (pss_one (ps_ret (pv 2))) pss_nil)
    (pss_cons (ps_if (pt_chain op_eq op_eq (pv 4) (pv 3) pe_int) (pss_one (ps_raise rfl tk (pmk_ex T.o_BadText T.in_BadText c_BadText_init hr (by decide) rfl T.g_BadText (pa_cons (pe_fld (pv 0) rfl) pa_nil)))) pss_nil)
    (pss_cons (ps_asg (pe_bm0 PySem.F.plainAttrs_list PySem.F.slot_list_pop PySem.F.type_list_pop mt_pop (pv 1)) (pg_tup rfl (pgs_cons (pg_name (i := 5) sc_reduced.nd rfl (by first | exact Or.inl rfl | exact Or.inr rfl)) (pgs_cons (pg_name (i := 6) sc_reduced.nd rfl (by first | exact Or.inl rfl | exact Or.inr rfl)) (pgs_cons (pg_name (i := 7) sc_reduced.nd rfl (by first | exact Or.inl rfl | exact Or.inr rfl)) pgs_nil)))))
    (pss_one (ps_set (i := 2) sc_reduced.nd rfl (by first | exact Or.inl rfl | exact Or.inr rfl) (pe_tup (pa_cons pe_str (pa_cons (pv 6) (pa_cons (pv 7) (pa_cons (pv 2) pa_nil))))))))))))
    (pss_one (ps_ret (pv 2))))), ?_⟩
  obtain ⟨r0, hr1, hr2, hr3⟩ := D.get (ksAt ws n)
  refine ⟨rfl, mt_kind F.S rfl ⟨_, r0, .int (stO (ksAt ws n) : Nat), rfl, hr1, hr2, ?_⟩⟩
  let W : Nat → L2.St → Hp → Prop := fun mm σ H' => ∃ (v1 : V) (o4 o5 o6 o7 : Option V) (xs' : List V) (s' : List Fr), σ = [some (.ref so), some (.ref fr), some v1, some (.int (stO (ksAt ws n) : Nat)), o4, o5, o6, o7] ∧ But [so, fr] H H' ∧ ESt K H' so dx tl tvs ws n fr xs' s' ∧ IsE H' v1 ∧ wf s' = true ∧ topM s' = false ∧ fLe s' n ∧ s'.length ≤ st.length ∧ res ws (.red st) n = res ws (.red s') n ∧ mm = s'.length
  refine ⟨W, ⟨_, v, none, none, none, none, xs, st, rfl, But.refl, F, hv, hwf, hM, hle, Nat.le_refl _, rfl, rfl⟩, ?_⟩
  rintro mm σ H1 ⟨v1, o4, o5, o6, o7, xs1, s1, rfl, b1, F1, hv1, wf1, hM1, le1, len1, r1, rfl⟩
  refine ⟨_, rfl, fr, xs1, topNm s1, rfl, F1.f, FrsR.top F1.p, fun H2 e2 => ⟨rfl, _, rfl, ?_⟩⟩
  have F2 := F1.ex mono_F e2
  have b2 : But [so, fr] H H2 := b1.trans ((ex_but.mp e2).mono (by simp))
  have hv2 := hv1.mono (Ex.tups e2)
  refine ite_nm (fun h => ?_) (fun h => ?_)
  · obtain ⟨o, r, rfl⟩ := topOp h
    obtain ⟨ys, u, rfl, hu, F3⟩ := F2.pop mono_F
    cases hu with
    | @op a e o h1 h2 h3 =>
    refine ⟨fun σ2 H2 => ∃ m', m' < (Fr.op o :: r).length ∧ W m' σ2 H2, fun _ _ h => h, ?_⟩
    refine ⟨_, rfl, _, rfl, fr, _, _, .ref a, rfl, rfl, SqL.of F2.f, atI_last _ _, a, _, _, _, rfl, rfl, SqT.of h1, atI_nat (j := 1) rfl, _, _, _, rfl, rfl, D.dct h3, ?_⟩
    refine ⟨_, rfl, _, rfl, _, _, rfl, rfl, _, rfl, ?_⟩
    refine ite2 (fun hlt => ?_) (fun hlt => ?_)
    · have hlt : str o < stO (ksAt ws n) := by have := of_decide_eq_true hlt; omega
      obtain ⟨t, ht, hst⟩ : ∃ t, ksAt ws n = some t ∧ stO (ksAt ws n) = str t := by
        cases hk : ksAt ws n with
        | none => rw [hk] at hlt; exact absurd hlt (by simp [stO])
        | some t => exact ⟨t, rfl, rfl⟩
      rw [hst] at hlt
      refine ⟨_, rfl, qP H2 v1 _ (.op o :: r) b2 F2 hv2 wf1 le1 len1 (.inl ⟨t, ht, by omega, rfl, r1.trans (res_some ht ?_)⟩)⟩
      show (if str o < str t then _ else _) = _
      rw [if_pos hlt]
    have hge : stO (ksAt ws n) ≤ str o := Nat.le_of_not_lt fun c => hlt (decide_eq_true (by omega))
    -- own == strength == 1
    refine ⟨_, rfl, _, rfl, rfl, _, rfl, ?_⟩
    -- the rest of the turn
    have rest : ∀ hne : ¬ (str o = 1 ∧ stO (ksAt ws n) = 1), res ws (.red st) n = res ws (.red r) n := fun hne => by
      rw [r1]
      refine res_like (fun t ht => ?_) fun _ => rfl
      rw [ht] at hge hne
      show (if str o < str t then _ else if str o = 1 ∧ str t = 1 then _ else _) = _
      simp only [stO] at hge hne
      rw [if_neg (by omega), if_neg hne]; rfl
    have go : ∀ (hne : ¬ (str o = 1 ∧ stO (ksAt ws n) = 1)) (Q2 : L2.St → Hp → Prop), (∀ σ2 H2, (∃ m', m' < (Fr.op o :: r).length ∧ W m' σ2 H2) → Q2 σ2 H2) →
        (tBM0 K "list" rPop (tVar 1)) [some (.ref so), some (.ref fr), some v1, some (.int (stO (ksAt ws n) : Nat)), some (.int (str o : Nat)), o5, o6, o7] H2 fun x H3 => gTup K 3 (gCons (gName 5) (gCons (gName 6) (gCons (gName 7) gNil))) x [some (.ref so), some (.ref fr), some v1, some (.int (stO (ksAt ws n) : Nat)), some (.int (str o : Nat)), o5, o6, o7] H3 fun σ4 H4 =>
          tTup (tCons (tC (.str "op")) (tCons (tVar 6) (tCons (tVar 7) (tCons (tVar 2) tNil)))) σ4 H4 fun x H5 => gName 2 x σ4 H5 Q2 := fun hne Q2 hQ2 => by
      refine ⟨_, rfl, tyL F2.f, fr, _, _, rfl, rfl, F2.f, last_at, ?_⟩
      rw [drop_last]
      have t3 : Tups H2 (upd H2 fr (.lst ys)) := Tups.lst F2.f
      refine ⟨a, _, rfl, SqT.of (t3 _ _ h1), rfl, _, _, rfl, _, _, rfl, _, _, rfl, rfl, _, rfl, _, rfl, _, rfl, small_sz (by simp), fun p hp => hQ2 _ _ ?_⟩
      have e4 := Ex.new (o := .tup [.str "op", .str o.txt, e, v1]) hp
      have F4 := F3.ex mono_F e4
      have b4 : But [so, fr] H _ := (b2.trans (But.put (S := [so, fr]) (o := .lst ys) (by simp))).trans ((ex_but.mp e4).mono (by simp))
      have t4 := t3.trans (Ex.tups e4)
      exact ⟨r.length, Nat.lt_succ_self _, .ref p, _, _, _, _, ys, r, rfl, b4, F4, .op upd_same (h2.mono t4) (hv2.mono t4), wf_tail wf1, notM_under (.inr ⟨o, rfl⟩) wf1, le1.tail, Nat.le_of_succ_le len1, rest hne, rfl⟩
    refine ite2 (fun he => ?_) (fun he => ?_)
    · refine ⟨rfl, _, rfl, ?_⟩
      refine ite2 (fun h1' => ?_) (fun h1' => ?_)
      · have e1 : str o = stO (ksAt ws n) := by have := of_decide_eq_true he; injection this with h; omega
        have e2' : stO (ksAt ws n) = 1 := by have := of_decide_eq_true h1'; injection this with h; omega
        obtain ⟨t, ht, hst⟩ : ∃ t, ksAt ws n = some t ∧ str t = 1 := by
          cases hk : ksAt ws n with
          | none => rw [hk] at e2'; exact absurd e2' (by simp [stO])
          | some t => rw [hk] at e2'; exact ⟨t, rfl, e2'⟩
        refine raise_ok (v := .int (n : Int)) (fun Q hQ => ⟨_, rfl, so, _, dx, _, _, rfl, F2.S.o, T.c_Source, T.n_Source_at, lk_at, hQ⟩) fun d H' e' hd => ?_
        refine qE n d H' (r1.trans (res_bad ht ?_)) (b2.trans ((ex_but.mp e').mono (by simp))) hd
        show (if str o < str t then _ else if str o = 1 ∧ str t = 1 then none else _) = none
        rw [if_neg (by omega), if_pos ⟨by omega, hst⟩]
      · exact go (fun c => h1' (decide_eq_true (by rw [c.2]; rfl))) _ fun _ _ h => h
    · exact ⟨_, rfl, iteF (go (fun c => he (decide_eq_true (by rw [c.1, c.2]))) _ fun _ _ h => h)⟩
  · have hnop : ∀ o r, s1 ≠ .op o :: r := fun o r e => h (by rw [e]; rfl)
    have hw1 : wideTop s1 = true := by
      cases s1 with
      | nil => rfl
      | cons f r => cases f <;> first | rfl | exact absurd rfl (hnop _ _) | (simp [topM, Fr.isM] at hM1)
    refine ⟨_, rfl, qP H2 v1 xs1 s1 b2 F2 hv2 wf1 le1 len1 ?_⟩
    cases hk : ksAt ws n with
    | none => exact .inr ⟨fun t h => (nomatch h), hw1, r1⟩
    | some t =>
      by_cases h0 : 0 < str t
      · refine .inl ⟨t, rfl, h0, hM1, r1.trans (res_some hk ?_)⟩
        show dRed s1 t = _
        rw [dRed_wide hw1]; unfold dEnd; rw [if_pos h0]
      · exact .inr ⟨fun u hu => by cases hu; omega, hw1, r1⟩
abbrev n_end_expression : List Str := ["source", "frames", "found", "name", "rest"]
theorem sc_end_expression : FnScope n_end_expression ["source", "frames", "found"] (defScope s_end_expression) := ⟨rfl, rfl, rfl, by decide +kernel, rfl, by decide +kernel, by decide +kernel⟩
theorem ok_end_expression (T : Txt K mg w) : Cal P w K mg base (L2.CX P w) 7 "end_expression" ["source", "frames", "found"] (spEndE K) := by
  have c_begin_operand : Cal P w K mg base _ _ _ _ _ := ok_begin_operand (P := P) (base := base) T
  have c_next_row : Cal P w K mg base _ _ _ _ _ := ok_next_row (P := P) (base := base) T
  have m_take : MCal P w K mg base _ _ _ _ _ _ := ok_take (P := P) (base := base) T
  refine ⟨okX T.f_end_expression sc_end_expression (fun vs H Q E h => ?_) (fun _ _ _ _ _ _ us hl => match us, hl with | [_, _, _], _ => rfl) (fun cdv A outer s H vs Q E hr h => ?_), kpOf T.f_end_expression, T.g_end_expression⟩
  · obtain ⟨so, dx, tl, fr, v, tvs, xs, ws, n, s, rfl, _⟩ := h; rfl
  obtain ⟨so, dx, tl, fr, v, tvs, xs, ws, n, st, rfl, F, hwf, hw, hne, hnf, hni, hle, h0, hv, qP, qE⟩ := h
  have tk : Takes (cxOf (L2.CX P w) P w K mg base n_end_expression "end_expression" (defScope s_end_expression) (He.ga K "end_expression") cdv A outer s H E) (fun cls d _ H => E cls d H) := takes_of rfl rfl rfl rfl
  refine ⟨_, (pss_cons (ps_asg (pe_bm0 PySem.F.plainAttrs_list PySem.F.slot_list_pop PySem.F.type_list_pop mt_pop (pv 1)) (pg_star rfl (pg_name (i := 3) sc_end_expression.nd rfl (by first | exact Or.inl rfl | exact Or.inr rfl)) (pg_name (i := 4) sc_end_expression.nd rfl (by first | exact Or.inl rfl | exact Or.inr rfl))))
    (pss_cons (ps_if (pt_cmpR op_eq (pv 3) pe_str (nomark _)) (pss_cons (ps_expr (pe_mcal m_take hr (by decide) (passes_call tk fun _ _ _ _ h => h) (pv 0) (pa_cons pe_str pa_nil)))
    (pss_one (ps_ret (pv 2)))) pss_nil)
    (pss_cons (ps_if (pt_cmpR op_eq (pv 3) pe_str (nomark _)) (pss_cons (ps_expr (pe_mcal m_take hr (by decide) (passes_call tk fun _ _ _ _ h => h) (pv 0) (pa_cons pe_str pa_nil)))
    (pss_cons (ps_expr (pe_bm PySem.F.plainAttrs_list PySem.F.slot_list_append PySem.F.type_list_append mt_append (pv 1) (pa_cons (pe_tup (pa_cons pe_str (pa_cons (pe_ix ix_list (pv 4) pe_int (fun _ _ => rfl)) (pa_cons (pv 2) pa_nil)))) pa_nil)))
    (pss_one (ps_ret (pe_cal c_begin_operand hr (by decide) rfl (passes_call tk fun _ _ _ _ h => h) (pa_cons (pv 0) (pa_cons (pv 1) pa_nil))))))) pss_nil)
    (pss_cons (ps_if (pt_cmpR op_eq (pv 3) pe_str (nomark _)) (pss_cons (ps_expr (pe_mcal m_take hr (by decide) (passes_call tk fun _ _ _ _ h => h) (pv 0) (pa_cons pe_str pa_nil)))
    (pss_one (ps_ret (pe_cal c_next_row hr (by decide) rfl (passes_call tk fun _ _ _ _ h => h) (pa_cons (pv 0) (pa_cons (pv 1) (pa_cons (pv 2) (pa_cons (pe_tup pa_nil) pa_nil)))))))) pss_nil)
    (pss_one (ps_ret (pe_cal c_next_row hr (by decide) rfl (passes_call tk fun _ _ _ _ h => h) (pa_cons (pv 0) (pa_cons (pv 1) (pa_cons (pe_ix ix_list (pv 4) pe_int (fun _ _ => rfl)) (pa_cons (pe_tup (StX.pa_star (pe_ix ix_list (pv 4) pe_int (fun _ _ => rfl)) (pa_cons (pe_tup (pa_cons (pe_ix ix_list (pv 4) pe_int (fun _ _ => rfl)) (pa_cons (pv 2) pa_nil))) pa_nil))) pa_nil))))))))))), ?_⟩
  cases st with
  | nil => exact absurd rfl hne
  | cons f s1 =>
  have hlen := F.len
  have hsz := F.S.sz
  have hn := F.S.le
  obtain ⟨ys, u, rfl, hu, F2⟩ := F.pop mono_F
  have t2 : Tups H (upd H fr (.lst ys)) := Tups.lst F.f
  have b2 : But [so, fr] H (upd H fr (.lst ys)) := But.put (by simp)
  have wf1 := wf_tail hwf
  have hl1 : s1.length + 1 ≤ n := hlen
  -- the frame popped and taken apart
  have pop : ∀ {a : Addr} {x : V} {r : List V} {g : L2.St → Hp → Prop}, u = .ref a → H a = some (.tup (x :: r)) → r.length ≤ 100000 →
      (∀ p H3, H3 p = some (.lst r) → But [so, fr] H H3 → ESt K H3 so dx tl tvs ws n fr ys s1 → g [some (.ref so), some (.ref fr), some v, some x, some (.ref p)] H3) →
      tBM0 K "list" rPop (tVar 1) [some (.ref so), some (.ref fr), some v, none, none] H (fun z H3 => gStar K (gName 3) (gName 4) z [some (.ref so), some (.ref fr), some v, none, none] H3 g) := by
    rintro a x r g rfl ha hr hg
    refine ⟨_, rfl, tyL F.f, fr, _, _, rfl, rfl, F.f, last_at, ?_⟩
    rw [drop_last]
    refine ⟨a, x, r, rfl, SqT.of (t2 _ _ ha), hr, fun p hp => ?_⟩
    have e3 := Ex.new (o := .lst r) hp
    exact hg p _ upd_same (b2.trans ((ex_but.mp e3).mono (by simp))) (F2.ex mono_F e3)
  have hd0 : ∀ {t : Tk}, ksAt ws n = some t → dl (.red (f :: s1)) t = dClose (f :: s1) t := fun {t} ht => by
    show dRed (f :: s1) t = _
    rw [dRed_wide hw, dEnd0 (h0 t ht)]
  cases hu with
  | @br a h1 =>
    refine pop rfl h1 (by simp) fun p H3 hp b3 F3 => ?_
    refine ⟨_, rfl, rfl, _, rfl, ite_nm (fun _ => ?_) (fun h => absurd rfl h)⟩
    refine mt_take .rp F3.S rfl (fun z hk _ _ hlt => ⟨_, rfl, ?_⟩) (fun hk d H' e' hd => ?_)
    · have F4 := F3.go mono_F hlt
      have b4 : But [so, fr] H (srcAt K H3 so dx tl (n + 1)) := b3.trans (srcAt_but.mono (by simp))
      exact qP.1 _ v ys s1 (n + 1) b4 F4 (hv.mono (F.tups b4)) hv.ne (by omega) (by omega) wf1 (hle.tail.mono (by omega)) (res_some hk (by rw [hd0 hk]; rfl))
    · refine qE n d H' (res_stop (fun t ht => ?_) fun _ => rfl) (b3.trans ((ex_but.mp e').mono (by simp))) hd
      rw [hd0 ht]
      show (if t = .rp then _ else none) = none
      rw [if_neg (fun z => hk (by rw [ht, z]))]
  | fn h1 => exact absurd rfl (hnf _)
  | inn h1 => exact absurd rfl (hni _)
  | mk h1 => simp [wideTop, Fr.wide] at hw
  | call h1 => simp [wideTop, Fr.wide] at hw
  | op h1 => simp [wideTop, Fr.wide] at hw
  | @lt a x h1 =>
    refine pop rfl h1 (by simp) fun p H3 hp b3 F3 => ?_
    refine ⟨_, rfl, rfl, _, rfl, ite_nm (fun h => absurd h (by decide +kernel)) (fun _ => ?_)⟩
    refine ⟨_, rfl, rfl, _, rfl, ite_nm (fun _ => ?_) (fun h => absurd rfl h)⟩
    refine mt_take .kin F3.S rfl (fun z hk _ _ hlt => ?_) (fun hk d H' e' hd => ?_)
    · have F4 := F3.go mono_F hlt
      have b4 : But [so, fr] H (srcAt K H3 so dx tl (n + 1)) := b3.trans (srcAt_but.mono (by simp))
      have hpne : p ≠ so := fun z => by rw [z, F3.S.o] at hp; cases hp
      have hp4 : (srcAt K H3 so dx tl (n + 1)) p = some (.lst [x]) := by unfold srcAt; rw [upd_ne hpne]; exact hp
      refine st_app mono_F F4 rfl (by omega) [.str "in", x, v] (fun Q q => ⟨_, rfl, p, _, _, x, rfl, rfl, SqL.of hp4, atI_nat (j := 0) rfl, _, rfl, small_sz (by simp), fun p2 hp2 => q p2 _ (Ex.new hp2) upd_same⟩)
        (fun p2 H5 e5 hp2 => FrR.inn hp2 (hv.mono ((F.tups b4).trans (Ex.tups e5)))) fun H5 xs5 b5 t5 F5 => ?_
      have b5' := b4.trans (b5.mono (S' := [so, fr]) (by simp))
      have r5 : res ws (.red (.lt :: s1)) n = res ws (.opd (.inn :: s1)) (n + 1) := res_some hk (by rw [hd0 hk]; rfl)
      refine ⟨_, rfl, _, rfl, so, dx, tl, fr, tvs, xs5, ws, n + 1, .inn :: s1, rfl, F5, wf_cons wf1 (ok_wide (.inr (.inr rfl)) (wide_under (.inr (.inr rfl)) hwf)), (hle.tail.mono (by omega)).cons (fun k e => by cases e) (fun k e => by cases e), qP.from b5' (by omega) r5, qE.from b5' r5⟩
    · refine qE n d H' (res_stop (fun t ht => ?_) fun _ => rfl) (b3.trans ((ex_but.mp e').mono (by simp))) hd
      rw [hd0 ht]
      show (if t = .kin then _ else none) = none
      rw [if_neg (fun z => hk (by rw [ht, z]))]
  | @matched a h1 =>
    refine pop rfl h1 (by simp) fun p H3 hp b3 F3 => ?_
    refine ⟨_, rfl, rfl, _, rfl, ite_nm (fun h => absurd h (by decide +kernel)) (fun _ => ?_)⟩
    refine ⟨_, rfl, rfl, _, rfl, ite_nm (fun h => absurd h (by decide +kernel)) (fun _ => ?_)⟩
    refine ⟨_, rfl, rfl, _, rfl, ite_nm (fun _ => ?_) (fun h => absurd rfl h)⟩
    refine mt_take .kwith F3.S rfl (fun z hk _ _ hlt => ?_) (fun hk d H' e' hd => ?_)
    · have F4 := F3.go mono_F hlt
      have b4 : But [so, fr] H (srcAt K H3 so dx tl (n + 1)) := b3.trans (srcAt_but.mono (by simp))
      refine ⟨_, rfl, _, rfl, _, rfl, small_sz (by simp), fun p2 hp2 => ?_⟩
      have e5 := Ex.new (o := .tup []) hp2
      have b5 := b4.trans ((ex_but.mp e5).mono (S' := [so, fr]) (by simp))
      have r5 : res ws (.red (.matched :: s1)) n = res ws (.rowS 0 s1) (n + 1) := res_some hk (by rw [hd0 hk]; rfl)
      refine ⟨so, dx, tl, fr, p2, v, tvs, ys, ws, n + 1, 0, s1, rfl, F4.ex mono_F e5, by omega, wf1, hle.tail.mono (by omega), hv.mono (F.tups b5), ⟨[], upd_same, rfl, (fun t h => by simp at h), (fun t h => by simp at h), (fun t h => by simp at h)⟩, by omega, qP.from b5 (by omega) r5, qE.from b5 r5⟩
    · refine qE n d H' (res_stop (fun t ht => ?_) fun _ => rfl) (b3.trans ((ex_but.mp e').mono (by simp))) hd
      rw [hd0 ht]
      show (if t = .kwith then _ else none) = none
      rw [if_neg (fun z => hk (by rw [ht, z]))]
  | @row a r e pt k h1 h2 h3 h4 =>
    refine pop rfl h1 (by simp) fun p H3 hp b3 F3 => ?_
    refine ⟨_, rfl, rfl, _, rfl, ite_nm (fun h => absurd h (by decide +kernel)) (fun _ => ?_)⟩
    refine ⟨_, rfl, rfl, _, rfl, ite_nm (fun h => absurd h (by decide +kernel)) (fun _ => ?_)⟩
    refine ⟨_, rfl, rfl, _, rfl, ite_nm (fun h => absurd h (by decide +kernel)) (fun _ => ?_)⟩
    have t3 := F.tups b3
    obtain ⟨rows, g1, g2, g3, g4, g5⟩ := h3.mono t3
    have hk : k ≤ n := hle k (.inr (List.mem_cons_self ..))
    refine ⟨_, rfl, _, rfl, _, rfl, p, _, _, e, rfl, rfl, SqL.of hp, atI_nat (j := 0) rfl, ?_⟩
    refine ⟨_, rfl, p, _, _, .ref r, rfl, rfl, SqL.of hp, atI_nat (j := 1) rfl, r, _, rfl, .inl (SqT.of g1), _, rfl, p, _, _, pt, rfl, rfl, SqL.of hp, atI_nat (j := 2) rfl, _, rfl, small_sz (by simp), fun p2 hp2 => ?_⟩
    have e4 := Ex.new (o := .tup [pt, v]) hp2
    refine ⟨by rw [List.length_append, List.length_map]; exact small_sz (by simp; omega), fun p3 hp3 => ?_⟩
    have e5 := Ex.new (o := .tup (rows.map (fun t => V.ref t.1) ++ [.ref p2])) hp3
    have e45 := e4.trans e5
    have b5 := b3.trans ((ex_but.mp e45).mono (S' := [so, fr]) (by simp))
    have t5 := F.tups b5
    have t45 := Ex.tups e45
    have hp2' := e5 _ _ (upd_same (H := H3) (a := p2) (o := .tup [pt, v]))
    have r5 : res ws (.red (.row k :: s1)) n = res ws (.rowS (k + 1) s1) n := res_like (fun t ht => by rw [hd0 ht]; rfl) fun _ => rfl
    refine ⟨so, dx, tl, fr, p3, e, tvs, ys, ws, n, k + 1, s1, rfl, F3.ex mono_F e45, hl1, wf1, hle.tail, h2.mono t5, ⟨rows ++ [(p2, pt, v)], ?_, by rw [List.length_append, g2]; rfl, fun t ht => ?_, fun t ht => ?_, fun t ht => ?_⟩, by omega, qP.from b5 (Nat.le_refl _) r5, qE.from b5 r5⟩
    · rw [List.map_append]; exact upd_same
    · rcases List.mem_append.mp ht with ht | ht
      · exact t45 _ _ (g3 t ht)
      · rw [List.mem_singleton.mp ht]; exact hp2'
    · rcases List.mem_append.mp ht with ht | ht
      · exact (g4 t ht).mono t45
      · rw [List.mem_singleton.mp ht]; exact h4.mono t5
    · rcases List.mem_append.mp ht with ht | ht
      · exact (g5 t ht).mono t45
      · rw [List.mem_singleton.mp ht]; exact hv.mono t5
end
end Sh
set_option Elab.async false
set_option linter.all false
set_option maxRecDepth 100000
set_option maxHeartbeats 4000000
namespace Sh
open PySem PySem.Spec PyProof.Rows L2 Evl
theorem nm_fi {s : List Fr} (h1 : ∀ r, s ≠ .fn :: r) (h2 : ∀ r, s ≠ .inn :: r) : inV (.str (topNm s)) [V.str "fun", V.str "in"] = false := by
  cases s with
  | nil => decide +kernel
  | cons f r => cases f <;> first | exact absurd rfl (h1 _) | exact absurd rfl (h2 _) | (simp only [topNm, Fr.nm]; decide +kernel)
def spReadE (K : PySem.W.Frag) : Sp := fun vs H Q E => ∃ (so dx tl : Addr) (tvs : List V) (ws : List Str) (n : Nat), vs = [.ref so] ∧ Src K H so dx tl tvs ws n ∧
  (∀ H' v n', But [so] H H' → Src K H' so dx tl tvs ws n' → IsE H' v → res ws c0 n = (if ksAt ws n' = none then none else some n') → Q v H') ∧ BadP K [so] H (res ws c0 n) E
section
variable {P : Program} {w : World} {K : PySem.W.Frag} {mg : Str → Option Value} {base : Heap}
abbrev n_read_expression : List Str := ["source", "frames", "atom", "found", "sign", "name", "rest"]
theorem sc_read_expression : FnScope n_read_expression ["source"] (defScope s_read_expression) := ⟨rfl, rfl, rfl, by decide +kernel, rfl, by decide +kernel, by decide +kernel⟩
theorem ok_read_expression (T : Txt K mg w) : Cal P w K mg base (L2.CX P w) 8 "read_expression" ["source"] (spReadE K) := by
  have c_top_of : Cal P w K mg base _ _ _ _ _ := ok_top_of (P := P) (base := base) T
  have c_attach : Cal P w K mg base _ _ _ _ _ := ok_attach (P := P) (base := base) T
  have c_reduced : Cal P w K mg base _ _ _ _ _ := ok_reduced (P := P) (base := base) T
  have c_begin_operand : Cal P w K mg base _ _ _ _ _ := ok_begin_operand (P := P) (base := base) T
  have c_end_expression : Cal P w K mg base _ _ _ _ _ := ok_end_expression (P := P) (base := base) T
  have m_kind : MCal P w K mg base _ _ _ _ _ _ := ok_kind (P := P) (base := base) T
  have m_take : MCal P w K mg base _ _ _ _ _ _ := ok_take (P := P) (base := base) T
  have c_BadText_init := ok_BadText_init (P := P) (base := base) T
  obtain ⟨des, dn, D⟩ := T.strT
  refine ⟨okX T.f_read_expression sc_read_expression (fun vs H Q E h => ?_) (fun _ _ _ _ _ _ us hl => match us, hl with | [_], _ => rfl) (fun cdv A outer s H vs Q E hr h => ?_), kpOf T.f_read_expression, T.g_read_expression⟩
  · obtain ⟨so, dx, tl, tvs, ws, n, rfl, _⟩ := h; rfl
  obtain ⟨so, dx, tl, tvs, ws, n, rfl, S, qA, qE⟩ := h
  have tk : Takes (cxOf (L2.CX P w) P w K mg base n_read_expression "read_expression" (defScope s_read_expression) (He.ga K "read_expression") cdv A outer s H E) (fun cls d _ H => E cls d H) := takes_of rfl rfl rfl rfl
  refine ⟨_, (pss_cons (ps_set (i := 1) sc_read_expression.nd rfl (by first | exact Or.inl rfl | exact Or.inr rfl) (pe_lst pa_nil))
    (pss_cons (ps_set (i := 2) sc_read_expression.nd rfl (by first | exact Or.inl rfl | exact Or.inr rfl) (pe_cal c_begin_operand hr (by decide) rfl (passes_call tk fun _ _ _ _ h => h) (pa_cons (pv 0) (pa_cons (pv 1) pa_nil))))
    (pss_one (ps_while (passes_of rfl) (pt_val pe_bl) (pss_cut (ps_if (pt_cmpR op_notN (pv 2) pe_non (nomark _)) (pss_one (ps_expr (pe_cal c_attach hr (by decide) rfl pass0 (pa_cons (pv 1) (pa_cons (pv 2) pa_nil))))) pss_nil)
    (pss_cons (ps_if (pt_cmpR op_in_seq (pe_mcal0 m_kind hr (by decide) pass0 (pv 0)) (pgr rfl T.g_ATOMS) (by first | exact nomark _ | rfl)) (pss_cons (ps_if (PW.pt (pw_and (pt_cmpR op_eq (pe_cal c_top_of hr (by decide) rfl pass0 (pa_cons (pv 1) pa_nil)) pe_str (nomark _)) (pw_and1 (pt_cmpR op_gt (pe_callB call_len rfl T.b_len PySem.boot_len (pa_cons (pe_ix ix_tup (pe_ix ix_list (pv 1) (pe_un un_neg pe_int) (fun _ _ => rfl)) pe_int (fun _ _ => rfl)) pa_nil)) (pe_op op_add (pgi rfl T.i_MOST_PARTS) pe_int) (nomark _))))) (pss_one (ps_raise rfl tk (pmk_ex T.o_BadText T.in_BadText c_BadText_init hr (by decide) rfl T.g_BadText (pa_cons (pe_fld (pv 0) rfl) pa_nil)))) pss_nil)
    (pss_cons (ps_set (i := 2) sc_read_expression.nd rfl (by first | exact Or.inl rfl | exact Or.inr rfl) (pe_cal c_begin_operand hr (by decide) rfl (passes_call tk fun _ _ _ _ h => h) (pa_cons (pv 0) (pa_cons (pv 1) pa_nil))))
    (pss_one ps_continue))) pss_nil)
    (pss_cons (ps_set (i := 3) sc_read_expression.nd rfl (by first | exact Or.inl rfl | exact Or.inr rfl) (pe_cal c_reduced hr (by decide) rfl (passes_call tk fun _ _ _ _ h => h) (pa_cons (pv 0) (pa_cons (pv 1) (pa_cons (pe_ix ix_tup (pe_bm0 PySem.F.plainAttrs_list PySem.F.slot_list_pop PySem.F.type_list_pop mt_pop (pv 1)) pe_int (fun _ _ => rfl)) pa_nil)))))
    (pss_cons (ps_if (pt_cmpR (op_in_kd D.D) (pe_mcal0 m_kind hr (by decide) pass0 (pv 0)) (pgr rfl T.g_STRENGTHS) (by first | exact nomark _ | rfl)) (pss_cons (ps_set (i := 4) sc_read_expression.nd rfl (by first | exact Or.inl rfl | exact Or.inr rfl) (pe_mcal0 m_kind hr (by decide) pass0 (pv 0)))
    (pss_one (ps_expr (pe_bm PySem.F.plainAttrs_list PySem.F.slot_list_append PySem.F.type_list_append mt_append (pv 1) (pa_cons (pe_tup (pa_cons pe_str (pa_cons (pe_mcal m_take hr (by decide) (passes_call tk fun _ _ _ _ h => h) (pv 0) (pa_cons (pv 4) pa_nil)) (pa_cons (pv 3) pa_nil)))) pa_nil))))) (pss_cons (ps_while (passes_of rfl) (pt_cmpR op_in_seq (pe_cal c_top_of hr (by decide) rfl pass0 (pa_cons (pv 1) pa_nil)) (pe_tup (pa_cons pe_str (pa_cons pe_str pa_nil))) (by first | exact nomark _ | rfl)) (pss_cons (ps_asg (pe_bm0 PySem.F.plainAttrs_list PySem.F.slot_list_pop PySem.F.type_list_pop mt_pop (pv 1)) (pg_star rfl (pg_name (i := 5) sc_read_expression.nd rfl (by first | exact Or.inl rfl | exact Or.inr rfl)) (pg_name (i := 6) sc_read_expression.nd rfl (by first | exact Or.inl rfl | exact Or.inr rfl))))
    (pss_one (ps_set (i := 3) sc_read_expression.nd rfl (by first | exact Or.inl rfl | exact Or.inr rfl) (pe_ifExp (pt_cmpR op_eq (pv 5) pe_str (nomark _)) (pe_tup (pa_cons pe_str (pa_cons (pe_ix ix_list (pv 6) pe_int (fun _ _ => rfl)) (pa_cons (pv 3) pa_nil)))) (pe_tup (pa_cons pe_str (pa_cons (pe_ix ix_list (pv 6) pe_int (fun _ _ => rfl)) (pa_cons (pe_ix ix_list (pv 6) pe_int (fun _ _ => rfl)) (pa_cons (pv 3) pa_nil))))))))))
    (pss_cons (ps_if (pt_cmpR (op_eqL hr.units0) (pv 1) (pe_lst pa_nil) (nomark _)) (pss_one (ps_ret (pv 3))) pss_nil)
    (pss_cons (ps_set (i := 2) sc_read_expression.nd rfl (by first | exact Or.inl rfl | exact Or.inr rfl) (pe_cal c_end_expression hr (by decide) rfl (passes_call tk fun _ _ _ _ h => h) (pa_cons (pv 0) (pa_cons (pv 1) (pa_cons (pv 3) pa_nil)))))
    (pss_one ps_continue)))))
    (pss_one (ps_set (i := 2) sc_read_expression.nd rfl (by first | exact Or.inl rfl | exact Or.inr rfl) (pe_cal c_begin_operand hr (by decide) rfl (passes_call tk fun _ _ _ _ h => h) (pa_cons (pv 0) (pa_cons (pv 1) pa_nil))))))))))))), ?_⟩
  refine ⟨small_sz (by simp), fun fr hfr => ?_⟩
  have e0 : Ex H (upd H fr (.lst [])) := Ex.new hfr
  have F0 : ESt K (upd H fr (.lst [])) so dx tl tvs ws n fr [] [] := ⟨S.ex e0, upd_same, Stk.nil, (fun z => by have := S.l; rw [z, hfr] at this; cases this), Nat.zero_le _⟩
  have bad : ∀ {H1 : Hp} {r : Option Nat}, But [so, fr] H H1 → res ws c0 n = r → BadP K [so, fr] H1 r E := fun b e i d H' q b' hd => qE i d H' (e.trans q) ((b.trans b').swap hfr) hd
  have b0 : But [so, fr] H (upd H fr (.lst [])) := (ex_but.mp e0).mono (by simp)
  let W : Nat → L2.St → Hp → Prop := fun mm σ H' => ∃ (av : V) (o3 o4 o5 o6 : Option V) (xs : List V) (s : List Fr) (n' : Nat), σ = [some (.ref so), some (.ref fr), some av, o3, o4, o5, o6] ∧ But [so, fr] H H' ∧ ESt K H' so dx tl tvs ws n' fr xs s ∧ n < n' ∧ wf s = true ∧ fLe s (n' - 1) ∧ mm = ws.length - n' ∧
    ((av ≠ .non ∧ IsE H' av ∧ s.length + 1 ≤ n' ∧ res ws c0 n = res ws (.aft (attach s)) n') ∨ (av = .non ∧ (∃ r, s = .mk 0 :: r) ∧ res ws c0 n = res ws (.aft s) n'))
  have into : ∀ {H1 : Hp} {n1 : Nat} {r1 : Option Nat} {g : VK}, But [so, fr] H H1 → n ≤ n1 → res ws c0 n = r1 →
      (∀ v H' mm, n1 < ws.length → mm < ws.length - n1 → (∀ o3 o4 o5 o6, W mm [some (.ref so), some (.ref fr), some v, o3, o4, o5, o6] H') → g v H') → OpdP K so dx tl tvs ws n1 fr H1 r1 g := by
    intro H1 n1 r1 g b1 hn e1 hg
    refine ⟨fun H' v xs' s' n' b' F' hv hne hlt hl wf' le' r' => ?_, fun H' xs' s' n' b' F' hlt wf' le' r' => ?_⟩
    · have hle := F'.S.le
      exact hg v H' (ws.length - n') (by omega) (by omega) fun o3 o4 o5 o6 => ⟨v, o3, o4, o5, o6, xs', s', n', rfl, b1.trans b', F', by omega, wf', le', rfl, .inl ⟨hne, hv, hl, e1.trans r'⟩⟩
    · have hle := F'.S.le
      exact hg .non H' (ws.length - n') (by omega) (by omega) fun o3 o4 o5 o6 => ⟨.non, o3, o4, o5, o6, xs', .mk 0 :: s', n', rfl, b1.trans b', F', by omega, wf', le', rfl, .inr ⟨rfl, ⟨s', rfl⟩, e1.trans r'⟩⟩
  refine ⟨_, rfl, _, rfl, so, dx, tl, fr, tvs, [], ws, n, [], rfl, F0, rfl, fLe.nil, into b0 (Nat.le_refl _) rfl fun v H1 mm _ _ w1 => ?_, bad b0 rfl⟩
  refine ⟨W, ⟨mm, w1 _ _ _ _⟩, ?_⟩
  rintro mm σ H1 ⟨av, o3, o4, o5, o6, xs, s1, n1, rfl, b1, F1, hn1, wf1, le1, rfl, hf⟩
  refine ⟨true, rfl, iteT ⟨fun σ2 H2 => ∃ m', m' < ws.length - n1 ∧ W m' σ2 H2, fun _ _ h => h, ?_⟩⟩
  have hnl := F1.S.le
  have hsz := F1.S.sz
  refine ⟨fun σ2 H2 => ∃ (xs : List V) (s2 : List Fr), σ2 = [some (.ref so), some (.ref fr), some av, o3, o4, o5, o6] ∧ But [so, fr] H H2 ∧ ESt K H2 so dx tl tvs ws n1 fr xs s2 ∧ topM s2 = true ∧ wf s2 = true ∧ fLe s2 n1 ∧ res ws c0 n = res ws (.aft s2) n1, ?_, ?_⟩
  · refine ⟨_, rfl, rfl, _, rfl, ?_⟩
    rcases hf with ⟨g1, g2, g3, g4⟩ | ⟨g1, ⟨r, rfl⟩, g3⟩
    · refine ite2 (fun _ => ?_) (fun h => (h (by simpa using g1)).elim)
      refine ⟨_, rfl, _, rfl, fr, xs, s1, av, rfl, F1.f, F1.p, g2, (by have := F1.xlen; omega), (fun k r e => by
        have := le1 k (.inl (by rw [e]; exact List.mem_cons_self ..)); omega), fun H2 xs2 b2 hf2 hp2 => ?_⟩
      obtain ⟨a1, a2, _⟩ := wf_attach wf1
      have t2 : Tups H1 H2 := b2.tups fun p hp ys e => by rw [List.mem_singleton.mp hp, F1.f] at e; cases e
      refine ⟨xs2, attach s1, rfl, b1.trans (b2.mono (by simp)), ⟨⟨b2 _ _ (by simpa using F1.fne.symm) F1.S.o, b2 _ _ (by simpa using F1.ne) F1.S.l, F1.S.r.mono t2, F1.S.le, F1.S.sz⟩, hf2, hp2, F1.ne, Nat.le_trans attach_len g3⟩, a2, a1, ?_, g4⟩
      exact le1.attach.mono (by omega)
    · refine ite2 (fun h => ?_) (fun _ => ?_)
      · rw [g1] at h; exact absurd h (by simp)
      · exact ⟨xs, _, rfl, b1, F1, rfl, wf1, le1.mono (by omega), g3⟩
  rintro σ2 H2 ⟨xs2, s2, rfl, b2, F2, hM2, wf2, le2, r2⟩
  refine mt_kind F2.S rfl ⟨_, _, rfl, .inr (T.t_ATOMS _), rfl, rfl, _, rfl, ?_⟩
  refine ite_in [some .num, some .word, some .khole, some .name, some .lp, some .kmatch] rfl (fun hin => ?_) (fun hin => ?_)
  · obtain ⟨t, ht, hat⟩ : ∃ t, ksAt ws n1 = some t ∧ atomK t = true := by
      simp only [List.mem_cons, List.not_mem_nil, or_false] at hin
      rcases hin with h | h | h | h | h | h <;> exact ⟨_, h, rfl⟩
    -- the operand begins
    have go : ∀ {H3 : Hp} {xs3 : List V} {g : VK}, But [so, fr] H H3 → ESt K H3 so dx tl tvs ws n1 fr xs3 s2 → res ws c0 n = res ws (.opd s2) n1 →
        (∀ v H' mm, n1 < ws.length → mm < ws.length - n1 → (∀ o3 o4 o5 o6, W mm [some (.ref so), some (.ref fr), some v, o3, o4, o5, o6] H') → g v H') → spOperand K [.ref so, .ref fr] H3 g E := fun b3 F3 r3 hg =>
      ⟨so, dx, tl, fr, tvs, _, ws, n1, s2, rfl, F3, wf2, le2, into b3 (by omega) r3 hg, bad b3 r3⟩
    refine ⟨_, rfl, fr, xs2, topNm s2, rfl, F2.f, FrsR.top F2.p, fun H3 e3 => ⟨rfl, _, rfl, ?_⟩⟩
    have F3 := F2.ex mono_F e3
    have b3 := b2.trans ((ex_but.mp e3).mono (S' := [so, fr]) (by simp))
    refine ite_nm (fun h => ?_) (fun h => ?_)
    · obtain ⟨k, r, rfl⟩ := topMk h
      obtain ⟨ys, u, rfl, hp1, hu⟩ := F3.p.pop
      cases hu with
      | @mk a tt k h1 h2 =>
      obtain ⟨nm, ps, g1, g2, g3⟩ := id h2
      refine ⟨_, rfl, _, rfl, fr, _, _, .ref a, rfl, rfl, SqL.of F3.f, atI_last _ _, a, _, _, .ref tt, rfl, rfl, SqT.of h1, atI_nat (j := 1) rfl, _, _, rfl, .inr ⟨_, SqT.of g1, rfl⟩, _, _, rfl, rfl, _, _, rfl, rfl, _, rfl, ?_⟩
      refine ite2 (fun hlt => ?_) (fun hlt => ?_)
      · have hk3 : 3 ≤ k := by have := of_decide_eq_true hlt; simp at this; omega
        refine raise_ok (v := .int (n1 : Int)) (fun Q hQ => ⟨_, rfl, so, _, dx, _, _, rfl, F3.S.o, T.c_Source, T.n_Source_at, lk_at, hQ⟩) fun d H' e' hd => ?_
        refine bad b3 (r := some n1) ?_ n1 d H' rfl ((ex_but.mp e').mono (by simp)) hd
        rw [r2]
        refine res_bad ht ?_
        show (if atomK t = true then _ else _) = none
        rw [if_pos hat, if_pos hk3]
      · have hk3 : ¬ 3 ≤ k := fun c => hlt (decide_eq_true (by simp; omega))
        refine ⟨_, rfl, _, rfl, go b3 F3 ?_ fun v H' mm _ hm w => ⟨mm, hm, w _ _ _ _⟩⟩
        rw [r2]
        refine res_like (fun t' ht' => ?_) fun hno => by rw [ht] at hno; cases hno
        rw [ht] at ht'; cases ht'
        show (if atomK t = true then _ else _) = _
        rw [if_pos hat, if_neg hk3]; rfl
    · refine iteF ⟨_, rfl, _, rfl, go b3 F3 ?_ fun v H' mm _ hm w => ⟨mm, hm, w _ _ _ _⟩⟩
      obtain ⟨r, rfl⟩ : ∃ r, s2 = .call :: r := by
        cases s2 with
        | nil => cases hM2
        | cons f r => cases f <;> first | exact ⟨r, rfl⟩ | exact absurd rfl h | (simp [topM, Fr.isM] at hM2)
      rw [r2]
      refine res_like (fun t' ht' => ?_) fun hno => by rw [ht] at hno; cases hno
      rw [ht] at ht'; cases ht'
      show (if atomK t = true then _ else _) = _
      rw [if_pos hat]; rfl
  · -- the atoms end here
    have hat : ∀ t, ksAt ws n1 = some t → atomK t = false := fun t ht => by
      rw [ht] at hin
      cases t <;> first | rfl | exact absurd (by simp) hin
    obtain ⟨f, r, rfl, hfM⟩ : ∃ f r, s2 = f :: r ∧ f.isM = true := by
      cases s2 with
      | nil => cases hM2
      | cons f r => exact ⟨f, r, rfl, hM2⟩
    obtain ⟨ys, u, rfl, hu, F3⟩ := F2.pop mono_F
    have t3 : Tups H2 (upd H2 fr (.lst ys)) := Tups.lst F2.f
    have b3 : But [so, fr] H (upd H2 fr (.lst ys)) := b2.trans (But.put (by simp))
    have wfr := wf_tail wf2
    have hMr := notM_under (.inl hfM) wf2
    have r3 : res ws c0 n = res ws (.red r) n1 := by
      rw [r2]
      cases f <;> simp only [Fr.isM] at hfM <;> (try cases hfM)
      · exact res_like (fun t ht => by show (if atomK t = true then _ else _) = _; rw [if_neg (by rw [hat t ht]; simp)]; rfl) fun _ => rfl
      · exact res_like (fun t ht => by show (if atomK t = true then _ else _) = _; rw [if_neg (by rw [hat t ht]; simp)]; rfl) fun _ => rfl
    obtain ⟨a, nm, x, rfl, ha, hx⟩ : ∃ a nm x, u = .ref a ∧ H2 a = some (.tup [nm, x]) ∧ IsE H2 x := by
      cases hu with
      | @mk a tt k h1 h2 => exact ⟨a, _, _, rfl, h1, h2.isE (by have := le2 k (.inl (List.mem_cons_self ..)); omega)⟩
      | @call a e h1 h2 => exact ⟨a, _, _, rfl, h1, h2⟩
      | br => cases hfM
      | fn => cases hfM
      | lt => cases hfM
      | inn => cases hfM
      | matched => cases hfM
      | row => cases hfM
      | op => cases hfM
    refine ⟨_, rfl, _, rfl, _, rfl, tyL F2.f, fr, _, _, rfl, rfl, F2.f, last_at, ?_⟩
    rw [drop_last]
    refine ⟨a, _, _, x, rfl, rfl, SqT.of (t3 _ _ ha), atI_nat (j := 1) rfl, so, dx, tl, fr, x, tvs, ys, ws, n1, r, rfl, F3, wfr, hMr, le2.tail, hx.mono t3, fun H4 v4 xs4 s4 b4 F4 hv4 wf4 le4 hl4 hcase => ?_, bad b3 r3⟩
    have b4' := b3.trans b4
    obtain ⟨r0, hr1, hr2, hr3⟩ := D.get (ksAt ws n1)
    refine mt_kind F4.S rfl ⟨_, r0, rfl, rfl, hr1, _, rfl, ?_⟩
    rw [hr3]
    rcases hcase with ⟨t, ht, h0, hM4, r4⟩ | ⟨h0, hw4, r4⟩
    · -- a sign
      rw [ht]
      refine ite2 (fun _ => ?_) (fun h => (h (decide_eq_true h0)).elim)
      refine mt_kind F4.S rfl ?_
      rw [ht]
      refine ⟨_, rfl, tyL F4.f, mt_takeE t F4.S rfl (fun Q q => ⟨_, rfl, q⟩) (fun z _ hz hkz hlt => ?_) (fun h => absurd ht h)⟩
      have F5 := F4.go mono_F hlt
      have b5 : But [so, fr] H (srcAt K H4 so dx tl (n1 + 1)) := b4'.trans (srcAt_but.mono (by simp))
      refine ⟨_, rfl, small_sz (by simp), fun p hp => ?_⟩
      have e6 := Ex.new (o := .tup [.str "op", .str z, v4]) hp
      have F6 := F5.ex mono_F e6
      refine ⟨fr, xs4, _, rfl, rfl, F6.f, small_lt (by have := F6.xlen; omega), ?_⟩
      have hzt : z = t.txt := by
        have hzs : z ∈ spec := by
          refine Classical.byContradiction fun hns => ?_
          rw [kd_not hns] at hkz
          split at hkz
          · subst hkz; exact absurd h0 (by decide)
          · split at hkz
            · subst hkz; exact absurd h0 (by decide)
            · split at hkz
              · subst hkz; exact absurd h0 (by decide)
              · subst hkz; exact absurd h0 (by decide)
        rw [← hkz]; exact (kd_spec hzs).symm
      subst hzt
      have hl5 := F4.len
      have F7 := F6.push mono_F (f := .op t) (v := .ref p) (.op upd_same (hv4.mono (F4.S.tups.trans (Ex.tups e6))) h0) (by omega)
      have b7 : But [so, fr] H _ := (b5.trans ((ex_but.mp e6).mono (S' := [so, fr]) (by simp))).trans (But.put (o := .lst (xs4 ++ [.ref p])) (p := fr) (by simp))
      refine ⟨_, rfl, _, rfl, so, dx, tl, fr, tvs, _, ws, n1 + 1, .op t :: s4, rfl, F7, wf_cons wf4 (ok_op hM4), (le4.mono (Nat.le_succ _)).cons (fun k e => by cases e) (fun k e => by cases e), into b7 (by omega) (r3.trans r4) fun v H' mm h1 h2 w => ⟨mm, by omega, w _ _ _ _⟩, bad b7 (r3.trans r4)⟩
    · refine ite2 (fun h => ?_) (fun _ => ?_)
      · have h := of_decide_eq_true h
        cases hk : ksAt ws n1 with
        | none => rw [hk] at h; exact absurd h (by decide)
        | some t => rw [hk] at h; have := h0 t hk; simp only [stO] at h; omega
      let W2 : Nat → L2.St → Hp → Prop := fun mm σ H' => ∃ (v o2 : V) (o4 o5 o6 : Option V) (xs : List V) (s : List Fr), σ = [some (.ref so), some (.ref fr), some o2, some v, o4, o5, o6] ∧ But [so, fr] H H' ∧ ESt K H' so dx tl tvs ws n1 fr xs s ∧ IsE H' v ∧ wf s = true ∧ wideTop s = true ∧ fLe s n1 ∧ res ws c0 n = res ws (.red s) n1 ∧ mm = s.length
      refine ⟨W2, ⟨_, v4, av, o4, o5, o6, xs4, s4, rfl, b4', F4, hv4, wf4, hw4, le4, r3.trans r4, rfl⟩, ?_⟩
      rintro mm σ H5 ⟨v5, o2, o4, o5, o6, xs5, s5, rfl, b5, F5, hv5, wf5, hw5, le5, r5, rfl⟩
      refine ⟨_, rfl, fr, xs5, topNm s5, rfl, F5.f, FrsR.top F5.p, fun H6 e6 => ?_⟩
      refine ⟨small_sz (by simp), fun q hq => ⟨q, _, rfl, .inr (SqT.of upd_same), rfl, rfl, _, rfl, ?_⟩⟩
      have e7 := e6.trans (Ex.new (o := .tup [.str "fun", .str "in"]) hq)
      have F7 := F5.ex mono_F e7
      have b7 := b5.trans ((ex_but.mp e7).mono (S' := [so, fr]) (by simp))
      have hv7 := hv5.mono (Ex.tups e7)
      -- behind the loop
      have fin : (∀ r, s5 ≠ .fn :: r) → (∀ r, s5 ≠ .inn :: r) → _ := fun h1 h2 => nm_fi h1 h2
      -- one frame more
      have cl : ∀ {f : Fr} {r : List Fr}, s5 = f :: r → (f = .fn ∨ f = .inn) → res ws (.red s5) n1 = res ws (.red r) n1 ∧ wideTop r = true := by
        rintro f r rfl hf
        have hw : wideTop r = true := wide_under (by rcases hf with h | h <;> simp [h]) wf5
        refine ⟨res_like (fun t ht => ?_) fun _ => ?_, hw⟩
        · show dRed (f :: r) t = dRed r t
          rw [dRed_wide hw5, dRed_wide hw, dEnd0 (h0 t ht), dEnd0 (h0 t ht)]
          rcases hf with rfl | rfl <;> rfl
        · show accR (f :: r) = accR r
          rw [accR_wide hw5, accR_wide hw]
          rcases hf with rfl | rfl <;> rfl
      by_cases hfn : ∃ r, s5 = .fn :: r
      · obtain ⟨r, rfl⟩ := hfn
        obtain ⟨c1, c2⟩ := cl rfl (.inl rfl)
        rw [show inV (V.str (topNm (.fn :: r))) [V.str "fun", V.str "in"] = true from by simp only [topNm, Fr.nm]; decide +kernel]
        refine iteT ⟨fun σ2 H2 => ∃ m', m' < (Fr.fn :: r).length ∧ W2 m' σ2 H2, fun _ _ h => h, ?_⟩
        obtain ⟨ys, u, rfl, hu, F8⟩ := F7.pop mono_F
        cases hu with
        | @fn a x h1 =>
        have t8 : Tups (upd H6 q (.tup [.str "fun", .str "in"])) (upd (upd H6 q (.tup [.str "fun", .str "in"])) fr (.lst ys)) := Tups.lst F7.f
        refine ⟨_, rfl, tyL F7.f, fr, _, _, rfl, rfl, F7.f, last_at, ?_⟩
        rw [drop_last]
        refine ⟨a, _, _, rfl, SqT.of (t8 _ _ h1), by simp, fun p hp => ?_⟩
        have e9 := Ex.new (o := .lst [x]) hp
        refine ⟨_, rfl, rfl, _, rfl, ite_nm (fun _ => ?_) (fun h => absurd rfl h)⟩
        refine ⟨_, rfl, p, _, _, x, rfl, rfl, SqL.of upd_same, atI_nat (j := 0) rfl, _, rfl, small_sz (by simp), fun p2 hp2 => ?_⟩
        have e10 := e9.trans (Ex.new (o := .tup [.str "fun", x, v5]) hp2)
        have t10 := t8.trans (Ex.tups e10)
        exact ⟨r.length, Nat.lt_succ_self _, .ref p2, o2, _, _, _, ys, r, rfl, (b7.trans (But.put (by simp))).trans ((ex_but.mp e10).mono (by simp)), F8.ex mono_F e10, .fn upd_same (hv7.mono t10), wf_tail wf5, c2, le5.tail, r5.trans c1, rfl⟩
      by_cases hin' : ∃ r, s5 = .inn :: r
      · obtain ⟨r, rfl⟩ := hin'
        obtain ⟨c1, c2⟩ := cl rfl (.inr rfl)
        rw [show inV (V.str (topNm (.inn :: r))) [V.str "fun", V.str "in"] = true from by simp only [topNm, Fr.nm]; decide +kernel]
        refine iteT ⟨fun σ2 H2 => ∃ m', m' < (Fr.inn :: r).length ∧ W2 m' σ2 H2, fun _ _ h => h, ?_⟩
        obtain ⟨ys, u, rfl, hu, F8⟩ := F7.pop mono_F
        cases hu with
        | @inn a x e h1 h2 =>
        have t8 : Tups (upd H6 q (.tup [.str "fun", .str "in"])) (upd (upd H6 q (.tup [.str "fun", .str "in"])) fr (.lst ys)) := Tups.lst F7.f
        refine ⟨_, rfl, tyL F7.f, fr, _, _, rfl, rfl, F7.f, last_at, ?_⟩
        rw [drop_last]
        refine ⟨a, _, _, rfl, SqT.of (t8 _ _ h1), by simp, fun p hp => ?_⟩
        have e9 := Ex.new (o := .lst [x, e]) hp
        refine ⟨_, rfl, rfl, _, rfl, ite_nm (fun h => absurd h (by decide +kernel)) (fun _ => ?_)⟩
        refine ⟨_, rfl, p, _, _, x, rfl, rfl, SqL.of upd_same, atI_nat (j := 0) rfl, _, rfl, p, _, _, e, rfl, rfl, SqL.of upd_same, atI_nat (j := 1) rfl, _, rfl, small_sz (by simp), fun p2 hp2 => ?_⟩
        have e10 := e9.trans (Ex.new (o := .tup [.str "let", x, e, v5]) hp2)
        have t10 := t8.trans (Ex.tups e10)
        exact ⟨r.length, Nat.lt_succ_self _, .ref p2, o2, _, _, _, ys, r, rfl, (b7.trans (But.put (by simp))).trans ((ex_but.mp e10).mono (by simp)), F8.ex mono_F e10, .lt upd_same (h2.mono t10) (hv7.mono t10), wf_tail wf5, c2, le5.tail, r5.trans c1, rfl⟩
      rw [nm_fi (fun r e => hfn ⟨r, e⟩) (fun r e => hin' ⟨r, e⟩)]
      refine iteF ?_
      refine ⟨_, rfl, small_sz (by simp), fun q2 hq2 => ?_⟩
      have e8 := Ex.new (o := .lst []) hq2
      have F8 := F7.ex mono_F e8
      have b8 := b7.trans ((ex_but.mp e8).mono (S' := [so, fr]) (by simp))
      have hv8 := hv7.mono (Ex.tups e8)
      refine ⟨fr, q2, xs5, rfl, rfl, SqL.of F8.f, SqL.of upd_same, _, rfl, ?_⟩
      cases s5 with
      | nil =>
        have : xs5 = [] := Stk.nil_iff F5.p
        subst this
        refine iteT ⟨_, rfl, qA _ v5 n1 (b8.swap hfr) F8.S hv8 ?_⟩
        rw [r5]
        cases hk : ksAt ws n1 with
        | none => rw [if_pos rfl, res_end hk]; rfl
        | some t =>
          rw [if_neg (by simp)]
          refine res_bad hk ?_
          show dRed [] t = none
          rw [dRed_wide rfl, dEnd0 (h0 t hk)]; rfl
      | cons f r =>
        have hx : xs5.isEmpty = false := by
          obtain ⟨ys, u, rfl, _⟩ := F5.p.pop
          simp
        rw [hx]
        refine iteF ?_
        exact ⟨_, rfl, _, rfl, _, rfl, so, dx, tl, fr, v5, tvs, xs5, ws, n1, f :: r, rfl, F8, wf5, hw5, by simp, (fun r' e => hfn ⟨r', e⟩), (fun r' e => hin' ⟨r', e⟩), le5, h0, hv8, into b8 (by omega) r5 fun v H' mm h1 h2 w => ⟨mm, h2, w _ _ _ _⟩, bad b8 r5⟩
end
end Sh
set_option Elab.async false
set_option linter.all false
set_option maxRecDepth 100000
set_option maxHeartbeats 4000000
namespace Sh
open PySem PySem.Spec PyProof.Rows L2 Evl
/-- the parts of an expression: a list or a tuple -/
def PtsR (K : PySem.W.Frag) (H : Hp) (r : Addr) : Prop := ∃ xs, (SqL K H r xs ∨ SqT K H r xs) ∧ (∀ x, x ∈ xs → IsE H x) ∧ xs.length ≤ 80001
def spParts (K : PySem.W.Frag) : Sp := fun vs H Q _ => ∃ v, vs = [v] ∧ IsE H v ∧ ∀ H' r, Ex H H' → PtsR K H' r → Q (.ref r) H'
def spPlaces (K : PySem.W.Frag) : Sp := fun vs H Q E => ∃ (l : Addr) (v : V), vs = [.ref l] ∧ H l = some (.lst [v]) ∧ IsE H v ∧ (∀ H', Ex H H' → Q .non H') ∧ ∀ d H', Ex H H' → E (.ref (He.ga K "TooLarge")) (some d) H'
def spEnd (K : PySem.W.Frag) : Sp := fun vs H Q E => ∃ (so dx tl : Addr) (tvs : List V) (ws : List Str) (n : Nat), vs = [.ref so] ∧ Src K H so dx tl tvs ws n ∧ (ksAt ws n = none → Q .non H) ∧
  (ksAt ws n ≠ none → ∀ (d : Addr) (H' : Hp), Ex H H' → H' d = some (.xd [("index", .int (n : Int))]) → E (.ref (He.ga K "BadText")) (some d) H')
def spParse (K : PySem.W.Frag) : Sp := fun vs H Q E => ∃ (z : Str), vs = [.str z] ∧ z.length ≤ 40000 ∧
  (runC c0 ((toks z).map kd) 0 = none → (∀ H' v, Ex H H' → Q v H') ∧ ∀ d H', Ex H H' → E (.ref (He.ga K "TooLarge")) (some d) H') ∧
  (∀ i, runC c0 ((toks z).map kd) 0 = some i → ∀ (d : Addr) (H' : Hp), Ex H H' → H' d = some (.xd [("index", .int (i : Int))]) → E (.ref (He.ga K "BadText")) (some d) H')
theorem cut_from {K : PySem.W.Frag} {H : Hp} {Q : VK} {a : Addr} {xs : List V} {k : Nat} (h : SqT K H a xs) (hk : 0 < k) (hl : k ≤ xs.length) (q : ∀ p, H p = none → Q (.ref p) (upd H p (.tup (xs.drop k)))) : rSlT K (.ref a) (some (k : Int)) none H Q := by
  refine ⟨a, xs, rfl, h, ?_, ?_⟩
  · rw [HT.sIx_nat, HT.sIx_none]; omega
  · have e : cutV xs (some (k : Int)) none = xs.drop k := by
      unfold cutV
      rw [HT.sIx_nat, HT.sIx_none, Nat.min_eq_left hl]
      exact List.take_of_length_le (by rw [List.length_drop]; omega)
    rw [e]; exact q
section
variable {P : Program} {w : World} {K : PySem.W.Frag} {mg : Str → Option Value} {base : Heap}
abbrev n_parts_of : List Str := ["expression", "name", "found", "pattern", "part"]
theorem sc_parts_of : FnScope n_parts_of ["expression"] (defScope s_parts_of) := ⟨rfl, rfl, rfl, by decide +kernel, rfl, by decide +kernel, by decide +kernel⟩
theorem ok_parts_of (T : Txt K mg w) : Cal P w K mg base CX0 1 "parts_of" ["expression"] (spParts K) := by
  refine ⟨ok0 T.f_parts_of sc_parts_of (fun vs H Q E h => ?_) (fun _ _ _ _ _ _ us hl => match us, hl with | [_], _ => rfl) (fun cdv A outer s H vs Q E hr h => ?_), kpOf T.f_parts_of, T.g_parts_of⟩
  · obtain ⟨v, rfl, _⟩ := h; rfl
  obtain ⟨v, rfl, hv, q⟩ := h
  refine ⟨_, (pss_cons (ps_set (i := 1) sc_parts_of.nd rfl (by first | exact Or.inl rfl | exact Or.inr rfl) (pe_ix ix_tup (pv 0) pe_int (fun _ _ => rfl)))
    (pss_cons (ps_if (pt_cmpR op_in_seq (pv 1) (pe_tup (pa_cons pe_str (pa_cons pe_str (pa_cons pe_str (pa_cons pe_str pa_nil))))) (by first | exact nomark _ | rfl)) (pss_one (ps_ret (pe_tup pa_nil))) pss_nil)
    (pss_cons (ps_if (pt_cmpR op_eq (pv 1) pe_str (nomark _)) (pss_cons (ps_set (i := 2) sc_parts_of.nd rfl (by first | exact Or.inl rfl | exact Or.inr rfl) (pe_lst (pa_cons (pe_ix ix_tup (pv 0) pe_int (fun _ _ => rfl)) pa_nil)))
    (pss_cons (ps_for PassesOwn.never rfl (pi_seq (pe_ix ix_tup (pv 0) pe_int (fun _ _ => rfl))) (pg_tup rfl (pgs_cons (pg_name (i := 3) sc_parts_of.nd rfl (by first | exact Or.inl rfl | exact Or.inr rfl)) (pgs_cons (pg_name (i := 4) sc_parts_of.nd rfl (by first | exact Or.inl rfl | exact Or.inr rfl)) pgs_nil))) (pss_one (ps_expr (pe_bm PySem.F.plainAttrs_list PySem.F.slot_list_extend PySem.F.type_list_extend mt_extend (pv 2) (pa_cons (pe_lst (pa_cons (pv 3) (pa_cons (pv 4) pa_nil))) pa_nil)))))
    (pss_one (ps_ret (pv 2))))) pss_nil)
    (pss_one (ps_ret (pe_ifExp (pt_cmpR op_eq (pv 1) pe_str (nomark _)) (pe_slice sl_tup (pv 0) (po_some pe_int) po_none) (pe_slice sl_tup (pv 0) (po_some pe_int) po_none))))))), ?_⟩
  cases hv with
  | @leaf a s r h1 h2 =>
    refine ⟨_, rfl, a, _, _, .str s, rfl, rfl, SqT.of h1, atI_nat (j := 0) rfl, ?_⟩
    refine ⟨_, rfl, small_sz (by simp), fun p hp => ⟨p, _, rfl, .inr (SqT.of upd_same), rfl, rfl, _, rfl, ?_⟩⟩
    rw [show inV (V.str s) [V.str "number", V.str "word", V.str "hole", V.str "any"] = true from by
      show inV (V.str s) ([("number" : Str), "word", "hole", "any"].map V.str) = true
      rw [inV_str]; exact decide_eq_true h2]
    have e1 := Ex.new (o := .tup [.str "number", .str "word", .str "hole", .str "any"]) hp
    refine iteT ⟨small_sz (by simp), fun p2 hp2 => ?_⟩
    exact q _ p2 (e1.trans (Ex.new (o := .tup []) hp2)) ⟨[], .inr (SqT.of upd_same), (fun x hx => by simp at hx), by simp⟩
  | @mk a nm ps h1 h2 h3 =>
    refine ⟨_, rfl, a, _, _, .str "make", rfl, rfl, SqT.of h1, atI_nat (j := 0) rfl, ?_⟩
    refine ⟨_, rfl, small_sz (by simp), fun p hp => ⟨p, _, rfl, .inr (SqT.of upd_same), rfl, rfl, _, rfl, ?_⟩⟩
    have e1 := Ex.new (o := .tup [.str "number", .str "word", .str "hole", .str "any"]) hp
    rw [show inV (V.str "make") [V.str "number", V.str "word", V.str "hole", V.str "any"] = false from by decide +kernel]
    refine iteF ⟨_, rfl, rfl, _, rfl, ite_nm (fun h => absurd h (by decide +kernel)) (fun _ => ?_)⟩
    refine ⟨_, rfl, rfl, _, rfl, ite_nm (fun h => absurd h (by decide +kernel)) (fun _ => ?_)⟩
    refine ⟨_, rfl, _, rfl, cut_from (k := 2) (SqT.of (e1 _ _ h1)) (by decide) (by simp) fun p2 hp2 => ?_⟩
    have e2 := e1.trans (Ex.new (o := .tup ps) hp2)
    exact q _ p2 e2 ⟨ps, .inr (SqT.of upd_same), fun x hx => (h2 x hx).mono (Ex.tups e2), by omega⟩
  | @fn a x e h1 h2 =>
    refine ⟨_, rfl, a, _, _, .str "fun", rfl, rfl, SqT.of h1, atI_nat (j := 0) rfl, ?_⟩
    refine ⟨_, rfl, small_sz (by simp), fun p hp => ⟨p, _, rfl, .inr (SqT.of upd_same), rfl, rfl, _, rfl, ?_⟩⟩
    have e1 := Ex.new (o := .tup [.str "number", .str "word", .str "hole", .str "any"]) hp
    rw [show inV (V.str "fun") [V.str "number", V.str "word", V.str "hole", V.str "any"] = false from by decide +kernel]
    refine iteF ⟨_, rfl, rfl, _, rfl, ite_nm (fun h => absurd h (by decide +kernel)) (fun _ => ?_)⟩
    refine ⟨_, rfl, rfl, _, rfl, ite_nm (fun h => absurd h (by decide +kernel)) (fun _ => ?_)⟩
    refine ⟨_, rfl, _, rfl, cut_from (k := 2) (SqT.of (e1 _ _ h1)) (by decide) (by simp) fun p2 hp2 => ?_⟩
    have e2 := e1.trans (Ex.new (o := .tup [e]) hp2)
    exact q _ p2 e2 ⟨[e], .inr (SqT.of upd_same), (fun x hx => by rw [List.mem_singleton.mp hx]; exact h2.mono (Ex.tups e2)), by simp⟩
  | @lt a x e f h1 h2 h3 =>
    refine ⟨_, rfl, a, _, _, .str "let", rfl, rfl, SqT.of h1, atI_nat (j := 0) rfl, ?_⟩
    refine ⟨_, rfl, small_sz (by simp), fun p hp => ⟨p, _, rfl, .inr (SqT.of upd_same), rfl, rfl, _, rfl, ?_⟩⟩
    have e1 := Ex.new (o := .tup [.str "number", .str "word", .str "hole", .str "any"]) hp
    rw [show inV (V.str "let") [V.str "number", V.str "word", V.str "hole", V.str "any"] = false from by decide +kernel]
    refine iteF ⟨_, rfl, rfl, _, rfl, ite_nm (fun h => absurd h (by decide +kernel)) (fun _ => ?_)⟩
    refine ⟨_, rfl, rfl, _, rfl, ite_nm (fun h => absurd h (by decide +kernel)) (fun _ => ?_)⟩
    refine ⟨_, rfl, _, rfl, cut_from (k := 2) (SqT.of (e1 _ _ h1)) (by decide) (by simp) fun p2 hp2 => ?_⟩
    have e2 := e1.trans (Ex.new (o := .tup [e, f]) hp2)
    exact q _ p2 e2 ⟨[e, f], .inr (SqT.of upd_same), (fun x hx => by
      rcases List.mem_cons.mp hx with rfl | hx
      · exact h2.mono (Ex.tups e2)
      · rw [List.mem_singleton.mp hx]; exact h3.mono (Ex.tups e2)), by simp⟩
  | @op a x e f h1 h2 h3 =>
    refine ⟨_, rfl, a, _, _, .str "op", rfl, rfl, SqT.of h1, atI_nat (j := 0) rfl, ?_⟩
    refine ⟨_, rfl, small_sz (by simp), fun p hp => ⟨p, _, rfl, .inr (SqT.of upd_same), rfl, rfl, _, rfl, ?_⟩⟩
    have e1 := Ex.new (o := .tup [.str "number", .str "word", .str "hole", .str "any"]) hp
    rw [show inV (V.str "op") [V.str "number", V.str "word", V.str "hole", V.str "any"] = false from by decide +kernel]
    refine iteF ⟨_, rfl, rfl, _, rfl, ite_nm (fun h => absurd h (by decide +kernel)) (fun _ => ?_)⟩
    refine ⟨_, rfl, rfl, _, rfl, ite_nm (fun h => absurd h (by decide +kernel)) (fun _ => ?_)⟩
    refine ⟨_, rfl, _, rfl, cut_from (k := 2) (SqT.of (e1 _ _ h1)) (by decide) (by simp) fun p2 hp2 => ?_⟩
    have e2 := e1.trans (Ex.new (o := .tup [e, f]) hp2)
    exact q _ p2 e2 ⟨[e, f], .inr (SqT.of upd_same), (fun x hx => by
      rcases List.mem_cons.mp hx with rfl | hx
      · exact h2.mono (Ex.tups e2)
      · rw [List.mem_singleton.mp hx]; exact h3.mono (Ex.tups e2)), by simp⟩
  | @call a e f h1 h2 h3 =>
    refine ⟨_, rfl, a, _, _, .str "call", rfl, rfl, SqT.of h1, atI_nat (j := 0) rfl, ?_⟩
    refine ⟨_, rfl, small_sz (by simp), fun p hp => ⟨p, _, rfl, .inr (SqT.of upd_same), rfl, rfl, _, rfl, ?_⟩⟩
    have e1 := Ex.new (o := .tup [.str "number", .str "word", .str "hole", .str "any"]) hp
    rw [show inV (V.str "call") [V.str "number", V.str "word", V.str "hole", V.str "any"] = false from by decide +kernel]
    refine iteF ⟨_, rfl, rfl, _, rfl, ite_nm (fun h => absurd h (by decide +kernel)) (fun _ => ?_)⟩
    refine ⟨_, rfl, rfl, _, rfl, ite_nm (fun _ => ?_) (fun h => absurd rfl h)⟩
    refine ⟨_, rfl, _, rfl, cut_from (k := 1) (SqT.of (e1 _ _ h1)) (by decide) (by simp) fun p2 hp2 => ?_⟩
    have e2 := e1.trans (Ex.new (o := .tup [e, f]) hp2)
    exact q _ p2 e2 ⟨[e, f], .inr (SqT.of upd_same), (fun x hx => by
      rcases List.mem_cons.mp hx with rfl | hx
      · exact h2.mono (Ex.tups e2)
      · rw [List.mem_singleton.mp hx]; exact h3.mono (Ex.tups e2)), by simp⟩
  | @mt a r e rows h1 h2 h3 h4 h5 h6 h7 =>
    refine ⟨_, rfl, a, _, _, .str "match", rfl, rfl, SqT.of h1, atI_nat (j := 0) rfl, ?_⟩
    refine ⟨_, rfl, small_sz (by simp), fun p hp => ⟨p, _, rfl, .inr (SqT.of upd_same), rfl, rfl, _, rfl, ?_⟩⟩
    have e1 := Ex.new (o := .tup [.str "number", .str "word", .str "hole", .str "any"]) hp
    rw [show inV (V.str "match") [V.str "number", V.str "word", V.str "hole", V.str "any"] = false from by decide +kernel]
    refine iteF ⟨_, rfl, rfl, _, rfl, ite_nm (fun _ => ?_) (fun h => absurd rfl h)⟩
    refine ⟨_, rfl, a, _, _, e, rfl, rfl, SqT.of (e1 _ _ h1), atI_nat (j := 1) rfl, small_sz (by simp), fun l hl => ?_⟩
    have e2 := e1.trans (Ex.new (o := .lst [e]) hl)
    have hlH : H l = none := fresh_back e1 hl
    refine ⟨_, rfl, a, _, _, .ref r, rfl, rfl, SqT.of (e2 _ _ h1), atI_nat (j := 2) rfl, r, rfl, .inr ⟨⟨_, SqT.of (e2 _ _ h3)⟩, ?_⟩⟩
    refine for_tup (xs := rows.map fun t => V.ref t.1) (fun i σ H' => ∃ (o3 o4 : Option V) (acc : List V), σ = [some (.ref a), some (.str "match"), some (.ref l), o3, o4] ∧ Ex H H' ∧ H' l = some (.lst acc) ∧ (∀ x, x ∈ acc → IsE H' x) ∧ acc.length = 1 + 2 * i) ?_ ?_ ?_ ?_
    · exact ⟨_, _, [e], rfl, e2, upd_same, (fun x hx => by rw [List.mem_singleton.mp hx]; exact h2.mono (Ex.tups e2)), rfl⟩
    · rintro i σ H' _ ⟨o3, o4, acc, rfl, ex, _⟩
      exact SqT.of (ex _ _ h3)
    · rintro i x σ H' hi ⟨o3, o4, acc, rfl, ex, hacc, hall, hlen⟩
      obtain ⟨t, ht, rfl⟩ : ∃ t, rows[i]? = some t ∧ x = .ref t.1 := by
        rw [List.getElem?_map] at hi
        cases e : rows[i]? with
        | none => rw [e] at hi; cases hi
        | some t => rw [e] at hi; exact ⟨t, rfl, (Option.some.inj hi).symm⟩
      have hm : t ∈ rows := List.mem_of_getElem? ht
      have hi' : i < rows.length := (List.getElem?_eq_some_iff.mp ht).1
      refine ⟨t.1, _, rfl, SqT.of (ex _ _ (h4 t hm)), rfl, _, _, rfl, _, _, rfl, rfl, ?_⟩
      refine ⟨_, rfl, tyL hacc, _, rfl, _, rfl, small_sz (by simp), fun b hb => ?_⟩
      have e3 := Ex.new (o := .lst [t.2.1, t.2.2]) hb
      refine ⟨l, b, acc, [t.2.1, t.2.2], rfl, rfl, e3 _ _ hacc, upd_same, small_sz (by simp; omega), ?_⟩
      have tt : Tups H' (upd (upd H' b (.lst [t.2.1, t.2.2])) l (.lst (acc ++ [t.2.1, t.2.2]))) := (Ex.tups e3).trans (Tups.lst (e3 _ _ hacc))
      refine ⟨_, _, _, rfl, Ex.mut (ex.trans e3) hlH, upd_same, fun x hx => ?_, by rw [List.length_append, hlen]; simp; omega⟩
      rcases List.mem_append.mp hx with hx | hx
      · exact (hall x hx).mono tt
      · rcases List.mem_cons.mp hx with rfl | hx
        · exact ((h5 t hm).mono (Ex.tups ex)).mono tt
        · rw [List.mem_singleton.mp hx]; exact ((h6 t hm).mono (Ex.tups ex)).mono tt
    · rintro σ H' ⟨o3, o4, acc, rfl, ex, hacc, hall, hlen⟩
      rw [List.length_map] at hlen
      exact ⟨_, rfl, q H' l ex ⟨acc, .inl (SqL.of hacc), hall, by omega⟩⟩
abbrev n_check_end : List Str := ["source"]
theorem sc_check_end : FnScope n_check_end ["source"] (defScope s_check_end) := ⟨rfl, rfl, rfl, by decide +kernel, rfl, by decide +kernel, by decide +kernel⟩
theorem ok_check_end (T : Txt K mg w) : Cal P w K mg base (L2.CX P w) 3 "check_end" ["source"] (spEnd K) := by
  have m_kind : MCal P w K mg base _ _ _ _ _ _ := ok_kind (P := P) (base := base) T
  have c_BadText_init := ok_BadText_init (P := P) (base := base) T
  refine ⟨okX T.f_check_end sc_check_end (fun vs H Q E h => ?_) (fun _ _ _ _ _ _ us hl => match us, hl with | [_], _ => rfl) (fun cdv A outer s H vs Q E hr h => ?_), kpOf T.f_check_end, T.g_check_end⟩
  · obtain ⟨so, dx, tl, tvs, ws, n, rfl, _⟩ := h; rfl
  obtain ⟨so, dx, tl, tvs, ws, n, rfl, S, q1, q2⟩ := h
  have tk : Takes (cxOf (L2.CX P w) P w K mg base n_check_end "check_end" (defScope s_check_end) (He.ga K "check_end") cdv A outer s H E) (fun cls d _ H => E cls d H) := takes_of rfl rfl rfl rfl
  refine ⟨_, (pss_one (ps_if (pt_cmpR op_ne (pe_mcal0 m_kind hr (by decide) pass0 (pv 0)) pe_str (nomark _)) (pss_one (ps_raise rfl tk (pmk_ex T.o_BadText T.in_BadText c_BadText_init hr (by decide) rfl T.g_BadText (pa_cons (pe_fld (pv 0) rfl) pa_nil)))) pss_nil)), ?_⟩
  refine mt_kind S rfl ⟨rfl, _, rfl, ite_kn (p := none) (fun h => ?_) (fun h => ?_)⟩
  · exact raise_ok (fun Q hQ => ⟨_, rfl, so, _, dx, _, _, rfl, S.o, T.c_Source, T.n_Source_at, lk_at, hQ⟩) (q2 h)
  · exact q1 h
abbrev n_check_places : List Str := ["expressions", "expression", "many", "left", "place", "level", "part"]
theorem sc_check_places : FnScope n_check_places ["expressions"] (defScope s_check_places) := ⟨rfl, rfl, rfl, by decide +kernel, rfl, by decide +kernel, by decide +kernel⟩
theorem ok_check_places (T : Txt K mg w) : Cal P w K mg base (L2.CX P w) 3 "check_places" ["expressions"] (spPlaces K) := by
  have c_parts_of : Cal P w K mg base _ _ _ _ _ := ok_parts_of (P := P) (base := base) T
  have c_TooLarge_init := ok_TooLarge_init (P := P) (base := base) T
  refine ⟨okX T.f_check_places sc_check_places (fun vs H Q E h => ?_) (fun _ _ _ _ _ _ us hl => match us, hl with | [_], _ => rfl) (fun cdv A outer s H vs Q E hr h => ?_), kpOf T.f_check_places, T.g_check_places⟩
  · obtain ⟨l, v, rfl, _⟩ := h; rfl
  obtain ⟨l, v, rfl, hl, hv, q1, q2⟩ := h
  have tk : Takes (cxOf (L2.CX P w) P w K mg base n_check_places "check_places" (defScope s_check_places) (He.ga K "check_places") cdv A outer s H E) (fun cls d _ H => E cls d H) := takes_of rfl rfl rfl rfl
  refine ⟨_, (pss_one (ps_for (passes_of rfl) rfl (pi_list (pv 0)) (pg_name (i := 1) sc_check_places.nd rfl (by first | exact Or.inl rfl | exact Or.inr rfl)) (pss_cons (ps_par (i := 2) (j := 3) rfl sc_check_places.nd rfl rfl (by decide) rfl rfl (pa_cons pe_int (pa_cons (pe_lst (pa_cons (pe_tup (pa_cons (pv 1) (pa_cons pe_int pa_nil))) pa_nil)) pa_nil)) (by rfl))
    (pss_one (ps_while (passes_of rfl) (pt_cmpR (op_neL hr.units0) (pv 3) (pe_lst pa_nil) (nomark _)) (pss_cons (ps_asg (pe_bm0 PySem.F.plainAttrs_list PySem.F.slot_list_pop PySem.F.type_list_pop mt_pop (pv 3)) (pg_tup rfl (pgs_cons (pg_name (i := 4) sc_check_places.nd rfl (by first | exact Or.inl rfl | exact Or.inr rfl)) (pgs_cons (pg_name (i := 5) sc_check_places.nd rfl (by first | exact Or.inl rfl | exact Or.inr rfl)) pgs_nil))))
    (pss_cons (ps_set (i := 2) sc_check_places.nd rfl (by first | exact Or.inl rfl | exact Or.inr rfl) (pe_op op_add (pv 2) pe_int))
    (pss_cons (ps_if (PW.pt (pw_or (pt_cmpR op_gt (pv 5) (pgi rfl T.i_MOST_LEVELS) (nomark _)) (pw_or1 (pt_cmpR op_gt (pv 2) (pgi rfl T.i_PLACES) (nomark _))))) (pss_one (ps_raise rfl tk (pmk_ex T.o_TooLarge T.in_TooLarge c_TooLarge_init hr (by decide) rfl T.g_TooLarge (pa_cons (pgi rfl T.i_PLACES) pa_nil)))) pss_nil)
    (pss_one (ps_expr (pe_bm PySem.F.plainAttrs_list PySem.F.slot_list_extend PySem.F.type_list_extend mt_extend (pv 3) (pa_cons (pe_lc (own := [(("part" : Str), 6)]) (g := gName 6) rfl sc_check_places.nd (pi_seq (pe_cal c_parts_of hr (by decide) rfl pass0 (pa_cons (pv 4) pa_nil))) (blkOk_by (own := [(("part" : Str), 6)]) (N := n_check_places) (sc := defScope s_check_places) (by decide +kernel)) (fun _ _ _ _ _ => pg_name (i := 6) sc_check_places.nd rfl (by first | exact Or.inl rfl | exact Or.inr rfl)) (fun _ _ _ _ _ => pts_nil) (fun _ _ _ _ _ => (pe_tup (pa_cons (pv 6) (pa_cons (pe_op op_add (pv 5) pe_int) pa_nil))))) pa_nil)))))))))))), ?_⟩
  refine ⟨_, rfl, l, rfl, ⟨_, SqL.of hl⟩, ?_⟩
  refine for_list (xs := [v]) (fun i σ H' => ∃ (o1 o2 o3 o4 o5 o6 : Option V), σ = [some (.ref l), o1, o2, o3, o4, o5, o6] ∧ Ex H H') ⟨_, _, _, _, _, _, rfl, Ex.refl H⟩ ?_ ?_ ?_
  · rintro i σ H' _ ⟨o1, o2, o3, o4, o5, o6, rfl, ex⟩
    exact ex_l ex (SqL.of hl)
  · rintro i x σ H1 hi ⟨o1, o2, o3, o4, o5, o6, rfl, ex1⟩
    have hx : x = v := by
      cases i with
      | zero => exact (Option.some.inj hi).symm
      | succ i => simp at hi
    subst hx
    refine ⟨_, rfl, small_sz (by simp), fun p hp => ⟨small_sz (by simp), fun lf hlf => ⟨_, _, rfl, ?_⟩⟩⟩
    have ep := Ex.new (o := .tup [x, .int 1]) hp
    have el := Ex.new (o := .lst [.ref p]) hlf
    have ex2 := (ex1.trans ep).trans el
    have hlfH : H lf = none := fresh_back (ex1.trans ep) hlf
    let Pr : Hp → V → Prop := fun H' y => ∃ (p : Addr) (e : V) (i : Int), y = .ref p ∧ H' p = some (.tup [e, .int i]) ∧ IsE H' e
    have prm : ∀ {Ha Hb : Hp} {y : V}, Tups Ha Hb → Pr Ha y → Pr Hb y := fun t ⟨p, e, i, h1, h2, h3⟩ => ⟨p, e, i, h1, t _ _ h2, h3.mono t⟩
    let W : Nat → L2.St → Hp → Prop := fun mm σ H' => ∃ (k : Nat) (items : List V) (o4 o5 o6 : Option V), σ = [some (.ref l), some x, some (.int (k : Int)), some (.ref lf), o4, o5, o6] ∧ Ex H H' ∧ H' lf = some (.lst items) ∧ (∀ y, y ∈ items → Pr H' y) ∧ items.length ≤ 1 + 80001 * k ∧ k ≤ 60 ∧ mm = 61 - k
    refine ⟨W, ⟨61, 0, [.ref p], _, _, _, rfl, ex2, upd_same, (fun y hy => by
      rw [List.mem_singleton.mp hy]
      exact ⟨p, x, 1, rfl, el _ _ upd_same, hv.mono (Ex.tups ex2)⟩), by simp, by omega, rfl⟩, ?_⟩
    rintro mm σ H3 ⟨k, items, o4', o5', o6', rfl, ex3, hlf3, hall, hlen, hk, rfl⟩
    refine ⟨_, rfl, small_sz (by simp), fun b hb => ?_⟩
    have eb := Ex.new (o := .lst []) hb
    refine ⟨lf, b, items, rfl, rfl, SqL.of (eb _ _ hlf3), SqL.of upd_same, _, rfl, ?_⟩
    rcases List.eq_nil_or_concat items with rfl | ⟨its, y, rfl⟩
    · exact iteF ⟨_, _, _, _, _, _, rfl, ex3.trans eb⟩
    · rw [List.concat_eq_append] at *
      have hne : (its ++ [y]).isEmpty = false := by simp
      rw [hne]
      refine iteT ⟨fun σ2 H2 => ∃ m', m' < 61 - k ∧ W m' σ2 H2, fun _ _ h => h, ?_⟩
      have hlf4 := eb _ _ hlf3
      refine ⟨_, rfl, tyL hlf4, lf, _, _, rfl, rfl, hlf4, last_at, ?_⟩
      rw [drop_last]
      obtain ⟨pp, e, i', rfl, hp1, hp2⟩ := hall y (by simp)
      have t5 : Tups H3 (upd (upd H3 b (.lst [])) lf (.lst its)) := (Ex.tups eb).trans (Tups.lst hlf4)
      refine ⟨pp, _, rfl, SqT.of (t5 _ _ hp1), rfl, _, _, rfl, _, _, rfl, rfl, _, rfl, _, _, rfl, rfl, ?_⟩
      have ex5 : Ex H (upd (upd H3 b (.lst [])) lf (.lst its)) := Ex.mut (ex3.trans eb) hlfH
      refine ⟨_, rfl, _, _, rfl, rfl, _, rfl, ?_⟩
      have tooL : ∀ (H' : Hp) (σ : L2.St), Ex H H' → tMkO (He.ga K "TooLarge") (spEI (He.ga K "TooLarge") "limit") [] (tCons (tC (.int 60)) tNil) σ H' E := fun H' σ e' => raise_ok (v := .int 60) (fun Q hQ => hQ) fun d H2 e2 _ => q2 d H2 (e'.trans e2)
      refine ite2 (fun _ => iteT (tooL _ _ ex5)) (fun _ => ?_)
      refine ⟨_, rfl, _, _, rfl, rfl, _, rfl, ?_⟩
      refine ite2 (fun _ => tooL _ _ ex5) (fun hm => ?_)
      have hk' : k + 1 ≤ 60 := by
        have : ¬ ((60 : Int) < (k : Int) + 1) := fun c => hm (decide_eq_true c)
        omega
      have hlf5 : (upd (upd H3 b (.lst [])) lf (.lst its)) lf = some (.lst its) := upd_same
      refine ⟨_, rfl, tyL hlf5, ?_⟩
      refine ⟨_, rfl, e, rfl, hp2.mono t5, fun H6 r ex6 hpts => ?_⟩
      obtain ⟨xs, hsq, hxs, hxl⟩ := hpts
      have fin : ∀ (D : Addr), H6 D = none → ∀ H7, (Ex H6 H7 ∧ ∃ acc, H7 D = some (.lst acc) ∧ acc.length = xs.length ∧ ∀ y, y ∈ acc → Pr H7 y) → rExtend (.ref lf) [.ref D] H7 fun _ H8 => ∃ m', m' < 61 - k ∧ W m' [some (.ref l), some x, some (.int ((k : Int) + 1)), some (.ref lf), some e, some (.int i'), o6'] H8 := by
        rintro D hD H7 ⟨ex7, acc, ha1, ha2, ha3⟩
        have hlf7 := ex7 _ _ (ex6 _ _ hlf5)
        have hil : its.length ≤ 80001 * k := by rw [List.length_append] at hlen; simp at hlen; omega
        refine ⟨lf, D, its, acc, rfl, rfl, hlf7, ha1, by rw [sizeLine_eq]; omega, 61 - (k + 1), by omega, k + 1, its ++ acc, _, _, _, by push_cast; rfl, Ex.mut ((ex5.trans ex6).trans ex7) hlfH, upd_same, fun y hy => ?_, by rw [List.length_append]; omega, hk', rfl⟩
        have t8 : Tups H7 (upd H7 lf (.lst (its ++ acc))) := Tups.lst hlf7
        rcases List.mem_append.mp hy with hy | hy
        · exact prm (((t5.trans (Ex.tups ex6)).trans (Ex.tups ex7)).trans t8) (hall y (by simp [hy]))
        · exact prm t8 (ha3 y hy)
      have turn : ∀ (D : Addr), H6 D = none → ∀ (i : Nat) (x' : V) (H' : Hp), xs[i]? = some x' → (Ex H6 H' ∧ ∃ acc, H' D = some (.lst acc) ∧ acc.length = i ∧ ∀ y, y ∈ acc → Pr H' y) →
          tTup (tCons (tVar 6) (tCons (tOp (fun x y H Q => ∃ a b, x = .int a ∧ y = .int b ∧ Q (.int (a + b)) H) (tVar 5) (tC (.int 1))) tNil)) [some (.ref l), some x, some (.int ((k : Int) + 1)), some (.ref lf), some e, some (.int i'), some x'] H' fun y H4 => ∃ acc, H4 D = some (.lst acc) ∧ acc.length < sizeLine ∧
            (Ex H6 (upd H4 D (.lst (acc ++ [y]))) ∧ ∃ acc', (upd H4 D (.lst (acc ++ [y]))) D = some (.lst acc') ∧ acc'.length = i + 1 ∧ ∀ z, z ∈ acc' → Pr (upd H4 D (.lst (acc ++ [y]))) z) := by
        rintro D hD i x' H' hi ⟨ex', acc, ha1, ha2, ha3⟩
        have hi2 : i < xs.length := (List.getElem?_eq_some_iff.mp hi).1
        refine ⟨_, rfl, _, rfl, _, _, rfl, rfl, small_sz (by simp), fun p hp => ?_⟩
        have e7 := Ex.new (o := .tup [x', .int (i' + 1)]) hp
        have hD7 := e7 _ _ ha1
        refine ⟨acc, hD7, small_lt (by omega), Ex.mut (ex'.trans e7) hD, acc ++ [.ref p], upd_same, by rw [List.length_append, ha2]; rfl, fun z hz => ?_⟩
        have t8 : Tups H' (upd (upd H' p (.tup [x', .int (i' + 1)])) D (.lst (acc ++ [.ref p]))) := (Ex.tups e7).trans (Tups.lst hD7)
        rcases List.mem_append.mp hz with hz | hz
        · exact prm t8 (ha3 z hz)
        · rw [List.mem_singleton.mp hz]
          exact ⟨p, x', i' + 1, rfl, Tups.lst hD7 _ _ upd_same, ((hxs x' (List.mem_of_getElem? hi)).mono (Ex.tups ex')).mono t8⟩
      refine ⟨r, rfl, ?_⟩
      rcases hsq with hsq | hsq
      · refine .inl ⟨⟨xs, hsq⟩, fun D hD => lc_list (xs := xs) (fun i H' => Ex H6 H' ∧ ∃ acc, H' D = some (.lst acc) ∧ acc.length = i ∧ ∀ y, y ∈ acc → Pr H' y) ⟨Ex.new hD, [], upd_same, rfl, fun y hy => by simp at hy⟩ (fun i H' _ p => ex_l p.1 hsq) (fun i x' H' hi p => ⟨rfl, turn D hD i x' H' hi p⟩) (fun H' p => fin D hD H' p)⟩
      · refine .inr ⟨⟨xs, hsq⟩, fun D hD => lc_tup (xs := xs) (fun i H' => Ex H6 H' ∧ ∃ acc, H' D = some (.lst acc) ∧ acc.length = i ∧ ∀ y, y ∈ acc → Pr H' y) ⟨Ex.new hD, [], upd_same, rfl, fun y hy => by simp at hy⟩ (fun i H' _ p => ex_t p.1 hsq) (fun i x' H' hi p => ⟨rfl, turn D hD i x' H' hi p⟩) (fun H' p => fin D hD H' p)⟩
  · rintro σ H' ⟨o1, o2, o3, o4, o5, o6, rfl, ex⟩
    exact q1 H' ex
end
end Sh
set_option Elab.async false
set_option linter.all false
set_option maxRecDepth 100000
set_option maxHeartbeats 4000000
namespace Sh
open PySem PySem.Spec PyProof.Rows L2 Evl
theorem toksL_len : ∀ {f : Nat} {l : List Nat}, (toksL f l).length ≤ f
  | 0, l => by cases l <;> simp [toksL]
  | f + 1, [] => by simp [toksL]
  | f + 1, c :: r => by
    have := toksL_len (f := f) (l := (c :: r).drop (tokLen (c :: r)))
    simp only [toksL, List.length_append]
    split <;> simp <;> omega
theorem toks_len {z : Str} : (toks z).length ≤ z.length := by
  unfold toks; rw [List.length_map]; exact toksL_len
theorem res_0 {ws : List Str} {c : Cfg} : res ws c 0 = runC c (ws.map kd) 0 := rfl
section
variable {P : Program} {w : World} {K : PySem.W.Frag} {mg : Str → Option Value} {base : Heap}
abbrev n_parse_expression : List Str := ["value", "source", "found"]
theorem sc_parse_expression : FnScope n_parse_expression ["value"] (defScope s_parse_expression) := ⟨rfl, rfl, rfl, by decide +kernel, rfl, by decide +kernel, by decide +kernel⟩
theorem ok_parse_expression (T : Txt K mg w) : Cal P w K mg base (L2.CX P w) 9 "parse_expression" ["value"] (spParse K) := by
  have c_read_expression : Cal P w K mg base _ _ _ _ _ := ok_read_expression (P := P) (base := base) T
  have c_check_end : Cal P w K mg base _ _ _ _ _ := ok_check_end (P := P) (base := base) T
  have c_check_places : Cal P w K mg base _ _ _ _ _ := ok_check_places (P := P) (base := base) T
  obtain ⟨fdS, FS, bS⟩ := ok_Source_init (P := P) (w := w) (base := base) T
  refine ⟨okX T.f_parse_expression sc_parse_expression (fun vs H Q E h => ?_) (fun _ _ _ _ _ _ us hl => match us, hl with | [_], _ => rfl) (fun cdv A outer s H vs Q E hr h => ?_), kpOf T.f_parse_expression, T.g_parse_expression⟩
  · obtain ⟨z, rfl, _⟩ := h; rfl
  obtain ⟨z, rfl, hz, qA, qB⟩ := h
  have tk : Takes (cxOf (L2.CX P w) P w K mg base n_parse_expression "parse_expression" (defScope s_parse_expression) (He.ga K "parse_expression") cdv A outer s H E) (fun cls d _ H => E cls d H) := takes_of rfl rfl rfl rfl
  refine ⟨_, (pss_cons (ps_set (i := 1) sc_parse_expression.nd rfl (by first | exact Or.inl rfl | exact Or.inr rfl) (pe_make T.mk_Source FS (hr.mono (by decide)) rfl T.g_Source bS .nil pass0 (pa_cons (pv 0) pa_nil)))
    (pss_cons (ps_set (i := 2) sc_parse_expression.nd rfl (by first | exact Or.inl rfl | exact Or.inr rfl) (pe_cal c_read_expression hr (by decide) rfl (passes_call tk fun _ _ _ _ h => h) (pa_cons (pv 1) pa_nil)))
    (pss_cons (ps_expr (pe_cal c_check_end hr (by decide) rfl (passes_call tk fun _ _ _ _ h => h) (pa_cons (pv 1) pa_nil)))
    (pss_cons (ps_expr (pe_cal c_check_places hr (by decide) rfl (passes_call tk fun _ _ _ _ h => h) (pa_cons (pe_lst (pa_cons (pv 2) pa_nil)) pa_nil)))
    (pss_one (ps_ret (pv 2))))))), ?_⟩
  refine ⟨_, rfl, fun so dx hso hdx hne => ?_⟩
  refine ⟨so, dx, z, rfl, hz, upd_same, fun tl tvs H1 htl b1 ho hl htr => ⟨rfl, ?_⟩⟩
  have e1 : Ex H (upd (upd H dx (.own so)) so (.ins (He.ga K "Source") dx [])) := (Ex.new hdx).trans (Ex.new (by rw [upd_ne hne.symm]; exact hso))
  have b1' : But [so] H H1 := ((ex_but.mp e1).mono (by simp)).trans b1
  have out : ∀ {H' : Hp}, But [so] H H' → Ex H H' := fun b => ex_but.mpr (b.drop hso)
  have S1 : Src K H1 so dx tl tvs (toks z) 0 := ⟨ho, hl, htr, Nat.zero_le _, Nat.le_trans toks_len hz⟩
  refine ⟨_, rfl, so, dx, tl, tvs, toks z, 0, rfl, S1, fun H2 v n2 b2 S2 hv hres => ?_, fun i d H' hi b' hd => qB i hi d H' (out (b1'.trans b')) hd⟩
  have b2' := b1'.trans b2
  rw [res_0] at hres
  refine ⟨_, rfl, so, dx, tl, tvs, toks z, n2, rfl, S2, fun hno => ?_, fun hno d H' e' hd => ?_⟩
  · rw [if_pos hno] at hres
    obtain ⟨q1, q2⟩ := qA hres
    refine ⟨_, rfl, small_sz (by simp), fun l hl => ?_⟩
    have e3 := Ex.new (o := .lst [v]) hl
    exact ⟨l, v, rfl, upd_same, hv.mono (Ex.tups e3), fun H4 e4 => ⟨_, rfl, q1 H4 v ((out b2').trans (e3.trans e4))⟩, fun d H4 e4 => q2 d H4 ((out b2').trans (e3.trans e4))⟩
  · rw [if_neg hno] at hres
    exact qB n2 hres d H' ((out b2').trans e') hd
/-- the law's own look at a list of texts -/
def spIndex (K : PySem.W.Frag) : Sp := fun vs H Q _ => ∃ (p : Addr) (ws : List Str), vs = [.ref p] ∧ SqL K H p (ws.map V.str) ∧ (ws.map (·.length)).sum + ws.length ≤ 40000 ∧ ∀ H', Ex H H' → Q (.int (idxT ws)) H'
theorem join_len {ws : List Str} : (Str.join " " ws).length ≤ (ws.map (·.length)).sum + ws.length := by
  have e : (Str.join " " ws).cps.toList = TL.joinL [32] (ws.map TL.tl) := TL.tl_join " " ws
  have h : (Str.join " " ws).length = (TL.joinL [32] (ws.map TL.tl)).length := by rw [← e]; simp [Str.length]
  rw [h]
  have g : ∀ {l : List Str}, (TL.joinL [32] (l.map TL.tl)).length ≤ (l.map (·.length)).sum + l.length := by
    intro l
    induction l with
    | nil => simp [TL.joinL]
    | cons a l ih =>
      cases l with
      | nil => simp [TL.joinL, TL.tl, Str.length]
      | cons b r =>
        have e2 : TL.joinL [32] ((a :: b :: r).map TL.tl) = TL.tl a ++ ([32] ++ TL.joinL [32] ((b :: r).map TL.tl)) := rfl
        have ha : (TL.tl a).length = a.length := by simp [TL.tl, Str.length]
        rw [e2, List.length_append, List.length_append, ha]
        simp only [List.map_cons, List.sum_cons, List.length_cons, List.length_nil] at ih ⊢
        omega
  exact g
abbrev n_l_index : List Str := ["_law_tokens_here", "error"]
theorem sc_l_index : FnScope n_l_index ["_law_tokens_here"] (defScope s_l_index) := ⟨rfl, rfl, rfl, by decide +kernel, rfl, by decide +kernel, by decide +kernel⟩
theorem ok_l_index (T : Txt K mg w) : Cal P w K mg base CX0 10 "_law_index" ["_law_tokens_here"] (spIndex K) := by
  obtain ⟨⟨fdP, FP, bP⟩, kP, gP⟩ := ok_parse_expression (P := P) (base := base) T
  refine ⟨ok0 T.f_l_index sc_l_index (fun vs H Q E h => ?_) (fun _ _ _ _ _ _ us hl => match us, hl with | [_], _ => rfl) (fun cdv A outer s H vs Q E hr h => ?_), kpOf T.f_l_index, T.g_l_index⟩
  · obtain ⟨p, ws, rfl, _⟩ := h; rfl
  obtain ⟨p, ws, rfl, hp, hsz, q⟩ := h
  refine ⟨_, (pss_cons (ps_try_two (i := 1) (x := "BadText") (y := "TooLarge") (tb := fun W => tDrop (tCallS (spParse K) (WE W) (tCons (tM1 (fun x xs H Q => ∃ a p, ∃ ys : List Str, x = .str a ∧ xs = [.ref p] ∧ (SqL K H p (ys.map V.str) ∨ SqT K H p (ys.map V.str)) ∧ (ys.map (·.length)).sum + ys.length * a.length ≤ 16777216 ∧ Q (.str (Txt.join a ys)) H) (tC (.str " ")) (tVar 0)) tNil)))
      (ts := fun a cls d => tRet (tXf a cls d (He.ga K "BadText") "index" (tVar 1))) (us := fun a cls d => tRet (tUn (rU fun i => .int (-i)) (tC (.int 1)))) rfl rfl sc_l_index.nd rfl rfl ⟨rfl, by decide, .inl T.g_BadText⟩ ⟨rfl, by decide, .inl T.g_TooLarge⟩
      (fun W pn xe tk _ => pss_one (ps_expr (by exact pe_callS FP (hr.mono (by decide)) rfl gP kP bP (fun σ => passAt tk σ) (pa_cons (pe_join pe_str (pv 0)) pa_nil))))
      (fun a oe cls d pn hz hf => pss_one (ps_ret (by exact pe_xf T.xf_BadText T.n_BadText_index hz hf (pv 1))))
      (fun a oe cls d pn hz hf => pss_one (ps_ret (by exact pe_un un_neg pe_int))))
    (pss_one (ps_ret (pe_un un_neg pe_int)))), ?_⟩
  have hj : Txt.join " " ws = Str.join " " ws := TL.join_eq " " ws
  have hsum : (ws.map (·.length)).sum + ws.length * (" " : Str).length ≤ 16777216 := by
    rw [show (" " : Str).length = 1 by decide +kernel]; omega
  refine ⟨⟨_, rfl⟩, _, rfl, " ", p, ws, rfl, rfl, .inl hp, hsum, Txt.join " " ws, rfl, ?_, ?_, ?_⟩
  · rw [hj]; exact Nat.le_trans join_len hsz
  · intro hr0
    rw [hj] at hr0
    have hi : idxT ws = -1 := by unfold idxT idx; rw [hr0]; rfl
    rw [hi] at q
    refine ⟨fun H' v e' => ⟨_, rfl, q H' e'⟩, fun d H' e' => .inr ⟨T.x_TooLarge_BadText, T.x_TooLarge_TooLarge, fun a ha => ⟨_, rfl, q H' e'⟩⟩⟩
  · intro i hr0 d H' e' hd
    rw [hj] at hr0
    have hi : idxT ws = (i : Int) := by unfold idxT idx; rw [hr0]; rfl
    rw [hi] at q
    exact .inl ⟨T.x_BadText_BadText, fun a ha => ⟨_, rfl, rfl, rfl, d, _, _, rfl, hd, rfl, q H' e'⟩⟩
end
end Sh
set_option Elab.async false
set_option linter.all false
set_option maxRecDepth 100000
set_option maxHeartbeats 4000000
namespace Sh
open PySem PySem.Spec PyProof.Rows L2 Evl
def okT (z : Str) : Bool := goodT z && decide (z.length ≤ 8)
abbrev WordT (z : Str) : Prop := kd z = .word ∧ okT z = true
abbrev NameT (z : Str) : Prop := kd z = .name ∧ okT z = true
/-- the draws: three ints -/
def DrI (H : Hp) (dr : Addr) : Prop := ∃ a b c : Int, H dr = some (.lst [.int a, .int b, .int c])
theorem DrI.ex {H H' : Hp} {dr : Addr} (h : DrI H dr) (e : Ex H H') : DrI H' dr := by
  obtain ⟨a, b, c, h⟩ := h
  exact ⟨a, b, c, e _ _ h⟩
theorem DrI.new {H : Hp} {dr p : Addr} {o : HO} (h : DrI H dr) (n : H p = none) : DrI (upd H p o) dr := h.ex (Ex.new n)
theorem DrI.ne {H : Hp} {dr p : Addr} (h : DrI H dr) (n : H p = none) : p ≠ dr := fun z => by
  obtain ⟨a, b, c, h⟩ := h
  rw [z, h] at n; cases n
theorem DrI.tups {H H' : Hp} {dr : Addr} (h : DrI H dr) (b : But [dr] H H') : Tups H H' := b.tups fun p hp xs e => by
  obtain ⟨a, b, c, h⟩ := h
  rw [List.mem_singleton.mp hp, h] at e; cases e
def spDraws (K : PySem.W.Frag) : Sp := fun vs H Q _ => ∃ (a : Addr) (ns : List Int), vs = [.ref a] ∧ SqL K H a (ns.map V.int) ∧ ns.length ≤ 1000000 ∧ ∀ p H', Ex H H' → H p = none → DrI H' p → Q (.ref p) H'
def spNext : Sp := fun vs H Q _ => ∃ (dr : Addr) (m : Int), vs = [.ref dr, .int m] ∧ DrI H dr ∧ 0 < m ∧ m < 1073741824 ∧ ∀ r H', 0 ≤ r → r < m → But [dr] H H' → DrI H' dr → Q (.int r) H'
def spOne : Sp := fun vs H Q _ => ∃ (dr it : Addr) (xs : List V), vs = [.ref dr, .ref it] ∧ DrI H dr ∧ H it = some (.lst xs) ∧ it ≠ dr ∧ xs ≠ [] ∧ xs.length ≤ 100000 ∧ ∀ x H', x ∈ xs → But [dr] H H' → DrI H' dr → Q x H'
def spWord : Sp := fun vs H Q _ => ∃ dr : Addr, vs = [.ref dr] ∧ DrI H dr ∧ ∀ z H', WordT z → But [dr] H H' → DrI H' dr → Q (.str z) H'
def spName : Sp := fun vs H Q _ => ∃ (dr : Addr) (k : Nat), vs = [.ref dr, .int (k : Int)] ∧ k ≤ 3 ∧ DrI H dr ∧ ∀ z H', NameT z → But [dr] H H' → DrI H' dr → Q (.str z) H'
def spNum : Sp := fun vs H Q _ => ∃ dr : Addr, vs = [.ref dr] ∧ DrI H dr ∧ ∀ (i : Nat) H', i ≤ 999999 → But [dr] H H' → DrI H' dr → Q (.int (i : Int)) H'
section
variable {P : Program} {w : World} {K : PySem.W.Frag} {mg : Str → Option Value} {base : Heap}
abbrev n_l_next : List Str := ["_law_drawn", "_law_many", "_law_mixed", "_law_digit"]
theorem sc_l_next : FnScope n_l_next ["_law_drawn", "_law_many"] (defScope s_l_next) := ⟨rfl, rfl, rfl, by decide +kernel, rfl, by decide +kernel, by decide +kernel⟩
theorem ok_l_next (T : Txt K mg w) : Cal P w K mg base CX0 1 "_law_next" ["_law_drawn", "_law_many"] spNext := by
  refine ⟨ok0 T.f_l_next sc_l_next (fun vs H Q E h => ?_) (fun _ _ _ _ _ _ us hl => match us, hl with | [_, _], _ => rfl) (fun cdv A outer s H vs Q E hr h => ?_), kpOf T.f_l_next, T.g_l_next⟩
  · obtain ⟨dr, m, rfl, _⟩ := h; rfl
  obtain ⟨dr, m, rfl, ⟨a, b, c, hd⟩, hm1, hm2, q⟩ := h
  refine ⟨_, (pss_cons (ps_if (pt_cmpR op_gt (pe_ix ix_list (pv 0) pe_int (fun _ _ => rfl)) pe_int (nomark _)) (pss_cons (ps_set (i := 3) sc_l_next.nd rfl (by first | exact Or.inl rfl | exact Or.inr rfl) (pe_op op_mod (pe_ix ix_list (pv 0) pe_int (fun _ _ => rfl)) (pv 1)))
    (pss_cons (ps_asg (pe_op op_fdiv (pe_ix ix_list (pv 0) pe_int (fun _ _ => rfl)) (pv 1)) (pg_sub (pv 0) pe_int set_list))
    (pss_one (ps_ret (pv 3))))) pss_nil)
    (pss_cons (ps_asg (pe_op op_add (pe_ix ix_list (pv 0) pe_int (fun _ _ => rfl)) pe_int) (pg_sub (pv 0) pe_int set_list))
    (pss_cons (ps_set (i := 2) sc_l_next.nd rfl (by first | exact Or.inl rfl | exact Or.inr rfl) (pe_op op_mod (pe_op op_add (pe_ix ix_list (pv 0) pe_int (fun _ _ => rfl)) (pe_op op_mul pe_int (pe_ix ix_list (pv 0) pe_int (fun _ _ => rfl)))) pe_int))
    (pss_cons (ps_set (i := 2) sc_l_next.nd rfl (by first | exact Or.inl rfl | exact Or.inr rfl) (pe_op op_mod (pe_op op_mul (pv 2) (pe_op op_add (pe_op op_mod (pv 2) pe_int) pe_int)) pe_int))
    (pss_one (ps_ret (pe_op op_mod (pe_op op_fdiv (pe_op op_mod (pe_op op_mul (pv 2) (pv 2)) pe_int) pe_int) (pv 1)))))))), ?_⟩
  refine ⟨_, rfl, dr, _, _, .int a, rfl, rfl, SqL.of hd, atI_nat (j := 0) rfl, _, _, rfl, rfl, _, rfl, ?_⟩
  refine ite2 (fun _ => ?_) (fun _ => ?_)
  · refine ⟨_, rfl, dr, _, _, .int a, rfl, rfl, SqL.of hd, atI_nat (j := 0) rfl, _, rfl, _, _, rfl, rfl, hm1, ?_⟩
    refine ⟨_, rfl, dr, _, _, .int a, rfl, rfl, SqL.of hd, atI_nat (j := 0) rfl, _, rfl, _, _, rfl, rfl, ⟨hm1, hm2⟩, ?_⟩
    refine ⟨_, rfl, dr, _, 0, 0, rfl, rfl, hd, rfl, _, rfl, ?_⟩
    exact q _ _ (Int.emod_nonneg a (by omega)) (Int.emod_lt_of_pos a hm1) (But.put (by simp)) ⟨a / m, b, c, upd_same⟩
  · refine ⟨_, rfl, dr, _, _, .int c, rfl, rfl, SqL.of hd, atI_nat (j := 2) rfl, _, _, rfl, rfl, ?_⟩
    refine ⟨_, rfl, dr, _, 2, 2, rfl, rfl, hd, rfl, ?_⟩
    have hd2 : (upd H dr (.lst [.int a, .int b, .int (c + 1)])) dr = some (.lst [.int a, .int b, .int (c + 1)]) := upd_same
    refine ⟨_, rfl, dr, _, _, .int b, rfl, rfl, SqL.of hd2, atI_nat (j := 1) rfl, _, rfl, dr, _, _, .int (c + 1), rfl, rfl, SqL.of hd2, atI_nat (j := 2) rfl, _, _, rfl, rfl, .inl ⟨by decide, by decide⟩, _, _, rfl, rfl, _, _, rfl, rfl, (show (0 : Int) < _ from by decide), ?_⟩
    generalize hx : (b + 11400714819323198485 * (c + 1)) % 18446744073709551557 = x
    have hx0 : 0 ≤ x := by rw [← hx]; exact Int.emod_nonneg _ (by decide)
    have hx1 : x < 18446744073709551557 := by rw [← hx]; exact Int.emod_lt_of_pos _ (by decide)
    refine ⟨_, rfl, _, rfl, _, _, rfl, rfl, (show (0 : Int) < _ from by decide), _, _, rfl, rfl, _, _, rfl, rfl, .inl ⟨by omega, by omega⟩, _, _, rfl, rfl, (show (0 : Int) < _ from by decide), ?_⟩
    generalize hy : x * (x % 4294967291 + 5) % 2305843009213693951 = y
    have hy0 : 0 ≤ y := by rw [← hy]; exact Int.emod_nonneg _ (by decide)
    have hy1 : y < 2305843009213693951 := by rw [← hy]; exact Int.emod_lt_of_pos _ (by decide)
    refine ⟨_, rfl, _, rfl, _, _, rfl, rfl, .inl ⟨by omega, by omega⟩, _, _, rfl, rfl, (show (0 : Int) < _ from by decide), _, _, rfl, rfl, ⟨by decide, by decide⟩, _, rfl, _, _, rfl, rfl, hm1, ?_⟩
    exact q _ _ (Int.emod_nonneg _ (by omega)) (Int.emod_lt_of_pos _ hm1) (But.put (by simp)) ⟨a, b, c + 1, upd_same⟩
abbrev n_l_one : List Str := ["_law_drawn", "_law_items"]
theorem sc_l_one : FnScope n_l_one ["_law_drawn", "_law_items"] (defScope s_l_one) := ⟨rfl, rfl, rfl, by decide +kernel, rfl, by decide +kernel, by decide +kernel⟩
theorem ok_l_one (T : Txt K mg w) : Cal P w K mg base CX0 2 "_law_one" ["_law_drawn", "_law_items"] spOne := by
  have c_l_next : Cal P w K mg base _ _ _ _ _ := ok_l_next (P := P) (base := base) T
  refine ⟨ok0 T.f_l_one sc_l_one (fun vs H Q E h => ?_) (fun _ _ _ _ _ _ us hl => match us, hl with | [_, _], _ => rfl) (fun cdv A outer s H vs Q E hr h => ?_), kpOf T.f_l_one, T.g_l_one⟩
  · obtain ⟨dr, it, xs, rfl, _⟩ := h; rfl
  obtain ⟨dr, it, xs, rfl, hd, hit, hne, hx, hl, q⟩ := h
  refine ⟨_, (pss_one (ps_ret (pe_ix ix_list (pv 1) (pe_cal c_l_next hr (by decide) rfl pass0 (pa_cons (pv 0) (pa_cons (pe_callB call_len rfl T.b_len PySem.boot_len (pa_cons (pv 1) pa_nil)) pa_nil))) (fun _ _ => rfl)))), ?_⟩
  have hpos : 0 < xs.length := List.length_pos_iff.mpr hx
  refine ⟨_, rfl, _, rfl, _, rfl, _, _, rfl, .inl ⟨_, SqL.of hit, rfl⟩, dr, (xs.length : Int), rfl, hd, by omega, by omega, fun r H' h0 h1 b' hd' => ?_⟩
  obtain ⟨j, rfl⟩ := Int.eq_ofNat_of_zero_le h0
  have hj : j < xs.length := by omega
  refine ⟨it, xs, _, xs[j], rfl, rfl, SqL.of (b' _ _ (by simpa using hne) hit), atI_nat (List.getElem?_eq_getElem hj), ?_⟩
  exact q _ _ (List.getElem_mem hj) b' hd'
theorem one_new {σ : L2.St} {H : Hp} {Q : VK} {dr : Addr} {i : Nat} {xs : List V} {te : TE} (hi : σ[i]? = some (some (.ref dr))) (hd : DrI H dr) (hx : xs ≠ []) (hl : xs.length ≤ 100000) (ht : ∀ Q : VK, (∀ p, H p = none → Q (.ref p) (upd H p (.lst xs))) → te σ H Q)
    (q : ∀ x H', x ∈ xs → But [dr] H H' → DrI H' dr → Q x H') {E : XK} : tCall spOne [] E (tCons (tVar i) (tCons te tNil)) σ H Q :=
  ⟨_, hi, ht _ fun p hp => ⟨dr, p, xs, rfl, hd.new hp, upd_same, hd.ne hp, hx, hl, fun x H' hm b d => q x H' hm ((But.new hp).trans b) d⟩⟩
abbrev n_l_some_word : List Str := ["_law_drawn"]
theorem sc_l_some_word : FnScope n_l_some_word ["_law_drawn"] (defScope s_l_some_word) := ⟨rfl, rfl, rfl, by decide +kernel, rfl, by decide +kernel, by decide +kernel⟩
theorem ok_l_some_word (T : Txt K mg w) : Cal P w K mg base CX0 3 "_law_some_word" ["_law_drawn"] spWord := by
  have c_l_one : Cal P w K mg base _ _ _ _ _ := ok_l_one (P := P) (base := base) T
  refine ⟨ok0 T.f_l_some_word sc_l_some_word (fun vs H Q E h => ?_) (fun _ _ _ _ _ _ us hl => match us, hl with | [_], _ => rfl) (fun cdv A outer s H vs Q E hr h => ?_), kpOf T.f_l_some_word, T.g_l_some_word⟩
  · obtain ⟨dr, rfl, _⟩ := h; rfl
  obtain ⟨dr, rfl, hd, q⟩ := h
  refine ⟨_, (pss_one (ps_ret (pe_cal c_l_one hr (by decide) rfl pass0 (pa_cons (pv 0) (pa_cons (pe_lst (pa_cons pe_str (pa_cons pe_str (pa_cons pe_str (pa_cons pe_str (pa_cons pe_str (pa_cons pe_str pa_nil))))))) pa_nil))))), ?_⟩
  refine one_new rfl hd (xs := [("x" : Str), "y", "f", "a1", "len", "zzzzzzzz"].map V.str) (by simp) (by simp) (fun Q hQ => ⟨small_sz (by simp), hQ⟩) fun x H' hx b d => ?_
  obtain ⟨z, hz, rfl⟩ := List.mem_map.mp hx
  exact q z H' ((by decide +kernel : ∀ z ∈ [("x" : Str), "y", "f", "a1", "len", "zzzzzzzz"], WordT z) z hz) b d
abbrev n_l_some_name : List Str := ["_law_drawn", "_law_many", "_law_some"]
theorem sc_l_some_name : FnScope n_l_some_name ["_law_drawn", "_law_many"] (defScope s_l_some_name) := ⟨rfl, rfl, rfl, by decide +kernel, rfl, by decide +kernel, by decide +kernel⟩
theorem ok_l_some_name (T : Txt K mg w) : Cal P w K mg base CX0 3 "_law_some_name" ["_law_drawn", "_law_many"] spName := by
  have c_l_one : Cal P w K mg base _ _ _ _ _ := ok_l_one (P := P) (base := base) T
  refine ⟨ok0 T.f_l_some_name sc_l_some_name (fun vs H Q E h => ?_) (fun _ _ _ _ _ _ us hl => match us, hl with | [_, _], _ => rfl) (fun cdv A outer s H vs Q E hr h => ?_), kpOf T.f_l_some_name, T.g_l_some_name⟩
  · obtain ⟨dr, k, rfl, _⟩ := h; rfl
  obtain ⟨dr, k, rfl, hk, hd, q⟩ := h
  refine ⟨_, (pss_cons (ps_set (i := 2) sc_l_some_name.nd rfl (by first | exact Or.inl rfl | exact Or.inr rfl) (pe_lst (pa_cons (pe_lst (pa_cons pe_str (pa_cons pe_str (pa_cons pe_str (pa_cons pe_str pa_nil))))) (pa_cons (pe_lst (pa_cons pe_str (pa_cons pe_str pa_nil))) (pa_cons (pe_lst (pa_cons pe_str (pa_cons pe_str pa_nil))) (pa_cons (pe_lst (pa_cons pe_str pa_nil)) pa_nil))))))
    (pss_one (ps_ret (pe_cal c_l_one hr (by decide) rfl pass0 (pa_cons (pv 0) (pa_cons (pe_ix ix_list (pv 2) (pv 1) (fun _ _ => rfl)) pa_nil)))))), ?_⟩
  let L : List (List Str) := [["Nil", "T0", "True", "Zzzzzzz9"], ["A", "Wrap7Xy1"], ["Cons", "P2"], ["Bb7cC"]]
  refine ⟨small_sz (by simp), fun p0 h0 => ⟨small_sz (by simp), fun p1 h1 => ⟨small_sz (by simp), fun p2 h2 => ⟨small_sz (by simp), fun p3 h3 => ⟨small_sz (by simp), fun p4 h4 => ?_⟩⟩⟩⟩⟩
  have g0 := Ex.new (o := .lst (L[0].map V.str)) h0
  have g1 := Ex.new (o := .lst (L[1].map V.str)) h1
  have g2 := Ex.new (o := .lst (L[2].map V.str)) h2
  have g3 := Ex.new (o := .lst (L[3].map V.str)) h3
  have g4 := Ex.new (o := .lst [.ref p0, .ref p1, .ref p2, .ref p3]) h4
  have ex := (((g0.trans g1).trans g2).trans g3).trans g4
  have fin : ∀ (p : Addr) (l : List Str), (upd (upd (upd (upd (upd H p0 (.lst (L[0].map V.str))) p1 (.lst (L[1].map V.str))) p2 (.lst (L[2].map V.str))) p3 (.lst (L[3].map V.str))) p4 (.lst [.ref p0, .ref p1, .ref p2, .ref p3])) p = some (.lst (l.map V.str)) → H p = none → l ≠ [] → l.length ≤ 4 → (∀ z ∈ l, NameT z) →
      spOne [.ref dr, .ref p] (upd (upd (upd (upd (upd H p0 (.lst (L[0].map V.str))) p1 (.lst (L[1].map V.str))) p2 (.lst (L[2].map V.str))) p3 (.lst (L[3].map V.str))) p4 (.lst [.ref p0, .ref p1, .ref p2, .ref p3])) Q E := fun p l hp hn hne hl hz =>
    ⟨dr, p, l.map V.str, rfl, hd.ex ex, hp, hd.ne hn, by simpa using hne, by rw [List.length_map]; omega, fun x H' hx b d => by
      obtain ⟨z, hm, rfl⟩ := List.mem_map.mp hx
      exact q z H' (hz z hm) ((ex_but.mp ex).mono (by simp) |>.trans b) d⟩
  have n1 : H p1 = none := fresh_back g0 h1
  have n2 : H p2 = none := fresh_back (g0.trans g1) h2
  have n3 : H p3 = none := fresh_back ((g0.trans g1).trans g2) h3
  match k, hk with
  | 0, _ => exact ⟨_, rfl, _, rfl, _, rfl, p4, _, _, .ref p0, rfl, rfl, SqL.of upd_same, atI_nat (j := 0) rfl, fin p0 L[0] (((g1.trans g2).trans g3).trans g4 _ _ upd_same) h0 (by simp [L]) (by decide) (by decide +kernel)⟩
  | 1, _ => exact ⟨_, rfl, _, rfl, _, rfl, p4, _, _, .ref p1, rfl, rfl, SqL.of upd_same, atI_nat (j := 1) rfl, fin p1 L[1] ((g2.trans g3).trans g4 _ _ upd_same) n1 (by simp [L]) (by decide) (by decide +kernel)⟩
  | 2, _ => exact ⟨_, rfl, _, rfl, _, rfl, p4, _, _, .ref p2, rfl, rfl, SqL.of upd_same, atI_nat (j := 2) rfl, fin p2 L[2] (g3.trans g4 _ _ upd_same) n2 (by simp [L]) (by decide) (by decide +kernel)⟩
  | 3, _ => exact ⟨_, rfl, _, rfl, _, rfl, p4, _, _, .ref p3, rfl, rfl, SqL.of upd_same, atI_nat (j := 3) rfl, fin p3 L[3] (g4 _ _ upd_same) n3 (by simp [L]) (by decide) (by decide +kernel)⟩
abbrev n_l_some_number : List Str := ["_law_drawn"]
theorem sc_l_some_number : FnScope n_l_some_number ["_law_drawn"] (defScope s_l_some_number) := ⟨rfl, rfl, rfl, by decide +kernel, rfl, by decide +kernel, by decide +kernel⟩
theorem ok_l_some_number (T : Txt K mg w) : Cal P w K mg base CX0 2 "_law_some_number" ["_law_drawn"] spNum := by
  have c_l_next : Cal P w K mg base _ _ _ _ _ := ok_l_next (P := P) (base := base) T
  refine ⟨ok0 T.f_l_some_number sc_l_some_number (fun vs H Q E h => ?_) (fun _ _ _ _ _ _ us hl => match us, hl with | [_], _ => rfl) (fun cdv A outer s H vs Q E hr h => ?_), kpOf T.f_l_some_number, T.g_l_some_number⟩
  · obtain ⟨dr, rfl, _⟩ := h; rfl
  obtain ⟨dr, rfl, hd, q⟩ := h
  refine ⟨_, (pss_one (ps_ret (pe_ix ix_list (pe_lst (pa_cons pe_int (pa_cons pe_int (pa_cons pe_int (pa_cons pe_int (pa_cons (pe_cal c_l_next hr (by decide) rfl pass0 (pa_cons (pv 0) (pa_cons (pe_op op_pow pe_int pe_int) pa_nil))) pa_nil)))))) (pe_cal c_l_next hr (by decide) rfl pass0 (pa_cons (pv 0) (pa_cons pe_int pa_nil))) (fun _ _ => rfl)))), ?_⟩
  refine ⟨_, rfl, _, _, rfl, rfl, ⟨by decide, by decide, by decide⟩, dr, _, rfl, hd, by decide, by decide, fun r H1 h0 h1 b1 d1 => ?_⟩
  have h1 : r < 1000000 := h1
  refine ⟨small_sz (by simp), fun p hp => ?_⟩
  have e2 := Ex.new (o := .lst [.int 0, .int 1, .int 7, .int 999999, .int r]) hp
  refine ⟨_, rfl, dr, _, rfl, d1.ex e2, by decide, by decide, fun j H2 j0 j1 b2 d2 => ?_⟩
  have hp2 := b2 p _ (by simpa using d1.ne hp) upd_same
  have bb : But [dr] H H2 := (b1.trans (But.new hp)).trans b2
  obtain ⟨j, rfl⟩ := Int.eq_ofNat_of_zero_le j0
  obtain ⟨r, rfl⟩ := Int.eq_ofNat_of_zero_le h0
  match j, j1 with
  | 0, _ => exact ⟨p, _, _, .int ((0 : Nat) : Int), rfl, rfl, SqL.of hp2, atI_nat (j := 0) rfl, q 0 H2 (by omega) bb d2⟩
  | 1, _ => exact ⟨p, _, _, .int ((1 : Nat) : Int), rfl, rfl, SqL.of hp2, atI_nat (j := 1) rfl, q 1 H2 (by omega) bb d2⟩
  | 2, _ => exact ⟨p, _, _, .int ((7 : Nat) : Int), rfl, rfl, SqL.of hp2, atI_nat (j := 2) rfl, q 7 H2 (by omega) bb d2⟩
  | 3, _ => exact ⟨p, _, _, .int ((999999 : Nat) : Int), rfl, rfl, SqL.of hp2, atI_nat (j := 3) rfl, q 999999 H2 (by omega) bb d2⟩
  | 4, _ => exact ⟨p, _, _, .int ((r : Nat) : Int), rfl, rfl, SqL.of hp2, atI_nat (j := 4) rfl, q r H2 (by omega) bb d2⟩
  | j + 5, h => omega
abbrev n_l_draws : List Str := ["_law_script", "_law_cell", "_law_great", "_law_mixed"]
theorem sc_l_draws : FnScope n_l_draws ["_law_script"] (defScope s_l_draws) := ⟨rfl, rfl, rfl, by decide +kernel, rfl, by decide +kernel, by decide +kernel⟩
theorem ok_l_draws (T : Txt K mg w) : Cal P w K mg base CX0 1 "_law_draws" ["_law_script"] (spDraws K) := by
  refine ⟨ok0 T.f_l_draws sc_l_draws (fun vs H Q E h => ?_) (fun _ _ _ _ _ _ us hl => match us, hl with | [_], _ => rfl) (fun cdv A outer s H vs Q E hr h => ?_), kpOf T.f_l_draws, T.g_l_draws⟩
  · obtain ⟨a, ns, rfl, _⟩ := h; rfl
  obtain ⟨a, ns, rfl, ha, hl, q⟩ := h
  refine ⟨_, (pss_cons (ps_par (i := 2) (j := 3) rfl sc_l_draws.nd rfl rfl (by decide) rfl rfl (pa_cons pe_int (pa_cons (pe_op op_add pe_int (pe_op op_mul pe_int (pe_callB call_len rfl T.b_len PySem.boot_len (pa_cons (pv 0) pa_nil)))) pa_nil)) (by rfl))
    (pss_cons (ps_for PassesOwn.never rfl (pi_list (pe_slice sl_list (pv 0) po_none (po_some pe_int))) (pg_name (i := 1) sc_l_draws.nd rfl (by first | exact Or.inl rfl | exact Or.inr rfl)) (pss_cons (ps_set (i := 3) sc_l_draws.nd rfl (by first | exact Or.inl rfl | exact Or.inr rfl) (pe_op op_mod (pe_op op_add (pe_op op_add (pe_op op_add (pe_op op_mul (pv 3) pe_int) (pe_op op_mul pe_int (pe_callB call_abs rfl T.b_abs (by decide +kernel) (pa_cons (pv 1) pa_nil)))) (pe_callTy call_int1 rfl T.b_int (by decide +kernel) (pa_cons (pe_cmpR op_lt (pv 1) pe_int (nomark _)) pa_nil))) pe_int) pe_int))
    (pss_one (ps_if (pt_cmpR op_ge (pe_callB call_abs rfl T.b_abs (by decide +kernel) (pa_cons (pv 1) pa_nil)) (pe_op op_pow pe_int pe_int) (nomark _)) (pss_one (ps_set (i := 2) sc_l_draws.nd rfl (by first | exact Or.inl rfl | exact Or.inr rfl) (pe_op op_add (pe_op op_mul (pv 2) pe_int) (pe_callB call_abs rfl T.b_abs (by decide +kernel) (pa_cons (pv 1) pa_nil))))) pss_nil))))
    (pss_one (ps_ret (pe_lst (pa_cons (pv 2) (pa_cons (pv 3) (pa_cons pe_int pa_nil)))))))), ?_⟩
  refine ⟨_, rfl, _, _, rfl, .inl ⟨_, ha, rfl⟩, _, _, rfl, rfl, .inl ⟨by decide, by decide⟩, _, _, rfl, rfl, _, _, rfl, ?_⟩
  refine ⟨_, rfl, _, rfl, a, _, rfl, ha, fun l hl2 => ?_⟩
  have e1 := Ex.new (o := .lst (cutV (ns.map V.int) none (some 60))) hl2
  refine ⟨l, rfl, ⟨_, SqL.of upd_same⟩, ?_⟩
  refine for_list (xs := cutV (ns.map V.int) none (some 60)) (fun i σ H' => ∃ (o1 : Option V) (g m : Int), σ = [some (.ref a), o1, some (.int g), some (.int m)] ∧ Ex H H' ∧ H' l = some (.lst (cutV (ns.map V.int) none (some 60)))) ⟨_, _, _, rfl, e1, upd_same⟩ ?_ ?_ ?_
  · rintro i σ H' _ ⟨o1, g, m, rfl, ex, h⟩
    exact SqL.of h
  · rintro i x σ H' hi ⟨o1, g, m, rfl, ex, h⟩
    have hx : ∃ n : Int, x = .int n := by
      have : x ∈ ns.map V.int := List.mem_of_mem_drop (List.mem_of_mem_take (List.mem_of_getElem? hi))
      obtain ⟨n, _, rfl⟩ := List.mem_map.mp this
      exact ⟨n, rfl⟩
    obtain ⟨n, rfl⟩ := hx
    refine ⟨_, rfl, _, _, rfl, rfl, .inr ⟨by decide, by decide⟩, _, rfl, n, rfl, _, _, rfl, rfl, .inl ⟨by decide, by decide⟩, _, _, rfl, rfl, ?_⟩
    refine ⟨_, rfl, _, _, rfl, rfl, .inr ⟨_, rfl, _, _, rfl, rfl, _, _, rfl, rfl, _, _, rfl, rfl, (show (0 : Int) < _ from by decide), ?_⟩⟩
    refine ⟨_, rfl, n, rfl, _, _, rfl, rfl, ⟨by decide, by decide, by decide⟩, _, _, rfl, rfl, _, rfl, ?_⟩
    refine ite2 (fun _ => ?_) (fun _ => ?_)
    · exact ⟨_, rfl, _, _, rfl, rfl, .inr ⟨by decide, by decide⟩, _, rfl, n, rfl, _, _, rfl, rfl, _, _, _, rfl, ex, h⟩
    · exact ⟨_, _, _, rfl, ex, h⟩
  · rintro σ H' ⟨o1, g, m, rfl, ex, h⟩
    exact ⟨_, rfl, _, rfl, small_sz (by simp), fun p hp => q p _ (ex.trans (Ex.new hp)) (fresh_back ex hp) ⟨g, m, 0, upd_same⟩⟩
end
end Sh
set_option Elab.async false
set_option linter.all false
set_option maxRecDepth 100000
set_option maxHeartbeats 4000000
namespace Sh
open PySem PySem.Spec PyProof.Rows L2 Evl
/-- generated patterns: depth, size -/
inductive IsP (H : Hp) : Nat → Nat → V → Prop where
  | any {a : Addr} {d : Nat} : H a = some (.tup [.str "any"]) → IsP H d 1 (.ref a)
  | word {a : Addr} {d : Nat} {z : Str} : H a = some (.tup [.str "word", .str z]) → WordT z → IsP H d 1 (.ref a)
  | mk0 {a : Addr} {d : Nat} {z : Str} : H a = some (.tup [.str "make", .str z]) → NameT z → IsP H d 1 (.ref a)
  | mk {a : Addr} {d : Nat} {z : Str} {cs : List (V × Nat)} : H a = some (.tup (.str "make" :: .str z :: cs.map (·.1))) → NameT z → cs.length ≤ 3 → (∀ c, c ∈ cs → IsP H d c.2 c.1) → IsP H (d + 1) (1 + (cs.map (·.2)).sum) (.ref a)
theorem IsP.mono {H H' : Hp} (t : Tups H H') {d n : Nat} {v : V} (h : IsP H d n v) : IsP H' d n v := by
  induction h with
  | any h => exact .any (t _ _ h)
  | word h1 h2 => exact .word (t _ _ h1) h2
  | mk0 h1 h2 => exact .mk0 (t _ _ h1) h2
  | mk h1 h2 h3 _ ih => exact .mk (t _ _ h1) h2 h3 ih
abbrev Sgn (s : Str) : Prop := s ∈ [("+" : Str), "-", "*", "<", "="]
/-- generated expressions: depth, size, a make or not -/
inductive IsG (H : Hp) : Nat → Nat → Bool → V → Prop where
  | num {a : Addr} {d i : Nat} : H a = some (.tup [.str "number", .int (i : Int)]) → i ≤ 999999 → IsG H d 1 false (.ref a)
  | hole {a : Addr} {d : Nat} : H a = some (.tup [.str "hole"]) → IsG H d 1 false (.ref a)
  | word {a : Addr} {d : Nat} {z : Str} : H a = some (.tup [.str "word", .str z]) → WordT z → IsG H d 1 false (.ref a)
  | mk0 {a : Addr} {d : Nat} {z : Str} : H a = some (.tup [.str "make", .str z]) → NameT z → IsG H d 1 true (.ref a)
  | fn {a : Addr} {d n : Nat} {m : Bool} {z : Str} {e : V} : H a = some (.tup [.str "fun", .str z, e]) → WordT z → IsG H d n m e → IsG H (d + 1) (1 + n) false (.ref a)
  | lt {a : Addr} {d n n' : Nat} {m m' : Bool} {z : Str} {e f : V} : H a = some (.tup [.str "let", .str z, e, f]) → WordT z → IsG H d n m e → IsG H d n' m' f → IsG H (d + 1) (1 + (n + n')) false (.ref a)
  | op {a : Addr} {d n n' : Nat} {m m' : Bool} {z : Str} {e f : V} : H a = some (.tup [.str "op", .str z, e, f]) → Sgn z → IsG H d n m e → IsG H d n' m' f → IsG H (d + 1) (1 + (n + n')) false (.ref a)
  | call {a : Addr} {d n n' : Nat} {m m' : Bool} {e f : V} : H a = some (.tup [.str "call", e, f]) → IsG H d n m e → IsG H d n' m' f → IsG H (d + 1) (1 + (n + n')) false (.ref a)
  | mk {a : Addr} {d : Nat} {z : Str} {cs : List (V × Nat × Bool)} : H a = some (.tup (.str "make" :: .str z :: cs.map (·.1))) → NameT z → cs ≠ [] → cs.length ≤ 3 → (∀ c, c ∈ cs → IsG H d c.2.1 c.2.2 c.1) → IsG H (d + 1) (1 + (cs.map (·.2.1)).sum) true (.ref a)
  | mt {a r : Addr} {d n : Nat} {m : Bool} {e : V} {rows : List (Addr × (V × Nat) × (V × Nat × Bool))} : H a = some (.tup [.str "match", e, .ref r]) → IsG H d n m e → H r = some (.tup (rows.map fun t => V.ref t.1)) → (∀ t, t ∈ rows → H t.1 = some (.tup [t.2.1.1, t.2.2.1])) →
      (∀ t, t ∈ rows → IsP H 2 t.2.1.2 t.2.1.1) → (∀ t, t ∈ rows → IsG H d t.2.2.2.1 t.2.2.2.2 t.2.2.1) → rows.length ≤ 3 → IsG H (d + 1) (1 + (n + (rows.map fun t => t.2.1.2 + t.2.2.2.1).sum)) false (.ref a)
theorem IsG.mono {H H' : Hp} (t : Tups H H') {d n : Nat} {m : Bool} {v : V} (h : IsG H d n m v) : IsG H' d n m v := by
  induction h with
  | num h1 h2 => exact .num (t _ _ h1) h2
  | hole h => exact .hole (t _ _ h)
  | word h1 h2 => exact .word (t _ _ h1) h2
  | mk0 h1 h2 => exact .mk0 (t _ _ h1) h2
  | fn h1 h2 _ ih => exact .fn (t _ _ h1) h2 ih
  | lt h1 h2 _ _ i1 i2 => exact .lt (t _ _ h1) h2 i1 i2
  | op h1 h2 _ _ i1 i2 => exact .op (t _ _ h1) h2 i1 i2
  | call h1 _ _ i1 i2 => exact .call (t _ _ h1) i1 i2
  | mk h1 h2 h3 h4 _ ih => exact .mk (t _ _ h1) h2 h3 h4 ih
  | mt h1 _ h3 h4 h5 _ h7 i2 i6 => exact .mt (t _ _ h1) i2 (t _ _ h3) (fun x hx => t _ _ (h4 x hx)) (fun x hx => (h5 x hx).mono t) i6 h7
def spPatD : Nat → Sp
  | 0 => fun _ _ _ _ => False
  | d + 1 => fun vs H Q _ => ∃ (dr tk : Addr) (ts : List Str), vs = [.ref dr, .int (d : Int), .ref tk] ∧ DrI H dr ∧ H tk = some (.lst (ts.map V.str)) ∧ ts.length + 3 ^ d ≤ 1000 ∧ d ≤ 5 ∧
    ∀ (v : V) (n : Nat) (H' : Hp) (ts' : List Str), But [dr, tk] H H' → DrI H' dr → H' tk = some (.lst (ts'.map V.str)) → ts'.length ≤ ts.length + 3 ^ d → IsP H' d n v → Q v H'
theorem ints_strs {H : Hp} {a b : Addr} {ts : List Str} (h : DrI H a) (k : H b = some (.lst (ts.map V.str))) : b ≠ a := fun e => by
  obtain ⟨x, y, z, h⟩ := h
  rw [e, h] at k
  cases ts with
  | nil => simp at k
  | cons t r => simp at k
theorem flat_strs (ts : List Str) : (ts.map V.str).all flatV = true := by
  induction ts with
  | nil => rfl
  | cons t r ih => show (true && _) = true; rw [ih]; rfl
theorem But.two {a b : Addr} {H H' : Hp} {xs ys : List V} (h : But [a, b] H H') (ha : H a = some (.lst xs)) (hb : H b = some (.lst ys)) : Tups H H' := h.tups fun p hp zs e => by
  rcases List.mem_cons.mp hp with z | z
  · rw [z, ha] at e; cases e
  · rw [List.mem_singleton.mp z, hb] at e; cases e
theorem yes_i {σ : L2.St} {H : Hp} {A B : Hp → Prop} (h : A H) : tYes σ H fun b H3 => if b = true then A H3 else B H3 := h
theorem V.nat_sub {d : Nat} {x y : V} : [x, V.int (((d + 1 : Nat) : Int) - 1), y] = [x, V.int (d : Int), y] := by
  have e : ((d + 1 : Nat) : Int) - 1 = (d : Int) := by omega
  rw [e]
theorem V.nat_sub2 {d : Nat} {x : V} : [x, V.int (((d + 1 : Nat) : Int) - 1)] = [x, V.int (d : Int)] := by
  have e : ((d + 1 : Nat) : Int) - 1 = (d : Int) := by omega
  rw [e]
section
variable {P : Program} {w : World} {K : PySem.W.Frag} {mg : Str → Option Value} {base : Heap}
theorem ok_no {x qual : Str} {st : Stmt} {N ps : List Str} {f : Addr} (F : ∃ fd, FnP K x qual st f fd) (S : FnScope N ps (defScope st))
    (bd : ∀ (kV doc pm : Value) (an : Option Addr) (cdv ct : Value) (us : List Value), us.length = ps.length → bindArgs (PySem.W.fnOf x qual (defArgs st) (defBody st) (defScope st) .none kV doc pm an cdv ct) ⟨us, []⟩ = pure (ps.zip us)) :
    ∃ fd, FnOk P w K mg base CX0 (0 + 1) f fd ps (fun _ _ _ _ => False) ∧ Binds K fd ps [] := ok0 F S (fun _ _ _ _ h => h.elim) bd (fun _ _ _ _ _ _ _ _ _ h => h.elim)
theorem ok_non {x qual : Str} {st : Stmt} {N ps : List Str} {f : Addr} {sp : Sp} (F : ∃ fd, FnP K x qual st f fd) (S : FnScope N ps (defScope st))
    (bd : ∀ (kV doc pm : Value) (an : Option Addr) (cdv ct : Value) (us : List Value), us.length = ps.length → bindArgs (PySem.W.fnOf x qual (defArgs st) (defBody st) (defScope st) .none kV doc pm an cdv ct) ⟨us, []⟩ = pure (ps.zip us)) (no : ∀ vs H Q E, ¬ sp vs H Q E) :
    ∃ fd, FnOk P w K mg base CX0 (0 + 1) f fd ps sp ∧ Binds K fd ps [] := ok0 F S (fun _ _ _ _ h => (no _ _ _ _ h).elim) bd (fun _ _ _ _ _ _ _ _ _ h => (no _ _ _ _ h).elim)
theorem Cal.up {CX : CXT} {j k : Nat} {x : Str} {ps : List Str} {sp : Sp} (c : Cal P w K mg base CX j x ps sp) (h : j ≤ k) : Cal P w K mg base CX k x ps sp := by
  obtain ⟨⟨fd, F, b⟩, k1, k2⟩ := c
  exact ⟨⟨fd, F.mono h, b⟩, k1, k2⟩
abbrev n_l_free_pattern : List Str := ["_law_drawn", "_law_deep", "_law_taken", "_law_way", "_law_many", "_law_parts", "_law_free_here", "_law_k", "_law_word"]
theorem sc_l_free_pattern : FnScope n_l_free_pattern ["_law_drawn", "_law_deep", "_law_taken"] (defScope s_l_free_pattern) := ⟨rfl, rfl, rfl, by decide +kernel, rfl, by decide +kernel, by decide +kernel⟩
theorem ok_l_free_pattern (T : Txt K mg w) : ∀ d : Nat, Cal P w K mg base CX0 (4 + d) "_law_free_pattern" ["_law_drawn", "_law_deep", "_law_taken"] (spPatD d)
  | 0 => by
    obtain ⟨fd, F, b⟩ := ok_no (P := P) (w := w) (mg := mg) (base := base) T.f_l_free_pattern sc_l_free_pattern (fun _ _ _ _ _ _ us hl => match us, hl with | [_, _, _], _ => rfl)
    exact (Cal.mk ⟨fd, F, b⟩ (kpOf T.f_l_free_pattern) T.g_l_free_pattern).up (by omega)
  | d + 1 => by
    have c_l_free_pattern : Cal P w K mg base _ _ _ _ _ := ok_l_free_pattern T d
    have c_l_next : Cal P w K mg base _ _ _ _ _ := ok_l_next (P := P) (base := base) T
    have c_l_one : Cal P w K mg base _ _ _ _ _ := ok_l_one (P := P) (base := base) T
    have c_l_some_name : Cal P w K mg base _ _ _ _ _ := ok_l_some_name (P := P) (base := base) T
    refine ⟨ok0 (k := 4 + d) T.f_l_free_pattern sc_l_free_pattern (fun vs H Q E h => ?_) (fun _ _ _ _ _ _ us hl => match us, hl with | [_, _, _], _ => rfl) (fun cdv A outer s H vs Q E hr h => ?_), kpOf T.f_l_free_pattern, T.g_l_free_pattern⟩
    · obtain ⟨dr, tk, ts, rfl, _⟩ := h; rfl
    obtain ⟨dr, tk, ts, rfl, hd, htk, hts, hd5, q⟩ := h
    refine ⟨_, (pss_cons (ps_set (i := 3) sc_l_free_pattern.nd rfl (by first | exact Or.inl rfl | exact Or.inr rfl) (pe_cal c_l_next hr (by omega) rfl pass0 (pa_cons (pv 0) (pa_cons (pe_op op_add pe_int (pe_op op_mul pe_int (pe_callTy call_int1 rfl T.b_int (by decide +kernel) (pa_cons (pe_cmpR op_gt (pv 1) pe_int (nomark _)) pa_nil)))) pa_nil))))
    (pss_cut (ps_if (pt_cmpR op_eq (pv 3) pe_int (nomark _)) (pss_cons (ps_setLc (i := 6) (own := [(("_law_word" : Str), 8)]) (g := gName 8) rfl sc_l_free_pattern.nd rfl rfl (sw_true rfl rfl rfl (by decide +kernel)) (pi_list (pe_lst (pa_cons pe_str (pa_cons pe_str (pa_cons pe_str (pa_cons pe_str (pa_cons pe_str (pa_cons pe_str pa_nil)))))))) (blkOk_by (own := [(("_law_word" : Str), 8)]) (N := n_l_free_pattern) (sc := defScope s_l_free_pattern) (by decide +kernel)) (fun _ _ _ _ _ => pg_name (i := 8) sc_l_free_pattern.nd rfl (by first | exact Or.inl rfl | exact Or.inr rfl)) (fun _ _ _ _ _ => pts_one (pt_cmpR (show OpR _ (compareOp .NotIn) (rIn K true) from op_notIn_seq) (pv 8) (pv 2) (by first | exact nomark _ | rfl))) (fun _ _ _ _ _ => (pv 8)))
    (pss_one (ps_if (pt_cmpR (op_neL hr.units0) (pv 6) (pe_lst pa_nil) (nomark _)) (pss_cons (ps_expr (pe_bm PySem.F.plainAttrs_list PySem.F.slot_list_append PySem.F.type_list_append mt_append (pv 2) (pa_cons (pe_cal c_l_one hr (by omega) rfl pass0 (pa_cons (pv 0) (pa_cons (pv 6) pa_nil))) pa_nil)))
    (pss_one (ps_ret (pe_tup (pa_cons pe_str (pa_cons (pe_ix ix_list (pv 2) (pe_un un_neg pe_int) (fun _ _ => rfl)) pa_nil)))))) pss_nil))) pss_nil)
    (pss_cons (ps_if (pt_cmpR op_lt (pv 3) pe_int (nomark _)) (pss_one (ps_ret (pe_tup (pa_cons pe_str pa_nil)))) pss_nil)
    (pss_cut (ps_set (i := 4) sc_l_free_pattern.nd rfl (by first | exact Or.inl rfl | exact Or.inr rfl) (pe_ifExp (pt_cmpR op_gt (pv 3) pe_int (nomark _)) (pe_op op_add pe_int (pe_cal c_l_next hr (by omega) rfl pass0 (pa_cons (pv 0) (pa_cons pe_int pa_nil)))) pe_int))
    (pss_cons (ps_setLc (i := 5) (own := [(("_law_k" : Str), 7)]) (g := gName 7) rfl sc_l_free_pattern.nd rfl rfl (sw_true rfl rfl rfl (by decide +kernel)) (pi_range1 rfl T.b_range (pa_cons (pv 4) pa_nil)) (blkOk_by (own := [(("_law_k" : Str), 7)]) (N := n_l_free_pattern) (sc := defScope s_l_free_pattern) (by decide +kernel)) (fun _ _ _ _ _ => pg_name (i := 7) sc_l_free_pattern.nd rfl (by first | exact Or.inl rfl | exact Or.inr rfl)) (fun _ _ _ _ _ => pts_nil) (fun _ _ _ _ _ => (pe_cal c_l_free_pattern hr (by omega) rfl pass0 (pa_cons (pv 0) (pa_cons (pe_op op_sub (pv 1) pe_int) (pa_cons (pv 2) pa_nil))))))
    (pss_one (ps_ret (pe_op op_catT (pe_tup (pa_cons pe_str (pa_cons (pe_cal c_l_some_name hr (by omega) rfl pass0 (pa_cons (pv 0) (pa_cons (pv 4) pa_nil))) pa_nil))) (pe_callTy call_tuple_of rfl T.b_tuple (by decide +kernel) (pa_cons (pv 5) pa_nil)))))))))), ?_⟩
    have htd := ints_strs hd htk
    have hp3 : 1 ≤ 3 ^ d := Nat.one_le_pow _ _ (by decide)
    refine ⟨_, rfl, _, rfl, _, _, rfl, rfl, .inr ⟨_, rfl, _, _, rfl, rfl, .inl ⟨by decide, by decide⟩, _, _, rfl, rfl, dr, _, rfl, hd, ?_, ?_, fun r H1 r0 r1 b1 d1 => ?_⟩⟩
    · split <;> omega
    · split <;> omega
    have htk1 := b1 _ _ (by simpa using htd) htk
    have b1' : But [dr, tk] H H1 := b1.mono (by simp)
    have hway : d = 0 → r < 3 := fun e => by subst e; exact r1
    have hstr : ∀ {x : V}, x ∈ [("x" : Str), "y", "f", "a1", "len", "zzzzzzzz"].map V.str → ∃ z, x = .str z ∧ WordT z := fun hx => by
      obtain ⟨z, hz, rfl⟩ := List.mem_map.mp hx
      exact ⟨z, rfl, (by decide +kernel : ∀ z ∈ [("x" : Str), "y", "f", "a1", "len", "zzzzzzzz"], WordT z) z hz⟩
    refine ⟨fun σ2 H2 => ∃ (o6 : Option V), σ2 = [some (.ref dr), some (.int (d : Int)), some (.ref tk), some (.int r), none, none, o6, none, none] ∧ But [dr, tk] H H2 ∧ DrI H2 dr ∧ H2 tk = some (.lst (ts.map V.str)), ?_, ?_⟩
    · refine ⟨_, rfl, rfl, _, rfl, ?_⟩
      refine ite2 (fun _ => ?_) (fun _ => ⟨none, rfl, b1', d1, htk1⟩)
      refine ⟨small_sz (by simp), fun p hp => ⟨p, rfl, ⟨_, SqL.of upd_same⟩, fun D hD => ?_⟩⟩
      have e2 := Ex.new (o := .lst ([("x" : Str), "y", "f", "a1", "len", "zzzzzzzz"].map V.str)) hp
      have hD1 : H1 D = none := fresh_back e2 hD
      refine lc_list (xs := [("x" : Str), "y", "f", "a1", "len", "zzzzzzzz"].map V.str) (fun i H' => Ex H1 H' ∧ H' p = some (.lst ([("x" : Str), "y", "f", "a1", "len", "zzzzzzzz"].map V.str)) ∧ ∃ acc : List Str, H' D = some (.lst (acc.map V.str)) ∧ (∀ z, z ∈ acc → WordT z) ∧ acc.length ≤ i) ?_ (fun i H' _ h => SqL.of h.2.1) ?_ ?_
      · exact ⟨e2.trans (Ex.new hD), Ex.new hD _ _ upd_same, [], upd_same, (fun z hz => by simp at hz), Nat.le_refl _⟩
      · rintro i x H' hi ⟨ex, hp', acc, ha1, ha2, ha3⟩
        obtain ⟨z, rfl, hz⟩ := hstr (List.mem_of_getElem? hi)
        have hi6 : i < 6 := (List.getElem?_eq_some_iff.mp hi).1
        refine ⟨rfl, _, rfl, _, rfl, tk, _, rfl, .inl (SqL.of (ex _ _ htk1)), rfl, flat_strs ts, _, rfl, ?_⟩
        refine ite2 (fun _ => ?_) (fun _ => ⟨ex, hp', acc, ha1, ha2, by omega⟩)
        refine ⟨_, rfl, _, ha1, small_lt (by rw [List.length_map]; omega), Ex.mut ex hD1, ?_, acc ++ [z], ?_, fun y hy => ?_, by rw [List.length_append]; simp; omega⟩
        · rw [upd_ne (fun e => by rw [e] at hD; rw [show (upd H1 D _) D = _ from upd_same] at hD; cases hD)]; exact hp'
        · rw [upd_same, List.map_append]; rfl
        · rcases List.mem_append.mp hy with hy | hy
          · exact ha2 y hy
          · rw [List.mem_singleton.mp hy]; exact hz
      · rintro H' ⟨ex, hp', acc, ha1, ha2, ha3⟩
        have ha3 : acc.length ≤ 6 := ha3
        have d2 := d1.ex ex
        have b2 : But [dr, tk] H H' := b1'.trans ((ex_but.mp ex).mono (by simp))
        have htk2 := ex _ _ htk1
        refine ⟨_, rfl, small_sz (by simp), fun q2 hq2 => ?_⟩
        have e3 := Ex.new (o := .lst []) hq2
        refine ⟨D, q2, _, rfl, rfl, SqL.of (e3 _ _ ha1), SqL.of upd_same, _, rfl, ?_⟩
        cases acc with
        | nil => exact iteF ⟨_, rfl, b2.trans ((ex_but.mp e3).mono (by simp)), d2.ex e3, e3 _ _ htk2⟩
        | cons z0 acc =>
          refine iteT ?_
          have ha1' := e3 _ _ ha1
          refine ⟨_, rfl, tyL (e3 _ _ htk2), _, rfl, _, rfl, dr, D, _, rfl, d2.ex e3, ha1', d1.ne hD1, by simp, by rw [List.length_map]; omega, fun x H5 hx b5 d5 => ?_⟩
          obtain ⟨z, hz, rfl⟩ := List.mem_map.mp hx
          have htk5 := b5 _ _ (by simpa using htd) (e3 _ _ htk2)
          refine ⟨tk, _, _, rfl, rfl, htk5, small_lt (by rw [List.length_map]; omega), ?_⟩
          have htk6 : (upd H5 tk (.lst (ts.map V.str ++ [.str z]))) tk = some (.lst (ts.map V.str ++ [.str z])) := upd_same
          have b6 : But [dr, tk] H (upd H5 tk (.lst (ts.map V.str ++ [.str z]))) := ((b2.trans ((ex_but.mp e3).mono (by simp))).trans (b5.mono (by simp))).trans (But.put (by simp))
          refine ⟨_, rfl, _, rfl, tk, _, _, .str z, rfl, rfl, SqL.of htk6, atI_last _ _, small_sz (by simp), fun p2 hp2 => ?_⟩
          have e7 := Ex.new (o := .tup [.str "word", .str z]) hp2
          have d6 : DrI (upd H5 tk (.lst (ts.map V.str ++ [.str z]))) dr := by
            obtain ⟨x, y, w, h⟩ := d5
            exact ⟨x, y, w, by rw [upd_ne (Ne.symm htd)]; exact h⟩
          refine q _ 1 _ (ts ++ [z]) (b6.trans ((ex_but.mp e7).mono (by simp))) (d6.ex e7) ?_ (by rw [List.length_append]; simp; omega) (.word upd_same (ha2 z hz))
          rw [List.map_append]; exact e7 _ _ htk6
    rintro σ2 H2 ⟨o6, rfl, b2, d2, htk2⟩
    refine ⟨_, rfl, _, _, rfl, rfl, _, rfl, ?_⟩
    refine ite2 (fun _ => ?_) (fun hw2 => ?_)
    · refine tup1 v_c _ fun p H3 e3 hp => ?_
      exact q (.ref p) 1 H3 ts (b2.trans ((ex_but.mp e3).mono (by simp))) (d2.ex e3) (e3 _ _ htk2) (by omega) (.any hp)
    refine ⟨fun σ3 H3 => ∃ (j : Nat), σ3 = [some (.ref dr), some (.int (d : Int)), some (.ref tk), some (.int r), some (.int (j : Int)), none, o6, none, none] ∧ But [dr, tk] H H3 ∧ DrI H3 dr ∧ H3 tk = some (.lst (ts.map V.str)) ∧ j ≤ 3 ∧ (0 < j → ∃ d', d = d' + 1), ?_, ?_⟩
    · refine ⟨_, rfl, _, _, rfl, rfl, _, rfl, ?_⟩
      refine ite2 (fun hw3 => ?_) (fun _ => ⟨0, rfl, b2, d2, htk2, by omega, fun h => by omega⟩)
      have hw3 : 2 < r := of_decide_eq_true hw3
      refine ⟨_, rfl, dr, 3, rfl, d2, by decide, by decide, fun k H3 k0 k1 b3 d3 => ?_⟩
      obtain ⟨k, rfl⟩ := Int.eq_ofNat_of_zero_le k0
      refine ⟨_, _, rfl, rfl, 1 + k, by push_cast; rfl, b2.trans (b3.mono (by simp)), d3, b3 _ _ (by simpa using htd) htk2, by omega, fun _ => ?_⟩
      cases d with
      | zero => have := hway rfl; omega
      | succ d => exact ⟨d, rfl⟩
    rintro σ3 H3 ⟨j, rfl, b3, d3, htk3, hj3, hjd⟩
    refine ⟨_, rfl, (j : Int), rfl, by omega, by omega, fun D hD => ?_⟩
    have hDd : D ≠ dr := d3.ne hD
    have hDt : D ≠ tk := fun e => by rw [e, htk3] at hD; cases hD
    refine lc_range (lo := 0) (n := (j : Int).toNat) (fun i H' => ∃ (cs : List (V × Nat)) (ts' : List Str), But [dr, tk] H3 H' ∧ DrI H' dr ∧ H' tk = some (.lst (ts'.map V.str)) ∧ ts'.length ≤ ts.length + i * 3 ^ (d - 1) ∧ H' D = some (.lst (cs.map (·.1))) ∧ cs.length = i ∧ ∀ c, c ∈ cs → IsP H' (d - 1) c.2 c.1) ?_ ?_ ?_
    · exact ⟨[], ts, But.new hD, d3.new hD, Ex.new hD _ _ htk3, by omega, upd_same, rfl, fun c hc => by simp at hc⟩
    · rintro i H' hi ⟨cs, ts', b', d', htk', hts', hDl, hcl, hcs⟩
      have hij : i < j := by simpa using hi
      obtain ⟨dd, rfl⟩ := hjd (by omega)
      have hdd : dd + 1 - 1 = dd := rfl
      rw [hdd] at hts' hcs
      refine ⟨rfl, yes_i ?_⟩
      have hpw : i * 3 ^ dd ≤ 3 * 3 ^ dd := Nat.mul_le_mul_right _ (by omega)
      have hpw2 : 3 ^ dd ≤ 3 ^ 5 := Nat.pow_le_pow_right (by decide) (by omega)
      refine ⟨_, rfl, _, rfl, _, _, rfl, rfl, _, rfl, dr, tk, ts', V.nat_sub, d', htk', ?_, by omega, fun v n H4 ts4 b4 d4 htk4 hts4 hv => ?_⟩
      · have e : (3 : Nat) ^ (dd + 1) = 3 * 3 ^ dd := by rw [Nat.pow_succ, Nat.mul_comm]
        have : (i + 1) * 3 ^ dd ≤ 3 * 3 ^ dd := Nat.mul_le_mul_right _ (by omega)
        rw [Nat.succ_mul] at this
        omega
      have hD4 := b4 D _ (by simp [hDd, hDt]) hDl
      have t4 : Tups H' H4 := by
        obtain ⟨x, y, z, hx⟩ := d'
        exact b4.two hx htk'
      have t5 : Tups H4 (upd H4 D (.lst (cs.map (·.1) ++ [v]))) := Tups.lst hD4
      refine ⟨_, hD4, small_lt (by rw [List.length_map]; omega), cs ++ [(v, n)], ts4, (b'.trans b4).free hD, ?_, by rw [upd_ne hDt.symm]; exact htk4, ?_, by rw [upd_same, List.map_append]; rfl, by rw [List.length_append, hcl]; rfl, fun c hc => ?_⟩
      · obtain ⟨x, y, z, hx⟩ := d4
        exact ⟨x, y, z, by rw [upd_ne hDd.symm]; exact hx⟩
      · rw [hdd, Nat.succ_mul]; omega
      · rcases List.mem_append.mp hc with hc | hc
        · exact (hcs c hc).mono (t4.trans t5)
        · rw [List.mem_singleton.mp hc]; exact hv.mono t5
    · rintro H' ⟨cs, ts', b', d', htk', hts', hDl, hcl, hcs⟩
      have hcl : cs.length = j := by simpa using hcl
      have hlen : ts'.length ≤ ts.length + 3 ^ d := by
        have : (j : Int).toNat = j := by simp
        rw [this] at hts'
        by_cases h0 : j = 0
        · subst h0; omega
        · obtain ⟨dd, rfl⟩ := hjd (by omega)
          have : j * 3 ^ dd ≤ 3 * 3 ^ dd := Nat.mul_le_mul_right _ hj3
          have e : (3 : Nat) ^ (dd + 1) = 3 * 3 ^ dd := by rw [Nat.pow_succ, Nat.mul_comm]
          have hdd : dd + 1 - 1 = dd := rfl
          rw [hdd] at hts'
          omega
      refine ⟨_, rfl, _, rfl, dr, j, rfl, hj3, d', fun z H5 hz b5 d5 => ⟨small_sz (by simp), fun p hp => ?_⟩⟩
      have e6 := Ex.new (o := .tup [.str "make", .str z]) hp
      have hD5 := b5 D _ (by simpa using hDd) hDl
      have htk5 := b5 _ _ (by simpa using htd) htk'
      refine ⟨_, rfl, D, _, rfl, .inl ⟨SqL.of (e6 _ _ hD5), fun l hl => ?_⟩⟩
      have e7 := e6.trans (Ex.new (o := .tup (cs.map (·.1))) hl)
      have b7 : But [dr, tk] H _ := ((b3.trans b').trans (b5.mono (by simp))).trans ((ex_but.mp e7).mono (by simp))
      have t57 := (d'.tups b5).trans (Ex.tups e7)
      refine ⟨p, l, _, _, rfl, rfl, SqT.of ((Ex.new hl) _ _ upd_same), SqT.of upd_same, by simp, small_sz (by rw [List.length_map]; simp; omega), fun hnil => ?_, fun hne p2 hp2 => ?_⟩
      · have : cs = [] := by simpa using hnil
        subst this
        exact q (.ref p) 1 _ ts' b7 (d5.ex e7) (e7 _ _ htk5) hlen (.mk0 ((Ex.new hl) _ _ upd_same) hz)
      · have hj0 : 0 < j := by
          rw [← hcl]; exact List.length_pos_iff.mpr (fun e => hne (by rw [e]; rfl))
        obtain ⟨dd, rfl⟩ := hjd hj0
        have e8 := Ex.new (o := .tup ([.str "make", .str z] ++ cs.map (·.1))) hp2
        exact q (.ref p2) _ _ ts' (b7.trans ((ex_but.mp e8).mono (by simp))) ((d5.ex e7).ex e8) (e8 _ _ (e7 _ _ htk5)) hlen (.mk upd_same hz (by omega) fun c hc => (hcs c hc).mono (t57.trans (Ex.tups e8)))
end
end Sh
set_option Elab.async false
set_option linter.all false
set_option maxRecDepth 100000
set_option maxHeartbeats 4000000
namespace Sh
open PySem PySem.Spec PyProof.Rows L2 Evl
def spFreeD (d : Nat) : Sp := fun vs H Q _ => ∃ (dr : Addr) (j : Nat), vs = [.ref dr, .int (j : Int)] ∧ j < d ∧ DrI H dr ∧ ∀ (v : V) (n : Nat) (m : Bool) (H' : Hp), But [dr] H H' → DrI H' dr → IsG H' j n m v → Q v H'
section
variable {P : Program} {w : World} {K : PySem.W.Frag} {mg : Str → Option Value} {base : Heap}
abbrev n_l_free : List Str := ["_law_drawn", "_law_deep", "_law_way", "_law_rows", "_law_many", "_law_sign", "_law_k"]
theorem sc_l_free : FnScope n_l_free ["_law_drawn", "_law_deep"] (defScope s_l_free) := ⟨rfl, rfl, rfl, by decide +kernel, rfl, by decide +kernel, by decide +kernel⟩
theorem ok_l_free (T : Txt K mg w) : ∀ d : Nat, Cal P w K mg base CX0 (7 + d) "_law_free" ["_law_drawn", "_law_deep"] (spFreeD d)
  | 0 => by
    obtain ⟨fd, F, b⟩ := ok_non (P := P) (w := w) (mg := mg) (base := base) (sp := spFreeD 0) T.f_l_free sc_l_free (fun _ _ _ _ _ _ us hl => match us, hl with | [_, _], _ => rfl) (fun vs H Q E ⟨_, j, _, h, _⟩ => by omega)
    exact (Cal.mk ⟨fd, F, b⟩ (kpOf T.f_l_free) T.g_l_free).up (by omega)
  | d + 1 => by
    have c_l_free : Cal P w K mg base _ _ _ _ _ := ok_l_free T d
    have c_l_free_pattern : Cal P w K mg base _ _ _ _ _ := ok_l_free_pattern (P := P) (base := base) T 3
    have c_l_next : Cal P w K mg base _ _ _ _ _ := ok_l_next (P := P) (base := base) T
    have c_l_one : Cal P w K mg base _ _ _ _ _ := ok_l_one (P := P) (base := base) T
    have c_l_some_name : Cal P w K mg base _ _ _ _ _ := ok_l_some_name (P := P) (base := base) T
    have c_l_some_word : Cal P w K mg base _ _ _ _ _ := ok_l_some_word (P := P) (base := base) T
    have c_l_some_number : Cal P w K mg base _ _ _ _ _ := ok_l_some_number (P := P) (base := base) T
    refine ⟨ok0 (k := 7 + d) T.f_l_free sc_l_free (fun vs H Q E h => ?_) (fun _ _ _ _ _ _ us hl => match us, hl with | [_, _], _ => rfl) (fun cdv A outer s H vs Q E hr h => ?_), kpOf T.f_l_free, T.g_l_free⟩
    · obtain ⟨dr, j0, rfl, _⟩ := h; rfl
    obtain ⟨dr, jj, rfl, hjj, hd, q⟩ := h
    refine ⟨_, (pss_cons (ps_set (i := 2) sc_l_free.nd rfl (by first | exact Or.inl rfl | exact Or.inr rfl) (pe_cal c_l_next hr (by omega) rfl pass0 (pa_cons (pv 0) (pa_cons (pe_op op_add pe_int (pe_op op_mul pe_int (pe_callTy call_int1 rfl T.b_int (by decide +kernel) (pa_cons (pe_cmpR op_gt (pv 1) pe_int (nomark _)) pa_nil)))) pa_nil))))
    (pss_cons (ps_if (pt_cmpR op_eq (pv 2) pe_int (nomark _)) (pss_one (ps_ret (pe_tup (pa_cons pe_str (pa_cons (pe_cal c_l_some_number hr (by omega) rfl pass0 (pa_cons (pv 0) pa_nil)) pa_nil))))) pss_nil)
    (pss_cons (ps_if (pt_cmpR op_eq (pv 2) pe_int (nomark _)) (pss_one (ps_ret (pe_tup (pa_cons pe_str pa_nil)))) pss_nil)
    (pss_cons (ps_if (pt_cmpR op_eq (pv 2) pe_int (nomark _)) (pss_one (ps_ret (pe_tup (pa_cons pe_str (pa_cons (pe_cal c_l_some_word hr (by omega) rfl pass0 (pa_cons (pv 0) pa_nil)) pa_nil))))) pss_nil)
    (pss_cons (ps_if (pt_cmpR op_eq (pv 2) pe_int (nomark _)) (pss_one (ps_ret (pe_tup (pa_cons pe_str (pa_cons (pe_cal c_l_some_word hr (by omega) rfl pass0 (pa_cons (pv 0) pa_nil)) (pa_cons (pe_cal c_l_free hr (by omega) rfl pass0 (pa_cons (pv 0) (pa_cons (pe_op op_sub (pv 1) pe_int) pa_nil))) pa_nil)))))) pss_nil)
    (pss_cons (ps_if (pt_cmpR op_eq (pv 2) pe_int (nomark _)) (pss_one (ps_ret (pe_tup (pa_cons pe_str (pa_cons (pe_cal c_l_some_word hr (by omega) rfl pass0 (pa_cons (pv 0) pa_nil)) (pa_cons (pe_cal c_l_free hr (by omega) rfl pass0 (pa_cons (pv 0) (pa_cons (pe_op op_sub (pv 1) pe_int) pa_nil))) (pa_cons (pe_cal c_l_free hr (by omega) rfl pass0 (pa_cons (pv 0) (pa_cons (pe_op op_sub (pv 1) pe_int) pa_nil))) pa_nil))))))) pss_nil)
    (pss_cons (ps_if (pt_cmpR op_eq (pv 2) pe_int (nomark _)) (pss_cons (ps_setLc (i := 3) (own := [(("_law_k" : Str), 6)]) (g := gName 6) rfl sc_l_free.nd rfl rfl (sw_true rfl rfl rfl (by decide +kernel)) (pi_range1 rfl T.b_range (pa_cons (pe_cal c_l_next hr (by omega) rfl pass0 (pa_cons (pv 0) (pa_cons pe_int pa_nil))) pa_nil)) (blkOk_by (own := [(("_law_k" : Str), 6)]) (N := n_l_free) (sc := defScope s_l_free) (by decide +kernel)) (fun _ _ _ _ _ => pg_name (i := 6) sc_l_free.nd rfl (by first | exact Or.inl rfl | exact Or.inr rfl)) (fun _ _ _ _ _ => pts_nil) (fun _ _ _ _ _ => (pe_tup (pa_cons (pe_cal c_l_free_pattern hr (by omega) rfl pass0 (pa_cons (pv 0) (pa_cons pe_int (pa_cons (pe_lst pa_nil) pa_nil)))) (pa_cons (pe_cal c_l_free hr (by omega) rfl pass0 (pa_cons (pv 0) (pa_cons (pe_op op_sub (pv 1) pe_int) pa_nil))) pa_nil)))))
    (pss_one (ps_ret (pe_tup (pa_cons pe_str (pa_cons (pe_cal c_l_free hr (by omega) rfl pass0 (pa_cons (pv 0) (pa_cons (pe_op op_sub (pv 1) pe_int) pa_nil))) (pa_cons (pe_callTy call_tuple_of rfl T.b_tuple (by decide +kernel) (pa_cons (pv 3) pa_nil)) pa_nil))))))) pss_nil)
    (pss_cons (ps_if (pt_cmpR op_lt (pv 2) pe_int (nomark _)) (pss_cut (ps_set (i := 4) sc_l_free.nd rfl (by first | exact Or.inl rfl | exact Or.inr rfl) (pe_ifExp (pt_cmpR op_eq (pv 2) pe_int (nomark _)) (pe_op op_add pe_int (pe_cal c_l_next hr (by omega) rfl pass0 (pa_cons (pv 0) (pa_cons pe_int pa_nil)))) pe_int))
    (pss_one (ps_ret (pe_op op_catT (pe_tup (pa_cons pe_str (pa_cons (pe_cal c_l_some_name hr (by omega) rfl pass0 (pa_cons (pv 0) (pa_cons (pv 4) pa_nil))) pa_nil))) (pe_callTy call_tuple_of rfl T.b_tuple (by decide +kernel) (pa_cons (pe_lc (own := [(("_law_k" : Str), 6)]) (g := gName 6) rfl sc_l_free.nd (pi_range1 rfl T.b_range (pa_cons (pv 4) pa_nil)) (blkOk_by (own := [(("_law_k" : Str), 6)]) (N := n_l_free) (sc := defScope s_l_free) (by decide +kernel)) (fun _ _ _ _ _ => pg_name (i := 6) sc_l_free.nd rfl (by first | exact Or.inl rfl | exact Or.inr rfl)) (fun _ _ _ _ _ => pts_nil) (fun _ _ _ _ _ => (pe_cal c_l_free hr (by omega) rfl pass0 (pa_cons (pv 0) (pa_cons (pe_op op_sub (pv 1) pe_int) pa_nil))))) pa_nil)))))) pss_nil)
    (pss_cons (ps_if (pt_cmpR op_lt (pv 2) pe_int (nomark _)) (pss_cons (ps_set (i := 5) sc_l_free.nd rfl (by first | exact Or.inl rfl | exact Or.inr rfl) (pe_cal c_l_one hr (by omega) rfl pass0 (pa_cons (pv 0) (pa_cons (pe_lst (pa_cons pe_str (pa_cons pe_str (pa_cons pe_str (pa_cons pe_str (pa_cons pe_str pa_nil)))))) pa_nil))))
    (pss_one (ps_ret (pe_tup (pa_cons pe_str (pa_cons (pv 5) (pa_cons (pe_cal c_l_free hr (by omega) rfl pass0 (pa_cons (pv 0) (pa_cons (pe_op op_sub (pv 1) pe_int) pa_nil))) (pa_cons (pe_cal c_l_free hr (by omega) rfl pass0 (pa_cons (pv 0) (pa_cons (pe_op op_sub (pv 1) pe_int) pa_nil))) pa_nil)))))))) pss_nil)
    (pss_one (ps_ret (pe_tup (pa_cons pe_str (pa_cons (pe_cal c_l_free hr (by omega) rfl pass0 (pa_cons (pv 0) (pa_cons (pe_op op_sub (pv 1) pe_int) pa_nil))) (pa_cons (pe_cal c_l_free hr (by omega) rfl pass0 (pa_cons (pv 0) (pa_cons (pe_op op_sub (pv 1) pe_int) pa_nil))) pa_nil))))))))))))))), ?_⟩
    refine ⟨_, rfl, _, rfl, _, _, rfl, rfl, .inr ⟨_, rfl, _, _, rfl, rfl, .inl ⟨by decide, by decide⟩, _, _, rfl, rfl, dr, _, rfl, hd, ?_, ?_, fun r H1 r0 r1 b1 d1 => ?_⟩⟩
    · split <;> omega
    · split <;> omega
    have hway : 4 ≤ r → ∃ dd, jj = dd + 1 := fun h => by
      cases jj with
      | zero => exact absurd r1 (by simpa using h)
      | succ d => exact ⟨d, rfl⟩
    have eqi : ∀ {a b : Int}, decide (V.int a = V.int b) = true → a = b := fun h => V.int.inj (of_decide_eq_true h)
    -- way 0
    refine ⟨_, rfl, rfl, _, rfl, ite2 (fun _ => ?_) (fun _ => ?_)⟩
    · refine ⟨_, rfl, dr, rfl, d1, fun i H2 hi b2 d2 => ⟨small_sz (by simp), fun p hp => ?_⟩⟩
      exact q (.ref p) 1 false _ ((b1.trans b2).trans (But.new hp)) (d2.new hp) (.num upd_same hi)
    -- way 1
    refine ⟨_, rfl, rfl, _, rfl, ite2 (fun _ => ?_) (fun _ => ?_)⟩
    · refine tup1 v_c _ fun p H3 e3 hp => ?_
      exact q (.ref p) 1 false _ (b1.trans ((ex_but.mp e3).mono (by simp))) (d1.ex e3) (.hole hp)
    -- way 2
    refine ⟨_, rfl, rfl, _, rfl, ite2 (fun _ => ?_) (fun _ => ?_)⟩
    · refine ⟨_, rfl, dr, rfl, d1, fun z H2 hz b2 d2 => ⟨small_sz (by simp), fun p hp => ?_⟩⟩
      exact q (.ref p) 1 false _ ((b1.trans b2).trans (But.new hp)) (d2.new hp) (.word upd_same hz)
    -- way 4: fun
    refine ⟨_, rfl, rfl, _, rfl, ite2 (fun h4 => ?_) (fun _ => ?_)⟩
    · have := eqi h4
      obtain ⟨dd, rfl⟩ := hway (by omega)
      refine ⟨_, rfl, dr, rfl, d1, fun z H2 hz b2 d2 => ?_⟩
      refine ⟨_, rfl, _, rfl, _, _, rfl, rfl, dr, dd, V.nat_sub2, (by omega), d2, fun v n m H3 b3 d3 g3 => ⟨small_sz (by simp), fun p hp => ?_⟩⟩
      exact q (.ref p) _ _ _ (((b1.trans b2).trans b3).trans (But.new hp)) (d3.new hp) (.fn upd_same hz (g3.mono (Tups.new hp)))
    -- way 5: let
    refine ⟨_, rfl, rfl, _, rfl, ite2 (fun h5 => ?_) (fun _ => ?_)⟩
    · have := eqi h5
      obtain ⟨dd, rfl⟩ := hway (by omega)
      refine ⟨_, rfl, dr, rfl, d1, fun z H2 hz b2 d2 => ?_⟩
      refine ⟨_, rfl, _, rfl, _, _, rfl, rfl, dr, dd, V.nat_sub2, (by omega), d2, fun v n m H3 b3 d3 g3 => ?_⟩
      refine ⟨_, rfl, _, rfl, _, _, rfl, rfl, dr, dd, V.nat_sub2, (by omega), d3, fun v' n' m' H4 b4 d4 g4 => ⟨small_sz (by simp), fun p hp => ?_⟩⟩
      exact q (.ref p) _ _ _ ((((b1.trans b2).trans b3).trans b4).trans (But.new hp)) (d4.new hp) (.lt upd_same hz (g3.mono ((d3.tups b4).trans (Tups.new hp))) (g4.mono (Tups.new hp)))
    -- way 6: match
    refine ⟨_, rfl, rfl, _, rfl, ite2 (fun h6 => ?_) (fun _ => ?_)⟩
    · have := eqi h6
      obtain ⟨dd, rfl⟩ := hway (by omega)
      refine ⟨_, rfl, dr, 4, rfl, d1, by decide, by decide, fun k H2 k0 k1 b2 d2 => ⟨k, rfl, by omega, by omega, fun D hD => ?_⟩⟩
      obtain ⟨k, rfl⟩ := Int.eq_ofNat_of_zero_le k0
      have hDd : D ≠ dr := d2.ne hD
      refine lc_range (lo := 0) (n := ((k : Nat) : Int).toNat) (fun i H' => ∃ (rows : List (Addr × (V × Nat) × (V × Nat × Bool))), But [dr] H2 H' ∧ DrI H' dr ∧ H' D = some (.lst (rows.map fun t => V.ref t.1)) ∧ rows.length = i ∧ (∀ t, t ∈ rows → H' t.1 = some (.tup [t.2.1.1, t.2.2.1])) ∧
        (∀ t, t ∈ rows → IsP H' 2 t.2.1.2 t.2.1.1) ∧ (∀ t, t ∈ rows → IsG H' dd t.2.2.2.1 t.2.2.2.2 t.2.2.1)) ?_ ?_ ?_
      · exact ⟨[], But.new hD, d2.new hD, upd_same, rfl, fun t ht => by simp at ht, fun t ht => by simp at ht, fun t ht => by simp at ht⟩
      · rintro i H' hi ⟨rows, b', d', hDl, hrl, h1, h2, h3⟩
        have hi3 : i < k := by simpa using hi
        have hk4 : (k : Int) < 4 := k1
        refine ⟨rfl, yes_i ?_⟩
        refine ⟨_, rfl, small_sz (by simp), fun tk htk => ⟨dr, tk, [], rfl, d'.new htk, upd_same, by decide, by decide, fun v n H3 ts3 b3 d3 htk3 _ hp3 => ?_⟩⟩
        have b3' : But [dr] H' H3 := ((But.new htk).trans b3).swap htk
        have t3 := d'.tups b3'
        refine ⟨_, rfl, _, rfl, _, _, rfl, rfl, dr, dd, V.nat_sub2, (by omega), d3, fun v' n' m' H4 b4 d4 g4 => ⟨small_sz (by simp), fun p hp => ?_⟩⟩
        have e5 := Ex.new (o := .tup [v, v']) hp
        have b45 : But [dr] H' (upd H4 p (.tup [v, v'])) := (b3'.trans b4).trans (But.new hp)
        have hD5 := b45 D _ (by simpa using hDd) hDl
        have t5 : Tups H4 (upd (upd H4 p (.tup [v, v'])) D (.lst ((rows.map fun t => V.ref t.1) ++ [.ref p]))) := (Ex.tups e5).trans (Tups.lst hD5)
        have t35 := (d3.tups b4).trans t5
        have t05 := t3.trans t35
        refine ⟨_, hD5, small_lt (by rw [List.length_map]; omega), rows ++ [(p, (v, n), (v', n', m'))], (b'.trans b45).free hD, ?_, by rw [upd_same, List.map_append]; rfl, by rw [List.length_append, hrl]; rfl, fun t ht => ?_, fun t ht => ?_, fun t ht => ?_⟩
        · obtain ⟨x, y, z, hx⟩ := d4.ex e5
          exact ⟨x, y, z, by rw [upd_ne hDd.symm]; exact hx⟩
        · rcases List.mem_append.mp ht with ht | ht
          · exact t05 _ _ (h1 t ht)
          · rw [List.mem_singleton.mp ht]; exact Tups.lst hD5 _ _ upd_same
        · rcases List.mem_append.mp ht with ht | ht
          · exact (h2 t ht).mono t05
          · rw [List.mem_singleton.mp ht]; exact hp3.mono t35
        · rcases List.mem_append.mp ht with ht | ht
          · exact (h3 t ht).mono t05
          · rw [List.mem_singleton.mp ht]; exact g4.mono t5
      · rintro H' ⟨rows, b', d', hDl, hrl, h1, h2, h3⟩
        have hrl : rows.length = k := by simpa using hrl
        have hk4 : (k : Int) < 4 := k1
        refine ⟨_, rfl, _, rfl, _, _, rfl, rfl, dr, dd, V.nat_sub2, (by omega), d', fun v n m H3 b3 d3 g3 => ?_⟩
        have hD3 := b3 D _ (by simpa using hDd) hDl
        refine ⟨_, rfl, D, _, rfl, .inl ⟨SqL.of hD3, fun l hl => ⟨small_sz (by simp), fun p hp => ?_⟩⟩⟩
        have e4 := (Ex.new (o := .tup (rows.map fun t => V.ref t.1)) hl).trans (Ex.new (o := .tup [.str "match", v, .ref l]) hp)
        have t4 := Ex.tups e4
        have t34 := (d'.tups b3).trans t4
        exact q (.ref p) _ _ _ (((((b1.trans b2).trans b').trans b3)).trans ((ex_but.mp e4).mono (by simp))) (d3.ex e4) (.mt upd_same (g3.mono t4) ((Ex.new hp) _ _ upd_same) (fun t ht => t34 _ _ (h1 t ht)) (fun t ht => (h2 t ht).mono t34) (fun t ht => (h3 t ht).mono t34) (by omega))
    -- way < 8: make
    refine ⟨_, rfl, _, _, rfl, rfl, _, rfl, ite2 (fun h8 => ?_) (fun h8 => ?_)⟩
    · refine ⟨fun σ3 H3 => ∃ (j : Nat), σ3 = [some (.ref dr), some (.int (jj : Int)), some (.int r), none, some (.int (j : Int)), none, none] ∧ But [dr] H H3 ∧ DrI H3 dr ∧ j ≤ 3 ∧ (0 < j → ∃ d', jj = d' + 1), ?_, ?_⟩
      · refine ⟨_, rfl, rfl, _, rfl, ite2 (fun h7 => ?_) (fun _ => ⟨0, rfl, b1, d1, by omega, fun h => by omega⟩)⟩
        have := eqi h7
        refine ⟨_, rfl, dr, 3, rfl, d1, by decide, by decide, fun k H3 k0 k1 b3 d3 => ?_⟩
        obtain ⟨k, rfl⟩ := Int.eq_ofNat_of_zero_le k0
        exact ⟨_, _, rfl, rfl, 1 + k, by push_cast; rfl, b1.trans b3, d3, by omega, fun _ => hway (by omega)⟩
      rintro σ3 H3 ⟨j, rfl, b3, d3, hj3, hjd⟩
      refine ⟨_, rfl, _, rfl, dr, j, rfl, hj3, d3, fun z H4 hz b4 d4 => ⟨small_sz (by simp), fun p hp => ?_⟩⟩
      have e5 := Ex.new (o := .tup [.str "make", .str z]) hp
      have d5 := d4.ex e5
      refine ⟨_, rfl, (j : Int), rfl, by omega, by omega, fun D hD => ?_⟩
      have hDd : D ≠ dr := d5.ne hD
      refine lc_range (lo := 0) (n := ((j : Nat) : Int).toNat) (fun i H' => ∃ (cs : List (V × Nat × Bool)), But [dr] (upd H4 p (.tup [.str "make", .str z])) H' ∧ DrI H' dr ∧ H' D = some (.lst (cs.map (·.1))) ∧ cs.length = i ∧ ∀ c, c ∈ cs → IsG H' (jj - 1) c.2.1 c.2.2 c.1) ?_ ?_ ?_
      · exact ⟨[], But.new hD, d5.new hD, upd_same, rfl, fun t ht => by simp at ht⟩
      · rintro i H' hi ⟨cs, b', d', hDl, hcl, hcs⟩
        have hij : i < j := by simpa using hi
        obtain ⟨dd, rfl⟩ := hjd (by omega)
        have hdd : dd + 1 - 1 = dd := rfl
        rw [hdd] at hcs
        refine ⟨rfl, yes_i ?_⟩
        refine ⟨_, rfl, _, rfl, _, _, rfl, rfl, dr, dd, V.nat_sub2, (by omega), d', fun v n m H6 b6 d6 g6 => ?_⟩
        have hD6 := b6 D _ (by simpa using hDd) hDl
        have t7 : Tups H6 (upd H6 D (.lst (cs.map (·.1) ++ [v]))) := Tups.lst hD6
        refine ⟨_, hD6, small_lt (by rw [List.length_map]; omega), cs ++ [(v, n, m)], (b'.trans b6).free hD, ?_, by rw [upd_same, List.map_append]; rfl, by rw [List.length_append, hcl]; rfl, fun c hc => ?_⟩
        · obtain ⟨x, y, z, hx⟩ := d6
          exact ⟨x, y, z, by rw [upd_ne hDd.symm]; exact hx⟩
        · rcases List.mem_append.mp hc with hc | hc
          · exact (hcs c hc).mono ((d'.tups b6).trans t7)
          · rw [List.mem_singleton.mp hc]; exact g6.mono t7
      · rintro H' ⟨cs, b', d', hDl, hcl, hcs⟩
        have hcl : cs.length = j := by simpa using hcl
        refine ⟨D, _, rfl, .inl ⟨SqL.of hDl, fun l hl => ?_⟩⟩
        have e7 := Ex.new (o := .tup (cs.map (·.1))) hl
        have hp7 := e7 _ _ (b' p _ (by simpa using d4.ne hp) upd_same)
        have b7 : But [dr] H _ := (((b3.trans b4).trans (But.new hp)).trans b').trans ((ex_but.mp e7).mono (by simp))
        refine ⟨p, l, _, _, rfl, rfl, SqT.of hp7, SqT.of upd_same, by simp, small_sz (by rw [List.length_map]; simp; omega), fun hnil => ?_, fun hne p2 hp2 => ?_⟩
        · exact q (.ref p) 1 true _ b7 (d'.ex e7) (.mk0 hp7 hz)
        · have hcn : cs ≠ [] := fun e => hne (by rw [e]; rfl)
          have hj0 : 0 < j := by rw [← hcl]; exact List.length_pos_iff.mpr hcn
          obtain ⟨dd, rfl⟩ := hjd hj0
          have e8 := Ex.new (o := .tup ([.str "make", .str z] ++ cs.map (·.1))) hp2
          exact q (.ref p2) _ _ _ (b7.trans ((ex_but.mp e8).mono (by simp))) ((d'.ex e7).ex e8) (.mk upd_same hz hcn (by omega) fun c hc => (hcs c hc).mono ((Ex.tups e7).trans (Ex.tups e8)))
    have h8' : ¬ r < 8 := fun c => h8 (decide_eq_true c)
    obtain ⟨dd, rfl⟩ := hway (by omega)
    -- way < 11: op
    refine ⟨_, rfl, _, _, rfl, rfl, _, rfl, ite2 (fun _ => ?_) (fun _ => ?_)⟩
    · refine one_new rfl d1 (xs := [("+" : Str), "-", "*", "<", "="].map V.str) (by simp) (by simp) (fun Q hQ => ⟨small_sz (by simp), hQ⟩) fun x H2 hx b2 d2 => ?_
      obtain ⟨z, hz, rfl⟩ := List.mem_map.mp hx
      refine ⟨_, rfl, ?_⟩
      refine ⟨_, rfl, _, rfl, _, _, rfl, rfl, dr, dd, V.nat_sub2, (by omega), d2, fun v n m H3 b3 d3 g3 => ?_⟩
      refine ⟨_, rfl, _, rfl, _, _, rfl, rfl, dr, dd, V.nat_sub2, (by omega), d3, fun v' n' m' H4 b4 d4 g4 => ⟨small_sz (by simp), fun p hp => ?_⟩⟩
      exact q (.ref p) _ _ _ ((((b1.trans b2).trans b3).trans b4).trans (But.new hp)) (d4.new hp) (.op upd_same hz (g3.mono ((d3.tups b4).trans (Tups.new hp))) (g4.mono (Tups.new hp)))
    · refine ⟨_, rfl, _, rfl, _, _, rfl, rfl, dr, dd, V.nat_sub2, (by omega), d1, fun v n m H3 b3 d3 g3 => ?_⟩
      refine ⟨_, rfl, _, rfl, _, _, rfl, rfl, dr, dd, V.nat_sub2, (by omega), d3, fun v' n' m' H4 b4 d4 g4 => ⟨small_sz (by simp), fun p hp => ?_⟩⟩
      exact q (.ref p) _ _ _ (((b1.trans b3).trans b4).trans (But.new hp)) (d4.new hp) (.call upd_same (g3.mono ((d3.tups b4).trans (Tups.new hp))) (g4.mono (Tups.new hp)))
end
end Sh
set_option Elab.async false
set_option linter.all false
set_option maxRecDepth 100000
set_option maxHeartbeats 4000000
namespace Sh
open PySem PySem.Spec PyProof.Rows L2 Evl
/-- an expression or a pattern -/
def IsQ (H : Hp) (D n : Nat) (v : V) : Prop := (∃ d m, d + 3 ≤ D ∧ IsG H d n m v) ∨ ∃ d, d ≤ D ∧ IsP H d n v
theorem IsQ.mono {H H' : Hp} (t : Tups H H') {D n : Nat} {v : V} (h : IsQ H D n v) : IsQ H' D n v := by
  rcases h with ⟨d, m, h1, h2⟩ | ⟨d, h1, h2⟩
  · exact .inl ⟨d, m, h1, h2.mono t⟩
  · exact .inr ⟨d, h1, h2.mono t⟩
def kOf (w : Str) : Nat := if w = ("fun" : Str) then 2 else if w = ("call" : Str) then 1 else if w = ("let" : Str) then 2 else if w = ("op" : Str) then 2 else 9
def kvI : List (Key × V) := [(.inr ("fun" : Str), .int 2), (.inr ("call" : Str), .int 1), (.inr ("let" : Str), .int 2), (.inr ("op" : Str), .int 2)]
def kWs : List Str := ["number", "hole", "word", "any", "fun", "call", "let", "op"]
theorem kvI_ok : ∀ w ∈ kWs, (valV (mergeK [] kvI) (.inr w)).getD (.int 9) = .int (kOf w : Nat) ∧ 0 < kOf w ∧ w ≠ ("make" : Str) ∧ w ≠ ("match" : Str) := by decide +kernel
/-- what the children are -/
def Kids (H : Hp) (D n : Nat) (cs : List (V × Nat)) : Prop := n = 1 + (cs.map (·.2)).sum ∧ cs.length ≤ 7 ∧ ∀ c, c ∈ cs → ∃ D', D = D' + 1 ∧ IsQ H D' c.2 c.1
theorem cut_ne {xs : List V} {k : Nat} (hk : 0 < k) (hl : xs ≠ []) : ¬ (HT.sIx xs.length 0 (some (k : Int)) = 0 ∧ HT.sIx xs.length xs.length none = xs.length) := by
  have hp : 0 < xs.length := List.length_pos_iff.mpr hl
  rw [HT.sIx_nat, HT.sIx_none]; omega
theorem cut_eq2 {xs : List V} {k : Nat} : cutV xs (some (k : Int)) none = xs.drop k := by
  unfold cutV
  rw [HT.sIx_nat, HT.sIx_none]
  by_cases hkl : k ≤ xs.length
  · rw [Nat.min_eq_left hkl]
    exact List.take_of_length_le (by rw [List.length_drop]; omega)
  · rw [Nat.min_eq_right (by omega), List.drop_eq_nil_of_le (Nat.le_refl _), List.drop_eq_nil_of_le (by omega)]; simp
/-- what the cut is -/
theorem cut_tup {K : PySem.W.Frag} {H : Hp} {a : Addr} {xs ys : List V} {k : Nat} (h : SqT K H a xs) (hk : 0 < k) (hl : xs ≠ []) (e : xs.drop k = ys) :
    ∃ zs, SqT K H a zs ∧ ¬ (HT.sIx zs.length 0 (some (k : Int)) = 0 ∧ HT.sIx zs.length zs.length none = zs.length) ∧ cutV zs (some (k : Int)) none = ys := ⟨xs, h, cut_ne hk hl, by rw [cut_eq2, e]⟩
theorem inner_cases {H : Hp} {D n : Nat} {v : V} (h : IsQ H D n v) : ∃ (a : Addr) (w : Str) (r : List V), v = .ref a ∧ H a = some (.tup (.str w :: r)) ∧
    ((w = ("make" : Str) ∧ ∃ z cs, r = .str z :: cs.map (·.1) ∧ Kids H D n cs) ∨
     (w = ("match" : Str) ∧ ∃ e rr ne, ∃ rows : List (Addr × (V × Nat) × (V × Nat × Bool)), r = [e, .ref rr] ∧ H rr = some (.tup (rows.map fun t => V.ref t.1)) ∧ (∀ t, t ∈ rows → H t.1 = some (.tup [t.2.1.1, t.2.2.1])) ∧ rows.length ≤ 3 ∧
        Kids H D n ((e, ne) :: (rows.map fun t => [(t.2.1.1, t.2.1.2), (t.2.2.1, t.2.2.2.1)]).flatten)) ∨
     (w ∈ kWs ∧ ∃ cs : List (V × Nat), (V.str w :: r).drop (kOf w) = cs.map (·.1) ∧ Kids H D n cs)) := by
  have leaf : Kids H D 1 [] := ⟨rfl, by simp, fun c hc => by simp at hc⟩
  rcases h with ⟨d, m, h1, h2⟩ | ⟨d, h1, h2⟩
  · cases h2 with
    | num h _ => exact ⟨_, _, _, rfl, h, .inr (.inr ⟨by decide +kernel, [], by rw [show kOf "number" = 9 from by decide +kernel]; rfl, leaf⟩)⟩
    | hole h => exact ⟨_, _, _, rfl, h, .inr (.inr ⟨by decide +kernel, [], by rw [show kOf "hole" = 9 from by decide +kernel]; rfl, leaf⟩)⟩
    | word h _ => exact ⟨_, _, _, rfl, h, .inr (.inr ⟨by decide +kernel, [], by rw [show kOf "word" = 9 from by decide +kernel]; rfl, leaf⟩)⟩
    | mk0 h _ => exact ⟨_, _, _, rfl, h, .inl ⟨rfl, _, [], rfl, leaf⟩⟩
    | @fn a d n m z e h _ g => exact ⟨_, _, _, rfl, h, .inr (.inr ⟨by decide +kernel, [(e, n)], by rw [show kOf "fun" = 2 from by decide +kernel]; rfl, by simp, by simp, fun c hc => by
        rw [List.mem_singleton.mp hc]; exact ⟨D - 1, by omega, .inl ⟨d, m, by omega, g⟩⟩⟩)⟩
    | @lt a d n n' m m' z e f h _ g g' => exact ⟨_, _, _, rfl, h, .inr (.inr ⟨by decide +kernel, [(e, n), (f, n')], by rw [show kOf "let" = 2 from by decide +kernel]; rfl, by simp, by simp, fun c hc => by
        rcases List.mem_cons.mp hc with rfl | hc
        · exact ⟨D - 1, by omega, .inl ⟨d, m, by omega, g⟩⟩
        · rw [List.mem_singleton.mp hc]; exact ⟨D - 1, by omega, .inl ⟨d, m', by omega, g'⟩⟩⟩)⟩
    | @op a d n n' m m' z e f h _ g g' => exact ⟨_, _, _, rfl, h, .inr (.inr ⟨by decide +kernel, [(e, n), (f, n')], by rw [show kOf "op" = 2 from by decide +kernel]; rfl, by simp, by simp, fun c hc => by
        rcases List.mem_cons.mp hc with rfl | hc
        · exact ⟨D - 1, by omega, .inl ⟨d, m, by omega, g⟩⟩
        · rw [List.mem_singleton.mp hc]; exact ⟨D - 1, by omega, .inl ⟨d, m', by omega, g'⟩⟩⟩)⟩
    | @call a d n n' m m' e f h g g' => exact ⟨_, _, _, rfl, h, .inr (.inr ⟨by decide +kernel, [(e, n), (f, n')], by rw [show kOf "call" = 1 from by decide +kernel]; rfl, by simp, by simp, fun c hc => by
        rcases List.mem_cons.mp hc with rfl | hc
        · exact ⟨D - 1, by omega, .inl ⟨d, m, by omega, g⟩⟩
        · rw [List.mem_singleton.mp hc]; exact ⟨D - 1, by omega, .inl ⟨d, m', by omega, g'⟩⟩⟩)⟩
    | @mk a d z cs h _ _ h3 g => exact ⟨_, _, _, rfl, h, .inl ⟨rfl, z, cs.map fun c => (c.1, c.2.1), by rw [List.map_map]; rfl, by rw [List.map_map]; rfl, by rw [List.length_map]; omega, fun c hc => by
        obtain ⟨c', hc', rfl⟩ := List.mem_map.mp hc
        exact ⟨D - 1, by omega, .inl ⟨d, c'.2.2, by omega, g c' hc'⟩⟩⟩⟩
    | @mt a r d n m e rows h g h3 h4 h5 h6 h7 => exact ⟨_, _, _, rfl, h, .inr (.inl ⟨rfl, e, r, n, rows, rfl, h3, h4, h7, by
        have : ((rows.map fun t => [(t.2.1.1, t.2.1.2), (t.2.2.1, t.2.2.2.1)]).flatten.map (·.2)).sum = (rows.map fun t => t.2.1.2 + t.2.2.2.1).sum := by
          clear h3 h4 h5 h6 h7
          induction rows with
          | nil => rfl
          | cons t r ih => simp only [List.map_cons, List.flatten_cons, List.map_append, List.sum_append, List.sum_cons, List.map_nil, List.sum_nil, ih]; omega
        rw [List.map_cons, List.sum_cons, this], by
        have : (rows.map fun t => [(t.2.1.1, t.2.1.2), (t.2.2.1, t.2.2.2.1)]).flatten.length = 2 * rows.length := by
          clear h3 h4 h5 h6 h7
          induction rows with
          | nil => rfl
          | cons t r ih => simp only [List.map_cons, List.flatten_cons, List.length_append, List.length_cons, List.length_nil, ih]; omega
        rw [List.length_cons, this]; omega, fun c hc => by
        rcases List.mem_cons.mp hc with rfl | hc
        · exact ⟨D - 1, by omega, .inl ⟨d, m, by omega, g⟩⟩
        · obtain ⟨l, hl, hc⟩ := List.mem_flatten.mp hc
          obtain ⟨t, ht, rfl⟩ := List.mem_map.mp hl
          rcases List.mem_cons.mp hc with rfl | hc
          · exact ⟨D - 1, by omega, .inr ⟨2, by omega, h5 t ht⟩⟩
          · rw [List.mem_singleton.mp hc]; exact ⟨D - 1, by omega, .inl ⟨d, _, by omega, h6 t ht⟩⟩⟩)⟩
  · cases h2 with
    | any h => exact ⟨_, _, _, rfl, h, .inr (.inr ⟨by decide +kernel, [], by rw [show kOf "any" = 9 from by decide +kernel]; rfl, leaf⟩)⟩
    | word h _ => exact ⟨_, _, _, rfl, h, .inr (.inr ⟨by decide +kernel, [], by rw [show kOf "word" = 9 from by decide +kernel]; rfl, leaf⟩)⟩
    | mk0 h _ => exact ⟨_, _, _, rfl, h, .inl ⟨rfl, _, [], rfl, leaf⟩⟩
    | @mk a d z cs h _ h3 g => exact ⟨_, _, _, rfl, h, .inl ⟨rfl, z, cs, rfl, rfl, by omega, fun c hc => ⟨D - 1, by omega, .inr ⟨d, by omega, g c hc⟩⟩⟩⟩
theorem Kids.mono {H H' : Hp} (t : Tups H H') {D n : Nat} {cs : List (V × Nat)} (h : Kids H D n cs) : Kids H' D n cs := ⟨h.1, h.2.1, fun c hc => by
  obtain ⟨D', e, q⟩ := h.2.2 c hc
  exact ⟨D', e, q.mono t⟩⟩
def spInner : Sp := fun vs H Q _ => ∃ (v : V) (D n : Nat), vs = [v] ∧ IsQ H D n v ∧ ∀ (p : Addr) (H' : Hp) (cs : List (V × Nat)), Ex H H' → H p = none → H' p = some (.lst (cs.map (·.1))) → Kids H' D n cs → Q (.ref p) H'
def spSizeD (E : Nat) : Sp := fun vs H Q _ => ∃ (v : V) (D n : Nat), vs = [v] ∧ D < E ∧ IsQ H D n v ∧ ∀ (H' : Hp), Ex H H' → Q (.int (n : Int)) H'
def spHighD (E : Nat) : Sp := fun vs H Q _ => ∃ (v : V) (D n : Nat), vs = [v] ∧ D < E ∧ IsQ H D n v ∧ ∀ (h : Int) (H' : Hp), Ex H H' → Q (.int h) H'
def spProg : Sp := fun vs H Q _ => ∃ dr : Addr, vs = [.ref dr, .int 10] ∧ DrI H dr ∧ ∀ (v : V) (d n : Nat) (m : Bool) (H' : Hp), But [dr] H H' → DrI H' dr → d ≤ 5 → n ≤ 10 → IsG H' d n m v → Q v H'
section
variable {P : Program} {w : World} {K : PySem.W.Frag} {mg : Str → Option Value} {base : Heap}
abbrev n_l_inner : List Str := ["_law_value", "_law_word", "_law_found", "_law_pattern", "_law_part"]
theorem sc_l_inner : FnScope n_l_inner ["_law_value"] (defScope s_l_inner) := ⟨rfl, rfl, rfl, by decide +kernel, rfl, by decide +kernel, by decide +kernel⟩
theorem ok_l_inner (T : Txt K mg w) : Cal P w K mg base CX0 1 "_law_inner" ["_law_value"] spInner := by
  refine ⟨ok0 T.f_l_inner sc_l_inner (fun vs H Q E h => ?_) (fun _ _ _ _ _ _ us hl => match us, hl with | [_], _ => rfl) (fun cdv A outer s H vs Q E hr h => ?_), kpOf T.f_l_inner, T.g_l_inner⟩
  · obtain ⟨v, D, n, rfl, _⟩ := h; rfl
  obtain ⟨v, D, n, rfl, hv, q⟩ := h
  refine ⟨_, (pss_cons (ps_set (i := 1) sc_l_inner.nd rfl (by first | exact Or.inl rfl | exact Or.inr rfl) (pe_ix ix_tup (pv 0) pe_int (fun _ _ => rfl)))
    (pss_cons (ps_if (pt_cmpR op_eq (pv 1) pe_str (nomark _)) (pss_one (ps_ret (pe_callTy call_list_of rfl T.b_list (by decide +kernel) (pa_cons (pe_slice sl_tup (pv 0) (po_some pe_int) po_none) pa_nil)))) pss_nil)
    (pss_cons (ps_if (pt_cmpR op_eq (pv 1) pe_str (nomark _)) (pss_cons (ps_set (i := 2) sc_l_inner.nd rfl (by first | exact Or.inl rfl | exact Or.inr rfl) (pe_lst (pa_cons (pe_ix ix_tup (pv 0) pe_int (fun _ _ => rfl)) pa_nil)))
    (pss_cons (ps_for PassesOwn.never rfl (pi_seq (pe_ix ix_tup (pv 0) pe_int (fun _ _ => rfl))) (pg_tup rfl (pgs_cons (pg_name (i := 3) sc_l_inner.nd rfl (by first | exact Or.inl rfl | exact Or.inr rfl)) (pgs_cons (pg_name (i := 4) sc_l_inner.nd rfl (by first | exact Or.inl rfl | exact Or.inr rfl)) pgs_nil))) (pss_one (ps_expr (pe_bm PySem.F.plainAttrs_list PySem.F.slot_list_extend PySem.F.type_list_extend mt_extend (pv 2) (pa_cons (pe_lst (pa_cons (pv 3) (pa_cons (pv 4) pa_nil))) pa_nil)))))
    (pss_one (ps_ret (pv 2))))) pss_nil)
    (pss_one (ps_ret (pe_callTy call_list_of rfl T.b_list (by decide +kernel) (pa_cons (pe_slice sl_tup (pv 0) (po_some (pe_dget2 (hu_of hr) (pe_disp (pps_cons pe_str pe_int (pps_cons pe_str pe_int (pps_cons pe_str pe_int (pps_cons pe_str pe_int pps_nil)))) (by rfl) (by rfl) (fun z => by cases z) (by decide)) (pv 1) pe_int ⟨rfl, rfl, rfl, rfl⟩)) po_none) pa_nil))))))), ?_⟩
  obtain ⟨a, wd, r, rfl, ha, hc⟩ := inner_cases hv
  refine ⟨_, rfl, a, _, _, .str wd, rfl, rfl, SqT.of ha, atI_nat (j := 0) rfl, ?_⟩
  rcases hc with ⟨rfl, z, cs, rfl, hk⟩ | ⟨rfl, e, rr, ne, rows, rfl, h3, h4, h7, hk⟩ | ⟨hw, cs, hcs, hk⟩
  · refine ⟨_, rfl, rfl, _, rfl, ite_nm (fun _ => ?_) (fun h => absurd rfl h)⟩
    obtain ⟨zs, z1, z2, z3⟩ := cut_tup (K := K) (k := 2) (ys := cs.map (·.1)) (SqT.of ha) (by decide) (by simp) rfl
    refine ⟨_, rfl, _, rfl, a, zs, rfl, z1, z2, fun p hp => ?_⟩
    rw [show cutV zs (some 2) none = cs.map (·.1) from z3]
    have e1 := Ex.new (o := .tup (cs.map (·.1))) hp
    refine ⟨p, _, rfl, .inr (SqT.of upd_same), fun l hl => ?_⟩
    have e2 := e1.trans (Ex.new (o := .lst (cs.map (·.1))) hl)
    exact q l _ cs e2 (fresh_back e1 hl) upd_same (hk.mono (Ex.tups e2))
  · refine ⟨_, rfl, rfl, _, rfl, ite_nm (fun h => absurd h (by decide +kernel)) (fun _ => ?_)⟩
    refine ⟨_, rfl, rfl, _, rfl, ite_nm (fun _ => ?_) (fun h => absurd rfl h)⟩
    refine ⟨_, rfl, a, _, _, e, rfl, rfl, SqT.of ha, atI_nat (j := 1) rfl, small_sz (by simp), fun l hl => ?_⟩
    have e2 := Ex.new (o := .lst [e]) hl
    refine ⟨_, rfl, a, _, _, .ref rr, rfl, rfl, SqT.of (e2 _ _ ha), atI_nat (j := 2) rfl, rr, rfl, .inr ⟨⟨_, SqT.of (e2 _ _ h3)⟩, ?_⟩⟩
    refine for_tup (xs := rows.map fun t => V.ref t.1) (fun i σ H' => ∃ (o3 o4 : Option V), σ = [some (.ref a), some (.str "match"), some (.ref l), o3, o4] ∧ Ex H H' ∧ H' l = some (.lst (e :: ((rows.take i).map fun t => [t.2.1.1, t.2.2.1]).flatten))) ?_ ?_ ?_ ?_
    · exact ⟨_, _, rfl, e2, by rw [upd_same]; rfl⟩
    · rintro i σ H' _ ⟨o3, o4, rfl, ex, _⟩
      exact SqT.of (ex _ _ h3)
    · rintro i x σ H' hi ⟨o3, o4, rfl, ex, hacc⟩
      obtain ⟨t, ht, rfl⟩ : ∃ t, rows[i]? = some t ∧ x = .ref t.1 := by
        rw [List.getElem?_map] at hi
        cases e : rows[i]? with
        | none => rw [e] at hi; cases hi
        | some t => rw [e] at hi; exact ⟨t, rfl, (Option.some.inj hi).symm⟩
      have hm : t ∈ rows := List.mem_of_getElem? ht
      have hi' : i < rows.length := (List.getElem?_eq_some_iff.mp ht).1
      refine ⟨t.1, _, rfl, SqT.of (ex _ _ (h4 t hm)), rfl, _, _, rfl, _, _, rfl, rfl, ?_⟩
      refine ⟨_, rfl, tyL hacc, _, rfl, _, rfl, small_sz (by simp), fun b hb => ?_⟩
      have e3 := Ex.new (o := .lst [t.2.1.1, t.2.2.1]) hb
      have hlen : ∀ j, ((rows.take j).map fun t => [t.2.1.1, t.2.2.1]).flatten.length ≤ 2 * rows.length := fun j => by
        have : ∀ l : List (Addr × (V × Nat) × (V × Nat × Bool)), (l.map fun t => [t.2.1.1, t.2.2.1]).flatten.length = 2 * l.length := fun l => by
          induction l with
          | nil => rfl
          | cons t r ih => simp only [List.map_cons, List.flatten_cons, List.length_append, List.length_cons, List.length_nil, ih]; omega
        rw [this, List.length_take]; omega
      refine ⟨l, b, _, [t.2.1.1, t.2.2.1], rfl, rfl, e3 _ _ hacc, upd_same, small_sz (by have := hlen i; simp only [List.length_cons, List.length_nil]; omega), ?_⟩
      refine ⟨_, _, rfl, Ex.mut (ex.trans e3) hl, ?_⟩
      rw [upd_same, el_lcS.take_more ht, List.map_append, List.flatten_append]
      simp
    · rintro σ H' ⟨o3, o4, rfl, ex, hacc⟩
      rw [List.length_map, List.take_length] at hacc
      refine ⟨_, rfl, q l H' _ ex hl ?_ (hk.mono (Ex.tups ex))⟩
      rw [hacc, List.map_cons]
      have : (rows.map fun t => [t.2.1.1, t.2.2.1]).flatten = (rows.map fun t => [(t.2.1.1, t.2.1.2), (t.2.2.1, t.2.2.2.1)]).flatten.map (·.1) := by
        clear h3 h4 h7 hk hacc
        induction rows with
        | nil => rfl
        | cons t r ih => simp only [List.map_cons, List.flatten_cons, List.map_append, List.map_nil, ih]
      rw [this]
  · obtain ⟨k1, k2, k3, k4⟩ := kvI_ok wd hw
    refine ⟨_, rfl, rfl, _, rfl, ite_nm (fun h => absurd h k3) (fun _ => ?_)⟩
    refine ⟨_, rfl, rfl, _, rfl, ite_nm (fun h => absurd h k4) (fun _ => ?_)⟩
    refine ⟨_, rfl, fun p hp => ⟨upd_same, kvI, rfl, by decide, p, rfl, .inl ⟨_, .inl upd_same⟩, _, rfl, _, DGet.k (k := .inr wd) upd_same, ?_⟩⟩
    rw [k1]
    have e1 : Ex H (upd (upd H p (.dK [])) p (.dK (mergeK [] kvI))) := Ex.mut (Ex.new hp) hp
    obtain ⟨zs, z1, z2, z3⟩ := cut_tup (K := K) (ys := cs.map (·.1)) (SqT.of (e1 _ _ ha)) k2 (by simp) hcs
    refine ⟨_, rfl, a, zs, rfl, z1, z2, fun p2 hp2 => ?_⟩
    rw [z3] at *
    have e2 := e1.trans (Ex.new (o := .tup (cs.map (·.1))) hp2)
    refine ⟨p2, _, rfl, .inr (SqT.of upd_same), fun l hl => ?_⟩
    have e3 := e2.trans (Ex.new (o := .lst (cs.map (·.1))) hl)
    exact q l _ cs e3 (fresh_back e2 hl) upd_same (hk.mono (Ex.tups e3))
theorem sum_cast (l : List (V × Nat)) : (l.map fun c => (c.2 : Int)).sum = (((l.map (·.2)).sum : Nat) : Int) := by
  induction l with
  | nil => rfl
  | cons a l ih => rw [List.map_cons, List.sum_cons, ih, List.map_cons, List.sum_cons]; push_cast; rfl
abbrev n_l_size : List Str := ["_law_value", "_law_part"]
theorem sc_l_size : FnScope n_l_size ["_law_value"] (defScope s_l_size) := ⟨rfl, rfl, rfl, by decide +kernel, rfl, by decide +kernel, by decide +kernel⟩
theorem ok_l_size (T : Txt K mg w) : ∀ D : Nat, Cal P w K mg base CX0 (1 + D) "_law_size" ["_law_value"] (spSizeD D)
  | 0 => by
    obtain ⟨fd, F, b⟩ := ok_non (P := P) (w := w) (mg := mg) (base := base) (sp := spSizeD 0) T.f_l_size sc_l_size (fun _ _ _ _ _ _ us hl => match us, hl with | [_], _ => rfl) (fun vs H Q E ⟨_, D, _, _, h, _⟩ => by omega)
    exact (Cal.mk ⟨fd, F, b⟩ (kpOf T.f_l_size) T.g_l_size).up (by omega)
  | D0 + 1 => by
    have c_l_size : Cal P w K mg base _ _ _ _ _ := ok_l_size T D0
    have c_l_inner : Cal P w K mg base _ _ _ _ _ := ok_l_inner (P := P) (base := base) T
    refine ⟨ok0 (k := 1 + D0) T.f_l_size sc_l_size (fun vs H Q E h => ?_) (fun _ _ _ _ _ _ us hl => match us, hl with | [_], _ => rfl) (fun cdv A outer s H vs Q E hr h => ?_), kpOf T.f_l_size, T.g_l_size⟩
    · obtain ⟨v, D, n, rfl, _⟩ := h; rfl
    obtain ⟨v, D, n, rfl, hD0, hv, q⟩ := h
    refine ⟨_, (pss_one (ps_ret (pe_op op_add pe_int (pe_callB (cr_sum rfl) rfl T.b_sum (by decide +kernel) (pa_cons (pe_lc (own := [(("_law_part" : Str), 1)]) (g := gName 1) rfl sc_l_size.nd (pi_list (pe_cal c_l_inner hr (by omega) rfl pass0 (pa_cons (pv 0) pa_nil))) (blkOk_by (own := [(("_law_part" : Str), 1)]) (N := n_l_size) (sc := defScope s_l_size) (by decide +kernel)) (fun _ _ _ _ _ => pg_name (i := 1) sc_l_size.nd rfl (by first | exact Or.inl rfl | exact Or.inr rfl)) (fun _ _ _ _ _ => pts_nil) (fun _ _ _ _ _ => (pe_cal c_l_size hr (by omega) rfl pass0 (pa_cons (pv 1) pa_nil)))) pa_nil))))), ?_⟩
    refine ⟨_, rfl, v, D, n, rfl, hv, fun p H1 cs e1 hp hpl hk => ⟨p, rfl, ⟨_, SqL.of hpl⟩, fun Dl hDl => ?_⟩⟩
    obtain ⟨hk1, hk2, hk3⟩ := hk
    refine lc_list (xs := cs.map (·.1)) (fun i H' => Ex H1 H' ∧ H' Dl = some (.lst ((cs.take i).map fun c => V.int (c.2 : Int)))) ⟨Ex.new hDl, upd_same⟩ (fun i H' _ h => SqL.of (h.1 _ _ hpl)) ?_ ?_
    · rintro i x H' hi ⟨ex, hacc⟩
      obtain ⟨c, hc, rfl⟩ : ∃ c, cs[i]? = some c ∧ x = c.1 := by
        rw [List.getElem?_map] at hi
        cases e : cs[i]? with
        | none => rw [e] at hi; cases hi
        | some t => rw [e] at hi; exact ⟨t, rfl, (Option.some.inj hi).symm⟩
      obtain ⟨D', rfl, hq⟩ := hk3 c (List.mem_of_getElem? hc)
      refine ⟨rfl, yes_i ⟨_, rfl, c.1, D', c.2, rfl, by omega, hq.mono (Ex.tups ex), fun H4 e4 => ⟨_, e4 _ _ hacc, small_lt (by rw [List.length_map, List.length_take]; omega), Ex.mut (ex.trans e4) hDl, ?_⟩⟩⟩
      rw [upd_same, el_lcS.take_more hc, List.map_append]; rfl
    · rintro H' ⟨ex, hacc⟩
      rw [List.length_map, List.take_length] at hacc
      refine ⟨Dl, cs.map fun c => (c.2 : Int), rfl, SqL.of (by rw [List.map_map]; exact hacc), _, _, rfl, rfl, ?_⟩
      have : (1 : Int) + (cs.map fun c => (c.2 : Int)).sum = (n : Int) := by rw [sum_cast, hk1]; push_cast; rfl
      have q2 := q H' (e1.trans ex)
      rw [← this] at q2
      exact q2
abbrev n_l_high : List Str := ["_law_value", "_law_part"]
theorem sc_l_high : FnScope n_l_high ["_law_value"] (defScope s_l_high) := ⟨rfl, rfl, rfl, by decide +kernel, rfl, by decide +kernel, by decide +kernel⟩
theorem ok_l_high (T : Txt K mg w) : ∀ D : Nat, Cal P w K mg base CX0 (1 + D) "_law_high" ["_law_value"] (spHighD D)
  | 0 => by
    obtain ⟨fd, F, b⟩ := ok_non (P := P) (w := w) (mg := mg) (base := base) (sp := spHighD 0) T.f_l_high sc_l_high (fun _ _ _ _ _ _ us hl => match us, hl with | [_], _ => rfl) (fun vs H Q E ⟨_, D, _, _, h, _⟩ => by omega)
    exact (Cal.mk ⟨fd, F, b⟩ (kpOf T.f_l_high) T.g_l_high).up (by omega)
  | D0 + 1 => by
    have c_l_high : Cal P w K mg base _ _ _ _ _ := ok_l_high T D0
    have c_l_inner : Cal P w K mg base _ _ _ _ _ := ok_l_inner (P := P) (base := base) T
    refine ⟨ok0 (k := 1 + D0) T.f_l_high sc_l_high (fun vs H Q E h => ?_) (fun _ _ _ _ _ _ us hl => match us, hl with | [_], _ => rfl) (fun cdv A outer s H vs Q E hr h => ?_), kpOf T.f_l_high, T.g_l_high⟩
    · obtain ⟨v, D, n, rfl, _⟩ := h; rfl
    obtain ⟨v, D, n, rfl, hD0, hv, q⟩ := h
    refine ⟨_, (pss_one (ps_ret (pe_op op_add pe_int (pe_callB (cr_max rfl) rfl T.b_max (by decide +kernel) (pa_cons (pe_op op_cat (pe_lst (pa_cons pe_int pa_nil)) (pe_lc (own := [(("_law_part" : Str), 1)]) (g := gName 1) rfl sc_l_high.nd (pi_list (pe_cal c_l_inner hr (by omega) rfl pass0 (pa_cons (pv 0) pa_nil))) (blkOk_by (own := [(("_law_part" : Str), 1)]) (N := n_l_high) (sc := defScope s_l_high) (by decide +kernel)) (fun _ _ _ _ _ => pg_name (i := 1) sc_l_high.nd rfl (by first | exact Or.inl rfl | exact Or.inr rfl)) (fun _ _ _ _ _ => pts_nil) (fun _ _ _ _ _ => (pe_cal c_l_high hr (by omega) rfl pass0 (pa_cons (pv 1) pa_nil))))) pa_nil))))), ?_⟩
    refine ⟨small_sz (by simp), fun p0 hp0 => ?_⟩
    have e0 := Ex.new (o := .lst [.int 0]) hp0
    refine ⟨_, rfl, v, D, n, rfl, hv.mono (Ex.tups e0), fun p H1 cs e1 hp hpl hk => ⟨p, rfl, ⟨_, SqL.of hpl⟩, fun Dl hDl => ?_⟩⟩
    obtain ⟨hk1, hk2, hk3⟩ := hk
    refine lc_list (xs := cs.map (·.1)) (fun i H' => Ex H1 H' ∧ ∃ hs : List Int, H' Dl = some (.lst (hs.map V.int)) ∧ hs.length = i) ⟨Ex.new hDl, [], upd_same, rfl⟩ (fun i H' _ h => SqL.of (h.1 _ _ hpl)) ?_ ?_
    · rintro i x H' hi ⟨ex, hs, hacc, hl⟩
      obtain ⟨c, hc, rfl⟩ : ∃ c, cs[i]? = some c ∧ x = c.1 := by
        rw [List.getElem?_map] at hi
        cases e : cs[i]? with
        | none => rw [e] at hi; cases hi
        | some t => rw [e] at hi; exact ⟨t, rfl, (Option.some.inj hi).symm⟩
      have hi2 : i < cs.length := (List.getElem?_eq_some_iff.mp hc).1
      obtain ⟨D', rfl, hq⟩ := hk3 c (List.mem_of_getElem? hc)
      refine ⟨rfl, yes_i ⟨_, rfl, c.1, D', c.2, rfl, by omega, hq.mono (Ex.tups ex), fun h H4 e4 => ⟨_, e4 _ _ hacc, small_lt (by rw [List.length_map]; omega), Ex.mut (ex.trans e4) hDl, hs ++ [h], ?_, by rw [List.length_append, hl]; rfl⟩⟩⟩
      rw [upd_same, List.map_append]; rfl
    · rintro H' ⟨ex, hs, hacc, hl⟩
      rw [List.length_map] at hl
      have hp0' := ex _ _ (e1 _ _ (upd_same (H := H) (a := p0) (o := .lst [.int 0])))
      refine ⟨p0, Dl, _, _, rfl, rfl, hp0', hacc, small_sz (by rw [List.length_map]; simp; omega), fun p3 hp3 => ?_⟩
      have e3 := Ex.new (o := .lst ([.int 0] ++ hs.map V.int)) hp3
      refine ⟨p3, 0 :: hs, rfl, SqL.of upd_same, by simp, fun m _ _ => ⟨_, _, rfl, rfl, ?_⟩⟩
      exact q _ _ (((e0.trans e1).trans ex).trans e3)
abbrev n_l_free_program : List Str := ["_law_drawn", "_law_most", "_law_deep", "_law_found"]
theorem sc_l_free_program : FnScope n_l_free_program ["_law_drawn", "_law_most"] (defScope s_l_free_program) := ⟨rfl, rfl, rfl, by decide +kernel, rfl, by decide +kernel, by decide +kernel⟩
theorem ok_l_free_program (T : Txt K mg w) : Cal P w K mg base CX0 14 "_law_free_program" ["_law_drawn", "_law_most"] spProg := by
  have c_l_free : Cal P w K mg base _ _ _ _ _ := ok_l_free (P := P) (base := base) T 6
  have c_l_size : Cal P w K mg base _ _ _ _ _ := ok_l_size (P := P) (base := base) T 9
  have c_l_high : Cal P w K mg base _ _ _ _ _ := ok_l_high (P := P) (base := base) T 9
  refine ⟨ok0 (k := 13) T.f_l_free_program sc_l_free_program (fun vs H Q E h => ?_) (fun _ _ _ _ _ _ us hl => match us, hl with | [_, _], _ => rfl) (fun cdv A outer s H vs Q E hr h => ?_), kpOf T.f_l_free_program, T.g_l_free_program⟩
  · obtain ⟨dr, rfl, _⟩ := h; rfl
  obtain ⟨dr, rfl, hd, q⟩ := h
  refine ⟨_, (pss_cons (ps_for PassesOwn.never rfl (pi_list (pe_lst (pa_cons pe_int (pa_cons pe_int (pa_cons pe_int (pa_cons pe_int (pa_cons pe_int pa_nil))))))) (pg_name (i := 2) sc_l_free_program.nd rfl (by first | exact Or.inl rfl | exact Or.inr rfl)) (pss_cons (ps_set (i := 3) sc_l_free_program.nd rfl (by first | exact Or.inl rfl | exact Or.inr rfl) (pe_cal c_l_free hr (by decide) rfl pass0 (pa_cons (pv 0) (pa_cons (pv 2) pa_nil))))
    (pss_one (ps_if (PW.pt (pw_and (pt_cmpR op_le (pe_cal c_l_size hr (by decide) rfl pass0 (pa_cons (pv 3) pa_nil)) (pv 1) (nomark _)) (pw_and1 (pt_cmpR op_le (pe_cal c_l_high hr (by decide) rfl pass0 (pa_cons (pv 3) pa_nil)) pe_int (nomark _))))) (pss_one (ps_ret (pv 3))) pss_nil))))
    (pss_one (ps_ret (pe_tup (pa_cons pe_str pa_nil))))), ?_⟩
  refine ⟨small_sz (by simp), fun l hl => ⟨l, rfl, ⟨_, SqL.of upd_same⟩, ?_⟩⟩
  have hld : l ≠ dr := hd.ne hl
  refine for_list (xs := [5, 4, 3, 2, 1].map fun i : Nat => V.int (i : Int)) (fun i σ H' => ∃ (o2 o3 : Option V), σ = [some (.ref dr), some (.int 10), o2, o3] ∧ But [dr] H H' ∧ DrI H' dr ∧ H' l = some (.lst ([5, 4, 3, 2, 1].map fun i : Nat => V.int (i : Int)))) ⟨_, _, rfl, But.new hl, hd.new hl, upd_same⟩ ?_ ?_ ?_
  · rintro i σ H' _ ⟨o2, o3, rfl, b, d, h⟩
    exact SqL.of h
  · rintro i x σ H' hi ⟨o2, o3, rfl, b, d, h⟩
    obtain ⟨j, hj, rfl⟩ := List.mem_map.mp (List.mem_of_getElem? hi)
    have hj5 : j ≤ 5 := (by decide : ∀ j ∈ [5, 4, 3, 2, 1], j ≤ 5) j hj
    refine ⟨_, rfl, _, rfl, dr, j, rfl, by omega, d, fun v n m H1 b1 d1 g => ?_⟩
    have h1 := b1 _ _ (by simpa using hld) h
    have bb := b.trans b1
    refine ⟨_, rfl, v, 8, n, rfl, by decide, .inl ⟨j, m, by omega, g⟩, fun H2 e2 => ?_⟩
    refine ⟨_, rfl, _, _, rfl, rfl, _, rfl, ?_⟩
    refine ite2 (fun hn => ?_) (fun _ => iteF ?_)
    · have hn : n ≤ 10 := by have := of_decide_eq_true hn; omega
      refine ⟨_, rfl, v, 8, n, rfl, by decide, .inl ⟨j, m, by omega, g.mono (Ex.tups e2)⟩, fun hh H3 e3 => ?_⟩
      refine ⟨_, _, rfl, rfl, _, rfl, ?_⟩
      have e23 := e2.trans e3
      refine ite2 (fun _ => ⟨_, rfl, q v j n m H3 (bb.trans ((ex_but.mp e23).mono (by simp))) (d1.ex e23) hj5 hn (g.mono (Ex.tups e23))⟩) (fun _ => ?_)
      exact ⟨_, _, rfl, bb.trans ((ex_but.mp e23).mono (by simp)), d1.ex e23, e23 _ _ h1⟩
    · exact ⟨_, _, rfl, bb.trans ((ex_but.mp e2).mono (by simp)), d1.ex e2, e2 _ _ h1⟩
  · rintro σ H' ⟨o2, o3, rfl, b, d, h⟩
    refine ⟨small_sz (by simp), fun p hp => ?_⟩
    exact q (.ref p) 0 1 false _ (b.trans (But.new hp)) (d.new hp) (by omega) (by omega) (.hole upd_same)
end
end Sh
set_option Elab.async false
set_option linter.all false
set_option maxRecDepth 100000
set_option maxHeartbeats 4000000
namespace Sh
open PySem PySem.Spec PyProof.Rows L2 Evl
/-- at p: a list of texts -/
def LS (H : Hp) (p : Addr) (ws : List Str) : Prop := H p = some (.lst (ws.map V.str))
theorem LS.ex {H H' : Hp} {p : Addr} {ws : List Str} (h : LS H p ws) (e : Ex H H') : LS H' p ws := e _ _ h
theorem LS.but {H H' : Hp} {p dr : Addr} {ws : List Str} (h : LS H p ws) (b : But [dr] H H') (n : p ≠ dr) : LS H' p ws := b _ _ (by simpa using n) h
theorem cat_ls {H : Hp} {a b : Addr} {w1 w2 : List Str} {Q : VK} (ha : LS H a w1) (hb : LS H b w2) (hl : w1.length + w2.length ≤ 100000) (q : ∀ p H', H p = none → Ex H H' → LS H' p (w1 ++ w2) → Q (.ref p) H') : rCat (.ref a) (.ref b) H Q :=
  ⟨a, b, _, _, rfl, rfl, ha, hb, small_sz (by rw [List.length_map, List.length_map]; exact hl), fun p hp => q p _ hp (Ex.new hp) (by show _ = _; rw [upd_same, List.map_append])⟩
theorem rep_flat {α : Type} (n : Nat) (v : α) : (List.replicate n [v]).flatten = List.replicate n v := by
  induction n with
  | zero => rfl
  | succ n ih => rw [List.replicate_succ, List.flatten_cons, ih, List.replicate_succ]; rfl
theorem rep_ls {H : Hp} {a : Addr} {z : Str} {j : Nat} {Q : VK} (ha : LS H a [z]) (hj : j ≤ 1000) (q : ∀ p H', H p = none → Ex H H' → LS H' p (List.replicate j z) → Q (.ref p) H') : rRep (.ref a) (.int (j : Int)) H Q :=
  ⟨a, (j : Int), _, rfl, rfl, ha, by omega, by omega, small_sz (by simp; omega), fun p hp => q p _ hp (Ex.new hp) (by
    show _ = _
    rw [upd_same, Int.toNat_natCast, List.map_cons, List.map_nil, rep_flat, List.map_replicate])⟩
theorem new_ls {H : Hp} {p : Addr} {ws : List Str} : LS (upd H p (.lst (ws.map V.str))) p ws := upd_same
def okW (ws : List Str) : Prop := ∀ z, z ∈ ws → okT z = true
theorem okW.app {a b : List Str} (h : okW a) (k : okW b) : okW (a ++ b) := fun z hz => (List.mem_append.mp hz).elim (h z) (k z)
theorem okW.rep {z : Str} {j : Nat} (h : okT z = true) : okW (List.replicate j z) := fun y hy => by rw [List.eq_of_mem_replicate hy]; exact h
/-- brackets about texts -/
def brsS (j : Nat) (ws : List Str) : List Str := List.replicate j ("(" : Str) ++ ws ++ List.replicate j (")" : Str)
theorem brsS_kd {j : Nat} {ws : List Str} : (brsS j ws).map kd = brs j (ws.map kd) := by
  unfold brsS brs
  rw [List.map_append, List.map_append, List.map_replicate, List.map_replicate]
  rw [show kd "(" = .lp from by decide +kernel, show kd ")" = .rp from by decide +kernel]
theorem brsS_ok {j : Nat} {ws : List Str} (h : okW ws) : okW (brsS j ws) := ((okW.rep (by decide +kernel)).app h).app (okW.rep (by decide +kernel))
theorem brsS_len {j : Nat} {ws : List Str} : (brsS j ws).length = ws.length + 2 * j := by unfold brsS; simp; omega
def spWrap : Sp := fun vs H Q _ => ∃ (dr p : Addr) (b : Bool) (ws : List Str), vs = [.ref dr, .ref p, .bl b] ∧ DrI H dr ∧ LS H p ws ∧ ws.length ≤ 10000 ∧
  ∀ (j : Nat) (p' : Addr) (H' : Hp), But [dr] H H' → DrI H' dr → H p' = none → LS H' p' (brsS j ws) → (b = true → 1 ≤ j) → j ≤ 3 → Q (.ref p') H'
def spPTokD (E : Nat) : Sp := fun vs H Q _ => ∃ (dr : Addr) (v : V) (b : Bool) (d n : Nat), vs = [.ref dr, v, .bl b] ∧ d < E ∧ IsP H d n v ∧ n ≤ 10 ∧ DrI H dr ∧
  ∀ (p : Addr) (H' : Hp) (ws : List Str), But [dr] H H' → DrI H' dr → H p = none → LS H' p ws → okW ws → Pp b (ws.map kd) → ws.length ≤ 7 * n → Q (.ref p) H'
theorem le_sum {l : List (V × Nat)} {c : V × Nat} (h : c ∈ l) : c.2 ≤ (l.map (·.2)).sum := by
  induction l with
  | nil => simp at h
  | cons a l ih =>
    rw [List.map_cons, List.sum_cons]
    rcases List.mem_cons.mp h with rfl | h
    · omega
    · have := ih h; omega
theorem sum_take {l : List (V × Nat)} {i : Nat} {c : V × Nat} (h : l[i]? = some c) : ((l.take (i + 1)).map (·.2)).sum = ((l.take i).map (·.2)).sum + c.2 := by
  rw [el_lcS.take_more h, List.map_append, List.sum_append]; simp
section
variable {P : Program} {w : World} {K : PySem.W.Frag} {mg : Str → Option Value} {base : Heap}
abbrev n_l_wrapped : List Str := ["_law_drawn", "_law_tokens_here", "_law_is_needed", "_law_more"]
theorem sc_l_wrapped : FnScope n_l_wrapped ["_law_drawn", "_law_tokens_here", "_law_is_needed"] (defScope s_l_wrapped) := ⟨rfl, rfl, rfl, by decide +kernel, rfl, by decide +kernel, by decide +kernel⟩
theorem ok_l_wrapped (T : Txt K mg w) : Cal P w K mg base CX0 2 "_law_wrapped" ["_law_drawn", "_law_tokens_here", "_law_is_needed"] spWrap := by
  have c_l_next : Cal P w K mg base _ _ _ _ _ := ok_l_next (P := P) (base := base) T
  refine ⟨ok0 T.f_l_wrapped sc_l_wrapped (fun vs H Q E h => ?_) (fun _ _ _ _ _ _ us hl => match us, hl with | [_, _, _], _ => rfl) (fun cdv A outer s H vs Q E hr h => ?_), kpOf T.f_l_wrapped, T.g_l_wrapped⟩
  · obtain ⟨dr, p, b, ws, rfl, _⟩ := h; rfl
  obtain ⟨dr, p, b, ws, rfl, hd, hp, hl, q⟩ := h
  refine ⟨_, (pss_cons (ps_set (i := 3) sc_l_wrapped.nd rfl (by first | exact Or.inl rfl | exact Or.inr rfl) (pe_callTy call_int1 rfl T.b_int (by decide +kernel) (pa_cons (pv 2) pa_nil)))
    (pss_cut (ps_if (PW.pt (pw_and (pt_cmpR op_notN (pv 0) pe_non (nomark _)) (pw_and1 (pt_cmpR op_eq (pe_cal c_l_next hr (by decide) rfl pass0 (pa_cons (pv 0) (pa_cons pe_int pa_nil))) pe_int (nomark _))))) (pss_one (ps_set (i := 3) sc_l_wrapped.nd rfl (by first | exact Or.inl rfl | exact Or.inr rfl) (pe_op op_add (pe_op op_add (pv 3) pe_int) (pe_cal c_l_next hr (by decide) rfl pass0 (pa_cons (pv 0) (pa_cons pe_int pa_nil)))))) pss_nil)
    (pss_one (ps_ret (pe_op op_cat (pe_op op_cat (pe_op op_rep (pe_lst (pa_cons pe_str pa_nil)) (pv 3)) (pv 1)) (pe_op op_rep (pe_lst (pa_cons pe_str pa_nil)) (pv 3))))))), ?_⟩
  have hpd := ints_strs hd hp
  refine ⟨_, rfl, .inr ⟨b, rfl, ?_⟩⟩
  refine ⟨fun σ2 H2 => ∃ j : Nat, σ2 = [some (.ref dr), some (.ref p), some (.bl b), some (.int (j : Int))] ∧ But [dr] H H2 ∧ DrI H2 dr ∧ (b = true → 1 ≤ j) ∧ j ≤ 3, ?_, ?_⟩
  · have hb : ∃ j : Nat, (if b = true then (1 : Int) else 0) = (j : Int) ∧ (b = true → 1 ≤ j) ∧ j ≤ 1 := by
      cases b
      · exact ⟨0, rfl, by simp, by omega⟩
      · exact ⟨1, rfl, by simp, by omega⟩
    obtain ⟨j, hj, h1, h2⟩ := hb
    rw [hj]
    refine ⟨_, rfl, rfl, _, rfl, ite2 (fun _ => ?_) (fun h => (h (by simp)).elim)⟩
    refine ⟨_, rfl, dr, 6, rfl, hd, by decide, by decide, fun r H1 _ _ b1 d1 => ⟨rfl, _, rfl, ite2 (fun _ => ?_) (fun _ => ⟨j, rfl, b1, d1, h1, by omega⟩)⟩⟩
    refine ⟨_, rfl, _, _, rfl, rfl, _, rfl, dr, 2, rfl, d1, by decide, by decide, fun r2 H2 r0 r1 b2 d2 => ⟨_, _, rfl, rfl, ?_⟩⟩
    obtain ⟨r2, rfl⟩ := Int.eq_ofNat_of_zero_le r0
    exact ⟨j + 1 + r2, by push_cast; rfl, b1.trans b2, d2, fun _ => by omega, by omega⟩
  rintro σ2 H2 ⟨j, rfl, b2, d2, hj1, hj3⟩
  have hp2 := hp.but b2 hpd
  refine ⟨small_sz (by simp), fun p1 hp1 => ?_⟩
  have e1 := Ex.new (o := .lst ([("(" : Str)].map V.str)) hp1
  refine ⟨_, rfl, rep_ls (z := "(") upd_same (by omega) fun p2 H3 hp2n e2 hl2 => ?_⟩
  refine ⟨_, rfl, cat_ls hl2 (hp2.ex (e1.trans e2)) (by simp; omega) fun p3 H4 hp3n e3 hl3 => ?_⟩
  refine ⟨small_sz (by simp), fun p4 hp4 => ?_⟩
  have e4 := Ex.new (o := .lst ([(")" : Str)].map V.str)) hp4
  refine ⟨_, rfl, rep_ls (z := ")") upd_same (by omega) fun p5 H5 hp5n e5 hl5 => ?_⟩
  have e15 := (((e1.trans e2).trans e3).trans e4).trans e5
  refine cat_ls (hl3.ex (e4.trans e5)) hl5 (by simp; omega) fun p6 H6 hp6n e6 hl6 => ?_
  refine q j p6 H6 (b2.trans ((ex_but.mp (e15.trans e6)).mono (by simp))) (d2.ex (e15.trans e6)) ?_ hl6 hj1 hj3
  exact But.fresh b2 (by simpa using d2.ne (fresh_back e15 hp6n)) (fresh_back e15 hp6n)
abbrev n_l_pattern_tokens : List Str := ["_law_drawn", "_law_pattern", "_law_is_inner", "_law_found", "_law_part"]
theorem sc_l_pattern_tokens : FnScope n_l_pattern_tokens ["_law_drawn", "_law_pattern", "_law_is_inner"] (defScope s_l_pattern_tokens) := ⟨rfl, rfl, rfl, by decide +kernel, rfl, by decide +kernel, by decide +kernel⟩
theorem ok_l_pattern_tokens (T : Txt K mg w) : ∀ D : Nat, Cal P w K mg base CX0 (2 + D) "_law_pattern_tokens" ["_law_drawn", "_law_pattern", "_law_is_inner"] (spPTokD D)
  | 0 => by
    obtain ⟨fd, F, b⟩ := ok_non (P := P) (w := w) (mg := mg) (base := base) (sp := spPTokD 0) T.f_l_pattern_tokens sc_l_pattern_tokens (fun _ _ _ _ _ _ us hl => match us, hl with | [_, _, _], _ => rfl) (fun vs H Q E ⟨_, _, _, d, _, _, h, _⟩ => by omega)
    exact (Cal.mk ⟨fd, F, b⟩ (kpOf T.f_l_pattern_tokens) T.g_l_pattern_tokens).up (by omega)
  | D0 + 1 => by
    have c_l_pattern_tokens : Cal P w K mg base _ _ _ _ _ := ok_l_pattern_tokens T D0
    have c_l_wrapped : Cal P w K mg base _ _ _ _ _ := ok_l_wrapped (P := P) (base := base) T
    refine ⟨ok0 (k := 2 + D0) T.f_l_pattern_tokens sc_l_pattern_tokens (fun vs H Q E h => ?_) (fun _ _ _ _ _ _ us hl => match us, hl with | [_, _, _], _ => rfl) (fun cdv A outer s H vs Q E hr h => ?_), kpOf T.f_l_pattern_tokens, T.g_l_pattern_tokens⟩
    · obtain ⟨dr, v, b, d, n, rfl, _⟩ := h; rfl
    obtain ⟨dr, v, b, d, n, rfl, hdD, hv, hn10, hd, q⟩ := h
    refine ⟨_, (pss_cons (ps_if (pt_cmpR op_eq (pe_ix ix_tup (pv 1) pe_int (fun _ _ => rfl)) pe_str (nomark _)) (pss_one (ps_ret (pe_cal c_l_wrapped hr (by omega) rfl pass0 (pa_cons (pv 0) (pa_cons (pe_lst (pa_cons pe_str pa_nil)) (pa_cons pe_bl pa_nil)))))) pss_nil)
    (pss_cons (ps_set (i := 3) sc_l_pattern_tokens.nd rfl (by first | exact Or.inl rfl | exact Or.inr rfl) (pe_lst (pa_cons (pe_ix ix_tup (pv 1) pe_int (fun _ _ => rfl)) pa_nil)))
    (pss_cons (ps_for PassesOwn.never rfl (pi_tup (pe_slice sl_tup (pv 1) (po_some pe_int) po_none)) (pg_name (i := 4) sc_l_pattern_tokens.nd rfl (by first | exact Or.inl rfl | exact Or.inr rfl)) (pss_one (ps_set (i := 3) sc_l_pattern_tokens.nd rfl (by first | exact Or.inl rfl | exact Or.inr rfl) (pe_op op_cat (pv 3) (pe_cal c_l_pattern_tokens hr (by omega) rfl pass0 (pa_cons (pv 0) (pa_cons (pv 4) (pa_cons pe_bl pa_nil))))))))
    (pss_one (ps_ret (pe_cal c_l_wrapped hr (by omega) rfl pass0 (pa_cons (pv 0) (pa_cons (pv 3) (pa_cons (pe_and (pv 2) (pe_one (pe_cmpR op_gt (pe_callB call_len rfl T.b_len PySem.boot_len (pa_cons (pv 1) pa_nil)) pe_int (nomark _)))) pa_nil))))))))), ?_⟩
    -- the end, from the list at p
    have fin : ∀ {p : Addr} {H1 : Hp} {ws : List Str} {nb : Bool}, But [dr] H H1 → DrI H1 dr → LS H1 p ws → okW ws → ws.length + 6 ≤ 7 * n → PRd (ws.map kd) → (nb = false → b = true → PArg (ws.map kd)) → spWrap [.ref dr, .ref p, .bl nb] H1 Q (fun _ _ _ => False) := fun {p H1 ws nb} b1 d1 hl hok hlen hr1 ha =>
      ⟨dr, p, nb, ws, rfl, d1, hl, by omega, fun j p' H' b' d' hp' hl' hj1 hj3 => q p' H' _ (b1.trans b') d' (But.fresh b1 (by simpa using d1.ne hp') hp') hl' (brsS_ok hok)
        (by rw [brsS_kd]; exact pp_of hr1 fun hj hb => ha (by cases nb with
          | false => rfl
          | true => have := hj1 rfl; omega) hb) (by rw [brsS_len]; omega)⟩
    have fin' : ∀ {p : Addr} {H1 : Hp} {ws : List Str} {nb : Bool} {E' : XK}, But [dr] H H1 → DrI H1 dr → LS H1 p ws → okW ws → ws.length + 6 ≤ 7 * n → PRd (ws.map kd) → (nb = false → b = true → PArg (ws.map kd)) → spWrap [.ref dr, .ref p, .bl nb] H1 Q E' := fun a1 a2 a3 a4 a5 a6 a7 => fin a1 a2 a3 a4 a5 a6 a7
    -- the last statement
    have last : ∀ {p a : Addr} {H1 : Hp} {ws : List Str} {xs : List V} {o4 : Option V}, v = .ref a → SqT K H1 a xs → xs.length ≤ 100 → But [dr] H H1 → DrI H1 dr → LS H1 p ws → okW ws → ws.length + 6 ≤ 7 * n → PRd (ws.map kd) → (xs.length ≤ 2 → b = true → PArg (ws.map kd)) →
        tCall spWrap [] (fun _ _ _ => False) (tCons (tVar 0) (tCons (tVar 3) (tCons (tAndV (tVar 2) (tOp (rI0 fun i j => .bl (decide (j < i))) (tCB (fun xs H Q => ∃ x n, xs = [x] ∧ LenV K x H n ∧ Q (.int (n : Int)) H) (tCons (tVar 1) tNil)) (tC (.int 2)))) tNil)))
          [some (.ref dr), some v, some (.bl b), some (.ref p), o4] H1 Q := by
      rintro p a H1 ws xs o4 rfl hx hxl b1 d1 hl hok hlen hr1 ha
      refine ⟨_, rfl, _, rfl, _, rfl, b, rfl, ?_⟩
      cases b with
      | false => exact iteF (fin b1 d1 hl hok hlen hr1 fun _ h => by cases h)
      | true =>
        refine iteT ⟨_, rfl, _, _, rfl, .inr ⟨_, hx, rfl⟩, _, _, rfl, rfl, ?_⟩
        exact fin b1 d1 hl hok hlen hr1 fun h _ => ha (by have := of_decide_eq_false h; omega) rfl
    have loop : ∀ {a : Addr} {z w0 : Str} {cs : List (V × Nat)} {dd : Nat}, v = .ref a → H a = some (.tup (.str w0 :: .str z :: cs.map (·.1))) → w0 ≠ ("any" : Str) → okT z = true → cs.length ≤ 3 → n = 1 + (cs.map (·.2)).sum → (cs ≠ [] → dd < D0) → (∀ c, c ∈ cs → IsP H dd c.2 c.1) →
        (cs = [] → PRd [kd z] ∧ PArg [kd z]) → (cs ≠ [] → PatMk 0 [kd z]) →
        tSeq (tAsg (tLst (tCons (tOp (rIxT K) (tVar 1) (tC (.int 1))) tNil)) (gName 3)) (tSeq (tFor (iTup K (tSl (rSlT K) (tVar 1) (tPart (tC (.int 2))) tNoPart)) (gName 4) (tAsg (tOp rCat (tVar 3) (tCall (spPTokD D0) [] (fun _ _ _ => False) (tCons (tVar 0) (tCons (tVar 4) (tCons (tC (.bl true)) tNil))))) (gName 3)))
          (tRet (tCall spWrap [] (fun _ _ _ => False) (tCons (tVar 0) (tCons (tVar 3) (tCons (tAndV (tVar 2) (tOp (rI0 fun i j => .bl (decide (j < i))) (tCB (fun xs H Q => ∃ x n, xs = [x] ∧ LenV K x H n ∧ Q (.int (n : Int)) H) (tCons (tVar 1) tNil)) (tC (.int 2)))) tNil)))))) { nx := fun _ H' => Q .non H', rt := Q } [some (.ref dr), some v, some (.bl b), none, none] H := by
      rintro a z w0 cs dd rfl ha hw0 hz hcs3 hn hdd hcs hb1 hb2
      refine ⟨_, rfl, a, _, _, .str z, rfl, rfl, SqT.of ha, atI_nat (j := 1) rfl, small_sz (by simp), fun p hp => ?_⟩
      have e1 := Ex.new (o := .lst ([z].map V.str)) hp
      obtain ⟨zs, z1, z2, z3⟩ := cut_tup (K := K) (k := 2) (ys := cs.map (·.1)) (SqT.of (e1 _ _ ha)) (by decide) (by simp) rfl
      refine ⟨_, rfl, _, rfl, a, zs, rfl, z1, z2, fun l hl => ?_⟩
      rw [show cutV zs (some 2) none = cs.map (·.1) from z3]
      have e2 := Ex.new (o := .tup (cs.map (·.1))) hl
      have e12 := e1.trans e2
      have hld : l ≠ dr := (hd.ex e1).ne hl
      refine ⟨l, rfl, ⟨_, SqT.of upd_same⟩, ?_⟩
      refine for_tup (xs := cs.map (·.1)) (fun i σ H' => ∃ (o4 : Option V) (p : Addr) (ws : List Str), σ = [some (.ref dr), some (.ref a), some (.bl b), some (.ref p), o4] ∧ But [dr] H H' ∧ DrI H' dr ∧ H' l = some (.tup (cs.map (·.1))) ∧ LS H' p ws ∧ okW ws ∧ ws.length ≤ 1 + 7 * ((cs.take i).map (·.2)).sum ∧ (i = 0 → ws = [z]) ∧ (cs ≠ [] → PatMk i (ws.map kd))) ?_ ?_ ?_ ?_
      · refine ⟨_, p, [z], rfl, (ex_but.mp e12).mono (by simp), hd.ex e12, upd_same, LS.ex new_ls e2, (fun y hy => by rw [List.mem_singleton.mp hy]; exact hz), by simp, fun _ => rfl, hb2⟩
      · rintro i σ H' _ ⟨o4, p, ws, rfl, _, _, h, _⟩
        exact SqT.of h
      · rintro i x σ H' hi ⟨o4, p, ws, rfl, b', d', hl', hls, hok, hlen, h0, hpm⟩
        obtain ⟨c, hc, rfl⟩ : ∃ c, cs[i]? = some c ∧ x = c.1 := by
          rw [List.getElem?_map] at hi
          cases e : cs[i]? with
          | none => rw [e] at hi; cases hi
          | some t => rw [e] at hi; exact ⟨t, rfl, (Option.some.inj hi).symm⟩
        have hm := List.mem_of_getElem? hc
        have hne : cs ≠ [] := fun e => by rw [e] at hm; simp at hm
        have hi2 : i < cs.length := (List.getElem?_eq_some_iff.mp hc).1
        have hc2 := le_sum hm
        have hst := sum_take hc
        have hle : ((cs.take (i + 1)).map (·.2)).sum ≤ (cs.map (·.2)).sum := by
          have : ∀ (l : List (V × Nat)) (k : Nat), ((l.take k).map (·.2)).sum ≤ (l.map (·.2)).sum := fun l => by
            induction l with
            | nil => intro k; simp
            | cons a l ih =>
              intro k
              cases k with
              | zero => simp
              | succ k => rw [List.take_succ_cons, List.map_cons, List.sum_cons, List.map_cons, List.sum_cons]; have := ih k; omega
          exact this _ _
        refine ⟨_, rfl, _, rfl, _, rfl, dr, c.1, true, dd, c.2, rfl, hdd hne, (hcs c hm).mono (hd.tups b'), by omega, d', fun p2 H2 ws2 b2 d2 hp2 hl2 hok2 hpp hlen2 => ?_⟩
        refine cat_ls (hls.but b2 (ints_strs d' hls)) hl2 (by omega) fun p3 H3 hp3 e3 hl3 => ?_
        refine ⟨_, p3, ws ++ ws2, rfl, (b'.trans b2).trans ((ex_but.mp e3).mono (by simp)), d2.ex e3, e3 _ _ (b2 l _ (by simpa using hld) hl'), hl3, hok.app hok2, by rw [List.length_append, hst]; omega, fun h => by omega, fun _ => ?_⟩
        rw [List.map_append]
        exact pmk_more (hpm hne) (by omega) (hpp.2 rfl)
      · rintro σ H' ⟨o4, p, ws, rfl, b', d', hl', hls, hok, hlen, h0, hpm⟩
        rw [List.length_map, List.take_length] at hlen
        rw [List.length_map] at h0 hpm
        have ha' := hd.tups b' _ _ ha
        refine last rfl (SqT.of ha') (by simp; omega) b' d' hls hok (by omega) ?_ ?_
        · by_cases hc : cs = []
          · rw [h0 (by rw [hc]; rfl)]; exact (hb1 hc).1
          · exact (hpm hc).rd
        · intro hx _
          have hc : cs = [] := by
            cases cs with
            | nil => rfl
            | cons c r => simp at hx
          rw [h0 (by rw [hc]; rfl)]; exact (hb1 hc).2
    cases hv with
    | @any a d h =>
      refine ⟨_, rfl, a, _, _, .str "any", rfl, rfl, SqT.of h, atI_nat (j := 0) rfl, rfl, _, rfl, ite_nm (fun _ => ?_) (fun h => absurd rfl h)⟩
      refine ⟨_, rfl, small_sz (by simp), fun p hp => ?_⟩
      exact fin (ws := ["_"]) (But.new hp) (hd.new hp) upd_same (fun y hy => by rw [List.mem_singleton.mp hy]; decide +kernel) (by simp only [List.length_cons, List.length_nil]; omega) (show PRd [kd "_"] from by rw [show kd "_" = .us from by decide +kernel]; exact pal_us.rd) (fun _ _ => show PArg [kd "_"] from by rw [show kd "_" = .us from by decide +kernel]; exact pal_us.arg)
    | @word a d z h hz =>
      refine ⟨_, rfl, a, _, _, .str "word", rfl, rfl, SqT.of h, atI_nat (j := 0) rfl, rfl, _, rfl, ite_nm (fun h => absurd h (by decide +kernel)) (fun _ => ?_)⟩
      exact loop (w0 := "word") (cs := []) (dd := 0) rfl h (by decide +kernel) hz.2 (by decide) rfl (fun h => absurd rfl h) (fun c hc => by simp at hc) (fun _ => by rw [hz.1]; exact ⟨pal_word.rd, pal_word.arg⟩) (fun h => absurd rfl h)
    | @mk0 a d z h hz =>
      refine ⟨_, rfl, a, _, _, .str "make", rfl, rfl, SqT.of h, atI_nat (j := 0) rfl, rfl, _, rfl, ite_nm (fun h => absurd h (by decide +kernel)) (fun _ => ?_)⟩
      exact loop (w0 := "make") (cs := []) (dd := 0) rfl h (by decide +kernel) hz.2 (by decide) rfl (fun h => absurd rfl h) (fun c hc => by simp at hc) (fun _ => by rw [hz.1]; exact ⟨pmk0.rd, parg_name⟩) (fun h => absurd rfl h)
    | @mk a d z cs h hz h3 g =>
      refine ⟨_, rfl, a, _, _, .str "make", rfl, rfl, SqT.of h, atI_nat (j := 0) rfl, rfl, _, rfl, ite_nm (fun h => absurd h (by decide +kernel)) (fun _ => ?_)⟩
      exact loop (w0 := "make") (cs := cs) (dd := d) rfl h (by decide +kernel) hz.2 h3 rfl (fun _ => by omega) g (fun _ => by rw [hz.1]; exact ⟨pmk0.rd, parg_name⟩) (fun _ => by rw [hz.1]; exact pmk0)
end
end Sh
set_option Elab.async false
set_option linter.all false
set_option maxRecDepth 100000
set_option maxHeartbeats 4000000
namespace Sh
open PySem PySem.Spec PyProof.Rows L2 Evl
/-! ### a number's own text -/
theorem numL_hd : ∀ n : Nat, n = 0 ∨ ∃ c r, TL.numL n = c :: r ∧ c ≠ 48 := by
  intro n
  induction n using Nat.strongRecOn with
  | _ n ih =>
    by_cases h0 : n = 0
    · exact .inl h0
    · right
      by_cases h : n < 10
      · exact ⟨48 + n, [], TL.numL_lt h, by omega⟩
      · rcases ih (n / 10) (by omega) with e | ⟨c, r, e, hc⟩
        · omega
        · exact ⟨c, r ++ [48 + n % 10], by rw [TL.numL_step (by omega), e]; rfl, hc⟩
def numZ (i : Nat) : Str := SX.S (TL.numL i)
theorem spec_nod : ∀ z ∈ spec, z.cps.toList.all isDig = false := by decide +kernel
theorem num_kd {i : Nat} (h : i ≤ 999999) : kd (numZ i) = .num ∧ okT (numZ i) = true := by
  have hl : (numZ i).cps.toList = TL.numL i := rfl
  have hlen : (numZ i).length = (TL.numL i).length := by unfold numZ; rw [SX.S_len]
  have h6 : (TL.numL i).length ≤ 6 := TL.numL_len (by decide) (by omega)
  have hne := TL.numL_ne i
  have h1 : 1 ≤ (TL.numL i).length := List.length_pos_iff.mpr hne
  have hd : (TL.numL i).all isDig = true := by
    rw [List.all_eq_true]
    intro c hc
    have := TL.numL_digits i c hc
    unfold isDig
    rw [Bool.and_eq_true, decide_eq_true_eq, decide_eq_true_eq]
    omega
  have hns : numZ i ∉ spec := fun hs => by
    have := spec_nod _ hs
    rw [hl, hd] at this; cases this
  obtain ⟨c, r, hcr⟩ : ∃ c r, TL.numL i = c :: r := by
    cases e : TL.numL i with
    | nil => exact absurd e hne
    | cons c r => exact ⟨c, r, rfl⟩
  have hcd : isDig c = true := by rw [hcr] at hd; simp only [List.all_cons, Bool.and_eq_true] at hd; exact hd.1
  have hc2 : 48 ≤ c ∧ c ≤ 57 := by
    unfold isDig at hcd
    rw [Bool.and_eq_true, decide_eq_true_eq, decide_eq_true_eq] at hcd
    exact hcd
  have hw : isWordS (numZ i) = false := by
    have : hdB isSm (numZ i) = false := by
      unfold hdB; rw [hl, hcr]
      show isSm c = false
      unfold isSm
      rw [decide_eq_false (by omega)]; rfl
    unfold isWordS
    rw [this]; simp
  have hn : isNameS (numZ i) = false := by
    have : hdB isCap (numZ i) = false := by
      unfold hdB; rw [hl, hcr]
      show isCap c = false
      unfold isCap
      rw [decide_eq_false (by omega)]; rfl
    unfold isNameS
    rw [this]; simp
  have hm : isNumS (numZ i) = true := by
    unfold isNumS
    rw [hl, hd, hlen, decide_eq_true h1, decide_eq_true h6]
    have : (decide (numZ i = ("0" : Str)) || !hdB (fun c => decide (c = 48)) (numZ i)) = true := by
      rcases numL_hd i with rfl | ⟨c', r', e, hc'⟩
      · decide +kernel
      · rw [Bool.or_eq_true]
        right
        unfold hdB
        rw [hl, e]
        simp [hc']
    rw [this]; rfl
  refine ⟨?_, ?_⟩
  · rw [kd_not hns, hw, hn, hm]; rfl
  · unfold okT goodT goodL
    rw [hl, hlen, decide_eq_true (show (TL.numL i).length ≤ 8 by omega)]
    have ha : (TL.numL i).all isAn = true := by
      rw [List.all_eq_true] at hd ⊢
      intro c hc
      unfold isAn
      rw [hd c hc]; simp
    rw [ha, hcr]; simp
theorem IsP.pos {H : Hp} {d n : Nat} {v : V} (h : IsP H d n v) : 1 ≤ n := by cases h <;> omega
theorem IsG.hd {H : Hp} {d n : Nat} {m : Bool} {v : V} (h : IsG H d n m v) : ∃ (a : Addr) (w : Str) (r : List V), v = .ref a ∧ H a = some (.tup (.str w :: r)) ∧ ((w = ("make" : Str) ∧ m = true) ∨ (w ≠ ("make" : Str) ∧ m = false)) := by
  cases h with
  | num h _ => exact ⟨_, _, _, rfl, h, .inr ⟨by decide +kernel, rfl⟩⟩
  | hole h => exact ⟨_, _, _, rfl, h, .inr ⟨by decide +kernel, rfl⟩⟩
  | word h _ => exact ⟨_, _, _, rfl, h, .inr ⟨by decide +kernel, rfl⟩⟩
  | mk0 h _ => exact ⟨_, _, _, rfl, h, .inl ⟨rfl, rfl⟩⟩
  | fn h _ _ => exact ⟨_, _, _, rfl, h, .inr ⟨by decide +kernel, rfl⟩⟩
  | lt h _ _ _ => exact ⟨_, _, _, rfl, h, .inr ⟨by decide +kernel, rfl⟩⟩
  | op h _ _ _ => exact ⟨_, _, _, rfl, h, .inr ⟨by decide +kernel, rfl⟩⟩
  | call h _ _ => exact ⟨_, _, _, rfl, h, .inr ⟨by decide +kernel, rfl⟩⟩
  | mk h _ _ _ _ => exact ⟨_, _, _, rfl, h, .inl ⟨rfl, rfl⟩⟩
  | mt h _ _ _ _ _ _ => exact ⟨_, _, _, rfl, h, .inr ⟨by decide +kernel, rfl⟩⟩
theorem le_sumG {α : Type} {g : α → Nat} {l : List α} {c : α} (h : c ∈ l) : g c ≤ (l.map g).sum := by
  induction l with
  | nil => simp at h
  | cons a l ih =>
    rw [List.map_cons, List.sum_cons]
    rcases List.mem_cons.mp h with rfl | h
    · omega
    · have := ih h; omega
theorem sum_takeG {α : Type} {g : α → Nat} {l : List α} {i : Nat} {c : α} (h : l[i]? = some c) : ((l.take (i + 1)).map g).sum = ((l.take i).map g).sum + g c := by
  rw [el_lcS.take_more h, List.map_append, List.sum_append]; simp
theorem sum_leG {α : Type} {g : α → Nat} : ∀ {l : List α} {k : Nat}, ((l.take k).map g).sum ≤ (l.map g).sum
  | [], k => by simp
  | a :: l, 0 => by simp
  | a :: l, k + 1 => by
    rw [List.take_succ_cons, List.map_cons, List.sum_cons, List.map_cons, List.sum_cons]
    have := sum_leG (g := g) (l := l) (k := k); omega
theorem IsG.mk_or {H : Hp} {d n : Nat} {m : Bool} {v : V} (h : IsG H d n m v) : (m = true ∧ ∃ (a : Addr) (z : Str) (cs : List (V × Nat × Bool)), v = .ref a ∧ H a = some (.tup (.str "make" :: .str z :: cs.map (·.1))) ∧ NameT z ∧ cs.length ≤ 3 ∧ n = 1 + (cs.map (·.2.1)).sum ∧
    ∀ c, c ∈ cs → ∃ dd, d = dd + 1 ∧ IsG H dd c.2.1 c.2.2 c.1) ∨ m = false := by
  cases h with
  | mk0 h hz => exact .inl ⟨rfl, _, _, [], rfl, h, hz, by simp, by simp, fun c hc => by simp at hc⟩
  | mk h hz _ h3 g => exact .inl ⟨rfl, _, _, _, rfl, h, hz, h3, rfl, fun c hc => ⟨_, rfl, g c hc⟩⟩
  | _ => exact .inr rfl
def kvO : List (Key × V) := [(.inr ("<" : Str), .int 1), (.inr ("=" : Str), .int 1), (.inr ("+" : Str), .int 2), (.inr ("-" : Str), .int 2), (.inr ("*" : Str), .int 3)]
theorem kvO_ok : ∀ z ∈ [("+" : Str), "-", "*", "<", "="], valV (mergeK [] kvO) (.inr z) = some (.int (str (kd z) : Nat)) ∧ 0 < str (kd z) ∧ str (kd z) ≤ 3 ∧ okT z = true := by decide +kernel
theorem okW.nil : okW [] := fun z h => by simp at h
theorem okW.cons {z : Str} {ws : List Str} (h : okT z = true) (k : okW ws) : okW (z :: ws) := fun y hy => (List.mem_cons.mp hy).elim (fun e => by rw [e]; exact h) (k y)
theorem k_fun : kd "fun" = .kfun := by decide +kernel
theorem k_let : kd "let" = .klet := by decide +kernel
theorem k_in : kd "in" = .kin := by decide +kernel
theorem k_eq : kd "=" = .eq := by decide +kernel
theorem k_arrow : kd "->" = .arrow := by decide +kernel
theorem k_match : kd "match" = .kmatch := by decide +kernel
theorem k_with : kd "with" = .kwith := by decide +kernel
theorem k_end : kd "end" = .kend := by decide +kernel
theorem k_bar : kd "|" = .bar := by decide +kernel
theorem k_hole : kd "hole" = .khole := by decide +kernel
def spBareD (E : Nat) : Sp := fun vs H Q _ => ∃ (dr : Addr) (v : V) (d n : Nat) (m : Bool), vs = [.ref dr, v] ∧ d < E ∧ IsG H d n m v ∧ n ≤ 10 ∧ DrI H dr ∧
  ∀ (p q : Addr) (H' : Hp) (ws : List Str) (own : Nat), But [dr] H H' → DrI H' dr → H p = none → H' p = some (.lst [.ref q, .int (own : Int)]) → LS H' q ws → okW ws → Pb own m (ws.map kd) → ws.length + 6 ≤ 12 * n → Q (.ref p) H'
def spTokD (E : Nat) : Sp := fun vs H Q _ => ∃ (dr : Addr) (v : V) (wnt d n : Nat) (m : Bool), vs = [.ref dr, v, .int (wnt : Int)] ∧ d < E ∧ IsG H d n m v ∧ n ≤ 10 ∧ DrI H dr ∧
  ∀ (p : Addr) (H' : Hp) (ws : List Str), But [dr] H H' → DrI H' dr → H p = none → LS H' p ws → okW ws → Pt wnt m (ws.map kd) → ws.length ≤ 12 * n → Q (.ref p) H'
theorem log_lt {i : Nat} (h : i ≤ 999999) : ((i : Int)).natAbs.log2 < 1920 := by
  show i.log2 < 1920
  by_cases h0 : i = 0
  · subst h0; decide
  · exact Nat.lt_of_lt_of_le ((Nat.log2_lt h0).mpr (show i < 2 ^ 20 by omega)) (by decide)
section
variable {P : Program} {w : World} {K : PySem.W.Frag} {mg : Str → Option Value} {base : Heap}
abbrev n_l_tokens : List Str := ["_law_drawn", "_law_value", "_law_wanted", "_law_tokens_here", "_law_own"]
theorem sc_l_tokens : FnScope n_l_tokens ["_law_drawn", "_law_value", "_law_wanted"] (defScope s_l_tokens) := ⟨rfl, rfl, rfl, by decide +kernel, rfl, by decide +kernel, by decide +kernel⟩
theorem ok_l_tokens1 (T : Txt K mg w) {D : Nat} {L : Nat} (hL : 2 ≤ L) (c_l_bare : Cal P w K mg base CX0 L "_law_bare" ["_law_drawn", "_law_value"] (spBareD D)) : Cal P w K mg base CX0 (L + 1) "_law_tokens" ["_law_drawn", "_law_value", "_law_wanted"] (spTokD D) := by
  have c_l_wrapped : Cal P w K mg base _ _ _ _ _ := ok_l_wrapped (P := P) (base := base) T
  refine ⟨ok0 (k := L) T.f_l_tokens sc_l_tokens (fun vs H Q E h => ?_) (fun _ _ _ _ _ _ us hl => match us, hl with | [_, _, _], _ => rfl) (fun cdv A outer s H vs Q E hr h => ?_), kpOf T.f_l_tokens, T.g_l_tokens⟩
  · obtain ⟨dr, v, wnt, d, n, m, rfl, _⟩ := h; rfl
  obtain ⟨dr, v, wnt, d, n, m, rfl, hdD, hv, hn, hd, q⟩ := h
  refine ⟨_, (pss_cons (ps_asg (pe_cal c_l_bare hr (by omega) rfl pass0 (pa_cons (pv 0) (pa_cons (pv 1) pa_nil))) (pg_lst rfl (pgs_cons (pg_name (i := 3) sc_l_tokens.nd rfl (by first | exact Or.inl rfl | exact Or.inr rfl)) (pgs_cons (pg_name (i := 4) sc_l_tokens.nd rfl (by first | exact Or.inl rfl | exact Or.inr rfl)) pgs_nil))))
    (pss_one (ps_ret (pe_cal c_l_wrapped hr (by omega) rfl pass0 (pa_cons (pv 0) (pa_cons (pv 3) (pa_cons (pe_cmpR op_lt (pv 4) (pv 2) (nomark _)) pa_nil))))))), ?_⟩
  refine ⟨_, rfl, _, rfl, dr, v, d, n, m, rfl, hdD, hv, hn, hd, fun p q1 H1 ws own b1 d1 hp hpl hls hok hpb hlen => ?_⟩
  refine ⟨p, _, rfl, SqL.of hpl, rfl, _, _, rfl, _, _, rfl, rfl, ?_⟩
  refine ⟨_, rfl, _, rfl, _, rfl, _, rfl, _, _, rfl, rfl, dr, q1, decide ((own : Int) < (wnt : Int)), ws, rfl, d1, hls, by omega, fun j p' H' b' d' hp' hl' hj1 hj3 => ?_⟩
  exact q p' H' _ (b1.trans b') d' (But.fresh b1 (by simpa using d1.ne hp') hp') hl' (brsS_ok hok) (by rw [brsS_kd]; exact pt_of hpb fun h => hj1 (decide_eq_true (by omega))) (by rw [brsS_len]; omega)
abbrev n_l_bare : List Str := ["_law_drawn", "_law_value", "_law_word", "_law_found", "_law_part", "_law_first", "_law_own", "_law_pattern"]
theorem sc_l_bare : FnScope n_l_bare ["_law_drawn", "_law_value"] (defScope s_l_bare) := ⟨rfl, rfl, rfl, by decide +kernel, rfl, by decide +kernel, by decide +kernel⟩
theorem ok_l_bare1 (T : Txt K mg w) {D : Nat} {L : Nat} (hL : 6 ≤ L) (c_l_tokens : Cal P w K mg base CX0 L "_law_tokens" ["_law_drawn", "_law_value", "_law_wanted"] (spTokD D)) : Cal P w K mg base CX0 (L + 1) "_law_bare" ["_law_drawn", "_law_value"] (spBareD (D + 1)) := by
  have c_l_pattern_tokens : Cal P w K mg base _ _ _ _ _ := ok_l_pattern_tokens (P := P) (base := base) T 3
  refine ⟨ok0 (k := L) T.f_l_bare sc_l_bare (fun vs H Q E h => ?_) (fun _ _ _ _ _ _ us hl => match us, hl with | [_, _], _ => rfl) (fun cdv A outer s H vs Q E hr h => ?_), kpOf T.f_l_bare, T.g_l_bare⟩
  · obtain ⟨dr, v, d, n, m, rfl, _⟩ := h; rfl
  obtain ⟨dr, v, d, n, m, rfl, hdD, hv, hn, hd, q⟩ := h
  refine ⟨_, (pss_cons (ps_set (i := 2) sc_l_bare.nd rfl (by first | exact Or.inl rfl | exact Or.inr rfl) (pe_ix ix_tup (pv 1) pe_int (fun _ _ => rfl)))
    (pss_cons (ps_if (pt_cmpR op_in_seq (pv 2) (pe_tup (pa_cons pe_str (pa_cons pe_str (pa_cons pe_str pa_nil)))) (by first | exact nomark _ | rfl)) (pss_one (ps_ret (pe_lst (pa_cons (pe_lst (pa_cons (pe_callTy (call_str_int.or SkE.call_str_str) rfl T.b_str (by decide +kernel) (pa_cons (pe_ix ix_tup (pv 1) (pe_un un_neg pe_int) (fun _ _ => rfl)) pa_nil)) pa_nil)) (pa_cons pe_int pa_nil))))) pss_nil)
    (pss_cons (ps_if (pt_cmpR op_eq (pv 2) pe_str (nomark _)) (pss_one (ps_ret (pe_lst (pa_cons (pe_op op_cat (pe_lst (pa_cons pe_str (pa_cons (pe_ix ix_tup (pv 1) pe_int (fun _ _ => rfl)) (pa_cons pe_str pa_nil)))) (pe_cal c_l_tokens hr (by omega) rfl pass0 (pa_cons (pv 0) (pa_cons (pe_ix ix_tup (pv 1) pe_int (fun _ _ => rfl)) (pa_cons pe_int pa_nil))))) (pa_cons pe_int pa_nil))))) pss_nil)
    (pss_cons (ps_if (pt_cmpR op_eq (pv 2) pe_str (nomark _)) (pss_cons (ps_set (i := 5) sc_l_bare.nd rfl (by first | exact Or.inl rfl | exact Or.inr rfl) (pe_cal c_l_tokens hr (by omega) rfl pass0 (pa_cons (pv 0) (pa_cons (pe_ix ix_tup (pv 1) pe_int (fun _ _ => rfl)) (pa_cons pe_int pa_nil)))))
    (pss_one (ps_ret (pe_lst (pa_cons (pe_op op_cat (pe_op op_cat (pe_op op_cat (pe_lst (pa_cons pe_str (pa_cons (pe_ix ix_tup (pv 1) pe_int (fun _ _ => rfl)) (pa_cons pe_str pa_nil)))) (pv 5)) (pe_lst (pa_cons pe_str pa_nil))) (pe_cal c_l_tokens hr (by omega) rfl pass0 (pa_cons (pv 0) (pa_cons (pe_ix ix_tup (pv 1) pe_int (fun _ _ => rfl)) (pa_cons pe_int pa_nil))))) (pa_cons pe_int pa_nil)))))) pss_nil)
    (pss_cons (ps_if (pt_cmpR op_eq (pv 2) pe_str (nomark _)) (pss_cons (ps_set (i := 6) sc_l_bare.nd rfl (by first | exact Or.inl rfl | exact Or.inr rfl) (pe_dget (hu_of hr) (pe_disp (pps_cons pe_str pe_int (pps_cons pe_str pe_int (pps_cons pe_str pe_int (pps_cons pe_str pe_int (pps_cons pe_str pe_int pps_nil))))) (by rfl) (by rfl) (fun z => by cases z) (by decide)) (pe_ix ix_tup (pv 1) pe_int (fun _ _ => rfl)) (fun _ _ => rfl)))
    (pss_cons (ps_set (i := 5) sc_l_bare.nd rfl (by first | exact Or.inl rfl | exact Or.inr rfl) (pe_cal c_l_tokens hr (by omega) rfl pass0 (pa_cons (pv 0) (pa_cons (pe_ix ix_tup (pv 1) pe_int (fun _ _ => rfl)) (pa_cons (pe_callB (call_max2 rfl) rfl T.b_max (by decide +kernel) (pa_cons (pv 6) (pa_cons pe_int pa_nil))) pa_nil)))))
    (pss_one (ps_ret (pe_lst (pa_cons (pe_op op_cat (pe_op op_cat (pv 5) (pe_lst (pa_cons (pe_ix ix_tup (pv 1) pe_int (fun _ _ => rfl)) pa_nil))) (pe_cal c_l_tokens hr (by omega) rfl pass0 (pa_cons (pv 0) (pa_cons (pe_ix ix_tup (pv 1) pe_int (fun _ _ => rfl)) (pa_cons (pe_op op_add (pv 6) pe_int) pa_nil))))) (pa_cons (pv 6) pa_nil))))))) pss_nil)
    (pss_cons (ps_if (pt_cmpR op_eq (pv 2) pe_str (nomark _)) (pss_cons (ps_set (i := 5) sc_l_bare.nd rfl (by first | exact Or.inl rfl | exact Or.inr rfl) (pe_cal c_l_tokens hr (by omega) rfl pass0 (pa_cons (pv 0) (pa_cons (pe_ix ix_tup (pv 1) pe_int (fun _ _ => rfl)) (pa_cons (pe_ifExp (pt_cmpR op_eq (pe_ix ix_tup (pe_ix ix_tup (pv 1) pe_int (fun _ _ => rfl)) pe_int (fun _ _ => rfl)) pe_str (nomark _)) pe_int pe_int) pa_nil)))))
    (pss_one (ps_ret (pe_lst (pa_cons (pe_op op_cat (pv 5) (pe_cal c_l_tokens hr (by omega) rfl pass0 (pa_cons (pv 0) (pa_cons (pe_ix ix_tup (pv 1) pe_int (fun _ _ => rfl)) (pa_cons pe_int pa_nil))))) (pa_cons pe_int pa_nil)))))) pss_nil)
    (pss_cut (ps_set (i := 3) sc_l_bare.nd rfl (by first | exact Or.inl rfl | exact Or.inr rfl) (pe_ifExp (pt_cmpR op_eq (pv 2) pe_str (nomark _)) (pe_op op_cat (pe_op op_cat (pe_lst (pa_cons pe_str pa_nil)) (pe_cal c_l_tokens hr (by omega) rfl pass0 (pa_cons (pv 0) (pa_cons (pe_ix ix_tup (pv 1) pe_int (fun _ _ => rfl)) (pa_cons pe_int pa_nil))))) (pe_lst (pa_cons pe_str pa_nil))) (pe_lst (pa_cons (pe_ix ix_tup (pv 1) pe_int (fun _ _ => rfl)) pa_nil))))
    (pss_cons (ps_for PassesOwn.never rfl (pi_tup (pe_ifExp (pt_cmpR op_eq (pv 2) pe_str (nomark _)) (pe_slice sl_tup (pv 1) (po_some pe_int) po_none) (pe_tup pa_nil))) (pg_name (i := 4) sc_l_bare.nd rfl (by first | exact Or.inl rfl | exact Or.inr rfl)) (pss_one (ps_set (i := 3) sc_l_bare.nd rfl (by first | exact Or.inl rfl | exact Or.inr rfl) (pe_op op_cat (pv 3) (pe_cal c_l_tokens hr (by omega) rfl pass0 (pa_cons (pv 0) (pa_cons (pv 4) (pa_cons pe_int pa_nil))))))))
    (pss_cons (ps_for PassesOwn.never rfl (pi_seq (pe_ifExp (pt_cmpR op_eq (pv 2) pe_str (nomark _)) (pe_ix ix_tup (pv 1) pe_int (fun _ _ => rfl)) (pe_tup pa_nil))) (pg_tup rfl (pgs_cons (pg_name (i := 7) sc_l_bare.nd rfl (by first | exact Or.inl rfl | exact Or.inr rfl)) (pgs_cons (pg_name (i := 4) sc_l_bare.nd rfl (by first | exact Or.inl rfl | exact Or.inr rfl)) pgs_nil))) (pss_one (ps_set (i := 3) sc_l_bare.nd rfl (by first | exact Or.inl rfl | exact Or.inr rfl) (pe_op op_cat (pe_op op_cat (pe_op op_cat (pe_op op_cat (pv 3) (pe_lst (pa_cons pe_str pa_nil))) (pe_cal c_l_pattern_tokens hr (by omega) rfl pass0 (pa_cons (pv 0) (pa_cons (pv 7) (pa_cons pe_bl pa_nil))))) (pe_lst (pa_cons pe_str pa_nil))) (pe_cal c_l_tokens hr (by omega) rfl pass0 (pa_cons (pv 0) (pa_cons (pv 4) (pa_cons pe_int pa_nil))))))))
    (pss_one (ps_ret (pe_ifExp (pt_cmpR op_eq (pv 2) pe_str (nomark _)) (pe_lst (pa_cons (pe_op op_cat (pv 3) (pe_lst (pa_cons pe_str pa_nil))) (pa_cons pe_int pa_nil))) (pe_lst (pa_cons (pv 3) (pa_cons (pe_op op_add pe_int (pe_callTy call_int1 rfl T.b_int (by decide +kernel) (pa_cons (pe_cmpR op_eq (pe_callB call_len rfl T.b_len PySem.boot_len (pa_cons (pv 1) pa_nil)) pe_int (nomark _)) pa_nil))) pa_nil))))))))))))))), ?_⟩
  have out : ∀ {H1 : Hp} {q1 : Addr} {ws : List Str} {own : Nat}, But [dr] H H1 → DrI H1 dr → LS H1 q1 ws → okW ws → Pb own m (ws.map kd) → ws.length + 6 ≤ 12 * n →
      ([V.ref q1, V.int (own : Int)].length ≤ sizeLine ∧ ∀ p, H1 p = none → Q (.ref p) (upd H1 p (.lst [.ref q1, .int (own : Int)]))) := fun {H1 q1 ws own} b1 d1 hl hok hpb hlen =>
    ⟨small_sz (by simp), fun p hp => q p q1 _ ws own (b1.trans (But.new hp)) (d1.new hp) (But.fresh b1 (by simpa using d1.ne hp) hp) upd_same (hl.ex (Ex.new hp)) hok hpb hlen⟩
  rcases hv.mk_or with ⟨rfl, a, z, cs, rfl, h, hz, hcs3, hnn, g⟩ | rfl
  · refine ⟨_, rfl, a, _, _, .str "make", rfl, rfl, SqT.of h, atI_nat (j := 0) rfl, ?_⟩
    refine ⟨_, rfl, small_sz (by simp), fun p hp => ⟨p, _, rfl, .inr (SqT.of upd_same), rfl, rfl, _, rfl, ?_⟩⟩
    have e1 := Ex.new (o := .tup [.str "number", .str "word", .str "hole"]) hp
    have d1 := hd.ex e1
    have b1 : But [dr] H _ := (ex_but.mp e1).mono (S' := [dr]) (by simp)
    have h1 := e1 _ _ h
    rw [show inV (V.str "make") [V.str "number", V.str "word", V.str "hole"] = false from by decide +kernel]
    refine iteF ?_
    refine ⟨_, rfl, rfl, _, rfl, ite_nm (fun h => absurd h (by decide +kernel)) (fun _ => ?_)⟩
    refine ⟨_, rfl, rfl, _, rfl, ite_nm (fun h => absurd h (by decide +kernel)) (fun _ => ?_)⟩
    refine ⟨_, rfl, rfl, _, rfl, ite_nm (fun h => absurd h (by decide +kernel)) (fun _ => ?_)⟩
    refine ⟨_, rfl, rfl, _, rfl, ite_nm (fun h => absurd h (by decide +kernel)) (fun _ => ?_)⟩
    refine ⟨fun σ2 H2 => ∃ p, σ2 = [some (.ref dr), some (.ref a), some (.str "make"), some (.ref p), none, none, none, none] ∧ But [dr] H H2 ∧ DrI H2 dr ∧ LS H2 p [z], ?_, ?_⟩
    · refine ⟨_, rfl, rfl, _, rfl, ite_nm (fun h => absurd h (by decide +kernel)) (fun _ => ?_)⟩
      exact ⟨_, rfl, a, _, _, .str z, rfl, rfl, SqT.of h1, atI_nat (j := 1) rfl, small_sz (by simp), fun p1 hp1 => ⟨p1, rfl, b1.trans (But.new hp1), d1.new hp1, upd_same⟩⟩
    rintro σ2 H2 ⟨p2, rfl, b2, d2, l2⟩
    have h2 := hd.tups b2 _ _ h
    obtain ⟨zs, z1, z2, z3⟩ := cut_tup (K := K) (k := 2) (ys := cs.map (·.1)) (SqT.of h2) (by decide) (by simp) rfl
    refine ⟨_, rfl, rfl, _, rfl, ite_nm (fun _ => ?_) (fun h => absurd rfl h)⟩
    refine ⟨_, rfl, _, rfl, a, zs, rfl, z1, z2, fun l hl => ?_⟩
    rw [show cutV zs (some 2) none = cs.map (·.1) from z3]
    have e3 := Ex.new (o := .tup (cs.map (·.1))) hl
    have hld : l ≠ dr := d2.ne hl
    refine ⟨l, rfl, ⟨_, SqT.of upd_same⟩, ?_⟩
    refine for_tup (xs := cs.map (·.1)) (fun i σ H' => ∃ (o4 : Option V) (p : Addr) (ws : List Str), σ = [some (.ref dr), some (.ref a), some (.str "make"), some (.ref p), o4, none, none, none] ∧ But [dr] H H' ∧ DrI H' dr ∧ H' l = some (.tup (cs.map (·.1))) ∧ LS H' p ws ∧ okW ws ∧ ws.length ≤ 1 + 12 * ((cs.take i).map (·.2.1)).sum ∧ (i = 0 → ws = [z]) ∧ MkP i (ws.map kd)) ?_ ?_ ?_ ?_
    · exact ⟨_, p2, [z], rfl, b2.trans ((ex_but.mp e3).mono (by simp)), d2.ex e3, upd_same, l2.ex e3, okW.cons hz.2 okW.nil, by simp, fun _ => rfl, by rw [List.map_cons, hz.1]; exact mkp0⟩
    · rintro i σ H' _ ⟨o4, p, ws, rfl, _, _, h, _⟩
      exact SqT.of h
    · rintro i x σ H' hi ⟨o4, p, ws, rfl, b', d', hl', hls, hok, hlen, h0, hmp⟩
      obtain ⟨c, hc, rfl⟩ : ∃ c, cs[i]? = some c ∧ x = c.1 := by
        rw [List.getElem?_map] at hi
        cases e : cs[i]? with
        | none => rw [e] at hi; cases hi
        | some t => rw [e] at hi; exact ⟨t, rfl, (Option.some.inj hi).symm⟩
      have hm := List.mem_of_getElem? hc
      have hi2 : i < cs.length := (List.getElem?_eq_some_iff.mp hc).1
      have hc2 := le_sumG (g := fun c : V × Nat × Bool => c.2.1) hm
      have hst := sum_takeG (g := fun c : V × Nat × Bool => c.2.1) hc
      have hle := sum_leG (g := fun c : V × Nat × Bool => c.2.1) (l := cs) (k := i + 1)
      obtain ⟨dd, rfl, gc⟩ := g c hm
      refine ⟨_, rfl, _, rfl, _, rfl, dr, c.1, 5, dd, c.2.1, c.2.2, rfl, by omega, gc.mono (hd.tups b'), by omega, d', fun p2 H2 ws2 b2 d2 hp2 hl2 hok2 hpt hlen2 => ?_⟩
      refine cat_ls (hls.but b2 (ints_strs d' hls)) hl2 (by omega) fun p3 H3 hp3 e3 hl3 => ?_
      refine ⟨_, p3, ws ++ ws2, rfl, (b'.trans b2).trans ((ex_but.mp e3).mono (by simp)), d2.ex e3, e3 _ _ (b2 l _ (by simpa using hld) hl'), hl3, hok.app hok2, by rw [List.length_append, hst]; omega, fun h => by omega, ?_⟩
      rw [List.map_append]
      exact mkp_more hmp (by omega) (hpt.2.1 (Nat.le_refl _))
    · rintro σ H' ⟨o4, p, ws, rfl, b', d', hl', hls, hok, hlen, h0, hmp⟩
      rw [List.length_map, List.take_length] at hlen
      rw [List.length_map] at h0 hmp
      have ha' := hd.tups b' _ _ h
      refine ⟨_, rfl, rfl, _, rfl, ite_nm (fun h => absurd h (by decide +kernel)) (fun _ => ?_)⟩
      refine ⟨small_sz (by simp), fun q2 hq2 => ⟨q2, rfl, .inr ⟨⟨[], SqT.of upd_same⟩, ?_⟩⟩⟩
      have e4 := Ex.new (o := .tup []) hq2
      refine for_tup (xs := []) (fun i σ H'' => i = 0 ∧ σ = [some (.ref dr), some (.ref a), some (.str "make"), some (.ref p), o4, none, none, none] ∧ H'' = upd H' q2 (.tup [])) ⟨rfl, rfl, rfl⟩ ?_ ?_ ?_
      · rintro i σ H'' _ ⟨_, rfl, rfl⟩
        exact SqT.of upd_same
      · rintro i x σ H'' hi _
        simp at hi
      · rintro σ H'' ⟨_, rfl, rfl⟩
        refine ⟨_, rfl, rfl, _, rfl, ite_nm (fun h => absurd h (by decide +kernel)) (fun _ => ?_)⟩
        refine ⟨_, rfl, _, rfl, _, _, rfl, .inr ⟨_, SqT.of (e4 _ _ ha'), rfl⟩, rfl, .inr ⟨_, rfl, _, _, rfl, rfl, ?_⟩⟩
        have bb : But [dr] H (upd H' q2 (.tup [])) := b'.trans ((ex_but.mp e4).mono (by simp))
        have dd := d'.ex e4
        cases cs with
        | nil =>
          have hw := h0 rfl
          subst hw
          have := out (own := 5) bb dd (hls.ex e4) hok (by rw [List.map_cons, hz.1]; exact pb_make0) (by simp; omega)
          exact this
        | cons c r =>
          have := out (own := 4) bb dd (hls.ex e4) hok (pb_make hmp) (by omega)
          have e : (4 : Int) + (if decide (V.int (((V.str "make" :: V.str z :: (c :: r).map (·.1)).length : Nat) : Int) = V.int 2) = true then 1 else 0) = ((4 : Nat) : Int) := by
            rw [if_neg]
            · rfl
            · intro hx
              have := V.int.inj (of_decide_eq_true hx)
              have hl : (V.str "make" :: V.str z :: (c :: r).map (·.1)).length = r.length + 3 := by simp
              rw [hl] at this
              omega
          rw [← e] at this
          exact this
  cases hv with
  | @num a d i h hi =>
    refine ⟨_, rfl, a, _, _, .str "number", rfl, rfl, SqT.of h, atI_nat (j := 0) rfl, ?_⟩
    refine ⟨_, rfl, small_sz (by simp), fun p hp => ⟨p, _, rfl, .inr (SqT.of upd_same), rfl, rfl, _, rfl, ?_⟩⟩
    have e1 := Ex.new (o := .tup [.str "number", .str "word", .str "hole"]) hp
    rw [show inV (V.str "number") [V.str "number", V.str "word", V.str "hole"] = true from by decide +kernel]
    refine iteT ⟨_, rfl, _, rfl, a, _, _, .int (i : Int), rfl, rfl, SqT.of (e1 _ _ h), rfl, .inl ⟨_, rfl, ?_, small_sz (by simp), fun p2 hp2 => ?_⟩⟩
    · exact log_lt hi
    · have e2 := Ex.new (o := .lst [.str (Str.ofString (toString (i : Int)))]) hp2
      have hz : Str.ofString (toString (i : Int)) = numZ i := SX.num_S i
      obtain ⟨k1, k2⟩ := num_kd hi
      refine out (ws := [numZ i]) (own := 5) ((ex_but.mp (e1.trans e2)).mono (by simp)) (hd.ex (e1.trans e2)) ?_ (okW.cons k2 okW.nil) ?_ (by simp)
      · rw [← hz]; exact upd_same
      · rw [List.map_cons, k1]; exact pb_al al_num
  | @hole a d h =>
    refine ⟨_, rfl, a, _, _, .str "hole", rfl, rfl, SqT.of h, atI_nat (j := 0) rfl, ?_⟩
    refine ⟨_, rfl, small_sz (by simp), fun p hp => ⟨p, _, rfl, .inr (SqT.of upd_same), rfl, rfl, _, rfl, ?_⟩⟩
    have e1 := Ex.new (o := .tup [.str "number", .str "word", .str "hole"]) hp
    rw [show inV (V.str "hole") [V.str "number", V.str "word", V.str "hole"] = true from by decide +kernel]
    refine iteT ⟨_, rfl, _, rfl, a, _, _, .str "hole", rfl, rfl, SqT.of (e1 _ _ h), rfl, .inr ⟨_, rfl, small_sz (by simp), fun p2 hp2 => ?_⟩⟩
    have e2 := Ex.new (o := .lst [.str "hole"]) hp2
    exact out (ws := ["hole"]) (own := 5) ((ex_but.mp (e1.trans e2)).mono (by simp)) (hd.ex (e1.trans e2)) upd_same (okW.cons (by decide +kernel) okW.nil) (by rw [List.map_cons, k_hole]; exact pb_al al_hole) (by simp)
  | @word a d z h hz =>
    refine ⟨_, rfl, a, _, _, .str "word", rfl, rfl, SqT.of h, atI_nat (j := 0) rfl, ?_⟩
    refine ⟨_, rfl, small_sz (by simp), fun p hp => ⟨p, _, rfl, .inr (SqT.of upd_same), rfl, rfl, _, rfl, ?_⟩⟩
    have e1 := Ex.new (o := .tup [.str "number", .str "word", .str "hole"]) hp
    rw [show inV (V.str "word") [V.str "number", V.str "word", V.str "hole"] = true from by decide +kernel]
    refine iteT ⟨_, rfl, _, rfl, a, _, _, .str z, rfl, rfl, SqT.of (e1 _ _ h), rfl, .inr ⟨_, rfl, small_sz (by simp), fun p2 hp2 => ?_⟩⟩
    have e2 := Ex.new (o := .lst [.str z]) hp2
    exact out (ws := [z]) (own := 5) ((ex_but.mp (e1.trans e2)).mono (by simp)) (hd.ex (e1.trans e2)) upd_same (okW.cons hz.2 okW.nil) (by rw [List.map_cons, hz.1]; exact pb_al al_word) (by simp)
  | @fn a d n' m' z e h hz g =>
    refine ⟨_, rfl, a, _, _, .str "fun", rfl, rfl, SqT.of h, atI_nat (j := 0) rfl, ?_⟩
    refine ⟨_, rfl, small_sz (by simp), fun p hp => ⟨p, _, rfl, .inr (SqT.of upd_same), rfl, rfl, _, rfl, ?_⟩⟩
    have e1 := Ex.new (o := .tup [.str "number", .str "word", .str "hole"]) hp
    have d1 := hd.ex e1
    have b1 : But [dr] H _ := (ex_but.mp e1).mono (S' := [dr]) (by simp)
    have h1 := e1 _ _ h
    rw [show inV (V.str "fun") [V.str "number", V.str "word", V.str "hole"] = false from by decide +kernel]
    refine iteF ?_
    refine ⟨_, rfl, rfl, _, rfl, ite_nm (fun _ => ?_) (fun h => absurd rfl h)⟩
    refine ⟨_, rfl, a, _, _, .str z, rfl, rfl, SqT.of h1, atI_nat (j := 1) rfl, small_sz (by simp), fun p1 hp1 => ?_⟩
    have e2 := Ex.new (o := .lst ([("fun" : Str), z, "->"].map V.str)) hp1
    have l1 : LS _ p1 [("fun" : Str), z, "->"] := new_ls (H := upd H p (.tup [.str "number", .str "word", .str "hole"]))
    have d2 := d1.ex e2
    refine ⟨_, rfl, _, rfl, a, _, _, e, rfl, rfl, SqT.of (e2 _ _ h1), atI_nat (j := 2) rfl, dr, e, 0, d, n', m', rfl, by omega, g.mono (Ex.tups (e1.trans e2)), by omega, d2, fun p3 H3 ws b3 d3 hp3 hl3 hok3 hpt hlen => ?_⟩
    refine cat_ls (l1.but b3 (d1.ne hp1)) hl3 (by simp; omega) fun p4 H4 hp4 e4 hl4 => ?_
    refine out (own := 0) ((b1.trans (But.new hp1)).trans (b3.trans ((ex_but.mp e4).mono (by simp)))) (d3.ex e4) hl4 ((okW.cons (by decide +kernel) (okW.cons hz.2 (okW.cons (by decide +kernel) okW.nil))).app hok3) ?_ (by simp; omega)
    rw [List.map_append, List.map_cons, List.map_cons, List.map_cons, k_fun, hz.1, k_arrow]
    exact pb_fun (hpt.1 0 (Nat.le_refl _) (by omega))
  | @lt a d n1 n2 m1 m2 z e f h hz g1 g2 =>
    refine ⟨_, rfl, a, _, _, .str "let", rfl, rfl, SqT.of h, atI_nat (j := 0) rfl, ?_⟩
    refine ⟨_, rfl, small_sz (by simp), fun p hp => ⟨p, _, rfl, .inr (SqT.of upd_same), rfl, rfl, _, rfl, ?_⟩⟩
    have e1 := Ex.new (o := .tup [.str "number", .str "word", .str "hole"]) hp
    have d1 := hd.ex e1
    have b1 : But [dr] H _ := (ex_but.mp e1).mono (S' := [dr]) (by simp)
    have h1 := e1 _ _ h
    rw [show inV (V.str "let") [V.str "number", V.str "word", V.str "hole"] = false from by decide +kernel]
    refine iteF ?_
    refine ⟨_, rfl, rfl, _, rfl, ite_nm (fun h => absurd h (by decide +kernel)) (fun _ => ?_)⟩
    refine ⟨_, rfl, rfl, _, rfl, ite_nm (fun _ => ?_) (fun h => absurd rfl h)⟩
    refine ⟨_, rfl, _, rfl, a, _, _, e, rfl, rfl, SqT.of h1, atI_nat (j := 2) rfl, dr, e, 0, d, n1, m1, rfl, by omega, g1.mono (Ex.tups e1), by omega, d1, fun f1 H2 ws1 b2 d2 hf1 hl1 hok1 hpt1 hlen1 => ?_⟩
    have h2 := d1.tups b2 _ _ h1
    refine ⟨_, rfl, a, _, _, .str z, rfl, rfl, SqT.of h2, atI_nat (j := 1) rfl, small_sz (by simp), fun p1 hp1 => ?_⟩
    have e3 := Ex.new (o := .lst ([("let" : Str), z, "="].map V.str)) hp1
    have l1 : LS _ p1 [("let" : Str), z, "="] := new_ls (H := H2)
    refine ⟨_, rfl, cat_ls l1 (hl1.ex e3) (by simp; omega) fun p4 H4 hp4 e4 hl4 => ?_⟩
    refine ⟨small_sz (by simp), fun p5 hp5 => ?_⟩
    have e5 := Ex.new (o := .lst ([("in" : Str)].map V.str)) hp5
    refine cat_ls (hl4.ex e5) (new_ls (H := H4) (ws := ["in"])) (by simp; omega) fun p6 H6 hp6 e6 hl6 => ?_
    have e36 := ((e3.trans e4).trans e5).trans e6
    have d6 := d2.ex e36
    refine ⟨_, rfl, _, rfl, a, _, _, f, rfl, rfl, SqT.of (e36 _ _ h2), atI_nat (j := 3) rfl, dr, f, 0, d, n2, m2, rfl, by omega, g2.mono (((Ex.tups e1).trans (d1.tups b2)).trans (Ex.tups e36)), by omega, d6, fun f2 H7 ws2 b7 d7 hf2 hl2 hok2 hpt2 hlen2 => ?_⟩
    refine cat_ls (hl6.but b7 (ints_strs d6 hl6)) hl2 (by simp; omega) fun p8 H8 hp8 e8 hl8 => ?_
    refine out (own := 0) (((b1.trans b2).trans ((ex_but.mp e36).mono (by simp))).trans (b7.trans ((ex_but.mp e8).mono (by simp)))) (d7.ex e8) hl8 ((((okW.cons (by decide +kernel) (okW.cons hz.2 (okW.cons (by decide +kernel) okW.nil))).app hok1).app (okW.cons (by decide +kernel) okW.nil)).app hok2) ?_ (by simp; omega)
    have : (([("let" : Str), z, "="] ++ ws1 ++ [("in" : Str)]) ++ ws2).map kd = .klet :: .word :: .eq :: (ws1.map kd ++ .kin :: ws2.map kd) := by
      simp only [List.map_append, List.map_cons, List.map_nil, k_let, hz.1, k_eq, k_in]
      simp
    rw [this]
    exact pb_let (hpt1.1 0 (Nat.le_refl _) (by omega)) (hpt2.1 0 (Nat.le_refl _) (by omega))
  | @op a d n1 n2 m1 m2 z e f h hz g1 g2 =>
    refine ⟨_, rfl, a, _, _, .str "op", rfl, rfl, SqT.of h, atI_nat (j := 0) rfl, ?_⟩
    refine ⟨_, rfl, small_sz (by simp), fun p hp => ⟨p, _, rfl, .inr (SqT.of upd_same), rfl, rfl, _, rfl, ?_⟩⟩
    have e1 := Ex.new (o := .tup [.str "number", .str "word", .str "hole"]) hp
    have d1 := hd.ex e1
    have b1 : But [dr] H _ := (ex_but.mp e1).mono (S' := [dr]) (by simp)
    have h1 := e1 _ _ h
    rw [show inV (V.str "op") [V.str "number", V.str "word", V.str "hole"] = false from by decide +kernel]
    refine iteF ?_
    refine ⟨_, rfl, rfl, _, rfl, ite_nm (fun h => absurd h (by decide +kernel)) (fun _ => ?_)⟩
    refine ⟨_, rfl, rfl, _, rfl, ite_nm (fun h => absurd h (by decide +kernel)) (fun _ => ?_)⟩
    refine ⟨_, rfl, rfl, _, rfl, ite_nm (fun _ => ?_) (fun h => absurd rfl h)⟩
    obtain ⟨v1, v2, v3, v4⟩ := kvO_ok z hz
    generalize ho : str (kd z) = o at *
    refine fun pd hpd => ⟨upd_same, kvO, rfl, by decide, ?_⟩
    have e2 : Ex (upd H p (.tup [.str "number", .str "word", .str "hole"])) (upd (upd (upd H p (.tup [.str "number", .str "word", .str "hole"])) pd (.dK [])) pd (.dK (mergeK [] kvO))) := Ex.mut (Ex.new hpd) hpd
    have h2 := e2 _ _ h1
    refine ⟨_, rfl, a, _, _, .str z, rfl, rfl, SqT.of h2, atI_nat (j := 1) rfl, pd, .int (o : Int), rfl, ?_, ?_⟩
    · have := DGet.k (k := .inr z) (upd_same (H := upd (upd H p (.tup [.str "number", .str "word", .str "hole"])) pd (.dK [])) (a := pd) (o := .dK (mergeK [] kvO)))
      rw [v1] at this
      exact this
    have d2 := d1.ex e2
    have hmx : (if (2 : Int) > (o : Int) then (2 : Int) else (o : Int)) = ((max o 2 : Nat) : Int) := by split <;> omega
    refine ⟨_, rfl, _, rfl, a, _, _, e, rfl, rfl, SqT.of h2, atI_nat (j := 2) rfl, _, rfl, _, _, rfl, dr, e, max o 2, d, n1, m1, by rw [← hmx]; rfl, by omega, g1.mono (Ex.tups (e1.trans e2)), by omega, d2, fun f1 H3 ws1 b3 d3 hf1 hl1 hok1 hpt1 hlen1 => ?_⟩
    have h3 := d2.tups b3 _ _ h2
    refine ⟨_, rfl, _, rfl, a, _, _, .str z, rfl, rfl, SqT.of h3, atI_nat (j := 1) rfl, small_sz (by simp), fun p5 hp5 => ?_⟩
    have e5 := Ex.new (o := .lst ([z].map V.str)) hp5
    refine cat_ls (hl1.ex e5) (new_ls (H := H3) (ws := [z])) (by simp; omega) fun p6 H6 hp6 e6 hl6 => ?_
    have e56 := e5.trans e6
    have d6 := d3.ex e56
    refine ⟨_, rfl, _, rfl, a, _, _, f, rfl, rfl, SqT.of (e56 _ _ h3), atI_nat (j := 3) rfl, _, rfl, _, _, rfl, rfl, dr, f, o + 1, d, n2, m2, by push_cast; rfl, by omega, g2.mono (((Ex.tups (e1.trans e2)).trans (d2.tups b3)).trans (Ex.tups e56)), by omega, d6, fun f2 H7 ws2 b7 d7 hf2 hl2 hok2 hpt2 hlen2 => ?_⟩
    refine cat_ls (hl6.but b7 (ints_strs d6 hl6)) hl2 (by simp; omega) fun p8 H8 hp8 e8 hl8 => ?_
    refine ⟨_, rfl, ?_⟩
    refine out (own := o) ((((b1.trans ((ex_but.mp e2).mono (by simp))).trans b3).trans ((ex_but.mp e56).mono (by simp))).trans (b7.trans ((ex_but.mp e8).mono (by simp)))) (d7.ex e8) hl8 ((hok1.app (okW.cons v4 okW.nil)).app hok2) ?_ (by simp; omega)
    have : ((ws1 ++ [z]) ++ ws2).map kd = ws1.map kd ++ kd z :: ws2.map kd := by simp
    rw [this, ← ho]
    rw [← ho] at v2 hpt1 hpt2 v3
    exact pb_op v2 (hpt1.1 _ (Nat.le_refl _) (by omega)) (hpt2.1 _ (Nat.le_refl _) (by omega))
  | @call a d n1 n2 m1 m2 e f h g1 g2 =>
    refine ⟨_, rfl, a, _, _, .str "call", rfl, rfl, SqT.of h, atI_nat (j := 0) rfl, ?_⟩
    refine ⟨_, rfl, small_sz (by simp), fun p hp => ⟨p, _, rfl, .inr (SqT.of upd_same), rfl, rfl, _, rfl, ?_⟩⟩
    have e1 := Ex.new (o := .tup [.str "number", .str "word", .str "hole"]) hp
    have d1 := hd.ex e1
    have b1 : But [dr] H _ := (ex_but.mp e1).mono (S' := [dr]) (by simp)
    have h1 := e1 _ _ h
    rw [show inV (V.str "call") [V.str "number", V.str "word", V.str "hole"] = false from by decide +kernel]
    refine iteF ?_
    refine ⟨_, rfl, rfl, _, rfl, ite_nm (fun h => absurd h (by decide +kernel)) (fun _ => ?_)⟩
    refine ⟨_, rfl, rfl, _, rfl, ite_nm (fun h => absurd h (by decide +kernel)) (fun _ => ?_)⟩
    refine ⟨_, rfl, rfl, _, rfl, ite_nm (fun h => absurd h (by decide +kernel)) (fun _ => ?_)⟩
    refine ⟨_, rfl, rfl, _, rfl, ite_nm (fun _ => ?_) (fun h => absurd rfl h)⟩
    obtain ⟨ae, we, re, rfl, hae, hwe⟩ := g1.hd
    have hae1 := e1 _ _ hae
    obtain ⟨wn, hwn, hFn⟩ : ∃ wn : Nat, (if we = ("make" : Str) then (6 : Int) else 4) = (wn : Int) ∧ ∀ ts, Pt wn m1 ts → Fn ts := by
      rcases hwe with ⟨rfl, rfl⟩ | ⟨hw, rfl⟩
      · exact ⟨6, by rw [if_pos rfl]; rfl, fun ts h => h.2.2 (.inr rfl)⟩
      · exact ⟨4, by rw [if_neg hw]; rfl, fun ts h => h.2.2 (.inl ⟨rfl, rfl⟩)⟩
    refine ⟨_, rfl, _, rfl, a, _, _, .ref ae, rfl, rfl, SqT.of h1, atI_nat (j := 1) rfl, ?_⟩
    have cont : ∀ i : Int, i = (wn : Int) → spTokD D [.ref dr, .ref ae, .int i] (upd H p (.tup [.str "number", .str "word", .str "hole"])) (fun x H1 => gName 5 x [some (.ref dr), some (.ref a), some (.str "call"), none, none, none, none, none] H1 fun σ2 H2 => tRet (tLst (tCons (tOp rCat (tVar 5) (tCall (spTokD D) [] (fun _ _ _ => False) (tCons (tVar 0) (tCons (tOp (rIxT K) (tVar 1) (tC (.int 2))) (tCons (tC (.int 5)) tNil))))) (tCons (tC (.int 4)) tNil))) { nx := fun _ H' => Q .non H', rt := Q } σ2 H2) (fun _ _ _ => False) := by
      rintro i rfl
      refine ⟨dr, .ref ae, wn, d, n1, m1, rfl, by omega, g1.mono (Ex.tups e1), by omega, d1, fun f1 H3 ws1 b3 d3 hf1 hl1 hok1 hpt1 hlen1 => ?_⟩
      have h3 := d1.tups b3 _ _ h1
      refine ⟨_, rfl, _, rfl, _, rfl, a, _, _, f, rfl, rfl, SqT.of h3, atI_nat (j := 2) rfl, dr, f, 5, d, n2, m2, rfl, by omega, g2.mono ((Ex.tups e1).trans (d1.tups b3)), by omega, d3, fun f2 H7 ws2 b7 d7 hf2 hl2 hok2 hpt2 hlen2 => ?_⟩
      refine cat_ls (hl1.but b7 (ints_strs d3 hl1)) hl2 (by omega) fun p8 H8 hp8 e8 hl8 => ?_
      refine out (own := 4) ((b1.trans b3).trans (b7.trans ((ex_but.mp e8).mono (by simp)))) (d7.ex e8) hl8 (hok1.app hok2) ?_ (by simp; omega)
      rw [List.map_append]
      exact pb_call (hFn _ hpt1) (hpt2.2.1 (Nat.le_refl _))
    refine ⟨_, rfl, a, _, _, .ref ae, rfl, rfl, SqT.of h1, atI_nat (j := 1) rfl, ae, _, _, .str we, rfl, rfl, SqT.of hae1, atI_nat (j := 0) rfl, rfl, _, rfl, ?_⟩
    refine ite_nm (fun hm => cont 6 (by rw [← hwn, if_pos hm])) (fun hm => cont 4 (by rw [← hwn, if_neg hm]))
  | @mt a r d n1 m1 e rows h g h3 h4 h5 h6 h7 =>
    refine ⟨_, rfl, a, _, _, .str "match", rfl, rfl, SqT.of h, atI_nat (j := 0) rfl, ?_⟩
    refine ⟨_, rfl, small_sz (by simp), fun p hp => ⟨p, _, rfl, .inr (SqT.of upd_same), rfl, rfl, _, rfl, ?_⟩⟩
    have e1 := Ex.new (o := .tup [.str "number", .str "word", .str "hole"]) hp
    have d1 := hd.ex e1
    have b1 : But [dr] H _ := (ex_but.mp e1).mono (S' := [dr]) (by simp)
    have h1 := e1 _ _ h
    rw [show inV (V.str "match") [V.str "number", V.str "word", V.str "hole"] = false from by decide +kernel]
    refine iteF ?_
    refine ⟨_, rfl, rfl, _, rfl, ite_nm (fun h => absurd h (by decide +kernel)) (fun _ => ?_)⟩
    refine ⟨_, rfl, rfl, _, rfl, ite_nm (fun h => absurd h (by decide +kernel)) (fun _ => ?_)⟩
    refine ⟨_, rfl, rfl, _, rfl, ite_nm (fun h => absurd h (by decide +kernel)) (fun _ => ?_)⟩
    refine ⟨_, rfl, rfl, _, rfl, ite_nm (fun h => absurd h (by decide +kernel)) (fun _ => ?_)⟩
    refine ⟨fun σ2 H2 => ∃ p ws, σ2 = [some (.ref dr), some (.ref a), some (.str "match"), some (.ref p), none, none, none, none] ∧ But [dr] H H2 ∧ DrI H2 dr ∧ LS H2 p ws ∧ okW ws ∧ ws.length ≤ 2 + 12 * n1 ∧ RowP 0 (ws.map kd), ?_, ?_⟩
    · refine ⟨_, rfl, rfl, _, rfl, ite_nm (fun _ => ?_) (fun h => absurd rfl h)⟩
      refine ⟨small_sz (by simp), fun p1 hp1 => ?_⟩
      have e2 := Ex.new (o := .lst ([("match" : Str)].map V.str)) hp1
      have l1 : LS _ p1 [("match" : Str)] := new_ls (H := upd H p (.tup [.str "number", .str "word", .str "hole"]))
      have d2 := d1.ex e2
      refine ⟨_, rfl, _, rfl, a, _, _, e, rfl, rfl, SqT.of (e2 _ _ h1), atI_nat (j := 1) rfl, dr, e, 0, d, n1, m1, rfl, by omega, g.mono (Ex.tups (e1.trans e2)), by omega, d2, fun f1 H3 ws1 b3 d3 hf1 hl1 hok1 hpt1 hlen1 => ?_⟩
      refine cat_ls (l1.but b3 (d1.ne hp1)) hl1 (by simp; omega) fun p4 H4 hp4 e4 hl4 => ?_
      refine ⟨small_sz (by simp), fun p5 hp5 => ?_⟩
      have e5 := Ex.new (o := .lst ([("with" : Str)].map V.str)) hp5
      refine cat_ls (hl4.ex e5) (new_ls (H := H4) (ws := ["with"])) (by simp; omega) fun p6 H6 hp6 e6 hl6 => ?_
      have e46 := (e4.trans e5).trans e6
      refine ⟨p6, _, rfl, ((b1.trans (But.new hp1)).trans b3).trans ((ex_but.mp e46).mono (by simp)), d3.ex e46, hl6, ((okW.cons (by decide +kernel) okW.nil).app hok1).app (okW.cons (by decide +kernel) okW.nil), by simp; omega, ?_⟩
      have : (([("match" : Str)] ++ ws1) ++ [("with" : Str)]).map kd = .kmatch :: ws1.map kd ++ [.kwith] := by
        simp only [List.map_append, List.map_cons, List.map_nil, k_match, k_with]; rfl
      rw [this]
      exact rowp0 (hpt1.1 0 (Nat.le_refl _) (by omega))
    rintro σ2 H2 ⟨p2, ws2, rfl, b2, d2, l2, ok2, len2, rp2⟩
    refine ⟨_, rfl, rfl, _, rfl, ite_nm (fun h => absurd h (by decide +kernel)) (fun _ => ?_)⟩
    refine ⟨small_sz (by simp), fun q2 hq2 => ⟨q2, rfl, ⟨[], SqT.of upd_same⟩, ?_⟩⟩
    have e3 := Ex.new (o := .tup []) hq2
    refine for_tup (xs := []) (fun i σ H'' => i = 0 ∧ σ = [some (.ref dr), some (.ref a), some (.str "match"), some (.ref p2), none, none, none, none] ∧ H'' = upd H2 q2 (.tup [])) ⟨rfl, rfl, rfl⟩ ?_ ?_ ?_
    · rintro i σ H'' _ ⟨_, rfl, rfl⟩
      exact SqT.of upd_same
    · rintro i x σ H'' hi _
      simp at hi
    rintro σ H'' ⟨_, rfl, rfl⟩
    have t3 := (hd.tups b2).trans (Ex.tups e3)
    refine ⟨_, rfl, rfl, _, rfl, ite_nm (fun _ => ?_) (fun h => absurd rfl h)⟩
    refine ⟨_, rfl, a, _, _, .ref r, rfl, rfl, SqT.of (t3 _ _ h), atI_nat (j := 2) rfl, r, rfl, .inr ⟨⟨_, SqT.of (t3 _ _ h3)⟩, ?_⟩⟩
    refine for_tup (xs := rows.map fun t => V.ref t.1) (fun i σ H' => ∃ (o4 o7 : Option V) (p : Addr) (ws : List Str), σ = [some (.ref dr), some (.ref a), some (.str "match"), some (.ref p), o4, none, none, o7] ∧ But [dr] H H' ∧ DrI H' dr ∧ LS H' p ws ∧ okW ws ∧ ws.length ≤ 2 + 12 * n1 + 12 * ((rows.take i).map fun t => t.2.1.2 + t.2.2.2.1).sum ∧ RowP i (ws.map kd)) ?_ ?_ ?_ ?_
    · exact ⟨_, _, p2, ws2, rfl, b2.trans ((ex_but.mp e3).mono (by simp)), d2.ex e3, l2.ex e3, ok2, by simp; omega, rp2⟩
    · rintro i σ H' _ ⟨o4, o7, p, ws, rfl, b', _⟩
      exact SqT.of (hd.tups b' _ _ h3)
    · rintro i x σ H' hi ⟨o4, o7, p, ws, rfl, b', d', hls, hok, hlen, hrp⟩
      obtain ⟨t, ht, rfl⟩ : ∃ t, rows[i]? = some t ∧ x = .ref t.1 := by
        rw [List.getElem?_map] at hi
        cases e : rows[i]? with
        | none => rw [e] at hi; cases hi
        | some t => rw [e] at hi; exact ⟨t, rfl, (Option.some.inj hi).symm⟩
      have hm := List.mem_of_getElem? ht
      have hi2 : i < rows.length := (List.getElem?_eq_some_iff.mp ht).1
      have hc2 := le_sumG (g := fun t : Addr × (V × Nat) × (V × Nat × Bool) => t.2.1.2 + t.2.2.2.1) hm
      have hst := sum_takeG (g := fun t : Addr × (V × Nat) × (V × Nat × Bool) => t.2.1.2 + t.2.2.2.1) ht
      have hle := sum_leG (g := fun t : Addr × (V × Nat) × (V × Nat × Bool) => t.2.1.2 + t.2.2.2.1) (l := rows) (k := i + 1)
      have hpos := (h5 t hm).pos
      refine ⟨t.1, _, rfl, SqT.of (hd.tups b' _ _ (h4 t hm)), rfl, _, _, rfl, _, _, rfl, rfl, ?_⟩
      refine ⟨_, rfl, small_sz (by simp), fun p1 hp1 => ?_⟩
      have e1 := Ex.new (o := .lst ([("|" : Str)].map V.str)) hp1
      refine cat_ls (hls.ex e1) (new_ls (H := H') (ws := ["|"])) (by simp; omega) fun p2 H2 hp2 e2 hl2 => ?_
      have e12 := e1.trans e2
      have d2 := d'.ex e12
      have t2 := (hd.tups b').trans (Ex.tups e12)
      refine ⟨_, rfl, _, rfl, dr, t.2.1.1, false, 2, t.2.1.2, rfl, by decide, (h5 t hm).mono t2, by omega, d2, fun p3 H3 wsp b3 d3 hp3 hl3 hok3 hpp hlen3 => ?_⟩
      refine cat_ls (hl2.but b3 (ints_strs d2 hl2)) hl3 (by simp; omega) fun p4 H4 hp4 e4 hl4 => ?_
      refine ⟨small_sz (by simp), fun p5 hp5 => ?_⟩
      have e5 := Ex.new (o := .lst ([("->" : Str)].map V.str)) hp5
      refine cat_ls (hl4.ex e5) (new_ls (H := H4) (ws := ["->"])) (by simp; omega) fun p6 H6 hp6 e6 hl6 => ?_
      have e46 := (e4.trans e5).trans e6
      have d6 := d3.ex e46
      have t6 := (t2.trans (d2.tups b3)).trans (Ex.tups e46)
      refine ⟨_, rfl, _, rfl, dr, t.2.2.1, 0, d, t.2.2.2.1, t.2.2.2.2, rfl, by omega, (h6 t hm).mono t6, by omega, d6, fun p7 H7 wst b7 d7 hp7 hl7 hok7 hpt hlen7 => ?_⟩
      refine cat_ls (hl6.but b7 (ints_strs d6 hl6)) hl7 (by simp; omega) fun p8 H8 hp8 e8 hl8 => ?_
      refine ⟨_, _, p8, _, rfl, ((((b'.trans ((ex_but.mp e12).mono (by simp))).trans b3).trans ((ex_but.mp e46).mono (by simp))).trans b7).trans ((ex_but.mp e8).mono (by simp)), d7.ex e8, hl8, (((hok.app (okW.cons (by decide +kernel) okW.nil)).app hok3).app (okW.cons (by decide +kernel) okW.nil)).app hok7, ?_, ?_⟩
      · rw [hst]; simp only [List.length_append, List.length_cons, List.length_nil]; omega
      · have : ((((ws ++ [("|" : Str)]) ++ wsp) ++ [("->" : Str)]) ++ wst).map kd = ws.map kd ++ [.bar] ++ wsp.map kd ++ [.arrow] ++ wst.map kd := by
          simp only [List.map_append, List.map_cons, List.map_nil, k_bar, k_arrow]
        rw [this]
        exact rowp_more hrp (by omega) hpp.1 (hpt.1 0 (Nat.le_refl _) (by omega))
    · rintro σ H' ⟨o4, o7, p, ws, rfl, b', d', hls, hok, hlen, hrp⟩
      rw [List.length_map, List.take_length] at hlen
      refine ⟨_, rfl, rfl, _, rfl, ite_nm (fun _ => ?_) (fun h => absurd rfl h)⟩
      refine ⟨_, rfl, small_sz (by simp), fun p5 hp5 => ?_⟩
      have e5 := Ex.new (o := .lst ([("end" : Str)].map V.str)) hp5
      refine cat_ls (hls.ex e5) (new_ls (H := H') (ws := ["end"])) (by simp; omega) fun p6 H6 hp6 e6 hl6 => ?_
      have e56 := e5.trans e6
      refine out (own := 5) (b'.trans ((ex_but.mp e56).mono (by simp))) (d'.ex e56) hl6 (hok.app (okW.cons (by decide +kernel) okW.nil)) ?_ (by simp; omega)
      rw [List.map_append, List.map_cons, List.map_nil, k_end]
      exact pb_al (al_match hrp)
/-- both, by the depth -/
theorem ok_l_tokens (T : Txt K mg w) : ∀ D : Nat, Cal P w K mg base CX0 (8 + 2 * D) "_law_tokens" ["_law_drawn", "_law_value", "_law_wanted"] (spTokD D)
  | 0 => by
    obtain ⟨fd, F, b⟩ := ok_non (P := P) (w := w) (mg := mg) (base := base) (sp := spTokD 0) T.f_l_tokens sc_l_tokens (fun _ _ _ _ _ _ us hl => match us, hl with | [_, _, _], _ => rfl) (fun vs H Q E ⟨_, _, _, d, _, _, _, h, _⟩ => by omega)
    exact (Cal.mk ⟨fd, F, b⟩ (kpOf T.f_l_tokens) T.g_l_tokens).up (by omega)
  | D + 1 => (ok_l_tokens1 T (by omega) (ok_l_bare1 T (by omega) (ok_l_tokens T D))).up (by omega)
end
end Sh
set_option Elab.async false
set_option linter.all false
set_option maxRecDepth 100000
set_option maxHeartbeats 4000000
namespace Sh
open PySem PySem.Spec PyProof.Rows L2 Evl
/-- short texts, not many -/
def Bw (k : Nat) (ws : List Str) : Prop := (∀ z, z ∈ ws → z.length ≤ 9) ∧ ws.length ≤ k
theorem Bw.sum {ws : List Str} (h : Bw 1000 ws) : (ws.map (·.length)).sum + ws.length ≤ 40000 := by
  obtain ⟨h1, h2⟩ := h
  have : (ws.map (·.length)).sum ≤ 9 * ws.length := by
    clear h2
    induction ws with
    | nil => simp
    | cons a l ih =>
      have := ih fun z hz => h1 z (List.mem_cons_of_mem _ hz)
      have := h1 a (List.mem_cons_self ..)
      simp only [List.map_cons, List.sum_cons, List.length_cons]
      omega
  omega
theorem Bw.app {j k : Nat} {a b : List Str} (h : Bw j a) (g : Bw k b) : Bw (j + k) (a ++ b) := ⟨fun z hz => (List.mem_append.mp hz).elim (h.1 z) (g.1 z), by rw [List.length_append]; exact Nat.add_le_add h.2 g.2⟩
theorem Bw.mono {j k : Nat} {a : List Str} (h : Bw j a) (l : j ≤ k) : Bw k a := ⟨h.1, Nat.le_trans h.2 l⟩
theorem Bw.one {z : Str} (h : z.length ≤ 9) : Bw 1 [z] := ⟨fun y hy => by rw [List.mem_singleton.mp hy]; exact h, Nat.le_refl _⟩
theorem some_short : ∀ z ∈ someS, z.length ≤ 9 := by decide +kernel
theorem dec_int {a b : Int} : decide (V.int a = V.int b) = decide (a = b) := decide_eq_decide.mpr ⟨fun h => V.int.inj h, fun h => by rw [h]⟩
theorem dec_str {a b : Str} : decide (V.str a = V.str b) = decide (a = b) := decide_eq_decide.mpr ⟨fun h => V.str.inj h, fun h => by rw [h]⟩
def spSome : Sp := fun vs H Q _ => vs = [] ∧ ∀ p H', Ex H H' → H p = none → LS H' p someS → Q (.ref p) H'
def spCan : Sp := fun vs H Q _ => ∃ (p : Addr) (ws : List Str), vs = [.ref p] ∧ LS H p ws ∧ Bw 900 ws ∧ ∀ p' H', Ex H H' → H p' = none → LS H' p' (canS ws) → Q (.ref p') H'
def spEnded : Sp := fun vs H Q _ => ∃ (p : Addr) (ws : List Str), vs = [.ref p, .int 60] ∧ LS H p ws ∧ Bw 200 ws ∧ ∀ H', Ex H H' → Q (.bl (endedS 60 ws)) H'
theorem filter_more {α : Type} {f : α → Bool} {l : List α} {i : Nat} {x : α} (h : l[i]? = some x) : (l.take (i + 1)).filter f = (l.take i).filter f ++ if f x = true then [x] else [] := by
  rw [el_lcS.take_more h, List.filter_append, List.filter_cons, List.filter_nil]
section
variable {P : Program} {w : World} {K : PySem.W.Frag} {mg : Str → Option Value} {base : Heap}
/-- a list of texts filtered -/
theorem lc_filter {a D : Addr} {l : List Str} {H1 : Hp} {j : Nat} {tt : TT} {vs : List Nat} {σ : L2.St} {Qd : Hp → Prop} (f : Str → Bool) (hD : H1 D = none) (ha : LS H1 a l) (hl : l.length ≤ 1000) (hw : ∀ x, wipe ((wipe σ vs).set j (some x)) vs = wipe σ vs)
    (hv : ∀ x, ((wipe σ vs).set j (some x))[j]? = some (some x))
    (ht : ∀ z H', z ∈ l → Ex H1 H' → ∀ R : Bool → Hp → Prop, (∀ H'', Ex H' H'' → R (f z) H'') → tt ((wipe σ vs).set j (some (.str z))) H' R) (hd : ∀ H', Ex H1 H' → LS H' D (l.filter f) → Qd H') :
    ∃ W : Nat → Nat → Hp → Prop, (∃ m, W 0 m (upd H1 D (.lst []))) ∧ ∀ i m H, W i m H →
      ((Itl K a).stop i H ∧ Qd H) ∨ ((Itl K a).go i H ∧ ∃ Nx : Hp → Prop, (∀ H', Nx H' → ∃ m', m' < m ∧ W (i + 1) m' H') ∧ ∀ x H', (Itl K a).yld i H x H' → gName j x (wipe σ vs) H' fun σ2 H2 => wipe σ2 vs = wipe σ vs ∧ tt σ2 H2 fun b H3 =>
        if b = true then tVar j σ2 H3 fun y H4 => ∃ acc, H4 D = some (.lst acc) ∧ acc.length < sizeLine ∧ Nx (upd H4 D (.lst (acc ++ [y]))) else Nx H3) := by
  refine lc_list (xs := l.map V.str) (fun i H' => Ex H1 H' ∧ LS H' D ((l.take i).filter f)) ⟨Ex.new hD, upd_same⟩ (fun i H' _ h => SqL.of (h.1 _ _ ha)) ?_ ?_
  · rintro i x H' hi ⟨ex, hls⟩
    obtain ⟨z, hz, rfl⟩ : ∃ z, l[i]? = some z ∧ x = .str z := by
      rw [List.getElem?_map] at hi
      cases e : l[i]? with
      | none => rw [e] at hi; cases hi
      | some t => rw [e] at hi; exact ⟨t, rfl, (Option.some.inj hi).symm⟩
    refine ⟨hw _, ht z H' (List.mem_of_getElem? hz) ex _ fun H'' e2 => ?_⟩
    have ex2 := ex.trans e2
    have hf := filter_more (f := f) hz
    cases hfz : f z with
    | true =>
      rw [hfz, if_pos rfl] at hf
      refine iteT ⟨_, hv _, _, hls.ex e2, small_lt ?_, Ex.mut ex2 hD, ?_⟩
      · rw [List.length_map]
        have := List.length_filter_le f (l.take i)
        rw [List.length_take] at this
        omega
      · show _ = _
        rw [upd_same, hf, List.map_append]; rfl
    | false =>
      rw [hfz, if_neg (by simp), List.append_nil] at hf
      refine iteF ⟨ex2, ?_⟩
      rw [hf]; exact hls.ex e2
  · rintro H' ⟨ex, hls⟩
    rw [List.length_map, List.take_length] at hls
    exact hd H' ex hls
abbrev n_l_some_tokens : List Str := ["_law_some"]
theorem sc_l_some_tokens : FnScope n_l_some_tokens [] (defScope s_l_some_tokens) := ⟨rfl, rfl, rfl, by decide +kernel, rfl, by decide +kernel, by decide +kernel⟩
theorem ok_l_some_tokens (T : Txt K mg w) : Cal P w K mg base CX0 1 "_law_some_tokens" [] spSome := by
  refine ⟨ok0 T.f_l_some_tokens sc_l_some_tokens (fun vs H Q E h => ?_) (fun _ _ _ _ _ _ us hl => match us, hl with | [], _ => rfl) (fun cdv A outer s H vs Q E hr h => ?_), kpOf T.f_l_some_tokens, T.g_l_some_tokens⟩
  · obtain ⟨rfl, _⟩ := h; rfl
  obtain ⟨rfl, q⟩ := h
  refine ⟨_, (pss_cons (ps_set (i := 0) sc_l_some_tokens.nd rfl (by first | exact Or.inl rfl | exact Or.inr rfl) (pe_lst (pa_cons pe_str (pa_cons pe_str (pa_cons pe_str (pa_cons pe_str (pa_cons pe_str (pa_cons pe_str (pa_cons pe_str (pa_cons pe_str (pa_cons pe_str (pa_cons pe_str (pa_cons pe_str (pa_cons pe_str (pa_cons pe_str (pa_cons pe_str (pa_cons pe_str (pa_cons pe_str (pa_cons pe_str (pa_cons pe_str (pa_cons pe_str pa_nil)))))))))))))))))))))
    (pss_one (ps_ret (pe_op op_cat (pv 0) (pe_lst (pa_cons pe_str (pa_cons pe_str (pa_cons pe_str (pa_cons pe_str (pa_cons pe_str (pa_cons pe_str (pa_cons pe_str (pa_cons pe_str (pa_cons pe_str pa_nil)))))))))))))), ?_⟩
  refine ⟨small_sz (by simp), fun p hp => ⟨_, rfl, small_sz (by simp), fun p2 hp2 => ?_⟩⟩
  let A1 : List Str := ["(", ")", "->", "|", "_", ",", ";", "+", "-", "*", "<", "=", "x", "Nil", "7", "fun", "let", "in", "match"]
  let A2 : List Str := ["with", "end", "hole", "as", "is", "data", ":", "9x", "aB"]
  have e1 := Ex.new (o := .lst (A1.map V.str)) hp
  have e2 := Ex.new (o := .lst (A2.map V.str)) hp2
  refine cat_ls (w1 := A1) (w2 := A2) (e2 _ _ upd_same) upd_same (by simp [A1, A2]) fun p3 H3 hp3 e3 hl3 => ?_
  exact q p3 H3 ((e1.trans e2).trans e3) (fresh_back (e1.trans e2) hp3) hl3
abbrev n_l_can_follow : List Str := ["_law_tokens_here", "_law_token"]
theorem sc_l_can_follow : FnScope n_l_can_follow ["_law_tokens_here"] (defScope s_l_can_follow) := ⟨rfl, rfl, rfl, by decide +kernel, rfl, by decide +kernel, by decide +kernel⟩
theorem ok_l_can_follow (T : Txt K mg w) : Cal P w K mg base CX0 11 "_law_can_follow" ["_law_tokens_here"] spCan := by
  have c_l_some_tokens : Cal P w K mg base _ _ _ _ _ := ok_l_some_tokens (P := P) (base := base) T
  have c_l_index : Cal P w K mg base _ _ _ _ _ := ok_l_index (P := P) (base := base) T
  refine ⟨ok0 T.f_l_can_follow sc_l_can_follow (fun vs H Q E h => ?_) (fun _ _ _ _ _ _ us hl => match us, hl with | [_], _ => rfl) (fun cdv A outer s H vs Q E hr h => ?_), kpOf T.f_l_can_follow, T.g_l_can_follow⟩
  · obtain ⟨p, ws, rfl, _⟩ := h; rfl
  obtain ⟨p, ws, rfl, hls, hb, q⟩ := h
  refine ⟨_, (pss_one (ps_ret (pe_lc (own := [(("_law_token" : Str), 1)]) (g := gName 1) rfl sc_l_can_follow.nd (pi_list (pe_cal0 c_l_some_tokens hr (by decide) rfl pass0)) (blkOk_by (own := [(("_law_token" : Str), 1)]) (N := n_l_can_follow) (sc := defScope s_l_can_follow) (by decide +kernel)) (fun _ _ _ _ _ => pg_name (i := 1) sc_l_can_follow.nd rfl (by first | exact Or.inl rfl | exact Or.inr rfl)) (fun _ _ _ _ _ => pts_one (pt_cmpR op_ne (pe_cal c_l_index hr (by decide) rfl pass0 (pa_cons (pe_op op_cat (pv 0) (pe_lst (pa_cons (pv 1) pa_nil))) pa_nil)) (pe_callB (show CallR _ (.builtin "len") (fun xs H Q => ∃ x n, xs = [x] ∧ LenV K x H n ∧ Q (.int (n : Int)) H) from call_len) rfl T.b_len PySem.boot_len (pa_cons (pv 0) pa_nil)) (nomark _))) (fun _ _ _ _ _ => (pv 1))))), ?_⟩
  refine ⟨rfl, fun sp H1 e1 hsp hsl => ⟨sp, rfl, ⟨_, SqL.of hsl⟩, fun D hD => ?_⟩⟩
  refine lc_filter (fun t => !decide (idxT (ws ++ [t]) = (ws.length : Int))) hD hsl (by decide) (fun _ => rfl) (fun _ => rfl) ?_ ?_
  · intro z H' hz ex R hR
    have hls' := (hls.ex e1).ex ex
    refine ⟨_, rfl, _, rfl, small_sz (by simp), fun q2 hq2 => ?_⟩
    have e2 := Ex.new (o := .lst ([z].map V.str)) hq2
    refine cat_ls (hls'.ex e2) (new_ls (H := H') (ws := [z])) (by have := hb.2; simp; omega) fun p3 H3 hp3 e3 hl3 => ?_
    refine ⟨p3, ws ++ [z], rfl, SqL.of hl3, ((hb.app (Bw.one (some_short z hz))).mono (by omega)).sum, fun H4 e4 => ?_⟩
    have e234 := (e2.trans e3).trans e4
    refine ⟨_, rfl, _, _, rfl, .inl ⟨_, SqL.of (hls'.ex e234), rfl⟩, rfl, _, rfl, ?_⟩
    rw [List.length_map, dec_int]
    exact hR H4 e234
  · intro H' ex hfl
    exact q D H' (e1.trans ex) (fresh_back e1 hD) hfl
abbrev n_l_ended : List Str := ["_law_tokens_here", "_law_most", "_law_turn", "_law_can", "_law_closing", "_law_token"]
theorem sc_l_ended : FnScope n_l_ended ["_law_tokens_here", "_law_most"] (defScope s_l_ended) := ⟨rfl, rfl, rfl, by decide +kernel, rfl, by decide +kernel, by decide +kernel⟩
theorem ok_l_ended (T : Txt K mg w) : Cal P w K mg base CX0 12 "_law_ended" ["_law_tokens_here", "_law_most"] spEnded := by
  have c_l_can_follow : Cal P w K mg base _ _ _ _ _ := ok_l_can_follow (P := P) (base := base) T
  have c_l_index : Cal P w K mg base _ _ _ _ _ := ok_l_index (P := P) (base := base) T
  refine ⟨ok0 T.f_l_ended sc_l_ended (fun vs H Q E h => ?_) (fun _ _ _ _ _ _ us hl => match us, hl with | [_, _], _ => rfl) (fun cdv A outer s H vs Q E hr h => ?_), kpOf T.f_l_ended, T.g_l_ended⟩
  · obtain ⟨p, ws, rfl, _⟩ := h; rfl
  obtain ⟨p, ws, rfl, hls, hb, q⟩ := h
  refine ⟨_, (pss_cons (ps_for PassesOwn.never rfl (pi_range1 rfl T.b_range (pa_cons (pv 1) pa_nil)) (pg_name (i := 2) sc_l_ended.nd rfl (by first | exact Or.inl rfl | exact Or.inr rfl)) (pss_cons (ps_if (pt_cmpR op_eq (pe_cal c_l_index hr (by decide) rfl pass0 (pa_cons (pv 0) pa_nil)) (pe_un un_neg pe_int) (nomark _)) (pss_one (ps_ret pe_bl)) pss_nil)
    (pss_cons (ps_set (i := 3) sc_l_ended.nd rfl (by first | exact Or.inl rfl | exact Or.inr rfl) (pe_cal c_l_can_follow hr (by decide) rfl pass0 (pa_cons (pv 0) pa_nil)))
    (pss_cons (ps_setLc (i := 4) (own := [(("_law_token" : Str), 5)]) (g := gName 5) rfl sc_l_ended.nd rfl rfl (sw_true rfl rfl rfl (by decide +kernel)) (pi_list (pe_lst (pa_cons pe_str (pa_cons pe_str (pa_cons pe_str (pa_cons pe_str (pa_cons pe_str (pa_cons pe_str (pa_cons pe_str (pa_cons pe_str (pa_cons pe_str pa_nil))))))))))) (blkOk_by (own := [(("_law_token" : Str), 5)]) (N := n_l_ended) (sc := defScope s_l_ended) (by decide +kernel)) (fun _ _ _ _ _ => pg_name (i := 5) sc_l_ended.nd rfl (by first | exact Or.inl rfl | exact Or.inr rfl)) (fun _ _ _ _ _ => pts_one (pt_cmpR (show OpR _ (compareOp .In) (rIn K false) from op_in_seq) (pv 5) (pv 3) (by first | exact nomark _ | rfl))) (fun _ _ _ _ _ => (pv 5)))
    (pss_cons (ps_if (pt_cmpR (op_eqL hr.units0) (pv 4) (pe_lst pa_nil) (nomark _)) (pss_one (ps_ret pe_bl)) pss_nil)
    (pss_one (ps_set (i := 0) sc_l_ended.nd rfl (by first | exact Or.inl rfl | exact Or.inr rfl) (pe_op op_cat (pv 0) (pe_slice sl_list (pv 4) po_none (po_some pe_int))))))))))
    (pss_one (ps_ret pe_bl))), ?_⟩
  refine ⟨_, rfl, 60, rfl, by decide, by decide, ?_⟩
  refine for_range (lo := 0) (n := (60 : Int).toNat) (fun i σ H' => ∃ (p' : Addr) (ws' : List Str) (o2 o3 o4 o5 : Option V), σ = [some (.ref p'), some (.int 60), o2, o3, o4, o5] ∧ Ex H H' ∧ LS H' p' ws' ∧ Bw (200 + i) ws' ∧ endedS 60 ws = endedS (60 - i) ws') ⟨p, ws, _, _, _, _, rfl, Ex.refl H, hls, hb, rfl⟩ ?_ ?_
  · rintro i σ H1 hi ⟨p', ws', o2, o3, o4, o5, rfl, ex, hls', hb', he⟩
    have hi60 : i < 60 := hi
    obtain ⟨k, hk⟩ : ∃ k, 60 - i = k + 1 := ⟨59 - i, by omega⟩
    rw [hk] at he
    have he : endedS 60 ws = (if idxT ws' = -1 then true else match closing ws' with
      | [] => false
      | t :: _ => endedS k (ws' ++ [t])) := he
    refine ⟨_, rfl, p', ws', rfl, SqL.of hls', (hb'.mono (by omega)).sum, fun H2 e2 => ?_⟩
    refine ⟨_, rfl, rfl, _, rfl, ?_⟩
    rw [dec_int]
    refine ite2 (fun hm => ?_) (fun hm => ?_)
    · have hm : idxT ws' = -1 := of_decide_eq_true hm
      rw [if_pos hm] at he
      have := q H2 (ex.trans e2)
      rw [he] at this
      exact this
    have hm : ¬ idxT ws' = -1 := fun c => hm (decide_eq_true c)
    rw [if_neg hm] at he
    have ex2 := ex.trans e2
    have hls2 := hls'.ex e2
    refine ⟨_, rfl, p', ws', rfl, hls2, hb'.mono (by omega), fun pc H3 e3 hpc hlc => ?_⟩
    refine ⟨small_sz (by simp), fun pl hpl => ⟨pl, rfl, ⟨_, SqL.of upd_same⟩, fun D hD => ?_⟩⟩
    have e4 := Ex.new (o := .lst (closS.map V.str)) hpl
    refine lc_filter (l := closS) (fun t => decide (t ∈ canS ws')) hD (show LS _ pl closS from upd_same) (by decide) (fun _ => rfl) (fun _ => rfl) ?_ ?_
    · intro z H' hz ex' R hR
      refine ⟨_, rfl, _, rfl, pc, _, rfl, .inl (SqL.of ((hlc.ex e4).ex ex')), rfl, flat_strs _, _, rfl, ?_⟩
      show R (inV (.str z) ((canS ws').map V.str)) H'
      rw [inV_str]
      exact hR H' (Ex.refl H')
    · intro H5 e5 hfl
      have hfl : LS H5 D (closing ws') := hfl
      refine ⟨_, rfl, small_sz (by simp), fun q2 hq2 => ?_⟩
      have e6 := Ex.new (o := .lst []) hq2
      have ex6 := (((ex2.trans e3).trans e4).trans e5).trans e6
      refine ⟨D, q2, _, rfl, rfl, SqL.of (hfl.ex e6), SqL.of upd_same, _, rfl, ?_⟩
      cases hcl : closing ws' with
      | nil =>
        rw [hcl] at he
        have := q _ ex6
        rw [he] at this
        exact iteT this
      | cons t r =>
        rw [hcl] at he hfl
        refine iteF ?_
        have htm : t ∈ closS := (List.mem_filter.mp (show t ∈ closing ws' from by rw [hcl]; simp)).1
        refine ⟨_, rfl, _, rfl, _, rfl, D, _, rfl, SqL.of (hfl.ex e6), fun p7 hp7 => ?_⟩
        have hcut : cutV ((t :: r).map V.str) none (some 1) = [t].map V.str := by
          show cutV _ none (some ((1 : Nat) : Int)) = _
          unfold cutV
          rw [HT.sIx_none, HT.sIx_nat]
          simp
        rw [hcut]
        have e7 := Ex.new (o := .lst ([t].map V.str)) hp7
        refine cat_ls ((hls2.ex (((e3.trans e4).trans e5).trans e6)).ex e7) upd_same (by have := hb'.2; simp; omega) fun p8 H8 hp8 e8 hl8 => ?_
        refine ⟨p8, ws' ++ [t], _, _, _, _, rfl, (ex6.trans e7).trans e8, hl8, (hb'.app (Bw.one (some_short t (clos_some t htm)))).mono (by omega), ?_⟩
        have : 60 - (i + 1) = k := by omega
        rw [this]; exact he
  · rintro σ H1 ⟨p', ws', o2, o3, o4, o5, rfl, ex, hls', hb', he⟩
    have := q H1 ex
    rw [he] at this
    exact this
end
end Sh
set_option Elab.async false
set_option linter.all false
set_option maxRecDepth 100000
set_option maxHeartbeats 4000000
namespace Sh
open PySem PySem.Spec PyProof.Rows L2 Evl
theorem okW.good {ws : List Str} (h : okW ws) : ∀ z, z ∈ ws → goodT z = true := fun z hz => by
  have := h z hz
  unfold okT at this
  rw [Bool.and_eq_true] at this
  exact this.1
theorem okW.bw {ws : List Str} {k : Nat} (h : okW ws) (l : ws.length ≤ k) : Bw k ws := ⟨fun z hz => by
  have := h z hz
  unfold okT at this
  rw [Bool.and_eq_true, decide_eq_true_eq] at this
  omega, l⟩
theorem inV_int (x : Int) (l : List Int) : inV (.int x) (l.map V.int) = decide (x ∈ l) := by
  induction l with
  | nil => rfl
  | cons p ps ih =>
    show (eqV (.int p) (.int x) || inV (.int x) (ps.map V.int)) = _
    rw [ih]
    show ((p == x) || decide (x ∈ ps)) = _
    by_cases e : x = p
    · subst e; simp
    · have : (p == x) = false := by simpa using fun h => e h.symm
      rw [this]; simp [e]
theorem cut_take {ws : List Str} {k : Nat} (h : k ≤ ws.length) : cutV (ws.map V.str) none (some (k : Int)) = (ws.take k).map V.str := by
  unfold cutV
  rw [HT.sIx_none, HT.sIx_nat, List.length_map, Nat.min_eq_left h, List.drop_zero, List.map_take]; rfl
theorem cut_drop {ws : List Str} {k : Nat} : cutV (ws.map V.str) (some (k : Int)) none = (ws.drop k).map V.str := by rw [cut_eq2, List.map_drop]
def spCut : Sp := fun vs H Q _ => ∃ (dr p : Addr) (ws : List Str) (k : Nat), vs = [.ref dr, .ref p, .int (k : Int)] ∧ DrI H dr ∧ LS H p ws ∧ okW ws ∧ (∃ c, steps c0 (ws.map kd) = some c) ∧ ws.length ≤ 150 ∧ k ≤ ws.length ∧ ∀ H', But [dr] H H' → DrI H' dr → Q (.bl true) H'
section
variable {P : Program} {w : World} {K : PySem.W.Frag} {mg : Str → Option Value} {base : Heap}
abbrev n_l_cut_right : List Str := ["_law_drawn", "_law_tokens_here", "_law_cut", "_law_some", "_law_index_here", "_law_found", "_law_token", "_law_more", "_law_one_here"]
theorem sc_l_cut_right : FnScope n_l_cut_right ["_law_drawn", "_law_tokens_here", "_law_cut"] (defScope s_l_cut_right) := ⟨rfl, rfl, rfl, by decide +kernel, rfl, by decide +kernel, by decide +kernel⟩
theorem ok_l_cut_right (T : Txt K mg w) : Cal P w K mg base CX0 11 "_law_cut_right" ["_law_drawn", "_law_tokens_here", "_law_cut"] spCut := by
  have c_l_some_tokens : Cal P w K mg base _ _ _ _ _ := ok_l_some_tokens (P := P) (base := base) T
  have c_l_one : Cal P w K mg base _ _ _ _ _ := ok_l_one (P := P) (base := base) T
  have c_l_index : Cal P w K mg base _ _ _ _ _ := ok_l_index (P := P) (base := base) T
  refine ⟨ok0 T.f_l_cut_right sc_l_cut_right (fun vs H Q E h => ?_) (fun _ _ _ _ _ _ us hl => match us, hl with | [_, _, _], _ => rfl) (fun cdv A outer s H vs Q E hr h => ?_), kpOf T.f_l_cut_right, T.g_l_cut_right⟩
  · obtain ⟨dr, p, ws, k, rfl, _⟩ := h; rfl
  obtain ⟨dr, p, ws, k, rfl, hd, hls, hok, ⟨c, hc⟩, h150, hk, q⟩ := h
  refine ⟨_, (pss_cons (ps_set (i := 3) sc_l_cut_right.nd rfl (by first | exact Or.inl rfl | exact Or.inr rfl) (pe_slice sl_list (pv 1) po_none (po_some (pv 2))))
    (pss_cons (ps_if (pt_cmpR op_notIn_seq (pe_cal c_l_index hr (by decide) rfl pass0 (pa_cons (pv 3) pa_nil)) (pe_lst (pa_cons (pe_un un_neg pe_int) (pa_cons (pv 2) pa_nil))) (by first | exact nomark _ | rfl)) (pss_one (ps_ret pe_bl)) pss_nil)
    (pss_cons (ps_par (i := 6) (j := 7) rfl sc_l_cut_right.nd rfl rfl (by decide) rfl rfl (pa_cons (pe_cal c_l_one hr (by decide) rfl pass0 (pa_cons (pv 0) (pa_cons (pe_cal0 c_l_some_tokens hr (by decide) rfl pass0) pa_nil))) (pa_cons (pe_cal c_l_one hr (by decide) rfl pass0 (pa_cons (pv 0) (pa_cons (pe_cal0 c_l_some_tokens hr (by decide) rfl pass0) pa_nil))) pa_nil)) (by rfl))
    (pss_cons (ps_set (i := 4) sc_l_cut_right.nd rfl (by first | exact Or.inl rfl | exact Or.inr rfl) (pe_cal c_l_index hr (by decide) rfl pass0 (pa_cons (pe_op op_cat (pv 3) (pe_lst (pa_cons (pv 6) pa_nil))) pa_nil)))
    (pss_cons (ps_if (pt_cmpR op_notIn_seq (pv 4) (pe_lst (pa_cons (pe_un un_neg pe_int) (pa_cons (pv 2) (pa_cons (pe_op op_add (pv 2) pe_int) pa_nil)))) (by first | exact nomark _ | rfl)) (pss_one (ps_ret pe_bl)) pss_nil)
    (pss_cons (ps_set (i := 5) sc_l_cut_right.nd rfl (by first | exact Or.inl rfl | exact Or.inr rfl) (pe_lst (pa_cons (pe_cal c_l_index hr (by decide) rfl pass0 (pa_cons (pe_op op_cat (pv 3) (pe_lst (pa_cons (pv 6) (pa_cons (pv 7) pa_nil)))) pa_nil)) (pa_cons (pe_cal c_l_index hr (by decide) rfl pass0 (pa_cons (pe_op op_cat (pe_op op_cat (pv 3) (pe_lst (pa_cons (pv 6) pa_nil))) (pe_slice sl_list (pv 1) (po_some (pv 2)) po_none)) pa_nil)) pa_nil))))
    (pss_cons (ps_if (pt_cmpR op_eq (pv 4) (pv 2) (nomark _)) (pss_one (ps_ret (pe_cmpR (op_eqD hr.units) (pv 5) (pe_lst (pa_cons (pv 2) (pa_cons (pv 2) pa_nil))) (nomark _)))) pss_nil)
    (pss_one (ps_ret (pe_cmpR (op_eqL hr.units0) (pe_lc (own := [(("_law_one_here" : Str), 8)]) (g := gName 8) rfl sc_l_cut_right.nd (pi_list (pv 5)) (blkOk_by (own := [(("_law_one_here" : Str), 8)]) (N := n_l_cut_right) (sc := defScope s_l_cut_right) (by decide +kernel)) (fun _ _ _ _ _ => pg_name (i := 8) sc_l_cut_right.nd rfl (by first | exact Or.inl rfl | exact Or.inr rfl)) (fun _ _ _ _ _ => pts_one (PW.pt (pw_and (pt_cmpR op_ne (pv 8) (pe_un un_neg pe_int) (nomark _)) (pw_and1 (pt_cmpR op_le (pv 8) (pv 2) (nomark _)))))) (fun _ _ _ _ _ => (pv 8))) (pe_lst pa_nil) (nomark _))))))))))), ?_⟩
  have hbt : Bw 150 (ws.take k) := okW.bw (fun z hz => hok z (List.mem_of_mem_take hz)) (by rw [List.length_take]; omega)
  have hbd : Bw 150 (ws.drop k) := okW.bw (fun z hz => hok z (List.mem_of_mem_drop hz)) (by rw [List.length_drop]; omega)
  refine ⟨_, rfl, _, rfl, _, rfl, p, _, rfl, SqL.of hls, fun p1 hp1 => ?_⟩
  rw [cut_take hk]
  have e1 := Ex.new (o := .lst ((ws.take k).map V.str)) hp1
  have l1 : LS (upd H p1 (.lst ((ws.take k).map V.str))) p1 (ws.take k) := upd_same
  -- index(some)
  refine ⟨_, rfl, p1, ws.take k, rfl, SqL.of l1, (hbt.mono (by omega)).sum, fun H2 e2 => ?_⟩
  refine ⟨_, rfl, _, rfl, small_sz (by simp), fun q1 hq1 => ?_⟩
  have e3 := Ex.new (o := .lst ([-1, (k : Int)].map V.int)) hq1
  refine ⟨q1, [-1, (k : Int)].map V.int, rfl, .inl (SqL.of upd_same), rfl, rfl, _, rfl, ?_⟩
  have hts : ∀ t m, t ∈ someS → m ∈ someS → _ := fun t m ht hm => cutS_ok hok.good hc k hk ht hm
  have h0 := (hts "x" "x" (by decide +kernel) (by decide +kernel)).1
  show if (!inV (.int (idxT (ws.take k))) ([-1, (k : Int)].map V.int)) = true then _ else _
  rw [inV_int, show decide (idxT (ws.take k) ∈ [-1, (k : Int)]) = true from decide_eq_true (by rcases h0 with h | h <;> simp [h])]
  refine iteF ?_
  have e13 := (e1.trans e2).trans e3
  have d3 := hd.ex e13
  have l13 := l1.ex (e2.trans e3)
  have hls3 := hls.ex e13
  -- two tokens
  refine ⟨_, rfl, rfl, fun s1 H4 e4 hs1 hl4 => ⟨dr, s1, _, rfl, d3.ex e4, hl4, d3.ne hs1, by simp [someS], by decide, fun x H5 hx b5 d5 => ?_⟩⟩
  obtain ⟨t, ht, rfl⟩ := List.mem_map.mp hx
  refine ⟨_, rfl, rfl, fun s2 H6 e6 hs2 hl6 => ⟨dr, s2, _, rfl, d5.ex e6, hl6, d5.ne hs2, by simp [someS], by decide, fun y H7 hy b7 d7 => ?_⟩⟩
  obtain ⟨m, hm, rfl⟩ := List.mem_map.mp hy
  obtain ⟨f1, f2, f3, f4⟩ := hts t m ht hm
  refine ⟨_, _, rfl, ?_⟩
  have n1 := ints_strs d3 l13
  have np := ints_strs d3 hls3
  have b37 := ((((ex_but.mp e4).mono (S' := [dr]) (by simp)).trans b5).trans ((ex_but.mp e6).mono (S' := [dr]) (by simp))).trans b7
  have l7 := l13.but b37 n1
  have hls7 := hls3.but b37 np
  have b07 : But [dr] H H7 := ((ex_but.mp e13).mono (by simp)).trans b37
  have hbt1 := (hbt.app (Bw.one (some_short t ht))).mono (k := 1000) (by omega)
  -- index(some + [token])
  refine ⟨_, rfl, _, rfl, small_sz (by simp), fun q2 hq2 => ?_⟩
  have e8 := Ex.new (o := .lst ([t].map V.str)) hq2
  refine cat_ls (l7.ex e8) (new_ls (H := H7) (ws := [t])) (by have := hbt.2; simp; omega) fun p9 H9 hp9 e9 hl9 => ?_
  refine ⟨p9, _, rfl, SqL.of hl9, hbt1.sum, fun H10 e10 => ?_⟩
  have e810 := (e8.trans e9).trans e10
  -- not in
  refine ⟨_, rfl, _, rfl, _, rfl, _, rfl, _, _, rfl, rfl, small_sz (by simp), fun q3 hq3 => ?_⟩
  have e11 := Ex.new (o := .lst ([-1, (k : Int), (k : Int) + 1].map V.int)) hq3
  refine ⟨q3, [-1, (k : Int), (k : Int) + 1].map V.int, rfl, .inl (SqL.of upd_same), rfl, rfl, _, rfl, ?_⟩
  show if (!inV (.int (idxT (ws.take k ++ [t]))) ([-1, (k : Int), (k : Int) + 1].map V.int)) = true then _ else _
  rw [inV_int, show decide (idxT (ws.take k ++ [t]) ∈ [-1, (k : Int), (k : Int) + 1]) = true from decide_eq_true (by rcases f2 with h | h | h <;> simp [h])]
  refine iteF ?_
  have e11' := e810.trans e11
  -- found
  refine ⟨_, rfl, _, rfl, _, rfl, small_sz (by simp), fun q4 hq4 => ?_⟩
  have e12 := Ex.new (o := .lst ([t, m].map V.str)) hq4
  refine cat_ls ((l7.ex e11').ex e12) (show LS _ q4 [t, m] from upd_same) (by have := hbt.2; simp; omega) fun p13 H13 hp13 e13' hl13 => ?_
  refine ⟨p13, _, rfl, SqL.of hl13, ((hbt.app ((Bw.one (some_short t ht)).app (Bw.one (some_short m hm)))).mono (by omega)).sum, fun H14 e14 => ?_⟩
  have e1214 := (e12.trans e13').trans e14
  refine ⟨_, rfl, _, rfl, small_sz (by simp), fun q5 hq5 => ?_⟩
  have e15 := Ex.new (o := .lst ([t].map V.str)) hq5
  refine cat_ls (((l7.ex e11').ex e1214).ex e15) (new_ls (H := H14) (ws := [t])) (by have := hbt.2; simp; omega) fun p16 H16 hp16 e16 hl16 => ?_
  have e1116 := ((e11'.trans e1214).trans e15).trans e16
  refine ⟨_, rfl, _, rfl, _, rfl, p, _, rfl, SqL.of (hls7.ex e1116), fun p17 hp17 => ?_⟩
  rw [cut_drop]
  have e17 := Ex.new (o := .lst ((ws.drop k).map V.str)) hp17
  refine cat_ls (hl16.ex e17) upd_same (by have := hbt.2; have := hbd.2; simp only [List.length_append, List.length_cons, List.length_nil]; omega) fun p18 H18 hp18 e18 hl18 => ?_
  refine ⟨p18, _, rfl, SqL.of hl18, (((hbt.app (Bw.one (some_short t ht))).app hbd).mono (by omega)).sum, fun H19 e19 => ?_⟩
  refine ⟨small_sz (by simp), fun F hF => ?_⟩
  have e20 := Ex.new (o := .lst [.int (idxT (ws.take k ++ [t, m])), .int (idxT (ws.take k ++ [t] ++ ws.drop k))]) hF
  have eAll := (((e1116.trans e17).trans e18).trans e19).trans e20
  have bAll : But [dr] H _ := b07.trans ((ex_but.mp eAll).mono (by simp))
  have dAll := d7.ex eAll
  -- the answer
  refine ⟨_, rfl, _, rfl, rfl, _, rfl, ?_⟩
  rw [dec_int]
  refine ite2 (fun he => ?_) (fun he => ?_)
  · have he := of_decide_eq_true he
    obtain ⟨g1, g2⟩ := f3 he
    refine ⟨_, rfl, _, rfl, _, rfl, small_sz (by simp), fun q6 hq6 => ?_⟩
    have e21 := Ex.new (o := .lst [.int (k : Int), .int (k : Int)]) hq6
    have hF2 := (e21 _ _ (upd_same (H := H19) (a := F) (o := .lst [.int (idxT (ws.take k ++ [t, m])), .int (idxT (ws.take k ++ [t] ++ ws.drop k))]))).trans (show _ = some (HO.lst [V.int (k : Int), V.int (k : Int)]) from by rw [g1, g2])
    refine ⟨.list [.int k, .int k], .list [.int k, .int k], .lst (SqL.of hF2) (.cons (.int _) (.cons (.int _) .nil)), .lst (SqL.of upd_same) (.cons (.int _) (.cons (.int _) .nil)), rfl, rfl, ?_⟩
    rw [show PyData.eqv (.list [.int (k : Int), .int (k : Int)]) (.list [.int (k : Int), .int (k : Int)]) = true from by simp [PyData.eqv, PyData.eqvAll]]
    exact q _ (bAll.trans ((ex_but.mp e21).mono (by simp))) (dAll.ex e21)
  · have he : idxT (ws.take k ++ [t]) ≠ (k : Int) := fun c => he (decide_eq_true c)
    obtain ⟨g1, g2⟩ := f4 he
    refine ⟨_, rfl, F, rfl, ⟨_, SqL.of upd_same⟩, fun D hD => ?_⟩
    refine lc_list (xs := [idxT (ws.take k ++ [t, m]), idxT (ws.take k ++ [t] ++ ws.drop k)].map V.int) (fun i H' => Ex (upd H19 F (.lst [.int (idxT (ws.take k ++ [t, m])), .int (idxT (ws.take k ++ [t] ++ ws.drop k))])) H' ∧ H' D = some (.lst [])) ⟨Ex.new hD, upd_same⟩ (fun i H' _ h => SqL.of (h.1 _ _ upd_same)) ?_ ?_
    · rintro i x H' hi ⟨ex, hD'⟩
      obtain ⟨v, hv, rfl⟩ := List.mem_map.mp (List.mem_of_getElem? hi)
      have hv2 : v = -1 ∨ (k : Int) < v := by
        rcases List.mem_cons.mp hv with rfl | hv
        · exact g1
        · rw [List.mem_singleton.mp hv]; exact g2
      refine ⟨rfl, _, rfl, _, rfl, rfl, _, rfl, ?_⟩
      rw [dec_int]
      show if (!decide (v = -1)) = true then _ else _
      rcases hv2 with rfl | hv2
      · exact iteF (iteF ⟨ex, hD'⟩)
      · rw [decide_eq_false (show ¬ v = -1 by omega)]
        refine iteT ⟨_, rfl, _, rfl, _, _, rfl, rfl, _, rfl, ?_⟩
        rw [decide_eq_false (show ¬ v ≤ (k : Int) by omega)]
        exact iteF ⟨ex, hD'⟩
    · rintro H' ⟨ex, hD'⟩
      refine ⟨small_sz (by simp), fun q6 hq6 => ?_⟩
      have e21 := Ex.new (o := .lst []) hq6
      refine ⟨D, q6, [], rfl, rfl, SqL.of (e21 _ _ hD'), SqL.of upd_same, ?_⟩
      exact q _ (bAll.trans ((ex_but.mp (ex.trans e21)).mono (by simp))) (dAll.ex (ex.trans e21))
end
end Sh
set_option Elab.async false
set_option linter.all false
set_option maxRecDepth 100000
set_option maxHeartbeats 4000000
namespace Sh
open PySem PySem.Spec PyProof.Rows L2 Evl
/-- a list of these values -/
def EvX (te : TE) (σ : L2.St) (H : Hp) (xs : List V) : Prop := ∀ H1, Ex H H1 → ∀ Q : VK, (∀ p H2, Ex H1 H2 → H2 p = some (.lst xs) → Q (.ref p) H2) → te σ H1 Q
/-- a pair of lists -/
def PairR (H : Hp) (v : V) (s : List V × List V) : Prop := ∃ t a b, v = .ref t ∧ H t = some (.tup [.ref a, .ref b]) ∧ H a = some (.lst s.1) ∧ H b = some (.lst s.2)
theorem PairR.ex {H H' : Hp} {v : V} {s : List V × List V} (h : PairR H v s) (e : Ex H H') : PairR H' v s := by
  obtain ⟨t, a, b, h1, h2, h3, h4⟩ := h
  exact ⟨t, a, b, h1, e _ _ h2, e _ _ h3, e _ _ h4⟩
def EvP (te : TE) (σ : L2.St) (H : Hp) (s : List V × List V) : Prop := ∀ H1, Ex H H1 → ∀ Q : VK, (∀ v H2, Ex H1 H2 → PairR H2 v s → Q v H2) → te σ H1 Q
def EvPs (t : TA) (σ : L2.St) (H : Hp) (ss : List (List V × List V)) : Prop := ∀ H1, Ex H H1 → ∀ Q : List V → Hp → Prop, (∀ vs H2, Ex H1 H2 → Paired (PairR H2) vs ss → Q vs H2) → t σ H1 Q
section
variable {σ : L2.St} {H : Hp} {te tf : TE} {t : TA} {xs ys : List V} {s : List V × List V} {ss : List (List V × List V)}
theorem evx_c {ta : TA} (h : EvA ta σ H xs) (hl : xs.length ≤ 100000) : EvX (tLst ta) σ H xs := fun H1 e Q q => el_lst h hl H1 e Q fun p H2 _ e2 hp => q p H2 e2 hp
theorem evx_v {i : Nat} {p : Addr} (hi : σ[i]? = some (some (.ref p))) (h : H p = some (.lst xs)) : EvX (tVar i) σ H xs := fun H1 e Q q => ⟨_, hi, q p H1 (Ex.refl H1) (e _ _ h)⟩
theorem evx_cat (h : EvX te σ H xs) (g : EvX tf σ H ys) (hl : xs.length + ys.length ≤ 100000) : EvX (tOp rCat te tf) σ H (xs ++ ys) := fun H1 e Q q =>
  h H1 e _ fun p H2 e2 hp => g H2 (e.trans e2) _ fun p' H3 e3 hp' => ⟨p, p', xs, ys, rfl, rfl, e3 _ _ hp, hp', small_sz hl, fun r hr => q r _ ((e2.trans e3).trans (Ex.new hr)) upd_same⟩
theorem evx_rep {v : V} {k : Nat} (h : EvX te σ H [v]) (hk : k ≤ 1000) : EvX (tOp rRep te (tC (.int (k : Int)))) σ H (List.replicate k v) := fun H1 e Q q =>
  h H1 e _ fun p H2 e2 hp => ⟨p, (k : Int), _, rfl, rfl, hp, by omega, by omega, small_sz (by simp; omega), fun r hr => q r _ (e2.trans (Ex.new hr)) (by rw [upd_same, Int.toNat_natCast, rep_flat])⟩
theorem evp_tup (h : EvX te σ H xs) (g : EvX tf σ H ys) : EvP (tTup (tCons te (tCons tf tNil))) σ H (xs, ys) := fun H1 e Q q =>
  h H1 e _ fun p H2 e2 hp => g H2 (e.trans e2) _ fun p' H3 e3 hp' => ⟨small_sz (by simp), fun r hr => by
    have e4 := Ex.new (o := .tup [.ref p, .ref p']) hr
    exact q _ _ ((e2.trans e3).trans e4) ⟨r, p, p', rfl, upd_same, e4 _ _ (e3 _ _ hp), e4 _ _ hp'⟩⟩
theorem evps_nil : EvPs tNil σ H [] := fun H1 _ Q q => q [] H1 (Ex.refl H1) .nil
theorem evps_cons (h : EvP te σ H s) (g : EvPs t σ H ss) : EvPs (tCons te t) σ H (s :: ss) := fun H1 e Q q =>
  h H1 e _ fun v H2 e2 hv => g H2 (e.trans e2) _ fun vs H3 e3 hvs => q _ H3 (e2.trans e3) (.cons (hv.ex e3) hvs)
end
theorem prs_ex {H H' : Hp} {vs : List V} {ss : List (List V × List V)} (h : Paired (PairR H) vs ss) (e : Ex H H') : Paired (PairR H') vs ss := Paired.mapP h fun _ _ q => q.ex e
/-- a list of pairs -/
def EvC (te : TE) (σ : L2.St) (H : Hp) (ss : List (List V × List V)) : Prop := ∀ H1, Ex H H1 → ∀ Q : VK, (∀ p H2 vs, Ex H1 H2 → H2 p = some (.lst vs) → Paired (PairR H2) vs ss → Q (.ref p) H2) → te σ H1 Q
section
variable {σ : L2.St} {H : Hp} {te tf : TE} {t : TA} {xs : List V} {ss ss2 : List (List V × List V)} {u : TS} {D : Ends} {i : Nat}
theorem evc_lst (h : EvPs t σ H ss) (hl : ss.length ≤ 1000) : EvC (tLst t) σ H ss := fun H1 e Q q => h H1 e _ fun vs H2 e2 hv => ⟨small_sz (by rw [hv.length]; omega), fun p hp => q p _ vs (e2.trans (Ex.new hp)) upd_same (prs_ex hv (Ex.new hp))⟩
theorem evc_v {p : Addr} {vs : List V} (hi : σ[i]? = some (some (.ref p))) (h : H p = some (.lst vs)) (hv : Paired (PairR H) vs ss) : EvC (tVar i) σ H ss := fun H1 e Q q => ⟨_, hi, q p H1 vs (Ex.refl H1) (e _ _ h) (prs_ex hv e)⟩
theorem evc_cat (h : EvC te σ H ss) (g : EvC tf σ H ss2) (hl : ss.length + ss2.length ≤ 1000) : EvC (tOp rCat te tf) σ H (ss ++ ss2) := fun H1 e Q q =>
  h H1 e _ fun p H2 vs e2 hp hv => g H2 (e.trans e2) _ fun p' H3 vs' e3 hp' hv' => ⟨p, p', vs, vs', rfl, rfl, e3 _ _ hp, hp', small_sz (by rw [hv.length, hv'.length]; omega), fun r hr =>
    q r _ _ ((e2.trans e3).trans (Ex.new hr)) upd_same (Paired.app (prs_ex hv (e3.trans (Ex.new hr))) (prs_ex hv' (Ex.new hr)))⟩
theorem sx_set (h : EvX te σ H xs) (k : ∀ p H1, Ex H H1 → H1 p = some (.lst xs) → u D (σ.set i (some (.ref p))) H1) : tSeq (tAsg te (gName i)) u D σ H := h H (Ex.refl H) _ fun p H1 e hp => k p H1 e hp
theorem sc_set (h : EvC te σ H ss) (k : ∀ p H1 vs, Ex H H1 → H1 p = some (.lst vs) → Paired (PairR H1) vs ss → u D (σ.set i (some (.ref p))) H1) : tSeq (tAsg te (gName i)) u D σ H := h H (Ex.refl H) _ fun p H1 vs e hp hv => k p H1 vs e hp hv
theorem sc_ret (h : EvC te σ H ss) (k : ∀ p H1 vs, Ex H H1 → H1 p = some (.lst vs) → Paired (PairR H1) vs ss → D.rt (.ref p) H1) : tRet te D σ H := h H (Ex.refl H) _ fun p H1 vs e hp hv => k p H1 vs e hp hv
end
def sV (s : List Str × List Str) : List V × List V := (s.1.map V.str, s.2.map V.str)
def rV (r : List Str × List Bool) : List V × List V := (r.1.map V.str, r.2.map V.bl)
def optV : Option Bool → V
  | none => .non
  | some b => .bl b
def spStands : Sp := fun vs H Q _ => vs = [] ∧ ∀ p H' vs', Ex H H' → H' p = some (.lst vs') → Paired (PairR H') vs' (standsS.map sV) → Q (.ref p) H'
def spStand : Sp := fun vs H Q _ => ∃ (t : Str) (v : V) (s : List Str × List Str), vs = [.str t, v] ∧ PairR H v (sV s) ∧ Bw 1000 (s.1 ++ [t] ++ s.2) ∧ ∀ H', Ex H H' → Q (optV (canStand t s)) H'
def spRuns : Sp := fun vs H Q _ => vs = [] ∧ ∀ H', Ex H H' → Q (.bl true) H'
theorem stands_short : ∀ s ∈ standsS, (∀ z ∈ s.1, z.length ≤ 9) ∧ (∀ z ∈ s.2, z.length ≤ 9) ∧ s.1.length ≤ 20 ∧ s.2.length ≤ 20 := by decide +kernel
theorem rows_short : ∀ r ∈ rowsS, ∀ z ∈ r.1, z.length ≤ 9 := by decide +kernel
theorem early_short : ∀ z ∈ earlyS, z.length ≤ 9 := by decide +kernel
theorem rows_data : ∀ r ∈ rowsS, SeqAt.shaped (.list (r.2.map PyData.bool)) = true ∧ PyData.eqv (.list (r.2.map PyData.bool)) (.list (r.2.map PyData.bool)) = true := by decide +kernel
theorem dp_bools {K : PySem.W.Frag} {H : Hp} (bs : List Bool) : DpAll K H (bs.map V.bl) (bs.map PyData.bool) := by
  induction bs with
  | nil => exact .nil
  | cons b bs ih => exact .cons (.bl b) ih
theorem val_stand {l : Nat} {i : Int} : (valV (mergeK [] [(.inl (-1), V.bl true), (.inl (l : Int), V.bl false)]) (.inl i)).getD .non = if i = -1 then V.bl true else if i = (l : Int) then V.bl false else .non := by
  have hm : mergeK [] [((.inl (-1) : Key), V.bl true), (.inl (l : Int), V.bl false)] = [(.inl (-1), V.bl true), (.inl (l : Int), V.bl false)] := by
    have hne : ¬ ((-1 : Int) = (l : Int)) := by omega
    simp [mergeK, putK, hne]
  rw [hm]
  by_cases h1 : i = -1
  · subst h1; rw [if_pos rfl, valV_pos rfl]; rfl
  · rw [if_neg h1, valV_neg (fun e => h1 (by injection e with e; exact e.symm))]
    by_cases h2 : i = (l : Int)
    · subst h2; rw [if_pos rfl, valV_pos rfl]; rfl
    · rw [if_neg h2, valV_neg (fun e => h2 (by injection e with e; exact e.symm)), valV_nil]; rfl
theorem canStand_V {t : Str} {s : List Str × List Str} : optV (canStand t s) = if idxT (s.1 ++ [t] ++ s.2) = -1 then V.bl true else if idxT (s.1 ++ [t] ++ s.2) = (s.1.length : Int) then V.bl false else .non := by
  unfold canStand
  split
  · rfl
  · split <;> rfl
section
variable {P : Program} {w : World} {K : PySem.W.Frag} {mg : Str → Option Value} {base : Heap}
abbrev n_l_stands : List Str := ["_law_row", "_law_found"]
theorem sc_l_stands : FnScope n_l_stands [] (defScope s_l_stands) := ⟨rfl, rfl, rfl, by decide +kernel, rfl, by decide +kernel, by decide +kernel⟩
theorem ok_l_stands (T : Txt K mg w) : Cal P w K mg base CX0 1 "_law_stands" [] spStands := by
  refine ⟨ok0 T.f_l_stands sc_l_stands (fun vs H Q E h => ?_) (fun _ _ _ _ _ _ us hl => match us, hl with | [], _ => rfl) (fun cdv A outer s H vs Q E hr h => ?_), kpOf T.f_l_stands, T.g_l_stands⟩
  · obtain ⟨rfl, _⟩ := h; rfl
  obtain ⟨rfl, q⟩ := h
  refine ⟨_, (pss_cons (ps_set (i := 0) sc_l_stands.nd rfl (by first | exact Or.inl rfl | exact Or.inr rfl) (pe_lst (pa_cons pe_str (pa_cons pe_str (pa_cons pe_str (pa_cons pe_str pa_nil))))))
    (pss_cons (ps_set (i := 1) sc_l_stands.nd rfl (by first | exact Or.inl rfl | exact Or.inr rfl) (pe_lst (pa_cons (pe_tup (pa_cons (pe_lst (pa_cons pe_str pa_nil)) (pa_cons (pe_lst (pa_cons pe_str (pa_cons pe_str pa_nil))) pa_nil))) (pa_cons (pe_tup (pa_cons (pe_lst (pa_cons pe_str pa_nil)) (pa_cons (pe_lst (pa_cons pe_str (pa_cons pe_str (pa_cons pe_str (pa_cons pe_str pa_nil))))) pa_nil))) (pa_cons (pe_tup (pa_cons (pv 0) (pa_cons (pe_lst (pa_cons pe_str (pa_cons pe_str (pa_cons pe_str pa_nil)))) pa_nil))) pa_nil)))))
    (pss_cons (ps_set (i := 1) sc_l_stands.nd rfl (by first | exact Or.inl rfl | exact Or.inr rfl) (pe_op op_cat (pv 1) (pe_lst (pa_cons (pe_tup (pa_cons (pe_op op_cat (pv 0) (pe_lst (pa_cons pe_str pa_nil))) (pa_cons (pe_lst (pa_cons pe_str (pa_cons pe_str (pa_cons pe_str pa_nil)))) pa_nil))) (pa_cons (pe_tup (pa_cons (pe_lst pa_nil) (pa_cons (pe_lst pa_nil) pa_nil))) (pa_cons (pe_tup (pa_cons (pe_lst (pa_cons pe_str pa_nil)) (pa_cons (pe_lst pa_nil) pa_nil))) (pa_cons (pe_tup (pa_cons (pe_lst (pa_cons pe_str (pa_cons pe_str pa_nil))) (pa_cons (pe_lst pa_nil) pa_nil))) (pa_cons (pe_tup (pa_cons (pe_lst (pa_cons pe_str (pa_cons pe_str pa_nil))) (pa_cons (pe_lst pa_nil) pa_nil))) pa_nil))))))))
    (pss_one (ps_ret (pe_op op_cat (pv 1) (pe_lst (pa_cons (pe_tup (pa_cons (pe_lst (pa_cons pe_str (pa_cons pe_str (pa_cons pe_str pa_nil)))) (pa_cons (pe_lst pa_nil) pa_nil))) pa_nil)))))))), ?_⟩
  refine sx_set (evx_c (xs := rowA.map V.str) (ea_cons ev_c (ea_cons ev_c (ea_cons ev_c (ea_cons ev_c ea_nil)))) (by decide)) fun p0 H1 e1 h0 => ?_
  refine sc_set (evc_lst (evps_cons (evp_tup (xs := [("fun" : Str)].map V.str) (ys := [("->" : Str), "1"].map V.str) (evx_c (ea_cons ev_c ea_nil) (by decide)) (evx_c (ea_cons ev_c (ea_cons ev_c ea_nil)) (by decide)))
    (evps_cons (evp_tup (xs := [("let" : Str)].map V.str) (ys := [("=" : Str), "1", "in", "1"].map V.str) (evx_c (ea_cons ev_c ea_nil) (by decide)) (evx_c (ea_cons ev_c (ea_cons ev_c (ea_cons ev_c (ea_cons ev_c ea_nil)))) (by decide)))
    (evps_cons (evp_tup (xs := rowA.map V.str) (ys := [("->" : Str), "1", "end"].map V.str) (evx_v rfl h0) (evx_c (ea_cons ev_c (ea_cons ev_c (ea_cons ev_c ea_nil))) (by decide))) evps_nil))) (by decide)) fun p1 H2 vs1 e2 hp1 hv1 => ?_
  refine sc_set (evc_cat (evc_v rfl hp1 hv1) (evc_lst (evps_cons (evp_tup (xs := rowA.map V.str ++ [("P" : Str)].map V.str) (ys := [("->" : Str), "1", "end"].map V.str) (evx_cat (evx_v rfl (e2 _ _ h0)) (evx_c (ea_cons ev_c ea_nil) (by decide)) (by decide)) (evx_c (ea_cons ev_c (ea_cons ev_c (ea_cons ev_c ea_nil))) (by decide)))
    (evps_cons (evp_tup (xs := []) (ys := []) (evx_c ea_nil (by decide)) (evx_c ea_nil (by decide)))
    (evps_cons (evp_tup (xs := [("f" : Str)].map V.str) (ys := []) (evx_c (ea_cons ev_c ea_nil) (by decide)) (evx_c ea_nil (by decide)))
    (evps_cons (evp_tup (xs := [("P" : Str), "1"].map V.str) (ys := []) (evx_c (ea_cons ev_c (ea_cons ev_c ea_nil)) (by decide)) (evx_c ea_nil (by decide)))
    (evps_cons (evp_tup (xs := [("1" : Str), "+"].map V.str) (ys := []) (evx_c (ea_cons ev_c (ea_cons ev_c ea_nil)) (by decide)) (evx_c ea_nil (by decide))) evps_nil))))) (by decide)) (by decide)) fun p2 H3 vs2 e3 hp2 hv2 => ?_
  refine sc_ret (evc_cat (evc_v rfl hp2 hv2) (evc_lst (evps_cons (evp_tup (xs := [("fun" : Str), "x", "->"].map V.str) (ys := []) (evx_c (ea_cons ev_c (ea_cons ev_c (ea_cons ev_c ea_nil))) (by decide)) (evx_c ea_nil (by decide))) evps_nil) (by decide)) (by decide)) fun p3 H4 vs3 e4 hp3 hv3 => ?_
  exact q p3 H4 vs3 (((e1.trans e2).trans e3).trans e4) hp3 hv3
abbrev n_l_can_stand : List Str := ["_law_token", "_law_stand", "_law_ahead", "_law_behind"]
theorem sc_l_can_stand : FnScope n_l_can_stand ["_law_token", "_law_stand"] (defScope s_l_can_stand) := ⟨rfl, rfl, rfl, by decide +kernel, rfl, by decide +kernel, by decide +kernel⟩
theorem ok_l_can_stand (T : Txt K mg w) : Cal P w K mg base CX0 11 "_law_can_stand" ["_law_token", "_law_stand"] spStand := by
  have c_l_index : Cal P w K mg base _ _ _ _ _ := ok_l_index (P := P) (base := base) T
  refine ⟨ok0 T.f_l_can_stand sc_l_can_stand (fun vs H Q E h => ?_) (fun _ _ _ _ _ _ us hl => match us, hl with | [_, _], _ => rfl) (fun cdv A outer s H vs Q E hr h => ?_), kpOf T.f_l_can_stand, T.g_l_can_stand⟩
  · obtain ⟨t, v, s, rfl, _⟩ := h; rfl
  obtain ⟨t, v, st, rfl, ⟨a, x, y, rfl, h1, h2, h3⟩, hb, q⟩ := h
  refine ⟨_, (pss_cons (ps_asg (pv 1) (pg_tup rfl (pgs_cons (pg_name (i := 2) sc_l_can_stand.nd rfl (by first | exact Or.inl rfl | exact Or.inr rfl)) (pgs_cons (pg_name (i := 3) sc_l_can_stand.nd rfl (by first | exact Or.inl rfl | exact Or.inr rfl)) pgs_nil))))
    (pss_one (ps_ret (pe_dget2 (hu_of hr) (pe_disp (pps_cons (pe_un un_neg pe_int) pe_bl (pps_cons (pe_callB call_len rfl T.b_len PySem.boot_len (pa_cons (pv 2) pa_nil)) pe_bl pps_nil)) (by rfl) (by rfl) (fun z => by cases z) (by decide)) (pe_cal c_l_index hr (by decide) rfl pass0 (pa_cons (pe_op op_cat (pe_op op_cat (pv 2) (pe_lst (pa_cons (pv 0) pa_nil))) (pv 3)) pa_nil)) pe_non ⟨rfl, rfl, rfl, rfl⟩)))), ?_⟩
  refine ⟨_, rfl, a, _, rfl, SqT.of h1, rfl, _, _, rfl, _, _, rfl, rfl, ?_⟩
  intro pd hpd
  have e1 := Ex.new (o := .dK []) hpd
  refine ⟨_, rfl, _, rfl, _, _, rfl, .inl ⟨_, SqL.of (e1 _ _ h2), rfl⟩, upd_same, [(.inl (-1), .bl true), (.inl ((st.1.length : Nat) : Int), .bl false)], by simp [sV, kV], by simp, pd, rfl, .inl ⟨_, .inl upd_same⟩, ?_⟩
  have e2 : Ex H _ := Ex.mut (o := .dK (mergeK [] [(.inl (-1), .bl true), (.inl ((st.1.length : Nat) : Int), .bl false)])) e1 hpd
  have b1 : st.1.length ≤ 1000 := by have := hb.2; simp at this; omega
  have b2 : st.2.length ≤ 1000 := by have := hb.2; simp at this; omega
  refine ⟨_, rfl, _, rfl, small_sz (by simp), fun q1 hq1 => ?_⟩
  have e3 := Ex.new (o := .lst ([t].map V.str)) hq1
  refine cat_ls (e3 _ _ (e2 _ _ h2)) (show LS _ q1 [t] from upd_same) (by simp; omega) fun p4 H4 hp4 e4 hl4 => ?_
  have e34 := e3.trans e4
  refine ⟨_, rfl, cat_ls hl4 (e34 _ _ (e2 _ _ h3)) (by simp; omega) fun p5 H5 hp5 e5 hl5 => ?_⟩
  refine ⟨p5, _, rfl, SqL.of hl5, hb.sum, fun H6 e6 => ?_⟩
  have e36 := (e34.trans e5).trans e6
  refine ⟨_, DGet.k (k := .inl (idxT (st.1 ++ [t] ++ st.2))) (e36 _ _ upd_same), ?_⟩
  rw [val_stand, ← canStand_V]
  exact q H6 (e2.trans e36)
end
end Sh
set_option Elab.async false
set_option linter.all false
set_option maxRecDepth 100000
set_option maxHeartbeats 4000000
namespace Sh
open PySem PySem.Spec PyProof.Rows L2 Evl
theorem prs_map {α : Type} {H : Hp} {f : α → List V × List V} : ∀ {rs : List α} {vs : List V}, Paired (PairR H) vs (rs.map f) → Paired (fun v r => PairR H v (f r)) vs rs
  | [], _, h => by cases h; exact .nil
  | r :: rs, _, h => by
    cases h with
    | cons a b => exact .cons a (prs_map b)
theorem Paired.take_ {α β : Type} {F : α → β → Prop} : ∀ {l : List α} {m : List β} (k : Nat), Paired F l m → Paired F (l.take k) (m.take k)
  | _, _, 0, _ => by simp; exact .nil
  | _, _, k + 1, .nil => by simp; exact .nil
  | _, _, k + 1, .cons a r => .cons a (Paired.take_ k r)
theorem Paired.at_l {α β : Type} {F : α → β → Prop} : ∀ {l : List α} {m : List β} {i : Nat} {x : α}, Paired F l m → l[i]? = some x → ∃ y, m[i]? = some y ∧ F x y
  | _, _, 0, _, .cons a _, h => by cases h; exact ⟨_, rfl, a⟩
  | _, _, i + 1, x, .cons _ r, h => by
    obtain ⟨y, e, f⟩ := Paired.at_l (i := i) (x := x) r h
    exact ⟨y, e, f⟩
  | _, _, i, _, .nil, h => by simp at h
theorem strs_ne {ts : List Str} {r : Addr} {l : List V} : ts.map V.str ≠ .ref r :: l := by cases ts <;> simp
theorem bools_ne {bs : List Bool} {r : Addr} {l : List V} : bs.map V.bl ≠ .ref r :: l := by cases bs <;> simp
theorem rows_put {H : Hp} {p r0 : Addr} {l0 : List V} {o : HO} (hp : H p = some (.lst (.ref r0 :: l0))) {vs : List V} {rs : List (List Str × List Bool)} (h : Paired (fun v r => PairR H v (rV r)) vs rs) : Paired (fun v r => PairR (upd H p o) v (rV r)) vs rs :=
  Paired.mapP h fun v r q => by
    obtain ⟨t, a, b, e, h1, h2, h3⟩ := q
    refine ⟨t, a, b, e, ?_, ?_, ?_⟩
    · rw [upd_ne (fun z => by rw [z, hp] at h1; cases h1)]; exact h1
    · rw [upd_ne (fun z => by rw [z, hp] at h2; exact strs_ne (HO.lst.inj (Option.some.inj h2)).symm)]; exact h2
    · rw [upd_ne (fun z => by rw [z, hp] at h3; exact bools_ne (HO.lst.inj (Option.some.inj h3)).symm)]; exact h3
theorem sc_setN {σ : L2.St} {H : Hp} {t : TA} {ss : List (List V × List V)} {u : TS} {D : Ends} {i : Nat} (h : EvPs t σ H ss) (hl : ss.length ≤ 1000) (k : ∀ p H1 vs, H p = none → Ex H H1 → H1 p = some (.lst vs) → Paired (PairR H1) vs ss → u D (σ.set i (some (.ref p))) H1) : tSeq (tAsg (tLst t) (gName i)) u D σ H :=
  h H (Ex.refl H) _ fun vs H2 e2 hv => ⟨small_sz (by rw [hv.length]; omega), fun p hp => k p _ vs (fresh_back e2 hp) (e2.trans (Ex.new hp)) upd_same (prs_ex hv (Ex.new hp))⟩
theorem res_bools {t : Str} {ss : List (List Str × List Str)} {bs : List Bool} (h : ss.map (canStand t) = bs.map some) : ss.map (fun s => optV (canStand t s)) = bs.map V.bl := by
  have : ss.map (fun s => optV (canStand t s)) = (ss.map (canStand t)).map optV := by rw [List.map_map]; rfl
  rw [this, h, List.map_map]; rfl
section
variable {P : Program} {w : World} {K : PySem.W.Frag} {mg : Str → Option Value} {base : Heap}
theorem lc_stands {a D : Addr} {H1 : Hp} {t : Str} {i j : Nat} {σ : L2.St} {vs : List Nat} {ss : List (List Str × List Str)} {l : List V} {E : XK} {Qd : Hp → Prop} (hD : H1 D = none) (ha : H1 a = some (.lst l)) (hp : Paired (fun v s => PairR H1 v (sV s)) l ss) (hss : ∀ s, s ∈ ss → s ∈ standsS)
    (hsl : ss.length ≤ 1000) (ht : t.length ≤ 9) (hw : ∀ x, wipe ((wipe σ vs).set j (some x)) vs = wipe σ vs) (hi : ∀ x, ((wipe σ vs).set j (some x))[i]? = some (some (.str t))) (hj : ∀ x, ((wipe σ vs).set j (some x))[j]? = some (some x))
    (hd : ∀ H', Ex H1 H' → H' D = some (.lst (ss.map fun s => optV (canStand t s))) → Qd H') :
    ∃ W : Nat → Nat → Hp → Prop, (∃ m, W 0 m (upd H1 D (.lst []))) ∧ ∀ i' m H, W i' m H →
      ((Itl K a).stop i' H ∧ Qd H) ∨ ((Itl K a).go i' H ∧ ∃ Nx : Hp → Prop, (∀ H', Nx H' → ∃ m', m' < m ∧ W (i' + 1) m' H') ∧ ∀ x H', (Itl K a).yld i' H x H' → gName j x (wipe σ vs) H' fun σ2 H2 => wipe σ2 vs = wipe σ vs ∧ tYes σ2 H2 fun b H3 =>
        if b = true then tCall spStand [] E (tCons (tVar i) (tCons (tVar j) tNil)) σ2 H3 fun y H4 => ∃ acc, H4 D = some (.lst acc) ∧ acc.length < sizeLine ∧ Nx (upd H4 D (.lst (acc ++ [y]))) else Nx H3) := by
  have hlen := hp.length
  refine lc_list (xs := l) (fun k H' => Ex H1 H' ∧ H' D = some (.lst ((ss.take k).map fun s => optV (canStand t s)))) ⟨Ex.new hD, upd_same⟩ (fun k H' _ h => SqL.of (h.1 _ _ ha)) ?_ ?_
  · rintro k x H' hk ⟨ex, hacc⟩
    obtain ⟨s, hs, hpr⟩ := Paired.at_l hp hk
    obtain ⟨q1, q2, q3, q4⟩ := stands_short s (hss s (List.mem_of_getElem? hs))
    have hb : Bw 1000 (s.1 ++ [t] ++ s.2) := ((Bw.app (Bw.app (j := 20) (k := 1) ⟨q1, q3⟩ (Bw.one ht)) (k := 20) ⟨q2, q4⟩)).mono (by omega)
    refine ⟨hw _, yes_i ⟨_, hi _, _, hj _, t, x, s, rfl, hpr.ex ex, hb, fun H4 e4 => ⟨_, e4 _ _ hacc, small_lt (by rw [List.length_map, List.length_take]; omega), Ex.mut (ex.trans e4) hD, ?_⟩⟩⟩
    rw [upd_same, el_lcS.take_more hs, List.map_append]; rfl
  · rintro H' ⟨ex, hacc⟩
    rw [hlen, List.take_length] at hacc
    exact hd H' ex hacc
abbrev n_l_runs_right : List Str := ["_law_none", "_law_rows", "_law_token", "_law_keys", "_law_early", "_law_tokens_here", "_law_due", "_law_stand"]
theorem sc_l_runs_right : FnScope n_l_runs_right [] (defScope s_l_runs_right) := ⟨rfl, rfl, rfl, by decide +kernel, rfl, by decide +kernel, by decide +kernel⟩
theorem ok_l_runs_right (T : Txt K mg w) : Cal P w K mg base CX0 12 "_law_runs_right" [] spRuns := by
  have c_l_stands : Cal P w K mg base _ _ _ _ _ := ok_l_stands (P := P) (base := base) T
  have c_l_can_stand : Cal P w K mg base _ _ _ _ _ := ok_l_can_stand (P := P) (base := base) T
  have c_l_index : Cal P w K mg base _ _ _ _ _ := ok_l_index (P := P) (base := base) T
  refine ⟨ok0 T.f_l_runs_right sc_l_runs_right (fun vs H Q E h => ?_) (fun _ _ _ _ _ _ us hl => match us, hl with | [], _ => rfl) (fun cdv A outer s H vs Q E hr h => ?_), kpOf T.f_l_runs_right, T.g_l_runs_right⟩
  · obtain ⟨rfl, _⟩ := h; rfl
  obtain ⟨rfl, q⟩ := h
  refine ⟨_, (pss_cons (ps_set (i := 0) sc_l_runs_right.nd rfl (by first | exact Or.inl rfl | exact Or.inr rfl) (pe_lst (pa_cons pe_str (pa_cons pe_str (pa_cons pe_str (pa_cons pe_str (pa_cons pe_str (pa_cons pe_str (pa_cons pe_str (pa_cons pe_str (pa_cons pe_str (pa_cons pe_str (pa_cons pe_str (pa_cons pe_str (pa_cons pe_str pa_nil)))))))))))))))
    (pss_cons (ps_par (i := 3) (j := 4) rfl sc_l_runs_right.nd rfl rfl (by decide) rfl rfl (pa_cons (pe_lst (pa_cons pe_str (pa_cons pe_str (pa_cons pe_str (pa_cons pe_str (pa_cons pe_str (pa_cons pe_str pa_nil))))))) (pa_cons (pe_lst (pa_cons pe_str (pa_cons pe_str (pa_cons pe_str (pa_cons pe_str pa_nil))))) pa_nil)) (by rfl))
    (pss_cons (ps_set (i := 1) sc_l_runs_right.nd rfl (by first | exact Or.inl rfl | exact Or.inr rfl) (pe_lst (pa_cons (pe_tup (pa_cons (pe_op op_cat (pv 0) (pv 3)) (pa_cons (pe_op op_rep (pe_lst (pa_cons pe_bl pa_nil)) pe_int) pa_nil))) (pa_cons (pe_tup (pa_cons (pe_lst (pa_cons pe_str (pa_cons pe_str (pa_cons pe_str (pa_cons pe_str pa_nil))))) (pa_cons (pe_op op_rep (pe_lst (pa_cons pe_bl pa_nil)) pe_int) pa_nil))) pa_nil))))
    (pss_cons (ps_expr (pe_bm PySem.F.plainAttrs_list PySem.F.slot_list_append PySem.F.type_list_append mt_append (pv 1) (pa_cons (pe_tup (pa_cons (pe_lst (pa_cons pe_str (pa_cons pe_str (pa_cons pe_str (pa_cons pe_str pa_nil))))) (pa_cons (pe_op op_cat (pe_lst (pa_cons pe_bl (pa_cons pe_bl pa_nil))) (pe_op op_rep (pe_lst (pa_cons pe_bl pa_nil)) pe_int)) pa_nil))) pa_nil)))
    (pss_cons (ps_expr (pe_bm PySem.F.plainAttrs_list PySem.F.slot_list_append PySem.F.type_list_append mt_append (pv 1) (pa_cons (pe_tup (pa_cons (pe_lst (pa_cons pe_str (pa_cons pe_str (pa_cons pe_str pa_nil)))) (pa_cons (pe_op op_cat (pe_op op_rep (pe_lst (pa_cons pe_bl pa_nil)) pe_int) (pe_op op_rep (pe_lst (pa_cons pe_bl pa_nil)) pe_int)) pa_nil))) pa_nil)))
    (pss_cons (ps_for PassesOwn.never rfl (pi_list (pv 1)) (pg_tup rfl (pgs_cons (pg_name (i := 5) sc_l_runs_right.nd rfl (by first | exact Or.inl rfl | exact Or.inr rfl)) (pgs_cons (pg_name (i := 6) sc_l_runs_right.nd rfl (by first | exact Or.inl rfl | exact Or.inr rfl)) pgs_nil))) (pss_one (ps_for PassesOwn.never rfl (pi_list (pv 5)) (pg_name (i := 2) sc_l_runs_right.nd rfl (by first | exact Or.inl rfl | exact Or.inr rfl)) (pss_one (ps_if (pt_cmpR (op_neD hr.units) (pe_lc (own := [(("_law_stand" : Str), 7)]) (g := gName 7) rfl sc_l_runs_right.nd (pi_list (pe_cal0 c_l_stands hr (by decide) rfl pass0)) (blkOk_by (own := [(("_law_stand" : Str), 7)]) (N := n_l_runs_right) (sc := defScope s_l_runs_right) (by decide +kernel)) (fun _ _ _ _ _ => pg_name (i := 7) sc_l_runs_right.nd rfl (by first | exact Or.inl rfl | exact Or.inr rfl)) (fun _ _ _ _ _ => pts_nil) (fun _ _ _ _ _ => (pe_cal c_l_can_stand hr (by decide) rfl pass0 (pa_cons (pv 2) (pa_cons (pv 7) pa_nil))))) (pv 6) (nomark _)) (pss_one (ps_ret pe_bl)) pss_nil)))))
    (pss_cons (ps_for PassesOwn.never rfl (pi_list (pv 4)) (pg_name (i := 2) sc_l_runs_right.nd rfl (by first | exact Or.inl rfl | exact Or.inr rfl)) (pss_one (ps_if (pt_cmpR (op_neD hr.units) (pe_lc (own := [(("_law_stand" : Str), 7)]) (g := gName 7) rfl sc_l_runs_right.nd (pi_list (pe_slice sl_list (pe_cal0 c_l_stands hr (by decide) rfl pass0) po_none (po_some pe_int))) (blkOk_by (own := [(("_law_stand" : Str), 7)]) (N := n_l_runs_right) (sc := defScope s_l_runs_right) (by decide +kernel)) (fun _ _ _ _ _ => pg_name (i := 7) sc_l_runs_right.nd rfl (by first | exact Or.inl rfl | exact Or.inr rfl)) (fun _ _ _ _ _ => pts_nil) (fun _ _ _ _ _ => (pe_cal c_l_can_stand hr (by decide) rfl pass0 (pa_cons (pv 2) (pa_cons (pv 7) pa_nil))))) (pe_op op_rep (pe_lst (pa_cons pe_bl pa_nil)) pe_int) (nomark _)) (pss_one (ps_ret pe_bl)) pss_nil)))
    (pss_one (ps_ret (pe_cmpR (op_eqD hr.units) (pe_lst (pa_cons (pe_cal c_l_index hr (by decide) rfl pass0 (pa_cons (pe_lst (pa_cons pe_str (pa_cons pe_str (pa_cons pe_str (pa_cons pe_str pa_nil))))) pa_nil)) (pa_cons (pe_cal c_l_index hr (by decide) rfl pass0 (pa_cons (pe_lst (pa_cons pe_str pa_nil)) pa_nil)) (pa_cons (pe_cal c_l_index hr (by decide) rfl pass0 (pa_cons (pe_lst (pa_cons pe_str pa_nil)) pa_nil)) pa_nil)))) (pe_lst (pa_cons pe_int (pa_cons pe_int (pa_cons pe_int pa_nil)))) (nomark _))))))))))), ?_⟩
  refine sx_set (evx_c (xs := noneS.map V.str) (ea_cons ev_c (ea_cons ev_c (ea_cons ev_c (ea_cons ev_c (ea_cons ev_c (ea_cons ev_c (ea_cons ev_c (ea_cons ev_c (ea_cons ev_c (ea_cons ev_c (ea_cons ev_c (ea_cons ev_c (ea_cons ev_c ea_nil))))))))))))) (by decide)) fun p0 H1 e1 h0 => ?_
  refine ⟨small_sz (by simp), fun pk hpk => ⟨small_sz (by simp), fun pe hpe => ⟨_, _, rfl, ?_⟩⟩⟩
  have ek := Ex.new (o := .lst (keysS.map V.str)) hpk
  have ee := Ex.new (o := .lst (earlyS.map V.str)) hpe
  have eke := ek.trans ee
  have hk2 := ee _ _ (upd_same (H := H1) (a := pk) (o := .lst (keysS.map V.str)))
  have f9 : ∀ {σ : L2.St} {H : Hp}, EvX (tOp rRep (tLst (tCons (tC (.bl false)) tNil)) (tC (.int 9))) σ H ((List.replicate 9 false).map V.bl) := evx_rep (k := 9) (evx_c (ea_cons ev_c ea_nil) (by decide)) (by decide)
  have t9 : ∀ {σ : L2.St} {H : Hp}, EvX (tOp rRep (tLst (tCons (tC (.bl true)) tNil)) (tC (.int 9))) σ H ((List.replicate 9 true).map V.bl) := evx_rep (k := 9) (evx_c (ea_cons ev_c ea_nil) (by decide)) (by decide)
  have t7 : ∀ {σ : L2.St} {H : Hp}, EvX (tOp rRep (tLst (tCons (tC (.bl true)) tNil)) (tC (.int 7))) σ H ((List.replicate 7 true).map V.bl) := evx_rep (k := 7) (evx_c (ea_cons ev_c ea_nil) (by decide)) (by decide)
  have t5 : ∀ {σ : L2.St} {H : Hp}, EvX (tOp rRep (tLst (tCons (tC (.bl true)) tNil)) (tC (.int 5))) σ H ((List.replicate 5 true).map V.bl) := evx_rep (k := 5) (evx_c (ea_cons ev_c ea_nil) (by decide)) (by decide)
  have f4 : ∀ {σ : L2.St} {H : Hp}, EvX (tOp rRep (tLst (tCons (tC (.bl false)) tNil)) (tC (.int 4))) σ H ((List.replicate 4 false).map V.bl) := evx_rep (k := 4) (evx_c (ea_cons ev_c ea_nil) (by decide)) (by decide)
  refine sc_setN (evps_cons (evp_tup (xs := noneS.map V.str ++ keysS.map V.str) (evx_cat (evx_v rfl (eke _ _ h0)) (evx_v rfl hk2) (by decide)) f9)
    (evps_cons (evp_tup (xs := [("x" : Str), "zzzzzzzz", "a1b2c3d4", "z9999999"].map V.str) (evx_c (ea_cons ev_c (ea_cons ev_c (ea_cons ev_c (ea_cons ev_c ea_nil)))) (by decide)) t9) evps_nil)) (by decide) fun pR H3 vs3 hpRn e3 hp3 hv3 => ?_
  have hv3 : Paired (PairR H3) vs3 ((rowsS.take 2).map rV) := hv3
  have hv3 := prs_map hv3
  -- the first append
  refine ⟨_, rfl, tyL hp3, ?_⟩
  refine evp_tup (xs := [("N" : Str), "AbCdEfGh", "A1b2C3d4", "Z9999999"].map V.str) (evx_c (ea_cons ev_c (ea_cons ev_c (ea_cons ev_c (ea_cons ev_c ea_nil)))) (by decide)) (evx_cat (xs := [false, false].map V.bl) (evx_c (ea_cons ev_c (ea_cons ev_c ea_nil)) (by decide)) t7 (by decide)) H3 (Ex.refl H3) _ fun v4 H4 e4 hv4 => ?_
  have l3 : vs3.length = 2 := hv3.length
  refine ⟨pR, vs3, v4, rfl, rfl, e4 _ _ hp3, small_lt (by omega), ?_⟩
  obtain ⟨r0, l0, hvs3⟩ : ∃ r0 l0, vs3 = .ref r0 :: l0 := by
    cases hv3 with
    | cons a _ => obtain ⟨t, _, _, e, _⟩ := a; exact ⟨t, _, by rw [e]⟩
  have hp4 : H4 pR = some (.lst (.ref r0 :: l0)) := by rw [← hvs3]; exact e4 _ _ hp3
  have a5 : Paired (fun v r => PairR H4 v (rV r)) (vs3 ++ [v4]) (rowsS.take 2 ++ [([("N" : Str), "AbCdEfGh", "A1b2C3d4", "Z9999999"], [false, false] ++ List.replicate 7 true)]) := Paired.app (Paired.mapP hv3 fun _ _ q => PairR.ex q e4) (.cons hv4 .nil)
  have hv5 : Paired (fun v r => PairR (upd H4 pR (.lst (vs3 ++ [v4]))) v (rV r)) (vs3 ++ [v4]) (rowsS.take 3) :=
    rows_put hp4 a5
  have hp5 : (upd H4 pR (.lst (vs3 ++ [v4]))) pR = some (.lst (vs3 ++ [v4])) := upd_same
  -- the second append
  refine ⟨_, rfl, tyL hp5, ?_⟩
  refine evp_tup (xs := [("0" : Str), "7", "999999"].map V.str) (evx_c (ea_cons ev_c (ea_cons ev_c (ea_cons ev_c ea_nil))) (by decide)) (evx_cat f4 t5 (by decide)) _ (Ex.refl _) _ fun v6 H6 e6 hv6 => ?_
  refine ⟨pR, _, v6, rfl, rfl, e6 _ _ hp5, small_lt (by simp [l3]), ?_⟩
  have hp6 : H6 pR = some (.lst (.ref r0 :: (l0 ++ [v4]))) := by rw [← List.cons_append, ← hvs3]; exact e6 _ _ hp5
  have a7 : Paired (fun v r => PairR H6 v (rV r)) (vs3 ++ [v4] ++ [v6]) (rowsS.take 3 ++ [([("0" : Str), "7", "999999"], List.replicate 4 false ++ List.replicate 5 true)]) := Paired.app (Paired.mapP hv5 fun _ _ q => PairR.ex q e6) (.cons hv6 .nil)
  have hv7 : Paired (fun v r => PairR (upd H6 pR (.lst (vs3 ++ [v4] ++ [v6]))) v (rV r)) (vs3 ++ [v4] ++ [v6]) rowsS :=
    rows_put hp6 a7
  have hp7 : (upd H6 pR (.lst (vs3 ++ [v4] ++ [v6]))) pR = some (.lst (vs3 ++ [v4] ++ [v6])) := upd_same
  have hpR0 : H pR = none := fresh_back e1 (fresh_back eke hpRn)
  have exL : Ex H (upd H6 pR (.lst (vs3 ++ [v4] ++ [v6]))) := Ex.mut ((Ex.mut (((e1.trans eke).trans e3).trans e4) hpR0).trans e6) hpR0
  have hpen : pe ≠ pR := fun z => by
    rw [← z, upd_same] at hpRn
    cases hpRn
  have hearly : (upd H6 pR (.lst (vs3 ++ [v4] ++ [v6]))) pe = some (.lst (earlyS.map V.str)) := by
    rw [upd_ne hpen]
    refine e6 _ _ ?_
    rw [upd_ne hpen]
    exact e4 _ _ (e3 _ _ upd_same)
  generalize upd H6 pR (.lst (vs3 ++ [v4] ++ [v6])) = HL at hv7 hp7 exL hearly ⊢
  generalize vs3 ++ [v4] ++ [v6] = vsL at hv7 hp7
  -- the rows
  refine ⟨_, rfl, pR, rfl, ⟨_, SqL.of hp7⟩, ?_⟩
  refine for_list (xs := vsL) (fun i σ H' => ∃ (o2 o5 o6 o7 : Option V), σ = [some (.ref p0), some (.ref pR), o2, some (.ref pk), some (.ref pe), o5, o6, o7] ∧ Ex HL H') ⟨_, _, _, _, rfl, Ex.refl HL⟩ ?_ ?_ ?_
  · rintro i σ H' _ ⟨o2, o5, o6, o7, rfl, ex⟩
    exact SqL.of (ex _ _ hp7)
  · rintro i x σ H' hi ⟨o2, o5, o6, o7, rfl, ex⟩
    obtain ⟨r, hr', hpr⟩ := Paired.at_l hv7 hi
    have hrm := List.mem_of_getElem? hr'
    obtain ⟨t, a, b, rfl, h1, h2, h3⟩ := hpr.ex ex
    have h2 : H' a = some (.lst (r.1.map V.str)) := h2
    have h3 : H' b = some (.lst (r.2.map V.bl)) := h3
    refine ⟨t, _, rfl, SqT.of h1, rfl, _, _, rfl, _, _, rfl, rfl, ?_⟩
    refine ⟨_, rfl, a, rfl, ⟨_, SqL.of h2⟩, ?_⟩
    refine for_list (xs := r.1.map V.str) (fun i σ H'' => ∃ (o2 : Option V), σ = [some (.ref p0), some (.ref pR), o2, some (.ref pk), some (.ref pe), some (.ref a), some (.ref b), o7] ∧ Ex H' H'') ⟨_, rfl, Ex.refl H'⟩ ?_ ?_ ?_
    · rintro i σ H'' _ ⟨o2, rfl, ex2⟩
      exact SqL.of (ex2 _ _ h2)
    · rintro i x σ H'' hi2 ⟨o2, rfl, ex2⟩
      obtain ⟨z, hz, rfl⟩ := List.mem_map.mp (List.mem_of_getElem? hi2)
      refine ⟨rfl, fun sp H8 vs8 e8 hsp hvs8 => ⟨sp, rfl, ⟨_, SqL.of hsp⟩, fun D hD => ?_⟩⟩
      refine lc_stands (t := z) (ss := standsS) hD hsp (prs_map hvs8) (fun s hs => hs) (by decide) (rows_short r hrm z hz) (fun _ => rfl) (fun _ => rfl) (fun _ => rfl) ?_
      intro H9 e9 hD9
      rw [res_bools (rows_ok r hrm z hz)] at hD9
      obtain ⟨sd1, sd2⟩ := rows_data r hrm
      have h39 := e9 _ _ (e8 _ _ (ex2 _ _ h3))
      refine ⟨_, rfl, .list (r.2.map PyData.bool), .list (r.2.map PyData.bool), .lst (SqL.of hD9) (dp_bools _), .lst (SqL.of h39) (dp_bools _), sd1, sd1, _, rfl, ?_⟩
      rw [sd2]
      exact iteF ⟨_, rfl, (ex2.trans e8).trans e9⟩
    · rintro σ H'' ⟨o2, rfl, ex2⟩
      exact ⟨_, _, _, _, rfl, ex.trans ex2⟩
  · rintro σ H' ⟨o2, o5, o6, o7, rfl, ex⟩
    -- early
    refine ⟨_, rfl, pe, rfl, ⟨_, SqL.of (ex _ _ hearly)⟩, ?_⟩
    refine for_list (xs := earlyS.map V.str) (fun i σ H'' => ∃ (o2 : Option V), σ = [some (.ref p0), some (.ref pR), o2, some (.ref pk), some (.ref pe), o5, o6, o7] ∧ Ex HL H'') ⟨_, rfl, ex⟩ ?_ ?_ ?_
    · rintro i σ H'' _ ⟨o2, rfl, ex2⟩
      exact SqL.of (ex2 _ _ hearly)
    · rintro i x σ H'' hi2 ⟨o2, rfl, ex2⟩
      obtain ⟨z, hz, rfl⟩ := List.mem_map.mp (List.mem_of_getElem? hi2)
      refine ⟨rfl, fun sp H8 vs8 e8 hsp hvs8 => ⟨_, rfl, sp, _, rfl, SqL.of hsp, fun l hl => ?_⟩⟩
      have hl9 : vs8.length = 9 := by rw [hvs8.length, List.length_map]; rfl
      have hcut : cutV vs8 none (some 4) = vs8.take 4 := by
        show cutV vs8 none (some ((4 : Nat) : Int)) = _
        unfold cutV
        rw [HT.sIx_none, HT.sIx_nat, hl9]
        simp
      rw [hcut]
      have el := Ex.new (o := .lst (vs8.take 4)) hl
      refine ⟨l, rfl, ⟨_, SqL.of upd_same⟩, fun D hD => ?_⟩
      refine lc_stands (t := z) (ss := standsS.take 4) hD upd_same (Paired.take_ 4 (Paired.mapP (prs_map hvs8) fun _ _ q => PairR.ex q el)) (fun s hs => List.mem_of_mem_take hs) (by decide) (early_short z hz) (fun _ => rfl) (fun _ => rfl) (fun _ => rfl) ?_
      intro H9 e9 hD9
      rw [res_bools (bs := [false, false, false, false]) (early_ok z hz)] at hD9
      refine f4 H9 (Ex.refl H9) _ fun p10 H10 e10 hp10 => ?_
      refine ⟨.list ([false, false, false, false].map PyData.bool), .list ([false, false, false, false].map PyData.bool), .lst (SqL.of (e10 _ _ hD9)) (dp_bools _), .lst (SqL.of hp10) (dp_bools [false, false, false, false]), by decide +kernel, by decide +kernel, _, rfl, ?_⟩
      rw [show PyData.eqv (.list ([false, false, false, false].map PyData.bool)) (.list ([false, false, false, false].map PyData.bool)) = true from by decide +kernel]
      exact iteF ⟨_, rfl, ((ex2.trans e8).trans el).trans (e9.trans e10)⟩
    · rintro σ H'' ⟨o2, rfl, ex2⟩
      obtain ⟨i1, i2, i3⟩ := last_ok
      refine ⟨small_sz (by simp), fun q1 hq1 => ?_⟩
      have g1 := Ex.new (o := .lst (([("fun" : Str), "x_y", "->", "1"]).map V.str)) hq1
      refine ⟨q1, [("fun" : Str), "x_y", "->", "1"], rfl, SqL.of upd_same, (Bw.sum ⟨by decide +kernel, by decide⟩), fun H2 g2 => ?_⟩
      refine ⟨small_sz (by simp), fun q3 hq3 => ?_⟩
      have g3 := Ex.new (o := .lst (([("x_" : Str)]).map V.str)) hq3
      refine ⟨q3, [("x_" : Str)], rfl, SqL.of upd_same, (Bw.sum ⟨by decide +kernel, by decide⟩), fun H4 g4 => ?_⟩
      refine ⟨small_sz (by simp), fun q5 hq5 => ?_⟩
      have g5 := Ex.new (o := .lst (([("_x" : Str)]).map V.str)) hq5
      refine ⟨q5, [("_x" : Str)], rfl, SqL.of upd_same, (Bw.sum ⟨by decide +kernel, by decide⟩), fun H6 g6 => ?_⟩
      rw [i1, i2, i3]
      refine ⟨small_sz (by simp), fun q7 hq7 => ?_⟩
      have g7 := Ex.new (o := .lst [.int 2, .int 1, .int 0]) hq7
      refine ⟨small_sz (by simp), fun q8 hq8 => ?_⟩
      have g8 := Ex.new (o := .lst [.int 2, .int 1, .int 0]) hq8
      refine ⟨.list [.int 2, .int 1, .int 0], .list [.int 2, .int 1, .int 0], .lst (SqL.of (g8 _ _ upd_same)) (.cons (.int _) (.cons (.int _) (.cons (.int _) .nil))), .lst (SqL.of upd_same) (.cons (.int _) (.cons (.int _) (.cons (.int _) .nil))), by decide +kernel, by decide +kernel, ?_⟩
      rw [show PyData.eqv (.list [.int 2, .int 1, .int 0]) (.list [.int 2, .int 1, .int 0]) = true from by decide +kernel]
      exact q _ ((exL.trans ex2).trans ((((g1.trans g2).trans (g3.trans g4)).trans (g5.trans g6)).trans (g7.trans g8)))
end
end Sh
set_option Elab.async false
set_option linter.all false
set_option maxRecDepth 100000
set_option maxHeartbeats 4000000
namespace Sh
open PySem PySem.Spec PyProof.Rows L2 Evl
def spLaw (K : PySem.W.Frag) : Sp := fun vs H Q _ => ∃ (a : Addr) (ns : List Int), vs = [.ref a] ∧ SqL K H a (ns.map V.int) ∧ ns.length ≤ 63 ∧ ∀ H', Q (.bl true) H'
section
variable {P : Program} {w : World} {K : PySem.W.Frag} {mg : Str → Option Value} {base : Heap}
abbrev n_law : List Str := ["_law_script", "_law_drawn", "_law_turn", "_law_tokens_here", "_law_cut"]
theorem sc_law : FnScope n_law ["_law_script"] (defScope s_law) := ⟨rfl, rfl, rfl, by decide +kernel, rfl, by decide +kernel, by decide +kernel⟩
theorem ok_law (T : Txt K mg w) {fd : FuncData} (F : FnP K "law" "law" s_law (He.ga K "law") fd) : FnOk P w K mg base CX0 21 (He.ga K "law") fd ["_law_script"] (spLaw K) := by
  have c_l_draws : Cal P w K mg base _ _ _ _ _ := ok_l_draws (P := P) (base := base) T
  have c_l_runs_right : Cal P w K mg base _ _ _ _ _ := ok_l_runs_right (P := P) (base := base) T
  have c_l_tokens : Cal P w K mg base _ _ _ _ _ := ok_l_tokens (P := P) (base := base) T 6
  have c_l_free_program : Cal P w K mg base _ _ _ _ _ := ok_l_free_program (P := P) (base := base) T
  have c_l_cut_right : Cal P w K mg base _ _ _ _ _ := ok_l_cut_right (P := P) (base := base) T
  have c_l_ended : Cal P w K mg base _ _ _ _ _ := ok_l_ended (P := P) (base := base) T
  have c_l_next : Cal P w K mg base _ _ _ _ _ := ok_l_next (P := P) (base := base) T
  have c_l_can_follow : Cal P w K mg base _ _ _ _ _ := ok_l_can_follow (P := P) (base := base) T
  refine FunD.ok (k := 20) F sc_law (fun vs H Q E h => ?_) fun cdv A outer s H vs Q E hr h => ?_
  · obtain ⟨a, ns, rfl, _⟩ := h; rfl
  obtain ⟨a, ns, rfl, hS, hl, q⟩ := h
  suffices hs : ∃ t, PSs (cxOf CX0 P w K mg base n_law "law" (defScope s_law) (He.ga K "law") cdv A outer s H E).nox (defBody s_law) t ∧ t { nx := fun _ H' => Q .non H', rt := Q } (L2.start n_law [.ref a]) H by
    obtain ⟨t, h1, h2⟩ := hs
    exact ⟨t, h1.nox, h2⟩
  refine ⟨_, (pss_cons (ps_set (i := 1) sc_law.nd rfl (by first | exact Or.inl rfl | exact Or.inr rfl) (pe_cal c_l_draws hr (by decide) rfl pass0 (pa_cons (pv 0) pa_nil)))
    (pss_cons (ps_if (pt_not (pt_val (pe_cal0 c_l_runs_right hr (by decide) rfl pass0))) (pss_one (ps_ret pe_bl)) pss_nil)
    (pss_cons (ps_for PassesOwn.never rfl (pi_range1 rfl T.b_range (pa_cons pe_int pa_nil)) (pg_name (i := 2) sc_law.nd rfl (by first | exact Or.inl rfl | exact Or.inr rfl)) (pss_cons (ps_set (i := 3) sc_law.nd rfl (by first | exact Or.inl rfl | exact Or.inr rfl) (pe_cal c_l_tokens hr (by decide) rfl pass0 (pa_cons (pv 1) (pa_cons (pe_cal c_l_free_program hr (by decide) rfl pass0 (pa_cons (pv 1) (pa_cons pe_int pa_nil))) (pa_cons pe_int pa_nil)))))
    (pss_cons (ps_for PassesOwn.never rfl (pi_range1 rfl T.b_range (pa_cons (pe_op op_add (pe_callB call_len rfl T.b_len PySem.boot_len (pa_cons (pv 3) pa_nil)) pe_int) pa_nil)) (pg_name (i := 4) sc_law.nd rfl (by first | exact Or.inl rfl | exact Or.inr rfl)) (pss_one (ps_if (pt_not (pt_val (pe_cal c_l_cut_right hr (by decide) rfl pass0 (pa_cons (pv 1) (pa_cons (pv 3) (pa_cons (pv 4) pa_nil)))))) (pss_one (ps_ret pe_bl)) pss_nil)))
    (pss_one (ps_if (pt_not (pt_val (pe_cal c_l_ended hr (by decide) rfl pass0 (pa_cons (pe_slice sl_list (pv 3) po_none (po_some (pe_cal c_l_next hr (by decide) rfl pass0 (pa_cons (pv 1) (pa_cons (pe_op op_add (pe_callB (call_min2 rfl) rfl T.b_min (by decide +kernel) (pa_cons pe_int (pa_cons (pe_callB call_len rfl T.b_len PySem.boot_len (pa_cons (pv 3) pa_nil)) pa_nil))) pe_int) pa_nil))))) (pa_cons pe_int pa_nil))))) (pss_one (ps_ret pe_bl)) pss_nil)))))
    (pss_one (ps_ret (pe_and (pe_cmpR (op_eqD hr.units) (pe_cal c_l_can_follow hr (by decide) rfl pass0 (pa_cons (pe_lst (pa_cons pe_str pa_nil)) pa_nil)) (pe_lst (pa_cons pe_str pa_nil)) (nomark _)) (pe_one (pe_cmpR (op_eqD hr.units) (pe_slice sl_list (pe_cal c_l_can_follow hr (by decide) rfl pass0 (pa_cons (pe_lst (pa_cons pe_str pa_nil)) pa_nil)) po_none (po_some pe_int)) (pe_lst (pa_cons pe_str (pa_cons pe_str pa_nil))) (nomark _))))))))), ?_⟩
  refine ⟨_, rfl, a, ns, rfl, hS, by omega, fun dr H1 e1 hdrn d1 => ?_⟩
  refine ⟨rfl, fun H2 e2 => ⟨true, rfl, iteF ?_⟩⟩
  have d2 := d1.ex e2
  refine ⟨2, rfl, by decide, by decide, ?_⟩
  refine for_range (lo := 0) (n := (2 : Int).toNat) (fun i σ H' => ∃ (o2 o3 o4 : Option V), σ = [some (.ref a), some (.ref dr), o2, o3, o4] ∧ DrI H' dr) ⟨_, _, _, rfl, d2⟩ ?_ ?_
  · rintro i σ H3 _ ⟨o2, o3, o4, rfl, d3⟩
    refine ⟨_, rfl, _, rfl, dr, rfl, d3, fun v dep n m H4 b4 d4 hd5 hn g => ?_⟩
    refine ⟨dr, v, 0, dep, n, m, rfl, by omega, g, hn, d4, fun p H5 ws b5 d5 hp5 hls hok hpt hlen => ?_⟩
    obtain ⟨c, hc⟩ := rd0_steps (hpt.1 0 (Nat.le_refl _) (by omega))
    have h120 : ws.length ≤ 120 := by omega
    -- the cuts
    refine ⟨_, rfl, _, _, rfl, .inl ⟨_, SqL.of hls, rfl⟩, _, _, rfl, rfl, ((ws.map V.str).length : Int) + 1, rfl, by rw [List.length_map]; omega, by rw [List.length_map]; omega, ?_⟩
    refine for_range (lo := 0) (n := (((ws.map V.str).length : Int) + 1).toNat) (fun i' σ H' => ∃ (o4 : Option V), σ = [some (.ref a), some (.ref dr), some (.int (0 + (i : Int))), some (.ref p), o4] ∧ DrI H' dr ∧ LS H' p ws) ⟨_, rfl, d5, hls⟩ ?_ ?_
    · rintro k σ H6 hk ⟨o4, rfl, d6, l6⟩
      have hk' : k ≤ ws.length := by
        have hk : k < (((ws.map V.str).length : Int) + 1).toNat := hk
        rw [List.length_map] at hk
        omega
      refine ⟨_, rfl, _, rfl, _, rfl, dr, p, ws, k, by rw [Int.zero_add]; rfl, d6, l6, hok, ⟨c, hc⟩, by omega, hk', fun H7 b7 d7 => ⟨true, rfl, iteF ⟨_, rfl, d7, l6.but b7 (ints_strs d6 l6)⟩⟩⟩
    · rintro σ H6 ⟨o4, rfl, d6, l6⟩
      refine ⟨_, rfl, _, rfl, _, rfl, _, _, rfl, .inl ⟨_, SqL.of l6, rfl⟩, _, _, rfl, _, _, rfl, rfl, dr, _, rfl, d6, ?_, ?_, fun r H7 r0 r1 b7 d7 => ?_⟩
      · rw [List.length_map]; split <;> omega
      · rw [List.length_map]; split <;> omega
      obtain ⟨r, rfl⟩ := Int.eq_ofNat_of_zero_le r0
      rw [List.length_map] at r1
      have hr12 : r ≤ 12 ∧ r ≤ ws.length := by split at r1 <;> omega
      have l7 := l6.but b7 (ints_strs d6 l6)
      refine ⟨_, rfl, p, _, rfl, SqL.of l7, fun p8 hp8 => ?_⟩
      rw [cut_take hr12.2]
      have e8 := Ex.new (o := .lst ((ws.take r).map V.str)) hp8
      refine ⟨p8, ws.take r, rfl, upd_same, okW.bw (fun z hz => hok z (List.mem_of_mem_take hz)) (by rw [List.length_take]; omega), fun H9 e9 => ?_⟩
      rw [ended_law hok.good hc r hr12.1]
      exact ⟨true, rfl, iteF ⟨_, _, _, rfl, d7.ex (e8.trans e9)⟩⟩
  · rintro σ H3 ⟨o2, o3, o4, rfl, d3⟩
    refine ⟨small_sz (by simp), fun p1 hp1 => ?_⟩
    refine ⟨p1, [("fun" : Str)], rfl, upd_same, ⟨by decide +kernel, by decide⟩, fun p2 H4 e4 hp2 hl2 => ?_⟩
    rw [can1_ok] at hl2
    refine ⟨small_sz (by simp), fun p3 hp3 => ?_⟩
    have e5 := Ex.new (o := .lst ([("x" : Str)].map V.str)) hp3
    refine ⟨.list [.str "x"], .list [.str "x"], .lst (SqL.of (e5 _ _ hl2)) (.cons (.str _) .nil), .lst (SqL.of upd_same) (.cons (.str _) .nil), by decide +kernel, by decide +kernel, _, rfl, ?_⟩
    rw [show PyData.eqv (.list [.str "x"]) (.list [.str "x"]) = true from by decide +kernel]
    refine iteT ⟨small_sz (by simp), fun p6 hp6 => ?_⟩
    refine ⟨p6, [("x" : Str)], rfl, upd_same, ⟨by decide +kernel, by decide⟩, fun p7 H7 e7 hp7 hl7 => ?_⟩
    refine ⟨_, rfl, p7, _, rfl, SqL.of hl7, fun p8 hp8 => ?_⟩
    have hc2 : cutV ((canS ["x"]).map V.str) none (some 2) = [("(" : Str), "+"].map V.str := by
      rw [← can2_ok]
      exact cut_take (k := 2) (by
        have := congrArg List.length can2_ok
        rw [List.length_take] at this
        simp at this
        omega)
    rw [hc2]
    have e8 := Ex.new (o := .lst ([("(" : Str), "+"].map V.str)) hp8
    refine ⟨small_sz (by simp), fun p9 hp9 => ?_⟩
    have e9 := Ex.new (o := .lst ([("(" : Str), "+"].map V.str)) hp9
    refine ⟨.list [.str "(", .str "+"], .list [.str "(", .str "+"], .lst (SqL.of (e9 _ _ upd_same)) (.cons (.str _) (.cons (.str _) .nil)), .lst (SqL.of upd_same) (.cons (.str _) (.cons (.str _) .nil)), by decide +kernel, by decide +kernel, ?_⟩
    rw [show PyData.eqv (.list [.str "(", .str "+"]) (.list [.str "(", .str "+"]) = true from by decide +kernel]
    exact q _
end
/-- the law's def, for the last step -/
theorem facts {P : Program} {w : World} {K : PySem.W.Frag} {h : Heap} {mg : Str → Option Value} {f : Addr} (X : K.In h) (G : h.Ns mainGlobals mg) (hfa : mg ("law" : Str) = some (.ref f)) (c : He.SaysX fa fn ts [] ex w h K) :
    ∃ fd : FuncData, (∀ (s : Shared) (v : Value), BindsTo s fd ⟨[v], []⟩ [("_law_script", v)]) ∧ ∀ base : Heap, K.In base → base.Ns mainGlobals mg → FnOk P w K mg base CX0 21 f fd ["_law_script"] (spLaw K) := by
  have T : Txt K mg w := ⟨c.t, c.more, fun x r e => by
    cases r with
    | some v => exact PySem.W.mg_of X G e
    | none => exact PySem.W.mg_none_of X G e⟩
  obtain ⟨fd, F⟩ := T.f_law
  have e := hfa.symm.trans T.g_law
  cases e
  have b := FunD.bindsA (ps := ["_law_script"]) F fun _ _ _ _ _ _ us hl => match us, hl with | [_], _ => rfl
  exact ⟨fd, fun s v => b s [v] rfl, fun base _ _ => ok_law T F⟩
end Sh
set_option Elab.async false
set_option linter.all false
set_option maxRecDepth 100000
set_option maxHeartbeats 0
open PySem PySem.W PySem.Calls PyProof.Rows
theorem PySem.Challenge.cw_shapelang_k93_whole_beginnings_of_texts_holds : PySem.Challenge.rw_shapelang_k93_whole_beginnings_of_texts.Holds := by
  w_on; o_law
  refine HandSHeadRun.head_any (r := OpenLaw.row PySem.Challenge.rw_shapelang_k93_whole_beginnings_of_texts) (q := view (OpenLaw.row PySem.Challenge.rw_shapelang_k93_whole_beginnings_of_texts).prog [66]) (H := Sh.hk) (ob := Sh.ob) (M := 3000) (loose := Sh.names) (d := HandSHeadRun.topDef (OpenLaw.row PySem.Challenge.rw_shapelang_k93_whole_beginnings_of_texts).prog 66) (kwd := []) Sh.ob_eq
    (by kernel_rfl) (fun s => by kernel_rfl) Sh.run (by kernel_rfl) (by kernel_rfl) (by kernel_rfl) (by rfl) (by first | assumption | decide +kernel) (by decide +kernel) ⟨rfl, rfl, rfl, rfl, rfl, by decide +kernel⟩ ?hw ?hc
  case hw => w_witness2
  case hc =>
    refine L2.walk_ofE (l := PySem.Challenge.rw_shapelang_k93_whole_beginnings_of_texts) (n := 63) (k := 21) (x := "_law_script") (CX := L2.CX0) rfl (by decide) (by kernel_rfl) ⟨rfl, by decide, by decide⟩ ?F (fun _ _ _ _ z => z)
    intro w mg fa h Y G hmg0
    obtain ⟨K, KX, c⟩ := Y
    have hmg : mg ("law" : PySem.Str) = some (.ref fa) := by
      have e : (HandSHeadRun.topDef (OpenLaw.row PySem.Challenge.rw_shapelang_k93_whole_beginnings_of_texts).prog 66).name = ("law" : PySem.Str) := by kernel_rfl
      rw [← e]
      exact hmg0
    obtain ⟨fd, hb, hF⟩ := Sh.facts (P := (PySem.Challenge.rw_shapelang_k93_whole_beginnings_of_texts).prog) (w := w) KX G hmg c
    exact ⟨K, fd, Sh.spLaw K, KX, hb, fun H a ns hl _ hS => ⟨a, ns, rfl, hS, hl, fun _ => rfl⟩, hF⟩
