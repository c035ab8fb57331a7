import PyProof.Rows.All
import Wide.All
import OpenK.AllK
import Wide.FinOn
import HandS.ForMost
import HandS.TupAny
import HandS.IsInst
import HandS.SortInts
import HandS.SortKw
import HandS.Evl
import KE.DataMinMax
import PySem.Challenge.RW_tacet_k19_whole_leaps
set_option Elab.async false
set_option linter.all false
set_option maxRecDepth 100000
set_option maxHeartbeats 16000000
/-! ## K19Math -/
/-! the plain law: machines on cells, tapes of runs, leaps; no program in sight -/
namespace K19

abbrev Mach := List (List (Int × Int × Int))
abbrev Runs := List (Int × Int)

/-- the rule of a state and a symbol -/
def ruleAt (m : Mach) (s x : Int) : Int × Int × Int := (m.getD s.toNat []).getD x.toNat (0, 1, -1)

structure MOk (m : Mach) (k : Nat) : Prop where
  len1 : 1 ≤ m.length
  len4 : m.length ≤ 4
  sym2 : 2 ≤ k
  sym4 : k ≤ 4
  rows : ∀ r ∈ m, r.length = k
  rule : ∀ r ∈ m, ∀ q ∈ r, (0 ≤ q.1 ∧ q.1 < (k : Int)) ∧ (q.2.1 = 1 ∨ q.2.1 = -1) ∧ (-1 ≤ q.2.2 ∧ q.2.2 < (m.length : Int))

theorem MOk.row {m : Mach} {k : Nat} (h : MOk m k) {s : Int} (h0 : 0 ≤ s) (h1 : s < m.length) : ∃ r, m[s.toNat]? = some r ∧ r ∈ m ∧ r.length = k := by
  have hs : s.toNat < m.length := by omega
  exact ⟨m[s.toNat], List.getElem?_eq_getElem hs, List.getElem_mem hs, h.rows _ (List.getElem_mem hs)⟩
theorem MOk.at_ {m : Mach} {k : Nat} (h : MOk m k) {s x : Int} (h0 : 0 ≤ s) (h1 : s < m.length) (h2 : 0 ≤ x) (h3 : x < k) :
    ∃ r q, m[s.toNat]? = some r ∧ r[x.toNat]? = some q ∧ ruleAt m s x = q ∧ (0 ≤ q.1 ∧ q.1 < (k : Int)) ∧ (q.2.1 = 1 ∨ q.2.1 = -1) ∧ (-1 ≤ q.2.2 ∧ q.2.2 < (m.length : Int)) := by
  obtain ⟨r, e, hm, hl⟩ := h.row h0 h1
  have hx : x.toNat < r.length := by omega
  refine ⟨r, r[x.toNat], e, List.getElem?_eq_getElem hx, ?_, h.rule r hm _ (List.getElem_mem hx)⟩
  simp only [ruleAt, List.getD_eq_getElem?_getD, e, List.getElem?_eq_getElem hx, Option.getD_some]

/-! ### cells -/
structure Cf where
  st : Int
  pl : Int
  f : Int → Int
theorem Cf.eq {c d : Cf} (h1 : c.st = d.st) (h2 : c.pl = d.pl) (h3 : ∀ x, c.f x = d.f x) : c = d := by
  cases c; cases d
  simp only at h1 h2 h3
  subst h1; subst h2
  congr 1
  funext x
  exact h3 x
def stepC (m : Mach) (c : Cf) : Cf :=
  ⟨(ruleAt m c.st (c.f c.pl)).2.2, c.pl + (ruleAt m c.st (c.f c.pl)).2.1, fun x => if x = c.pl then (ruleAt m c.st (c.f c.pl)).1 else c.f x⟩
def runC (m : Mach) : Nat → Cf → Cf
  | 0, c => c
  | n + 1, c => if c.st = -1 then c else runC m n (stepC m c)
theorem runC_stop {m : Mach} {c : Cf} (h : c.st = -1) : ∀ n, runC m n c = c
  | 0 => rfl
  | n + 1 => by unfold runC; rw [if_pos h]
theorem runC_add (m : Mach) : ∀ (a b : Nat) (c : Cf), runC m (a + b) c = runC m b (runC m a c)
  | 0, b, c => by rw [Nat.zero_add]; rfl
  | a + 1, b, c => by
    rw [Nat.succ_add]
    by_cases h : c.st = -1
    · rw [runC_stop h, runC_stop h, runC_stop h]
    · show (if c.st = -1 then c else runC m (a + b) (stepC m c)) = runC m b (if c.st = -1 then c else runC m a (stepC m c))
      rw [if_neg h, if_neg h]
      exact runC_add m a b _
theorem runC_succ {m : Mach} {n : Nat} {c : Cf} (h : (runC m n c).st ≠ -1) : runC m (n + 1) c = stepC m (runC m n c) := by
  rw [runC_add]
  show (if (runC m n c).st = -1 then runC m n c else stepC m (runC m n c)) = _
  rw [if_neg h]

/-- the cells are symbols, the state is one of the machine's; all that is not blank lies within N of the place 0, the head too -/
structure CfOk (m : Mach) (k : Nat) (N : Int) (c : Cf) : Prop where
  st0 : -1 ≤ c.st
  st1 : c.st < m.length
  pl0 : -N ≤ c.pl
  pl1 : c.pl ≤ N
  sy0 : ∀ x, 0 ≤ c.f x
  sy1 : ∀ x, c.f x < k
  sup : ∀ x, c.f x ≠ 0 → -N ≤ x ∧ x ≤ N
theorem CfOk.step {m : Mach} {k : Nat} {N : Int} {c : Cf} (hm : MOk m k) (h : CfOk m k N c) (hs : c.st ≠ -1) : CfOk m k (N + 1) (stepC m c) := by
  have a0 := h.st0
  have a1 := h.st1
  have a2 := h.pl0
  have a3 := h.pl1
  obtain ⟨r, q, e1, e2, e3, q1, q2, q3⟩ := hm.at_ (s := c.st) (x := c.f c.pl) (by omega) h.st1 (h.sy0 _) (h.sy1 _)
  unfold stepC
  rw [e3]
  refine ⟨q3.1, q3.2, ?_, ?_, fun x => ?_, fun x => ?_, fun x hx => ?_⟩
  · show -(N + 1) ≤ c.pl + q.2.1
    rcases q2 with e | e <;> rw [e] <;> omega
  · show c.pl + q.2.1 ≤ N + 1
    rcases q2 with e | e <;> rw [e] <;> omega
  · show 0 ≤ if x = c.pl then q.1 else c.f x
    split
    · exact q1.1
    · exact h.sy0 x
  · show (if x = c.pl then q.1 else c.f x) < k
    split
    · exact q1.2
    · exact h.sy1 x
  · have hx' : (if x = c.pl then q.1 else c.f x) ≠ 0 := hx
    by_cases e : x = c.pl
    · omega
    · rw [if_neg e] at hx'
      have := h.sup x hx'
      omega
theorem CfOk.mono {m : Mach} {k : Nat} {N N' : Int} {c : Cf} (h : CfOk m k N c) (hn : N ≤ N') : CfOk m k N' c := by
  have a2 := h.pl0
  have a3 := h.pl1
  exact ⟨h.st0, h.st1, by omega, by omega, h.sy0, h.sy1, fun x hx => by have := h.sup x hx; omega⟩
theorem CfOk.run {m : Mach} {k : Nat} (hm : MOk m k) : ∀ (n : Nat) {N : Int} {c : Cf}, CfOk m k N c → CfOk m k (N + n) (runC m n c)
  | 0, N, c, h => h.mono (by omega)
  | n + 1, N, c, h => by
    by_cases hs : c.st = -1
    · rw [runC_stop hs]
      exact h.mono (by omega)
    · have e : runC m (n + 1) c = runC m n (stepC m c) := by
        show (if c.st = -1 then c else runC m n (stepC m c)) = _
        rw [if_neg hs]
      rw [e]
      exact (CfOk.run hm n (h.step hm hs)).mono (by omega)

/-! ### runs -/
def den : Runs → Nat → Int
  | [], _ => 0
  | p :: r, j => if (j : Int) < p.2 then p.1 else den r (j - p.2.toNat)
/-- counts at least 1, neighbours differ -/
def PNF : Runs → Prop
  | [] => True
  | p :: r => 1 ≤ p.2 ∧ (∀ q, r.head? = some q → p.1 ≠ q.1) ∧ PNF r
/-- .. and the last one is not blank -/
def NF (a : Runs) : Prop := PNF a ∧ ∀ p, a.getLast? = some p → p.1 ≠ 0
theorem NF.nil : NF [] := ⟨True.intro, fun _ h => by cases h⟩
theorem NF.tail {p : Int × Int} {r : Runs} (h : NF (p :: r)) : NF r := by
  refine ⟨h.1.2.2, fun q hq => h.2 q ?_⟩
  cases r with
  | nil => cases hq
  | cons a b => rw [List.getLast?_cons_cons]; exact hq
theorem NF.cons {p : Int × Int} {r : Runs} (h : NF r) (h1 : 1 ≤ p.2) (h2 : ∀ q, r.head? = some q → p.1 ≠ q.1) (h3 : r = [] → p.1 ≠ 0) : NF (p :: r) := by
  refine ⟨⟨h1, h2, h.1⟩, fun q hq => ?_⟩
  cases r with
  | nil =>
    have e : p = q := Option.some.inj hq
    rw [← e]
    exact h3 rfl
  | cons a b =>
    rw [List.getLast?_cons_cons] at hq
    exact h.2 q hq
theorem NF.one {p : Int × Int} {r : Runs} (h : NF (p :: r)) : 1 ≤ p.2 := h.1.1
theorem NF.hd {p : Int × Int} {r : Runs} (h : NF (p :: r)) : ∀ q, r.head? = some q → p.1 ≠ q.1 := h.1.2.1
theorem NF.last {p : Int × Int} (h : NF [p]) : p.1 ≠ 0 := h.2 p rfl
theorem den_lt {p : Int × Int} {r : Runs} {j : Nat} (h : (j : Int) < p.2) : den (p :: r) j = p.1 := by unfold den; rw [if_pos h]
theorem den_ge {p : Int × Int} {r : Runs} {j : Nat} (h : ¬ (j : Int) < p.2) : den (p :: r) j = den r (j - p.2.toNat) := by
  show (if (j : Int) < p.2 then p.1 else den r (j - p.2.toNat)) = _
  rw [if_neg h]
theorem den_add {p : Int × Int} {r : Runs} (h : 0 ≤ p.2) (j : Nat) : den (p :: r) (p.2.toNat + j) = den r j := by
  rw [den_ge (by omega)]
  congr 1
  omega
/-- behind a run there stands another symbol -/
theorem den_behind {p : Int × Int} {r : Runs} (h : NF (p :: r)) : den r 0 ≠ p.1 := by
  cases r with
  | nil => exact fun e => h.last e.symm
  | cons q s =>
    rw [den_lt (by have := h.tail.one; omega)]
    exact fun e => h.hd q rfl e.symm
theorem NF.nz : ∀ {r : Runs} {p : Int × Int}, NF (p :: r) → ∃ j, den (p :: r) j ≠ 0
  | [], p, h => ⟨0, by rw [den_lt (by have := h.one; omega)]; exact h.last⟩
  | q :: s, p, h => by
    obtain ⟨j, hj⟩ := NF.nz h.tail
    exact ⟨p.2.toNat + j, by rw [den_add (by have := h.one; omega)]; exact hj⟩
theorem NF.uniq : ∀ {a b : Runs}, NF a → NF b → (∀ j, den a j = den b j) → a = b
  | [], [], _, _, _ => rfl
  | [], q :: s, _, hb, h => by
    obtain ⟨j, hj⟩ := hb.nz
    exact absurd (h j).symm hj
  | p :: r, [], ha, _, h => by
    obtain ⟨j, hj⟩ := ha.nz
    exact absurd (h j) hj
  | p :: r, q :: s, ha, hb, h => by
    have p1 := ha.one
    have q1 := hb.one
    have e1 : p.1 = q.1 := by
      have := h 0
      rw [den_lt (by omega), den_lt (by omega)] at this
      exact this
    have e2 : p.2 = q.2 := by
      rcases Int.lt_trichotomy p.2 q.2 with l | l | l
      · have k := h p.2.toNat
        have k0 := den_add (p := p) (r := r) (by omega) 0
        rw [Nat.add_zero] at k0
        rw [k0, den_lt (p := q) (by omega)] at k
        exact absurd (k.trans e1.symm) (den_behind ha)
      · exact l
      · have k := h q.2.toNat
        have k0 := den_add (p := q) (r := s) (by omega) 0
        rw [Nat.add_zero] at k0
        rw [k0, den_lt (p := p) (by omega)] at k
        exact absurd (k.symm.trans e1) (den_behind hb)
    have e3 : p = q := Prod.ext e1 e2
    subst e3
    have e4 : r = s := NF.uniq ha.tail hb.tail fun j => by
      have k := h (p.2.toNat + j)
      rw [den_add (by omega), den_add (by omega)] at k
      exact k
    rw [e4]

/-! ### runs are made -/
def addedR (a : Runs) (s c : Int) : Runs :=
  if c = 0 then a else match a with
    | [] => if s = 0 then [] else [(s, c)]
    | p :: r => if p.1 = s then (s, p.2 + c) :: r else (s, c) :: p :: r
theorem added_nf {a : Runs} {s c : Int} (h : NF a) (hc : 1 ≤ c) : NF (addedR a s c) := by
  unfold addedR
  rw [if_neg (by omega)]
  cases a with
  | nil =>
    by_cases e : s = 0
    · simp only [e, if_true]; exact .nil
    · simp only [e, if_false]
      exact NF.nil.cons hc (fun q hq => by cases hq) fun _ => e
  | cons p r =>
    by_cases e : p.1 = s
    · simp only [e, if_true]
      refine h.tail.cons (by show 1 ≤ p.2 + c; have := h.one; omega) (fun q hq => ?_) fun hr => ?_
      · show s ≠ q.1
        rw [← e]; exact h.hd q hq
      · show s ≠ 0
        subst hr
        rw [← e]; exact h.last
    · simp only [e, if_false]
      refine h.cons hc (fun q hq => ?_) fun hr => by cases hr
      have e2 : p = q := Option.some.inj hq
      rw [← e2]
      exact fun z => e z.symm
theorem added_den {a : Runs} {s c : Int} (h : NF a) (hc : 1 ≤ c) (j : Nat) : den (addedR a s c) j = if (j : Int) < c then s else den a (j - c.toNat) := by
  unfold addedR
  rw [if_neg (by omega)]
  cases a with
  | nil =>
    by_cases e : s = 0
    · simp only [e, if_true, den]; split <;> rfl
    · simp only [e, if_false]; rfl
  | cons p r =>
    by_cases e : p.1 = s
    · simp only [e, if_true]
      have p1 := h.one
      by_cases h1 : (j : Int) < c
      · rw [if_pos h1, den_lt (by show (j : Int) < p.2 + c; omega)]
      · rw [if_neg h1]
        by_cases h2 : (j : Int) < p.2 + c
        · rw [den_lt (p := (s, p.2 + c)) h2, den_lt (p := p) (by omega), e]
        · rw [den_ge (p := (s, p.2 + c)) h2, den_ge (p := p) (by omega)]
          congr 1
          show j - (p.2 + c).toNat = j - c.toNat - p.2.toNat
          omega
    · simp only [e, if_false]; rfl
def sumC (a : Runs) : Int := (a.map Prod.snd).sum
theorem sumC_cons (p : Int × Int) (r : Runs) : sumC (p :: r) = p.2 + sumC r := by unfold sumC; rw [List.map_cons, List.sum_cons]
theorem PNF.sum0 : ∀ {a : Runs}, PNF a → 0 ≤ sumC a
  | [], _ => Int.le_refl 0
  | p :: r, h => by rw [sumC_cons]; have := h.1; have := PNF.sum0 h.2.2; omega
theorem NF.sum0 {a : Runs} (h : NF a) : 0 ≤ sumC a := h.1.sum0
theorem PNF.le : ∀ {a : Runs}, PNF a → ∀ p ∈ a, 1 ≤ p.2 ∧ p.2 ≤ sumC a
  | [], _, p, hp => by cases hp
  | q :: r, h, p, hp => by
    rw [sumC_cons]
    have h1 := h.1
    have h2 := PNF.sum0 h.2.2
    rcases List.mem_cons.mp hp with e | e
    · subst e; omega
    · have := PNF.le h.2.2 p e; omega
theorem PNF.len : ∀ {a : Runs}, PNF a → (a.length : Int) ≤ sumC a
  | [], _ => Int.le_refl 0
  | q :: r, h => by
    rw [sumC_cons, List.length_cons]
    have h1 := h.1
    have h2 := PNF.len h.2.2
    omega
theorem added_sum {a : Runs} {s c : Int} (hc : 1 ≤ c) : sumC (addedR a s c) ≤ sumC a + c := by
  unfold addedR
  rw [if_neg (by omega)]
  cases a with
  | nil =>
    by_cases e : s = 0
    · simp only [e, if_true]; show (0 : Int) ≤ 0 + c; omega
    · simp only [e, if_false]; rw [sumC_cons]; show c + 0 ≤ 0 + c; omega
  | cons p r =>
    by_cases e : p.1 = s
    · simp only [e, if_true]; rw [sumC_cons, sumC_cons]; show p.2 + c + sumC r ≤ p.2 + sumC r + c; omega
    · simp only [e, if_false]; rw [sumC_cons (s, c)]; show c + sumC (p :: r) ≤ sumC (p :: r) + c; omega
theorem added_len {a : Runs} {s c : Int} : (addedR a s c).length ≤ a.length + 1 := by
  unfold addedR
  split
  · omega
  · cases a with
    | nil =>
      by_cases e : s = 0
      · simp only [e, if_true]; exact Nat.zero_le _
      · simp only [e, if_false]; exact Nat.le_refl _
    | cons p r =>
      by_cases e : p.1 = s
      · simp only [e, if_true]; rw [List.length_cons, List.length_cons]; omega
      · simp only [e, if_false]; rw [List.length_cons, List.length_cons]; omega

/-! ### tapes of runs -/
structure Tp where
  st : Int
  pl : Int
  sy : Int
  lf : Runs
  rt : Runs
/-- the tape of runs of the cells -/
structure Abs (T : Tp) (c : Cf) : Prop where
  st : T.st = c.st
  pl : T.pl = c.pl
  sy : T.sy = c.f c.pl
  nl : NF T.lf
  nr : NF T.rt
  dl : ∀ j : Nat, den T.lf j = c.f (c.pl - 1 - j)
  dr : ∀ j : Nat, den T.rt j = c.f (c.pl + 1 + j)
theorem Abs.uniq {T U : Tp} {c : Cf} (a : Abs T c) (b : Abs U c) : T = U := by
  have e1 := a.st.trans b.st.symm
  have e2 := a.pl.trans b.pl.symm
  have e3 := a.sy.trans b.sy.symm
  have e4 := a.nl.uniq b.nl fun j => (a.dl j).trans (b.dl j).symm
  have e5 := a.nr.uniq b.nr fun j => (a.dr j).trans (b.dr j).symm
  cases T; cases U
  simp only at e1 e2 e3 e4 e5
  subst e1 e2 e3 e4 e5
  rfl
/-- how long a leap is -/
structure IsLeap (m : Mach) (c : Cf) (k : Int) : Prop where
  one : ((ruleAt m c.st (c.f c.pl)).2.2 ≠ c.st ∨ c.f (c.pl + (ruleAt m c.st (c.f c.pl)).2.1) ≠ c.f c.pl) → k = 1
  run : (ruleAt m c.st (c.f c.pl)).2.2 = c.st → c.f (c.pl + (ruleAt m c.st (c.f c.pl)).2.1) = c.f c.pl →
    (1 ≤ k ∧ (∀ i : Nat, (i : Int) < k → c.f (c.pl + (ruleAt m c.st (c.f c.pl)).2.1 * i) = c.f c.pl) ∧ c.f (c.pl + (ruleAt m c.st (c.f c.pl)).2.1 * k) ≠ c.f c.pl) ∨
      (k = 0 ∧ ∀ i : Nat, c.f (c.pl + (ruleAt m c.st (c.f c.pl)).2.1 * i) = c.f c.pl)
theorem IsLeap.uniq {m : Mach} {c : Cf} {a b : Int} (ha : IsLeap m c a) (hb : IsLeap m c b) : a = b := by
  by_cases h1 : (ruleAt m c.st (c.f c.pl)).2.2 = c.st
  · by_cases h2 : c.f (c.pl + (ruleAt m c.st (c.f c.pl)).2.1) = c.f c.pl
    · rcases ha.run h1 h2 with ⟨a1, a2, a3⟩ | ⟨a1, a2⟩
      · rcases hb.run h1 h2 with ⟨b1, b2, b3⟩ | ⟨b1, b2⟩
        · rcases Int.lt_trichotomy a b with l | l | l
          · have k := b2 a.toNat (by omega)
            rw [Int.toNat_of_nonneg (by omega)] at k
            exact absurd k a3
          · exact l
          · have k := a2 b.toNat (by omega)
            rw [Int.toNat_of_nonneg (by omega)] at k
            exact absurd k b3
        · have k := b2 a.toNat
          rw [Int.toNat_of_nonneg (by omega)] at k
          exact absurd k a3
      · rcases hb.run h1 h2 with ⟨b1, b2, b3⟩ | ⟨b1, b2⟩
        · have k := a2 b.toNat
          rw [Int.toNat_of_nonneg (by omega)] at k
          exact absurd k b3
        · rw [a1, b1]
    · rw [ha.one (.inr h2), hb.one (.inr h2)]
  · rw [ha.one (.inl h1), hb.one (.inl h1)]

def frontR (T : Tp) (mv : Int) : Runs := if mv < 0 then T.lf else T.rt
def behindR (T : Tp) (mv : Int) : Runs := if mv < 0 then T.rt else T.lf
def slidR (m : Mach) (T : Tp) : Int :=
  if (ruleAt m T.st T.sy).2.2 ≠ T.st then 1 else match frontR T (ruleAt m T.st T.sy).2.1 with
    | [] => if T.sy ≠ 0 then 1 else 0
    | p :: _ => if p.1 ≠ T.sy then 1 else 1 + p.2
def popS : Runs → Int
  | [] => 0
  | p :: _ => p.1
def popT : Runs → Runs
  | [] => []
  | p :: r => if p.2 > 1 then (p.1, p.2 - 1) :: r else r
def cutR (a : Runs) (k : Int) : Runs := if k > 1 then a.tail else a
def movedR (T : Tp) (q : Int × Int × Int) (k : Int) : Tp :=
  if q.2.1 < 0 then ⟨q.2.2, T.pl - k, popS (cutR T.lf k), popT (cutR T.lf k), addedR T.rt q.1 k⟩
  else ⟨q.2.2, T.pl + k, popS (cutR T.rt k), addedR T.lf q.1 k, popT (cutR T.rt k)⟩

theorem front_den {T : Tp} {c : Cf} (a : Abs T c) {mv : Int} (hm : mv = 1 ∨ mv = -1) (j : Nat) : den (frontR T mv) j = c.f (c.pl + mv * (1 + j)) := by
  rcases hm with e | e
  · subst e
    unfold frontR
    rw [if_neg (by decide), a.dr]
    congr 1
    omega
  · subst e
    unfold frontR
    rw [if_pos (by decide), a.dl]
    congr 1
    omega
theorem front_nf {T : Tp} {c : Cf} (a : Abs T c) (mv : Int) : NF (frontR T mv) := by
  unfold frontR
  split
  · exact a.nl
  · exact a.nr
theorem slid_leap {m : Mach} {T : Tp} {c : Cf} (a : Abs T c) (hm : (ruleAt m c.st (c.f c.pl)).2.1 = 1 ∨ (ruleAt m c.st (c.f c.pl)).2.1 = -1) : IsLeap m c (slidR m T) := by
  have hden := fun j => front_den a hm j
  have hnf := front_nf a (ruleAt m c.st (c.f c.pl)).2.1
  have h0 := hden 0
  rw [show c.pl + (ruleAt m c.st (c.f c.pl)).2.1 * (1 + ((0 : Nat) : Int)) = c.pl + (ruleAt m c.st (c.f c.pl)).2.1 by
    rw [show (1 : Int) + ((0 : Nat) : Int) = 1 from rfl, Int.mul_one]] at h0
  unfold slidR
  rw [a.st, a.sy]
  generalize hq : ruleAt m c.st (c.f c.pl) = q at *
  by_cases h1 : q.2.2 = c.st
  · rw [if_neg (by simpa using h1)]
    generalize frontR T q.2.1 = fr at *
    cases fr with
    | nil =>
      have hz : ∀ j : Nat, c.f (c.pl + q.2.1 * (1 + j)) = 0 := fun j => (hden j).symm
      have h0' : c.f (c.pl + q.2.1) = 0 := h0.symm
      by_cases hx : c.f c.pl = 0
      · simp only [hx, ne_eq, not_true, if_false]
        refine ⟨fun h => ?_, fun _ _ => .inr ⟨rfl, fun i => ?_⟩⟩
        · rw [hq] at h
          rcases h with h | h
          · exact absurd h1 h
          · rw [hx] at h; exact absurd h0' h
        · rw [hq, hx]
          cases i with
          | zero => rw [show q.2.1 * ((0 : Nat) : Int) = 0 from Int.mul_zero _, Int.add_zero]; exact hx
          | succ i => rw [show (((i + 1 : Nat)) : Int) = 1 + (i : Int) by omega]; exact hz i
      · simp only [ne_eq, hx, not_false_eq_true, if_true]
        refine ⟨fun _ => rfl, fun _ h => ?_⟩
        rw [hq, h0'] at h
        exact absurd h.symm hx
    | cons p r =>
      have p1 := hnf.one
      have d0 : den (p :: r) 0 = p.1 := den_lt (by omega)
      rw [d0] at h0
      by_cases hx : p.1 = c.f c.pl
      · simp only [ne_eq, hx, not_true, if_false]
        refine ⟨fun h => ?_, fun _ _ => .inl ⟨by omega, fun i hi => ?_, ?_⟩⟩
        · rw [hq] at h
          rcases h with h | h
          · exact absurd h1 h
          · exact absurd (h0.symm.trans hx) h
        · rw [hq]
          cases i with
          | zero => rw [show q.2.1 * ((0 : Nat) : Int) = 0 from Int.mul_zero _, Int.add_zero]
          | succ i =>
            rw [show (((i + 1 : Nat)) : Int) = 1 + (i : Int) by omega, ← hden i, den_lt (by omega), hx]
        · rw [hq]
          have k := hden p.2.toNat
          have k0 := den_add (p := p) (r := r) (by omega) 0
          rw [Nat.add_zero] at k0
          rw [k0, Int.toNat_of_nonneg (by omega)] at k
          rw [← k, ← hx]
          exact den_behind hnf
      · simp only [ne_eq, hx, not_false_eq_true, if_true]
        refine ⟨fun _ => rfl, fun _ h => ?_⟩
        rw [hq, ← h0] at h
        exact absurd h hx
  · rw [if_pos h1]
    refine ⟨fun _ => rfl, fun h => ?_⟩
    rw [hq] at h
    exact absurd h h1

/-! ### a leap is its steps -/
theorem run_keep {m : Mach} {w mv st x : Int} (hmv : mv = 1 ∨ mv = -1) (hst : st ≠ -1) (hr : ruleAt m st x = (w, mv, st)) : ∀ (k : Nat) (pl : Int) (f : Int → Int), (∀ i : Nat, i < k → f (pl + mv * i) = x) →
    runC m k ⟨st, pl, f⟩ = ⟨st, pl + mv * k, fun y => if 0 ≤ (y - pl) * mv ∧ (y - pl) * mv < k then w else f y⟩
  | 0, pl, f, _ => by
    refine Cf.eq rfl ?_ fun y => ?_
    · show pl = pl + mv * ((0 : Nat) : Int)
      rw [show mv * ((0 : Nat) : Int) = 0 from Int.mul_zero _, Int.add_zero]
    · show f y = if 0 ≤ (y - pl) * mv ∧ (y - pl) * mv < ((0 : Nat) : Int) then w else f y
      rw [if_neg (by omega)]
  | k + 1, pl, f, h => by
    have h0 : f pl = x := by
      have := h 0 (by omega)
      rw [show mv * ((0 : Nat) : Int) = 0 from Int.mul_zero _, Int.add_zero] at this
      exact this
    have e1 : runC m (k + 1) ⟨st, pl, f⟩ = runC m k (stepC m ⟨st, pl, f⟩) := by
      show (if st = -1 then _ else _) = _
      rw [if_neg hst]
    have e2 : stepC m ⟨st, pl, f⟩ = ⟨st, pl + mv, fun y => if y = pl then w else f y⟩ := by
      unfold stepC
      simp only [h0, hr]
    rw [e1, e2, run_keep hmv hst hr k (pl + mv) _ fun i hi => ?_]
    · refine Cf.eq rfl ?_ fun y => ?_
      · show pl + mv + mv * (k : Int) = pl + mv * ((k + 1 : Nat) : Int)
        rcases hmv with e | e <;> subst e <;> omega
      · show (if 0 ≤ (y - (pl + mv)) * mv ∧ (y - (pl + mv)) * mv < (k : Int) then w else if y = pl then w else f y) = if 0 ≤ (y - pl) * mv ∧ (y - pl) * mv < ((k + 1 : Nat) : Int) then w else f y
        have key : (0 ≤ (y - pl) * mv ∧ (y - pl) * mv < ((k + 1 : Nat) : Int)) ↔ ((0 ≤ (y - (pl + mv)) * mv ∧ (y - (pl + mv)) * mv < (k : Int)) ∨ y = pl) := by
          rcases hmv with e | e <;> subst e <;> omega
        by_cases a : 0 ≤ (y - (pl + mv)) * mv ∧ (y - (pl + mv)) * mv < (k : Int)
        · rw [if_pos a, if_pos (key.mpr (.inl a))]
        · rw [if_neg a]
          by_cases b : y = pl
          · rw [if_pos b, if_pos (key.mpr (.inr b))]
          · rw [if_neg b, if_neg fun z => (key.mp z).elim a b]
    · have g := h (i + 1) (by omega)
      have ne : pl + mv + mv * (i : Int) ≠ pl := by rcases hmv with e | e <;> subst e <;> omega
      show (if pl + mv + mv * (i : Int) = pl then w else f (pl + mv + mv * (i : Int))) = x
      rw [if_neg ne, ← g]
      congr 1
      rcases hmv with e | e <;> subst e <;> omega
theorem run_leap {m : Mach} {c : Cf} {k : Int} (hmv : (ruleAt m c.st (c.f c.pl)).2.1 = 1 ∨ (ruleAt m c.st (c.f c.pl)).2.1 = -1) (hst : c.st ≠ -1) (h : IsLeap m c k) (hk : k ≠ 0) : 1 ≤ k ∧
    runC m k.toNat c = ⟨(ruleAt m c.st (c.f c.pl)).2.2, c.pl + (ruleAt m c.st (c.f c.pl)).2.1 * k,
      fun y => if 0 ≤ (y - c.pl) * (ruleAt m c.st (c.f c.pl)).2.1 ∧ (y - c.pl) * (ruleAt m c.st (c.f c.pl)).2.1 < k then (ruleAt m c.st (c.f c.pl)).1 else c.f y⟩ := by
  have one : k = 1 → 1 ≤ k ∧ runC m k.toNat c = ⟨(ruleAt m c.st (c.f c.pl)).2.2, c.pl + (ruleAt m c.st (c.f c.pl)).2.1 * k,
      fun y => if 0 ≤ (y - c.pl) * (ruleAt m c.st (c.f c.pl)).2.1 ∧ (y - c.pl) * (ruleAt m c.st (c.f c.pl)).2.1 < k then (ruleAt m c.st (c.f c.pl)).1 else c.f y⟩ := fun e => by
    subst e
    refine ⟨Int.le_refl _, ?_⟩
    have e1 : runC m (1 : Int).toNat c = stepC m c := by
      show (if c.st = -1 then c else stepC m c) = _
      rw [if_neg hst]
    rw [e1]
    refine Cf.eq rfl ?_ fun y => ?_
    · show c.pl + _ = c.pl + _ * 1
      rw [Int.mul_one]
    · show (if y = c.pl then _ else c.f y) = if _ then _ else c.f y
      have key : (0 ≤ (y - c.pl) * (ruleAt m c.st (c.f c.pl)).2.1 ∧ (y - c.pl) * (ruleAt m c.st (c.f c.pl)).2.1 < 1) ↔ y = c.pl := by
        rcases hmv with e | e <;> rw [e] <;> omega
      by_cases b : y = c.pl
      · rw [if_pos b, if_pos (key.mpr b)]
      · rw [if_neg b, if_neg fun z => b (key.mp z)]
  by_cases h1 : (ruleAt m c.st (c.f c.pl)).2.2 = c.st
  · by_cases h2 : c.f (c.pl + (ruleAt m c.st (c.f c.pl)).2.1) = c.f c.pl
    · rcases h.run h1 h2 with ⟨k1, k2, _⟩ | ⟨k1, _⟩
      · refine ⟨k1, ?_⟩
        have g := run_keep (m := m) (w := (ruleAt m c.st (c.f c.pl)).1) (mv := (ruleAt m c.st (c.f c.pl)).2.1) (st := c.st) (x := c.f c.pl) hmv hst
          (Prod.ext rfl (Prod.ext rfl h1)) k.toNat c.pl c.f fun i hi => k2 i (by omega)
        rw [Int.toNat_of_nonneg (by omega)] at g
        rw [h1]
        exact g
      · exact absurd k1 hk
    · exact one (h.one (.inr h2))
  · exact one (h.one (.inl h1))
/-- an endless machine goes on -/
theorem run_endless {m : Mach} {c : Cf} (hmv : (ruleAt m c.st (c.f c.pl)).2.1 = 1 ∨ (ruleAt m c.st (c.f c.pl)).2.1 = -1) (hst : c.st ≠ -1) (h : IsLeap m c 0) (n : Nat) :
    (runC m n c).st = c.st ∧ (runC m n c).pl = c.pl + (ruleAt m c.st (c.f c.pl)).2.1 * n := by
  have h1 : (ruleAt m c.st (c.f c.pl)).2.2 = c.st := Classical.byContradiction fun z => by have := h.one (.inl z); omega
  have h2 : c.f (c.pl + (ruleAt m c.st (c.f c.pl)).2.1) = c.f c.pl := Classical.byContradiction fun z => by have := h.one (.inr z); omega
  rcases h.run h1 h2 with ⟨k1, _, _⟩ | ⟨_, k2⟩
  · omega
  · have g := run_keep (m := m) (w := (ruleAt m c.st (c.f c.pl)).1) (mv := (ruleAt m c.st (c.f c.pl)).2.1) (st := c.st) (x := c.f c.pl) hmv hst
      (Prod.ext rfl (Prod.ext rfl h1)) n c.pl c.f fun i _ => k2 i
    have e : runC m n c = runC m n ⟨c.st, c.pl, c.f⟩ := rfl
    rw [e, g]
    exact ⟨rfl, rfl⟩
theorem endless_sy {m : Mach} {k : Nat} {N : Int} {c : Cf} (hc : CfOk m k N c) (hmv : (ruleAt m c.st (c.f c.pl)).2.1 = 1 ∨ (ruleAt m c.st (c.f c.pl)).2.1 = -1) (h : IsLeap m c 0) : c.f c.pl = 0 := by
  have h1 : (ruleAt m c.st (c.f c.pl)).2.2 = c.st := Classical.byContradiction fun z => by have := h.one (.inl z); omega
  have h2 : c.f (c.pl + (ruleAt m c.st (c.f c.pl)).2.1) = c.f c.pl := Classical.byContradiction fun z => by have := h.one (.inr z); omega
  rcases h.run h1 h2 with ⟨k1, _, _⟩ | ⟨_, k2⟩
  · omega
  · refine Classical.byContradiction fun z => ?_
    have a2 := hc.pl0
    have a3 := hc.pl1
    have g := k2 (2 * N.toNat + 1)
    rw [← g] at z
    have := hc.sup _ z
    rcases hmv with e | e <;> rw [e] at this <;> omega

theorem pop_den {a : Runs} (h : NF a) : popS a = den a 0 ∧ NF (popT a) ∧ (∀ j, den (popT a) j = den a (j + 1)) := by
  cases a with
  | nil => exact ⟨rfl, .nil, fun _ => rfl⟩
  | cons p r =>
    have p1 := h.one
    refine ⟨by rw [den_lt (by omega)]; rfl, ?_, fun j => ?_⟩
    · unfold popT
      simp only
      split
      · refine h.tail.cons (by show 1 ≤ p.2 - 1; omega) h.hd fun e => ?_
        subst e
        exact h.last
      · exact h.tail
    · unfold popT
      simp only
      split
      · by_cases l : (j : Int) < p.2 - 1
        · rw [den_lt (p := (p.1, p.2 - 1)) l, den_lt (p := p) (by omega)]
        · rw [den_ge (p := (p.1, p.2 - 1)) l, den_ge (p := p) (by omega)]
          congr 1
          show j - (p.2 - 1).toNat = j + 1 - p.2.toNat
          omega
      · rw [den_ge (p := p) (by omega)]
        congr 1
        omega
theorem cut_den {k : Int} {a : Runs} (h : NF a) (hk : 1 ≤ k) (hc : k > 1 → ∃ p r, a = p :: r ∧ k = 1 + p.2) : NF (cutR a k) ∧ ∀ j, den (cutR a k) j = den a ((k - 1).toNat + j) := by
  unfold cutR
  by_cases l : k > 1
  · rw [if_pos l]
    obtain ⟨p, r, rfl, e⟩ := hc l
    refine ⟨h.tail, fun j => ?_⟩
    rw [show (k - 1).toNat = p.2.toNat by omega, den_add (by have := h.one; omega)]
    rfl
  · rw [if_neg l]
    refine ⟨h, fun j => ?_⟩
    congr 1
    omega
theorem slid_cut {m : Mach} {T : Tp} (h : slidR m T > 1) : ∃ p r, frontR T (ruleAt m T.st T.sy).2.1 = p :: r ∧ slidR m T = 1 + p.2 := by
  unfold slidR at h ⊢
  by_cases h1 : (ruleAt m T.st T.sy).2.2 ≠ T.st
  · rw [if_pos h1] at h; omega
  · rw [if_neg h1] at h ⊢
    generalize frontR T (ruleAt m T.st T.sy).2.1 = fr at *
    cases fr with
    | nil =>
      simp only at h
      split at h <;> omega
    | cons p r =>
      simp only at h ⊢
      by_cases h2 : p.1 ≠ T.sy
      · rw [if_pos h2] at h; omega
      · rw [if_neg h2]
        exact ⟨p, r, rfl, rfl⟩
theorem moved_abs {m : Mach} {T : Tp} {c : Cf} (a : Abs T c) (hmv : (ruleAt m c.st (c.f c.pl)).2.1 = 1 ∨ (ruleAt m c.st (c.f c.pl)).2.1 = -1) (hst : c.st ≠ -1) (hk : slidR m T ≠ 0) :
    1 ≤ slidR m T ∧ Abs (movedR T (ruleAt m T.st T.sy) (slidR m T)) (runC m (slidR m T).toNat c) := by
  obtain ⟨k1, e⟩ := run_leap hmv hst (slid_leap a hmv) hk
  refine ⟨k1, ?_⟩
  rw [e]
  have hcut := fun z => slid_cut (m := m) (T := T) z
  rw [a.st, a.sy] at *
  generalize slidR m T = k at *
  generalize ruleAt m c.st (c.f c.pl) = q at *
  obtain ⟨w, mv, s'⟩ := q
  simp only at hmv hcut e ⊢
  rcases hmv with e1 | e1
  · subst e1
    have hc : NF (cutR T.rt k) ∧ ∀ j, den (cutR T.rt k) j = den T.rt ((k - 1).toNat + j) := cut_den a.nr k1 fun z => hcut z
    have hp := pop_den hc.1
    unfold movedR
    rw [if_neg (show ¬ ((1 : Int) < 0) by decide)]
    refine ⟨rfl, ?_, ?_, added_nf a.nl k1, hp.2.1, fun j => ?_, fun j => ?_⟩
    · show T.pl + k = c.pl + 1 * k
      rw [a.pl, Int.one_mul]
    · show popS (cutR T.rt k) = if 0 ≤ (c.pl + 1 * k - c.pl) * 1 ∧ (c.pl + 1 * k - c.pl) * 1 < k then w else c.f (c.pl + 1 * k)
      rw [if_neg (by omega), hp.1, hc.2, a.dr]
      congr 1
      omega
    · show den (addedR T.lf w k) j = if 0 ≤ (c.pl + 1 * k - 1 - j - c.pl) * 1 ∧ (c.pl + 1 * k - 1 - j - c.pl) * 1 < k then w else c.f (c.pl + 1 * k - 1 - j)
      rw [added_den a.nl k1]
      by_cases l : (j : Int) < k
      · rw [if_pos l, if_pos (by omega)]
      · rw [if_neg l, if_neg (by omega), a.dl]
        congr 1
        omega
    · show den (popT (cutR T.rt k)) j = if 0 ≤ (c.pl + 1 * k + 1 + j - c.pl) * 1 ∧ (c.pl + 1 * k + 1 + j - c.pl) * 1 < k then w else c.f (c.pl + 1 * k + 1 + j)
      rw [if_neg (by omega), hp.2.2, hc.2, a.dr]
      congr 1
      omega
  · subst e1
    have hc : NF (cutR T.lf k) ∧ ∀ j, den (cutR T.lf k) j = den T.lf ((k - 1).toNat + j) := cut_den a.nl k1 fun z => hcut z
    have hp := pop_den hc.1
    unfold movedR
    rw [if_pos (show ((-1 : Int) < 0) by decide)]
    refine ⟨rfl, ?_, ?_, hp.2.1, added_nf a.nr k1, fun j => ?_, fun j => ?_⟩
    · show T.pl - k = c.pl + -1 * k
      rw [a.pl]; omega
    · show popS (cutR T.lf k) = if 0 ≤ (c.pl + -1 * k - c.pl) * -1 ∧ (c.pl + -1 * k - c.pl) * -1 < k then w else c.f (c.pl + -1 * k)
      rw [if_neg (by omega), hp.1, hc.2, a.dl]
      congr 1
      omega
    · show den (popT (cutR T.lf k)) j = if 0 ≤ (c.pl + -1 * k - 1 - j - c.pl) * -1 ∧ (c.pl + -1 * k - 1 - j - c.pl) * -1 < k then w else c.f (c.pl + -1 * k - 1 - j)
      rw [if_neg (by omega), hp.2.2, hc.2, a.dl]
      congr 1
      omega
    · show den (addedR T.rt w k) j = if 0 ≤ (c.pl + -1 * k + 1 + j - c.pl) * -1 ∧ (c.pl + -1 * k + 1 + j - c.pl) * -1 < k then w else c.f (c.pl + -1 * k + 1 + j)
      rw [added_den a.nr k1]
      by_cases l : (j : Int) < k
      · rw [if_pos l, if_pos (by omega)]
      · rw [if_neg l, if_neg (by omega), a.dr]
        congr 1
        omega

/-! ### no tape is too large -/
structure Bd (n : Int) (T : Tp) : Prop where
  lf : (T.lf.length : Int) ≤ 100 + n
  rt : (T.rt.length : Int) ≤ 100 + n
  sm : sumC T.lf + sumC T.rt ≤ 100 + n
  p0 : -(1000 * (n + 1)) ≤ T.pl
  p1 : T.pl ≤ 1000 * (n + 1)
theorem Bd.mono {n n' : Int} {T : Tp} (h : Bd n T) (hn : n ≤ n') : Bd n' T := by
  have := h.lf
  have := h.rt
  have := h.sm
  have := h.p0
  have := h.p1
  exact ⟨by omega, by omega, by omega, by omega, by omega⟩
theorem pop_bd {a : Runs} (h : NF a) : sumC (popT a) ≤ sumC a ∧ (a ≠ [] → sumC (popT a) + 1 ≤ sumC a) ∧ (popT a).length ≤ a.length := by
  cases a with
  | nil => exact ⟨Int.le_refl _, fun z => absurd rfl z, Nat.le_refl _⟩
  | cons p r =>
    have p1 := h.one
    unfold popT
    simp only
    split
    · rw [sumC_cons, sumC_cons]
      exact ⟨by show p.2 - 1 + sumC r ≤ p.2 + sumC r; omega, fun _ => by show p.2 - 1 + sumC r + 1 ≤ p.2 + sumC r; omega, Nat.le_refl _⟩
    · rw [sumC_cons]
      exact ⟨by omega, fun _ => by omega, Nat.le_succ _⟩
theorem cut_bd {a : Runs} {k : Int} (h : NF a) (hk : 1 ≤ k) (hc : k > 1 → ∃ p r, a = p :: r ∧ k = 1 + p.2) : sumC (cutR a k) + (k - 1) ≤ sumC a ∧ (cutR a k).length ≤ a.length := by
  unfold cutR
  by_cases l : k > 1
  · rw [if_pos l]
    obtain ⟨p, r, rfl, e⟩ := hc l
    rw [sumC_cons]
    exact ⟨by show sumC r + (k - 1) ≤ p.2 + sumC r; omega, Nat.le_succ _⟩
  · rw [if_neg l]
    exact ⟨by omega, Nat.le_refl _⟩
theorem slid_le {m : Mach} {T : Tp} (h1 : NF T.lf) (h2 : NF T.rt) : slidR m T ≤ 1 + (sumC T.lf + sumC T.rt) := by
  have s1 := h1.sum0
  have s2 := h2.sum0
  by_cases l : slidR m T > 1
  · obtain ⟨p, r, e, e2⟩ := slid_cut l
    rw [e2]
    unfold frontR at e
    split at e
    · have := (PNF.le h1.1 p (by rw [e]; exact List.mem_cons_self)).2
      omega
    · have := (PNF.le h2.1 p (by rw [e]; exact List.mem_cons_self)).2
      omega
  · omega
theorem moved_bd {m : Mach} {T : Tp} {c : Cf} {n : Int} (hn : n ≤ 800) (a : Abs T c) (b : Bd n T) (hk : 1 ≤ slidR m T) : Bd (n + 1) (movedR T (ruleAt m T.st T.sy) (slidR m T)) := by
  have hle := slid_le (m := m) a.nl a.nr
  have hcut := fun z => slid_cut (m := m) (T := T) z
  have b1 := b.lf
  have b2 := b.rt
  have b3 := b.sm
  have b4 := b.p0
  have b5 := b.p1
  generalize slidR m T = k at *
  unfold movedR
  unfold frontR at hcut
  by_cases l : (ruleAt m T.st T.sy).2.1 < 0
  · rw [if_pos l]
    rw [if_pos l] at hcut
    have c1 := cut_bd a.nl hk hcut
    have cn : NF (cutR T.lf k) := (cut_den a.nl hk hcut).1
    have c2 := pop_bd cn
    have c3 := added_sum (a := T.rt) (s := (ruleAt m T.st T.sy).1) hk
    have c4 := added_len (a := T.rt) (s := (ruleAt m T.st T.sy).1) (c := k)
    refine ⟨?_, ?_, ?_, ?_, ?_⟩
    · show ((popT (cutR T.lf k)).length : Int) ≤ _
      omega
    · show ((addedR T.rt (ruleAt m T.st T.sy).1 k).length : Int) ≤ _
      omega
    · show sumC (popT (cutR T.lf k)) + sumC (addedR T.rt (ruleAt m T.st T.sy).1 k) ≤ _
      omega
    · show _ ≤ T.pl - k
      omega
    · show T.pl - k ≤ _
      omega
  · rw [if_neg l]
    rw [if_neg l] at hcut
    have c1 := cut_bd a.nr hk hcut
    have cn : NF (cutR T.rt k) := (cut_den a.nr hk hcut).1
    have c2 := pop_bd cn
    have c3 := added_sum (a := T.lf) (s := (ruleAt m T.st T.sy).1) hk
    have c4 := added_len (a := T.lf) (s := (ruleAt m T.st T.sy).1) (c := k)
    refine ⟨?_, ?_, ?_, ?_, ?_⟩
    · show ((addedR T.lf (ruleAt m T.st T.sy).1 k).length : Int) ≤ _
      omega
    · show ((popT (cutR T.rt k)).length : Int) ≤ _
      omega
    · show sumC (addedR T.lf (ruleAt m T.st T.sy).1 k) + sumC (popT (cutR T.rt k)) ≤ _
      omega
    · show _ ≤ T.pl + k
      omega
    · show T.pl + k ≤ _
      omega

/-! ### leaps behind leaps -/
/-- d leaps lead from T to U, by s steps -/
inductive Chain (m : Mach) : Tp → Nat → Int → Tp → Prop where
  | nil (T : Tp) : Chain m T 0 0 T
  | snoc {T U : Tp} {d : Nat} {s : Int} : Chain m T d s U → U.st ≠ -1 → slidR m U ≠ 0 → Chain m T (d + 1) (s + slidR m U) (movedR U (ruleAt m U.st U.sy) (slidR m U))
/-- what leaps gives: it stops, has done all, or is endless -/
def LeapsTo (m : Mach) (n : Nat) (T : Tp) (d : Nat) (s : Int) (e : Bool) (U : Tp) : Prop :=
  Chain m T d s U ∧ d ≤ n ∧ ((e = false ∧ (d = n ∨ U.st = -1)) ∨ (e = true ∧ d < n ∧ U.st ≠ -1 ∧ slidR m U = 0))
theorem Chain.split {m : Mach} {T U : Tp} {d : Nat} {s : Int} (h : Chain m T d s U) : ∀ c, c ≤ d → ∃ V s1 s2, Chain m T c s1 V ∧ Chain m V (d - c) s2 U ∧ s1 + s2 = s := by
  induction h with
  | nil => exact fun c hc => ⟨T, 0, 0, by rw [Nat.le_zero.mp hc]; exact .nil T, by rw [Nat.le_zero.mp hc]; exact .nil T, rfl⟩
  | @snoc U d s h h1 h2 ih =>
    intro c hc
    by_cases e : c = d + 1
    · subst e
      refine ⟨_, s + slidR m U, 0, .snoc h h1 h2, ?_, by omega⟩
      rw [Nat.sub_self]
      exact .nil _
    · obtain ⟨V, s1, s2, c1, c2, c3⟩ := ih c (by omega)
      refine ⟨V, s1, s2 + slidR m U, c1, ?_, by omega⟩
      rw [show d + 1 - c = d - c + 1 by omega]
      exact .snoc c2 h1 h2
theorem Chain.fwd {m : Mach} {T U : Tp} {d : Nat} {s : Int} (h : Chain m T d s U) : (d = 0 ∧ s = 0 ∧ U = T) ∨ (T.st ≠ -1 ∧ slidR m T ≠ 0 ∧ ∃ d' s', d = d' + 1 ∧ s = s' + slidR m T ∧ Chain m (movedR T (ruleAt m T.st T.sy) (slidR m T)) d' s' U) := by
  induction h with
  | nil => exact .inl ⟨rfl, rfl, rfl⟩
  | @snoc U d s h h1 h2 ih =>
    rcases ih with ⟨e1, e2, e3⟩ | ⟨t1, t2, d', s', e1, e2, c⟩
    · subst e1 e2 e3
      exact .inr ⟨h1, h2, 0, 0, rfl, rfl, .nil _⟩
    · refine .inr ⟨t1, t2, d' + 1, s' + slidR m U, by omega, by omega, .snoc c h1 h2⟩
/-- leaps has one answer -/
theorem LeapsTo.uniq {m : Mach} : ∀ {n : Nat} {T : Tp} {d1 d2 : Nat} {s1 s2 : Int} {e1 e2 : Bool} {U1 U2 : Tp}, LeapsTo m n T d1 s1 e1 U1 → LeapsTo m n T d2 s2 e2 U2 → d1 = d2 ∧ s1 = s2 ∧ e1 = e2 ∧ U1 = U2 := by
  intro n
  induction n with
  | zero =>
    rintro T d1 d2 s1 s2 e1 e2 U1 U2 ⟨c1, l1, x1⟩ ⟨c2, l2, x2⟩
    obtain rfl := Nat.le_zero.mp l1
    obtain rfl := Nat.le_zero.mp l2
    rcases c1.fwd with ⟨_, a1, a2⟩ | ⟨_, _, _, _, z, _⟩
    · rcases c2.fwd with ⟨_, b1, b2⟩ | ⟨_, _, _, _, z, _⟩
      · rcases x1 with ⟨x1, _⟩ | ⟨_, z, _⟩
        · rcases x2 with ⟨x2, _⟩ | ⟨_, z, _⟩
          · exact ⟨rfl, a1.trans b1.symm, x1.trans x2.symm, a2.trans b2.symm⟩
          · omega
        · omega
      · omega
    · omega
  | succ n ih =>
    rintro T d1 d2 s1 s2 e1 e2 U1 U2 ⟨c1, l1, x1⟩ ⟨c2, l2, x2⟩
    rcases c1.fwd with ⟨a0, a1, a2⟩ | ⟨t1, t2, d', s', a1, a2, c1'⟩
    · subst a0 a1 a2
      rcases c2.fwd with ⟨b0, b1, b2⟩ | ⟨t1, t2, d', s', b1, b2, c2'⟩
      · subst b0 b1 b2
        refine ⟨rfl, rfl, ?_, rfl⟩
        rcases x1 with ⟨x1, y1⟩ | ⟨x1, y1, y2, y3⟩
        · rcases x2 with ⟨x2, z1⟩ | ⟨x2, z1, z2, z3⟩
          · rw [x1, x2]
          · rcases y1 with y1 | y1
            · omega
            · exact absurd y1 z2
        · rcases x2 with ⟨x2, z1⟩ | ⟨x2, z1, z2, z3⟩
          · rcases z1 with z1 | z1
            · omega
            · exact absurd z1 y2
          · rw [x1, x2]
      · rcases x1 with ⟨x1, y1⟩ | ⟨x1, y1, y2, y3⟩
        · rcases y1 with y1 | y1
          · omega
          · exact absurd y1 t1
        · exact absurd y3 t2
    · subst a1 a2
      rcases c2.fwd with ⟨b0, b1, b2⟩ | ⟨_, _, d2', s2', b1, b2, c2'⟩
      · subst b0 b1 b2
        rcases x2 with ⟨x2, y1⟩ | ⟨x2, y1, y2, y3⟩
        · rcases y1 with y1 | y1
          · omega
          · exact absurd y1 t1
        · exact absurd y3 t2
      · subst b1 b2
        have r1 : LeapsTo m n _ d' s' e1 U1 := ⟨c1', by omega, by
          rcases x1 with ⟨x1, y1⟩ | ⟨x1, y1, y2, y3⟩
          · exact .inl ⟨x1, y1.imp (fun z => by omega) id⟩
          · exact .inr ⟨x1, by omega, y2, y3⟩⟩
        have r2 : LeapsTo m n _ d2' s2' e2 U2 := ⟨c2', by omega, by
          rcases x2 with ⟨x2, y1⟩ | ⟨x2, y1, y2, y3⟩
          · exact .inl ⟨x2, y1.imp (fun z => by omega) id⟩
          · exact .inr ⟨x2, by omega, y2, y3⟩⟩
        obtain ⟨g1, g2, g3, g4⟩ := ih r1 r2
        exact ⟨by omega, by omega, g3, g4⟩
/-- a chain's end is the tape of some cells, and bounded -/
theorem Chain.keep {m : Mach} {k : Nat} (hm : MOk m k) {T U : Tp} {d : Nat} {s : Int} (h : Chain m T d s U) : ∀ {c : Cf} {N n : Int}, Abs T c → CfOk m k N c → Bd n T → n + d ≤ 800 → 0 ≤ s ∧ ∃ c', Abs U c' ∧ CfOk m k (N + s) c' ∧ Bd (n + d) U := by
  induction h with
  | nil =>
    intro c N n a hc b _
    refine ⟨Int.le_refl _, c, a, hc.mono (by omega), b.mono (by omega)⟩
  | @snoc U d s h h1 h2 ih =>
    intro c N n a hc b hn
    obtain ⟨s0, c', a', hc', b'⟩ := ih a hc b (by omega)
    have st0 := hc'.st0
    have hst : c'.st ≠ -1 := fun z => h1 (a'.st.trans z)
    obtain ⟨r, q, _, _, e3, _, q2, _⟩ := hm.at_ (s := c'.st) (x := c'.f c'.pl) (by omega) hc'.st1 (hc'.sy0 _) (hc'.sy1 _)
    obtain ⟨k1, ab⟩ := moved_abs (m := m) a' (by rw [e3]; exact q2) hst h2
    refine ⟨by omega, _, ab, (hc'.run hm (slidR m U).toNat).mono (by omega), (moved_bd (by omega) a' b' k1).mono (by omega)⟩
end K19

/-! ## K19Kit -/
/-! steps over the hand layer: a def by its name, max with default, nested tuples as data -/
namespace K19
open PySem PySem.Spec PyProof.Rows L2

/-! ### a def of the text, called by its name -/
structure Cal (P : Program) (w : World) (K : PySem.W.Frag) (mg : Str → Option Value) (base : Heap) (k : Nat) (x : Str) (ps : List Str) (sp : Sp) : Prop where
  ex : ∃ (f : Addr) (fd : FuncData), FnOk P w K mg base CX0 k f fd ps sp ∧ mg x = some (.ref f) ∧ PySem.W.keepIn K (.ref f) = true ∧ Binds K fd ps []
theorem Cal.mono {P : Program} {w : World} {K : PySem.W.Frag} {mg : Str → Option Value} {base : Heap} {j k : Nat} {x : Str} {ps : List Str} {sp : Sp} (C : Cal P w K mg base j x ps sp) (h : j ≤ k) : Cal P w K mg base k x ps sp := by
  obtain ⟨f, fd, F, a, b, c⟩ := C.ex
  exact ⟨f, fd, F.mono h, a, b, c⟩
def tCal (sp : Sp) (t : TA) : TE := fun σ H Q => t σ H fun vs H1 => sp vs H1 Q E0
theorem pe_cal {X : Cx} {k : Nat} {x : Str} {ps : List Str} {sp : Sp} {e : Expr} {es : List Expr} {p pos : Pos} {t : TA} (C : Cal X.prog X.w X.K X.mg X.base k x ps sp) (hr : Room k X.A) (hg : Gl X x) (ha : PA X (e :: es) t)
    (hdb : (x == ("__debug__" : Str)) = false := by decide) (he : starEach (e :: es) X.env = (false, eval e X.env) :: starEach es X.env := by rfl) (hpl : (backTo pos (starEach es X.env)).any (·.1) = false := by rfl) :
    PE X (.Call (.Name x p) (e :: es) [] pos) (tCal sp t) := by
  obtain ⟨f, fd, F, hm, hk, hb⟩ := C.ex
  have g := pe_call (X := X) (p := p) (pos := pos) (dvs := []) F hr hg hm hk hb .nil pass0 ha hdb he hpl
  have e1 : tCall sp [] E0 t = tCal sp t := by
    funext σ H Q
    unfold tCall tCal
    congr 1
    funext vs H1
    rw [List.append_nil]
  rw [← e1]
  exact g

/-! ### max(xs, default=d) of whole numbers: d, or one of them -/
def rMaxDef (K : PySem.W.Frag) : List V → List V → Hp → VK → Prop := fun vs zs H Q => ∃ (a : Addr) (ns : List Int) (d : Int), vs = [V.ref a] ∧ zs = [.int d] ∧ SqL K H a (ns.map V.int) ∧
  ∀ m, m ∈ d :: ns → Q (.int m) H
theorem cr_maxDef {X : Cx} (hc : X.calm = true) : CallRK X (.builtin "max") [Str.ofString "default"] (rMaxDef X.K) := by
  intro pins s σ H vs zs us ws Q I r rz h
  obtain ⟨a, ns, d, rfl, rfl, hs, q⟩ := h
  obtain ⟨its, rv, hl, hz⟩ := I.list hs
  obtain rfl := Vals.ref1 r
  obtain ⟨w1, rfl, t, rfl⟩ := vals1 rz
  have hlen : its.length = ns.length := by rw [← rv.length, List.length_map]
  have at_ : ∀ (i : Nat) (v : Value), its.toArray[i]? = some v → ∃ n t, ns[i]? = some n ∧ v = .int n t := fun i v hv => by
    have hi : i < ns.length := by
      rw [← hlen]
      obtain ⟨h1, _⟩ := Array.getElem?_eq_some_iff.mp hv
      simpa using h1
    have e : (ns.map V.int)[i]? = some (.int ns[i]) := by
      rw [List.getElem?_map, List.getElem?_eq_getElem hi]
      rfl
    obtain ⟨u, hu, ru⟩ := rv.get e
    have hu' : its.toArray[i]? = some u := by simpa using hu
    rw [hv] at hu'
    obtain rfl := Option.some.inj hu'
    obtain ⟨t, rfl⟩ := ru
    exact ⟨ns[i], t, List.getElem?_eq_getElem hi, rfl⟩
  refine PySem.call_max_walkD (d := .int d t) (PySem.W.iter_listW (A := X.A.in1) (I.ok.hd hc) hl.isList fun s2 e W st hfp hw hk => ?_)
  refine ⟨_, _, _, _, _, _, _, s.heap, fun i j => decide (ns.getD j 0 < ns.getD i 0), rfl, W, st, hfp, hw, hk, fun hn s' m => ?_, fun hn => ⟨fun i j vi vj s' Q' E _ hi hj hq => ?_, fun v s' hv m => ?_⟩⟩
  · obtain ⟨h', tk, rfl, hk'⟩ := PySem.W.moved_old e rfl m
    exact ⟨.int d, H, I.kept hk', ⟨t, rfl⟩, q d List.mem_cons_self⟩
  · obtain ⟨a1, t1, e1, rfl⟩ := at_ i vi hi
    obtain ⟨a2, t2, e2, rfl⟩ := at_ j vj hj
    simp only [List.getD_eq_getElem?_getD, e1, e2, Option.getD_some] at hq
    show wpAny _ _ (compareOp .Gt (.int a1 t1) (.int a2 t2)) Q' E s'
    exact gt_int hq
  · obtain ⟨h', tk, rfl, hk'⟩ := PySem.W.moved_old e rfl m
    obtain ⟨n, t1, e1, rfl⟩ := at_ _ v hv
    exact ⟨.int n, H, I.kept hk', ⟨t1, rfl⟩, q n (List.mem_cons_of_mem _ (List.mem_of_getElem? e1))⟩

/-! ### nested tuples of ints and truth values, as data -/
mutual
inductive TD (K : PySem.W.Frag) (H : Hp) : V → PyData → Prop
  | bl (b : Bool) : TD K H (.bl b) (.bool b)
  | int (i : Int) : TD K H (.int i) (.int i)
  | tup {a : Addr} {xs : List V} {ds : List PyData} : SqT K H a xs → TDs K H xs ds → TD K H (.ref a) (.tuple ds)
inductive TDs (K : PySem.W.Frag) (H : Hp) : List V → List PyData → Prop
  | nil : TDs K H [] []
  | cons {v : V} {vs : List V} {d : PyData} {ds : List PyData} : TD K H v d → TDs K H vs ds → TDs K H (v :: vs) (d :: ds)
end
section
variable {K : PySem.W.Frag} {H H' : Hp} {v : V} {vs : List V} {d : PyData} {ds : List PyData}
/-- tuples stay tuples -/
def KT (K : PySem.W.Frag) (H H' : Hp) : Prop := ∀ a xs, SqT K H a xs → SqT K H' a xs
theorem KT.refl : KT K H H := fun _ _ h => h
theorem KT.trans {H1 : Hp} (a : KT K H H1) (b : KT K H1 H') : KT K H H' := fun x xs h => b x xs (a x xs h)
mutual
theorem TD.keep (k : KT K H H') : ∀ (d : PyData) {v : V}, TD K H v d → TD K H' v d
  | .bool b, _, h => by cases h; exact .bl b
  | .int i, _, h => by cases h; exact .int i
  | .tuple ds, _, h => by
    cases h with
    | tup hs ha => exact .tup (k _ _ hs) (TDs.keep k ds ha)
  | .none, _, h => by cases h
  | .str _, _, h => by cases h
  | .list _, _, h => by cases h
  | .dict _, _, h => by cases h
theorem TDs.keep (k : KT K H H') : ∀ (ds : List PyData) {vs : List V}, TDs K H vs ds → TDs K H' vs ds
  | [], _, h => by cases h; exact .nil
  | d :: ds, _, h => by
    cases h with
    | cons h1 h2 => exact .cons (TD.keep k d h1) (TDs.keep k ds h2)
end
mutual
theorem TD.dp : ∀ (d : PyData) {v : V}, TD K H v d → Dp K H v d ∧ d.canLay0 = true
  | .bool b, _, h => by cases h; exact ⟨.bl b, rfl⟩
  | .int i, _, h => by cases h; exact ⟨.int i, rfl⟩
  | .tuple ds, _, h => by
    cases h with
    | tup hs ha =>
      obtain ⟨h1, h2⟩ := TDs.dp ds ha
      exact ⟨.tup hs h1, by unfold PyData.canLay0; exact h2⟩
  | .none, _, h => by cases h
  | .str _, _, h => by cases h
  | .list _, _, h => by cases h
  | .dict _, _, h => by cases h
theorem TDs.dp : ∀ (ds : List PyData) {vs : List V}, TDs K H vs ds → DpAll K H vs ds ∧ PyData.canLayAll0 ds = true
  | [], _, h => by cases h; exact ⟨.nil, rfl⟩
  | d :: ds, _, h => by
    cases h with
    | cons h1 h2 =>
      obtain ⟨a1, a2⟩ := TD.dp d h1
      obtain ⟨b1, b2⟩ := TDs.dp ds h2
      exact ⟨.cons a1 b1, by unfold PyData.canLayAll0; rw [a2, b2]; rfl⟩
end
theorem TD.shaped (h : TD K H v d) (hd : d.depth ≤ 64) : SeqAt.shaped d = true := by
  unfold SeqAt.shaped
  rw [(TD.dp d h).2, decide_eq_true hd]
  rfl
theorem TD.intE {i : Int} (h : TD K H v (.int i)) : v = .int i := by cases h; rfl
theorem TD.blE {b : Bool} (h : TD K H v (.bool b)) : v = .bl b := by cases h; rfl
theorem TD.tupE (h : TD K H v (.tuple ds)) : ∃ a xs, v = .ref a ∧ SqT K H a xs ∧ TDs K H xs ds := by
  cases h with
  | tup hs ha => exact ⟨_, _, rfl, hs, ha⟩
theorem TDs.consE (h : TDs K H vs (d :: ds)) : ∃ x xs, vs = x :: xs ∧ TD K H x d ∧ TDs K H xs ds := by
  cases h with
  | cons h1 h2 => exact ⟨_, _, rfl, h1, h2⟩
theorem TDs.nilE (h : TDs K H vs []) : vs = [] := by cases h; rfl
theorem TDs.len : ∀ {vs : List V} {ds : List PyData}, TDs K H vs ds → vs.length = ds.length
  | _, _, .nil => rfl
  | _, _, .cons _ t => by rw [List.length_cons, List.length_cons, TDs.len t]
theorem TDs.get : ∀ {vs : List V} {ds : List PyData} {i : Nat} {d : PyData}, TDs K H vs ds → ds[i]? = some d → ∃ x, vs[i]? = some x ∧ TD K H x d
  | _, _, _, _, .nil, e => by simp at e
  | _, _, 0, d, .cons h _, e => by
    have e' : _ = d := Option.some.inj e
    subst e'
    exact ⟨_, rfl, h⟩
  | _, _, i + 1, d, .cons _ t, e => by
    obtain ⟨x, h1, h2⟩ := TDs.get (i := i) (d := d) t (by simpa using e)
    exact ⟨x, by simpa using h1, h2⟩
theorem TDs.get2 {i : Nat} {x : V} (h : TDs K H vs ds) (e : vs[i]? = some x) : ∃ d, ds[i]? = some d ∧ TD K H x d := by
  have hi : i < ds.length := by
    rw [← h.len]
    exact (List.getElem?_eq_some_iff.mp e).1
  obtain ⟨y, h1, h2⟩ := h.get (List.getElem?_eq_getElem hi)
  rw [e] at h1
  obtain rfl := Option.some.inj h1
  exact ⟨_, List.getElem?_eq_getElem hi, h2⟩
theorem TDs.drop : ∀ (n : Nat) {vs : List V} {ds : List PyData}, TDs K H vs ds → TDs K H (vs.drop n) (ds.drop n)
  | 0, _, _, h => h
  | _ + 1, _, _, .nil => .nil
  | n + 1, _, _, .cons _ t => TDs.drop n t
theorem TDs.take : ∀ (n : Nat) {vs : List V} {ds : List PyData}, TDs K H vs ds → TDs K H (vs.take n) (ds.take n)
  | 0, _, _, _ => .nil
  | _ + 1, _, _, .nil => .nil
  | n + 1, _, _, .cons h t => .cons h (TDs.take n t)
theorem TDs.app {ws : List V} {es : List PyData} : ∀ {vs : List V} {ds : List PyData}, TDs K H vs ds → TDs K H ws es → TDs K H (vs ++ ws) (ds ++ es)
  | _, _, .nil, h => h
  | _, _, .cons a t, h => .cons a (TDs.app t h)
theorem TDs.ints : ∀ (ns : List Int), TDs K H (ns.map V.int) (ns.map PyData.int)
  | [] => .nil
  | n :: r => .cons (.int n) (TDs.ints r)
theorem TDs.intsE : ∀ {ns : List Int} {vs : List V}, TDs K H vs (ns.map PyData.int) → vs = ns.map V.int
  | [], _, h => h.nilE
  | n :: r, _, h => by
    obtain ⟨x, xs, rfl, h1, h2⟩ := h.consE
    rw [h1.intE, TDs.intsE h2]
    rfl

/-! ### heaps: all but one stands -/
def But (s : Addr) (H H' : Hp) : Prop := ∀ b o, H b = some o → b ≠ s → H' b = some o
theorem But.refl {s : Addr} : But s H H := fun _ _ h _ => h
theorem But.trans {s : Addr} {H1 : Hp} (a : But s H H1) (b : But s H1 H') : But s H H' := fun x o h n => b x o (a x o h n) n
theorem Same.but {s : Addr} (a : Same H H') : But s H H' := fun x o h _ => a x o h
theorem same_new {p : Addr} {o : HO} (h : H p = none) : Same H (upd H p o) := fun b x e => by
  rw [upd_ne (ne_of_none e h)]
  exact e
theorem But.put {s : Addr} {o : HO} : But s H (upd H s o) := fun b x e n => by
  rw [upd_ne n]
  exact e
theorem But.free {s l : Addr} (e : But s H H') (h : H' l = none) (n : l ≠ s) : H l = none := by
  cases q : H l with
  | none => rfl
  | some o =>
    rw [e l o q n] at h
    cases h
theorem Same.kt (a : Same H H') : KT K H H' := fun b xs h => by
  rcases h with (h | ⟨o, h⟩) | h
  · exact .inl (.inl (a _ _ h))
  · exact .inl (.inr ⟨o, a _ _ h⟩)
  · exact .inr h
theorem But.kt {s : Addr} (a : But s H H') {o : HO} (hs : H s = some o) (h1 : ∀ xs, o ≠ .tup xs) (h2 : ∀ ob u, o ≠ .frz ob u) : KT K H H' := fun b xs h => by
  rcases h with (h | ⟨ob, h⟩) | h
  · exact .inl (.inl (a _ _ h (ne_of h hs fun z => h1 xs z.symm)))
  · exact .inl (.inr ⟨ob, a _ _ h (ne_of h hs fun z => h2 _ _ z.symm)⟩)
  · exact .inr h
theorem But.ktL {s : Addr} (a : But s H H') {ys : List V} (hs : H s = some (.lst ys)) : KT K H H' := a.kt hs (fun _ z => by cases z) (fun _ _ z => by cases z)
theorem But.ktD {s : Addr} (a : But s H H') {ys : List (Key × V)} (hs : H s = some (.dK ys)) : KT K H H' := a.kt hs (fun _ z => by cases z) (fun _ _ z => by cases z)
theorem sT {a : Addr} {xs : List V} (s : Same H H') (h : SqT K H a xs) : SqT K H' a xs := Same.kt s _ _ h
theorem sL {a : Addr} {xs : List V} (s : Same H H') (h : SqL K H a xs) : SqL K H' a xs := Same.seq s h
theorem sD (s : Same H H') (h : TD K H v d) : TD K H' v d := TD.keep (Same.kt s) d h
theorem sDs (s : Same H H') (h : TDs K H vs ds) : TDs K H' vs ds := TDs.keep (Same.kt s) ds h
theorem sO {a : Addr} {o : HO} (s : Same H H') (h : H a = some o) : H' a = some o := s a o h
theorem sTr {H1 : Hp} (a : Same H H1) (b : Same H1 H') : Same H H' := Same.trans a b
theorem kt_new {p : Addr} {o : HO} (h : H p = none) : KT K H (upd H p o) := Same.kt (same_new h)
end

/-! ### what the program's values are, as data -/
def eRun (p : Int × Int) : PyData := .tuple [.int p.1, .int p.2]
def eRuns (r : Runs) : PyData := .tuple (r.map eRun)
def eTape (T : Tp) : PyData := .tuple [.int T.st, .int T.pl, .int T.sy, eRuns T.lf, eRuns T.rt]
def eRule (q : Int × Int × Int) : PyData := .tuple [.int q.1, .int q.2.1, .int q.2.2]
def eRow (r : List (Int × Int × Int)) : PyData := .tuple (r.map eRule)
def eMach (m : Mach) : PyData := .tuple (m.map eRow)
theorem depth_map {α : Type} {f : α → PyData} {n : Nat} : ∀ (l : List α), (∀ x, (f x).depth ≤ n) → PyData.depthAll (l.map f) ≤ n
  | [], _ => Nat.zero_le _
  | x :: r, h => by
    rw [List.map_cons, PyData.depthAll]
    exact Nat.max_le.mpr ⟨h x, depth_map r h⟩
theorem depth_run (p : Int × Int) : (eRun p).depth ≤ 1 := by
  unfold eRun
  simp only [PyData.depth, PyData.depthAll]
  omega
theorem depth_runs (r : Runs) : (eRuns r).depth ≤ 2 := by
  unfold eRuns
  rw [PyData.depth]
  have := depth_map (n := 1) r depth_run
  omega
theorem depth_tape (T : Tp) : (eTape T).depth ≤ 3 := by
  unfold eTape
  have h1 := depth_runs T.lf
  have h2 := depth_runs T.rt
  simp only [PyData.depth, PyData.depthAll]
  omega
/-- a configuration: state, place, first, cells -/
structure Cd where
  st : Int
  pl : Int
  fs : Int
  cs : List Int
def eConf (c : Cd) : PyData := .tuple [.int c.st, .int c.pl, .int c.fs, .tuple (c.cs.map PyData.int)]
section
variable {K : PySem.W.Frag} {H : Hp} {v : V}
theorem tapeE {T : Tp} (h : TD K H v (eTape T)) : ∃ a l r, v = .ref a ∧ SqT K H a [.int T.st, .int T.pl, .int T.sy, l, r] ∧ TD K H l (eRuns T.lf) ∧ TD K H r (eRuns T.rt) := by
  obtain ⟨a, xs, rfl, hs, h⟩ := h.tupE
  obtain ⟨x1, _, rfl, h1, h⟩ := h.consE
  obtain ⟨x2, _, rfl, h2, h⟩ := h.consE
  obtain ⟨x3, _, rfl, h3, h⟩ := h.consE
  obtain ⟨x4, _, rfl, h4, h⟩ := h.consE
  obtain ⟨x5, _, rfl, h5, h⟩ := h.consE
  obtain rfl := h.nilE
  rw [h1.intE, h2.intE, h3.intE] at hs
  exact ⟨a, x4, x5, rfl, hs, h4, h5⟩
theorem confE {c : Cd} (h : TD K H v (eConf c)) : ∃ a b, v = .ref a ∧ SqT K H a [.int c.st, .int c.pl, .int c.fs, .ref b] ∧ SqT K H b (c.cs.map V.int) := by
  obtain ⟨a, xs, rfl, hs, h⟩ := h.tupE
  obtain ⟨x1, _, rfl, h1, h⟩ := h.consE
  obtain ⟨x2, _, rfl, h2, h⟩ := h.consE
  obtain ⟨x3, _, rfl, h3, h⟩ := h.consE
  obtain ⟨x4, _, rfl, h4, h⟩ := h.consE
  obtain rfl := h.nilE
  obtain ⟨b, ys, rfl, hb, h4⟩ := h4.tupE
  rw [h4.intsE] at hb
  rw [h1.intE, h2.intE, h3.intE] at hs
  exact ⟨a, b, rfl, hs, hb⟩
theorem ruleE {q : Int × Int × Int} (h : TD K H v (eRule q)) : ∃ a, v = .ref a ∧ SqT K H a [.int q.1, .int q.2.1, .int q.2.2] := by
  obtain ⟨a, xs, rfl, hs, h⟩ := h.tupE
  obtain ⟨x1, _, rfl, h1, h⟩ := h.consE
  obtain ⟨x2, _, rfl, h2, h⟩ := h.consE
  obtain ⟨x3, _, rfl, h3, h⟩ := h.consE
  obtain rfl := h.nilE
  rw [h1.intE, h2.intE, h3.intE] at hs
  exact ⟨a, rfl, hs⟩
theorem runE {p : Int × Int} (h : TD K H v (eRun p)) : ∃ a, v = .ref a ∧ SqT K H a [.int p.1, .int p.2] := by
  obtain ⟨a, xs, rfl, hs, h⟩ := h.tupE
  obtain ⟨x1, _, rfl, h1, h⟩ := h.consE
  obtain ⟨x2, _, rfl, h2, h⟩ := h.consE
  obtain rfl := h.nilE
  rw [h1.intE, h2.intE] at hs
  exact ⟨a, rfl, hs⟩
/-- the rule at a state and a symbol -/
theorem machE {m : Mach} {k : Nat} (hm : MOk m k) (h : TD K H v (eMach m)) {s x : Int} (h0 : 0 ≤ s) (h1 : s < m.length) (h2 : 0 ≤ x) (h3 : x < k) :
    ∃ a xs b ys c, v = .ref a ∧ SqT K H a xs ∧ atI xs s = some (.ref b) ∧ SqT K H b ys ∧ atI ys x = some (.ref c) ∧ TD K H (.ref c) (eRule (ruleAt m s x)) ∧ SqT K H c [.int (ruleAt m s x).1, .int (ruleAt m s x).2.1, .int (ruleAt m s x).2.2] := by
  obtain ⟨r, q, e1, e2, e3, _⟩ := hm.at_ h0 h1 h2 h3
  obtain ⟨a, xs, rfl, hs, h⟩ := h.tupE
  obtain ⟨y, hy, hr⟩ := h.get (i := s.toNat) (d := eRow r) (by rw [List.getElem?_map, e1]; rfl)
  obtain ⟨b, ys, rfl, hb, hr⟩ := hr.tupE
  obtain ⟨z, hz, hq⟩ := hr.get (i := x.toNat) (d := eRule q) (by rw [List.getElem?_map, e2]; rfl)
  obtain ⟨c, rfl, hc⟩ := ruleE hq
  rw [e3]
  exact ⟨a, xs, b, ys, c, rfl, hs, at_of (by omega) hy, hb, at_of (by omega) hz, hq, hc⟩
end
end K19

/-! ## K19Txt -/
namespace K19
open PySem PySem.Spec PyProof.Rows L2
/-! ### the text by places -/
def topS (i : Nat) : Stmt := PySem.Challenge.pw_tacet_k19_whole_leaps.main.body.getD i (.Pass ⟨0, 0, 0, 0⟩)
abbrev s_added : Stmt := topS 9
abbrev N_added : List Str := ["runs", "symbol", "count"]
theorem sc_added : FnScope N_added ["runs", "symbol", "count"] (defScope s_added) := ⟨rfl, rfl, rfl, by decide +kernel, rfl, by decide +kernel, by decide +kernel⟩
abbrev s_whole : Stmt := topS 10
abbrev N_whole : List Str := ["tape", "state", "place", "symbol", "left", "right", "_", "count"]
theorem sc_whole : FnScope N_whole ["tape"] (defScope s_whole) := ⟨rfl, rfl, rfl, by decide +kernel, rfl, by decide +kernel, by decide +kernel⟩
abbrev s_slid : Stmt := topS 11
abbrev N_slid : List Str := ["machine", "tape", "state", "place", "symbol", "left", "right", "rule", "side"]
theorem sc_slid : FnScope N_slid ["machine", "tape"] (defScope s_slid) := ⟨rfl, rfl, rfl, by decide +kernel, rfl, by decide +kernel, by decide +kernel⟩
abbrev s_moved : Stmt := topS 12
abbrev N_moved : List Str := ["tape", "rule", "count", "place", "symbol", "write", "move", "state", "front", "behind", "under", "many"]
theorem sc_moved : FnScope N_moved ["tape", "rule", "count"] (defScope s_moved) := ⟨rfl, rfl, rfl, by decide +kernel, rfl, by decide +kernel, by decide +kernel⟩
abbrev s_leap : Stmt := topS 13
abbrev N_leap : List Str := ["machine", "tape", "count"]
theorem sc_leap : FnScope N_leap ["machine", "tape"] (defScope s_leap) := ⟨rfl, rfl, rfl, by decide +kernel, rfl, by decide +kernel, by decide +kernel⟩
abbrev s_leaps : Stmt := topS 14
abbrev N_leaps : List Str := ["machine", "tape", "count", "done", "steps", "more"]
theorem sc_leaps : FnScope N_leaps ["machine", "tape", "count"] (defScope s_leaps) := ⟨rfl, rfl, rfl, by decide +kernel, rfl, by decide +kernel, by decide +kernel⟩
abbrev s_law_stream : Stmt := topS 16
abbrev N_law_stream : List Str := ["_law_script", "_law_mixed", "_law_cell"]
theorem sc_law_stream : FnScope N_law_stream ["_law_script"] (defScope s_law_stream) := ⟨rfl, rfl, rfl, by decide +kernel, rfl, by decide +kernel, by decide +kernel⟩
abbrev s_law_draw : Stmt := topS 17
abbrev N_law_draw : List Str := ["_law_stream_here", "_law_many", "_law_value"]
theorem sc_law_draw : FnScope N_law_draw ["_law_stream_here", "_law_many"] (defScope s_law_draw) := ⟨rfl, rfl, rfl, by decide +kernel, rfl, by decide +kernel, by decide +kernel⟩
abbrev s_law_machine : Stmt := topS 18
abbrev N_law_machine : List Str := ["_law_stream_here", "_law_stops", "_law_states", "_law_symbols", "_law_rows", "_law_s", "_law_row", "_law_x", "_law_after"]
theorem sc_law_machine : FnScope N_law_machine ["_law_stream_here", "_law_stops"] (defScope s_law_machine) := ⟨rfl, rfl, rfl, by decide +kernel, rfl, by decide +kernel, by decide +kernel⟩
abbrev s_law_start : Stmt := topS 19
abbrev N_law_start : List Str := ["_law_configuration", "_law_state", "_law_place", "_law_first", "_law_cells", "_law_tape_here", "_law_k"]
theorem sc_law_start : FnScope N_law_start ["_law_configuration"] (defScope s_law_start) := ⟨rfl, rfl, rfl, by decide +kernel, rfl, by decide +kernel, by decide +kernel⟩
abbrev s_law_take : Stmt := topS 20
abbrev N_law_take : List Str := ["_law_machine_here", "_law_now", "_law_write", "_law_move", "_law_state"]
theorem sc_law_take : FnScope N_law_take ["_law_machine_here", "_law_now"] (defScope s_law_take) := ⟨rfl, rfl, rfl, by decide +kernel, rfl, by decide +kernel, by decide +kernel⟩
abbrev s_law_end : Stmt := topS 21
abbrev N_law_end : List Str := ["_law_now", "_law_spots", "_law_place", "_law_cells"]
theorem sc_law_end : FnScope N_law_end ["_law_now"] (defScope s_law_end) := ⟨rfl, rfl, rfl, by decide +kernel, rfl, by decide +kernel, by decide +kernel⟩
abbrev s_law_run : Stmt := topS 22
abbrev N_law_run : List Str := ["_law_machine_here", "_law_configuration", "_law_count_here", "_law_now", "_law_steps"]
theorem sc_law_run : FnScope N_law_run ["_law_machine_here", "_law_configuration", "_law_count_here"] (defScope s_law_run) := ⟨rfl, rfl, rfl, by decide +kernel, rfl, by decide +kernel, by decide +kernel⟩
abbrev s_law_tape : Stmt := topS 23
abbrev N_law_tape : List Str := ["_law_stream_here", "_law_machine_here", "_law_cells", "_law_k", "_law_now", "_law_first"]
theorem sc_law_tape : FnScope N_law_tape ["_law_stream_here", "_law_machine_here"] (defScope s_law_tape) := ⟨rfl, rfl, rfl, by decide +kernel, rfl, by decide +kernel, by decide +kernel⟩
abbrev s_law_grouped : Stmt := topS 24
abbrev N_law_grouped : List Str := ["_law_cells", "_law_found", "_law_cell"]
theorem sc_law_grouped : FnScope N_law_grouped ["_law_cells"] (defScope s_law_grouped) := ⟨rfl, rfl, rfl, by decide +kernel, rfl, by decide +kernel, by decide +kernel⟩
abbrev s_law_to_runs : Stmt := topS 25
abbrev N_law_to_runs : List Str := ["_law_value", "_law_state", "_law_place", "_law_first", "_law_cells", "_law_tape_here", "_law_k", "_law_low", "_law_high", "_law_left", "_law_right"]
theorem sc_law_to_runs : FnScope N_law_to_runs ["_law_value"] (defScope s_law_to_runs) := ⟨rfl, rfl, rfl, by decide +kernel, rfl, by decide +kernel, by decide +kernel⟩
abbrev s_law_plain : Stmt := topS 26
abbrev N_law_plain : List Str := ["_law_value", "_law_part"]
theorem sc_law_plain : FnScope N_law_plain ["_law_value"] (defScope s_law_plain) := ⟨rfl, rfl, rfl, by decide +kernel, rfl, by decide +kernel, by decide +kernel⟩
abbrev s_law_keeping : Stmt := topS 27
abbrev N_law_keeping : List Str := ["_law_stream_here", "_law_machine_here", "_law_rows", "_law_s", "_law_row", "_law_rule"]
theorem sc_law_keeping : FnScope N_law_keeping ["_law_stream_here", "_law_machine_here"] (defScope s_law_keeping) := ⟨rfl, rfl, rfl, by decide +kernel, rfl, by decide +kernel, by decide +kernel⟩
abbrev s_law_count : Stmt := topS 28
abbrev N_law_count : List Str := ["_law_machine_here", "_law_value", "_law_state", "_law_place", "_law_first", "_law_cells", "_law_tape_here", "_law_k", "_law_symbol", "_law_write", "_law_move", "_law_after", "_law_count_here"]
theorem sc_law_count : FnScope N_law_count ["_law_machine_here", "_law_value"] (defScope s_law_count) := ⟨rfl, rfl, rfl, by decide +kernel, rfl, by decide +kernel, by decide +kernel⟩
abbrev s_law : Stmt := topS 29
abbrev N_law : List Str := ["_law_script", "_law_stream_here", "_law_machine_here", "_law_value", "_law_most", "_law_end_here", "_law_done", "_law_steps", "_law_endless", "_law_count_here", "_law_actual", "_law_move", "_law_later", "_law_cut", "_law_first", "_law_second"]
theorem sc_law : FnScope N_law ["_law_script"] (defScope s_law) := ⟨rfl, rfl, rfl, by decide +kernel, rfl, by decide +kernel, by decide +kernel⟩

/-! ### what the module's names hold -/
structure Txt (mg : Str → Option Value) (kS kC kR : Tok) (aB : Addr) : Prop where
  len : mg "len" = none
  abs : mg "abs" = none
  max : mg "max" = none
  min : mg "min" = none
  int : mg "int" = none
  tuple : mg "tuple" = none
  list : mg "list" = none
  sorted : mg "sorted" = none
  all : mg "all" = none
  isinstance : mg "isinstance" = none
  range : mg "range" = none
  bool : mg "bool" = none
  gSTOP : mg "STOP" = some (.int (-1) kS)
  gMOST_COUNT : mg "MOST_COUNT" = some (.int 1000000000000000000 kC)
  gMOST_RUNS : mg "MOST_RUNS" = some (.int 1000 kR)
  gBLANK : mg "BLANK" = some (.ref aB)
/-! ### readings that only lay new objects, the heap a letter -/
section
variable {K : PySem.W.Frag} {H : Hp} {Q : VK}
theorem sizeK {n : Nat} (h : n ≤ 100000) : n ≤ sizeLine := Nat.le_trans h (by decide)
theorem sizeKlt {n : Nat} (h : n < 100000) : n < sizeLine := Nat.lt_of_lt_of_le h (by decide)
theorem cat_any {a b : Addr} {xs ys : List V} (ha : SqT K H a xs) (hb : SqT K H b ys) (hl : xs.length + ys.length ≤ 100000) (q : ∀ H' p, Same H H' → SqT K H' p (xs ++ ys) → Q (.ref p) H') : rCatA K (.ref a) (.ref b) H Q := by
  refine ⟨a, b, xs, ys, rfl, rfl, ha, hb, sizeK hl, fun e => ?_, fun _ e => ?_, fun _ _ p hp => ?_⟩
  · subst e
    exact q H b (Same.refl H) hb
  · subst e
    refine q H a (Same.refl H) ?_
    rw [List.append_nil]
    exact ha
  · exact q _ p (same_new hp) (.of upd_same)
theorem cut_whole {xs : List V} {lo hi : Option Int} (h : HT.sIx xs.length 0 lo = 0 ∧ HT.sIx xs.length xs.length hi = xs.length) : cutV xs lo hi = xs := by
  unfold cutV
  rw [h.1, h.2, List.drop_zero, Nat.sub_zero, List.take_length]
theorem sl_any {a : Addr} {xs : List V} {lo hi : Option Int} (ha : SqT K H a xs) (q : ∀ H' p, Same H H' → SqT K H' p (cutV xs lo hi) → Q (.ref p) H') : rSlA K (.ref a) lo hi H Q := by
  refine ⟨a, xs, rfl, ha, fun h => ?_, fun _ p hp => ?_⟩
  · exact q H a (Same.refl H) (by rw [cut_whole h]; exact ha)
  · exact q _ p (same_new hp) (.of upd_same)
theorem cut1 (xs : List V) : cutV xs (some 1) none = xs.drop 1 := by
  unfold cutV
  rw [show HT.sIx xs.length 0 (some 1) = min 1 xs.length from HT.sIx_nat xs.length 0 1, HT.sIx_none]
  cases xs with
  | nil => rfl
  | cons x r =>
    rw [show min 1 (x :: r).length = 1 by
      rw [List.length_cons]
      omega]
    show (List.take ((x :: r).length - 1) r) = r
    rw [List.length_cons, Nat.add_sub_cancel]
    exact List.take_length
/-- a new object -/
def Laid (o : HO) (H : Hp) (Q : VK) : Prop := ∀ p H', H p = none → Same H H' → H' p = some o → Q (.ref p) H'
theorem Laid.go {o : HO} (q : Laid o H Q) : ∀ p, H p = none → Q (.ref p) (upd H p o) := fun p hp => q p _ hp (same_new hp) upd_same
theorem truT {a : Addr} {xs : List V} (h : SqT K H a xs) : TruV K (.ref a) H (!xs.isEmpty) := .inr (.inl ⟨xs, h, rfl⟩)
theorem truL {a : Addr} {xs : List V} (h : SqL K H a xs) : TruV K (.ref a) H (!xs.isEmpty) := .inl ⟨xs, h, rfl⟩
end
def tTupB (t : TA) : TE := fun σ H Q => t σ H fun xs H1 => xs.length ≤ 100000 ∧ Laid (.tup xs) H1 Q
def tLstB (t : TA) : TE := fun σ H Q => t σ H fun xs H1 => xs.length ≤ 100000 ∧ Laid (.lst xs) H1 Q
def tDNewB : TE := fun _ H Q => Laid (.dK []) H Q
def rCatB (K : PySem.W.Frag) : R2 := fun x y H Q => ∃ a b xs ys, x = .ref a ∧ y = .ref b ∧ SqT K H a xs ∧ SqT K H b ys ∧ xs.length + ys.length ≤ 100000 ∧ ∀ H' p, Same H H' → SqT K H' p (xs ++ ys) → Q (.ref p) H'
def rSlB (K : PySem.W.Frag) : V → Option Int → Option Int → Hp → VK → Prop := fun x lo hi H Q => ∃ a xs, x = .ref a ∧ SqT K H a xs ∧ ∀ H' p, Same H H' → SqT K H' p (cutV xs lo hi) → Q (.ref p) H'
def rSlLB (K : PySem.W.Frag) : V → Option Int → Option Int → Hp → VK → Prop := fun x lo hi H Q => ∃ a xs, x = .ref a ∧ SqL K H a xs ∧ Laid (.lst (cutV xs lo hi)) H Q
def rTupB (K : PySem.W.Frag) : List V → Hp → VK → Prop := fun xs H Q => ∃ p ys, xs = [.ref p] ∧ SqL K H p ys ∧ Laid (.tup ys) H Q
def rLstB (K : PySem.W.Frag) : List V → Hp → VK → Prop := fun xs H Q => ∃ p ys, xs = [.ref p] ∧ SqL K H p ys ∧ Laid (.lst ys) H Q
section
variable {X : Cx} {es : List Expr} {pos : Pos} {t : TA}
theorem pe_tupB {x1} (h : PA X es t) : PE X (.Tuple es x1 pos) (tTupB t) := by
  refine ⟨fun pins s σ H Q I hq => ?_⟩
  refine wpAny_Tuple_spliced (thn (h.run pos pins s σ H _ I hq) fun us s1 ⟨xs, H1, I1, r, z, q⟩ => ⟨by rw [← r.length]; exact sizeK z, ?_⟩)
  have hf : H1 s1.heap.objs.size = none := I1.hok.fresh (Nat.le_refl _)
  refine ⟨.ref s1.heap.objs.size, upd H1 s1.heap.objs.size (.tup xs), I1.laid (t' := s1.toks) (fun b u e => Heap.get?_push_of_some _ e) (Nat.le_refl _) ?_, rfl, q.go _ hf⟩
  exact ⟨sizeK z, us, r, ⟨_, Heap.get?_push_size _ rfl, rfl, _, rfl⟩⟩
theorem pe_lstB (h : PA X es t) : PE X (.List es pos) (tLstB t) := by
  refine ⟨fun pins s σ H Q I hq => ?_⟩
  refine wpAny_List_spliced (thn (h.run pos pins s σ H _ I hq) fun us s1 ⟨xs, H1, I1, r, z, q⟩ => ⟨by rw [← r.length]; exact sizeK z, ?_⟩)
  have hf : H1 s1.heap.objs.size = none := I1.hok.fresh (Nat.le_refl _)
  refine ⟨.ref s1.heap.objs.size, upd H1 s1.heap.objs.size (.lst xs), I1.laid (t' := s1.toks) (fun b u e => Heap.get?_push_of_some _ e) (Nat.le_refl _) ?_, rfl, q.go _ hf⟩
  exact ⟨sizeK z, us, 0, r, Heap.get?_push_size _ rfl⟩
theorem pe_dnewB : PE X (.Dict [] [] pos) tDNewB := ⟨fun pins s σ H Q I h => (pe_dnewK (X := X) (pos := pos)).run pins s σ H Q I (fun p hp => Laid.go h p hp)⟩
theorem op_catB : OpR X (binaryOp .Add) (rCatB X.K) := fun pins s σ H x y v u Q I rx ry h => op_catA pins s σ H x y v u Q I rx ry (by
  obtain ⟨a, b, xs, ys, rfl, rfl, ha, hb, hl, q⟩ := h
  exact cat_any ha hb hl q)
theorem sl_tupB : SlR X (rSlB X.K) := fun pins s σ H x v vl vu lo hi sl Q I rx hs pl pu h => sl_tupA pins s σ H x v vl vu lo hi sl Q I rx hs pl pu (by
  obtain ⟨a, xs, rfl, ha, q⟩ := h
  exact sl_any ha q)
theorem sl_listB : SlR X (rSlLB X.K) := fun pins s σ H x v vl vu lo hi sl Q I rx hs pl pu h => sl_list pins s σ H x v vl vu lo hi sl Q I rx hs pl pu (by
  obtain ⟨a, xs, rfl, ha, q⟩ := h
  exact ⟨a, xs, rfl, ha, fun p hp => q.go p hp⟩)
theorem call_tupB : CallR X (.type "tuple") (rTupB X.K) := fun pins s σ H xs us Q I r h => call_tuple_of pins s σ H xs us Q I r (by
  obtain ⟨p, ys, rfl, hp, q⟩ := h
  exact ⟨p, ys, rfl, .inl ⟨hp, fun l hl => q.go l hl⟩⟩)
theorem call_lstB : CallR X (.type "list") (rLstB X.K) := fun pins s σ H xs us Q I r h => call_list_of pins s σ H xs us Q I r (by
  obtain ⟨p, ys, rfl, hp, q⟩ := h
  exact ⟨p, ys, rfl, .inl hp, fun l hl => q.go l hl⟩)
/-! the same with the written part named (within a comprehension) -/
theorem ix_listK {K : PySem.W.Frag} (e : X.K = K) : IxR X (rIxL K) := by subst e; exact ix_list
theorem ix_tupK {K : PySem.W.Frag} (e : X.K = K) : IxR X (rIxT K) := by subst e; exact ix_tup
theorem call_lenK {K : PySem.W.Frag} (e : X.K = K) : CallR X (.builtin "len") (fun xs H Q => ∃ p ys, xs = [.ref p] ∧ (SqL K H p ys ∨ SqT K H p ys) ∧ Q (.int ys.length) H) := by subst e; exact call_len_seq
theorem pg_tupK {K : PySem.W.Frag} {es : List Expr} {k : Nat} {t : TGs} {n : Nat} (e : X.K = K) (hc : X.calm = true) (h : PGs X es t)
    (hn : (assignEach es X.env).length = n := by rfl) (hst : (assignEach es X.env).findIdx? (·.1) = none := by rfl) : PG X (.Tuple es k pos) (gTup K n t) := by subst e; exact pg_tup hc h hn hst
end
end K19

/-! ## K19A -/
namespace K19
open PySem PySem.Spec PyProof.Rows L2
section
variable {P : Program} {w : World} {K : PySem.W.Frag} {mg : Str → Option Value} {base : Heap} {kS kC kR : Tok} {aB : Addr}
/-! ### added -/
def spAdded (K : PySem.W.Frag) : Sp := fun vs H Q _ => ∃ (v : V) (r : Runs) (s c : Int), vs = [v, .int s, .int c] ∧ TD K H v (eRuns r) ∧ r.length ≤ 10000 ∧
  ∀ H' v', Same H H' → TD K H' v' (eRuns (addedR r s c)) → Q v' H'
theorem ok_added {f : Addr} {fd : FuncData} {k : Nat} (F : Fun K "added" "added" s_added f fd) (T : Txt mg kS kC kR aB) : FnOk P w K mg base CX0 (k + 1) f fd ["runs", "symbol", "count"] (spAdded K) := by
  refine F.ok sc_added (fun vs H Q E h => ?_) (fun cdv A outer s H vs Q E hr h => ?_)
  · obtain ⟨v, r, s, c, rfl, _⟩ := h
    rfl
  · obtain ⟨v, r, s, c, rfl, hv, hl, k⟩ := h
    refine ⟨_, (pss_cons (ps_if (pt_cmpR op_eq (pv 2) pe_int (nomark _))
      (pss_one (ps_ret (pv 0)))
      pss_nil)
    (pss_cons (ps_if (PW.pt (pw_and (pt_truth (pv 0) (by intro _; rfl)) (pw_and1 (pt_cmpR op_eq (pe_ix ix_tup (pe_ix ix_tup (pv 0) pe_int (fun _ _ => rfl)) pe_int (fun _ _ => rfl)) (pv 1) (nomark _)))))
      (pss_one (ps_ret (pe_op op_catB (pe_tupB (pa_cons (pe_tupB (pa_cons (pv 1) (pa_cons (pe_op op_add (pe_ix ix_tup (pe_ix ix_tup (pv 0) pe_int (fun _ _ => rfl)) pe_int (fun _ _ => rfl)) (pv 2)) pa_nil))) pa_nil)) (pe_slice sl_tupB (pv 0) (po_some pe_int) po_none))))
      pss_nil)
    (pss_cons (ps_if (PW.pt (pw_and (pt_not (pt_truth (pv 0) (by intro _; rfl))) (pw_and1 (pt_cmpR op_eq (pv 1) pe_int (nomark _)))))
      (pss_one (ps_ret (pv 0)))
      pss_nil)
    (pss_one (ps_ret (pe_op op_catB (pe_tupB (pa_cons (pe_tupB (pa_cons (pv 1) (pa_cons (pv 2) pa_nil))) pa_nil)) (pv 0))))))), ?_⟩
    have hv0 := hv
    obtain ⟨a, xs, rfl, hs, hx⟩ := hv.tupE
    have xl : xs.length = r.length := by rw [hx.len, List.length_map]
    refine ⟨_, rfl, rfl, _, rfl, ite2 (fun e => ?_) (fun e => ?_)⟩
    · have e0 : c = 0 := V.int.inj (of_decide_eq_true e)
      refine ⟨_, rfl, ?_⟩
      exact k H _ (Same.refl H) (by unfold addedR; rw [if_pos e0]; exact hv0)
    · have e0 : ¬ c = 0 := fun z => e (by rw [z]; rfl)
      cases r with
      | nil =>
        obtain rfl := hx.nilE
        refine ⟨_, rfl, false, truT hs, iteF ?_⟩
        refine ⟨_, rfl, false, truT hs, iteT ?_⟩
        refine ⟨_, rfl, rfl, _, rfl, ite2 (fun e1 => ?_) (fun e1 => ?_)⟩
        · have e2 : s = 0 := V.int.inj (of_decide_eq_true e1)
          exact ⟨_, rfl, k H _ (Same.refl H) (by unfold addedR; rw [if_neg e0]; simp only [e2, if_true]; exact hv0)⟩
        · have e2 : ¬ s = 0 := fun z => e1 (by rw [z]; rfl)
          refine ⟨_, rfl, _, rfl, by simp, fun p1 H1 _ s1 g1 => ?_⟩
          refine ⟨by simp, fun p2 H2 _ s2 g2 => ?_⟩
          have h1 : SqT K H1 p1 _ := .of g1
          have h2 : SqT K H2 p2 _ := .of g2
          refine ⟨_, rfl, p2, a, _, _, rfl, rfl, h2, sT s2 (sT s1 hs), by simp, fun H3 p3 s3 h3 => ?_⟩
          refine k H3 _ (sTr (sTr s1 s2) s3) ?_
          unfold addedR
          rw [if_neg e0]
          simp only [e2, if_false]
          exact .tup h3 (.cons (.tup (sT (sTr s2 s3) h1) (.cons (.int _) (.cons (.int _) .nil))) .nil)
      | cons q r =>
        obtain ⟨x, xs, rfl, hq, hx2⟩ := hx.consE
        obtain ⟨b, rfl, hb⟩ := runE hq
        refine ⟨_, rfl, true, truT hs, iteT ?_⟩
        refine ⟨_, rfl, a, _, 0, _, rfl, rfl, hs, atI_nat (j := 0) rfl, b, _, 0, _, rfl, rfl, hb, atI_nat (j := 0) rfl, _, rfl, rfl, _, rfl, ite2 (fun e1 => ?_) (fun e1 => ?_)⟩
        · have e2 : q.1 = s := V.int.inj (of_decide_eq_true e1)
          refine ⟨_, rfl, _, rfl, a, _, 0, _, rfl, rfl, hs, atI_nat (j := 0) rfl, b, _, 1, _, rfl, rfl, hb, atI_nat (j := 1) rfl, _, rfl, _, _, rfl, rfl, ?_⟩
          refine ⟨by simp, fun p1 H1 _ s1 g1 => ?_⟩
          refine ⟨by simp, fun p2 H2 _ s2 g2 => ?_⟩
          have h1 : SqT K H1 p1 _ := .of g1
          have h2 : SqT K H2 p2 _ := .of g2
          refine ⟨_, rfl, 1, rfl, a, _, rfl, sT s2 (sT s1 hs), fun H3 p3 s3 h3 => ?_⟩
          rw [cut1] at h3
          refine ⟨p2, p3, _, _, rfl, rfl, sT s3 h2, h3, (by simp only [List.length_cons, List.length_nil, List.drop_succ_cons, List.drop_zero] at *; omega), fun H4 p4 s4 h4 => ?_⟩
          refine k H4 _ (sTr (sTr (sTr s1 s2) s3) s4) ?_
          unfold addedR
          rw [if_neg e0]
          simp only [e2, if_true]
          exact .tup h4 (.cons (.tup (sT (sTr (sTr s2 s3) s4) h1) (.cons (.int _) (.cons (.int _) .nil))) (sDs (sTr (sTr (sTr s1 s2) s3) s4) hx2))
        · have e2 : ¬ q.1 = s := fun z => e1 (by rw [z]; exact decide_eq_true rfl)
          refine ⟨_, rfl, true, truT hs, iteF ?_⟩
          refine ⟨_, rfl, _, rfl, by simp, fun p1 H1 _ s1 g1 => ?_⟩
          refine ⟨by simp, fun p2 H2 _ s2 g2 => ?_⟩
          have h1 : SqT K H1 p1 _ := .of g1
          have h2 : SqT K H2 p2 _ := .of g2
          refine ⟨_, rfl, p2, a, _, _, rfl, rfl, h2, sT s2 (sT s1 hs), (by simp only [List.length_cons, List.length_nil] at *; omega), fun H3 p3 s3 h3 => ?_⟩
          refine k H3 _ (sTr (sTr s1 s2) s3) ?_
          unfold addedR
          rw [if_neg e0]
          simp only [e2, if_false]
          exact .tup h3 (.cons (.tup (sT (sTr s2 s3) h1) (.cons (.int _) (.cons (.int _) .nil))) (.cons (sD (sTr (sTr s1 s2) s3) hq) (sDs (sTr (sTr s1 s2) s3) hx2)))
end
end K19

/-! ## K19B -/
namespace K19
open PySem PySem.Spec PyProof.Rows L2
section
variable {P : Program} {w : World} {K : PySem.W.Frag} {mg : Str → Option Value} {base : Heap} {kS kC kR : Tok} {aB : Addr}
/-! ### whole -/
def spWhole (K : PySem.W.Frag) : Sp := fun vs H Q _ => ∃ (v : V) (T : Tp), vs = [v] ∧ TD K H v (eTape T) ∧ (-1000000000 ≤ T.pl ∧ T.pl ≤ 1000000000) ∧ (T.lf.length ≤ 1000 ∧ T.rt.length ≤ 1000) ∧ (∀ p ∈ T.lf ++ T.rt, p.2 ≤ 1000000000) ∧
  ∀ H', Same H H' → Q v H'
theorem ok_whole {f : Addr} {fd : FuncData} {k : Nat} (F : Fun K "whole" "whole" s_whole f fd) (T : Txt mg kS kC kR aB) : FnOk P w K mg base CX0 (k + 1) f fd ["tape"] (spWhole K) := by
  refine F.ok sc_whole (fun vs H Q E h => ?_) (fun cdv A outer s H vs Q E hr h => ?_)
  · obtain ⟨v, U, rfl, _⟩ := h
    rfl
  · obtain ⟨v, U, rfl, hv, ⟨p0, p1⟩, ⟨l1, l2⟩, hc, k⟩ := h
    refine ⟨_, (pss_cons (ps_asg (pv 0) (pg_tup rfl (pgs_cons (pg_name (i := 1) sc_whole.nd rfl (.inl rfl)) (pgs_cons (pg_name (i := 2) sc_whole.nd rfl (.inl rfl)) (pgs_cons (pg_name (i := 3) sc_whole.nd rfl (.inl rfl)) (pgs_cons (pg_name (i := 4) sc_whole.nd rfl (.inl rfl)) (pgs_cons (pg_name (i := 5) sc_whole.nd rfl (.inl rfl)) pgs_nil)))))))
    (pss_cons (ps_if (PW.pt (pw_or (pt_cmpR op_gt (pe_callB call_abs (by rfl) T.abs (by decide +kernel) (pa_cons (pv 2) pa_nil)) (pe_glob (v := .int 1000000000000000000) (by rfl) T.gMOST_COUNT ⟨_, rfl⟩) (nomark _)) (pw_or1 (pt_cmpR op_gt (pe_callB (call_max2 rfl) (by rfl) T.max (by decide +kernel) (pa_cons (pe_callB call_len_seq (by rfl) T.len PySem.boot_len (pa_cons (pv 4) pa_nil)) (pa_cons (pe_callB call_len_seq (by rfl) T.len PySem.boot_len (pa_cons (pv 5) pa_nil)) pa_nil))) (pe_glob (v := .int 1000) (by rfl) T.gMOST_RUNS ⟨_, rfl⟩) (nomark _)))))
      (pss_one ps_never)
      pss_nil)
    (pss_cons (ps_if (pt_cmpR op_gt (pe_callBK (cr_maxDef rfl) (by rfl) T.max (by decide +kernel) (pa_cons (pe_lc (own := [("_", 6), ("count", 7)]) rfl sc_whole.nd (pi_tup (pe_op op_catB (pv 4) (pv 5))) (blkOk_by (N := N_whole) (sc := defScope s_whole) (by decide +kernel)) (fun _ _ _ _ _ => (pg_tupK (K := K) (n := 2) rfl rfl (pgs_cons (pg_name (i := 6) sc_whole.nd rfl (.inl rfl)) (pgs_cons (pg_name (i := 7) sc_whole.nd rfl (.inl rfl)) pgs_nil)))) (fun _ _ _ _ _ => pts_nil) (fun _ _ _ _ _ => (pv 7))) pa_nil) (pk_cons pe_int pk_nil)) (pe_glob (v := .int 1000000000000000000) (by rfl) T.gMOST_COUNT ⟨_, rfl⟩) (nomark _))
      (pss_one ps_never)
      pss_nil)
    (pss_one (ps_ret (pv 0)))))), ?_⟩
    obtain ⟨a, l, r, rfl, ha, hl, hr'⟩ := tapeE hv
    obtain ⟨bl, xl, rfl, hbl, hxl⟩ := hl.tupE
    obtain ⟨br, xr, rfl, hbr, hxr⟩ := hr'.tupE
    have nl : xl.length = U.lf.length := by rw [hxl.len, List.length_map]
    have nr : xr.length = U.rt.length := by rw [hxr.len, List.length_map]
    refine ⟨_, rfl, a, _, rfl, ha, rfl, _, _, rfl, _, _, rfl, _, _, rfl, _, _, rfl, _, _, rfl, rfl, ?_⟩
    refine ⟨_, rfl, _, rfl, _, _, rfl, rfl, _, rfl, ite2 (fun e => ?_) (fun _ => ?_)⟩
    · exfalso
      have e1 := of_decide_eq_true e
      split at e1 <;> omega
    refine ⟨_, rfl, bl, _, rfl, .inr hbl, _, rfl, br, _, rfl, .inr hbr, _, _, rfl, _, _, rfl, rfl, _, rfl, ite2 (fun e => ?_) (fun _ => ?_)⟩
    · exfalso
      have e1 := of_decide_eq_true e
      split at e1 <;> omega
    refine ⟨_, rfl, _, rfl, bl, br, _, _, rfl, rfl, hbl, hbr, by omega, fun H1 p s1 hp => ?_⟩
    have hx : TDs K H1 (xl ++ xr) ((U.lf ++ U.rt).map eRun) := by
      rw [List.map_append]
      exact TDs.app (sDs s1 hxl) (sDs s1 hxr)
    have nx : (xl ++ xr).length = (U.lf ++ U.rt).length := by rw [hx.len, List.length_map]
    refine ⟨p, rfl, ⟨_, hp⟩, fun D hD => lc_tup (xs := xl ++ xr) (fun i H2 => Same H1 H2 ∧ H2 D = some (.lst (((U.lf ++ U.rt).take i).map fun q => V.int q.2))) ⟨same_new hD, upd_same⟩ (fun i H2 _ q => sT q.1 hp) (fun i x H2 hi q => ?_) fun H2 q => ?_⟩
    · obtain ⟨s2, q2⟩ := q
      obtain ⟨d, hd, hxd⟩ := hx.get2 hi
      obtain ⟨u, hu, rfl⟩ : ∃ u, (U.lf ++ U.rt)[i]? = some u ∧ eRun u = d := by
        rw [List.getElem?_map] at hd
        cases e : (U.lf ++ U.rt)[i]? with
        | none => rw [e] at hd; cases hd
        | some u => rw [e] at hd; exact ⟨u, rfl, Option.some.inj hd⟩
      obtain ⟨b, rfl, hb⟩ := runE hxd
      refine ⟨b, _, rfl, sT s2 hb, rfl, _, _, rfl, _, _, rfl, rfl, rfl, _, rfl, _, q2, ?_, ?_⟩
      · rw [List.length_map, List.length_take]
        refine sizeKlt ?_
        rw [List.length_append] at *
        omega
      · refine ⟨fun c o h => ?_, ?_⟩
        · rw [upd_ne (ne_of_none h hD)]
          exact s2 c o h
        · rw [upd_same, List.take_add_one, hu, List.map_append]
          rfl
    · obtain ⟨s2, q2⟩ := q
      rw [nx, List.take_length] at q2
      refine ⟨D, (U.lf ++ U.rt).map Prod.snd, 0, rfl, rfl, .of (by rw [q2, List.map_map]; rfl), fun m hm => ?_⟩
      have hm' : m ≤ 1000000000 := by
        rcases List.mem_cons.mp hm with e | e
        · omega
        · obtain ⟨q, hq, e⟩ := List.mem_map.mp e
          have := hc q hq
          omega
      refine ⟨_, _, rfl, rfl, _, rfl, ite2 (fun e => ?_) (fun _ => ?_)⟩
      · exfalso
        have e1 := of_decide_eq_true e
        omega
      · exact ⟨_, rfl, k H2 (sTr s1 s2)⟩
end
end K19

/-! ## K19C -/
namespace K19
open PySem PySem.Spec PyProof.Rows L2
section
variable {P : Program} {w : World} {K : PySem.W.Frag} {mg : Str → Option Value} {base : Heap} {kS kC kR : Tok} {aB : Addr}
/-! ### slid -/
def spSlid (K : PySem.W.Frag) : Sp := fun vs H Q _ => ∃ (vm vt : V) (m : Mach) (n : Nat) (T : Tp), vs = [vm, vt] ∧ TD K H vm (eMach m) ∧ MOk m n ∧ TD K H vt (eTape T) ∧ (0 ≤ T.st ∧ T.st < m.length) ∧ (0 ≤ T.sy ∧ T.sy < n) ∧
  ∀ H', Same H H' → Q (.int (slidR m T)) H'
theorem ok_slid {f : Addr} {fd : FuncData} {k : Nat} (F : Fun K "slid" "slid" s_slid f fd) (T : Txt mg kS kC kR aB) : FnOk P w K mg base CX0 (k + 1) f fd ["machine", "tape"] (spSlid K) := by
  refine F.ok sc_slid (fun vs H Q E h => ?_) (fun cdv A outer s H vs Q E hr h => ?_)
  · obtain ⟨vm, vt, m, n, U, rfl, _⟩ := h
    rfl
  · obtain ⟨vm, vt, m, n, U, rfl, hm, mok, ht, ⟨t0, t1⟩, ⟨y0, y1⟩, k⟩ := h
    refine ⟨_, (pss_cons (ps_asg (pv 1) (pg_tup rfl (pgs_cons (pg_name (i := 2) sc_slid.nd rfl (.inl rfl)) (pgs_cons (pg_name (i := 3) sc_slid.nd rfl (.inl rfl)) (pgs_cons (pg_name (i := 4) sc_slid.nd rfl (.inl rfl)) (pgs_cons (pg_name (i := 5) sc_slid.nd rfl (.inl rfl)) (pgs_cons (pg_name (i := 6) sc_slid.nd rfl (.inl rfl)) pgs_nil)))))))
    (pss_cons (ps_set (i := 7) sc_slid.nd rfl (.inl rfl) (pe_ix ix_tup (pe_ix ix_tup (pv 0) (pv 2) (fun _ _ => rfl)) (pv 4) (fun _ _ => rfl)))
    (pss_cons (ps_set (i := 8) sc_slid.nd rfl (.inl rfl) (pv 6))
    (Evl.pss_cut (ps_if (pt_cmpR op_lt (pe_ix ix_tup (pv 7) pe_int (fun _ _ => rfl)) pe_int (nomark _))
      (pss_one (ps_set (i := 8) sc_slid.nd rfl (.inl rfl) (pv 5)))
      pss_nil)
    (pss_cons (ps_if (pt_cmpR op_ne (pe_ix ix_tup (pv 7) pe_int (fun _ _ => rfl)) (pv 2) (nomark _))
      (pss_one (ps_ret pe_int))
      pss_nil)
    (pss_cons (ps_if (pt_not (pt_truth (pv 8) (by intro _; rfl)))
      (pss_one (ps_ret (pe_callTy call_int1 (by rfl) T.int (by decide +kernel) (pa_cons (pe_cmpR op_ne (pv 4) pe_int (nomark _)) pa_nil))))
      pss_nil)
    (pss_cons (ps_if (pt_cmpR op_ne (pe_ix ix_tup (pe_ix ix_tup (pv 8) pe_int (fun _ _ => rfl)) pe_int (fun _ _ => rfl)) (pv 4) (nomark _))
      (pss_one (ps_ret pe_int))
      pss_nil)
    (pss_one (ps_ret (pe_op op_add pe_int (pe_ix ix_tup (pe_ix ix_tup (pv 8) pe_int (fun _ _ => rfl)) pe_int (fun _ _ => rfl)))))))))))), ?_⟩
    obtain ⟨a, l, r, rfl, ha, hl, hr'⟩ := tapeE ht
    obtain ⟨am, xs, b, ys, c, rfl, h1, e1, h2, e2, _, h3⟩ := machE mok hm t0 t1 y0 y1
    refine ⟨_, rfl, a, _, rfl, ha, rfl, _, _, rfl, _, _, rfl, _, _, rfl, _, _, rfl, _, _, rfl, rfl, ?_⟩
    refine ⟨_, rfl, _, rfl, am, xs, _, _, rfl, rfl, h1, e1, _, rfl, b, ys, _, _, rfl, rfl, h2, e2, _, rfl, ?_⟩
    generalize hq : ruleAt m U.st U.sy = q at h3
    refine ⟨fun σ' H' => ∃ z, σ' = [some (.ref am), some (.ref a), some (.int U.st), some (.int U.pl), some (.int U.sy), some l, some r, some (.ref c), some z] ∧ H' = H ∧ TD K H z (eRuns (frontR U q.2.1)), ?_, fun σ' H' hM => ?_⟩
    · refine ⟨_, rfl, c, _, 1, _, rfl, rfl, h3, atI_nat (j := 1) rfl, _, _, rfl, rfl, _, rfl, ite2 (fun e => ?_) (fun e => ?_)⟩
      · have e1 : q.2.1 < 0 := of_decide_eq_true e
        exact ⟨_, rfl, l, rfl, rfl, by unfold frontR; rw [if_pos e1]; exact hl⟩
      · have e1 : ¬ q.2.1 < 0 := fun z => e (decide_eq_true z)
        exact ⟨r, rfl, rfl, by unfold frontR; rw [if_neg e1]; exact hr'⟩
    obtain ⟨z, rfl, rfl, hz⟩ := hM
    have ek : slidR m U = if q.2.2 ≠ U.st then 1 else match frontR U q.2.1 with
      | [] => if U.sy ≠ 0 then 1 else 0
      | p :: _ => if p.1 ≠ U.sy then 1 else 1 + p.2 := by
      unfold slidR
      rw [hq]
      all_goals rfl
    refine ⟨_, rfl, c, _, 2, _, rfl, rfl, h3, atI_nat (j := 2) rfl, _, rfl, rfl, _, rfl, ite2 (fun e => ?_) (fun e => ?_)⟩
    · have e1 : q.2.2 ≠ U.st := fun z => by
        rw [z] at e
        simp at e
      rw [if_pos e1] at ek
      have := k _ (Same.refl _)
      rw [ek] at this
      exact this
    have e3 : q.2.2 = U.st := Classical.byContradiction fun z => e (by simp [z])
    rw [if_neg (fun z => z e3)] at ek
    generalize frontR U q.2.1 = fr at *
    obtain ⟨d, zs, rfl, hd, hzs⟩ := hz.tupE
    cases fr with
    | nil =>
      obtain rfl := hzs.nilE
      refine ⟨_, rfl, false, truT hd, iteT ?_⟩
      refine ⟨_, rfl, rfl, .inr ⟨_, rfl, ?_⟩⟩
      have := k _ (Same.refl _)
      rw [ek] at this
      simp only at this
      by_cases e5 : U.sy = 0
      · simp only [e5, ne_eq, not_true, if_false] at this
        simp only [e5, decide_true, Bool.not_true, Bool.false_eq_true, if_false]
        exact this
      · simp only [e5, ne_eq, not_false_eq_true, if_true] at this
        have e6 : (!decide (V.int U.sy = V.int 0)) = true := by simp [e5]
        rw [e6, if_pos rfl]
        exact this
    | cons p fr =>
      obtain ⟨x, zs, rfl, hx, _⟩ := hzs.consE
      obtain ⟨g, rfl, hg⟩ := runE hx
      refine ⟨_, rfl, true, truT hd, iteF ?_⟩
      refine ⟨_, rfl, d, _, 0, _, rfl, rfl, hd, atI_nat (j := 0) rfl, g, _, 0, _, rfl, rfl, hg, atI_nat (j := 0) rfl, _, rfl, rfl, _, rfl, ite2 (fun e => ?_) (fun e => ?_)⟩
      · have e1 : p.1 ≠ U.sy := fun z => by
          rw [z] at e
          simp at e
        have := k _ (Same.refl _)
        rw [ek] at this
        simp only [ne_eq, e1, not_false_eq_true, if_true] at this
        exact this
      · have e1 : p.1 = U.sy := Classical.byContradiction fun z => e (by simp [z])
        refine ⟨_, rfl, d, _, 0, _, rfl, rfl, hd, atI_nat (j := 0) rfl, g, _, 1, _, rfl, rfl, hg, atI_nat (j := 1) rfl, _, _, rfl, rfl, ?_⟩
        have := k _ (Same.refl _)
        rw [ek] at this
        simp only [ne_eq, e1, not_true, if_false] at this
        exact this
end
end K19

/-! ## K19D -/
namespace K19
open PySem PySem.Spec PyProof.Rows L2
section
variable {P : Program} {w : World} {K : PySem.W.Frag} {mg : Str → Option Value} {base : Heap} {kS kC kR : Tok} {aB : Addr}
/-! ### moved -/
def spMoved (K : PySem.W.Frag) : Sp := fun vs H Q _ => ∃ (vt vr : V) (T : Tp) (q : Int × Int × Int) (c : Int), vs = [vt, vr, .int c] ∧ TD K H vt (eTape T) ∧ TD K H vr (eRule q) ∧ (T.lf.length ≤ 5000 ∧ T.rt.length ≤ 5000) ∧
  ∀ H' v', Same H H' → TD K H' v' (eTape (movedR T q c)) → Q v' H'
theorem tape_mk {H : Hp} {p : Addr} {st pl sy : Int} {l r : V} {L R : Runs} (h : H p = some (.tup [.int st, .int pl, .int sy, l, r])) (hl : TD K H l (eRuns L)) (hr : TD K H r (eRuns R)) : TD K H (.ref p) (eTape ⟨st, pl, sy, L, R⟩) :=
  .tup (.of h) (.cons (.int _) (.cons (.int _) (.cons (.int _) (.cons hl (.cons hr .nil)))))
theorem ok_moved {f : Addr} {fd : FuncData} {k : Nat} (F : Fun K "moved" "moved" s_moved f fd) (T : Txt mg kS kC kR aB) (C_added : Cal P w K mg base k "added" ["runs", "symbol", "count"] (spAdded K)) : FnOk P w K mg base CX0 (k + 1) f fd ["tape", "rule", "count"] (spMoved K) := by
  refine F.ok sc_moved (fun vs H Q E h => ?_) (fun cdv A outer s H vs Q E hr h => ?_)
  · obtain ⟨vt, vr, U, q, c, rfl, _⟩ := h
    rfl
  · obtain ⟨vt, vr, U, q, c, rfl, ht, hq, ⟨l1, l2⟩, k⟩ := h
    refine ⟨_, (pss_cons (ps_asg (pe_slice sl_tupB (pv 0) (po_some pe_int) (po_some pe_int)) (pg_tup rfl (pgs_cons (pg_name (i := 3) sc_moved.nd rfl (.inl rfl)) (pgs_cons (pg_name (i := 4) sc_moved.nd rfl (.inl rfl)) pgs_nil))))
    (pss_cons (ps_asg (pv 1) (pg_tup rfl (pgs_cons (pg_name (i := 5) sc_moved.nd rfl (.inl rfl)) (pgs_cons (pg_name (i := 6) sc_moved.nd rfl (.inl rfl)) (pgs_cons (pg_name (i := 7) sc_moved.nd rfl (.inl rfl)) pgs_nil)))))
    (pss_cons (ps_par (i := 8) (j := 9) (by rfl) sc_moved.nd rfl rfl (by decide) rfl rfl (pa_cons (pe_ix ix_tup (pv 0) pe_int (fun _ _ => rfl)) (pa_cons (pe_ix ix_tup (pv 0) pe_int (fun _ _ => rfl)) pa_nil)) (by rfl))
    (Evl.pss_cut (ps_if (pt_cmpR op_lt (pv 6) pe_int (nomark _))
      (pss_one (ps_par (i := 8) (j := 9) (by rfl) sc_moved.nd rfl rfl (by decide) rfl rfl (pa_cons (pv 9) (pa_cons (pv 8) pa_nil)) (by rfl)))
      pss_nil)
    (pss_cons (ps_set (i := 9) sc_moved.nd rfl (.inl rfl) (pe_cal C_added hr (by rfl) (pa_cons (pv 9) (pa_cons (pv 5) (pa_cons (pv 2) pa_nil)))))
    (Evl.pss_cut (ps_if (pt_cmpR op_gt (pv 2) pe_int (nomark _))
      (pss_one (ps_set (i := 8) sc_moved.nd rfl (.inl rfl) (pe_slice sl_tupB (pv 8) (po_some pe_int) po_none)))
      pss_nil)
    (pss_cons (ps_set (i := 10) sc_moved.nd rfl (.inl rfl) pe_int)
    (Evl.pss_cut (ps_if (pt_truth (pv 8) (by intro _; rfl))
      (pss_cons (ps_asg (pe_ix ix_tup (pv 8) pe_int (fun _ _ => rfl)) (pg_tup rfl (pgs_cons (pg_name (i := 10) sc_moved.nd rfl (.inl rfl)) (pgs_cons (pg_name (i := 11) sc_moved.nd rfl (.inl rfl)) pgs_nil))))
      (pss_cons (ps_set (i := 8) sc_moved.nd rfl (.inl rfl) (pe_slice sl_tupB (pv 8) (po_some pe_int) po_none))
      (pss_one (ps_if (pt_cmpR op_gt (pv 11) pe_int (nomark _))
        (pss_one (ps_set (i := 8) sc_moved.nd rfl (.inl rfl) (pe_op op_catB (pe_tupB (pa_cons (pe_tupB (pa_cons (pv 10) (pa_cons (pe_op op_sub (pv 11) pe_int) pa_nil))) pa_nil)) (pv 8))))
        pss_nil))))
      pss_nil)
    (pss_cons (ps_if (pt_cmpR op_lt (pv 6) pe_int (nomark _))
      (pss_one (ps_ret (pe_tupB (pa_cons (pv 7) (pa_cons (pe_op op_sub (pv 3) (pv 2)) (pa_cons (pv 10) (pa_cons (pv 8) (pa_cons (pv 9) pa_nil))))))))
      pss_nil)
    (pss_one (ps_ret (pe_tupB (pa_cons (pv 7) (pa_cons (pe_op op_add (pv 3) (pv 2)) (pa_cons (pv 10) (pa_cons (pv 9) (pa_cons (pv 8) pa_nil))))))))))))))))), ?_⟩
    obtain ⟨a, l, r, rfl, ha, hl, hr'⟩ := tapeE ht
    obtain ⟨b, rfl, hb⟩ := ruleE hq
    refine ⟨_, rfl, 1, rfl, 3, rfl, a, _, rfl, ha, fun H1 p s1 hp => ?_⟩
    refine ⟨p, [.int U.pl, .int U.sy], rfl, hp, rfl, _, _, rfl, _, _, rfl, rfl, ?_⟩
    refine ⟨_, rfl, b, _, rfl, sT s1 hb, rfl, _, _, rfl, _, _, rfl, _, _, rfl, rfl, ?_⟩
    refine ⟨_, rfl, a, _, 4, _, rfl, rfl, sT s1 ha, atI_nat (j := 4) rfl, _, rfl, a, _, 3, _, rfl, rfl, sT s1 ha, atI_nat (j := 3) rfl, _, _, rfl, ?_⟩
    refine ⟨fun σ' H' => ∃ z1 z2, σ' = [some (.ref a), some (.ref b), some (.int c), some (.int U.pl), some (.int U.sy), some (.int q.1), some (.int q.2.1), some (.int q.2.2), some z1, some z2, none, none] ∧ H' = H1 ∧
      TD K H' z1 (eRuns (frontR U q.2.1)) ∧ TD K H' z2 (eRuns (behindR U q.2.1)), ?_, fun σ' H' hM => ?_⟩
    · refine ⟨_, rfl, _, _, rfl, rfl, _, rfl, ite2 (fun e => ?_) (fun e => ?_)⟩
      · have e1 : q.2.1 < 0 := of_decide_eq_true e
        refine ⟨_, rfl, _, rfl, _, _, rfl, l, r, rfl, rfl, ?_, ?_⟩
        · unfold frontR; rw [if_pos e1]; exact sD s1 hl
        · unfold behindR; rw [if_pos e1]; exact sD s1 hr'
      · have e1 : ¬ q.2.1 < 0 := fun z => e (decide_eq_true z)
        refine ⟨r, l, rfl, rfl, ?_, ?_⟩
        · unfold frontR; rw [if_neg e1]; exact sD s1 hr'
        · unfold behindR; rw [if_neg e1]; exact sD s1 hl
    obtain ⟨z1, z2, rfl, rfl, hz1, hz2⟩ := hM
    have f1 : (frontR U q.2.1).length ≤ 5000 := by unfold frontR; split <;> assumption
    have f2 : (behindR U q.2.1).length ≤ 5000 := by unfold behindR; split <;> assumption
    refine ⟨_, rfl, _, rfl, _, rfl, z2, _, _, _, rfl, hz2, by omega, fun H2 z3 s2 hz3 => ?_⟩
    have s12 := sTr s1 s2
    refine ⟨fun σ' H' => ∃ z1, σ' = [some (.ref a), some (.ref b), some (.int c), some (.int U.pl), some (.int U.sy), some (.int q.1), some (.int q.2.1), some (.int q.2.2), some z1, some z3, none, none] ∧ Same H2 H' ∧
      TD K H' z1 (eRuns (cutR (frontR U q.2.1) c)), ?_, fun σ' H3 hM => ?_⟩
    · refine ⟨_, rfl, _, _, rfl, rfl, _, rfl, ite2 (fun e => ?_) (fun e => ?_)⟩
      · have e1 : c > 1 := of_decide_eq_true e
        obtain ⟨g, xs, rfl, hg, hx⟩ := hz1.tupE
        refine ⟨_, rfl, 1, rfl, g, _, rfl, sT s2 hg, fun H3 p3 s3 h3 => ⟨_, rfl, s3, ?_⟩⟩
        rw [cut1] at h3
        unfold cutR
        rw [if_pos e1]
        have hx' := (sDs (sTr s2 s3) hx).drop 1
        have e2 : eRuns (frontR U q.2.1).tail = .tuple (((frontR U q.2.1).map eRun).drop 1) := by
          unfold eRuns
          rw [List.drop_one, List.map_tail]
        rw [e2]
        exact .tup h3 hx'
      · have e1 : ¬ c > 1 := fun z => e (decide_eq_true z)
        refine ⟨z1, rfl, Same.refl _, ?_⟩
        unfold cutR
        rw [if_neg e1]
        exact sD s2 hz1
    obtain ⟨z4, rfl, s3, hz4⟩ := hM
    have f3 : (cutR (frontR U q.2.1) c).length ≤ 5000 := by
      unfold cutR
      split
      · rw [List.length_tail]; omega
      · exact f1
    generalize hfr : cutR (frontR U q.2.1) c = fr at hz4 f3
    have hz3' := sD s3 hz3
    refine ⟨fun σ' H' => ∃ z1 y, σ' = [some (.ref a), some (.ref b), some (.int c), some (.int U.pl), some (.int U.sy), some (.int q.1), some (.int q.2.1), some (.int q.2.2), some z1, some z3, some (.int (popS fr)), y] ∧ Same H3 H' ∧
      TD K H' z1 (eRuns (popT fr)), ?_, fun σ' H4 hM => ?_⟩
    · obtain ⟨g, xs, rfl, hg, hx⟩ := hz4.tupE
      cases fr with
      | nil =>
        obtain rfl := hx.nilE
        exact ⟨_, rfl, false, truT hg, .ref g, none, rfl, Same.refl _, hz4⟩
      | cons u fr =>
        obtain ⟨x, xs, rfl, hu, hx2⟩ := hx.consE
        obtain ⟨g2, rfl, hg2⟩ := runE hu
        refine ⟨_, rfl, true, truT hg, ?_⟩
        refine ⟨_, rfl, g, _, 0, _, rfl, rfl, hg, atI_nat (j := 0) rfl, g2, _, rfl, hg2, rfl, _, _, rfl, _, _, rfl, rfl, ?_⟩
        refine ⟨_, rfl, 1, rfl, g, _, rfl, hg, fun H4 p4 s4 h4 => ?_⟩
        rw [cut1] at h4
        refine ⟨_, rfl, _, _, rfl, rfl, _, rfl, ite2 (fun e => ?_) (fun e => ?_)⟩
        · have e1 : u.2 > 1 := of_decide_eq_true e
          refine ⟨_, rfl, _, rfl, _, _, rfl, rfl, by simp, fun p5 H5 _ s5 g5 => ⟨by simp, fun p6 H6 _ s6 g6 => ?_⟩⟩
          refine ⟨_, rfl, p6, p4, _, _, rfl, rfl, .of g6, sT (sTr s5 s6) h4, ?_, fun H7 p7 s7 h7 => ⟨_, _, rfl, sTr (sTr (sTr s4 s5) s6) s7, ?_⟩⟩
          · have := hx2.len
            simp only [List.length_cons, List.length_nil, List.length_drop, List.length_map] at *
            omega
          · unfold popT
            simp only [e1, if_true]
            exact .tup h7 (.cons (.tup (sT (sTr s6 s7) (.of g5)) (.cons (.int _) (.cons (.int _) .nil))) (sDs (sTr (sTr (sTr s4 s5) s6) s7) hx2))
        · have e1 : ¬ u.2 > 1 := fun z => e (decide_eq_true z)
          refine ⟨_, _, rfl, s4, ?_⟩
          unfold popT
          simp only [e1, if_false]
          exact .tup h4 (sDs s4 hx2)
    obtain ⟨z5, y5, rfl, s4, hz5⟩ := hM
    have hz3'' := sD s4 hz3'
    refine ⟨_, rfl, _, _, rfl, rfl, _, rfl, ite2 (fun e => ?_) (fun e => ?_)⟩
    · have e1 : q.2.1 < 0 := of_decide_eq_true e
      refine ⟨_, rfl, _, rfl, _, rfl, _, _, rfl, rfl, _, rfl, _, rfl, _, rfl, by simp, fun p5 H5 _ s5 g5 => ?_⟩
      refine k H5 _ (sTr (sTr (sTr s12 s3) s4) s5) ?_
      unfold movedR
      unfold frontR at hfr
      unfold behindR at hz3''
      rw [if_pos e1] at hfr hz3'' ⊢
      rw [hfr]
      exact tape_mk g5 (sD s5 hz5) (sD s5 hz3'')
    · have e1 : ¬ q.2.1 < 0 := fun z => e (decide_eq_true z)
      refine ⟨_, rfl, _, rfl, _, rfl, _, _, rfl, rfl, _, rfl, _, rfl, _, rfl, by simp, fun p5 H5 _ s5 g5 => ?_⟩
      refine k H5 _ (sTr (sTr (sTr s12 s3) s4) s5) ?_
      unfold movedR
      unfold frontR at hfr
      unfold behindR at hz3''
      rw [if_neg e1] at hfr hz3'' ⊢
      rw [hfr]
      exact tape_mk g5 (sD s5 hz3'') (sD s5 hz5)
end
end K19

/-! ## K19E -/
namespace K19
open PySem PySem.Spec PyProof.Rows L2
section
variable {P : Program} {w : World} {K : PySem.W.Frag} {mg : Str → Option Value} {base : Heap} {kS kC kR : Tok} {aB : Addr}
/-! ### leap -/
def leapR (m : Mach) (T : Tp) : Tp := if slidR m T = 0 then T else movedR T (ruleAt m T.st T.sy) (slidR m T)
def spLeap (K : PySem.W.Frag) : Sp := fun vs H Q _ => ∃ (vm vt : V) (m : Mach) (n : Nat) (T : Tp) (c : Cf) (N b : Int), vs = [vm, vt] ∧ TD K H vm (eMach m) ∧ MOk m n ∧ TD K H vt (eTape T) ∧ Abs T c ∧ CfOk m n N c ∧ Bd b T ∧ b ≤ 500 ∧ T.st ≠ -1 ∧
  ∀ H' v', Same H H' → TD K H' v' (.tuple [eTape (leapR m T), .int (slidR m T)]) → Q v' H'
theorem ok_leap {f : Addr} {fd : FuncData} {k : Nat} (F : Fun K "leap" "leap" s_leap f fd) (T : Txt mg kS kC kR aB) (C_slid : Cal P w K mg base k "slid" ["machine", "tape"] (spSlid K))
    (C_moved : Cal P w K mg base k "moved" ["tape", "rule", "count"] (spMoved K)) (C_whole : Cal P w K mg base k "whole" ["tape"] (spWhole K)) : FnOk P w K mg base CX0 (k + 1) f fd ["machine", "tape"] (spLeap K) := by
  refine F.ok sc_leap (fun vs H Q E h => ?_) (fun cdv A outer s H vs Q E hr h => ?_)
  · obtain ⟨vm, vt, m, n, U, c, N, b, rfl, _⟩ := h
    rfl
  · obtain ⟨vm, vt, m, n, U, c, N, b, rfl, hm, mok, ht, ab, cok, bd, hb, hst, k⟩ := h
    refine ⟨_, (pss_cons (ps_if (pt_cmpR op_eq (pe_ix ix_tup (pv 1) pe_int (fun _ _ => rfl)) (pe_glob (v := .int (-1)) (by rfl) T.gSTOP ⟨_, rfl⟩) (nomark _))
      (pss_one ps_never)
      pss_nil)
    (pss_cons (ps_set (i := 2) sc_leap.nd rfl (.inl rfl) (pe_cal C_slid hr (by rfl) (pa_cons (pv 0) (pa_cons (pv 1) pa_nil))))
    (pss_cons (ps_if (pt_cmpR op_eq (pv 2) pe_int (nomark _))
      (pss_one (ps_ret (pe_tupB (pa_cons (pv 1) (pa_cons pe_int pa_nil)))))
      pss_nil)
    (pss_one (ps_ret (pe_tupB (pa_cons (pe_cal C_whole hr (by rfl) (pa_cons (pe_cal C_moved hr (by rfl) (pa_cons (pv 1) (pa_cons (pe_ix ix_tup (pe_ix ix_tup (pv 0) (pe_ix ix_tup (pv 1) pe_int (fun _ _ => rfl)) (fun _ _ => rfl)) (pe_ix ix_tup (pv 1) pe_int (fun _ _ => rfl)) (fun _ _ => rfl)) (pa_cons (pv 2) pa_nil)))) pa_nil)) (pa_cons (pv 2) pa_nil)))))))), ?_⟩
    obtain ⟨a, l, r, rfl, ha, hl, hr'⟩ := tapeE ht
    have st0 := cok.st0
    have st1 := cok.st1
    have sy0 := cok.sy0 c.pl
    have sy1 := cok.sy1 c.pl
    rw [← ab.st] at st0 st1
    rw [← ab.sy] at sy0 sy1
    have t0 : 0 ≤ U.st := by omega
    obtain ⟨am, xs, bm, ys, cm, rfl, h1, e1, h2, e2, hrule, h3⟩ := machE mok hm t0 st1 sy0 sy1
    refine ⟨_, rfl, a, _, 0, _, rfl, rfl, ha, atI_nat (j := 0) rfl, rfl, _, rfl, ite2 (fun e => ?_) (fun _ => ?_)⟩
    · exact absurd (V.int.inj (of_decide_eq_true e)) hst
    refine ⟨_, rfl, _, rfl, _, _, m, n, U, rfl, hm, mok, ht, ⟨t0, st1⟩, ⟨sy0, sy1⟩, fun H1 s1 => ?_⟩
    refine ⟨_, rfl, rfl, _, rfl, ite2 (fun e => ?_) (fun e => ?_)⟩
    · have e5 : slidR m U = 0 := V.int.inj (of_decide_eq_true e)
      refine ⟨_, rfl, by simp, fun p2 H2 _ s2 g2 => k H2 _ (sTr s1 s2) ?_⟩
      unfold leapR
      rw [if_pos e5, e5]
      exact .tup (.of g2) (.cons (sD (sTr s1 s2) ht) (.cons (.int _) .nil))
    · have e5 : slidR m U ≠ 0 := fun z => e (by rw [z]; rfl)
      obtain ⟨r', q, _, _, e6, _, q2, _⟩ := mok.at_ (s := c.st) (x := c.f c.pl) (by rw [← ab.st]; exact t0) cok.st1 (cok.sy0 _) (cok.sy1 _)
      obtain ⟨k1, ab2⟩ := moved_abs (m := m) ab (by rw [e6]; exact q2) (by rw [← ab.st]; exact hst) e5
      have bd2 := moved_bd (n := b) (by omega) ab bd k1
      have ha1 := sT s1 ha
      refine ⟨_, rfl, _, rfl, _, rfl, a, _, 0, _, rfl, rfl, ha1, atI_nat (j := 0) rfl, am, xs, _, _, rfl, rfl, sT s1 h1, e1, _, rfl, a, _, 2, _, rfl, rfl, ha1, atI_nat (j := 2) rfl, bm, ys, _, _, rfl, rfl, sT s1 h2, e2, _, rfl, ?_⟩
      have g1 := bd.lf
      have g2 := bd.rt
      refine ⟨_, _, U, _, _, rfl, sD s1 ht, sD s1 hrule, ⟨by omega, by omega⟩, fun H2 v2 s2 hv2 => ?_⟩
      have b1 := bd2.lf
      have b2 := bd2.rt
      have b3 := bd2.sm
      have b4 := bd2.p0
      have b5 := bd2.p1
      refine ⟨v2, _, rfl, hv2, ⟨by omega, by omega⟩, ⟨by omega, by omega⟩, fun p hp => ?_, fun H3 s3 => ?_⟩
      · have n1 := ab2.nl.sum0
        have n2 := ab2.nr.sum0
        rcases List.mem_append.mp hp with z | z
        · have := (ab2.nl.1.le p z).2
          omega
        · have := (ab2.nr.1.le p z).2
          omega
      · refine ⟨_, rfl, by simp, fun p4 H4 _ s4 g4 => k H4 _ (sTr (sTr (sTr s1 s2) s3) s4) ?_⟩
        unfold leapR
        rw [if_neg e5]
        exact .tup (.of g4) (.cons (sD (sTr s3 s4) hv2) (.cons (.int _) .nil))
/-! ### leaps -/
def spLeaps (K : PySem.W.Frag) : Sp := fun vs H Q _ => ∃ (vm vt : V) (m : Mach) (n j : Nat) (T : Tp) (c : Cf) (N b : Int), vs = [vm, vt, .int j] ∧ TD K H vm (eMach m) ∧ MOk m n ∧ TD K H vt (eTape T) ∧ Abs T c ∧ CfOk m n N c ∧ Bd b T ∧ b + j ≤ 500 ∧
  ∀ H' v' d s e U, Same H H' → LeapsTo m j T d s e U → TD K H' v' (.tuple [eTape U, .int (d : Nat), .int s, .bool e]) → Q v' H'
theorem ok_leaps {f : Addr} {fd : FuncData} {k : Nat} (F : Fun K "leaps" "leaps" s_leaps f fd) (T : Txt mg kS kC kR aB) (C_leap : Cal P w K mg base k "leap" ["machine", "tape"] (spLeap K)) : FnOk P w K mg base CX0 (k + 1) f fd ["machine", "tape", "count"] (spLeaps K) := by
  refine F.ok sc_leaps (fun vs H Q E h => ?_) (fun cdv A outer s H vs Q E hr h => ?_)
  · obtain ⟨vm, vt, m, n, j, U, c, N, b, rfl, _⟩ := h
    rfl
  · obtain ⟨vm, vt, m, n, j, T0, c0, N, b, rfl, hm, mok, ht, ab, cok, bd, hb, k⟩ := h
    refine ⟨_, (pss_cons (ps_set (i := 3) sc_leaps.nd rfl (.inl rfl) pe_int)
    (pss_cons (ps_set (i := 4) sc_leaps.nd rfl (.inl rfl) pe_int)
    (pss_cons (ps_while PassesOwn.never (PW.pt (pw_and (pt_cmpR op_lt (pv 3) (pv 2) (nomark _)) (pw_and1 (pt_cmpR op_ne (pe_ix ix_tup (pv 1) pe_int (fun _ _ => rfl)) (pe_glob (v := .int (-1)) (by rfl) T.gSTOP ⟨_, rfl⟩) (nomark _)))))
      (pss_cons (ps_asg (pe_cal C_leap hr (by rfl) (pa_cons (pv 0) (pa_cons (pv 1) pa_nil))) (pg_tup rfl (pgs_cons (pg_name (i := 1) sc_leaps.nd rfl (.inl rfl)) (pgs_cons (pg_name (i := 5) sc_leaps.nd rfl (.inl rfl)) pgs_nil))))
      (pss_cons (ps_if (pt_cmpR op_eq (pv 5) pe_int (nomark _))
        (pss_one (ps_ret (pe_tupB (pa_cons (pv 1) (pa_cons (pv 3) (pa_cons (pv 4) (pa_cons pe_bl pa_nil)))))))
        pss_nil)
      (pss_cons (ps_aug (i := 3) sc_leaps.nd rfl (.inl rfl) pe_int ip_add)
      (pss_one (ps_aug (i := 4) sc_leaps.nd rfl (.inl rfl) (pv 5) ip_add))))))
    (pss_one (ps_ret (pe_tupB (pa_cons (pv 1) (pa_cons (pv 3) (pa_cons (pv 4) (pa_cons pe_bl pa_nil)))))))))), ?_⟩
    refine ⟨fun mu σ' H' => ∃ (d : Nat) (s : Int) (U : Tp) (v : V) (y : Option V), σ' = [some vm, some v, some (.int j), some (.int d), some (.int s), y] ∧ Same H H' ∧ Chain m T0 d s U ∧ TD K H' v (eTape U) ∧ d ≤ j ∧ mu = j - d,
      ⟨j, 0, 0, T0, vt, none, rfl, Same.refl H, .nil T0, ht, Nat.zero_le _, rfl⟩, ?_⟩
    rintro mu σ' H1 ⟨d, s, U, v, y, rfl, s1, ch, hv, hd, rfl⟩
    obtain ⟨s0, c, ab1, cok1, bd1⟩ := ch.keep mok ab cok bd (by omega)
    have hv0 := hv
    obtain ⟨a, l, r, rfl, ha, _, _⟩ := tapeE hv
    refine ⟨_, rfl, _, rfl, _, _, rfl, rfl, _, rfl, ite2 (fun e => ?_) (fun e => ?_)⟩
    · have e1 : d < j := by
        have := of_decide_eq_true e
        omega
      refine ⟨_, rfl, a, _, 0, _, rfl, rfl, ha, atI_nat (j := 0) rfl, rfl, _, rfl, ite2 (fun e => ?_) (fun e => ?_)⟩
      · have e2 : U.st ≠ -1 := fun z => by
          rw [z] at e
          simp at e
        refine ⟨fun σ' H' => ∃ (d' : Nat) (s : Int) (U : Tp) (v : V) (y : Option V), σ' = [some vm, some v, some (.int j), some (.int d'), some (.int s), y] ∧ Same H H' ∧ Chain m T0 d' s U ∧ TD K H' v (eTape U) ∧ d' ≤ j ∧ j - d' < j - d,
          fun σ' H' ⟨d', s', U', v', y', h1, h2, h3, h4, h5, h6⟩ => ⟨_, h6, d', s', U', v', y', h1, h2, h3, h4, h5, rfl⟩, ?_⟩
        refine ⟨_, rfl, _, rfl, _, _, m, n, U, c, _, _, rfl, sD s1 hm, mok, hv0, ab1, cok1, bd1, by omega, e2, fun H2 v2 s2 hv2 => ?_⟩
        obtain ⟨a2, xs, rfl, ha2, hx⟩ := hv2.tupE
        obtain ⟨v3, _, rfl, hv3, hx⟩ := hx.consE
        obtain ⟨v4, _, rfl, hv4, hx⟩ := hx.consE
        obtain rfl := hx.nilE
        obtain rfl := hv4.intE
        refine ⟨a2, _, rfl, ha2, rfl, _, _, rfl, _, _, rfl, rfl, ?_⟩
        refine ⟨_, rfl, rfl, _, rfl, ite2 (fun e => ?_) (fun e => ?_)⟩
        · have e5 : slidR m U = 0 := V.int.inj (of_decide_eq_true e)
          have e6 : leapR m U = U := by unfold leapR; rw [if_pos e5]
          rw [e6] at hv3
          refine ⟨_, rfl, _, rfl, _, rfl, by simp, fun p4 H4 _ s4 g4 => k H4 _ d s true U (sTr (sTr s1 s2) s4) ⟨ch, hd, .inr ⟨rfl, e1, e2, e5⟩⟩ ?_⟩
          exact .tup (.of g4) (.cons (sD s4 hv3) (.cons (.int _) (.cons (.int _) (.cons (.bl _) .nil))))
        · have e5 : slidR m U ≠ 0 := fun z => e (by rw [z]; rfl)
          have e6 : leapR m U = movedR U (ruleAt m U.st U.sy) (slidR m U) := by unfold leapR; rw [if_neg e5]
          rw [e6] at hv3
          refine ⟨_, rfl, _, _, rfl, rfl, _, rfl, _, rfl, _, _, rfl, rfl, d + 1, s + slidR m U, _, v3, _, rfl, sTr s1 s2, .snoc ch e2 e5, hv3, by omega, by omega⟩
      · have e2 : U.st = -1 := Classical.byContradiction fun z => e (by simp [z])
        refine ⟨_, rfl, _, rfl, _, rfl, by simp, fun p4 H4 _ s4 g4 => k H4 _ d s false U (sTr s1 s4) ⟨ch, hd, .inl ⟨rfl, .inr e2⟩⟩ ?_⟩
        exact .tup (.of g4) (.cons (sD s4 hv0) (.cons (.int _) (.cons (.int _) (.cons (.bl _) .nil))))
    · have e1 : d = j := by
        have : ¬ ((d : Int) < (j : Int)) := fun z => e (decide_eq_true z)
        omega
      refine ⟨_, rfl, _, rfl, _, rfl, by simp, fun p4 H4 _ s4 g4 => k H4 _ d s false U (sTr s1 s4) ⟨ch, hd, .inl ⟨rfl, .inl e1⟩⟩ ?_⟩
      exact .tup (.of g4) (.cons (sD s4 hv0) (.cons (.int _) (.cons (.int _) (.cons (.bl _) .nil))))
end
end K19

/-! ## K19F -/
namespace K19
open PySem PySem.Spec PyProof.Rows L2
section
variable {P : Program} {w : World} {K : PySem.W.Frag} {mg : Str → Option Value} {base : Heap} {kS kC kR : Tok} {aB : Addr}
/-! ### the stream of draws -/
theorem nzA : (65521 : Int) ≠ 0 := by decide
theorem nzB : (2147483647 : Int) ≠ 0 := by decide
def Stm (H : Hp) (s l : Addr) : Prop := ∃ (ns : List Int) (a b c : Int), H s = some (.lst [.ref l, .int a, .int b, .int c]) ∧ H l = some (.lst (ns.map V.int)) ∧ ns.length ≤ 63 ∧ 0 ≤ a ∧ 0 ≤ b ∧ l ≠ s
theorem Stm.same {H H' : Hp} {s l : Addr} (h : Stm H s l) (e : Same H H') : Stm H' s l := by
  obtain ⟨ns, a, b, c, h1, h2, h3⟩ := h
  exact ⟨ns, a, b, c, e _ _ h1, e _ _ h2, h3⟩
theorem Stm.kt {H H' : Hp} {s l : Addr} (h : Stm H s l) (e : But s H H') : KT K H H' := by
  obtain ⟨ns, a, b, c, h1, h2, h3⟩ := h
  exact But.ktL e h1
theorem Stm.ne {H : Hp} {s l p : Addr} {o : HO} (h : Stm H s l) (hp : H p = some o) (h1 : ∀ xs, o ≠ .lst xs) : p ≠ s := by
  obtain ⟨ns, a, b, c, e1, _⟩ := h
  exact ne_of hp e1 (h1 _)
theorem Stm.new {H : Hp} {s l R : Addr} (h : Stm H s l) (n : H R = none) : R ≠ s ∧ R ≠ l := by
  obtain ⟨ns, a, b, c, h1, h2, _⟩ := h
  exact ⟨(ne_of_none h1 n).symm, (ne_of_none h2 n).symm⟩
theorem Stm.put {H : Hp} {s l R : Addr} {o : HO} (h : Stm H s l) (n : R ≠ s ∧ R ≠ l) : Stm (upd H R o) s l := by
  obtain ⟨ns, a, b, c, h1, h2, h3⟩ := h
  exact ⟨ns, a, b, c, by rw [upd_ne n.1.symm]; exact h1, by rw [upd_ne n.2.symm]; exact h2, h3⟩
def spStream (K : PySem.W.Frag) : Sp := fun vs H Q _ => ∃ (a : Addr) (ns : List Int), vs = [.ref a] ∧ SqL K H a (ns.map V.int) ∧ ns.length ≤ 63 ∧ ∀ H' s l, Same H H' → H s = none → Stm H' s l → Q (.ref s) H'
theorem ok_law_stream {f : Addr} {fd : FuncData} {k : Nat} (F : Fun K "_law_stream" "_law_stream" s_law_stream f fd) (T : Txt mg kS kC kR aB) : FnOk P w K mg base CX0 (k + 1) f fd ["_law_script"] (spStream K) := by
  refine F.ok sc_law_stream (fun vs H Q E h => ?_) (fun cdv A outer s H vs Q E hr h => ?_)
  · obtain ⟨a, ns, rfl, _⟩ := h
    rfl
  · obtain ⟨a, ns, rfl, hs, hl, k⟩ := h
    refine ⟨_, (pss_cons (ps_set (i := 1) sc_law_stream.nd rfl (.inl rfl) pe_int)
    (pss_cons (ps_for PassesOwn.never rfl (pi_list (pv 0)) (pg_name (i := 2) sc_law_stream.nd rfl (.inl rfl))
      (pss_one (ps_set (i := 1) sc_law_stream.nd rfl (.inl rfl) (pe_op op_modN (pe_callTy call_int1 (by rfl) T.int (by decide +kernel) (pa_cons (pe_op op_add (pe_op op_add (pe_op op_mul (pv 1) pe_int) (pe_op op_modN (pe_callTy call_int1 (by rfl) T.int (by decide +kernel) (pa_cons (pv 2) pa_nil)) pe_int)) pe_int) pa_nil)) pe_int))))
    (pss_one (ps_ret (pe_lstB (pa_cons (pe_callTy call_lstB (by rfl) T.list (by decide +kernel) (pa_cons (pv 0) pa_nil)) (pa_cons pe_int (pa_cons pe_int (pa_cons (pv 1) pa_nil))))))))), ?_⟩
    refine ⟨_, rfl, a, rfl, ⟨_, hs⟩, for_list (K := K) (a := a) (xs := ns.map V.int) (fun i σ H2 => ∃ (z : Int) (v : Option V), σ = [some (.ref a), some (.int z), v] ∧ H2 = H) ⟨17, none, rfl, rfl⟩ (fun i σ H2 _ ⟨_, _, _, e⟩ => by rw [e]; exact hs) ?_ ?_⟩
    · rintro i y σ H2 hi ⟨z, v, rfl, rfl⟩
      obtain ⟨n, rfl⟩ : ∃ n, y = V.int n := by
        rw [List.getElem?_map] at hi
        cases e : ns[i]? with
        | none => rw [e] at hi; cases hi
        | some n => rw [e] at hi; exact ⟨n, (Option.some.inj hi).symm⟩
      refine ⟨_, rfl, _, _, rfl, rfl, .inr ⟨by decide, by decide⟩, _, rfl, .inl ⟨_, rfl, _, _, rfl, rfl, nzA, _, _, rfl, rfl, _, _, rfl, rfl, .inl ⟨_, rfl, _, _, rfl, rfl, nzB, _, _, rfl, rfl⟩⟩⟩
    · rintro σ H2 ⟨z, v, rfl, rfl⟩
      refine ⟨_, rfl, a, _, rfl, hs, fun l H1 nl s1 g1 => ⟨_, rfl, by simp, fun s H3 ns3 s3 g3 => ?_⟩⟩
      have hne : l ≠ s := ne_of_none g1 ns3
      refine k H3 s l (sTr s1 s3) (Same.free s1 ns3) ⟨ns, 0, 0, z, g3, s3 _ _ g1, hl, Int.le_refl _, Int.le_refl _, hne⟩
/-! ### a draw -/
def spDraw : Sp := fun vs H Q _ => ∃ (s l : Addr) (m : Int), vs = [.ref s, .int m] ∧ Stm H s l ∧ 0 < m ∧ m < 1000000 ∧ ∀ H' r, But s H H' → Stm H' s l → 0 ≤ r → r < m → Q (.int r) H'
theorem ok_law_draw {f : Addr} {fd : FuncData} {k : Nat} (F : Fun K "_law_draw" "_law_draw" s_law_draw f fd) (T : Txt mg kS kC kR aB) : FnOk P w K mg base CX0 (k + 1) f fd ["_law_stream_here", "_law_many"] spDraw := by
  refine F.ok sc_law_draw (fun vs H Q E h => ?_) (fun cdv A outer s H vs Q E hr h => ?_)
  · obtain ⟨s, l, m, rfl, _⟩ := h
    rfl
  · obtain ⟨s, l, m, rfl, st, m0, m1, k⟩ := h
    refine ⟨_, (Evl.pss_cut (ps_if (PW.pt (pw_and (pt_cmpR op_eq (pe_ix ix_list (pv 0) pe_int (fun _ _ => rfl)) pe_int (nomark _)) (pw_and1 (pt_cmpR op_lt (pe_ix ix_list (pv 0) pe_int (fun _ _ => rfl)) (pe_callB call_len_seq (by rfl) T.len PySem.boot_len (pa_cons (pe_ix ix_list (pv 0) pe_int (fun _ _ => rfl)) pa_nil)) (nomark _)))))
      (pss_cons (ps_asg (pe_callB call_abs (by rfl) T.abs (by decide +kernel) (pa_cons (pe_callTy call_int1 (by rfl) T.int (by decide +kernel) (pa_cons (pe_ix ix_list (pe_ix ix_list (pv 0) pe_int (fun _ _ => rfl)) (pe_ix ix_list (pv 0) pe_int (fun _ _ => rfl)) (fun _ _ => rfl)) pa_nil)) pa_nil)) (pg_sub (pv 0) pe_int set_list))
      (pss_one (ps_asg (pe_op op_add (pe_ix ix_list (pv 0) pe_int (fun _ _ => rfl)) pe_int) (pg_sub (pv 0) pe_int set_list))))
      pss_nil)
    (pss_cons (ps_if (pt_cmpR op_eq (pe_ix ix_list (pv 0) pe_int (fun _ _ => rfl)) pe_int (nomark _))
      (pss_cons (ps_asg (pe_op op_modN (pe_callTy call_int1 (by rfl) T.int (by decide +kernel) (pa_cons (pe_op op_add (pe_op op_mul (pe_ix ix_list (pv 0) pe_int (fun _ _ => rfl)) pe_int) pe_int) pa_nil)) pe_int) (pg_sub (pv 0) pe_int set_list))
      (pss_one (ps_ret (pe_op op_modN (pe_callTy call_int1 (by rfl) T.int (by decide +kernel) (pa_cons (pe_op op_fdivN (pe_ix ix_list (pv 0) pe_int (fun _ _ => rfl)) pe_int) pa_nil)) (pv 1)))))
      pss_nil)
    (pss_cons (ps_set (i := 2) sc_law_draw.nd rfl (.inl rfl) (pe_op op_modN (pe_callTy call_int1 (by rfl) T.int (by decide +kernel) (pa_cons (pe_ix ix_list (pv 0) pe_int (fun _ _ => rfl)) pa_nil)) (pv 1)))
    (pss_cons (ps_asg (pe_op op_fdivN (pe_ix ix_list (pv 0) pe_int (fun _ _ => rfl)) (pv 1)) (pg_sub (pv 0) pe_int set_list))
    (pss_one (ps_ret (pv 2))))))), ?_⟩
    refine ⟨fun σ' H' => σ' = [some (.ref s), some (.int m), none] ∧ But s H H' ∧ Stm H' s l, ?_, fun σ' H' hM => ?_⟩
    · obtain ⟨ns, a, b, c, h1, h2, h3, a0, b0, hne⟩ := id st
      have hs := SqL.of (K := K) h1
      refine ⟨_, rfl, s, _, 1, _, rfl, rfl, hs, atI_nat (j := 1) rfl, rfl, _, rfl, ite2 (fun e => ?_) (fun e => ?_)⟩
      · refine ⟨_, rfl, s, _, 2, _, rfl, rfl, hs, atI_nat (j := 2) rfl, _, rfl, s, _, 0, _, rfl, rfl, hs, atI_nat (j := 0) rfl, l, _, rfl, .inl (.of h2), _, _, rfl, rfl, _, rfl, ite2 (fun e => ?_) (fun e => ?_)⟩
        · have e1 : b < (ns.map V.int).length := of_decide_eq_true e
          rw [List.length_map] at e1
          have hb : b.toNat < ns.length := by omega
          have hat : atI (ns.map V.int) b = some (.int ns[b.toNat]) := at_of (j := b.toNat) (by omega) (by rw [List.getElem?_map, List.getElem?_eq_getElem hb]; rfl)
          refine ⟨_, rfl, s, _, 0, _, rfl, rfl, hs, atI_nat (j := 0) rfl, _, rfl, s, _, 2, _, rfl, rfl, hs, atI_nat (j := 2) rfl, l, _, b, _, rfl, rfl, .of h2, hat, .inl ⟨_, rfl, _, rfl, _, rfl, s, _, 1, 1, rfl, rfl, h1, rfl, ?_⟩⟩
          have g1 : upd H s (.lst [.ref l, .int (if ns[b.toNat] < 0 then -ns[b.toNat] else ns[b.toNat]), .int b, .int c]) s = _ := upd_same
          refine ⟨_, rfl, s, _, 2, _, rfl, rfl, .of g1, atI_nat (j := 2) rfl, _, _, rfl, rfl, _, rfl, s, _, 2, 2, rfl, rfl, g1, rfl, rfl, ?_, ?_⟩
          · rw [upd_upd]
            exact But.put
          · rw [upd_upd]
            refine ⟨ns, _, b + 1, c, upd_same, ?_, h3, ?_, by omega, hne⟩
            · rw [upd_ne hne]
              exact h2
            · split <;> omega
        · exact ⟨rfl, But.refl, st⟩
      · exact ⟨rfl, But.refl, st⟩
    obtain ⟨rfl, bt, ns, a, b, c, h1, h2, h3, a0, b0, hne⟩ := hM
    have hs := SqL.of (K := K) h1
    have nz : m ≠ 0 := by omega
    refine ⟨_, rfl, s, _, 1, _, rfl, rfl, hs, atI_nat (j := 1) rfl, rfl, _, rfl, ite2 (fun e => ?_) (fun e => ?_)⟩
    · refine ⟨_, rfl, s, _, 3, _, rfl, rfl, hs, atI_nat (j := 3) rfl, _, _, rfl, rfl, .inr ⟨by decide, by decide⟩, _, _, rfl, rfl, .inl ⟨_, rfl, _, _, rfl, rfl, nzB, _, rfl, s, _, 3, 3, rfl, rfl, h1, rfl, ?_⟩⟩
      have g1 : upd H' s (.lst [.ref l, .int a, .int b, .int ((c * 48271 + 11).fmod 2147483647)]) s = _ := upd_same
      refine ⟨_, rfl, s, _, 3, _, rfl, rfl, .of g1, atI_nat (j := 3) rfl, _, _, rfl, rfl, ⟨by decide, by decide⟩, .inl ⟨_, rfl, _, rfl, _, _, rfl, rfl, nz, ?_⟩⟩
      refine k _ _ (But.trans bt But.put) ⟨ns, a, b, _, g1, ?_, h3, a0, b0, hne⟩ (Int.fmod_nonneg_of_pos _ m0) (Int.fmod_lt_of_pos _ m0)
      rw [upd_ne hne]
      exact h2
    · refine ⟨_, rfl, s, _, 1, _, rfl, rfl, hs, atI_nat (j := 1) rfl, .inl ⟨_, rfl, _, rfl, _, _, rfl, rfl, nz, ?_⟩⟩
      refine ⟨_, rfl, s, _, 1, _, rfl, rfl, hs, atI_nat (j := 1) rfl, _, rfl, _, _, rfl, rfl, ⟨nz, by omega⟩, _, rfl, s, _, 1, 1, rfl, rfl, h1, rfl, ?_⟩
      refine ⟨_, rfl, ?_⟩
      refine k _ _ (But.trans bt But.put) ⟨ns, _, b, c, upd_same, ?_, h3, ?_, b0, hne⟩ (Int.fmod_nonneg_of_pos _ m0) (Int.fmod_lt_of_pos _ m0)
      · rw [upd_ne hne]
        exact h2
      · rw [Int.fdiv_eq_ediv_of_nonneg _ (by omega)]
        exact Int.ediv_nonneg a0 (by omega)
end
end K19

/-! ## K19G -/
namespace K19
open PySem PySem.Spec PyProof.Rows L2
section
variable {P : Program} {w : World} {K : PySem.W.Frag} {mg : Str → Option Value} {base : Heap} {kS kC kR : Tok} {aB : Addr}
/-! ### lists of data -/
def LD (K : PySem.W.Frag) (H : Hp) (R : Addr) (ds : List PyData) : Prop := ∃ vs, H R = some (.lst vs) ∧ TDs K H vs ds
theorem LD.but {H H' : Hp} {s R : Addr} {ds : List PyData} (h : LD K H R ds) (e : But s H H') (kt : KT K H H') (n : R ≠ s) : LD K H' R ds := by
  obtain ⟨vs, h1, h2⟩ := h
  exact ⟨vs, e _ _ h1 n, TDs.keep kt _ h2⟩
theorem LD.same {H H' : Hp} {R : Addr} {ds : List PyData} (h : LD K H R ds) (e : Same H H') : LD K H' R ds := by
  obtain ⟨vs, h1, h2⟩ := h
  exact ⟨vs, e _ _ h1, sDs e h2⟩
theorem LD.app {H : Hp} {R : Addr} {ds : List PyData} {vs : List V} {v : V} {d : PyData} (h1 : H R = some (.lst vs)) (h2 : TDs K H vs ds) (h3 : TD K H v d) : LD K (upd H R (.lst (vs ++ [v]))) R (ds ++ [d]) := by
  have kt : KT K H (upd H R (.lst (vs ++ [v]))) := But.ktL But.put h1
  exact ⟨_, upd_same, TDs.app (TDs.keep kt _ h2) (.cons (TD.keep kt _ h3) .nil)⟩
theorem But.updN {H H' : Hp} {s R : Addr} {o : HO} (e : But s H H') (n : H R = none) : But s H (upd H' R o) := fun b x h hb => by
  rw [upd_ne (ne_of_none h n)]
  exact e b x h hb
/-- a rule of a machine of n states and k symbols -/
def RuleOk (n k : Int) (q : Int × Int × Int) : Prop := (0 ≤ q.1 ∧ q.1 < k) ∧ (q.2.1 = 1 ∨ q.2.1 = -1) ∧ (-1 ≤ q.2.2 ∧ q.2.2 < n)
/-- the heap within the loops that build a machine -/
structure MI (K : PySem.W.Frag) (H : Hp) (s l R : Addr) (rows : Mach) (H' : Hp) : Prop where
  bt : But s H H'
  st : Stm H' s l
  ld : LD K H' R (rows.map eRow)
theorem MI.but {H H' H'' : Hp} {s l R : Addr} {rows : Mach} (h : MI K H s l R rows H') (e : But s H' H'') (st : Stm H'' s l) (n : R ≠ s) : MI K H s l R rows H'' := ⟨h.bt.trans e, st, h.ld.but e (h.st.kt e) n⟩
theorem MI.same {H H' H'' : Hp} {s l R : Addr} {rows : Mach} (h : MI K H s l R rows H') (e : Same H' H'') : MI K H s l R rows H'' := ⟨h.bt.trans (Same.but e), h.st.same e, h.ld.same e⟩
/-- .. and a row -/
structure MR (K : PySem.W.Frag) (H : Hp) (s l R W : Addr) (rows : Mach) (rules : List (Int × Int × Int)) (H' : Hp) : Prop where
  mi : MI K H s l R rows H'
  lw : LD K H' W (rules.map eRule)
theorem MR.but {H H' H'' : Hp} {s l R W : Addr} {rows : Mach} {rules : List (Int × Int × Int)} (h : MR K H s l R W rows rules H') (e : But s H' H'') (st : Stm H'' s l) (n : R ≠ s) (n2 : W ≠ s) : MR K H s l R W rows rules H'' := ⟨h.mi.but e st n, h.lw.but e (h.mi.st.kt e) n2⟩
theorem MR.same {H H' H'' : Hp} {s l R W : Addr} {rows : Mach} {rules : List (Int × Int × Int)} (h : MR K H s l R W rows rules H') (e : Same H' H'') : MR K H s l R W rows rules H'' := ⟨h.mi.same e, h.lw.same e⟩
/-- a rule is appended to the row -/
theorem MR.app {H H' : Hp} {s l R W : Addr} {rows : Mach} {rules : List (Int × Int × Int)} (h : MR K H s l R W rows rules H') (nW : H W = none) (n2 : W ≠ s ∧ W ≠ l) (n3 : R ≠ W) {ws : List V} {v : V} {q : Int × Int × Int} (h1 : H' W = some (.lst ws)) (h2 : TDs K H' ws (rules.map eRule)) (h3 : TD K H' v (eRule q)) :
    MR K H s l R W rows (rules ++ [q]) (upd H' W (.lst (ws ++ [v]))) := by
  refine ⟨⟨h.mi.bt.updN nW, h.mi.st.put n2, h.mi.ld.but But.put (But.ktL But.put h1) n3⟩, ?_⟩
  rw [List.map_append]
  exact LD.app h1 h2 h3
/-- a row is appended -/
theorem MI.app {H H' : Hp} {s l R : Addr} {rows : Mach} (h : MI K H s l R rows H') (nR : H R = none) (n2 : R ≠ s ∧ R ≠ l) {ws : List V} {v : V} {r : List (Int × Int × Int)} (h1 : H' R = some (.lst ws)) (h2 : TDs K H' ws (rows.map eRow)) (h3 : TD K H' v (eRow r)) :
    MI K H s l R (rows ++ [r]) (upd H' R (.lst (ws ++ [v]))) := by
  refine ⟨h.bt.updN nR, h.st.put n2, ?_⟩
  rw [List.map_append]
  exact LD.app h1 h2 h3
theorem mok_of {rows : Mach} {n k : Nat} (h1 : 1 ≤ n) (h2 : n ≤ 4) (k1 : 2 ≤ k) (k2 : k ≤ 4) (hl : rows.length = n) (hr : ∀ r ∈ rows, r.length = k ∧ ∀ q ∈ r, RuleOk n k q) : MOk rows k :=
  ⟨by omega, by omega, k1, k2, fun r hm => (hr r hm).1, fun r hm q hq => by rw [hl]; exact (hr r hm).2 q hq⟩
/-! ### _law_machine -/
def spMachine (K : PySem.W.Frag) : Sp := fun vs H Q _ => ∃ (s l : Addr) (z : Int), vs = [.ref s, .int z] ∧ Stm H s l ∧ ∀ H' v m n, But s H H' → Stm H' s l → MOk m n → TD K H' v (eMach m) → Q v H'
theorem ok_law_machine {f : Addr} {fd : FuncData} {k : Nat} (F : Fun K "_law_machine" "_law_machine" s_law_machine f fd) (T : Txt mg kS kC kR aB) (C_law_draw : Cal P w K mg base k "_law_draw" ["_law_stream_here", "_law_many"] spDraw) :
    FnOk P w K mg base CX0 (k + 1) f fd ["_law_stream_here", "_law_stops"] (spMachine K) := by
  refine F.ok sc_law_machine (fun vs H Q E h => ?_) (fun cdv A outer s H vs Q E hr h => ?_)
  · obtain ⟨s, l, z, rfl, _⟩ := h
    rfl
  · obtain ⟨s, l, z, rfl, st, k⟩ := h
    refine ⟨_, (pss_cons (ps_set (i := 2) sc_law_machine.nd rfl (.inl rfl) (pe_op op_add pe_int (pe_cal C_law_draw hr (by rfl) (pa_cons (pv 0) (pa_cons pe_int pa_nil)))))
    (pss_cons (ps_set (i := 3) sc_law_machine.nd rfl (.inl rfl) (pe_op op_add pe_int (pe_cal C_law_draw hr (by rfl) (pa_cons (pv 0) (pa_cons pe_int pa_nil)))))
    (Evl.pss_cut (ps_if (pt_cmpR op_eq (pe_cal C_law_draw hr (by rfl) (pa_cons (pv 0) (pa_cons pe_int pa_nil))) pe_int (nomark _))
      (pss_one (ps_set (i := 3) sc_law_machine.nd rfl (.inl rfl) pe_int))
      pss_nil)
    (pss_cons (ps_set (i := 4) sc_law_machine.nd rfl (.inl rfl) (pe_lstB pa_nil))
    (pss_cons (ps_for PassesOwn.never rfl (pi_range1 (by rfl) T.range (pa_cons (pv 2) pa_nil)) (pg_name (i := 5) sc_law_machine.nd rfl (.inl rfl))
      (pss_cons (ps_set (i := 6) sc_law_machine.nd rfl (.inl rfl) (pe_lstB pa_nil))
      (pss_cons (ps_for PassesOwn.never rfl (pi_range1 (by rfl) T.range (pa_cons (pv 3) pa_nil)) (pg_name (i := 7) sc_law_machine.nd rfl (.inl rfl))
        (pss_cons (ps_set (i := 8) sc_law_machine.nd rfl (.inl rfl) (pe_cal C_law_draw hr (by rfl) (pa_cons (pv 0) (pa_cons (pv 2) pa_nil))))
        (Evl.pss_cut (ps_if (pt_cmpR op_lt (pe_cal C_law_draw hr (by rfl) (pa_cons (pv 0) (pa_cons pe_int pa_nil))) (pv 1) (nomark _))
          (pss_one (ps_set (i := 8) sc_law_machine.nd rfl (.inl rfl) (pe_un un_neg pe_int)))
          pss_nil)
        (pss_one (ps_expr (pe_bm PySem.F.plainAttrs_list PySem.F.slot_list_append PySem.F.type_list_append mt_append (pv 6) (pa_cons (pe_tupB (pa_cons (pe_cal C_law_draw hr (by rfl) (pa_cons (pv 0) (pa_cons (pv 3) pa_nil))) (pa_cons (pe_op op_sub (pe_op op_mul pe_int (pe_cal C_law_draw hr (by rfl) (pa_cons (pv 0) (pa_cons pe_int pa_nil)))) pe_int) (pa_cons (pv 8) pa_nil)))) pa_nil)))))))
      (pss_one (ps_expr (pe_bm PySem.F.plainAttrs_list PySem.F.slot_list_append PySem.F.type_list_append mt_append (pv 4) (pa_cons (pe_callTy call_tupB (by rfl) T.tuple (by decide +kernel) (pa_cons (pv 6) pa_nil)) pa_nil)))))))
    (pss_one (ps_ret (pe_callTy call_tupB (by rfl) T.tuple (by decide +kernel) (pa_cons (pv 4) pa_nil))))))))), ?_⟩
    refine ⟨_, rfl, s, l, 4, rfl, st, by decide, by decide, fun H1 r1 b1 st1 r10 r11 => ⟨_, _, rfl, rfl, ?_⟩⟩
    refine ⟨_, rfl, s, l, 3, rfl, st1, by decide, by decide, fun H2 r2 b2 st2 r20 r21 => ⟨_, _, rfl, rfl, ?_⟩⟩
    obtain ⟨n, hn⟩ : ∃ n : Nat, 1 + r1 = (n : Int) := ⟨(1 + r1).toNat, by omega⟩
    refine ⟨fun σ' H' => ∃ k : Nat, 2 ≤ k ∧ k ≤ 4 ∧ σ' = [some (.ref s), some (.int z), some (.int n), some (.int k), none, none, none, none, none] ∧ But s H H' ∧ Stm H' s l, ?_, fun σ' H' hM => ?_⟩
    · refine ⟨_, rfl, s, l, 2, rfl, st2, by decide, by decide, fun H3 r3 b3 st3 r30 r31 => ⟨rfl, _, rfl, ite2 (fun e => ?_) (fun e => ?_)⟩⟩
      · exact ⟨2, by omega, by omega, by rw [← hn]; rfl, (b1.trans b2).trans b3, st3⟩
      · obtain ⟨k', hk⟩ : ∃ k : Nat, 2 + r2 = (k : Int) := ⟨(2 + r2).toNat, by omega⟩
        exact ⟨k', by omega, by omega, by rw [← hn, ← hk]; rfl, (b1.trans b2).trans b3, st3⟩
    obtain ⟨kk, kk2, kk4, rfl, b3, st3⟩ := hM
    refine ⟨by simp, fun R H4 nR s4 gR => ?_⟩
    have nRH : H R = none := But.free b3 nR (st3.new nR).1
    have nes := st3.new nR
    have mi0 : MI K H s l R [] H4 := ⟨b3.trans (Same.but s4), st3.same s4, [], gR, .nil⟩
    refine ⟨_, rfl, _, rfl, by omega, by omega, for_range (lo := 0) (n := (n : Int).toNat) (fun i σ5 H5 => ∃ (rows : Mach) (y5 y6 y7 y8 : Option V), σ5 = [some (.ref s), some (.int z), some (.int n), some (.int kk), some (.ref R), y5, y6, y7, y8] ∧ MI K H s l R rows H5 ∧
      rows.length = i ∧ ∀ r ∈ rows, r.length = kk ∧ ∀ q ∈ r, RuleOk n kk q) ⟨[], none, none, none, none, rfl, mi0, rfl, fun _ h => by cases h⟩ ?_ ?_⟩
    · rintro i σ5 H5 hi ⟨rows, y5, y6, y7, y8, rfl, mi, hlen, hrows⟩
      refine ⟨by simp, fun W H6 nW s6 gW => ?_⟩
      have nWH : H W = none := But.free mi.bt nW (mi.st.new nW).1
      have neW := mi.st.new nW
      have neRW : R ≠ W := by
        obtain ⟨vs, h1, _⟩ := mi.ld
        exact ne_of_none h1 nW
      have mr0 : MR K H s l R W rows [] H6 := ⟨mi.same s6, [], gW, .nil⟩
      refine ⟨_, rfl, _, rfl, by omega, by omega, for_range (lo := 0) (n := (kk : Int).toNat) (fun j σ7 H7 => ∃ (rules : List (Int × Int × Int)) (y7 y8 : Option V), σ7 = [some (.ref s), some (.int z), some (.int n), some (.int kk), some (.ref R), some (.int (0 + (i : Nat))), some (.ref W), y7, y8] ∧
        MR K H s l R W rows rules H7 ∧ rules.length = j ∧ ∀ q ∈ rules, RuleOk n kk q) ⟨[], y7, y8, rfl, mr0, rfl, fun _ h => by cases h⟩ ?_ ?_⟩
      · rintro j σ7 H7 hj ⟨rules, y7, y8, rfl, mr, hlen2, hrules⟩
        refine ⟨_, rfl, _, rfl, s, l, n, rfl, mr.mi.st, by omega, by omega, fun H8 r8 b8 st8 r80 r81 => ?_⟩
        have mr8 := mr.but b8 st8 nes.1 neW.1
        refine ⟨fun σ' H' => ∃ a : Int, -1 ≤ a ∧ a < n ∧ σ' = [some (.ref s), some (.int z), some (.int n), some (.int kk), some (.ref R), some (.int (0 + (i : Nat))), some (.ref W), some (.int (0 + (j : Nat))), some (.int a)] ∧ MR K H s l R W rows rules H', ?_, fun σ' H' hM => ?_⟩
        · refine ⟨_, rfl, s, l, 12, rfl, st8, by decide, by decide, fun H9 r9 b9 st9 r90 r91 => ⟨_, rfl, _, _, rfl, rfl, _, rfl, ite2 (fun e => ?_) (fun e => ?_)⟩⟩
          · exact ⟨_, rfl, -1, by omega, by omega, rfl, mr8.but b9 st9 nes.1 neW.1⟩
          · exact ⟨r8, by omega, r81, rfl, mr8.but b9 st9 nes.1 neW.1⟩
        obtain ⟨af, af0, af1, rfl, mr9⟩ := hM
        obtain ⟨ws, hw1, hw2⟩ := mr9.lw
        refine ⟨_, rfl, .inl ⟨rfl, _, .of hw1⟩, _, rfl, _, rfl, s, l, kk, rfl, mr9.mi.st, by omega, by omega, fun H10 r10' b10 st10 r100 r101 => ?_⟩
        refine ⟨_, rfl, s, l, 2, rfl, st10, by decide, by decide, fun H11 r11' b11 st11 r110 r111 => ⟨_, _, rfl, rfl, .inl ⟨by decide, by decide⟩, _, _, rfl, rfl, _, rfl, by simp, fun p H12 np s12 g12 => ?_⟩⟩
        have mr12 := ((mr9.but b10 st10 nes.1 neW.1).but b11 st11 nes.1 neW.1).same s12
        obtain ⟨ws2, hx1, hx2⟩ := mr12.lw
        have hlw := hx2.len
        rw [List.length_map] at hlw
        refine ⟨W, ws2, _, rfl, rfl, hx1, sizeKlt (by omega), rules ++ [(r10', 2 * r11' - 1, af)], _, _, rfl, mr12.app nWH neW neRW hx1 hx2 (.tup (.of g12) (.cons (.int _) (.cons (.int _) (.cons (.int _) .nil)))), ?_, fun q hq => ?_⟩
        · rw [List.length_append, hlen2]; rfl
        · rcases List.mem_append.mp hq with h | h
          · exact hrules q h
          · obtain rfl := List.mem_singleton.mp h
            exact ⟨⟨r100, r101⟩, by show 2 * r11' - 1 = 1 ∨ 2 * r11' - 1 = -1; omega, af0, af1⟩
      · rintro σ7 H7 ⟨rules, y7, y8, rfl, mr, hlen2, hrules⟩
        obtain ⟨vs, hv1, hv2⟩ := mr.mi.ld
        obtain ⟨ws, hw1, hw2⟩ := mr.lw
        refine ⟨_, rfl, .inl ⟨rfl, _, .of hv1⟩, _, rfl, W, ws, rfl, .of hw1, fun p H8 np s8 g8 => ?_⟩
        have mr8 := mr.same s8
        have hlv := hv2.len
        rw [List.length_map] at hlv
        refine ⟨R, vs, _, rfl, rfl, s8 _ _ hv1, sizeKlt (by omega), rows ++ [rules], _, _, _, _, rfl, mr8.mi.app nRH nes (s8 _ _ hv1) (sDs s8 hv2) (.tup (.of g8) (sDs s8 hw2)), ?_, fun r hr => ?_⟩
        · rw [List.length_append, hlen]; rfl
        · rcases List.mem_append.mp hr with h | h
          · exact hrows r h
          · obtain rfl := List.mem_singleton.mp h
            exact ⟨by omega, hrules⟩
    · rintro σ5 H5 ⟨rows, y5, y6, y7, y8, rfl, mi, hlen, hrows⟩
      obtain ⟨vs, hv1, hv2⟩ := mi.ld
      refine ⟨_, rfl, R, vs, rfl, .of hv1, fun p H8 np s8 g8 => ?_⟩
      have mi8 := mi.same s8
      refine k H8 _ rows kk mi8.bt mi8.st (mok_of (n := n) (by omega) (by omega) kk2 kk4 (by omega) hrows) (.tup (.of g8) (sDs s8 hv2))
end
end K19

/-! ## K19H -/
namespace K19
open PySem PySem.Spec PyProof.Rows L2
section
variable {P : Program} {w : World} {K : PySem.W.Frag} {mg : Str → Option Value} {base : Heap} {kS kC kR : Tok} {aB : Addr}
/-! ### _law_keeping -/
def spKeeping (K : PySem.W.Frag) : Sp := fun vs H Q _ => ∃ (s l : Addr) (vm : V) (m : Mach) (n : Nat), vs = [.ref s, vm] ∧ Stm H s l ∧ TD K H vm (eMach m) ∧ MOk m n ∧ ∀ H' v m', But s H H' → Stm H' s l → MOk m' n → TD K H' v (eMach m') → Q v H'
theorem ok_law_keeping {f : Addr} {fd : FuncData} {k : Nat} (F : Fun K "_law_keeping" "_law_keeping" s_law_keeping f fd) (T : Txt mg kS kC kR aB) (C_law_draw : Cal P w K mg base k "_law_draw" ["_law_stream_here", "_law_many"] spDraw) :
    FnOk P w K mg base CX0 (k + 1) f fd ["_law_stream_here", "_law_machine_here"] (spKeeping K) := by
  refine F.ok sc_law_keeping (fun vs H Q E h => ?_) (fun cdv A outer s H vs Q E hr h => ?_)
  · obtain ⟨s, l, vm, m, n, rfl, _⟩ := h
    rfl
  · obtain ⟨s, l, vm, m, kk, rfl, st, hm, mok, k⟩ := h
    refine ⟨_, (pss_cons (ps_set (i := 2) sc_law_keeping.nd rfl (.inl rfl) (pe_lstB pa_nil))
    (pss_cons (ps_for PassesOwn.never rfl (pi_range1 (by rfl) T.range (pa_cons (pe_callB call_len_seq (by rfl) T.len PySem.boot_len (pa_cons (pv 1) pa_nil)) pa_nil)) (pg_name (i := 3) sc_law_keeping.nd rfl (.inl rfl))
      (pss_cons (ps_set (i := 4) sc_law_keeping.nd rfl (.inl rfl) (pe_lstB pa_nil))
      (pss_cons (ps_for PassesOwn.never rfl (pi_tup (pe_ix ix_tup (pv 1) (pv 3) (fun _ _ => rfl))) (pg_name (i := 5) sc_law_keeping.nd rfl (.inl rfl))
        (Evl.pss_cut (ps_if (pt_cmpR op_eq (pe_cal C_law_draw hr (by rfl) (pa_cons (pv 0) (pa_cons pe_int pa_nil))) pe_int (nomark _))
          (pss_one (ps_set (i := 5) sc_law_keeping.nd rfl (.inl rfl) (pe_tupB (pa_cons (pe_ix ix_tup (pv 5) pe_int (fun _ _ => rfl)) (pa_cons (pe_ix ix_tup (pv 5) pe_int (fun _ _ => rfl)) (pa_cons (pv 3) pa_nil))))))
          pss_nil)
        (pss_one (ps_expr (pe_bm PySem.F.plainAttrs_list PySem.F.slot_list_append PySem.F.type_list_append mt_append (pv 4) (pa_cons (pv 5) pa_nil))))))
      (pss_one (ps_expr (pe_bm PySem.F.plainAttrs_list PySem.F.slot_list_append PySem.F.type_list_append mt_append (pv 2) (pa_cons (pe_callTy call_tupB (by rfl) T.tuple (by decide +kernel) (pa_cons (pv 4) pa_nil)) pa_nil)))))))
    (pss_one (ps_ret (pe_callTy call_tupB (by rfl) T.tuple (by decide +kernel) (pa_cons (pv 2) pa_nil)))))), ?_⟩
    obtain ⟨am, xs, rfl, ham, hxs⟩ := hm.tupE
    have lxs := hxs.len
    rw [List.length_map] at lxs
    have m4 := mok.len4
    have m1 := mok.len1
    refine ⟨by simp, fun R H4 nRH s4 gR => ?_⟩
    have nes := st.new nRH
    have mi0 : MI K H s l R [] H4 := ⟨Same.but s4, st.same s4, [], gR, .nil⟩
    refine ⟨_, rfl, am, xs, rfl, .inr (sT s4 ham), xs.length, rfl, by omega, by omega, for_range (lo := 0) (n := (xs.length : Int).toNat) (fun i σ5 H5 => ∃ (rows : Mach) (y3 y4 y5 : Option V), σ5 = [some (.ref s), some (.ref am), some (.ref R), y3, y4, y5] ∧ MI K H s l R rows H5 ∧
      rows.length = i ∧ ∀ r ∈ rows, r.length = kk ∧ ∀ q ∈ r, RuleOk m.length kk q) ⟨[], none, none, none, rfl, mi0, rfl, fun _ h => by cases h⟩ ?_ ?_⟩
    · rintro i σ5 H5 hi ⟨rows, y3, y4, y5, rfl, mi, hlen, hrows⟩
      have him : i < m.length := by omega
      obtain ⟨x, hx, hxd⟩ := hxs.get (i := i) (d := eRow m[i]) (by rw [List.getElem?_map, List.getElem?_eq_getElem him]; rfl)
      obtain ⟨b, ys, rfl, hb, hys⟩ := hxd.tupE
      have lys := hys.len
      rw [List.length_map] at lys
      have lrow := mok.rows _ (List.getElem_mem him)
      have k4 := mok.sym4
      refine ⟨by simp, fun W H6 nW s6 gW => ?_⟩
      have nWH : H W = none := But.free mi.bt nW (mi.st.new nW).1
      have neW := mi.st.new nW
      have neRW : R ≠ W := by
        obtain ⟨vs, h1, _⟩ := mi.ld
        exact ne_of_none h1 nW
      have mr0 : MR K H s l R W rows [] H6 := ⟨mi.same s6, [], gW, .nil⟩
      refine ⟨_, rfl, _, rfl, am, xs, _, _, rfl, rfl, st.kt mr0.mi.bt _ _ ham, at_of (j := i) (by omega) hx, b, rfl, ⟨_, st.kt mr0.mi.bt _ _ hb⟩, for_tup (K := K) (a := b) (xs := ys) (fun j σ7 H7 => ∃ (rules : List (Int × Int × Int)) (y5 : Option V), σ7 = [some (.ref s), some (.ref am), some (.ref R), some (.int (0 + (i : Nat))), some (.ref W), y5] ∧
        MR K H s l R W rows rules H7 ∧ rules.length = j ∧ ∀ q ∈ rules, RuleOk m.length kk q) ⟨[], y5, rfl, mr0, rfl, fun _ h => by cases h⟩ (fun j σ7 H7 _ ⟨rules, y5, _, mr, _⟩ => st.kt mr.mi.bt _ _ hb) ?_ ?_⟩
      · rintro j x σ7 H7 hxj ⟨rules, y5, rfl, mr, hlen2, hrules⟩
        obtain ⟨d, hd, hdx⟩ := hys.get2 hxj
        have hjr : j < m[i].length := by
          have := (List.getElem?_eq_some_iff.mp hxj).1
          omega
        have ed : d = eRule m[i][j] := by
          rw [List.getElem?_map, List.getElem?_eq_getElem hjr] at hd
          exact (Option.some.inj hd).symm
        subst ed
        have rok : RuleOk m.length kk m[i][j] := mok.rule _ (List.getElem_mem him) _ (List.getElem_mem hjr)
        generalize m[i][j] = q at *
        obtain ⟨c, rfl, hc⟩ := ruleE hdx
        refine ⟨fun σ' H' => ∃ (q' : Int × Int × Int) (v : V), RuleOk m.length kk q' ∧ TD K H' v (eRule q') ∧ σ' = [some (.ref s), some (.ref am), some (.ref R), some (.int (0 + (i : Nat))), some (.ref W), some v] ∧ MR K H s l R W rows rules H', ?_, fun σ' H' hM => ?_⟩
        · refine ⟨_, rfl, s, l, 3, rfl, mr.mi.st, by decide, by decide, fun H9 r9 b9 st9 r90 r91 => ⟨rfl, _, rfl, ite2 (fun e => ?_) (fun e => ?_)⟩⟩
          · have mr9 := mr.but b9 st9 nes.1 neW.1
            have hc9 := st.kt mr9.mi.bt _ _ hc
            refine ⟨_, rfl, c, _, 0, _, rfl, rfl, hc9, atI_nat (j := 0) rfl, _, rfl, c, _, 1, _, rfl, rfl, hc9, atI_nat (j := 1) rfl, _, rfl, by simp, fun p H10 np s10 g10 => ?_⟩
            exact ⟨(q.1, q.2.1, 0 + (i : Nat)), _, ⟨rok.1, rok.2.1, by show -1 ≤ (0 : Int) + (i : Nat); omega, by show (0 : Int) + (i : Nat) < _; omega⟩, .tup (.of g10) (.cons (.int _) (.cons (.int _) (.cons (.int _) .nil))), rfl, mr9.same s10⟩
          · have mr9 := mr.but b9 st9 nes.1 neW.1
            exact ⟨q, _, rok, TD.keep (st.kt mr9.mi.bt) _ hdx, rfl, mr9⟩
        obtain ⟨q', v, rok', hv, rfl, mr9⟩ := hM
        obtain ⟨ws, hw1, hw2⟩ := mr9.lw
        have hlw := hw2.len
        rw [List.length_map] at hlw
        refine ⟨_, rfl, .inl ⟨rfl, _, .of hw1⟩, _, rfl, W, ws, _, rfl, rfl, hw1, sizeKlt (by omega), rules ++ [q'], _, rfl, mr9.app nWH neW neRW hw1 hw2 hv, ?_, fun q'' hq => ?_⟩
        · rw [List.length_append, hlen2]; rfl
        · rcases List.mem_append.mp hq with h | h
          · exact hrules q'' h
          · obtain rfl := List.mem_singleton.mp h
            exact rok'
      · rintro σ7 H7 ⟨rules, y5, rfl, mr, hlen2, hrules⟩
        obtain ⟨vs, hv1, hv2⟩ := mr.mi.ld
        obtain ⟨ws, hw1, hw2⟩ := mr.lw
        refine ⟨_, rfl, .inl ⟨rfl, _, .of hv1⟩, _, rfl, W, ws, rfl, .of hw1, fun p H8 np s8 g8 => ?_⟩
        have mr8 := mr.same s8
        have hlv := hv2.len
        rw [List.length_map] at hlv
        refine ⟨R, vs, _, rfl, rfl, s8 _ _ hv1, sizeKlt (by omega), rows ++ [rules], _, _, _, rfl, mr8.mi.app nRH nes (s8 _ _ hv1) (sDs s8 hv2) (.tup (.of g8) (sDs s8 hw2)), ?_, fun r hr => ?_⟩
        · rw [List.length_append, hlen]; rfl
        · rcases List.mem_append.mp hr with h | h
          · exact hrows r h
          · obtain rfl := List.mem_singleton.mp h
            exact ⟨by omega, hrules⟩
    · rintro σ5 H5 ⟨rows, y3, y4, y5, rfl, mi, hlen, hrows⟩
      obtain ⟨vs, hv1, hv2⟩ := mi.ld
      refine ⟨_, rfl, R, vs, rfl, .of hv1, fun p H8 np s8 g8 => ?_⟩
      have mi8 := mi.same s8
      refine k H8 _ rows mi8.bt mi8.st (mok_of (n := m.length) m1 m4 mok.sym2 mok.sym4 (by omega) hrows) (.tup (.of g8) (sDs s8 hv2))
end
end K19

/-! ## K19I -/
namespace K19
open PySem PySem.Spec PyProof.Rows L2
section
variable {P : Program} {w : World} {K : PySem.W.Frag} {mg : Str → Option Value} {base : Heap} {kS kC kR : Tok} {aB : Addr}
/-! ### cells in a list from a place on -/
def cellF (fs : Int) (cs : List Int) (x : Int) : Int := if fs ≤ x then cs.getD (x - fs).toNat 0 else 0
theorem cellF_nil (fs x : Int) : cellF fs [] x = 0 := by
  unfold cellF
  split <;> rfl
theorem cellF_out {fs : Int} {cs : List Int} {x : Int} (h : x < fs ∨ fs + cs.length ≤ x) : cellF fs cs x = 0 := by
  unfold cellF
  split
  · rw [List.getD_eq_getElem?_getD, List.getElem?_eq_none (by omega)]
    rfl
  · rfl
theorem cellF_at {fs : Int} {cs : List Int} {i : Nat} {v : Int} (h : cs[i]? = some v) : cellF fs cs (fs + i) = v := by
  unfold cellF
  rw [if_pos (by omega), List.getD_eq_getElem?_getD, show (fs + (i : Int) - fs).toNat = i by omega, h]
  rfl
theorem cellF_snoc {fs : Int} {cs : List Int} {v x : Int} : cellF fs (cs ++ [v]) x = if x = fs + cs.length then v else cellF fs cs x := by
  unfold cellF
  by_cases h : x = fs + cs.length
  · rw [if_pos h, if_pos (by omega), List.getD_eq_getElem?_getD, show (x - fs).toNat = cs.length by omega, List.getElem?_append_right (Nat.le_refl _), Nat.sub_self]
    rfl
  · rw [if_neg h]
    split
    · rw [List.getD_eq_getElem?_getD, List.getD_eq_getElem?_getD]
      by_cases h2 : (x - fs).toNat < cs.length
      · rw [List.getElem?_append_left h2]
      · rw [List.getElem?_eq_none (by rw [List.length_append]; show cs.length + 1 ≤ _; omega), List.getElem?_eq_none (by omega)]
    · rfl
/-! ### a dict of cells -/
structure DF (kvs : List (Key × V)) (f : Int → Int) : Prop where
  get : ∀ x : Int, (valV kvs (Sum.inl x)).getD (.int 0) = .int (f x)
  key : ∀ p ∈ kvs, ∃ x : Int, p.1 = Sum.inl x
theorem DF.nil : DF [] fun _ => 0 := ⟨fun _ => rfl, fun _ h => by cases h⟩
theorem DF.put {kvs : List (Key × V)} {f : Int → Int} (h : DF kvs f) (x s : Int) : DF (putK kvs (Sum.inl x) (.int s)) fun y => if y = x then s else f y := by
  refine ⟨fun y => ?_, fun p hp => ?_⟩
  · rw [valV_put]
    by_cases e : y = x
    · subst e
      rw [if_pos rfl]
      simp
    · rw [if_neg fun z => e (Sum.inl.inj z), if_neg e]
      exact h.get y
  · unfold putK at hp
    split at hp
    · obtain ⟨q, hq, e⟩ := List.mem_map.mp hp
      obtain ⟨y, hy⟩ := h.key q hq
      refine ⟨y, ?_⟩
      rw [← e]
      split <;> exact hy
    · rcases List.mem_append.mp hp with hp | hp
      · exact h.key p hp
      · obtain rfl := List.mem_singleton.mp hp
        exact ⟨x, rfl⟩
theorem DF.congr {kvs : List (Key × V)} {f g : Int → Int} (h : DF kvs f) (e : ∀ x, f x = g x) : DF kvs g := by
  rw [← show f = g from funext e]
  exact h
theorem DF.at_ {kvs : List (Key × V)} {f : Int → Int} (h : DF kvs f) {i : Nat} {k : Key} {v : V} (e : kvs[i]? = some (k, v)) : ∃ x : Int, k = Sum.inl x ∧ valV kvs k = some (.int (f x)) := by
  obtain ⟨x, hx⟩ := h.key _ (List.mem_of_getElem? e)
  have hx : k = Sum.inl x := hx
  subst hx
  have q : (kvs.any fun kv => decide (kv.1 = (Sum.inl x : Key))) = true := List.any_eq_true.mpr ⟨_, List.mem_of_getElem? e, decide_eq_true rfl⟩
  rw [valV_any] at q
  have g := h.get x
  cases z : valV kvs (Sum.inl x) with
  | none => rw [z] at q; cases q
  | some u => rw [z] at g; exact ⟨x, rfl, by rw [show u = V.int (f x) from g]⟩
theorem DF.mem {kvs : List (Key × V)} {f : Int → Int} (h : DF kvs f) {x : Int} (hx : f x ≠ 0) : ∃ (i : Nat) (v : V), kvs[i]? = some (Sum.inl x, v) := by
  have g := h.get x
  cases z : valV kvs (Sum.inl x) with
  | none =>
    rw [z] at g
    exact absurd (V.int.inj g).symm hx
  | some u =>
    unfold valV at z
    cases e : kvs.find? fun kv => decide (kv.1 = (Sum.inl x : Key)) with
    | none => rw [e] at z; cases z
    | some p =>
      have h1 := List.mem_of_find?_eq_some e
      have h2 : p.1 = Sum.inl x := of_decide_eq_true (by simpa using List.find?_some e)
      obtain ⟨i, hi⟩ := List.mem_iff_getElem?.mp h1
      refine ⟨i, p.2, ?_⟩
      rw [hi, ← h2]
/-- the loop that fills a dict with the cells of a tuple -/
theorem fill_T {ic ik id iF : Nat} {σ : L2.St} {H : Hp} {D : Ends} {b d : Addr} {fs : Int} {cs : List Int} (hc : σ[ic]? = some (some (.ref b))) (hd : σ[id]? = some (some (.ref d))) (hf : σ[iF]? = some (some (.int fs)))
    (n1 : ik ≠ ic) (n2 : ik ≠ id) (n3 : ik ≠ iF) (hk : ik < σ.length) (hb : SqT K H b (cs.map V.int)) (hd' : H d = some (.dK [])) (hl : cs.length ≤ 50000)
    (q : ∀ (v : Option V) H' kvs, But d H H' → H' d = some (.dK kvs) → DF kvs (cellF fs cs) → kvs.length ≤ cs.length → D.nx (σ.set ik v) H') :
    tFor (iRng1 (tCons (tCB (fun xs H Q => ∃ p ys, xs = [.ref p] ∧ (SqL K H p ys ∨ SqT K H p ys) ∧ Q (.int ys.length) H) (tCons (tVar ic) tNil)) tNil)) (gName ik)
      (sDPut (tVar id) (tOp (rI0 fun i j => .int (i + j)) (tVar iF) (tVar ik)) (tOp (rIxT K) (tVar ic) (tVar ik))) D σ H := by
  have hl' : ((cs.map V.int).length : Int) = cs.length := by rw [List.length_map]
  refine ⟨_, hc, b, _, rfl, .inr hb, _, rfl, by omega, by omega, for_range (lo := 0) (n := ((cs.map V.int).length : Int).toNat) (fun i σ1 H1 => ∃ (v : Option V) (kvs : List (Key × V)), σ1 = σ.set ik v ∧ But d H H1 ∧ H1 d = some (.dK kvs) ∧ DF kvs (cellF fs (cs.take i)) ∧ kvs.length ≤ i)
    ⟨σ[ik], [], ?_, But.refl, hd', DF.nil.congr fun x => (cellF_nil fs x).symm, Nat.le_refl _⟩ ?_ ?_⟩
  · rw [List.set_getElem_self]
  · rintro i σ1 H1 hi ⟨v, kvs, rfl, bt, h1, df, lk⟩
    have hi' : i < cs.length := by omega
    have hx : (cs.map V.int)[i]? = some (.int cs[i]) := by rw [List.getElem?_map, List.getElem?_eq_getElem hi']; rfl
    show sDPut _ _ _ _ ((σ.set ik v).set ik (some (.int (0 + (i : Nat))))) H1
    rw [List.set_set]
    refine ⟨_, by rw [List.getElem?_set_ne n1]; exact hc, _, by rw [List.getElem?_set_self hk], b, _, _, _, rfl, rfl, But.ktD bt hd' _ _ hb, at_of (j := i) (by omega) hx, ?_⟩
    refine ⟨_, by rw [List.getElem?_set_ne n2]; exact hd, _, by rw [List.getElem?_set_ne n3]; exact hf, _, by rw [List.getElem?_set_self hk], _, _, rfl, rfl, d, _, rfl, DPut.k (k := Sum.inl (fs + (0 + (i : Nat)))) h1 (sizeKlt (by omega)), _, _, rfl, bt.trans But.put, upd_same, (df.put (fs + (0 + (i : Nat))) cs[i]).congr fun x => ?_, ?_⟩
    · rw [List.take_add_one, List.getElem?_eq_getElem hi']
      show (if x = fs + (0 + (i : Int)) then cs[i] else cellF fs (cs.take i) x) = cellF fs (cs.take i ++ [cs[i]]) x
      rw [cellF_snoc, List.length_take, Nat.min_eq_left (by omega), Int.zero_add]
    · have := length_putK kvs (Sum.inl (fs + (0 + (i : Nat)))) (V.int cs[i])
      omega
  · rintro σ1 H1 ⟨v, kvs, rfl, bt, h1, df, lk⟩
    rw [show ((cs.map V.int).length : Int).toNat = cs.length by omega] at df lk
    rw [List.take_length] at df
    exact q v H1 kvs bt h1 df lk
end
end K19

/-! ## K19J -/
namespace K19
open PySem PySem.Spec PyProof.Rows L2
section
variable {P : Program} {w : World} {K : PySem.W.Frag} {mg : Str → Option Value} {base : Heap} {kS kC kR : Tok} {aB : Addr}
/-! ### a configuration that is walked: [state, place, dict] -/
def But2 (n d : Addr) (H H' : Hp) : Prop := ∀ b o, H b = some o → b ≠ n → b ≠ d → H' b = some o
structure Now (H : Hp) (n d : Addr) (kvs : List (Key × V)) (c : Cf) : Prop where
  hn : H n = some (.lst [.int c.st, .int c.pl, .ref d])
  hd : H d = some (.dK kvs)
  df : DF kvs c.f
theorem Now.ne {H : Hp} {n d : Addr} {kvs : List (Key × V)} {c : Cf} (h : Now H n d kvs c) : n ≠ d := ne_of h.hn h.hd (by intro z; cases z)
theorem Now.kt {H H' : Hp} {n d : Addr} {kvs : List (Key × V)} {c : Cf} (h : Now H n d kvs c) (e : But2 n d H H') : KT K H H' := fun b xs q => by
  rcases q with (q | ⟨ob, q⟩) | q
  · exact .inl (.inl (e _ _ q (ne_of q h.hn (by intro z; cases z)) (ne_of q h.hd (by intro z; cases z))))
  · exact .inl (.inr ⟨ob, e _ _ q (ne_of q h.hn (by intro z; cases z)) (ne_of q h.hd (by intro z; cases z))⟩)
  · exact .inr q
/-- the cells of a configuration -/
def Cd.cf (c : Cd) : Cf := ⟨c.st, c.pl, cellF c.fs c.cs⟩
def spStart (K : PySem.W.Frag) : Sp := fun vs H Q _ => ∃ (v : V) (c : Cd), vs = [v] ∧ TD K H v (eConf c) ∧ c.cs.length ≤ 50000 ∧ ∀ H' n d kvs, Same H H' → H n = none → H d = none → Now H' n d kvs c.cf → kvs.length ≤ c.cs.length → Q (.ref n) H'
theorem ok_law_start {f : Addr} {fd : FuncData} {k : Nat} (F : Fun K "_law_start" "_law_start" s_law_start f fd) (T : Txt mg kS kC kR aB) : FnOk P w K mg base CX0 (k + 1) f fd ["_law_configuration"] (spStart K) := by
  refine F.ok sc_law_start (fun vs H Q E h => ?_) (fun cdv A outer s H vs Q E hr h => ?_)
  · obtain ⟨v, c, rfl, _⟩ := h
    rfl
  · obtain ⟨v, c, rfl, hv, hl, k⟩ := h
    refine ⟨_, (pss_cons (ps_asg (pv 0) (pg_tup rfl (pgs_cons (pg_name (i := 1) sc_law_start.nd rfl (.inl rfl)) (pgs_cons (pg_name (i := 2) sc_law_start.nd rfl (.inl rfl)) (pgs_cons (pg_name (i := 3) sc_law_start.nd rfl (.inl rfl)) (pgs_cons (pg_name (i := 4) sc_law_start.nd rfl (.inl rfl)) pgs_nil))))))
    (pss_cons (ps_set (i := 5) sc_law_start.nd rfl (.inl rfl) pe_dnewB)
    (pss_cons (ps_for PassesOwn.never rfl (pi_range1 (by rfl) T.range (pa_cons (pe_callB call_len_seq (by rfl) T.len PySem.boot_len (pa_cons (pv 4) pa_nil)) pa_nil)) (pg_name (i := 6) sc_law_start.nd rfl (.inl rfl))
      (pss_one (ps_dput (hu_of hr) (pv 5) (pe_op op_add (pv 3) (pv 6)) (pe_ix ix_tup (pv 4) (pv 6) (fun _ _ => rfl)) rfl)))
    (pss_one (ps_ret (pe_lstB (pa_cons (pv 1) (pa_cons (pv 2) (pa_cons (pv 5) pa_nil))))))))), ?_⟩
    obtain ⟨a, b, rfl, ha, hb⟩ := confE hv
    refine ⟨_, rfl, a, _, rfl, ha, rfl, _, _, rfl, _, _, rfl, _, _, rfl, _, _, rfl, rfl, ?_⟩
    intro d H1 nd s1 g1
    refine fill_T (K := K) (ic := 4) (ik := 6) (id := 5) (iF := 3) (b := b) (d := d) (fs := c.fs) (cs := c.cs) rfl rfl rfl (by decide) (by decide) (by decide) (show 6 < 7 by decide) (sT s1 hb) g1 hl ?_
    intro v6 H2 kvs bt h2 df lk
    refine ⟨_, rfl, _, rfl, _, rfl, by simp, fun n H3 nn s3 g3 => ?_⟩
    have s2 : Same H H2 := fun b o h => bt b o (s1 b o h) (ne_of_none h nd)
    exact k H3 n d kvs (sTr s2 s3) (Same.free s2 nn) nd ⟨g3, s3 _ _ h2, df⟩ lk
/-! ### a step -/
def spTake (K : PySem.W.Frag) : Sp := fun vs H Q _ => ∃ (vm : V) (n d : Addr) (m : Mach) (kk : Nat) (N : Int) (kvs : List (Key × V)) (c : Cf), vs = [vm, .ref n] ∧ TD K H vm (eMach m) ∧ MOk m kk ∧ Now H n d kvs c ∧ CfOk m kk N c ∧ c.st ≠ -1 ∧ kvs.length ≤ 90000 ∧
  ∀ H' kvs', But2 n d H H' → Now H' n d kvs' (stepC m c) → kvs'.length ≤ kvs.length + 1 → Q .non H'
theorem ok_law_take {f : Addr} {fd : FuncData} {k : Nat} (F : Fun K "_law_take" "_law_take" s_law_take f fd) (T : Txt mg kS kC kR aB) : FnOk P w K mg base CX0 (k + 1) f fd ["_law_machine_here", "_law_now"] (spTake K) := by
  refine F.ok sc_law_take (fun vs H Q E h => ?_) (fun cdv A outer s H vs Q E hr h => ?_)
  · obtain ⟨vm, n, d, m, kk, N, kvs, c, rfl, _⟩ := h
    rfl
  · obtain ⟨vm, n, d, m, kk, N, kvs, c, rfl, hm, mok, nw, cok, hst, lk, k⟩ := h
    refine ⟨_, (pss_cons (ps_asg (pe_ix ix_tup (pe_ix ix_tup (pv 0) (pe_ix ix_list (pv 1) pe_int (fun _ _ => rfl)) (fun _ _ => rfl)) (pe_dget2 (hu_of hr) (pe_ix ix_list (pv 1) pe_int (fun _ _ => rfl)) (pe_ix ix_list (pv 1) pe_int (fun _ _ => rfl)) pe_int ⟨by rfl, by rfl, by rfl, by rfl⟩) (fun _ _ => rfl)) (pg_tup rfl (pgs_cons (pg_name (i := 2) sc_law_take.nd rfl (.inl rfl)) (pgs_cons (pg_name (i := 3) sc_law_take.nd rfl (.inl rfl)) (pgs_cons (pg_name (i := 4) sc_law_take.nd rfl (.inl rfl)) pgs_nil)))))
    (pss_cons (ps_dput (hu_of hr) (pe_ix ix_list (pv 1) pe_int (fun _ _ => rfl)) (pe_ix ix_list (pv 1) pe_int (fun _ _ => rfl)) (pv 2) rfl)
    (pss_cons (ps_asg (pe_op op_add (pe_ix ix_list (pv 1) pe_int (fun _ _ => rfl)) (pv 3)) (pg_sub (pv 1) pe_int set_list))
    (pss_one (ps_asg (pv 4) (pg_sub (pv 1) pe_int set_list)))))), ?_⟩
    have st0 := cok.st0
    obtain ⟨am, xs, bm, ys, cm, rfl, h1, e1, h2, e2, _, h3⟩ := machE mok hm (s := c.st) (x := c.f c.pl) (by omega) cok.st1 (cok.sy0 _) (cok.sy1 _)
    have hn := SqL.of (K := K) nw.hn
    have hne := nw.ne
    refine ⟨_, rfl, _, rfl, n, _, 0, _, rfl, rfl, hn, atI_nat (j := 0) rfl, am, xs, _, _, rfl, rfl, h1, e1, ?_⟩
    refine ⟨_, rfl, n, _, 2, _, rfl, rfl, hn, atI_nat (j := 2) rfl, d, rfl, .inl ⟨kvs, .inl nw.hd⟩, _, rfl, n, _, 1, _, rfl, rfl, hn, atI_nat (j := 1) rfl, _, DGet.k (k := Sum.inl c.pl) nw.hd, bm, ys, _, _, rfl, nw.df.get c.pl, h2, e2, cm, _, rfl, h3, rfl, _, _, rfl, _, _, rfl, _, _, rfl, rfl, ?_⟩
    generalize hq : ruleAt m c.st (c.f c.pl) = q
    refine ⟨_, rfl, _, rfl, n, _, 2, _, rfl, rfl, hn, atI_nat (j := 2) rfl, _, rfl, n, _, 1, _, rfl, rfl, hn, atI_nat (j := 1) rfl, d, _, rfl, DPut.k (k := Sum.inl c.pl) nw.hd (sizeKlt (by omega)), ?_⟩
    have gn : upd H d (.dK (putK kvs (Sum.inl c.pl) (.int q.1))) n = some (.lst [.int c.st, .int c.pl, .ref d]) := by
      rw [upd_ne hne]
      exact nw.hn
    refine ⟨_, rfl, n, _, 1, _, rfl, rfl, .of gn, atI_nat (j := 1) rfl, _, rfl, _, _, rfl, rfl, _, rfl, n, _, 1, 1, rfl, rfl, gn, rfl, ?_⟩
    refine ⟨_, rfl, _, rfl, n, _, 0, 0, rfl, rfl, upd_same, rfl, ?_⟩
    rw [upd_upd]
    refine k _ (putK kvs (Sum.inl c.pl) (.int q.1)) (fun b o h hb hd => ?_) ⟨?_, ?_, ?_⟩ (length_putK _ _ _)
    · rw [upd_ne hb, upd_ne hd]
      exact h
    · rw [upd_same]
      unfold stepC
      rw [hq]
      rfl
    · rw [upd_ne hne.symm]
      exact upd_same
    · refine (nw.df.put c.pl q.1).congr fun x => ?_
      unfold stepC
      rw [hq]
end
end K19

/-! ## K19K -/
namespace K19
open PySem PySem.Spec PyProof.Rows L2
section
variable {P : Program} {w : World} {K : PySem.W.Frag} {mg : Str → Option Value} {base : Heap} {kS kC kR : Tok} {aB : Addr}
/-! ### the cells from the first that is not blank to the last one -/
theorem le_last : ∀ (a : Int) (r : List Int), (a :: r).Pairwise (· ≤ ·) → ∀ x ∈ a :: r, x ≤ (a :: r).getLast (List.cons_ne_nil a r)
  | a, [], _, x, hx => by
    obtain rfl := List.mem_singleton.mp hx
    exact Int.le_refl _
  | a, b :: r, h, x, hx => by
    rw [List.getLast_cons (List.cons_ne_nil b r)]
    obtain ⟨h1, h2⟩ := List.pairwise_cons.mp h
    rcases List.mem_cons.mp hx with e | e
    · subst e
      exact h1 _ (List.getLast_mem _)
    · exact le_last b r h2 x e
theorem end_cells {f : Int → Int} {a b : Int} (h : ∀ x, f x ≠ 0 → a ≤ x ∧ x ≤ b) (x : Int) : cellF a ((List.range (b + 1 - a).toNat).map fun j : Nat => f (a + (j : Int))) x = f x := by
  by_cases hx : a ≤ x ∧ x ≤ b
  · have e : x = a + ((x - a).toNat : Int) := by omega
    rw [e]
    refine cellF_at ?_
    rw [List.getElem?_map, List.getElem?_range (by omega)]
    rfl
  · have e : f x = 0 := Classical.byContradiction fun z => hx (h x z)
    rw [e]
    refine cellF_out ?_
    rw [List.length_map, List.length_range]
    omega
/-- the keys of a dict, walked by a comprehension -/
theorem lc_keysD {d : Addr} {o : Obj} {kvs : List (Key × V)} {g : TG} {tt : TT} {te : TE} {vs : List Nat} {σ : L2.St} {H1 : Hp} {D : Addr} {Qd : Hp → Prop} (Pv : Nat → Hp → Prop) (h0 : Pv 0 (upd H1 D (.lst []))) (hl : ∀ i H, i ≤ kvs.length → Pv i H → H d = some (.frz o (.dK kvs)))
    (hs : ∀ i k v H, kvs[i]? = some (k, v) → Pv i H → g (kV k) (wipe σ vs) H fun σ2 H2 => wipe σ2 vs = wipe σ vs ∧ tt σ2 H2 fun b H3 =>
      if b = true then te σ2 H3 fun y H4 => ∃ acc, H4 D = some (.lst acc) ∧ acc.length < sizeLine ∧ Pv (i + 1) (upd H4 D (.lst (acc ++ [y]))) else Pv (i + 1) H3) (hd : ∀ H, Pv kvs.length H → Qd H) :
    ∃ W : Nat → Nat → Hp → Prop, (∃ m, W 0 m (upd H1 D (.lst []))) ∧ ∀ i m H, W i m H →
      ((Itk d o kvs).stop i H ∧ Qd H) ∨ ((Itk d o kvs).go i H ∧ ∃ Nx : Hp → Prop, (∀ H', Nx H' → ∃ m', m' < m ∧ W (i + 1) m' H') ∧ ∀ x H', (Itk d o kvs).yld i H x H' → g x (wipe σ vs) H' fun σ2 H2 => wipe σ2 vs = wipe σ vs ∧ tt σ2 H2 fun b H3 =>
        if b = true then te σ2 H3 fun y H4 => ∃ acc, H4 D = some (.lst acc) ∧ acc.length < sizeLine ∧ Nx (upd H4 D (.lst (acc ++ [y]))) else Nx H3) := by
  refine ⟨fun i m H => m = kvs.length - i ∧ i ≤ kvs.length ∧ Pv i H, ⟨kvs.length, by simp, Nat.zero_le _, h0⟩, ?_⟩
  rintro i m H ⟨rfl, hi, p⟩
  have q := hl i H hi p
  by_cases hlt : i < kvs.length
  · refine .inr ⟨⟨q, hlt⟩, Pv (i + 1), fun H' p' => ⟨kvs.length - (i + 1), by omega, rfl, hlt, p'⟩, fun x H' y => ?_⟩
    obtain ⟨e, k, v, e2, e3⟩ := y
    subst e e3
    exact hs i k v _ e2 p
  · have e : i = kvs.length := by omega
    subst e
    exact .inl ⟨⟨q, Nat.le_refl _⟩, hd H p⟩
/-- how far a configuration reaches -/
structure SzOk (N : Int) (c : Cd) : Prop where
  p0 : -N ≤ c.pl
  p1 : c.pl ≤ N
  f0 : -N ≤ c.fs
  f1 : c.fs ≤ N
  f2 : c.fs + c.cs.length ≤ N + 1
def spEnd (K : PySem.W.Frag) : Sp := fun vs H Q _ => ∃ (n d : Addr) (N : Int) (kvs : List (Key × V)) (c : Cf), vs = [.ref n] ∧ Now H n d kvs c ∧ (0 ≤ N ∧ N ≤ 40000) ∧ (-N ≤ c.pl ∧ c.pl ≤ N) ∧ (∀ x, c.f x ≠ 0 → -N ≤ x ∧ x ≤ N) ∧ kvs.length ≤ 95000 ∧
  ∀ H' v e, Same H H' → TD K H' v (eConf e) → e.cf = c → SzOk N e → Q v H'
theorem ok_law_end {f : Addr} {fd : FuncData} {k : Nat} (F : Fun K "_law_end" "_law_end" s_law_end f fd) (T : Txt mg kS kC kR aB) : FnOk P w K mg base CX0 (k + 1) f fd ["_law_now"] (spEnd K) := by
  refine F.ok sc_law_end (fun vs H Q E h => ?_) (fun cdv A outer s H vs Q E hr h => ?_)
  · obtain ⟨n, d, N, kvs, c, rfl, _⟩ := h
    rfl
  · obtain ⟨n, d, N, kvs, c, rfl, nw, ⟨N0, N1⟩, ⟨pl0, pl1⟩, hsup, lk, k⟩ := h
    refine ⟨_, (pss_cons (ps_set (i := 1) sc_law_end.nd rfl (.inl rfl) (pe_callB cr_sortedI (by rfl) T.sorted (by decide +kernel) (pa_cons (pe_lock (pe_lc (own := [("_law_place", 2)]) rfl sc_law_end.nd (pi_keys (pe_ix ix_list (pv 0) pe_int (fun _ _ => rfl))) (blkOk_by (N := N_law_end) (sc := defScope s_law_end) (by decide +kernel)) (fun _ _ _ _ _ => (pg_name (i := 2) sc_law_end.nd rfl (.inl rfl))) (fun _ _ _ _ _ => (pts_one (pt_cmpR op_ne (pe_dget (hu_of hr) (pe_ix (ix_listK (K := K) rfl) (pv 0) pe_int (fun _ _ => rfl)) (pv 2) (fun _ _ => rfl)) pe_int (nomark _)))) (fun _ _ _ _ _ => (pv 2)))) pa_nil)))
    (pss_cons (ps_if (pt_not (pt_truth (pv 1) (by intro _; rfl)))
      (pss_one (ps_ret (pe_tupB (pa_cons (pe_ix ix_list (pv 0) pe_int (fun _ _ => rfl)) (pa_cons (pe_ix ix_list (pv 0) pe_int (fun _ _ => rfl)) (pa_cons pe_int (pa_cons (pe_tupB pa_nil) pa_nil)))))))
      pss_nil)
    (pss_cons (ps_set (i := 3) sc_law_end.nd rfl (.inl rfl) (pe_callTy call_tupB (by rfl) T.tuple (by decide +kernel) (pa_cons (pe_lc (own := [("_law_place", 2)]) rfl sc_law_end.nd (pi_range2 (by rfl) T.range (pa_cons (pe_ix ix_list (pv 1) pe_int (fun _ _ => rfl)) (pa_cons (pe_op op_add (pe_ix ix_list (pv 1) (pe_un un_neg pe_int) (fun _ _ => rfl)) pe_int) pa_nil))) (blkOk_by (N := N_law_end) (sc := defScope s_law_end) (by decide +kernel)) (fun _ _ _ _ _ => (pg_name (i := 2) sc_law_end.nd rfl (.inl rfl))) (fun _ _ _ _ _ => pts_nil) (fun _ _ _ _ _ => (pe_dget2 (hu_of hr) (pe_ix (ix_listK (K := K) rfl) (pv 0) pe_int (fun _ _ => rfl)) (pv 2) pe_int ⟨by rfl, by rfl, by rfl, by rfl⟩))) pa_nil)))
    (pss_one (ps_ret (pe_tupB (pa_cons (pe_ix ix_list (pv 0) pe_int (fun _ _ => rfl)) (pa_cons (pe_ix ix_list (pv 0) pe_int (fun _ _ => rfl)) (pa_cons (pe_ix ix_list (pv 1) pe_int (fun _ _ => rfl)) (pa_cons (pv 3) pa_nil)))))))))), ?_⟩
    have hne := nw.ne
    refine ⟨d, .dK kvs, nw.hd, True.intro, fun od => ?_⟩
    have fr : upd H d (.frz od (.dK kvs)) d = some (.frz od (.dK kvs)) := upd_same
    have fn : upd H d (.frz od (.dK kvs)) n = some (.lst [.int c.st, .int c.pl, .ref d]) := by
      rw [upd_ne hne]
      exact nw.hn
    refine ⟨_, rfl, n, _, 2, _, rfl, rfl, .of fn, atI_nat (j := 2) rfl, d, od, rfl, .inl ⟨kvs, fr, fun D nD => ?_⟩⟩
    have bf : But d H (upd H d (.frz od (.dK kvs))) := But.put
    generalize upd H d (.frz od (.dK kvs)) = Hf at *
    have neD : D ≠ d := (ne_of_none fr nD).symm
    refine lc_keysD (d := d) (o := od) (kvs := kvs) (fun i H' => Same Hf H' ∧ ∃ xs : List Int, H' D = some (.lst (xs.map V.int)) ∧ xs.length ≤ i ∧ (∀ x ∈ xs, c.f x ≠ 0) ∧ ∀ (j : Nat) (x : Int) (v : V), j < i → kvs[j]? = some (Sum.inl x, v) → c.f x ≠ 0 → x ∈ xs)
      ⟨same_new nD, [], upd_same, Nat.le_refl _, (fun _ h => by cases h), fun j x v h => absurd h (Nat.not_lt_zero j)⟩ (fun i H' _ q => q.1 _ _ fr) ?_ ?_
    · rintro i key v H' hi ⟨s1, xs, hD, hlx, hnz, hall⟩
      obtain ⟨x, rfl, hval⟩ := nw.df.at_ hi
      have hlt := (List.getElem?_eq_some_iff.mp hi).1
      have fr' : H' d = some (.frz od (.dK kvs)) := s1 _ _ fr
      refine ⟨rfl, _, rfl, n, _, 2, _, rfl, rfl, .of (s1 _ _ fn), atI_nat (j := 2) rfl, _, rfl, d, _, rfl, .inl ⟨kvs, Sum.inl x, .inr ⟨od, fr'⟩, rfl, hval.symm⟩, rfl, _, rfl, ite2 (fun e => ?_) (fun e => ?_)⟩
      · have e1 : c.f x ≠ 0 := fun z => by
          rw [z] at e
          simp at e
        refine ⟨_, rfl, _, hD, sizeKlt (by rw [List.length_map]; omega), fun b o h => ?_, xs ++ [x], ?_, ?_, fun y hy => ?_, fun j y w hj hy hyn => ?_⟩
        · rw [upd_ne (ne_of_none h nD)]
          exact s1 _ _ h
        · rw [upd_same, List.map_append]
          rfl
        · rw [List.length_append]
          show xs.length + 1 ≤ i + 1
          omega
        · rcases List.mem_append.mp hy with h | h
          · exact hnz y h
          · obtain rfl := List.mem_singleton.mp h
            exact e1
        · by_cases hji : j = i
          · subst hji
            rw [hi] at hy
            have e2 : x = y := Sum.inl.inj (Prod.mk.inj (Option.some.inj hy)).1
            rw [e2]
            exact List.mem_append_right _ (List.mem_singleton.mpr rfl)
          · exact List.mem_append_left _ (hall j y w (by omega) hy hyn)
      · have e1 : c.f x = 0 := Classical.byContradiction fun z => e (by simp [z])
        refine ⟨s1, xs, hD, by omega, hnz, fun j y w hj hy hyn => ?_⟩
        by_cases hji : j = i
        · subst hji
          rw [hi] at hy
          have e2 : x = y := Sum.inl.inj (Prod.mk.inj (Option.some.inj hy)).1
          rw [e2] at e1
          exact absurd e1 hyn
        · exact hall j y w (by omega) hy hyn
    · rintro H' ⟨s1, xs, hD, hlx, hnz, hall⟩
      have hmem : ∀ x, c.f x ≠ 0 → x ∈ xs := fun x hx => by
        obtain ⟨j, v, hj⟩ := nw.df.mem hx
        exact hall j x v (List.getElem?_eq_some_iff.mp hj).1 hj hx
      have g2 : upd H' d (.dK kvs) d = some (.dK kvs) := upd_same
      have s2 : Same H (upd H' d (.dK kvs)) := fun b o h => by
        by_cases hb : b = d
        · subst hb
          rw [upd_same, ← h]
          exact nw.hd.symm
        · rw [upd_ne hb]
          exact s1 _ _ (bf _ _ h hb)
      have hD2 : upd H' d (.dK kvs) D = some (.lst (xs.map V.int)) := by
        rw [upd_ne neD]
        exact hD
      refine ⟨s1 _ _ fr, D, xs, rfl, .of hD2, fun ns p perm srt np => ?_⟩
      generalize upd H' d (.dK kvs) = H2 at *
      have s3 : Same H2 (upd H2 p (.lst (ns.map V.int))) := same_new np
      have gp : upd H2 p (.lst (ns.map V.int)) p = some (.lst (ns.map V.int)) := upd_same
      generalize upd H2 p (.lst (ns.map V.int)) = H3 at *
      have s23 := sTr s2 s3
      have hn3 := SqL.of (K := K) (sO s23 nw.hn)
      cases ns with
      | nil =>
        refine ⟨_, rfl, false, truL (.of gp), ?_⟩
        refine ⟨_, rfl, n, _, 0, _, rfl, rfl, hn3, atI_nat (j := 0) rfl, _, rfl, n, _, 1, _, rfl, rfl, hn3, atI_nat (j := 1) rfl, by simp, fun p4 H4 _ s4 g4 => ⟨by simp, fun p5 H5 _ s5 g5 => ?_⟩⟩
        refine k H5 _ ⟨c.st, c.pl, 0, []⟩ (sTr (sTr s23 s4) s5) (.tup (.of g5) (.cons (.int _) (.cons (.int _) (.cons (.int _) (.cons (.tup (sT s5 (.of g4)) .nil) .nil))))) ?_ ⟨pl0, pl1, by show -N ≤ 0; omega, N0, by show (0 : Int) + 0 ≤ N + 1; omega⟩
        refine Cf.eq rfl rfl fun x => ?_
        show cellF 0 [] x = c.f x
        rw [cellF_nil]
        refine (Classical.byContradiction fun z => ?_ : c.f x = 0).symm
        have := perm.mem_iff.mpr (hmem x z)
        cases this
      | cons a r =>
        have ha : c.f a ≠ 0 := hnz a (perm.mem_iff.mp List.mem_cons_self)
        have hb : c.f ((a :: r).getLast (List.cons_ne_nil a r)) ≠ 0 := hnz _ (perm.mem_iff.mp (List.getLast_mem _))
        have hbd : ∀ x, c.f x ≠ 0 → a ≤ x ∧ x ≤ (a :: r).getLast (List.cons_ne_nil a r) := fun x hx => by
          have hm := perm.mem_iff.mpr (hmem x hx)
          refine ⟨?_, le_last a r srt x hm⟩
          rcases List.mem_cons.mp hm with e | e
          · omega
          · exact (List.pairwise_cons.mp srt).1 x e
        have gl : atI ((a :: r).map V.int) (-1) = some (.int ((a :: r).getLast (List.cons_ne_nil a r))) := by
          have hz : ((a :: r).map V.int) = ((a :: r).dropLast.map V.int) ++ [.int ((a :: r).getLast (List.cons_ne_nil a r))] := by
            rw [← List.map_singleton, ← List.map_append, List.dropLast_concat_getLast]
          rw [hz]
          exact atI_last _ _
        generalize (a :: r).getLast (List.cons_ne_nil a r) = b at *
        have sa := hsup a ha
        have sb := hsup b hb
        have hab := hbd b hb
        refine ⟨_, rfl, true, truL (.of gp), ?_⟩
        refine ⟨_, rfl, p, _, 0, _, rfl, rfl, .of gp, atI_nat (j := 0) rfl, _, rfl, _, rfl, p, _, _, _, rfl, rfl, .of gp, gl, _, _, rfl, rfl, a, b + 1, rfl, ⟨by omega, by omega, by omega, by omega⟩, fun D2 nD2 => ?_⟩
        refine lc_range (lo := a) (n := (b + 1 - a).toNat) (fun i H' => Same H3 H' ∧ H' D2 = some (.lst ((List.range i).map fun j : Nat => V.int (c.f (a + (j : Int)))))) ⟨same_new nD2, upd_same⟩ ?_ ?_
        · rintro i H4 hi ⟨s4, h4⟩
          have hn4 := SqL.of (K := K) (sO s4 (sO s23 nw.hn))
          refine ⟨rfl, _, rfl, n, _, 2, _, rfl, rfl, hn4, atI_nat (j := 2) rfl, d, rfl, .inl ⟨kvs, .inl (s4 _ _ (s23 _ _ nw.hd))⟩, _, rfl, _, DGet.k (k := Sum.inl (a + (i : Int))) (s4 _ _ (s23 _ _ nw.hd)), _, h4, sizeKlt (by rw [List.length_map, List.length_range]; omega), fun b o h => ?_, ?_⟩
          · rw [upd_ne (ne_of_none h nD2)]
            exact s4 _ _ h
          · rw [upd_same, List.range_succ, List.map_append, nw.df.get]
            rfl
        · rintro H4 ⟨s4, h4⟩
          refine ⟨D2, _, rfl, .of h4, fun p5 H5 _ s5 g5 => ?_⟩
          have s35 := sTr s4 s5
          have hn5 := SqL.of (K := K) (sO s35 (sO s23 nw.hn))
          refine ⟨_, rfl, n, _, 0, _, rfl, rfl, hn5, atI_nat (j := 0) rfl, _, rfl, n, _, 1, _, rfl, rfl, hn5, atI_nat (j := 1) rfl, _, rfl, p, _, 0, _, rfl, rfl, .of (sO s35 gp), atI_nat (j := 0) rfl, _, rfl, by simp, fun p6 H6 _ s6 g6 => ?_⟩
          refine k H6 _ ⟨c.st, c.pl, a, (List.range (b + 1 - a).toNat).map fun j : Nat => c.f (a + (j : Int))⟩ (sTr (sTr s23 s35) s6) (.tup (.of g6) (.cons (.int _) (.cons (.int _) (.cons (.int _) (.cons (.tup (sT s6 (.of g5)) ?_) .nil))))) (Cf.eq rfl rfl fun x => end_cells hbd x) ⟨pl0, pl1, by show -N ≤ a; omega, by show a ≤ N; omega, ?_⟩
          · have := TDs.ints (K := K) (H := H6) ((List.range (b + 1 - a).toNat).map fun j : Nat => c.f (a + (j : Int)))
            rw [List.map_map] at this
            exact this
          · show a + (((List.range (b + 1 - a).toNat).map fun j : Nat => c.f (a + (j : Int))).length : Int) ≤ N + 1
            rw [List.length_map, List.length_range]
            omega
end
end K19

/-! ## K19L -/
namespace K19
open PySem PySem.Spec PyProof.Rows L2
section
variable {P : Program} {w : World} {K : PySem.W.Frag} {mg : Str → Option Value} {base : Heap} {kS kC kR : Tok} {aB : Addr}
/-! ### a run -/
def spRun (K : PySem.W.Frag) : Sp := fun vs H Q _ => ∃ (vm v : V) (m : Mach) (kk j : Nat) (N : Int) (c : Cd), vs = [vm, v, .int j] ∧ TD K H vm (eMach m) ∧ MOk m kk ∧ TD K H v (eConf c) ∧ SzOk N c ∧ CfOk m kk N c.cf ∧ 0 ≤ N ∧ N + j ≤ 20000 ∧
  ∀ H' v' e z, Same H H' → TD K H' v' (.tuple [eConf e, .int z]) → e.cf = runC m j c.cf → SzOk (N + j) e → Q v' H'
theorem ok_law_run {f : Addr} {fd : FuncData} {k : Nat} (F : Fun K "_law_run" "_law_run" s_law_run f fd) (T : Txt mg kS kC kR aB) (C_law_start : Cal P w K mg base k "_law_start" ["_law_configuration"] (spStart K))
    (C_law_take : Cal P w K mg base k "_law_take" ["_law_machine_here", "_law_now"] (spTake K)) (C_law_end : Cal P w K mg base k "_law_end" ["_law_now"] (spEnd K)) : FnOk P w K mg base CX0 (k + 1) f fd ["_law_machine_here", "_law_configuration", "_law_count_here"] (spRun K) := by
  refine F.ok sc_law_run (fun vs H Q E h => ?_) (fun cdv A outer s H vs Q E hr h => ?_)
  · obtain ⟨vm, v, m, kk, j, N, c, rfl, _⟩ := h
    rfl
  · obtain ⟨vm, v, m, kk, j, N, c, rfl, hm, mok, hv, sz, cok, N0, N1, k⟩ := h
    refine ⟨_, (pss_cons (ps_set (i := 3) sc_law_run.nd rfl (.inl rfl) (pe_cal C_law_start hr (by rfl) (pa_cons (pv 1) pa_nil)))
    (pss_cons (ps_set (i := 4) sc_law_run.nd rfl (.inl rfl) pe_int)
    (pss_cons (ps_while PassesOwn.never (PW.pt (pw_and (pt_cmpR op_lt (pv 4) (pv 2) (nomark _)) (pw_and1 (pt_cmpR op_ne (pe_ix ix_list (pv 3) pe_int (fun _ _ => rfl)) (pe_un un_neg pe_int) (nomark _)))))
      (pss_cons (ps_expr (pe_cal C_law_take hr (by rfl) (pa_cons (pv 0) (pa_cons (pv 3) pa_nil))))
      (pss_one (ps_set (i := 4) sc_law_run.nd rfl (.inl rfl) (pe_op op_add (pv 4) pe_int)))))
    (pss_one (ps_ret (pe_tupB (pa_cons (pe_cal C_law_end hr (by rfl) (pa_cons (pv 3) pa_nil)) (pa_cons (pv 4) pa_nil)))))))), ?_⟩
    have f0 := sz.f0
    have f2 := sz.f2
    refine ⟨_, rfl, v, c, rfl, hv, by omega, fun H1 n d kvs s1 nn nd nw lk => ?_⟩
    refine ⟨fun mu σ' H' => ∃ (i : Nat) (kvs : List (Key × V)), σ' = [some vm, some v, some (.int j), some (.ref n), some (.int i)] ∧ Same H H' ∧ Now H' n d kvs (runC m i c.cf) ∧ kvs.length ≤ c.cs.length + i ∧ i ≤ j ∧ mu = j - i,
      ⟨j, 0, kvs, rfl, s1, nw, lk, Nat.zero_le _, rfl⟩, ?_⟩
    rintro mu σ' H2 ⟨i, kvs, rfl, s2, nw, lk, hi, rfl⟩
    have cok2 := cok.run mok i
    have hn := SqL.of (K := K) nw.hn
    have fin : runC m i c.cf = runC m j c.cf → (tRet (tTupB (tCons (tCal (spEnd K) (tCons (tVar 3) tNil)) (tCons (tVar 4) tNil)))) ⟨fun _ H' => Q .non H', Q, fun _ _ => False, fun _ _ => False⟩ [some vm, some v, some (.int j), some (.ref n), some (.int i)] H2 := fun e => by
      refine ⟨_, rfl, n, d, N + i, kvs, _, rfl, nw, ⟨by omega, by omega⟩, ⟨cok2.pl0, cok2.pl1⟩, cok2.sup, by omega, fun H3 v3 e3 s3 hv3 he3 sz3 => ?_⟩
      refine ⟨_, rfl, by simp, fun p H4 _ s4 g4 => ?_⟩
      refine k H4 _ e3 i (sTr (sTr s2 s3) s4) (.tup (.of g4) (.cons (sD s4 hv3) (.cons (.int _) .nil))) (he3.trans e) ?_
      have := sz3.p0
      have := sz3.p1
      have := sz3.f0
      have := sz3.f1
      have := sz3.f2
      exact ⟨by omega, by omega, by omega, by omega, by omega⟩
    refine ⟨_, rfl, _, rfl, _, _, rfl, rfl, _, rfl, ite2 (fun e => ?_) (fun e => ?_)⟩
    · have e1 : i < j := by
        have := of_decide_eq_true e
        omega
      refine ⟨_, rfl, n, _, 0, _, rfl, rfl, hn, atI_nat (j := 0) rfl, _, rfl, rfl, _, rfl, ite2 (fun e => ?_) (fun e => ?_)⟩
      · have e2 : (runC m i c.cf).st ≠ -1 := fun z => by
          rw [z] at e
          simp at e
        refine ⟨fun σ' H' => ∃ (i' : Nat) (kvs : List (Key × V)), σ' = [some vm, some v, some (.int j), some (.ref n), some (.int i')] ∧ Same H H' ∧ Now H' n d kvs (runC m i' c.cf) ∧ kvs.length ≤ c.cs.length + i' ∧ i' ≤ j ∧ j - i' < j - i,
          fun σ' H' ⟨i', kvs', h1, h2, h3, h4, h5, h6⟩ => ⟨_, h6, i', kvs', h1, h2, h3, h4, h5, rfl⟩, ?_⟩
        refine ⟨_, rfl, _, rfl, vm, n, d, m, kk, N + i, kvs, _, rfl, sD s2 hm, mok, nw, cok2, e2, by omega, fun H3 kvs3 b3 nw3 lk3 => ?_⟩
        refine ⟨_, rfl, _, _, rfl, rfl, i + 1, kvs3, rfl, fun b o h => b3 _ _ (s2 _ _ h) (ne_of_none h nn) (ne_of_none h nd), ?_, by omega, by omega, by omega⟩
        rw [runC_succ e2]
        exact nw3
      · have e2 : (runC m i c.cf).st = -1 := Classical.byContradiction fun z => e (by simp [z])
        refine fin ?_
        rw [show j = i + (j - i) by omega, runC_add, runC_stop e2]
    · have e1 : i = j := by
        have : ¬ ((i : Int) < (j : Int)) := fun z => e (decide_eq_true z)
        omega
      exact fin (by rw [e1])
end
end K19

/-! ## K19M -/
namespace K19
open PySem PySem.Spec PyProof.Rows L2
section
variable {P : Program} {w : World} {K : PySem.W.Frag} {mg : Str → Option Value} {base : Heap} {kS kC kR : Tok} {aB : Addr}
/-! ### runs with one more at the end -/
theorem sumC_app (R S : Runs) : sumC (R ++ S) = sumC R + sumC S := by
  unfold sumC
  rw [List.map_append, List.sum_append]
theorem sumC_one (p : Int × Int) : sumC [p] = p.2 := by
  rw [sumC_cons]
  show p.2 + 0 = p.2
  omega
theorem pnf_snoc : ∀ {R : Runs} {p : Int × Int}, PNF R → (∀ q, R.getLast? = some q → q.1 ≠ p.1) → 1 ≤ p.2 → PNF (R ++ [p])
  | [], p, _, _, h => ⟨h, (fun q hq => by cases hq), True.intro⟩
  | [a], p, h, hl, hp => ⟨h.1, (fun q hq => by
      have e : p = q := Option.some.inj hq
      rw [← e]
      exact hl a rfl), hp, (fun q hq => by cases hq), True.intro⟩
  | a :: b :: r, p, h, hl, hp => ⟨h.1, h.2.1, pnf_snoc (R := b :: r) h.2.2 (fun q hq => hl q (by rw [List.getLast?_cons_cons]; exact hq)) hp⟩
theorem pnf_init : ∀ {R : Runs} {p : Int × Int}, PNF (R ++ [p]) → PNF R ∧ (∀ q, R.getLast? = some q → q.1 ≠ p.1) ∧ 1 ≤ p.2
  | [], p, h => ⟨True.intro, (fun q hq => by cases hq), h.1⟩
  | [a], p, h => ⟨⟨h.1, (fun q hq => by cases hq), True.intro⟩, (fun q hq => by
      have e : a = q := Option.some.inj hq
      rw [← e]
      exact h.2.1 p rfl), h.2.2.1⟩
  | a :: b :: r, p, h => by
    obtain ⟨h1, h2, h3⟩ := pnf_init (R := b :: r) h.2.2
    exact ⟨⟨h.1, h.2.1, h1⟩, (fun q hq => h2 q (by rw [List.getLast?_cons_cons] at hq; exact hq)), h3⟩
theorem den_snoc : ∀ {R : Runs} {p : Int × Int} {j : Nat}, PNF R → 1 ≤ p.2 → den (R ++ [p]) j = if (j : Int) < sumC R then den R j else if (j : Int) < sumC R + p.2 then p.1 else 0
  | [], p, j, _, hp => by
    rw [if_neg (by show ¬ (j : Int) < 0; omega)]
    by_cases h : (j : Int) < p.2
    · rw [if_pos (by show (j : Int) < 0 + p.2; omega)]
      exact den_lt h
    · rw [if_neg (by show ¬ (j : Int) < 0 + p.2; omega)]
      show den [p] j = 0
      rw [den_ge h]
      rfl
  | a :: r, p, j, h, hp => by
    have a1 := h.1
    have s0 := h.2.2.sum0
    rw [sumC_cons]
    show den (a :: (r ++ [p])) j = _
    by_cases hj : (j : Int) < a.2
    · rw [den_lt hj, if_pos (by omega), den_lt hj]
    · rw [den_ge hj, den_snoc (R := r) h.2.2 hp]
      by_cases h1 : (j : Int) < a.2 + sumC r
      · rw [if_pos (by omega), if_pos h1, den_ge hj]
      · rw [if_neg (by omega), if_neg h1]
        by_cases h2 : (j : Int) < a.2 + sumC r + p.2
        · rw [if_pos (by omega), if_pos h2]
        · rw [if_neg (by omega), if_neg h2]
theorem den_out : ∀ {R : Runs} {j : Nat}, PNF R → sumC R ≤ j → den R j = 0
  | [], _, _, _ => rfl
  | a :: r, j, h, hj => by
    rw [sumC_cons] at hj
    have a1 := h.1
    have s0 := h.2.2.sum0
    rw [den_ge (by omega)]
    exact den_out h.2.2 (by omega)
/-- the runs of the first i cells -/
structure Gr (cs : List Int) (i : Nat) (R : Runs) : Prop where
  nf : PNF R
  sm : sumC R = i
  dn : ∀ j : Nat, j < i → den R j = cs.getD j 0
theorem Gr.more {cs : List Int} {i : Nat} {R : Runs} {x c : Int} (h : Gr cs i (R ++ [(x, c)])) (hx : cs[i]? = some x) : Gr cs (i + 1) (R ++ [(x, c + 1)]) := by
  obtain ⟨h1, h2, h3⟩ := pnf_init h.nf
  have sm := h.sm
  rw [sumC_app, sumC_one] at sm
  have h3 : 1 ≤ c := h3
  have sm : sumC R + c = i := sm
  refine ⟨pnf_snoc h1 h2 (by show 1 ≤ c + 1; omega), ?_, fun j hj => ?_⟩
  · rw [sumC_app, sumC_one]
    show sumC R + (c + 1) = ((i + 1 : Nat) : Int)
    omega
  · rw [den_snoc h1 (by show 1 ≤ c + 1; omega)]
    show (if (j : Int) < sumC R then den R j else if (j : Int) < sumC R + (c + 1) then x else 0) = _
    by_cases e : j = i
    · subst e
      rw [if_neg (by omega), if_pos (by omega), List.getD_eq_getElem?_getD, hx]
      rfl
    · rw [← h.dn j (by omega), den_snoc h1 h3]
      show _ = if (j : Int) < sumC R then den R j else if (j : Int) < sumC R + c then x else 0
      by_cases l : (j : Int) < sumC R
      · rw [if_pos l, if_pos l]
      · rw [if_neg l, if_neg l, if_pos (by omega), if_pos (by omega)]
theorem Gr.next {cs : List Int} {i : Nat} {R : Runs} {x : Int} (h : Gr cs i R) (hx : cs[i]? = some x) (hl : ∀ q, R.getLast? = some q → q.1 ≠ x) : Gr cs (i + 1) (R ++ [(x, 1)]) := by
  have sm := h.sm
  refine ⟨pnf_snoc h.nf hl (Int.le_refl 1), ?_, fun j hj => ?_⟩
  · rw [sumC_app, sumC_one]
    show sumC R + 1 = ((i + 1 : Nat) : Int)
    omega
  · rw [den_snoc h.nf (Int.le_refl 1)]
    show (if (j : Int) < sumC R then den R j else if (j : Int) < sumC R + 1 then x else 0) = _
    by_cases e : j = i
    · subst e
      rw [if_neg (by omega), if_pos (by omega), List.getD_eq_getElem?_getD, hx]
      rfl
    · rw [if_pos (by omega), h.dn j (by omega)]
/-- the end: without the blanks -/
structure Grd (cs : List Int) (R : Runs) : Prop where
  nf : NF R
  sm : sumC R ≤ cs.length
  dn : ∀ j : Nat, den R j = cs.getD j 0
theorem Gr.fin {cs : List Int} {R : Runs} (h : Gr cs cs.length R) (hl : ∀ q, R.getLast? = some q → q.1 ≠ 0) : Grd cs R := by
  have sm := h.sm
  refine ⟨⟨h.nf, hl⟩, by omega, fun j => ?_⟩
  by_cases e : j < cs.length
  · exact h.dn j e
  · rw [den_out h.nf (by omega), List.getD_eq_getElem?_getD, List.getElem?_eq_none (by omega)]
    rfl
theorem Gr.fin0 {cs : List Int} {R : Runs} {c : Int} (h : Gr cs cs.length (R ++ [(0, c)])) : Grd cs R := by
  obtain ⟨h1, h2, h3⟩ := pnf_init h.nf
  have h3 : 1 ≤ c := h3
  have sm := h.sm
  rw [sumC_app, sumC_one] at sm
  have sm : sumC R + c = cs.length := sm
  refine ⟨⟨h1, h2⟩, by omega, fun j => ?_⟩
  by_cases l : (j : Int) < sumC R
  · rw [← h.dn j (by omega), den_snoc h1 h3, if_pos l]
  · rw [den_out h1 (by omega)]
    by_cases e : j < cs.length
    · rw [← h.dn j e, den_snoc h1 h3, if_neg l]
      split <;> rfl
    · rw [List.getD_eq_getElem?_getD, List.getElem?_eq_none (by omega)]
      rfl
theorem TDs.snocE {H : Hp} : ∀ {ds : List PyData} {d : PyData} {vs : List V}, TDs K H vs (ds ++ [d]) → ∃ us x, vs = us ++ [x] ∧ TDs K H us ds ∧ TD K H x d
  | [], d, vs, h => by
    obtain ⟨x, xs, rfl, h1, h2⟩ := h.consE
    obtain rfl := h2.nilE
    exact ⟨[], x, rfl, .nil, h1⟩
  | e :: ds, d, vs, h => by
    obtain ⟨x, xs, rfl, h1, h2⟩ := h.consE
    obtain ⟨us, y, rfl, h3, h4⟩ := TDs.snocE (ds := ds) h2
    exact ⟨x :: us, y, rfl, .cons h1 h3, h4⟩
theorem ixN_last {α : Type} (us : List α) (x : α) : ixN (us ++ [x]).length (-1) = some us.length := by
  have hl : (us ++ [x]).length = us.length + 1 := by simp
  unfold ixN
  rw [hl, if_neg (by decide), if_pos (by omega)]
  congr 1
  omega
theorem set_last {α : Type} (us : List α) (x y : α) : (us ++ [x]).set us.length y = us ++ [y] := by
  rw [List.set_append_right _ _ (Nat.le_refl _), Nat.sub_self]
  rfl
theorem cut_last (us : List V) (x : V) : cutV (us ++ [x]) none (some (-1)) = us := by
  unfold cutV
  have hl : (us ++ [x]).length = us.length + 1 := by simp
  have e1 : HT.sIx (us ++ [x]).length 0 none = 0 := rfl
  have e2 : HT.sIx (us ++ [x]).length (us ++ [x]).length (some (-1)) = us.length := by
    show (if (-1 : Int) < 0 then ((-1 : Int) + ((us ++ [x]).length : Int)).toNat else min (-1 : Int).toNat (us ++ [x]).length) = us.length
    rw [if_pos (by decide), hl]
    omega
  rw [e1, e2, List.drop_zero, Nat.sub_zero, List.take_left']
  rfl
/-! ### _law_grouped -/
def spGrouped (K : PySem.W.Frag) : Sp := fun vs H Q _ => ∃ (a : Addr) (cs : List Int), vs = [.ref a] ∧ SqL K H a (cs.map V.int) ∧ cs.length ≤ 50000 ∧ ∀ H' v R, Same H H' → TD K H' v (eRuns R) → Grd cs R → Q v H'
theorem ok_law_grouped {f : Addr} {fd : FuncData} {k : Nat} (F : Fun K "_law_grouped" "_law_grouped" s_law_grouped f fd) (T : Txt mg kS kC kR aB) : FnOk P w K mg base CX0 (k + 1) f fd ["_law_cells"] (spGrouped K) := by
  refine F.ok sc_law_grouped (fun vs H Q E h => ?_) (fun cdv A outer s H vs Q E hr h => ?_)
  · obtain ⟨a, cs, rfl, _⟩ := h
    rfl
  · obtain ⟨a, cs, rfl, ha, hl, k⟩ := h
    refine ⟨_, (pss_cons (ps_set (i := 1) sc_law_grouped.nd rfl (.inl rfl) (pe_lstB pa_nil))
    (pss_cons (ps_for PassesOwn.never rfl (pi_list (pv 0)) (pg_name (i := 2) sc_law_grouped.nd rfl (.inl rfl))
      (pss_one (ps_if (PW.pt (pw_and (pt_truth (pv 1) (by intro _; rfl)) (pw_and1 (pt_cmpR op_eq (pe_ix ix_tup (pe_ix ix_list (pv 1) (pe_un un_neg pe_int) (fun _ _ => rfl)) pe_int (fun _ _ => rfl)) (pv 2) (nomark _)))))
        (pss_one (ps_asg (pe_tupB (pa_cons (pv 2) (pa_cons (pe_op op_add (pe_ix ix_tup (pe_ix ix_list (pv 1) (pe_un un_neg pe_int) (fun _ _ => rfl)) pe_int (fun _ _ => rfl)) pe_int) pa_nil))) (pg_sub (pv 1) (pe_un un_neg pe_int) set_list)))
        (pss_one (ps_expr (pe_bm PySem.F.plainAttrs_list PySem.F.slot_list_append PySem.F.type_list_append mt_append (pv 1) (pa_cons (pe_tupB (pa_cons (pv 2) (pa_cons pe_int pa_nil))) pa_nil)))))))
    (Evl.pss_cut (ps_if (PW.pt (pw_and (pt_truth (pv 1) (by intro _; rfl)) (pw_and1 (pt_cmpR op_eq (pe_ix ix_tup (pe_ix ix_list (pv 1) (pe_un un_neg pe_int) (fun _ _ => rfl)) pe_int (fun _ _ => rfl)) pe_int (nomark _)))))
      (pss_one (ps_set (i := 1) sc_law_grouped.nd rfl (.inl rfl) (pe_slice sl_listB (pv 1) po_none (po_some (pe_un un_neg pe_int)))))
      pss_nil)
    (pss_one (ps_ret (pe_callTy call_tupB (by rfl) T.tuple (by decide +kernel) (pa_cons (pv 1) pa_nil))))))), ?_⟩
    refine ⟨by simp, fun p H1 np s1 g1 => ?_⟩
    refine ⟨_, rfl, a, rfl, ⟨_, sL s1 ha⟩, for_list (K := K) (a := a) (xs := cs.map V.int) (fun i σ H2 => ∃ (R : Runs) (v : Option V), σ = [some (.ref a), some (.ref p), v] ∧ Same H H2 ∧ LD K H2 p (R.map eRun) ∧ Gr cs i R) ⟨[], none, rfl, s1, ⟨[], g1, .nil⟩, True.intro, rfl, fun j h => absurd h (Nat.not_lt_zero j)⟩
      (fun i σ H2 _ ⟨_, _, _, s2, _⟩ => sL s2 ha) ?_ ?_⟩
    · rintro i y σ H2 hi ⟨R, v, rfl, s2, ⟨vs, hp, hvs⟩, gr⟩
      obtain ⟨x, hx, rfl⟩ : ∃ x, cs[i]? = some x ∧ y = V.int x := by
        rw [List.getElem?_map] at hi
        cases e : cs[i]? with
        | none => rw [e] at hi; cases hi
        | some x => rw [e] at hi; exact ⟨x, rfl, (Option.some.inj hi).symm⟩
      have hic := (List.getElem?_eq_some_iff.mp hx).1
      have lvs := hvs.len
      rw [List.length_map] at lvs
      have lR := gr.nf.len
      have sR := gr.sm
      have upds : ∀ (H3 : Hp) (o : HO), Same H H3 → Same H (upd H3 p o) := fun H3 o s3 b u h => by
        rw [upd_ne (ne_of_none h np)]
        exact s3 b u h
      have app : (∀ q, R.getLast? = some q → q.1 ≠ x) → ∀ H4, H2 = H4 → ∀ p5 H5, Same H4 H5 → H5 p5 = some (.tup [.int x, .int 1]) → ∃ l xs y, V.ref p = .ref l ∧ [V.ref p5] = [y] ∧ H5 l = some (.lst xs) ∧ xs.length < sizeLine ∧
          (fun σ H2 => ∃ (R : Runs) (v : Option V), σ = [some (.ref a), some (.ref p), v] ∧ Same H H2 ∧ LD K H2 p (R.map eRun) ∧ Gr cs (i + 1) R) [some (.ref a), some (.ref p), some (.int x)] (upd H5 l (.lst (xs ++ [y]))) := by
        intro hne H4 e4 p5 H5 s5 g5
        subst e4
        refine ⟨p, vs, _, rfl, rfl, s5 _ _ hp, sizeKlt (by omega), R ++ [(x, 1)], _, rfl, upds _ _ (sTr s2 s5), ?_, gr.next hx hne⟩
        rw [List.map_append]
        exact LD.app (s5 _ _ hp) (sDs s5 hvs) (.tup (.of g5) (.cons (.int _) (.cons (.int _) .nil)))
      rcases List.eq_nil_or_concat R with e | ⟨R0, q, e⟩
      · subst e
        obtain rfl := hvs.nilE
        refine ⟨_, rfl, false, truL (.of hp), ?_⟩
        exact ⟨_, rfl, .inl ⟨rfl, _, .of hp⟩, _, rfl, by simp, fun p5 H5 _ s5 g5 => app (fun q hq => by cases hq) _ rfl p5 H5 s5 g5⟩
      · rw [List.concat_eq_append] at e
        subst e
        rw [List.map_append] at hvs
        obtain ⟨us, z, rfl, hus, hz⟩ := TDs.snocE hvs
        obtain ⟨c, rfl, hc⟩ := runE hz
        have tr : TruV K (.ref p) H2 true := by
          have := truL (K := K) (SqL.of hp)
          rw [show (!(us ++ [V.ref c]).isEmpty) = true by cases us <;> rfl] at this
          exact this
        have atl : atI (us ++ [V.ref c]) (-1) = some (V.ref c) := atI_last us (V.ref c)
        refine ⟨_, rfl, true, tr, ?_⟩
        refine ⟨_, rfl, _, rfl, p, _, _, _, rfl, rfl, .of hp, atl, c, _, 0, _, rfl, rfl, hc, atI_nat (j := 0) rfl, _, rfl, rfl, _, rfl, ite2 (fun e => ?_) (fun e => ?_)⟩
        · have e1 : q.1 = x := V.int.inj (of_decide_eq_true e)
          refine ⟨_, rfl, _, rfl, _, rfl, p, _, _, _, rfl, rfl, .of hp, atl, c, _, 1, _, rfl, rfl, hc, atI_nat (j := 1) rfl, _, _, rfl, rfl, by simp, fun p5 H5 _ s5 g5 => ?_⟩
          refine ⟨_, rfl, _, rfl, p, _, _, us.length, rfl, rfl, s5 _ _ hp, ixN_last us _, ?_⟩
          rw [set_last]
          refine ⟨R0 ++ [(x, q.2 + 1)], _, rfl, upds _ _ (sTr s2 s5), ?_, ?_⟩
          · have kt : KT K H5 (upd H5 p (.lst (us ++ [.ref p5]))) := But.ktL But.put (s5 _ _ hp)
            refine ⟨_, upd_same, ?_⟩
            rw [List.map_append]
            exact TDs.app (TDs.keep kt _ (sDs s5 hus)) (.cons (TD.keep kt _ (.tup (.of g5) (.cons (.int _) (.cons (.int _) .nil)))) .nil)
          · have gr' : Gr cs i (R0 ++ [(x, q.2)]) := by
              rw [← e1]
              exact gr
            exact gr'.more hx
        · have e1 : q.1 ≠ x := fun z => e (by rw [z]; exact decide_eq_true rfl)
          refine ⟨_, rfl, .inl ⟨rfl, _, .of hp⟩, _, rfl, by simp, fun p5 H5 _ s5 g5 => app (fun q' hq' => ?_) _ rfl p5 H5 s5 g5⟩
          rw [List.getLast?_concat] at hq'
          rw [← Option.some.inj hq']
          exact e1
    · rintro σ H2 ⟨R, v, rfl, s2, ⟨vs, hp, hvs⟩, gr⟩
      rw [List.length_map] at gr
      refine ⟨fun σ' H' => ∃ (R : Runs) (p' : Addr), σ' = [some (.ref a), some (.ref p'), v] ∧ Same H H' ∧ LD K H' p' (R.map eRun) ∧ Grd cs R, ?_, fun σ' H' hM => ?_⟩
      · rcases List.eq_nil_or_concat R with e | ⟨R0, q, e⟩
        · subst e
          obtain rfl := hvs.nilE
          exact ⟨_, rfl, false, truL (.of hp), [], p, rfl, s2, ⟨_, hp, .nil⟩, gr.fin fun q hq => by cases hq⟩
        · rw [List.concat_eq_append] at e
          subst e
          have hvs0 := hvs
          rw [List.map_append] at hvs
          obtain ⟨us, z, rfl, hus, hz⟩ := TDs.snocE hvs
          obtain ⟨c, rfl, hc⟩ := runE hz
          have tr : TruV K (.ref p) H2 true := by
            have := truL (K := K) (SqL.of hp)
            rw [show (!(us ++ [V.ref c]).isEmpty) = true by cases us <;> rfl] at this
            exact this
          have atl : atI (us ++ [V.ref c]) (-1) = some (V.ref c) := atI_last us (V.ref c)
          refine ⟨_, rfl, true, tr, ?_⟩
          refine ⟨_, rfl, _, rfl, p, _, _, _, rfl, rfl, .of hp, atl, c, _, 0, _, rfl, rfl, hc, atI_nat (j := 0) rfl, rfl, _, rfl, ite2 (fun e => ?_) (fun e => ?_)⟩
          · have e1 : q.1 = 0 := V.int.inj (of_decide_eq_true e)
            refine ⟨_, rfl, _, rfl, _, rfl, p, _, rfl, .of hp, fun p5 H5 _ s5 g5 => ⟨R0, p5, rfl, sTr s2 s5, ?_, ?_⟩⟩
            · have g5' : H5 p5 = some (.lst (cutV (us ++ [V.ref c]) none (some (-1)))) := g5
              rw [cut_last] at g5'
              exact ⟨us, g5', sDs s5 hus⟩
            · have gr' : Gr cs cs.length (R0 ++ [(0, q.2)]) := by
                rw [← e1]
                exact gr
              exact gr'.fin0
          · have e1 : q.1 ≠ 0 := fun z => e (by rw [z]; exact decide_eq_true rfl)
            refine ⟨_, p, rfl, s2, ⟨_, hp, hvs0⟩, gr.fin fun q' hq' => ?_⟩
            rw [List.getLast?_concat] at hq'
            rw [← Option.some.inj hq']
            exact e1
      · obtain ⟨R, p', rfl, s3, ⟨vs, hp', hvs'⟩, gd⟩ := hM
        refine ⟨_, rfl, p', vs, rfl, .of hp', fun p5 H5 _ s5 g5 => ?_⟩
        exact k H5 _ R (sTr s3 s5) (.tup (.of g5) (sDs s5 hvs')) gd
end
end K19

/-! ## K19O -/
namespace K19
open PySem PySem.Spec PyProof.Rows L2
section
variable {P : Program} {w : World} {K : PySem.W.Frag} {mg : Str → Option Value} {base : Heap} {kS kC kR : Tok} {aB : Addr}
/-! ### _law_to_runs -/
theorem rng_getD {n : Nat} {g : Nat → Int} (hz : ∀ j, n ≤ j → g j = 0) (j : Nat) : ((List.range n).map g).getD j 0 = g j := by
  rw [List.getD_eq_getElem?_getD, List.getElem?_map]
  by_cases h : j < n
  · rw [List.getElem?_range h]
    rfl
  · rw [List.getElem?_eq_none (by rw [List.length_range]; omega), hz j (by omega)]
    rfl
def spToRuns (K : PySem.W.Frag) : Sp := fun vs H Q _ => ∃ (v : V) (c : Cd) (N : Int), vs = [v] ∧ TD K H v (eConf c) ∧ SzOk N c ∧ (0 ≤ N ∧ N ≤ 20000) ∧
  ∀ H' v' T, Same H H' → TD K H' v' (eTape T) → Abs T c.cf → sumC T.lf ≤ c.pl + N → sumC T.rt ≤ N - c.pl → Q v' H'
theorem ok_law_to_runs {f : Addr} {fd : FuncData} {k : Nat} (F : Fun K "_law_to_runs" "_law_to_runs" s_law_to_runs f fd) (T : Txt mg kS kC kR aB) (C_law_grouped : Cal P w K mg base k "_law_grouped" ["_law_cells"] (spGrouped K)) : FnOk P w K mg base CX0 (k + 1) f fd ["_law_value"] (spToRuns K) := by
  refine F.ok sc_law_to_runs (fun vs H Q E h => ?_) (fun cdv A outer s H vs Q E hr h => ?_)
  · obtain ⟨v, c, N, rfl, _⟩ := h
    rfl
  · obtain ⟨v, c, N, rfl, hv, sz, ⟨N0, N1⟩, k⟩ := h
    refine ⟨_, (pss_cons (ps_asg (pv 0) (pg_tup rfl (pgs_cons (pg_name (i := 1) sc_law_to_runs.nd rfl (.inl rfl)) (pgs_cons (pg_name (i := 2) sc_law_to_runs.nd rfl (.inr rfl)) (pgs_cons (pg_name (i := 3) sc_law_to_runs.nd rfl (.inl rfl)) (pgs_cons (pg_name (i := 4) sc_law_to_runs.nd rfl (.inl rfl)) pgs_nil))))))
    (pss_cons (ps_set (i := 5) sc_law_to_runs.nd rfl (.inr rfl) pe_dnewB)
    (pss_cons (ps_for PassesOwn.never rfl (pi_range1 (by rfl) T.range (pa_cons (pe_callB call_len_seq (by rfl) T.len PySem.boot_len (pa_cons (pv 4) pa_nil)) pa_nil)) (pg_name (i := 6) sc_law_to_runs.nd rfl (.inl rfl))
      (pss_one (ps_dput (hu_of hr) (pv 5) (pe_op op_add (pv 3) (pv 6)) (pe_ix ix_tup (pv 4) (pv 6) (fun _ _ => rfl)) rfl)))
    (pss_cons (ps_set (i := 7) sc_law_to_runs.nd rfl (.inl rfl) (pe_callB (call_min2 rfl) (by rfl) T.min (by decide +kernel) (pa_cons (pv 3) (pa_cons (pv 2) pa_nil))))
    (pss_cons (ps_set (i := 8) sc_law_to_runs.nd rfl (.inl rfl) (pe_callB (call_max2 rfl) (by rfl) T.max (by decide +kernel) (pa_cons (pe_op op_sub (pe_op op_add (pv 3) (pe_callB call_len_seq (by rfl) T.len PySem.boot_len (pa_cons (pv 4) pa_nil))) pe_int) (pa_cons (pv 2) pa_nil))))
    (pss_cons (ps_setLc (i := 9) (own := [("_law_k", 6)]) rfl sc_law_to_runs.nd rfl rfl (sw_true rfl rfl rfl (by decide +kernel)) (pi_range1 (by rfl) T.range (pa_cons (pe_op op_sub (pv 2) (pv 7)) pa_nil)) (blkOk_by (N := N_law_to_runs) (sc := defScope s_law_to_runs) (by decide +kernel)) (fun _ _ _ _ _ => (pg_name (i := 6) sc_law_to_runs.nd rfl (.inl rfl))) (fun _ _ _ _ _ => pts_nil) (fun _ _ _ _ _ => (pe_dget2 (hu_of hr) (pv 5) (pe_op op_sub (pe_op op_sub (pv 2) pe_int) (pv 6)) pe_int ⟨by rfl, by rfl, by rfl, by rfl⟩)))
    (pss_cons (ps_setLc (i := 10) (own := [("_law_k", 6)]) rfl sc_law_to_runs.nd rfl rfl (sw_true rfl rfl rfl (by decide +kernel)) (pi_range1 (by rfl) T.range (pa_cons (pe_op op_sub (pv 8) (pv 2)) pa_nil)) (blkOk_by (N := N_law_to_runs) (sc := defScope s_law_to_runs) (by decide +kernel)) (fun _ _ _ _ _ => (pg_name (i := 6) sc_law_to_runs.nd rfl (.inl rfl))) (fun _ _ _ _ _ => pts_nil) (fun _ _ _ _ _ => (pe_dget2 (hu_of hr) (pv 5) (pe_op op_add (pe_op op_add (pv 2) pe_int) (pv 6)) pe_int ⟨by rfl, by rfl, by rfl, by rfl⟩)))
    (pss_one (ps_ret (pe_tupB (pa_cons (pv 1) (pa_cons (pv 2) (pa_cons (pe_dget2 (hu_of hr) (pv 5) (pv 2) pe_int ⟨by rfl, by rfl, by rfl, by rfl⟩) (pa_cons (pe_cal C_law_grouped hr (by rfl) (pa_cons (pv 9) pa_nil)) (pa_cons (pe_cal C_law_grouped hr (by rfl) (pa_cons (pv 10) pa_nil)) pa_nil))))))))))))))), ?_⟩
    have p0 := sz.p0
    have p1 := sz.p1
    have f0 := sz.f0
    have f1 := sz.f1
    have f2 := sz.f2
    obtain ⟨a, b, rfl, ha, hb⟩ := confE hv
    refine ⟨_, rfl, a, _, rfl, ha, rfl, _, _, rfl, _, _, rfl, _, _, rfl, _, _, rfl, rfl, ?_⟩
    intro d H1 nd s1 g1
    refine fill_T (K := K) (ic := 4) (ik := 6) (id := 5) (iF := 3) (b := b) (d := d) (fs := c.fs) (cs := c.cs) rfl rfl rfl (by decide) (by decide) (by decide) (show 6 < 11 by decide) (sT s1 hb) g1 (by omega) ?_
    intro v6 H2 kvs bt h2 df lk
    have s2 : Same H H2 := fun b o h => bt b o (s1 b o h) (ne_of_none h nd)
    have lcs : ((c.cs.map V.int).length : Int) = c.cs.length := by rw [List.length_map]
    refine ⟨_, rfl, _, rfl, _, _, rfl, ?_⟩
    obtain ⟨low, hlow⟩ : ∃ low, (if c.pl < c.fs then c.pl else c.fs) = low := ⟨_, rfl⟩
    rw [hlow]
    have low1 : low ≤ c.pl ∧ low ≤ c.fs ∧ -N ≤ low := by split at hlow <;> omega
    refine ⟨_, rfl, _, rfl, b, _, rfl, .inr (sT s2 hb), _, _, rfl, rfl, _, _, rfl, rfl, _, rfl, _, _, rfl, ?_⟩
    obtain ⟨high, hhigh⟩ : ∃ high, (if c.pl > c.fs + ((c.cs.map V.int).length : Int) - 1 then c.pl else c.fs + ((c.cs.map V.int).length : Int) - 1) = high := ⟨_, rfl⟩
    rw [hhigh]
    rw [lcs] at hhigh
    have high1 : c.pl ≤ high ∧ c.fs + c.cs.length - 1 ≤ high ∧ high ≤ N := by split at hhigh <;> omega
    refine ⟨_, rfl, _, rfl, _, _, rfl, rfl, _, rfl, by omega, by omega, fun D1 nD1 => ?_⟩
    refine lc_range (lo := 0) (n := (c.pl - low).toNat) (fun i H' => Same H2 H' ∧ H' D1 = some (.lst (((List.range i).map fun j : Nat => cellF c.fs c.cs (c.pl - 1 - (j : Int))).map V.int))) ⟨same_new nD1, upd_same⟩ ?_ ?_
    · rintro i H3 hi ⟨s3, h3⟩
      refine ⟨rfl, _, rfl, d, rfl, .inl ⟨kvs, .inl (s3 _ _ h2)⟩, _, rfl, _, _, rfl, rfl, _, rfl, _, _, rfl, rfl, _, DGet.k (k := Sum.inl (c.pl - 1 - (0 + (i : Int)))) (s3 _ _ h2), _, h3, sizeKlt (by rw [List.length_map, List.length_map, List.length_range]; omega), fun b o h => ?_, ?_⟩
      · rw [upd_ne (ne_of_none h nD1)]
        exact s3 _ _ h
      · rw [upd_same, List.range_succ, List.map_append, List.map_append, df.get, Int.zero_add]
        rfl
    rintro H3 ⟨s3, h3⟩
    refine ⟨_, rfl, _, rfl, _, _, rfl, rfl, _, rfl, by omega, by omega, fun D2 nD2 => ?_⟩
    refine lc_range (lo := 0) (n := (high - c.pl).toNat) (fun i H' => Same H3 H' ∧ H' D2 = some (.lst (((List.range i).map fun j : Nat => cellF c.fs c.cs (c.pl + 1 + (j : Int))).map V.int))) ⟨same_new nD2, upd_same⟩ ?_ ?_
    · rintro i H4 hi ⟨s4, h4⟩
      refine ⟨rfl, _, rfl, d, rfl, .inl ⟨kvs, .inl (s4 _ _ (s3 _ _ h2))⟩, _, rfl, _, _, rfl, rfl, _, rfl, _, _, rfl, rfl, _, DGet.k (k := Sum.inl (c.pl + 1 + (0 + (i : Int)))) (s4 _ _ (s3 _ _ h2)), _, h4, sizeKlt (by rw [List.length_map, List.length_map, List.length_range]; omega), fun b o h => ?_, ?_⟩
      · rw [upd_ne (ne_of_none h nD2)]
        exact s4 _ _ h
      · rw [upd_same, List.range_succ, List.map_append, List.map_append, df.get, Int.zero_add]
        rfl
    rintro H4 ⟨s4, h4⟩
    have s24 := sTr s2 (sTr s3 s4)
    refine ⟨_, rfl, _, rfl, _, rfl, d, rfl, .inl ⟨kvs, .inl (s4 _ _ (s3 _ _ h2))⟩, _, rfl, _, DGet.k (k := Sum.inl c.pl) (s4 _ _ (s3 _ _ h2)), ?_⟩
    refine ⟨_, rfl, D1, _, rfl, .of (s4 _ _ h3), by rw [List.length_map, List.length_range]; omega, fun H5 v5 R1 s5 hv5 gd1 => ?_⟩
    refine ⟨_, rfl, D2, _, rfl, .of (s5 _ _ h4), by rw [List.length_map, List.length_range]; omega, fun H6 v6' R2 s6 hv6 gd2 => ⟨by simp, fun p7 H7 _ s7 g7 => ?_⟩⟩
    rw [df.get c.pl] at g7
    have sm1 := gd1.sm
    have sm2 := gd2.sm
    rw [List.length_map, List.length_range] at sm1 sm2
    refine k H7 _ ⟨c.st, c.pl, cellF c.fs c.cs c.pl, R1, R2⟩ (sTr (sTr (sTr s24 s5) s6) s7) (tape_mk g7 (sD (sTr s6 s7) hv5) (sD s7 hv6)) ⟨rfl, rfl, rfl, gd1.nf, gd2.nf, fun j => ?_, fun j => ?_⟩ (by show sumC R1 ≤ _; omega) (by show sumC R2 ≤ _; omega)
    · show den R1 j = _
      rw [gd1.dn, rng_getD (fun j hj => cellF_out (by omega))]
      rfl
    · show den R2 j = _
      rw [gd2.dn, rng_getD (fun j hj => cellF_out (by omega))]
      rfl
end
end K19

/-! ## K19P -/
namespace K19
open PySem PySem.Spec PyProof.Rows L2
section
variable {P : Program} {w : World} {K : PySem.W.Frag} {mg : Str → Option Value} {base : Heap} {kS kC kR : Tok} {aB : Addr}
/-! ### _law_count -/
def spCount (K : PySem.W.Frag) : Sp := fun vs H Q _ => ∃ (vm v : V) (m : Mach) (kk : Nat) (N : Int) (c : Cd), vs = [vm, v] ∧ TD K H vm (eMach m) ∧ MOk m kk ∧ TD K H v (eConf c) ∧ SzOk N c ∧ CfOk m kk N c.cf ∧ (0 ≤ N ∧ N ≤ 20000) ∧ c.st ≠ -1 ∧
  ∀ H' z, Same H H' → IsLeap m c.cf z → 0 ≤ z → z ≤ 5 * N + 100 → Q (.int z) H'
theorem ok_law_count {f : Addr} {fd : FuncData} {k : Nat} (F : Fun K "_law_count" "_law_count" s_law_count f fd) (T : Txt mg kS kC kR aB) : FnOk P w K mg base CX0 (k + 1) f fd ["_law_machine_here", "_law_value"] (spCount K) := by
  refine F.ok sc_law_count (fun vs H Q E h => ?_) (fun cdv A outer s H vs Q E hr h => ?_)
  · obtain ⟨vm, v, m, kk, N, c, rfl, _⟩ := h
    rfl
  · obtain ⟨vm, v, m, kk, N, c, rfl, hm, mok, hv, sz, cok, ⟨N0, N1⟩, hst, k⟩ := h
    refine ⟨_, (pss_cons (ps_asg (pv 1) (pg_tup rfl (pgs_cons (pg_name (i := 2) sc_law_count.nd rfl (.inl rfl)) (pgs_cons (pg_name (i := 3) sc_law_count.nd rfl (.inl rfl)) (pgs_cons (pg_name (i := 4) sc_law_count.nd rfl (.inl rfl)) (pgs_cons (pg_name (i := 5) sc_law_count.nd rfl (.inl rfl)) pgs_nil))))))
    (pss_cons (ps_set (i := 6) sc_law_count.nd rfl (.inl rfl) pe_dnewB)
    (pss_cons (ps_for PassesOwn.never rfl (pi_range1 (by rfl) T.range (pa_cons (pe_callB call_len_seq (by rfl) T.len PySem.boot_len (pa_cons (pv 5) pa_nil)) pa_nil)) (pg_name (i := 7) sc_law_count.nd rfl (.inl rfl))
      (pss_one (ps_dput (hu_of hr) (pv 6) (pe_op op_add (pv 4) (pv 7)) (pe_ix ix_tup (pv 5) (pv 7) (fun _ _ => rfl)) rfl)))
    (pss_cons (ps_set (i := 8) sc_law_count.nd rfl (.inl rfl) (pe_dget2 (hu_of hr) (pv 6) (pv 3) pe_int ⟨by rfl, by rfl, by rfl, by rfl⟩))
    (pss_cons (ps_asg (pe_ix ix_tup (pe_ix ix_tup (pv 0) (pv 2) (fun _ _ => rfl)) (pv 8) (fun _ _ => rfl)) (pg_tup rfl (pgs_cons (pg_name (i := 9) sc_law_count.nd rfl (.inl rfl)) (pgs_cons (pg_name (i := 10) sc_law_count.nd rfl (.inl rfl)) (pgs_cons (pg_name (i := 11) sc_law_count.nd rfl (.inl rfl)) pgs_nil)))))
    (pss_cons (ps_if (PW.pt (pw_or (pt_cmpR op_ne (pv 11) (pv 2) (nomark _)) (pw_or1 (pt_cmpR op_ne (pe_dget2 (hu_of hr) (pv 6) (pe_op op_add (pv 3) (pv 10)) pe_int ⟨by rfl, by rfl, by rfl, by rfl⟩) (pv 8) (nomark _)))))
      (pss_one (ps_ret pe_int))
      pss_nil)
    (pss_cons (ps_set (i := 12) sc_law_count.nd rfl (.inl rfl) pe_int)
    (pss_cons (ps_while PassesOwn.never (pt_cmpR op_le (pv 12) (pe_op op_add (pe_op op_add (pe_callB call_len_seq (by rfl) T.len PySem.boot_len (pa_cons (pv 5) pa_nil)) (pe_callB call_abs (by rfl) T.abs (by decide +kernel) (pa_cons (pe_op op_sub (pv 3) (pv 4)) pa_nil))) pe_int) (nomark _))
      (pss_cons (ps_if (pt_cmpR op_ne (pe_dget2 (hu_of hr) (pv 6) (pe_op op_add (pv 3) (pe_op op_mul (pv 10) (pv 12))) pe_int ⟨by rfl, by rfl, by rfl, by rfl⟩) (pv 8) (nomark _))
        (pss_one (ps_ret (pv 12)))
        pss_nil)
      (pss_one (ps_set (i := 12) sc_law_count.nd rfl (.inl rfl) (pe_op op_add (pv 12) pe_int)))))
    (pss_one (ps_ret pe_int)))))))))), ?_⟩
    have p0 := sz.p0
    have p1 := sz.p1
    have f0 := sz.f0
    have f1 := sz.f1
    have f2 := sz.f2
    have st0 := cok.st0
    obtain ⟨a, b, rfl, ha, hb⟩ := confE hv
    have c0 : (-1 : Int) ≤ c.st := st0
    obtain ⟨r', q', _, _, e6, _, q2, _⟩ := mok.at_ (s := c.st) (x := cellF c.fs c.cs c.pl) (by omega) cok.st1 (cok.sy0 _) (cok.sy1 _)
    obtain ⟨am, xs, bm, ys, cm, rfl, h1, e1, h2, e2, _, h3⟩ := machE mok hm (s := c.st) (x := cellF c.fs c.cs c.pl) (by omega) cok.st1 (cok.sy0 _) (cok.sy1 _)
    refine ⟨_, rfl, a, _, rfl, ha, rfl, _, _, rfl, _, _, rfl, _, _, rfl, _, _, rfl, rfl, ?_⟩
    intro d H1 nd s1 g1
    refine fill_T (K := K) (ic := 5) (ik := 7) (id := 6) (iF := 4) (b := b) (d := d) (fs := c.fs) (cs := c.cs) rfl rfl rfl (by decide) (by decide) (by decide) (show 7 < 13 by decide) (sT s1 hb) g1 (by omega) ?_
    intro v7 H2 kvs bt hd df lk
    have s2 : Same H H2 := fun b o h => bt b o (s1 b o h) (ne_of_none h nd)
    have lcs : ((c.cs.map V.int).length : Int) = c.cs.length := by rw [List.length_map]
    refine ⟨_, rfl, d, rfl, .inl ⟨kvs, .inl hd⟩, _, rfl, _, DGet.k (k := Sum.inl c.pl) hd, ?_⟩
    rw [df.get c.pl]
    refine ⟨_, rfl, _, rfl, am, xs, _, _, rfl, rfl, sT s2 h1, e1, _, rfl, bm, ys, _, _, rfl, rfl, sT s2 h2, e2, cm, _, rfl, sT s2 h3, rfl, _, _, rfl, _, _, rfl, _, _, rfl, rfl, ?_⟩
    rw [e6] at h3 ⊢
    have lone : (q'.2.2 ≠ c.st ∨ cellF c.fs c.cs (c.pl + q'.2.1) ≠ cellF c.fs c.cs c.pl) → Q (.int 1) H2 := fun hne => by
      refine k H2 1 s2 ⟨fun _ => rfl, fun g1 g2 => ?_⟩ (by omega) (by omega)
      have g1 : (ruleAt m c.st (cellF c.fs c.cs c.pl)).2.2 = c.st := g1
      have g2 : cellF c.fs c.cs (c.pl + (ruleAt m c.st (cellF c.fs c.cs c.pl)).2.1) = cellF c.fs c.cs c.pl := g2
      rw [e6] at g1 g2
      rcases hne with z | z
      · exact absurd g1 z
      · exact absurd g2 z
    refine ⟨_, rfl, _, rfl, rfl, _, rfl, ite2 (fun e => ?_) (fun e => ?_)⟩
    · refine lone (.inl fun z => ?_)
      rw [z] at e
      simp at e
    have w1 : q'.2.2 = c.st := Classical.byContradiction fun z => e (by simp [z])
    refine ⟨_, rfl, d, rfl, .inl ⟨kvs, .inl hd⟩, _, rfl, _, rfl, _, _, rfl, rfl, _, DGet.k (k := Sum.inl (c.pl + q'.2.1)) hd, ?_⟩
    rw [df.get (c.pl + q'.2.1)]
    refine ⟨_, rfl, rfl, _, rfl, ite2 (fun e => ?_) (fun e => ?_)⟩
    · refine lone (.inr fun z => ?_)
      rw [z] at e
      simp at e
    have w2 : cellF c.fs c.cs (c.pl + q'.2.1) = cellF c.fs c.cs c.pl := Classical.byContradiction fun z => e (by simp [z])
    have ans : ∀ z : Int, 0 ≤ z → z ≤ 5 * N + 100 → ((1 ≤ z ∧ (∀ i : Nat, (i : Int) < z → cellF c.fs c.cs (c.pl + q'.2.1 * i) = cellF c.fs c.cs c.pl) ∧ cellF c.fs c.cs (c.pl + q'.2.1 * z) ≠ cellF c.fs c.cs c.pl) ∨ (z = 0 ∧ ∀ i : Nat, cellF c.fs c.cs (c.pl + q'.2.1 * i) = cellF c.fs c.cs c.pl)) → Q (.int z) H2 := fun z z0 z1 h => by
      refine k H2 z s2 ⟨fun g => ?_, fun _ _ => ?_⟩ z0 z1
      · have g : (ruleAt m c.st (cellF c.fs c.cs c.pl)).2.2 ≠ c.st ∨ cellF c.fs c.cs (c.pl + (ruleAt m c.st (cellF c.fs c.cs c.pl)).2.1) ≠ cellF c.fs c.cs c.pl := g
        rw [e6] at g
        rcases g with g | g
        · exact absurd w1 g
        · exact absurd w2 g
      · show (1 ≤ z ∧ (∀ i : Nat, (i : Int) < z → cellF c.fs c.cs (c.pl + (ruleAt m c.st (cellF c.fs c.cs c.pl)).2.1 * i) = cellF c.fs c.cs c.pl) ∧ cellF c.fs c.cs (c.pl + (ruleAt m c.st (cellF c.fs c.cs c.pl)).2.1 * z) ≠ cellF c.fs c.cs c.pl) ∨ (z = 0 ∧ ∀ i : Nat, cellF c.fs c.cs (c.pl + (ruleAt m c.st (cellF c.fs c.cs c.pl)).2.1 * i) = cellF c.fs c.cs c.pl)
        rw [e6]
        exact h
    obtain ⟨L, hL⟩ : ∃ L : Int, (c.cs.length : Int) + (if c.pl - c.fs < 0 then -(c.pl - c.fs) else c.pl - c.fs) + 40 = L := ⟨_, rfl⟩
    have L0 : c.cs.length + 40 ≤ L ∧ L ≤ 4 * N + 50 ∧ c.pl - c.fs ≤ L - c.cs.length - 40 ∧ c.fs - c.pl ≤ L - c.cs.length - 40 := by split at hL <;> omega
    generalize q'.1 = wr
    generalize q'.2.1 = mv at *
    generalize q'.2.2 = af at *
    refine ⟨fun mu σ' H' => ∃ i : Nat, σ' = [some (.ref am), some (.ref a), some (.int c.st), some (.int c.pl), some (.int c.fs), some (.ref b), some (.ref d), v7, some (.int (cellF c.fs c.cs c.pl)), some (.int wr), some (.int mv), some (.int af), some (.int i)] ∧ H2 = H' ∧
      (∀ i' : Nat, i' < i → cellF c.fs c.cs (c.pl + mv * i') = cellF c.fs c.cs c.pl) ∧ (i : Int) ≤ L + 1 ∧ mu = (L + 1 - i).toNat, ⟨_, 0, rfl, rfl, fun i h => absurd h (Nat.not_lt_zero i), by omega, rfl⟩, ?_⟩
    rintro mu σ' H' ⟨i, rfl, rfl, hall, hiL, rfl⟩
    refine ⟨_, rfl, _, rfl, b, _, rfl, .inr (sT s2 hb), _, rfl, _, rfl, _, _, rfl, rfl, _, rfl, _, _, rfl, rfl, _, _, rfl, rfl, _, _, rfl, rfl, _, rfl, ?_⟩
    show (if decide ((i : Int) ≤ ((c.cs.map V.int).length : Int) + (if c.pl - c.fs < 0 then -(c.pl - c.fs) else c.pl - c.fs) + 40) = true then _ else _)
    rw [lcs, hL]
    refine ite2 (fun e => ?_) (fun e => ?_)
    · have i1 : (i : Int) ≤ L := of_decide_eq_true e
      refine ⟨fun σ' H' => ∃ i' : Nat, σ' = [some (.ref am), some (.ref a), some (.int c.st), some (.int c.pl), some (.int c.fs), some (.ref b), some (.ref d), v7, some (.int (cellF c.fs c.cs c.pl)), some (.int wr), some (.int mv), some (.int af), some (.int i')] ∧ H2 = H' ∧
        (∀ j : Nat, j < i' → cellF c.fs c.cs (c.pl + mv * j) = cellF c.fs c.cs c.pl) ∧ (i' : Int) ≤ L + 1 ∧ (L + 1 - i').toNat < (L + 1 - i).toNat, fun σ' H' ⟨i', h1, h2, h3, h4, h5⟩ => ⟨_, h5, i', h1, h2, h3, h4, rfl⟩, ?_⟩
      refine ⟨_, rfl, d, rfl, .inl ⟨kvs, .inl hd⟩, _, rfl, _, rfl, _, rfl, _, _, rfl, rfl, .inl ⟨by rcases q2 with z | z <;> rw [z] <;> decide, by rcases q2 with z | z <;> rw [z] <;> decide⟩, _, _, rfl, rfl, _, DGet.k (k := Sum.inl (c.pl + mv * i)) hd, ?_⟩
      rw [df.get (c.pl + mv * i)]
      refine ⟨_, rfl, rfl, _, rfl, ite2 (fun e => ?_) (fun e => ?_)⟩
      · have g : cellF c.fs c.cs (c.pl + mv * i) ≠ cellF c.fs c.cs c.pl := fun z => by
          rw [z] at e
          simp at e
        refine ⟨_, rfl, ans i (by omega) (by omega) (.inl ⟨?_, fun j hj => hall j (by omega), g⟩)⟩
        refine Classical.byContradiction fun z => ?_
        have z0 : i = 0 := by omega
        subst z0
        refine g ?_
        rw [show mv * ((0 : Nat) : Int) = 0 from Int.mul_zero _, Int.add_zero]
      · have g : cellF c.fs c.cs (c.pl + mv * i) = cellF c.fs c.cs c.pl := Classical.byContradiction fun z => e (by simp [z])
        refine ⟨_, rfl, _, _, rfl, rfl, i + 1, rfl, rfl, fun j hj => ?_, by omega, by omega⟩
        by_cases h : j = i
        · rw [h]; exact g
        · exact hall j (by omega)
    · have i1 : ¬ (i : Int) ≤ L := fun z => e (decide_eq_true z)
      have far : ∀ j : Nat, L ≤ j → cellF c.fs c.cs (c.pl + mv * j) = 0 := fun j hj => by
        refine cellF_out ?_
        rcases q2 with z | z <;> rw [z] <;> omega
      refine ans 0 (by omega) (by omega) (.inr ⟨rfl, fun j => ?_⟩)
      have zero : cellF c.fs c.cs c.pl = 0 := by
        rw [← hall L.toNat (by omega)]
        exact far _ (by omega)
      by_cases h : j < i
      · exact hall j h
      · rw [far j (by omega), zero]
end
end K19

/-! ## K19Q -/
namespace K19
open PySem PySem.Spec PyProof.Rows L2
section
variable {P : Program} {w : World} {K : PySem.W.Frag} {mg : Str → Option Value} {base : Heap} {kS kC kR : Tok} {aB : Addr}
/-! ### _law_tape -/
def spTape (K : PySem.W.Frag) : Sp := fun vs H Q _ => ∃ (s l : Addr) (vm : V) (m : Mach) (kk : Nat), vs = [.ref s, vm] ∧ Stm H s l ∧ TD K H vm (eMach m) ∧ MOk m kk ∧
  ∀ H' v e, But s H H' → Stm H' s l → TD K H' v (eConf e) → SzOk 20 e → CfOk m kk 20 e.cf → Q v H'
theorem cellF_in {P : Int → Prop} {fs : Int} {cs : List Int} (h0 : P 0) (h : ∀ x ∈ cs, P x) (x : Int) : P (cellF fs cs x) := by
  unfold cellF
  split
  · rw [List.getD_eq_getElem?_getD]
    cases e : cs[(x - fs).toNat]? with
    | none => exact h0
    | some v => exact h v (List.mem_of_getElem? e)
  · exact h0
theorem ok_law_tape {f : Addr} {fd : FuncData} {k : Nat} (F : Fun K "_law_tape" "_law_tape" s_law_tape f fd) (T : Txt mg kS kC kR aB) (C_law_draw : Cal P w K mg base k "_law_draw" ["_law_stream_here", "_law_many"] spDraw)
    (C_law_end : Cal P w K mg base k "_law_end" ["_law_now"] (spEnd K)) : FnOk P w K mg base CX0 (k + 1) f fd ["_law_stream_here", "_law_machine_here"] (spTape K) := by
  refine F.ok sc_law_tape (fun vs H Q E h => ?_) (fun cdv A outer s H vs Q E hr h => ?_)
  · obtain ⟨s, l, vm, m, kk, rfl, _⟩ := h
    rfl
  · obtain ⟨s, l, vm, m, kk, rfl, st, hm, mok, k⟩ := h
    refine ⟨_, (pss_cons (ps_setLc (i := 2) (own := [("_law_k", 3)]) rfl sc_law_tape.nd rfl rfl (sw_true rfl rfl rfl (by decide +kernel)) (pi_range1 (by rfl) T.range (pa_cons (pe_cal C_law_draw hr (by rfl) (pa_cons (pv 0) (pa_cons pe_int pa_nil))) pa_nil)) (blkOk_by (N := N_law_tape) (sc := defScope s_law_tape) (by decide +kernel)) (fun _ _ _ _ _ => (pg_name (i := 3) sc_law_tape.nd rfl (.inl rfl))) (fun _ _ _ _ _ => pts_nil) (fun _ _ _ _ _ => (pe_cal C_law_draw hr (by rfl) (pa_cons (pv 0) (pa_cons (pe_callB (call_lenK (K := K) rfl) (by rfl) T.len PySem.boot_len (pa_cons (pe_ix (ix_tupK (K := K) rfl) (pv 1) pe_int (fun _ _ => rfl)) pa_nil)) pa_nil)))))
    (pss_cons (ps_set (i := 4) sc_law_tape.nd rfl (.inl rfl) (pe_lstB (pa_cons (pe_cal C_law_draw hr (by rfl) (pa_cons (pv 0) (pa_cons (pe_callB call_len_seq (by rfl) T.len PySem.boot_len (pa_cons (pv 1) pa_nil)) pa_nil))) (pa_cons (pe_op op_sub (pe_cal C_law_draw hr (by rfl) (pa_cons (pv 0) (pa_cons pe_int pa_nil))) pe_int) (pa_cons pe_dnewB pa_nil)))))
    (pss_cons (ps_set (i := 5) sc_law_tape.nd rfl (.inl rfl) (pe_op op_sub (pe_cal C_law_draw hr (by rfl) (pa_cons (pv 0) (pa_cons pe_int pa_nil))) pe_int))
    (pss_cons (ps_for PassesOwn.never rfl (pi_range1 (by rfl) T.range (pa_cons (pe_callB call_len_seq (by rfl) T.len PySem.boot_len (pa_cons (pv 2) pa_nil)) pa_nil)) (pg_name (i := 3) sc_law_tape.nd rfl (.inl rfl))
      (pss_one (ps_dput (hu_of hr) (pe_ix ix_list (pv 4) pe_int (fun _ _ => rfl)) (pe_op op_add (pv 5) (pv 3)) (pe_ix ix_list (pv 2) (pv 3) (fun _ _ => rfl)) rfl)))
    (Evl.pss_cut (ps_if (pt_cmpR op_eq (pe_cal C_law_draw hr (by rfl) (pa_cons (pv 0) (pa_cons pe_int pa_nil))) pe_int (nomark _))
      (pss_one (ps_asg (pe_un un_neg pe_int) (pg_sub (pv 4) pe_int set_list)))
      pss_nil)
    (pss_one (ps_ret (pe_cal C_law_end hr (by rfl) (pa_cons (pv 4) pa_nil))))))))), ?_⟩
    have k2 := mok.sym2
    have k4 := mok.sym4
    have m1 := mok.len1
    have m4 := mok.len4
    obtain ⟨am, xs, rfl, ham, hxs⟩ := hm.tupE
    have lxs := hxs.len
    rw [List.length_map] at lxs
    obtain ⟨x0, hx0, hxd⟩ := hxs.get (i := 0) (d := eRow m[0]) (by rw [List.getElem?_map, List.getElem?_eq_getElem (by omega)]; rfl)
    obtain ⟨bm, ys, rfl, hbm, hys⟩ := hxd.tupE
    have lys := hys.len
    rw [List.length_map, mok.rows _ (List.getElem_mem (by omega))] at lys
    refine ⟨_, rfl, s, l, 9, rfl, st, by decide, by decide, fun H1 r1 b1 st1 r10 r11 => ⟨_, rfl, by omega, by omega, fun D nD => ?_⟩⟩
    have nDs := st1.new nD
    refine lc_range (lo := 0) (n := r1.toNat) (fun i H' => But s H H' ∧ Stm H' s l ∧ ∃ cs : List Int, H' D = some (.lst (cs.map V.int)) ∧ cs.length = i ∧ ∀ x ∈ cs, 0 ≤ x ∧ x < kk)
      ⟨b1.trans (Same.but (same_new nD)), st1.same (same_new nD), [], upd_same, rfl, fun _ h => by cases h⟩ ?_ ?_
    · rintro i H2 hi ⟨b2, st2, cs, hD, hlen, hcs⟩
      have kt2 : KT K H H2 := st.kt b2
      refine ⟨rfl, _, rfl, _, rfl, am, xs, _, _, rfl, rfl, kt2 _ _ ham, at_of (j := 0) rfl hx0, bm, ys, rfl, .inr (kt2 _ _ hbm), ?_⟩
      refine ⟨s, l, _, rfl, st2, by rw [lys]; omega, by rw [lys]; omega, fun H3 r3 b3 st3 r30 r31 => ⟨_, b3 _ _ hD nDs.1, sizeKlt (by rw [List.length_map]; omega), ?_⟩⟩
      rw [lys] at r31
      refine ⟨(b2.trans b3).updN (But.free b1 nD nDs.1), st3.put nDs, cs ++ [r3], ?_, ?_, fun x hx => ?_⟩
      · rw [upd_same, List.map_append]
        rfl
      · rw [List.length_append, hlen]
        rfl
      · rcases List.mem_append.mp hx with h | h
        · exact hcs x h
        · obtain rfl := List.mem_singleton.mp h
          exact ⟨r30, r31⟩
    rintro H2 ⟨b2, st2, cs, hD, hlen, hcs⟩
    have kt2 : KT K H H2 := st.kt b2
    refine ⟨_, rfl, _, rfl, am, xs, rfl, .inr (kt2 _ _ ham), ?_⟩
    refine ⟨s, l, _, rfl, st2, by rw [lxs]; omega, by rw [lxs]; omega, fun H3 r3 b3 st3 r30 r31 => ?_⟩
    rw [lxs] at r31
    refine ⟨_, rfl, s, l, 13, rfl, st3, by decide, by decide, fun H4 r4 b4 st4 r40 r41 => ⟨_, _, rfl, rfl, fun d H5 nd s5 g5 => ⟨by simp, fun n H6 nn s6 g6 => ?_⟩⟩⟩
    have st6 := (st4.same s5).same s6
    have nds := st4.new nd
    have nns := (st4.same s5).new nn
    refine ⟨_, rfl, s, l, 13, rfl, st6, by decide, by decide, fun H7 r7 b7 st7 r70 r71 => ⟨_, _, rfl, rfl, ?_⟩⟩
    have hDn : D ≠ n := ne_of_none (s5 _ _ (b4 _ _ (b3 _ _ hD nDs.1) nDs.1)) nn
    have hDd : D ≠ d := ne_of_none (b4 _ _ (b3 _ _ hD nDs.1) nDs.1) nd
    have hnd : n ≠ d := (ne_of_none g5 nn).symm
    have hD7 : H7 D = some (.lst (cs.map V.int)) := b7 _ _ (s6 _ _ (s5 _ _ (b4 _ _ (b3 _ _ hD nDs.1) nDs.1))) nDs.1
    have hn7 : H7 n = some (.lst [.int r3, .int (r4 - 6), .ref d]) := b7 _ _ g6 nns.1
    have hd7 : H7 d = some (.dK []) := b7 _ _ (s6 _ _ g5) nds.1
    have b47 : But s H H4 := (b2.trans b3).trans b4
    have b17 : But s H H7 := ((b47.trans (Same.but s5)).trans (Same.but s6)).trans b7
    have ndH : H d = none := But.free b47 nd nds.1
    have nnH : H n = none := But.free (b47.trans (Same.but s5)) nn nns.1
    have lcs : ((cs.map V.int).length : Int) = cs.length := by rw [List.length_map]
    refine ⟨_, rfl, D, _, rfl, .inl (.of hD7), _, rfl, by omega, by omega, for_range (lo := 0) (n := ((cs.map V.int).length : Int).toNat) (fun i σ8 H8 => ∃ (y : Option V) (kvs : List (Key × V)), σ8 = [some (.ref s), some (.ref am), some (.ref D), y, some (.ref n), some (.int (r7 - 8))] ∧ But d H7 H8 ∧ H8 d = some (.dK kvs) ∧
      DF kvs (cellF (r7 - 8) (cs.take i)) ∧ kvs.length ≤ i) ⟨none, [], rfl, But.refl, hd7, DF.nil.congr fun x => (cellF_nil _ x).symm, Nat.le_refl _⟩ ?_ ?_⟩
    · rintro i σ8 H8 hi ⟨y, kvs, rfl, bt, h8, df, lk⟩
      have hi' : i < cs.length := by omega
      have hx : (cs.map V.int)[i]? = some (.int cs[i]) := by rw [List.getElem?_map, List.getElem?_eq_getElem hi']; rfl
      refine ⟨_, rfl, _, rfl, D, _, _, _, rfl, rfl, .of (bt _ _ hD7 hDd), at_of (j := i) (by omega) hx, ?_⟩
      refine ⟨_, rfl, n, _, 2, _, rfl, rfl, .of (bt _ _ hn7 hnd), atI_nat (j := 2) rfl, _, rfl, _, rfl, _, _, rfl, rfl, d, _, rfl, DPut.k (k := Sum.inl (r7 - 8 + (0 + (i : Nat)))) h8 (sizeKlt (by omega)), _, _, rfl, bt.trans But.put, upd_same, (df.put (r7 - 8 + (0 + (i : Nat))) cs[i]).congr fun x => ?_, ?_⟩
      · rw [List.take_add_one, List.getElem?_eq_getElem hi']
        show (if x = r7 - 8 + (0 + (i : Int)) then cs[i] else cellF (r7 - 8) (cs.take i) x) = cellF (r7 - 8) (cs.take i ++ [cs[i]]) x
        rw [cellF_snoc, List.length_take, Nat.min_eq_left (by omega), Int.zero_add]
      · have := length_putK kvs (Sum.inl (r7 - 8 + (0 + (i : Nat)))) (V.int cs[i])
        omega
    rintro σ8 H8 ⟨y, kvs, rfl, bt, h8, df, lk⟩
    rw [show ((cs.map V.int).length : Int).toNat = cs.length by omega] at df lk
    rw [List.take_length] at df
    have st8 : Stm H8 s l := by
      obtain ⟨ns, a, b, c, h1, h2, h3⟩ := st7
      exact ⟨ns, a, b, c, bt _ _ h1 nds.1.symm, bt _ _ h2 nds.2.symm, h3⟩
    have b18 : But s H H8 := fun b o h hb => bt b o (b17 b o h hb) (ne_of_none h ndH)
    refine ⟨fun σ' H' => ∃ z : Int, -1 ≤ z ∧ z < m.length ∧ σ' = [some (.ref s), some (.ref am), some (.ref D), y, some (.ref n), some (.int (r7 - 8))] ∧ But s H H' ∧ Stm H' s l ∧ H' n = some (.lst [.int z, .int (r4 - 6), .ref d]) ∧ H' d = some (.dK kvs), ?_, fun σ' H' hM => ?_⟩
    · refine ⟨_, rfl, s, l, 12, rfl, st8, by decide, by decide, fun H9 r9 b9 st9 r90 r91 => ⟨rfl, _, rfl, ite2 (fun e => ?_) (fun e => ?_)⟩⟩
      · have hn9 : H9 n = some (.lst [.int r3, .int (r4 - 6), .ref d]) := b9 _ _ (bt _ _ hn7 hnd) nns.1
        refine ⟨_, rfl, _, rfl, n, _, 0, 0, rfl, rfl, hn9, rfl, -1, by omega, by omega, rfl, (b18.trans b9).updN nnH, st9.put nns, upd_same, ?_⟩
        rw [upd_ne hnd.symm]
        exact b9 _ _ h8 nds.1
      · exact ⟨r3, by omega, r31, rfl, b18.trans b9, st9, b9 _ _ (bt _ _ hn7 hnd) nns.1, b9 _ _ h8 nds.1⟩
    obtain ⟨z, z0, z1, rfl, b10, st10, hn10, hd10⟩ := hM
    have sup : ∀ x, cellF (r7 - 8) cs x ≠ 0 → -20 ≤ x ∧ x ≤ 20 := fun x hx => by
      refine Classical.byContradiction fun h => hx (cellF_out ?_)
      omega
    refine ⟨_, rfl, n, d, 20, kvs, ⟨z, r4 - 6, cellF (r7 - 8) cs⟩, rfl, ⟨hn10, hd10, df⟩, by omega, ⟨by show -20 ≤ r4 - 6; omega, by show r4 - 6 ≤ 20; omega⟩, sup, by omega, fun H11 v e s11 hv he sz => ?_⟩
    refine k H11 v e (b10.trans (Same.but s11)) (st10.same s11) hv sz ?_
    rw [he]
    exact ⟨z0, z1, by show -20 ≤ r4 - 6; omega, by show r4 - 6 ≤ 20; omega, fun x => cellF_in (P := fun y => 0 ≤ y) (Int.le_refl 0) (fun y hy => (hcs y hy).1) x, fun x => cellF_in (P := fun y => y < kk) (by omega) (fun y hy => (hcs y hy).2) x, sup⟩
end
end K19

/-! ## K19R -/
namespace K19
open PySem PySem.Spec PyProof.Rows L2
section
variable {P : Program} {w : World} {K : PySem.W.Frag} {mg : Str → Option Value} {base : Heap} {kS kC kR : Tok} {aB : Addr}
/-! ### _law_plain -/
inductive PlainD : Nat → PyData → Prop
  | int (n : Nat) (i : Int) : PlainD n (.int i)
  | tup {n : Nat} {ds : List PyData} : (∀ d ∈ ds, PlainD n d) → ds.length ≤ 10000 → PlainD (n + 1) (.tuple ds)
theorem SqT.ty {H : Hp} {a : Addr} {xs : List V} (h : SqT K H a xs) : TyX K H (.ref a) (.type "tuple") := by
  rcases h with (h | ⟨o, h⟩) | ⟨o, its, n, hk, hc, _⟩
  · exact .base (.tup h)
  · exact .fTuple h
  · exact .kTuple hk hc
theorem kit_int : PySem.W.kitAny K (.type "int") [.type "tuple", .type "list"] = some false :=
  kitAny_cons (kit_ty (a := "int") (b := "tuple") (r := false) (by decide +kernel)) (fun _ => kitAny_cons (kit_ty (a := "int") (b := "list") (r := false) (by decide +kernel)) (fun _ => kitAny_nil) (fun h => h)) (fun h => by cases h)
theorem kit_tup : PySem.W.kitAny K (.type "tuple") [.type "tuple", .type "list"] = some true :=
  kitAny_cons (kit_ty (a := "tuple") (b := "tuple") (r := true) (by decide +kernel)) (fun h => by cases h) (fun _ => rfl)
theorem cls2 : Paired ClsV [.ty "tuple", .ty "list"] [.type "tuple", .type "list"] := .cons (.ty _) (.cons (.ty _) .nil)
def spPlain (K : PySem.W.Frag) (j : Nat) : Sp := fun vs H Q _ => ∃ (v : V) (d : PyData), vs = [v] ∧ TD K H v d ∧ PlainD j d ∧ ∀ H', Same H H' → Q (.bl true) H'
theorem ok_law_plain0 {f : Addr} {fd : FuncData} (F : Fun K "_law_plain" "_law_plain" s_law_plain f fd) (T : Txt mg kS kC kR aB) : FnOk P w K mg base CX0 1 f fd ["_law_value"] (spPlain K 0) := by
  refine F.ok sc_law_plain (fun vs H Q E h => ?_) (fun cdv A outer s H vs Q E hr h => ?_)
  · obtain ⟨v, d, rfl, _⟩ := h
    rfl
  · obtain ⟨v, d, rfl, hv, hp, k⟩ := h
    refine ⟨_, (pss_cons (ps_if (pt_val (pe_callB call_isiT (by rfl) T.isinstance (by decide +kernel) (pa_cons (pv 0) (pa_cons (pe_tupB (pa_cons (pe_bltn (v := .ty "tuple") (by rfl) T.tuple (by decide +kernel) rfl) (pa_cons (pe_bltn (v := .ty "list") (by rfl) T.list (by decide +kernel) rfl) pa_nil))) pa_nil))))
      pss_never
      pss_nil)
    (pss_one (ps_ret (pe_not (pe_callB call_isi (by rfl) T.isinstance (by decide +kernel) (pa_cons (pv 0) (pa_cons (pe_bltn (v := .ty "bool") (by rfl) T.bool (by decide +kernel) rfl) pa_nil))))))), ?_⟩
    cases hp with
    | int _ i =>
      obtain rfl := hv.intE
      refine ⟨_, rfl, by simp, fun p H1 _ s1 g1 => ⟨_, p, _, _, _, false, rfl, g1, cls2, .base (.int i), kit_int, _, rfl, ?_⟩⟩
      refine ⟨_, rfl, _, _, _, _, false, rfl, .ty _, .base (.int i), kit_ty (a := "int") (b := "bool") (by decide +kernel), _, rfl, k H1 s1⟩
theorem ok_law_plainS {f : Addr} {fd : FuncData} {j : Nat} (F : Fun K "_law_plain" "_law_plain" s_law_plain f fd) (T : Txt mg kS kC kR aB) (C_law_plain : Cal P w K mg base (j + 1) "_law_plain" ["_law_value"] (spPlain K j)) :
    FnOk P w K mg base CX0 (j + 1 + 1) f fd ["_law_value"] (spPlain K (j + 1)) := by
  refine F.ok sc_law_plain (fun vs H Q E h => ?_) (fun cdv A outer s H vs Q E hr h => ?_)
  · obtain ⟨v, d, rfl, _⟩ := h
    rfl
  · obtain ⟨v, d, rfl, hv, hp, k⟩ := h
    refine ⟨_, (pss_cons (ps_if (pt_val (pe_callB call_isiT (by rfl) T.isinstance (by decide +kernel) (pa_cons (pv 0) (pa_cons (pe_tupB (pa_cons (pe_bltn (v := .ty "tuple") (by rfl) T.tuple (by decide +kernel) rfl) (pa_cons (pe_bltn (v := .ty "list") (by rfl) T.list (by decide +kernel) rfl) pa_nil))) pa_nil))))
      (pss_one (ps_ret (pe_callB (cr_all rfl) (by rfl) T.all (by decide +kernel) (pa_cons (pe_lc (own := [("_law_part", 1)]) rfl sc_law_plain.nd (pi_tup (pv 0)) (blkOk_by (N := N_law_plain) (sc := defScope s_law_plain) (by decide +kernel)) (fun _ _ _ _ _ => (pg_name (i := 1) sc_law_plain.nd rfl (.inl rfl))) (fun _ _ _ _ _ => pts_nil) (fun _ _ _ _ _ => (pe_cal C_law_plain hr (by rfl) (pa_cons (pv 1) pa_nil)))) pa_nil))))
      pss_nil)
    (pss_one (ps_ret (pe_not (pe_callB call_isi (by rfl) T.isinstance (by decide +kernel) (pa_cons (pv 0) (pa_cons (pe_bltn (v := .ty "bool") (by rfl) T.bool (by decide +kernel) rfl) pa_nil))))))), ?_⟩
    cases hp with
    | int _ i =>
      obtain rfl := hv.intE
      refine ⟨_, rfl, by simp, fun p H1 _ s1 g1 => ⟨_, p, _, _, _, false, rfl, g1, cls2, .base (.int i), kit_int, _, rfl, ?_⟩⟩
      refine ⟨_, rfl, _, _, _, _, false, rfl, .ty _, .base (.int i), kit_ty (a := "int") (b := "bool") (by decide +kernel), _, rfl, k H1 s1⟩
    | @tup _ ds hds hlen =>
      obtain ⟨a, xs, rfl, ha, hx⟩ := hv.tupE
      have lx := hx.len
      refine ⟨_, rfl, by simp, fun p H1 _ s1 g1 => ⟨_, p, _, _, _, true, rfl, g1, cls2, SqT.ty (sT s1 ha), kit_tup, _, rfl, ?_⟩⟩
      refine ⟨_, rfl, a, rfl, ⟨_, sT s1 ha⟩, fun D nD => lc_tup (xs := xs) (fun i H2 => Same H1 H2 ∧ H2 D = some (.lst ((List.replicate i true).map V.bl))) ⟨same_new nD, upd_same⟩ (fun i H2 _ q => sT q.1 (sT s1 ha)) (fun i x H2 hi q => ?_) fun H2 q => ?_⟩
      · obtain ⟨s2, q2⟩ := q
        obtain ⟨d, hd, hxd⟩ := hx.get2 hi
        have hlt := (List.getElem?_eq_some_iff.mp hi).1
        refine ⟨rfl, _, rfl, x, d, rfl, sD (sTr s1 s2) hxd, hds d (List.mem_of_getElem? hd), fun H3 s3 => ⟨_, s3 _ _ q2, sizeKlt (by rw [List.length_map, List.length_replicate]; omega), fun b o h => ?_, ?_⟩⟩
        · rw [upd_ne (ne_of_none h nD)]
          exact s3 _ _ (s2 _ _ h)
        · rw [upd_same, List.replicate_succ', List.map_append]
          rfl
      · obtain ⟨s2, q2⟩ := q
        refine ⟨D, _, rfl, .of q2, ?_⟩
        have e : (List.replicate xs.length true).all id = true := by simp
        rw [e]
        exact k H2 (sTr s1 s2)
end
end K19

/-! ## K19S -/
/-! leaps told by cells alone -/
namespace K19
inductive CChain (m : Mach) : Cf → Nat → Int → Cf → Prop where
  | nil (c : Cf) : CChain m c 0 0 c
  | snoc {c e : Cf} {d : Nat} {s k : Int} : CChain m c d s e → e.st ≠ -1 → IsLeap m e k → k ≠ 0 → CChain m c (d + 1) (s + k) (runC m k.toNat e)
theorem CChain.zero {m : Mach} {c e : Cf} {d : Nat} {s : Int} (h : CChain m c d s e) : d = 0 → s = 0 ∧ e = c := by
  cases h with
  | nil => exact fun _ => ⟨rfl, rfl⟩
  | snoc _ _ _ _ => exact fun z => absurd z (by omega)
theorem CfOk.mv {m : Mach} {kk : Nat} {N : Int} {c : Cf} (hm : MOk m kk) (h : CfOk m kk N c) (hst : c.st ≠ -1) : (ruleAt m c.st (c.f c.pl)).2.1 = 1 ∨ (ruleAt m c.st (c.f c.pl)).2.1 = -1 := by
  have st0 := h.st0
  obtain ⟨r, q, _, _, e3, _, q2, _⟩ := hm.at_ (s := c.st) (x := c.f c.pl) (by omega) h.st1 (h.sy0 _) (h.sy1 _)
  rw [e3]
  exact q2
theorem CChain.tape {m : Mach} {kk : Nat} (hm : MOk m kk) {c e : Cf} {d : Nat} {s : Int} (h : CChain m c d s e) : ∀ {T : Tp} {N : Int}, Abs T c → CfOk m kk N c → 0 ≤ s ∧ CfOk m kk (N + s) e ∧ ∃ U, Chain m T d s U ∧ Abs U e := by
  induction h with
  | nil => exact fun a ok => ⟨Int.le_refl 0, ok.mono (by omega), _, .nil _, a⟩
  | @snoc e d s k h h1 h2 h3 ih =>
    intro T N a ok
    obtain ⟨s0, ok', U, ch, ab⟩ := ih a ok
    have mv := ok'.mv hm h1
    have ek : slidR m U = k := (slid_leap ab mv).uniq h2
    have hU : U.st ≠ -1 := fun z => h1 (ab.st.symm.trans z)
    obtain ⟨k1, ab2⟩ := moved_abs (m := m) ab mv h1 (by rw [ek]; exact h3)
    rw [ek] at k1 ab2
    refine ⟨by omega, (ok'.run hm k.toNat).mono (by omega), _, ?_, ab2⟩
    rw [← ek]
    exact .snoc ch hU (by rw [ek]; exact h3)
/-- the law's answer, by cells, is what leaps gives -/
theorem CChain.leaps {m : Mach} {kk : Nat} (hm : MOk m kk) {c e : Cf} {d n : Nat} {s : Int} {b : Bool} (h : CChain m c d s e) {T : Tp} {N : Int} (a : Abs T c) (ok : CfOk m kk N c) (hd : d ≤ n)
    (hb : (b = false ∧ (d = n ∨ e.st = -1)) ∨ (b = true ∧ d < n ∧ e.st ≠ -1 ∧ IsLeap m e 0)) : ∃ U, LeapsTo m n T d s b U ∧ Abs U e := by
  obtain ⟨s0, ok', U, ch, ab⟩ := h.tape hm a ok
  refine ⟨U, ⟨ch, hd, ?_⟩, ab⟩
  rcases hb with ⟨h1, h2⟩ | ⟨h1, h2, h3, h4⟩
  · exact .inl ⟨h1, h2.imp id fun z => ab.st.trans z⟩
  · refine .inr ⟨h1, h2, fun z => h3 (ab.st.symm.trans z), ?_⟩
    exact (slid_leap ab (ok'.mv hm h3)).uniq h4
/-- two parts behind one another -/
theorem Chain.parts {m : Mach} {T U : Tp} {d : Nat} {s : Int} (h : Chain m T d s U) {c : Nat} (hc : c ≤ d) : ∃ V s1 s2, LeapsTo m c T c s1 false V ∧ LeapsTo m (d - c) V (d - c) s2 false U ∧ s1 + s2 = s := by
  obtain ⟨V, s1, s2, c1, c2, e⟩ := h.split c hc
  exact ⟨V, s1, s2, ⟨c1, Nat.le_refl _, .inl ⟨rfl, .inl rfl⟩⟩, ⟨c2, Nat.le_refl _, .inl ⟨rfl, .inl rfl⟩⟩, e⟩
theorem bd_start {T : Tp} {c : Cf} (a : Abs T c) (hp : -20 ≤ T.pl ∧ T.pl ≤ 20) (h : sumC T.lf + sumC T.rt ≤ 40) : Bd 0 T := by
  have n1 := a.nl.sum0
  have n2 := a.nr.sum0
  have l1 := a.nl.1.len
  have l2 := a.nr.1.len
  exact ⟨by omega, by omega, by omega, by omega, by omega⟩
end K19

/-! ## K19U -/
namespace K19
open PySem PySem.Spec PyProof.Rows L2
section
variable {P : Program} {w : World} {K : PySem.W.Frag} {mg : Str → Option Value} {base : Heap} {kS kC kR : Tok} {aB : Addr}
/-! ### the law -/
/-- what stands behind each turn of the law's loop -/
structure LI (K : PySem.W.Frag) (m : Mach) (kk : Nat) (c0 : Cd) (H : Hp) (v : V) (c : Cd) (d : Nat) (st : Int) : Prop where
  td : TD K H v (eConf c)
  ch : CChain m c0.cf d st c.cf
  sz : SzOk (20 + st) c
  ok : CfOk m kk (20 + st) c.cf
  s0 : 0 ≤ st
  s1 : st ≤ 9300
theorem LI.same {m : Mach} {kk : Nat} {c0 : Cd} {H H' : Hp} {v : V} {c : Cd} {d : Nat} {st : Int} (h : LI K m kk c0 H v c d st) (e : Same H H') : LI K m kk c0 H' v c d st := ⟨sD e h.td, h.ch, h.sz, h.ok, h.s0, h.s1⟩
theorem plain_run (p : Int × Int) : PlainD 1 (eRun p) := .tup (fun d hd => by
  rcases List.mem_cons.mp hd with e | e
  · subst e; exact .int _ _
  · obtain rfl := List.mem_singleton.mp e
    exact .int _ _) (by show 2 ≤ 10000; decide)
theorem plain_runs {r : Runs} (h : r.length ≤ 10000) : PlainD 2 (eRuns r) := .tup (fun d hd => by
  obtain ⟨p, _, rfl⟩ := List.mem_map.mp hd
  exact plain_run p) (by rw [List.length_map]; exact h)
theorem plain_tape {T : Tp} (h1 : T.lf.length ≤ 10000) (h2 : T.rt.length ≤ 10000) : PlainD 3 (eTape T) := .tup (fun d hd => by
  simp only [List.mem_cons, List.not_mem_nil, or_false] at hd
  rcases hd with rfl | rfl | rfl | rfl | rfl
  · exact .int _ _
  · exact .int _ _
  · exact .int _ _
  · exact plain_runs h1
  · exact plain_runs h2) (by show 5 ≤ 10000; decide)
theorem plain_all {T : Tp} {d s : Int} (h1 : T.lf.length ≤ 10000) (h2 : T.rt.length ≤ 10000) : PlainD 4 (.tuple [eTape T, .int d, .int s]) := .tup (fun d hd => by
  simp only [List.mem_cons, List.not_mem_nil, or_false] at hd
  rcases hd with rfl | rfl | rfl
  · exact plain_tape h1 h2
  · exact .int _ _
  · exact .int _ _) (by show 3 ≤ 10000; decide)
def spLaw (K : PySem.W.Frag) : Sp := fun vs H Q _ => ∃ (a : Addr) (ns : List Int), vs = [.ref a] ∧ SqL K H a (ns.map V.int) ∧ ns.length ≤ 63 ∧ ∀ H', Q (.bl true) H'
theorem ok_law {f : Addr} {fd : FuncData} {k : Nat} (F : Fun K "law" "law" s_law f fd) (T : Txt mg kS kC kR aB) (hB : ∀ H, TD K H (.ref aB) (eConf ⟨0, 0, 0, []⟩))
    (C_law_stream : Cal P w K mg base k "_law_stream" ["_law_script"] (spStream K)) (C_law_draw : Cal P w K mg base k "_law_draw" ["_law_stream_here", "_law_many"] spDraw)
    (C_law_machine : Cal P w K mg base k "_law_machine" ["_law_stream_here", "_law_stops"] (spMachine K)) (C_law_keeping : Cal P w K mg base k "_law_keeping" ["_law_stream_here", "_law_machine_here"] (spKeeping K))
    (C_law_tape : Cal P w K mg base k "_law_tape" ["_law_stream_here", "_law_machine_here"] (spTape K)) (C_law_count : Cal P w K mg base k "_law_count" ["_law_machine_here", "_law_value"] (spCount K))
    (C_leap : Cal P w K mg base k "leap" ["machine", "tape"] (spLeap K)) (C_law_to_runs : Cal P w K mg base k "_law_to_runs" ["_law_value"] (spToRuns K))
    (C_law_run : Cal P w K mg base k "_law_run" ["_law_machine_here", "_law_configuration", "_law_count_here"] (spRun K)) (C_leaps : Cal P w K mg base k "leaps" ["machine", "tape", "count"] (spLeaps K))
    (C_law_plain : Cal P w K mg base k "_law_plain" ["_law_value"] (spPlain K 4)) : FnOk P w K mg base CX0 (k + 1) f fd ["_law_script"] (spLaw K) := by
  refine F.ok sc_law (fun vs H Q E h => ?_) (fun cdv A outer s H vs Q E hr h => ?_)
  · obtain ⟨a, ns, rfl, _⟩ := h
    rfl
  · obtain ⟨a, ns, rfl, hs, hl, k⟩ := h
    refine ⟨_, (pss_cons (ps_set (i := 1) sc_law.nd rfl (.inl rfl) (pe_cal C_law_stream hr (by rfl) (pa_cons (pv 0) pa_nil)))
    (pss_cons (ps_set (i := 2) sc_law.nd rfl (.inl rfl) (pe_cal C_law_keeping hr (by rfl) (pa_cons (pv 1) (pa_cons (pe_cal C_law_machine hr (by rfl) (pa_cons (pv 1) (pa_cons (pe_cal C_law_draw hr (by rfl) (pa_cons (pv 1) (pa_cons pe_int pa_nil))) pa_nil))) pa_nil))))
    (pss_cons (ps_set (i := 3) sc_law.nd rfl (.inl rfl) (pe_glob (v := .ref aB) (by rfl) T.gBLANK rfl))
    (Evl.pss_cut (ps_if (pt_cmpR op_eq (pe_cal C_law_draw hr (by rfl) (pa_cons (pv 1) (pa_cons pe_int pa_nil))) pe_int (nomark _))
      (pss_one (ps_set (i := 3) sc_law.nd rfl (.inl rfl) (pe_cal C_law_tape hr (by rfl) (pa_cons (pv 1) (pa_cons (pv 2) pa_nil)))))
      pss_nil)
    (pss_cons (ps_set (i := 4) sc_law.nd rfl (.inl rfl) (pe_cal C_law_draw hr (by rfl) (pa_cons (pv 1) (pa_cons pe_int pa_nil))))
    (pss_cons (ps_set (i := 5) sc_law.nd rfl (.inl rfl) (pv 3))
    (pss_cons (ps_set (i := 6) sc_law.nd rfl (.inl rfl) pe_int)
    (pss_cons (ps_set (i := 7) sc_law.nd rfl (.inl rfl) pe_int)
    (pss_cons (ps_set (i := 8) sc_law.nd rfl (.inl rfl) pe_bl)
    (Evl.pss_cut (ps_while PassesOwn.never (PW.pt (pw_and (pt_cmpR op_lt (pv 6) (pv 4) (nomark _)) (pw_and (pt_cmpR op_ne (pe_ix ix_tup (pv 5) pe_int (fun _ _ => rfl)) (pe_un un_neg pe_int) (nomark _)) (pw_and (pt_not (pt_val (pv 8))) (pw_and1 (pt_cmpR op_lt (pv 7) pe_int (nomark _)))))))
      (pss_cons (ps_set (i := 9) sc_law.nd rfl (.inl rfl) (pe_cal C_law_count hr (by rfl) (pa_cons (pv 2) (pa_cons (pv 5) pa_nil))))
      (Evl.pss_cut (ps_if (PW.pt (pw_and (pt_cmpR op_eq (pv 6) pe_int (nomark _)) (pw_and1 (pt_cmpR op_ne (pe_ix ix_tup (pe_cal C_leap hr (by rfl) (pa_cons (pv 2) (pa_cons (pe_cal C_law_to_runs hr (by rfl) (pa_cons (pv 5) pa_nil)) pa_nil))) pe_int (fun _ _ => rfl)) (pv 9) (nomark _)))))
        (pss_one (ps_ret pe_bl))
        pss_nil)
      (pss_cons (ps_set (i := 8) sc_law.nd rfl (.inl rfl) (pe_cmpR op_eq (pv 9) pe_int (nomark _)))
      (pss_one (ps_if (pt_not (pt_val (pv 8)))
        (pss_cons (ps_set (i := 5) sc_law.nd rfl (.inl rfl) (pe_ix ix_tup (pe_cal C_law_run hr (by rfl) (pa_cons (pv 2) (pa_cons (pv 5) (pa_cons (pv 9) pa_nil)))) pe_int (fun _ _ => rfl)))
        (pss_cons (ps_set (i := 6) sc_law.nd rfl (.inl rfl) (pe_op op_add (pv 6) pe_int))
        (pss_one (ps_set (i := 7) sc_law.nd rfl (.inl rfl) (pe_op op_add (pv 7) (pv 9))))))
        pss_nil))))))
    (Evl.pss_cut (ps_if (pt_cmpR op_ge (pv 7) pe_int (nomark _))
      (pss_cons (ps_set (i := 4) sc_law.nd rfl (.inl rfl) (pv 6))
      (pss_one (ps_set (i := 8) sc_law.nd rfl (.inl rfl) pe_bl)))
      pss_nil)
    (pss_cons (ps_set (i := 10) sc_law.nd rfl (.inl rfl) (pe_cal C_leaps hr (by rfl) (pa_cons (pv 2) (pa_cons (pe_cal C_law_to_runs hr (by rfl) (pa_cons (pv 3) pa_nil)) (pa_cons (pv 4) pa_nil)))))
    (pss_cons (ps_if (PW.pt (pw_or (pt_cmpR (op_neD hr.units) (pv 10) (pe_tupB (pa_cons (pe_cal C_law_to_runs hr (by rfl) (pa_cons (pv 5) pa_nil)) (pa_cons (pv 6) (pa_cons (pv 7) (pa_cons (pv 8) pa_nil))))) (nomark _)) (pw_or1 (pt_not (pt_val (pe_callB call_isi (by rfl) T.isinstance (by decide +kernel) (pa_cons (pv 10) (pa_cons (pe_bltn (v := .ty "tuple") (by rfl) T.tuple (by decide +kernel) rfl) pa_nil))))))))
      (pss_one (ps_ret pe_bl))
      pss_nil)
    (pss_cons (ps_if (PW.pt (pw_or (pt_not (pt_val (pe_cal C_law_plain hr (by rfl) (pa_cons (pe_slice sl_tupB (pv 10) po_none (po_some pe_int)) pa_nil)))) (pw_or1 (pt_not (pt_val (pe_callB call_isi (by rfl) T.isinstance (by decide +kernel) (pa_cons (pe_ix ix_tup (pv 10) pe_int (fun _ _ => rfl)) (pa_cons (pe_bltn (v := .ty "bool") (by rfl) T.bool (by decide +kernel) rfl) pa_nil))))))))
      (pss_one (ps_ret pe_bl))
      pss_nil)
    (pss_cons (ps_if (pt_val (pv 8))
      (pss_cons (ps_set (i := 11) sc_law.nd rfl (.inl rfl) (pe_ix ix_tup (pe_ix ix_tup (pe_ix ix_tup (pv 2) (pe_ix ix_tup (pv 5) pe_int (fun _ _ => rfl)) (fun _ _ => rfl)) pe_int (fun _ _ => rfl)) pe_int (fun _ _ => rfl)))
      (pss_cons (ps_set (i := 12) sc_law.nd rfl (.inl rfl) (pe_ix ix_tup (pe_cal C_law_run hr (by rfl) (pa_cons (pv 2) (pa_cons (pv 5) (pa_cons pe_int pa_nil)))) pe_int (fun _ _ => rfl)))
      (pss_one (ps_ret (pe_and (pe_cmpR op_eq (pe_ix ix_tup (pv 12) pe_int (fun _ _ => rfl)) (pe_ix ix_tup (pv 5) pe_int (fun _ _ => rfl)) (nomark _)) (pe_one (pe_cmpR op_eq (pe_ix ix_tup (pv 12) pe_int (fun _ _ => rfl)) (pe_op op_add (pe_ix ix_tup (pv 5) pe_int (fun _ _ => rfl)) (pe_op op_mul pe_int (pv 11))) (nomark _))))))))
      pss_nil)
    (pss_cons (ps_set (i := 13) sc_law.nd rfl (.inl rfl) (pe_cal C_law_draw hr (by rfl) (pa_cons (pv 1) (pa_cons (pe_op op_add (pv 6) pe_int) pa_nil))))
    (pss_cons (ps_set (i := 14) sc_law.nd rfl (.inl rfl) (pe_cal C_leaps hr (by rfl) (pa_cons (pv 2) (pa_cons (pe_cal C_law_to_runs hr (by rfl) (pa_cons (pv 3) pa_nil)) (pa_cons (pv 13) pa_nil)))))
    (pss_cons (ps_set (i := 15) sc_law.nd rfl (.inl rfl) (pe_cal C_leaps hr (by rfl) (pa_cons (pv 2) (pa_cons (pe_ix ix_tup (pv 14) pe_int (fun _ _ => rfl)) (pa_cons (pe_op op_sub (pv 6) (pv 13)) pa_nil)))))
    (pss_one (ps_ret (pe_and (pe_cmpR (op_eqD hr.units) (pe_ix ix_tup (pv 15) pe_int (fun _ _ => rfl)) (pe_ix ix_tup (pv 10) pe_int (fun _ _ => rfl)) (nomark _)) (pe_and (pe_cmpR op_eq (pe_op op_add (pe_ix ix_tup (pv 14) pe_int (fun _ _ => rfl)) (pe_ix ix_tup (pv 15) pe_int (fun _ _ => rfl))) (pv 6) (nomark _)) (pe_one (pe_cmpR op_eq (pe_op op_add (pe_ix ix_tup (pv 14) pe_int (fun _ _ => rfl)) (pe_ix ix_tup (pv 15) pe_int (fun _ _ => rfl))) (pv 7) (nomark _))))))))))))))))))))))))), ?_⟩
    refine ⟨_, rfl, a, ns, rfl, hs, hl, fun H1 s l s1 ns1 st1 => ?_⟩
    refine ⟨_, rfl, _, rfl, _, rfl, s, l, 3, rfl, st1, by decide, by decide, fun H2 r2 b2 st2 _ _ => ?_⟩
    refine ⟨s, l, r2, rfl, st2, fun H3 v3 m3 kk b3 st3 mok3 hm3 => ?_⟩
    refine ⟨s, l, v3, m3, kk, rfl, st3, hm3, mok3, fun H4 vm m b4 st4 mok hm4 => ?_⟩
    have k2 := mok.sym2
    have m1 := mok.len1
    refine ⟨fun σ' H' => ∃ (v : V) (c : Cd), σ' = [some (.ref a), some (.ref s), some vm, some v, none, none, none, none, none, none, none, none, none, none, none, none] ∧ Stm H' s l ∧ TD K H' vm (eMach m) ∧ TD K H' v (eConf c) ∧ SzOk 20 c ∧ CfOk m kk 20 c.cf, ?_, fun σ' H5 hM => ?_⟩
    · refine ⟨_, rfl, s, l, 2, rfl, st4, by decide, by decide, fun H5 r5 b5 st5 _ _ => ⟨rfl, _, rfl, ite2 (fun e => ?_) (fun e => ?_)⟩⟩
      · refine ⟨_, rfl, _, rfl, s, l, vm, m, kk, rfl, st5, TD.keep (st4.kt b5) _ hm4, mok, fun H6 v6 c6 b6 st6 hv6 sz6 ok6 => ⟨v6, c6, rfl, st6, TD.keep (st4.kt (b5.trans b6)) _ hm4, hv6, sz6, ok6⟩⟩
      · refine ⟨.ref aB, ⟨0, 0, 0, []⟩, rfl, st5, TD.keep (st4.kt b5) _ hm4, hB H5, ⟨by decide, by decide, by decide, by decide, by decide⟩, ?_⟩
        have z : ∀ x, (Cd.cf ⟨0, 0, 0, []⟩).f x = 0 := fun x => cellF_nil 0 x
        refine ⟨by show (-1 : Int) ≤ 0; decide, by show (0 : Int) < m.length; omega, by show (-20 : Int) ≤ 0; decide, by show (0 : Int) ≤ 20; decide, fun x => ?_, fun x => ?_, fun x hx => absurd (z x) hx⟩
        · rw [z x]; exact Int.le_refl 0
        · rw [z x]; omega
    obtain ⟨v0, c0, rfl, st5, hm5, hv0, sz0, ok0⟩ := hM
    refine ⟨_, rfl, s, l, 41, rfl, st5, by decide, by decide, fun H6 r6 b6 st6 r60 r61 => ?_⟩
    obtain ⟨most, rfl⟩ : ∃ most : Nat, r6 = (most : Int) := ⟨r6.toNat, by omega⟩
    have hm6 : TD K H6 vm (eMach m) := TD.keep (st5.kt b6) _ hm5
    have hv6 : TD K H6 v0 (eConf c0) := TD.keep (st5.kt b6) _ hv0
    refine ⟨_, rfl, ?_⟩
    refine ⟨fun σ' H' => ∃ (d : Nat) (st : Int) (b : Bool) (ve : V) (ce : Cd) (y : Option V), σ' = [some (.ref a), some (.ref s), some vm, some v0, some (.int most), some ve, some (.int d), some (.int st), some (.bl b), y, none, none, none, none, none, none] ∧
      Same H6 H' ∧ LI K m kk c0 H' ve ce d st ∧ d ≤ most ∧ (b = true → d < most ∧ ce.st ≠ -1 ∧ IsLeap m ce.cf 0 ∧ st < 1500) ∧ (b = false → st < 1500 → d = most ∨ ce.st = -1), ?_, fun σ' H7 hM => ?_⟩
    · refine ⟨fun mu σ' H' => ∃ (d : Nat) (st : Int) (b : Bool) (ve : V) (ce : Cd) (y : Option V), σ' = [some (.ref a), some (.ref s), some vm, some v0, some (.int most), some ve, some (.int d), some (.int st), some (.bl b), y, none, none, none, none, none, none] ∧
        Same H6 H' ∧ LI K m kk c0 H' ve ce d st ∧ d ≤ most ∧ (b = true → d < most ∧ ce.st ≠ -1 ∧ IsLeap m ce.cf 0 ∧ st < 1500) ∧ mu = 2 * (most - d) + (if b = true then 0 else 1),
        ⟨_, 0, 0, false, v0, c0, none, rfl, Same.refl _, ⟨hv6, .nil _, sz0, ok0, Int.le_refl 0, by decide⟩, Nat.zero_le _, (fun h => by cases h), rfl⟩, ?_⟩
      rintro mu σ' H7 ⟨d, st, b, ve, ce, y, rfl, s7, li, hd, hb, rfl⟩
      obtain ⟨ae, be, rfl, hae, hbe⟩ := confE li.td
      refine ⟨_, rfl, _, rfl, _, _, rfl, rfl, _, rfl, ite2 (fun e => ?_) (fun e => ?_)⟩
      rotate_left
      · have e1 : d = most := by
          have : ¬ ((d : Int) < (most : Int)) := fun z => e (decide_eq_true z)
          omega
        exact ⟨d, st, b, _, ce, y, rfl, s7, li, hd, hb, fun _ _ => .inl e1⟩
      have e1 : d < most := by
        have := of_decide_eq_true e
        omega
      refine ⟨_, rfl, ae, _, 0, _, rfl, rfl, hae, atI_nat (j := 0) rfl, _, rfl, rfl, _, rfl, ite2 (fun e => ?_) (fun e => ?_)⟩
      rotate_left
      · have e2 : ce.st = -1 := Classical.byContradiction fun z => e (by simp [z])
        exact ⟨d, st, b, _, ce, y, rfl, s7, li, hd, hb, fun _ _ => .inr e2⟩
      have e2 : ce.st ≠ -1 := fun z => by
        rw [z] at e
        simp at e
      refine ⟨_, rfl, b, rfl, ?_⟩
      cases b with
      | true => exact ⟨d, st, true, _, ce, y, rfl, s7, li, hd, hb, fun h => by cases h⟩
      | false =>
        refine ⟨_, rfl, _, _, rfl, rfl, _, rfl, ite2 (fun e => ?_) (fun e => ?_)⟩
        rotate_left
        · have e3 : ¬ st < 1500 := fun z => e (decide_eq_true z)
          exact ⟨d, st, false, _, ce, y, rfl, s7, li, hd, hb, fun _ h => absurd h e3⟩
        have e3 : st < 1500 := of_decide_eq_true e
        have s0 := li.s0
        refine ⟨fun σ' H' => ∃ (d' : Nat) (st : Int) (b : Bool) (ve : V) (ce : Cd) (y : Option V), σ' = [some (.ref a), some (.ref s), some vm, some v0, some (.int most), some ve, some (.int d'), some (.int st), some (.bl b), y, none, none, none, none, none, none] ∧
          Same H6 H' ∧ LI K m kk c0 H' ve ce d' st ∧ d' ≤ most ∧ (b = true → d' < most ∧ ce.st ≠ -1 ∧ IsLeap m ce.cf 0 ∧ st < 1500) ∧ 2 * (most - d') + (if b = true then 0 else 1) < 2 * (most - d) + 1,
          fun σ' H' ⟨d', st', b', ve', ce', y', h1, h2, h3, h4, h5, h6⟩ => ⟨_, h6, d', st', b', ve', ce', y', h1, h2, h3, h4, h5, rfl⟩, ?_⟩
        refine ⟨_, rfl, _, rfl, vm, _, m, kk, 20 + st, ce, rfl, sD s7 hm6, mok, li.td, li.sz, li.ok, ⟨by omega, by omega⟩, e2, fun H8 z s8 hz z0 z1 => ?_⟩
        have li8 := li.same s8
        have s78 := sTr s7 s8
        refine ⟨fun σ' H' => σ' = [some (.ref a), some (.ref s), some vm, some v0, some (.int most), some (.ref ae), some (.int d), some (.int st), some (.bl false), some (.int z), none, none, none, none, none, none] ∧ Same H8 H', ?_, fun σ' H9 hM => ?_⟩
        · refine ⟨_, rfl, rfl, _, rfl, ite2 (fun e => ?_) (fun e => ?_)⟩
          · have ed : d = 0 := by
              have := V.int.inj (of_decide_eq_true e)
              omega
            refine ⟨_, rfl, _, rfl, _, ce, 20 + st, rfl, li8.td, li8.sz, ⟨by omega, by omega⟩, fun H9 v9 T9 s9 hv9 ab9 l9 r9 => ?_⟩
            have es : st = 0 ∧ ce.cf = c0.cf := li.ch.zero ed
            have q0 := sz0.p0
            have q1 := sz0.p1
            have epl : ce.pl = c0.pl := congrArg Cf.pl es.2
            have bd : Bd 0 T9 := bd_start ab9 ⟨by rw [ab9.pl]; show -20 ≤ ce.pl; omega, by rw [ab9.pl]; show ce.pl ≤ 20; omega⟩ (by omega)
            refine ⟨vm, v9, m, kk, T9, ce.cf, _, 0, rfl, sD (sTr s78 s9) hm6, mok, hv9, ab9, li8.ok, bd, by decide, fun w => e2 (ab9.st.symm.trans w), fun H10 v10 s10 hv10 => ?_⟩
            obtain ⟨a10, xs, rfl, ha10, hx⟩ := hv10.tupE
            obtain ⟨u1, _, rfl, hu1, hx⟩ := hx.consE
            obtain ⟨u2, _, rfl, hu2, hx⟩ := hx.consE
            obtain rfl := hx.nilE
            obtain rfl := hu2.intE
            have ez : slidR m T9 = z := (slid_leap ab9 (li.ok.mv mok e2)).uniq hz
            refine ⟨a10, _, 1, _, rfl, rfl, ha10, atI_nat (j := 1) rfl, _, rfl, rfl, _, rfl, ite2 (fun e => ?_) (fun _ => ⟨rfl, sTr s9 s10⟩)⟩
            rw [ez] at e
            simp at e
          · exact ⟨rfl, Same.refl _⟩
        obtain ⟨rfl, s9⟩ := hM
        have s79 := sTr s78 s9
        have li9 := li8.same s9
        refine ⟨_, rfl, rfl, ?_⟩
        refine ⟨_, rfl, _, rfl, ?_⟩
        by_cases ez : z = 0
        · subst ez
          exact ⟨d, st, true, _, ce, _, rfl, s79, li9, hd, fun _ => ⟨e1, e2, hz, e3⟩, by simp⟩
        · have ed : decide (V.int z = V.int 0) = false := decide_eq_false fun w => ez (V.int.inj w)
          rw [ed]
          obtain ⟨j, rfl⟩ : ∃ j : Nat, z = (j : Int) := ⟨z.toNat, by omega⟩
          refine ⟨_, rfl, _, rfl, _, rfl, vm, _, m, kk, j, 20 + st, ce, rfl, sD s79 hm6, mok, li9.td, li9.sz, li9.ok, by omega, by omega, fun H10 v10 c10 z10 s10 hv10 ec10 sz10 => ?_⟩
          obtain ⟨a10, xs, rfl, ha10, hx⟩ := hv10.tupE
          obtain ⟨u1, _, rfl, hu1, hx⟩ := hx.consE
          obtain ⟨u2, _, rfl, hu2, hx⟩ := hx.consE
          obtain rfl := hx.nilE
          refine ⟨a10, _, 0, _, rfl, rfl, ha10, atI_nat (j := 0) rfl, _, rfl, _, _, rfl, rfl, _, rfl, _, rfl, _, _, rfl, rfl, ?_⟩
          refine ⟨d + 1, st + j, false, _, c10, _, rfl, sTr s79 s10, ⟨hu1, ?_, ?_, ?_, by omega, by omega⟩, by omega, (fun h => by cases h), by simp; omega⟩
          · rw [ec10]
            have := CChain.snoc li.ch e2 hz ez
            exact this
          · have g0 := sz10.p0
            have g1 := sz10.p1
            have g2 := sz10.f0
            have g3 := sz10.f1
            have g4 := sz10.f2
            exact ⟨by omega, by omega, by omega, by omega, by omega⟩
          · rw [ec10]
            exact (li.ok.run mok j).mono (by omega)
    obtain ⟨d, st, b, ve, ce, y, rfl, s7, li, hd, hb1, hb2⟩ := hM
    have s0 := li.s0
    have s1' := li.s1
    refine ⟨fun σ' H' => ∃ (most' : Nat) (b : Bool), σ' = [some (.ref a), some (.ref s), some vm, some v0, some (.int most'), some ve, some (.int d), some (.int st), some (.bl b), y, none, none, none, none, none, none] ∧ H7 = H' ∧ d ≤ most' ∧ most' ≤ 40 ∧
      ((b = false ∧ (d = most' ∨ ce.cf.st = -1)) ∨ (b = true ∧ d < most' ∧ ce.cf.st ≠ -1 ∧ IsLeap m ce.cf 0)), ?_, fun σ' H' hM => ?_⟩
    · refine ⟨_, rfl, _, _, rfl, rfl, _, rfl, ite2 (fun e => ?_) (fun e => ?_)⟩
      · have e1 : 1500 ≤ st := of_decide_eq_true e
        exact ⟨_, rfl, d, false, rfl, rfl, Nat.le_refl _, by omega, .inl ⟨rfl, .inl rfl⟩⟩
      · have e1 : st < 1500 := by
          have : ¬ (1500 ≤ st) := fun z => e (decide_eq_true z)
          omega
        refine ⟨most, b, rfl, rfl, hd, by omega, ?_⟩
        cases b with
        | true =>
          obtain ⟨g1, g2, g3, _⟩ := hb1 rfl
          exact .inr ⟨rfl, g1, g2, g3⟩
        | false => exact .inl ⟨rfl, hb2 rfl e1⟩
    obtain ⟨mo, b', rfl, rfl, hd', hmo, hbb⟩ := hM
    clear hb1 hb2
    have q0 := sz0.p0
    have q1 := sz0.p1
    refine ⟨_, rfl, _, rfl, v0, c0, 20, rfl, sD s7 hv6, sz0, ⟨by decide, by decide⟩, fun H8 v8 T0 s8 hv8 ab0 l0 r0 => ?_⟩
    have s78 := sTr s7 s8
    have bd0 : Bd 0 T0 := bd_start ab0 ⟨by rw [ab0.pl]; exact q0, by rw [ab0.pl]; exact q1⟩ (by omega)
    refine ⟨_, rfl, vm, v8, m, kk, mo, T0, c0.cf, 20, 0, rfl, sD s78 hm6, mok, hv8, ab0, ok0, bd0, by omega, fun H9 v9 d9 st9 b9 U9 s9 lt9 hv9 => ?_⟩
    obtain ⟨U, lt, abU⟩ := li.ch.leaps mok ab0 ok0 hd' hbb
    obtain ⟨rfl, rfl, rfl, rfl⟩ := lt.uniq lt9
    have s79 := sTr s78 s9
    have li9 := li.same (sTr s8 s9)
    refine ⟨_, rfl, _, rfl, ve, ce, 20 + st, rfl, li9.td, li9.sz, ⟨by omega, by omega⟩, fun H10 v10 T10 s10 hv10 ab10 _ _ => ?_⟩
    obtain rfl := ab10.uniq abU
    refine ⟨_, rfl, _, rfl, _, rfl, by simp, fun p11 H11 _ s11 g11 => ?_⟩
    have ta : TD K H11 v9 (.tuple [eTape T10, .int (d : Nat), .int st, .bool b']) := sD (sTr s10 s11) hv9
    have tb : TD K H11 (.ref p11) (.tuple [eTape T10, .int (d : Nat), .int st, .bool b']) := .tup (.of g11) (.cons (sD s11 hv10) (.cons (.int _) (.cons (.int _) (.cons (.bl _) .nil))))
    have dep : (PyData.tuple [eTape T10, .int (d : Nat), .int st, .bool b']).depth ≤ 64 := by
      have := depth_tape T10
      simp only [PyData.depth, PyData.depthAll]
      omega
    refine ⟨_, _, (TD.dp _ ta).1, (TD.dp _ tb).1, ta.shaped dep, tb.shaped dep, _, rfl, ?_⟩
    rw [SeqAt.eqv_refl _ (TD.dp _ ta).2]
    obtain ⟨a9, xs9, rfl, ha9, hx9⟩ := ta.tupE
    obtain ⟨u1, _, rfl, hu1, hx9⟩ := hx9.consE
    obtain ⟨u2, _, rfl, hu2, hx9⟩ := hx9.consE
    obtain ⟨u3, _, rfl, hu3, hx9⟩ := hx9.consE
    obtain ⟨u4, _, rfl, hu4, hx9⟩ := hx9.consE
    obtain rfl := hx9.nilE
    obtain rfl := hu2.intE
    obtain rfl := hu3.intE
    obtain rfl := hu4.blE
    refine ⟨_, rfl, _, _, _, _, true, rfl, .ty _, SqT.ty ha9, kit_ty (a := "tuple") (b := "tuple") (by decide +kernel), _, rfl, ?_⟩
    obtain ⟨_, c10, abk, okk, bdk⟩ := lt.1.keep mok ab0 ok0 bd0 (by omega)
    have bdl := bdk.lf
    have bdr := bdk.rt
    refine ⟨_, rfl, 3, rfl, a9, _, rfl, ha9, fun H12 p12 s12 h12 => ?_⟩
    refine ⟨.ref p12, .tuple [eTape T10, .int (d : Nat), .int st], rfl, .tup h12 (.cons (sD s12 hu1) (.cons (.int _) (.cons (.int _) .nil))), plain_all (by omega) (by omega), fun H13 s13 => ?_⟩
    have s1113 := sTr s12 s13
    have ha13 := sT s1113 ha9
    refine ⟨_, rfl, _, rfl, a9, _, 3, _, rfl, rfl, ha13, atI_nat (j := 3) rfl, _, _, _, _, true, rfl, .ty _, .base (.bl b'), kit_ty (a := "bool") (b := "bool") (by decide +kernel), _, rfl, ?_⟩
    have s713 : Same H7 H13 := sTr s8 (sTr s9 (sTr s10 (sTr s11 s1113)))
    have s613 := sTr s7 s713
    have li13 := li.same s713
    obtain ⟨ae, be, rfl, hae, hbe⟩ := confE li13.td
    refine ⟨_, rfl, b', rfl, ?_⟩
    cases b' with
    | true =>
      obtain ⟨e0, _⟩ | ⟨_, _, e2, e3⟩ := hbb
      · cases e0
      have e2 : ce.st ≠ -1 := e2
      have mv := li.ok.mv mok e2
      have sy : cellF ce.fs ce.cs ce.pl = 0 := endless_sy li.ok mv e3
      have mv : (ruleAt m ce.st (cellF ce.fs ce.cs ce.pl)).2.1 = 1 ∨ (ruleAt m ce.st (cellF ce.fs ce.cs ce.pl)).2.1 = -1 := mv
      have g0 := li.ok.st0
      have g1 := li.ok.st1
      have g0 : -1 ≤ ce.st := g0
      obtain ⟨am, xm, bm, ym, cm, rfl, h1, f1, h2, f2, _, h3⟩ := machE mok (sD s613 hm6) (s := ce.st) (x := 0) (by omega) g1 (by decide) (by omega)
      obtain ⟨r1, r2⟩ := run_endless mv e2 e3 40
      refine ⟨_, rfl, _, rfl, ae, _, 0, _, rfl, rfl, hae, atI_nat (j := 0) rfl, am, xm, _, _, rfl, rfl, h1, f1, bm, ym, 0, _, rfl, rfl, h2, f2, cm, _, 1, _, rfl, rfl, h3, atI_nat (j := 1) rfl, ?_⟩
      refine ⟨_, rfl, _, rfl, .ref am, _, m, kk, 40, 20 + st, ce, rfl, sD s613 hm6, mok, li13.td, li13.sz, li13.ok, by omega, by omega, fun H14 v14 c14 z14 s14 hv14 ec14 sz14 => ?_⟩
      obtain ⟨a14, xs, rfl, ha14, hx⟩ := hv14.tupE
      obtain ⟨w1, _, rfl, hw1, hx⟩ := hx.consE
      obtain ⟨w2, _, rfl, hw2, hx⟩ := hx.consE
      obtain rfl := hx.nilE
      obtain ⟨al, bl, rfl, hal, hbl⟩ := confE hw1
      have hae14 := sT s14 hae
      have q1 : c14.st = ce.st := by
        have := congrArg Cf.st ec14
        exact this.trans r1
      have q2 : c14.pl = ce.pl + 40 * (ruleAt m ce.st 0).2.1 := by
        have := congrArg Cf.pl ec14
        refine this.trans (r2.trans ?_)
        show ce.pl + (ruleAt m ce.st (cellF ce.fs ce.cs ce.pl)).2.1 * ((40 : Nat) : Int) = _
        rw [sy, Int.mul_comm]
        rfl
      refine ⟨a14, _, 0, _, rfl, rfl, ha14, atI_nat (j := 0) rfl, ?_⟩
      refine ⟨_, rfl, al, _, 0, _, rfl, rfl, hal, atI_nat (j := 0) rfl, _, rfl, ae, _, 0, _, rfl, rfl, hae14, atI_nat (j := 0) rfl, rfl, _, rfl, ite2 (fun _ => ?_) (fun z => absurd (decide_eq_true (by rw [q1])) z)⟩
      refine ⟨_, rfl, al, _, 1, _, rfl, rfl, hal, atI_nat (j := 1) rfl, _, rfl, ae, _, 1, _, rfl, rfl, hae14, atI_nat (j := 1) rfl, _, rfl, _, _, rfl, rfl, .inl ⟨by decide, by decide⟩, _, _, rfl, rfl, rfl, ?_⟩
      show Q (V.bl (decide (V.int c14.pl = V.int (ce.pl + 40 * (ruleAt m ce.st 0).2.1)))) H14
      rw [q2, decide_eq_true rfl]
      exact k H14
    | false =>
      have st13 := st6.same s613
      refine ⟨_, rfl, _, rfl, _, _, rfl, rfl, s, l, _, rfl, st13, by omega, by omega, fun H14 r14 b14 st14 r0' r1' => ?_⟩
      obtain ⟨c, rfl⟩ : ∃ c : Nat, r14 = (c : Int) := ⟨r14.toNat, by omega⟩
      have kt14 : KT K H13 H14 := st13.kt b14
      have hm14 : TD K H14 vm (eMach m) := TD.keep kt14 _ (sD s613 hm6)
      have hv14 : TD K H14 v0 (eConf c0) := TD.keep kt14 _ (sD s613 hv6)
      refine ⟨_, rfl, _, rfl, v0, c0, 20, rfl, hv14, sz0, ⟨by decide, by decide⟩, fun H15 v15 T15 s15 hv15 ab15 _ _ => ?_⟩
      obtain rfl := ab15.uniq ab0
      refine ⟨_, rfl, vm, v15, m, kk, c, T15, c0.cf, 20, 0, rfl, sD s15 hm14, mok, hv15, ab0, ok0, bd0, by omega, fun H16 v16 d16 t16 e16 U16 s16 lt16 hv16 => ?_⟩
      obtain ⟨V, p1, p2, lp1, lp2, psum⟩ := lt.1.parts (c := c) (by omega)
      obtain ⟨rfl, rfl, rfl, rfl⟩ := lp1.uniq lt16
      obtain ⟨_, cV, abV, okV, bdV⟩ := lp1.1.keep mok ab0 ok0 bd0 (by omega)
      obtain ⟨a16, xs, rfl, ha16, hx⟩ := hv16.tupE
      obtain ⟨w1, _, rfl, hw1, hx⟩ := hx.consE
      obtain ⟨w2, _, rfl, hw2, hx⟩ := hx.consE
      obtain ⟨w3, _, rfl, hw3, hx⟩ := hx.consE
      obtain ⟨w4, _, rfl, hw4, hx⟩ := hx.consE
      obtain rfl := hx.nilE
      obtain rfl := hw2.intE
      obtain rfl := hw3.intE
      refine ⟨_, rfl, _, rfl, a16, _, 0, _, rfl, rfl, ha16, atI_nat (j := 0) rfl, _, rfl, _, rfl, _, _, rfl, rfl, ?_⟩
      refine ⟨vm, w1, m, kk, d - c, V, cV, _, _, by show [vm, w1, L2.V.int ((d : Int) - (c : Int))] = _; rw [show ((d : Int) - (c : Int)) = ((d - c : Nat) : Int) by omega], sD (sTr s15 s16) hm14, mok, hw1, abV, okV, bdV, by omega, fun H17 v17 d17 t17 e17 U17 s17 lt17 hv17 => ?_⟩
      obtain ⟨rfl, rfl, rfl, rfl⟩ := lp2.uniq lt17
      obtain ⟨a17, ys, rfl, ha17, hy⟩ := hv17.tupE
      obtain ⟨z1, _, rfl, hz1, hy⟩ := hy.consE
      obtain ⟨z2, _, rfl, hz2, hy⟩ := hy.consE
      obtain ⟨z3, _, rfl, hz3, hy⟩ := hy.consE
      obtain ⟨z4, _, rfl, hz4, hy⟩ := hy.consE
      obtain rfl := hy.nilE
      obtain rfl := hz2.intE
      obtain rfl := hz3.intE
      have kt17 : KT K H13 H17 := kt14.trans (Same.kt (sTr (sTr s15 s16) s17))
      have ha9' := kt17 _ _ ha13
      have hu1' : TD K H17 u1 (eTape T10) := TD.keep kt17 _ (sD s1113 hu1)
      have ha16' := sT s17 ha16
      have dep' : (eTape T10).depth ≤ 64 := by
        have := depth_tape T10
        omega
      refine ⟨_, rfl, a17, _, 0, _, rfl, rfl, ha17, atI_nat (j := 0) rfl, _, rfl, a9, _, 0, _, rfl, rfl, ha9', atI_nat (j := 0) rfl, _, _, (TD.dp _ hz1).1, (TD.dp _ hu1').1, hz1.shaped dep', hu1'.shaped dep', _, rfl, ?_⟩
      rw [SeqAt.eqv_refl _ (TD.dp _ hu1').2]
      refine ⟨_, rfl, a16, _, 1, _, rfl, rfl, ha16', atI_nat (j := 1) rfl, _, rfl, a17, _, 1, _, rfl, rfl, ha17, atI_nat (j := 1) rfl, _, _, rfl, rfl, _, rfl, rfl, _, rfl, ite2 (fun _ => ?_) (fun z => absurd (decide_eq_true ?_) z)⟩
      rotate_left
      · show L2.V.int ((c : Int) + ((d - c : Nat) : Int)) = L2.V.int (d : Int)
        congr 1
        omega
      refine ⟨_, rfl, a16, _, 2, _, rfl, rfl, ha16', atI_nat (j := 2) rfl, _, rfl, a17, _, 2, _, rfl, rfl, ha17, atI_nat (j := 2) rfl, _, _, rfl, rfl, _, rfl, rfl, ?_⟩
      show Q (L2.V.bl (decide (L2.V.int (p1 + p2) = L2.V.int st))) H17
      rw [psum, decide_eq_true rfl]
      exact k H17
end
end K19

/-! ## K19Z -/
namespace K19
open PySem PySem.Spec PyProof.Rows L2
/-! ### what the top has written; the law's own head -/
theorem all_mk {l : PySem.W.OpenLaw} {w : World} {K : PySem.W.Frag} {h : Heap} {mg : Str → Option Value} {fa aB aE f_added f_whole f_slid f_moved f_leap f_leaps f_law_stream f_law_draw f_law_machine f_law_keeping f_law_start f_law_take f_law_end f_law_run f_law_tape f_law_grouped f_law_to_runs f_law_count f_law_plain f_law : Addr} {kS kC kR t1 t2 t3 : Tok} (X : K.In h) (G : h.Ns mainGlobals mg) (hfa : mg "law" = some (.ref fa))
    {nB nE : Nat} {dB dE : Option Addr} {slB slE : Array (Option Value)}
    {od_added an_added : Option Addr} {sl_added : Array (Option Value)} {oc_added kV_added dc_added pm_added cd_added ct_added : Value}
    {od_whole an_whole : Option Addr} {sl_whole : Array (Option Value)} {oc_whole kV_whole dc_whole pm_whole cd_whole ct_whole : Value}
    {od_slid an_slid : Option Addr} {sl_slid : Array (Option Value)} {oc_slid kV_slid dc_slid pm_slid cd_slid ct_slid : Value}
    {od_moved an_moved : Option Addr} {sl_moved : Array (Option Value)} {oc_moved kV_moved dc_moved pm_moved cd_moved ct_moved : Value}
    {od_leap an_leap : Option Addr} {sl_leap : Array (Option Value)} {oc_leap kV_leap dc_leap pm_leap cd_leap ct_leap : Value}
    {od_leaps an_leaps : Option Addr} {sl_leaps : Array (Option Value)} {oc_leaps kV_leaps dc_leaps pm_leaps cd_leaps ct_leaps : Value}
    {od_law_stream an_law_stream : Option Addr} {sl_law_stream : Array (Option Value)} {oc_law_stream kV_law_stream dc_law_stream pm_law_stream cd_law_stream ct_law_stream : Value}
    {od_law_draw an_law_draw : Option Addr} {sl_law_draw : Array (Option Value)} {oc_law_draw kV_law_draw dc_law_draw pm_law_draw cd_law_draw ct_law_draw : Value}
    {od_law_machine an_law_machine : Option Addr} {sl_law_machine : Array (Option Value)} {oc_law_machine kV_law_machine dc_law_machine pm_law_machine cd_law_machine ct_law_machine : Value}
    {od_law_keeping an_law_keeping : Option Addr} {sl_law_keeping : Array (Option Value)} {oc_law_keeping kV_law_keeping dc_law_keeping pm_law_keeping cd_law_keeping ct_law_keeping : Value}
    {od_law_start an_law_start : Option Addr} {sl_law_start : Array (Option Value)} {oc_law_start kV_law_start dc_law_start pm_law_start cd_law_start ct_law_start : Value}
    {od_law_take an_law_take : Option Addr} {sl_law_take : Array (Option Value)} {oc_law_take kV_law_take dc_law_take pm_law_take cd_law_take ct_law_take : Value}
    {od_law_end an_law_end : Option Addr} {sl_law_end : Array (Option Value)} {oc_law_end kV_law_end dc_law_end pm_law_end cd_law_end ct_law_end : Value}
    {od_law_run an_law_run : Option Addr} {sl_law_run : Array (Option Value)} {oc_law_run kV_law_run dc_law_run pm_law_run cd_law_run ct_law_run : Value}
    {od_law_tape an_law_tape : Option Addr} {sl_law_tape : Array (Option Value)} {oc_law_tape kV_law_tape dc_law_tape pm_law_tape cd_law_tape ct_law_tape : Value}
    {od_law_grouped an_law_grouped : Option Addr} {sl_law_grouped : Array (Option Value)} {oc_law_grouped kV_law_grouped dc_law_grouped pm_law_grouped cd_law_grouped ct_law_grouped : Value}
    {od_law_to_runs an_law_to_runs : Option Addr} {sl_law_to_runs : Array (Option Value)} {oc_law_to_runs kV_law_to_runs dc_law_to_runs pm_law_to_runs cd_law_to_runs ct_law_to_runs : Value}
    {od_law_count an_law_count : Option Addr} {sl_law_count : Array (Option Value)} {oc_law_count kV_law_count dc_law_count pm_law_count cd_law_count ct_law_count : Value}
    {od_law_plain an_law_plain : Option Addr} {sl_law_plain : Array (Option Value)} {oc_law_plain kV_law_plain dc_law_plain pm_law_plain cd_law_plain ct_law_plain : Value}
    {od_law an_law : Option Addr} {sl_law : Array (Option Value)} {oc_law kV_law dc_law pm_law cd_law ct_law : Value}
    (a_added : PySem.W.nsIn K mainGlobals "added" = some (some (.ref f_added))) (l_added : K.lookup f_added = some ⟨oc_added, od_added, .func (PySem.W.fnOf "added" "added" (defArgs s_added) (defBody s_added) (defScope s_added) .none kV_added dc_added pm_added an_added cd_added ct_added), sl_added⟩) (c_added : PySem.W.codeIn K cd_added "added" = true) (k_added : PySem.W.keepIn K (.ref f_added) = true)
    (a_whole : PySem.W.nsIn K mainGlobals "whole" = some (some (.ref f_whole))) (l_whole : K.lookup f_whole = some ⟨oc_whole, od_whole, .func (PySem.W.fnOf "whole" "whole" (defArgs s_whole) (defBody s_whole) (defScope s_whole) .none kV_whole dc_whole pm_whole an_whole cd_whole ct_whole), sl_whole⟩) (c_whole : PySem.W.codeIn K cd_whole "whole" = true) (k_whole : PySem.W.keepIn K (.ref f_whole) = true)
    (a_slid : PySem.W.nsIn K mainGlobals "slid" = some (some (.ref f_slid))) (l_slid : K.lookup f_slid = some ⟨oc_slid, od_slid, .func (PySem.W.fnOf "slid" "slid" (defArgs s_slid) (defBody s_slid) (defScope s_slid) .none kV_slid dc_slid pm_slid an_slid cd_slid ct_slid), sl_slid⟩) (c_slid : PySem.W.codeIn K cd_slid "slid" = true) (k_slid : PySem.W.keepIn K (.ref f_slid) = true)
    (a_moved : PySem.W.nsIn K mainGlobals "moved" = some (some (.ref f_moved))) (l_moved : K.lookup f_moved = some ⟨oc_moved, od_moved, .func (PySem.W.fnOf "moved" "moved" (defArgs s_moved) (defBody s_moved) (defScope s_moved) .none kV_moved dc_moved pm_moved an_moved cd_moved ct_moved), sl_moved⟩) (c_moved : PySem.W.codeIn K cd_moved "moved" = true) (k_moved : PySem.W.keepIn K (.ref f_moved) = true)
    (a_leap : PySem.W.nsIn K mainGlobals "leap" = some (some (.ref f_leap))) (l_leap : K.lookup f_leap = some ⟨oc_leap, od_leap, .func (PySem.W.fnOf "leap" "leap" (defArgs s_leap) (defBody s_leap) (defScope s_leap) .none kV_leap dc_leap pm_leap an_leap cd_leap ct_leap), sl_leap⟩) (c_leap : PySem.W.codeIn K cd_leap "leap" = true) (k_leap : PySem.W.keepIn K (.ref f_leap) = true)
    (a_leaps : PySem.W.nsIn K mainGlobals "leaps" = some (some (.ref f_leaps))) (l_leaps : K.lookup f_leaps = some ⟨oc_leaps, od_leaps, .func (PySem.W.fnOf "leaps" "leaps" (defArgs s_leaps) (defBody s_leaps) (defScope s_leaps) .none kV_leaps dc_leaps pm_leaps an_leaps cd_leaps ct_leaps), sl_leaps⟩) (c_leaps : PySem.W.codeIn K cd_leaps "leaps" = true) (k_leaps : PySem.W.keepIn K (.ref f_leaps) = true)
    (a_law_stream : PySem.W.nsIn K mainGlobals "_law_stream" = some (some (.ref f_law_stream))) (l_law_stream : K.lookup f_law_stream = some ⟨oc_law_stream, od_law_stream, .func (PySem.W.fnOf "_law_stream" "_law_stream" (defArgs s_law_stream) (defBody s_law_stream) (defScope s_law_stream) .none kV_law_stream dc_law_stream pm_law_stream an_law_stream cd_law_stream ct_law_stream), sl_law_stream⟩) (c_law_stream : PySem.W.codeIn K cd_law_stream "_law_stream" = true) (k_law_stream : PySem.W.keepIn K (.ref f_law_stream) = true)
    (a_law_draw : PySem.W.nsIn K mainGlobals "_law_draw" = some (some (.ref f_law_draw))) (l_law_draw : K.lookup f_law_draw = some ⟨oc_law_draw, od_law_draw, .func (PySem.W.fnOf "_law_draw" "_law_draw" (defArgs s_law_draw) (defBody s_law_draw) (defScope s_law_draw) .none kV_law_draw dc_law_draw pm_law_draw an_law_draw cd_law_draw ct_law_draw), sl_law_draw⟩) (c_law_draw : PySem.W.codeIn K cd_law_draw "_law_draw" = true) (k_law_draw : PySem.W.keepIn K (.ref f_law_draw) = true)
    (a_law_machine : PySem.W.nsIn K mainGlobals "_law_machine" = some (some (.ref f_law_machine))) (l_law_machine : K.lookup f_law_machine = some ⟨oc_law_machine, od_law_machine, .func (PySem.W.fnOf "_law_machine" "_law_machine" (defArgs s_law_machine) (defBody s_law_machine) (defScope s_law_machine) .none kV_law_machine dc_law_machine pm_law_machine an_law_machine cd_law_machine ct_law_machine), sl_law_machine⟩) (c_law_machine : PySem.W.codeIn K cd_law_machine "_law_machine" = true) (k_law_machine : PySem.W.keepIn K (.ref f_law_machine) = true)
    (a_law_keeping : PySem.W.nsIn K mainGlobals "_law_keeping" = some (some (.ref f_law_keeping))) (l_law_keeping : K.lookup f_law_keeping = some ⟨oc_law_keeping, od_law_keeping, .func (PySem.W.fnOf "_law_keeping" "_law_keeping" (defArgs s_law_keeping) (defBody s_law_keeping) (defScope s_law_keeping) .none kV_law_keeping dc_law_keeping pm_law_keeping an_law_keeping cd_law_keeping ct_law_keeping), sl_law_keeping⟩) (c_law_keeping : PySem.W.codeIn K cd_law_keeping "_law_keeping" = true) (k_law_keeping : PySem.W.keepIn K (.ref f_law_keeping) = true)
    (a_law_start : PySem.W.nsIn K mainGlobals "_law_start" = some (some (.ref f_law_start))) (l_law_start : K.lookup f_law_start = some ⟨oc_law_start, od_law_start, .func (PySem.W.fnOf "_law_start" "_law_start" (defArgs s_law_start) (defBody s_law_start) (defScope s_law_start) .none kV_law_start dc_law_start pm_law_start an_law_start cd_law_start ct_law_start), sl_law_start⟩) (c_law_start : PySem.W.codeIn K cd_law_start "_law_start" = true) (k_law_start : PySem.W.keepIn K (.ref f_law_start) = true)
    (a_law_take : PySem.W.nsIn K mainGlobals "_law_take" = some (some (.ref f_law_take))) (l_law_take : K.lookup f_law_take = some ⟨oc_law_take, od_law_take, .func (PySem.W.fnOf "_law_take" "_law_take" (defArgs s_law_take) (defBody s_law_take) (defScope s_law_take) .none kV_law_take dc_law_take pm_law_take an_law_take cd_law_take ct_law_take), sl_law_take⟩) (c_law_take : PySem.W.codeIn K cd_law_take "_law_take" = true) (k_law_take : PySem.W.keepIn K (.ref f_law_take) = true)
    (a_law_end : PySem.W.nsIn K mainGlobals "_law_end" = some (some (.ref f_law_end))) (l_law_end : K.lookup f_law_end = some ⟨oc_law_end, od_law_end, .func (PySem.W.fnOf "_law_end" "_law_end" (defArgs s_law_end) (defBody s_law_end) (defScope s_law_end) .none kV_law_end dc_law_end pm_law_end an_law_end cd_law_end ct_law_end), sl_law_end⟩) (c_law_end : PySem.W.codeIn K cd_law_end "_law_end" = true) (k_law_end : PySem.W.keepIn K (.ref f_law_end) = true)
    (a_law_run : PySem.W.nsIn K mainGlobals "_law_run" = some (some (.ref f_law_run))) (l_law_run : K.lookup f_law_run = some ⟨oc_law_run, od_law_run, .func (PySem.W.fnOf "_law_run" "_law_run" (defArgs s_law_run) (defBody s_law_run) (defScope s_law_run) .none kV_law_run dc_law_run pm_law_run an_law_run cd_law_run ct_law_run), sl_law_run⟩) (c_law_run : PySem.W.codeIn K cd_law_run "_law_run" = true) (k_law_run : PySem.W.keepIn K (.ref f_law_run) = true)
    (a_law_tape : PySem.W.nsIn K mainGlobals "_law_tape" = some (some (.ref f_law_tape))) (l_law_tape : K.lookup f_law_tape = some ⟨oc_law_tape, od_law_tape, .func (PySem.W.fnOf "_law_tape" "_law_tape" (defArgs s_law_tape) (defBody s_law_tape) (defScope s_law_tape) .none kV_law_tape dc_law_tape pm_law_tape an_law_tape cd_law_tape ct_law_tape), sl_law_tape⟩) (c_law_tape : PySem.W.codeIn K cd_law_tape "_law_tape" = true) (k_law_tape : PySem.W.keepIn K (.ref f_law_tape) = true)
    (a_law_grouped : PySem.W.nsIn K mainGlobals "_law_grouped" = some (some (.ref f_law_grouped))) (l_law_grouped : K.lookup f_law_grouped = some ⟨oc_law_grouped, od_law_grouped, .func (PySem.W.fnOf "_law_grouped" "_law_grouped" (defArgs s_law_grouped) (defBody s_law_grouped) (defScope s_law_grouped) .none kV_law_grouped dc_law_grouped pm_law_grouped an_law_grouped cd_law_grouped ct_law_grouped), sl_law_grouped⟩) (c_law_grouped : PySem.W.codeIn K cd_law_grouped "_law_grouped" = true) (k_law_grouped : PySem.W.keepIn K (.ref f_law_grouped) = true)
    (a_law_to_runs : PySem.W.nsIn K mainGlobals "_law_to_runs" = some (some (.ref f_law_to_runs))) (l_law_to_runs : K.lookup f_law_to_runs = some ⟨oc_law_to_runs, od_law_to_runs, .func (PySem.W.fnOf "_law_to_runs" "_law_to_runs" (defArgs s_law_to_runs) (defBody s_law_to_runs) (defScope s_law_to_runs) .none kV_law_to_runs dc_law_to_runs pm_law_to_runs an_law_to_runs cd_law_to_runs ct_law_to_runs), sl_law_to_runs⟩) (c_law_to_runs : PySem.W.codeIn K cd_law_to_runs "_law_to_runs" = true) (k_law_to_runs : PySem.W.keepIn K (.ref f_law_to_runs) = true)
    (a_law_count : PySem.W.nsIn K mainGlobals "_law_count" = some (some (.ref f_law_count))) (l_law_count : K.lookup f_law_count = some ⟨oc_law_count, od_law_count, .func (PySem.W.fnOf "_law_count" "_law_count" (defArgs s_law_count) (defBody s_law_count) (defScope s_law_count) .none kV_law_count dc_law_count pm_law_count an_law_count cd_law_count ct_law_count), sl_law_count⟩) (c_law_count : PySem.W.codeIn K cd_law_count "_law_count" = true) (k_law_count : PySem.W.keepIn K (.ref f_law_count) = true)
    (a_law_plain : PySem.W.nsIn K mainGlobals "_law_plain" = some (some (.ref f_law_plain))) (l_law_plain : K.lookup f_law_plain = some ⟨oc_law_plain, od_law_plain, .func (PySem.W.fnOf "_law_plain" "_law_plain" (defArgs s_law_plain) (defBody s_law_plain) (defScope s_law_plain) .none kV_law_plain dc_law_plain pm_law_plain an_law_plain cd_law_plain ct_law_plain), sl_law_plain⟩) (c_law_plain : PySem.W.codeIn K cd_law_plain "_law_plain" = true) (k_law_plain : PySem.W.keepIn K (.ref f_law_plain) = true)
    (a_law : PySem.W.nsIn K mainGlobals "law" = some (some (.ref f_law))) (l_law : K.lookup f_law = some ⟨oc_law, od_law, .func (PySem.W.fnOf "law" "law" (defArgs s_law) (defBody s_law) (defScope s_law) .none kV_law dc_law pm_law an_law cd_law ct_law), sl_law⟩) (c_law : PySem.W.codeIn K cd_law "law" = true) (k_law : PySem.W.keepIn K (.ref f_law) = true)
    (z_len : PySem.W.nsIn K mainGlobals "len" = some none)
    (z_abs : PySem.W.nsIn K mainGlobals "abs" = some none)
    (z_max : PySem.W.nsIn K mainGlobals "max" = some none)
    (z_min : PySem.W.nsIn K mainGlobals "min" = some none)
    (z_int : PySem.W.nsIn K mainGlobals "int" = some none)
    (z_tuple : PySem.W.nsIn K mainGlobals "tuple" = some none)
    (z_list : PySem.W.nsIn K mainGlobals "list" = some none)
    (z_sorted : PySem.W.nsIn K mainGlobals "sorted" = some none)
    (z_all : PySem.W.nsIn K mainGlobals "all" = some none)
    (z_isinstance : PySem.W.nsIn K mainGlobals "isinstance" = some none)
    (z_range : PySem.W.nsIn K mainGlobals "range" = some none)
    (z_bool : PySem.W.nsIn K mainGlobals "bool" = some none)
    (g_stop : PySem.W.nsIn K mainGlobals "STOP" = some (some (.int (-1) kS))) (g_count : PySem.W.nsIn K mainGlobals "MOST_COUNT" = some (some (.int 1000000000000000000 kC))) (g_runs : PySem.W.nsIn K mainGlobals "MOST_RUNS" = some (some (.int 1000 kR)))
    (g_blank : PySem.W.nsIn K mainGlobals "BLANK" = some (some (.ref aB))) (l_blank : K.lookup aB = some ⟨.type "tuple", dB, .seq #[.int 0 t1, .int 0 t2, .int 0 t3, .ref aE] nB, slB⟩) (l_empty : K.lookup aE = some ⟨.type "tuple", dE, .seq #[] nE, slE⟩) :
    ∃ fd : FuncData, (∀ (s : Shared) (v : Value), BindsTo s fd ⟨[v], []⟩ [("_law_script", v)]) ∧ ∀ base : Heap, K.In base → base.Ns mainGlobals mg → FnOk l.prog w K mg base CX0 6 fa fd ["_law_script"] (spLaw K) := by
  have e := hfa.symm.trans (PySem.W.mg_of X G a_law)
  cases e
  have F_added := fun_mk (st := s_added) l_added c_added k_added
  have F_whole := fun_mk (st := s_whole) l_whole c_whole k_whole
  have F_slid := fun_mk (st := s_slid) l_slid c_slid k_slid
  have F_moved := fun_mk (st := s_moved) l_moved c_moved k_moved
  have F_leap := fun_mk (st := s_leap) l_leap c_leap k_leap
  have F_leaps := fun_mk (st := s_leaps) l_leaps c_leaps k_leaps
  have F_law_stream := fun_mk (st := s_law_stream) l_law_stream c_law_stream k_law_stream
  have F_law_draw := fun_mk (st := s_law_draw) l_law_draw c_law_draw k_law_draw
  have F_law_machine := fun_mk (st := s_law_machine) l_law_machine c_law_machine k_law_machine
  have F_law_keeping := fun_mk (st := s_law_keeping) l_law_keeping c_law_keeping k_law_keeping
  have F_law_start := fun_mk (st := s_law_start) l_law_start c_law_start k_law_start
  have F_law_take := fun_mk (st := s_law_take) l_law_take c_law_take k_law_take
  have F_law_end := fun_mk (st := s_law_end) l_law_end c_law_end k_law_end
  have F_law_run := fun_mk (st := s_law_run) l_law_run c_law_run k_law_run
  have F_law_tape := fun_mk (st := s_law_tape) l_law_tape c_law_tape k_law_tape
  have F_law_grouped := fun_mk (st := s_law_grouped) l_law_grouped c_law_grouped k_law_grouped
  have F_law_to_runs := fun_mk (st := s_law_to_runs) l_law_to_runs c_law_to_runs k_law_to_runs
  have F_law_count := fun_mk (st := s_law_count) l_law_count c_law_count k_law_count
  have F_law_plain := fun_mk (st := s_law_plain) l_law_plain c_law_plain k_law_plain
  have F_law := fun_mk (st := s_law) l_law c_law k_law
  have b_added := F_added.binds (ps := ["runs", "symbol", "count"]) fun _ _ _ _ _ _ us hl => match us, hl with | [_, _, _], _ => rfl
  have b_whole := F_whole.binds (ps := ["tape"]) fun _ _ _ _ _ _ us hl => match us, hl with | [_], _ => rfl
  have b_slid := F_slid.binds (ps := ["machine", "tape"]) fun _ _ _ _ _ _ us hl => match us, hl with | [_, _], _ => rfl
  have b_moved := F_moved.binds (ps := ["tape", "rule", "count"]) fun _ _ _ _ _ _ us hl => match us, hl with | [_, _, _], _ => rfl
  have b_leap := F_leap.binds (ps := ["machine", "tape"]) fun _ _ _ _ _ _ us hl => match us, hl with | [_, _], _ => rfl
  have b_leaps := F_leaps.binds (ps := ["machine", "tape", "count"]) fun _ _ _ _ _ _ us hl => match us, hl with | [_, _, _], _ => rfl
  have b_law_stream := F_law_stream.binds (ps := ["_law_script"]) fun _ _ _ _ _ _ us hl => match us, hl with | [_], _ => rfl
  have b_law_draw := F_law_draw.binds (ps := ["_law_stream_here", "_law_many"]) fun _ _ _ _ _ _ us hl => match us, hl with | [_, _], _ => rfl
  have b_law_machine := F_law_machine.binds (ps := ["_law_stream_here", "_law_stops"]) fun _ _ _ _ _ _ us hl => match us, hl with | [_, _], _ => rfl
  have b_law_keeping := F_law_keeping.binds (ps := ["_law_stream_here", "_law_machine_here"]) fun _ _ _ _ _ _ us hl => match us, hl with | [_, _], _ => rfl
  have b_law_start := F_law_start.binds (ps := ["_law_configuration"]) fun _ _ _ _ _ _ us hl => match us, hl with | [_], _ => rfl
  have b_law_take := F_law_take.binds (ps := ["_law_machine_here", "_law_now"]) fun _ _ _ _ _ _ us hl => match us, hl with | [_, _], _ => rfl
  have b_law_end := F_law_end.binds (ps := ["_law_now"]) fun _ _ _ _ _ _ us hl => match us, hl with | [_], _ => rfl
  have b_law_run := F_law_run.binds (ps := ["_law_machine_here", "_law_configuration", "_law_count_here"]) fun _ _ _ _ _ _ us hl => match us, hl with | [_, _, _], _ => rfl
  have b_law_tape := F_law_tape.binds (ps := ["_law_stream_here", "_law_machine_here"]) fun _ _ _ _ _ _ us hl => match us, hl with | [_, _], _ => rfl
  have b_law_grouped := F_law_grouped.binds (ps := ["_law_cells"]) fun _ _ _ _ _ _ us hl => match us, hl with | [_], _ => rfl
  have b_law_to_runs := F_law_to_runs.binds (ps := ["_law_value"]) fun _ _ _ _ _ _ us hl => match us, hl with | [_], _ => rfl
  have b_law_count := F_law_count.binds (ps := ["_law_machine_here", "_law_value"]) fun _ _ _ _ _ _ us hl => match us, hl with | [_, _], _ => rfl
  have b_law_plain := F_law_plain.binds (ps := ["_law_value"]) fun _ _ _ _ _ _ us hl => match us, hl with | [_], _ => rfl
  have T : Txt mg kS kC kR aB := ⟨PySem.W.mg_none_of X G z_len, PySem.W.mg_none_of X G z_abs, PySem.W.mg_none_of X G z_max, PySem.W.mg_none_of X G z_min, PySem.W.mg_none_of X G z_int, PySem.W.mg_none_of X G z_tuple, PySem.W.mg_none_of X G z_list, PySem.W.mg_none_of X G z_sorted, PySem.W.mg_none_of X G z_all, PySem.W.mg_none_of X G z_isinstance, PySem.W.mg_none_of X G z_range, PySem.W.mg_none_of X G z_bool, PySem.W.mg_of X G g_stop, PySem.W.mg_of X G g_count, PySem.W.mg_of X G g_runs, PySem.W.mg_of X G g_blank⟩
  have hB : ∀ H, TD K H (.ref aB) (eConf ⟨0, 0, 0, []⟩) := fun H => .tup (xs := [.int 0, .int 0, .int 0, .ref aE]) (.inr ⟨_, _, _, l_blank, rfl, rfl, by show 4 ≤ sizeLine; decide, .cons ⟨_, rfl⟩ (.cons ⟨_, rfl⟩ (.cons ⟨_, rfl⟩ (.cons rfl .nil)))⟩) (.cons (.int 0) (.cons (.int 0) (.cons (.int 0) (.cons (.tup (xs := []) (.inr ⟨_, _, _, l_empty, rfl, rfl, Nat.zero_le _, .nil⟩) .nil) .nil))))
  refine ⟨PySem.W.fnOf "law" "law" (defArgs s_law) (defBody s_law) (defScope s_law) .none kV_law dc_law pm_law an_law cd_law ct_law, fun s v => .of_eq rfl, fun base _ _ => ?_⟩
  have C_added : Cal l.prog w K mg base 1 "added" ["runs", "symbol", "count"] (spAdded K) := ⟨_, _, ok_added (k := 0) F_added T , PySem.W.mg_of X G a_added, k_added, b_added⟩
  have C_whole : Cal l.prog w K mg base 1 "whole" ["tape"] (spWhole K) := ⟨_, _, ok_whole (k := 0) F_whole T , PySem.W.mg_of X G a_whole, k_whole, b_whole⟩
  have C_slid : Cal l.prog w K mg base 1 "slid" ["machine", "tape"] (spSlid K) := ⟨_, _, ok_slid (k := 0) F_slid T , PySem.W.mg_of X G a_slid, k_slid, b_slid⟩
  have C_moved : Cal l.prog w K mg base 2 "moved" ["tape", "rule", "count"] (spMoved K) := ⟨_, _, ok_moved (k := 1) F_moved T (C_added.mono (by decide)), PySem.W.mg_of X G a_moved, k_moved, b_moved⟩
  have C_leap : Cal l.prog w K mg base 3 "leap" ["machine", "tape"] (spLeap K) := ⟨_, _, ok_leap (k := 2) F_leap T (C_slid.mono (by decide)) (C_moved.mono (by decide)) (C_whole.mono (by decide)), PySem.W.mg_of X G a_leap, k_leap, b_leap⟩
  have C_leaps : Cal l.prog w K mg base 4 "leaps" ["machine", "tape", "count"] (spLeaps K) := ⟨_, _, ok_leaps (k := 3) F_leaps T (C_leap.mono (by decide)), PySem.W.mg_of X G a_leaps, k_leaps, b_leaps⟩
  have C_law_stream : Cal l.prog w K mg base 1 "_law_stream" ["_law_script"] (spStream K) := ⟨_, _, ok_law_stream (k := 0) F_law_stream T , PySem.W.mg_of X G a_law_stream, k_law_stream, b_law_stream⟩
  have C_law_draw : Cal l.prog w K mg base 1 "_law_draw" ["_law_stream_here", "_law_many"] (spDraw) := ⟨_, _, ok_law_draw (k := 0) F_law_draw T , PySem.W.mg_of X G a_law_draw, k_law_draw, b_law_draw⟩
  have C_law_machine : Cal l.prog w K mg base 2 "_law_machine" ["_law_stream_here", "_law_stops"] (spMachine K) := ⟨_, _, ok_law_machine (k := 1) F_law_machine T (C_law_draw.mono (by decide)), PySem.W.mg_of X G a_law_machine, k_law_machine, b_law_machine⟩
  have C_law_keeping : Cal l.prog w K mg base 2 "_law_keeping" ["_law_stream_here", "_law_machine_here"] (spKeeping K) := ⟨_, _, ok_law_keeping (k := 1) F_law_keeping T (C_law_draw.mono (by decide)), PySem.W.mg_of X G a_law_keeping, k_law_keeping, b_law_keeping⟩
  have C_law_start : Cal l.prog w K mg base 1 "_law_start" ["_law_configuration"] (spStart K) := ⟨_, _, ok_law_start (k := 0) F_law_start T , PySem.W.mg_of X G a_law_start, k_law_start, b_law_start⟩
  have C_law_take : Cal l.prog w K mg base 1 "_law_take" ["_law_machine_here", "_law_now"] (spTake K) := ⟨_, _, ok_law_take (k := 0) F_law_take T , PySem.W.mg_of X G a_law_take, k_law_take, b_law_take⟩
  have C_law_end : Cal l.prog w K mg base 1 "_law_end" ["_law_now"] (spEnd K) := ⟨_, _, ok_law_end (k := 0) F_law_end T , PySem.W.mg_of X G a_law_end, k_law_end, b_law_end⟩
  have C_law_run : Cal l.prog w K mg base 2 "_law_run" ["_law_machine_here", "_law_configuration", "_law_count_here"] (spRun K) := ⟨_, _, ok_law_run (k := 1) F_law_run T (C_law_start.mono (by decide)) (C_law_take.mono (by decide)) (C_law_end.mono (by decide)), PySem.W.mg_of X G a_law_run, k_law_run, b_law_run⟩
  have C_law_tape : Cal l.prog w K mg base 2 "_law_tape" ["_law_stream_here", "_law_machine_here"] (spTape K) := ⟨_, _, ok_law_tape (k := 1) F_law_tape T (C_law_draw.mono (by decide)) (C_law_end.mono (by decide)), PySem.W.mg_of X G a_law_tape, k_law_tape, b_law_tape⟩
  have C_law_grouped : Cal l.prog w K mg base 1 "_law_grouped" ["_law_cells"] (spGrouped K) := ⟨_, _, ok_law_grouped (k := 0) F_law_grouped T , PySem.W.mg_of X G a_law_grouped, k_law_grouped, b_law_grouped⟩
  have C_law_to_runs : Cal l.prog w K mg base 2 "_law_to_runs" ["_law_value"] (spToRuns K) := ⟨_, _, ok_law_to_runs (k := 1) F_law_to_runs T (C_law_grouped.mono (by decide)), PySem.W.mg_of X G a_law_to_runs, k_law_to_runs, b_law_to_runs⟩
  have C_law_count : Cal l.prog w K mg base 1 "_law_count" ["_law_machine_here", "_law_value"] (spCount K) := ⟨_, _, ok_law_count (k := 0) F_law_count T , PySem.W.mg_of X G a_law_count, k_law_count, b_law_count⟩
  have P0 : Cal l.prog w K mg base 1 "_law_plain" ["_law_value"] (spPlain K 0) := ⟨_, _, ok_law_plain0 F_law_plain T, PySem.W.mg_of X G a_law_plain, k_law_plain, b_law_plain⟩
  have P1 : Cal l.prog w K mg base 2 "_law_plain" ["_law_value"] (spPlain K 1) := ⟨_, _, ok_law_plainS (j := 0) F_law_plain T P0, PySem.W.mg_of X G a_law_plain, k_law_plain, b_law_plain⟩
  have P2 : Cal l.prog w K mg base 3 "_law_plain" ["_law_value"] (spPlain K 2) := ⟨_, _, ok_law_plainS (j := 1) F_law_plain T P1, PySem.W.mg_of X G a_law_plain, k_law_plain, b_law_plain⟩
  have P3 : Cal l.prog w K mg base 4 "_law_plain" ["_law_value"] (spPlain K 3) := ⟨_, _, ok_law_plainS (j := 2) F_law_plain T P2, PySem.W.mg_of X G a_law_plain, k_law_plain, b_law_plain⟩
  have P4 : Cal l.prog w K mg base 5 "_law_plain" ["_law_value"] (spPlain K 4) := ⟨_, _, ok_law_plainS (j := 3) F_law_plain T P3, PySem.W.mg_of X G a_law_plain, k_law_plain, b_law_plain⟩
  exact ok_law (k := 5) F_law T hB (C_law_stream.mono (by decide)) (C_law_draw.mono (by decide)) (C_law_machine.mono (by decide)) (C_law_keeping.mono (by decide)) (C_law_tape.mono (by decide)) (C_law_count.mono (by decide)) (C_leap.mono (by decide)) (C_law_to_runs.mono (by decide)) (C_law_run.mono (by decide)) (C_leaps.mono (by decide)) P4
end K19
open PySem PySem.W PyProof.Rows
set_option maxHeartbeats 0 in
theorem PySem.Challenge.cw_tacet_k19_whole_leaps_holds : PySem.Challenge.rw_tacet_k19_whole_leaps.Holds := by
  w_on; o_law; k_head; (case hw => w_witness2)
  k_fill
  refine L2.walk_of (l := PySem.Challenge.rw_tacet_k19_whole_leaps) (n := 63) (k := 6) (x := "_law_script") (CX := fun _ => L2.CX0) (sp := fun w => K19.spLaw _) rfl (by decide) rfl ⟨rfl, by decide, by decide⟩ (fun w h Y => PySem.W.kIn_of Y) ?F (fun _ _ a ns hl _ hS => ⟨a, ns, rfl, hS, hl, fun _ => rfl⟩) (fun _ _ _ _ _ h => h)
  case F =>
    intro w mg fa h KX G hmg
    refine' K19.all_mk KX G hmg ?a_added ?l_added ?c_added ?k_added ?a_whole ?l_whole ?c_whole ?k_whole ?a_slid ?l_slid ?c_slid ?k_slid ?a_moved ?l_moved ?c_moved ?k_moved ?a_leap ?l_leap ?c_leap ?k_leap ?a_leaps ?l_leaps ?c_leaps ?k_leaps ?a_law_stream ?l_law_stream ?c_law_stream ?k_law_stream ?a_law_draw ?l_law_draw ?c_law_draw ?k_law_draw ?a_law_machine ?l_law_machine ?c_law_machine ?k_law_machine ?a_law_keeping ?l_law_keeping ?c_law_keeping ?k_law_keeping ?a_law_start ?l_law_start ?c_law_start ?k_law_start ?a_law_take ?l_law_take ?c_law_take ?k_law_take ?a_law_end ?l_law_end ?c_law_end ?k_law_end ?a_law_run ?l_law_run ?c_law_run ?k_law_run ?a_law_tape ?l_law_tape ?c_law_tape ?k_law_tape ?a_law_grouped ?l_law_grouped ?c_law_grouped ?k_law_grouped ?a_law_to_runs ?l_law_to_runs ?c_law_to_runs ?k_law_to_runs ?a_law_count ?l_law_count ?c_law_count ?k_law_count ?a_law_plain ?l_law_plain ?c_law_plain ?k_law_plain ?a_law ?l_law ?c_law ?k_law ?z_len ?z_abs ?z_max ?z_min ?z_int ?z_tuple ?z_list ?z_sorted ?z_all ?z_isinstance ?z_range ?z_bool ?g_stop ?g_count ?g_runs ?g_blank ?l_blank ?l_empty
    (case a_added => k_is)
    (case l_added => k_is)
    (case c_added => k_is)
    (case k_added => k_is)
    (case a_whole => k_is)
    (case l_whole => k_is)
    (case c_whole => k_is)
    (case k_whole => k_is)
    (case a_slid => k_is)
    (case l_slid => k_is)
    (case c_slid => k_is)
    (case k_slid => k_is)
    (case a_moved => k_is)
    (case l_moved => k_is)
    (case c_moved => k_is)
    (case k_moved => k_is)
    (case a_leap => k_is)
    (case l_leap => k_is)
    (case c_leap => k_is)
    (case k_leap => k_is)
    (case a_leaps => k_is)
    (case l_leaps => k_is)
    (case c_leaps => k_is)
    (case k_leaps => k_is)
    (case a_law_stream => k_is)
    (case l_law_stream => k_is)
    (case c_law_stream => k_is)
    (case k_law_stream => k_is)
    (case a_law_draw => k_is)
    (case l_law_draw => k_is)
    (case c_law_draw => k_is)
    (case k_law_draw => k_is)
    (case a_law_machine => k_is)
    (case l_law_machine => k_is)
    (case c_law_machine => k_is)
    (case k_law_machine => k_is)
    (case a_law_keeping => k_is)
    (case l_law_keeping => k_is)
    (case c_law_keeping => k_is)
    (case k_law_keeping => k_is)
    (case a_law_start => k_is)
    (case l_law_start => k_is)
    (case c_law_start => k_is)
    (case k_law_start => k_is)
    (case a_law_take => k_is)
    (case l_law_take => k_is)
    (case c_law_take => k_is)
    (case k_law_take => k_is)
    (case a_law_end => k_is)
    (case l_law_end => k_is)
    (case c_law_end => k_is)
    (case k_law_end => k_is)
    (case a_law_run => k_is)
    (case l_law_run => k_is)
    (case c_law_run => k_is)
    (case k_law_run => k_is)
    (case a_law_tape => k_is)
    (case l_law_tape => k_is)
    (case c_law_tape => k_is)
    (case k_law_tape => k_is)
    (case a_law_grouped => k_is)
    (case l_law_grouped => k_is)
    (case c_law_grouped => k_is)
    (case k_law_grouped => k_is)
    (case a_law_to_runs => k_is)
    (case l_law_to_runs => k_is)
    (case c_law_to_runs => k_is)
    (case k_law_to_runs => k_is)
    (case a_law_count => k_is)
    (case l_law_count => k_is)
    (case c_law_count => k_is)
    (case k_law_count => k_is)
    (case a_law_plain => k_is)
    (case l_law_plain => k_is)
    (case c_law_plain => k_is)
    (case k_law_plain => k_is)
    (case a_law => k_is)
    (case l_law => k_is)
    (case c_law => k_is)
    (case k_law => k_is)
    (case z_len => k_is)
    (case z_abs => k_is)
    (case z_max => k_is)
    (case z_min => k_is)
    (case z_int => k_is)
    (case z_tuple => k_is)
    (case z_list => k_is)
    (case z_sorted => k_is)
    (case z_all => k_is)
    (case z_isinstance => k_is)
    (case z_range => k_is)
    (case z_bool => k_is)
    (case g_stop => k_is)
    (case g_count => k_is)
    (case g_runs => k_is)
    (case g_blank => k_is)
    (case l_blank => k_is)
    (case l_empty => k_is)
