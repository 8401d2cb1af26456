import PyProof.Rows.All
import Wide.All
import OpenK.AllK
import Wide.FinOn
import HandS.ForMost
import HandS.ForExc
import HandS.Wide
import HandS.IsInst
import HandS.Replace
import HandS.ReplaceDef
import HandS.ExcInit
import HandS.ExcField
import HandS.ExcIs
import HandS.Steps
import PyProof.Rows.StrOr
import PyProof.StrOps2
import KE.KExcIs
import HandS.More
import HandS.Codes
import HandS.HotCalls
import HandS.WordsExc
import PySem.Challenge.RW_swornlots_k75_bad_plain_texts
set_option Elab.async false
set_option linter.all false
set_option maxRecDepth 100000
set_option maxHeartbeats 4000000
section
namespace K75
/-! ### plain values and their texts, as codes -/
inductive D where
  | non | bl (b : Bool) | int (i : Int) | str (x : List Nat) | tup (ds : List D)

def isLet (c : Nat) : Bool := decide (97 ≤ c) && decide (c ≤ 122)
def isDig (c : Nat) : Bool := decide (48 ≤ c) && decide (c ≤ 57)
def isNz (c : Nat) : Bool := decide (49 ≤ c) && decide (c ≤ 57)
def isSig (c : Nat) : Bool := isLet c || isDig c

/-- the signs of a kind at the front, at most n -/
def spn (p : Nat → Bool) : Nat → List Nat → List Nat × List Nat
  | 0, l => ([], l)
  | _ + 1, [] => ([], [])
  | n + 1, c :: r => if p c then (c :: (spn p n r).1, (spn p n r).2) else ([], c :: r)
def val (w : List Nat) : Nat := w.foldl (fun a c => a * 10 + (c - 48)) 0
def special? (w : List Nat) : Option D :=
  if w = [121, 101, 115] then some (.bl true) else if w = [110, 111] then some (.bl false) else if w = [110, 111, 110, 101] then some .non else none
def wordVal (w : List Nat) : D := (special? w).getD (.str w)
def numAt (l : List Nat) : D × List Nat :=
  if l.head? = some 48 then (.int 0, l.tail) else (.int (val (spn isDig 4000 l).1), (spn isDig 4000 l).2)
def neg : D → D
  | .int i => .int (-i)
  | d => d
def signAt (r : List Nat) : D × List Nat :=
  if r.head?.any isNz then (neg (numAt r).1, (numAt r).2) else (.str [], r)
def piece : List Nat → Option (D × List Nat)
  | [] => none
  | c :: r =>
    if isLet c then some (wordVal (spn isSig 12 (c :: r)).1, (spn isSig 12 (c :: r)).2)
    else if isDig c then some (numAt (c :: r))
    else if c = 45 then some (signAt r)
    else none

theorem piece_cons (c : Nat) (r : List Nat) : piece (c :: r) = if isLet c then some (wordVal (spn isSig 12 (c :: r)).1, (spn isSig 12 (c :: r)).2)
    else if isDig c then some (numAt (c :: r))
    else if c = 45 then some (signAt r)
    else none := rfl

inductive Res where
  | bad (l : List Nat) | ok (d : D)
def pops : List (List D) → D → List Nat → List (List D) × D × List Nat
  | row :: rows, v, 41 :: r => pops rows (.tup (row ++ [v])) r
  | rows, v, l => (rows, v, l)
def aft : List (List D) × D × List Nat → Res ⊕ (List (List D) × List Nat)
  | ([], v, []) => .inl (.ok v)
  | ([], _, c :: r) => .inl (.bad (c :: r))
  | (row :: rows, v, 32 :: r) => .inr ((row ++ [v]) :: rows, r)
  | (_ :: _, _, l) => .inl (.bad l)
def turn (rows : List (List D)) (l : List Nat) : Res ⊕ (List (List D) × List Nat) :=
  match l with
  | 40 :: r => if rows.length < 60 then (match r with
      | 41 :: r' => aft (pops rows (.tup []) r')
      | _ => .inr ([] :: rows, r)) else .inl (.bad (40 :: r))
  | l => match piece l with
    | none => .inl (.bad l)
    | some (v, r) => aft (pops rows v r)
def run : Nat → List (List D) → List Nat → Res
  | 0, _, l => .bad l
  | n + 1, rows, l => match turn rows l with
    | .inl x => x
    | .inr (rows', l') => run n rows' l'
def parse (l : List Nat) : Res := run (l.length + 1) [] l

/-! ### a turn, case by case -/
theorem turn_open1 {rows : List (List D)} {r : List Nat} (h : rows.length < 60) : turn rows (40 :: 41 :: r) = aft (pops rows (.tup []) r) := by
  show (if rows.length < 60 then aft (pops rows (.tup []) r) else .inl (.bad (40 :: 41 :: r))) = _
  rw [if_pos h]
theorem turn_open2 {rows : List (List D)} {r : List Nat} (h : rows.length < 60) (hr : ¬ ∃ r', r = 41 :: r') : turn rows (40 :: r) = .inr ([] :: rows, r) := by
  unfold turn
  split
  · rename_i r2 e
    injection e with e1 e2
    subst e2
    rw [if_pos h]
    split
    · rename_i r'
      exact absurd ⟨r', rfl⟩ hr
    · rfl
  · rename_i hne
    exact absurd rfl (hne r)
theorem turn_open3 {rows : List (List D)} {r : List Nat} (h : ¬ rows.length < 60) : turn rows (40 :: r) = .inl (.bad (40 :: r)) := by
  unfold turn
  split
  · rename_i r2 e
    rw [if_neg h, e]
  · rename_i hne
    exact absurd rfl (hne r)
theorem turn_none {rows : List (List D)} {l : List Nat} (h : ¬ ∃ r, l = 40 :: r) (e : piece l = none) : turn rows l = .inl (.bad l) := by
  unfold turn
  split
  · rename_i r
    exact absurd ⟨r, rfl⟩ h
  · rw [e]
theorem turn_some {rows : List (List D)} {l r : List Nat} {d : D} (h : ¬ ∃ r, l = 40 :: r) (e : piece l = some (d, r)) : turn rows l = aft (pops rows d r) := by
  unfold turn
  split
  · rename_i r
    exact absurd ⟨r, rfl⟩ h
  · rw [e]
theorem pops_stop {row : List D} {rows : List (List D)} {d : D} {l : List Nat} (h : ¬ ∃ r, l = 41 :: r) : pops (row :: rows) d l = (row :: rows, d, l) := by
  unfold pops
  split
  · rename_i r' _
    exact absurd ⟨_, rfl⟩ h
  · rfl
theorem aft_bad {row : List D} {rows : List (List D)} {d : D} {l : List Nat} (h : ¬ ∃ r, l = 32 :: r) : aft (row :: rows, d, l) = .inl (.bad l) := by
  unfold aft
  split
  · rename_i g; cases g
  · rename_i g; cases g
  · rename_i g; cases g; exact absurd ⟨_, rfl⟩ h
  · rename_i g; cases g; rfl
/-- a run from what a turn hands on -/
def go (n : Nat) : Res ⊕ (List (List D) × List Nat) → Res
  | .inl x => x
  | .inr (rows, l) => run n rows l
theorem run_go (n : Nat) (rows : List (List D)) (l : List Nat) : run (n + 1) rows l = go n (turn rows l) := by
  unfold run go
  rfl

/-! ### lengths -/
theorem spn_len (p : Nat → Bool) : ∀ (n : Nat) (l : List Nat), (spn p n l).2.length ≤ l.length
  | 0, _ => Nat.le_refl _
  | _ + 1, [] => Nat.le_refl _
  | n + 1, c :: r => by
    unfold spn
    split
    · exact Nat.le_succ_of_le (spn_len p n r)
    · exact Nat.le_refl _
theorem spn_app (p : Nat → Bool) : ∀ (n : Nat) (l : List Nat), (spn p n l).1 ++ (spn p n l).2 = l
  | 0, _ => rfl
  | _ + 1, [] => rfl
  | n + 1, c :: r => by
    unfold spn
    split
    · show c :: ((spn p n r).1 ++ (spn p n r).2) = c :: r
      rw [spn_app p n r]
    · rfl
theorem spn_all (p : Nat → Bool) : ∀ (n : Nat) (l : List Nat), ∀ c ∈ (spn p n l).1, p c = true
  | 0, _, c, h => by cases h
  | _ + 1, [], c, h => by cases h
  | n + 1, a :: r, c, h => by
    unfold spn at h
    split at h
    · rename_i ha
      rcases List.mem_cons.mp h with rfl | h
      · exact ha
      · exact spn_all p n r c h
    · cases h
theorem spn_max (p : Nat → Bool) : ∀ (n : Nat) (l : List Nat), (spn p n l).1.length ≤ n
  | 0, _ => Nat.le_refl _
  | _ + 1, [] => Nat.zero_le _
  | n + 1, a :: r => by
    unfold spn
    split
    · exact Nat.succ_le_succ (spn_max p n r)
    · exact Nat.zero_le _
theorem spn_step {p : Nat → Bool} {n : Nat} {c : Nat} {r : List Nat} (h : p c = true) : spn p (n + 1) (c :: r) = (c :: (spn p n r).1, (spn p n r).2) := if_pos h
theorem numAt_len (c : Nat) (r : List Nat) (h : isDig c = true) : (numAt (c :: r)).2.length ≤ r.length := by
  unfold numAt
  split
  · exact Nat.le_refl _
  · rw [spn_step h]
    exact spn_len _ _ _
theorem signAt_len (r : List Nat) : (signAt r).2.length ≤ r.length := by
  unfold signAt
  split
  · rename_i h
    cases r with
    | nil => simp at h
    | cons c r =>
      have h' : isNz c = true := by simpa using h
      refine Nat.le_succ_of_le (numAt_len c r ?_)
      simp [isNz, isDig] at h' ⊢
      omega
  · exact Nat.le_refl _
theorem piece_len {l : List Nat} {v : D} {r : List Nat} (h : piece l = some (v, r)) : r.length < l.length := by
  cases l with
  | nil => cases h
  | cons c l =>
    rw [piece_cons] at h
    split at h
    · rename_i hc
      cases h
      have e : isSig c = true := by unfold isSig; rw [hc]; rfl
      rw [spn_step e]
      exact Nat.lt_succ_of_le (spn_len _ _ _)
    · split at h
      · rename_i hd
        have e : (numAt (c :: l)).2 = r := by rw [Option.some.inj h]
        rw [← e]
        exact Nat.lt_succ_of_le (numAt_len c l hd)
      · split at h
        · have e : (signAt l).2 = r := by rw [Option.some.inj h]
          rw [← e]
          exact Nat.lt_succ_of_le (signAt_len l)
        · cases h
theorem pops_len : ∀ (l : List Nat) (rows : List (List D)) (v : D), (pops rows v l).2.2.length ≤ l.length
  | [], rows, v => by unfold pops; split <;> simp_all
  | c :: l, rows, v => by
    unfold pops
    split
    · rename_i a b c' d e f g
      injection g with g1 g2
      subst g2
      exact Nat.le_succ_of_le (pops_len l _ _)
    · exact Nat.le_refl _
theorem pops_rows : ∀ (l : List Nat) (rows : List (List D)) (v : D), (pops rows v l).1.length ≤ rows.length
  | [], rows, v => by unfold pops; split <;> simp_all
  | c :: l, rows, v => by
    unfold pops
    split
    · rename_i a b c' d e f g
      injection g with g1 g2
      subst g2
      exact Nat.le_succ_of_le (pops_rows l _ _)
    · exact Nat.le_refl _
theorem aft_len {rows : List (List D)} {v : D} {l : List Nat} {rows' : List (List D)} {l' : List Nat} (h : aft (rows, v, l) = .inr (rows', l')) : l'.length < l.length ∧ rows'.length = rows.length := by
  unfold aft at h
  split at h
  · cases h
  · cases h
  · rename_i row rws v' r e
    cases e
    cases h
    exact ⟨Nat.lt_succ_self _, rfl⟩
  · cases h
theorem aftp_len {rows : List (List D)} {v : D} {l : List Nat} {rows' : List (List D)} {l' : List Nat} (h : aft (pops rows v l) = .inr (rows', l')) : l'.length < l.length ∧ rows'.length ≤ rows.length := by
  have a := aft_len (rows := (pops rows v l).1) (v := (pops rows v l).2.1) (l := (pops rows v l).2.2) h
  have b := pops_len l rows v
  have c := pops_rows l rows v
  omega
theorem turn_len {rows : List (List D)} {l : List Nat} {rows' : List (List D)} {l' : List Nat} (h : turn rows l = .inr (rows', l')) (hr : rows.length ≤ 60) : l'.length < l.length ∧ rows'.length ≤ 60 := by
  unfold turn at h
  split at h
  · split at h
    · split at h
      · have a := aftp_len h
        simp only [List.length_cons]
        omega
      · cases h
        simp only [List.length_cons]
        omega
    · cases h
  · split at h
    · cases h
    · rename_i v r e
      have a := aftp_len h
      have b := piece_len e
      omega
theorem run_fuel : ∀ (n m : Nat) (rows : List (List D)) (l : List Nat), rows.length ≤ 60 → l.length < n → l.length < m → run n rows l = run m rows l
  | 0, _, _, _, _, h, _ => absurd h (Nat.not_lt_zero _)
  | _, 0, _, _, _, _, h => absurd h (Nat.not_lt_zero _)
  | n + 1, m + 1, rows, l, hr, h1, h2 => by
    unfold run
    cases e : turn rows l with
    | inl x => rfl
    | inr p =>
      have a := turn_len (rows' := p.1) (l' := p.2) e hr
      exact run_fuel n m p.1 p.2 a.2 (by omega) (by omega)

/-! ### the law's own reading, sign by sign -/
inductive Kd where
  | item | first | word | int | minus | whole
  deriving DecidableEq
def tailStep (L : Int) (c : Nat) : Option (Kd × Int × Int) :=
  if 0 < L ∧ c = 32 then some (.item, 0, L) else if 0 < L ∧ c = 41 then some (.whole, 0, L - 1) else none
def step (k : Kd) (n L : Int) (c : Nat) : Option (Kd × Int × Int) :=
  if k = .item ∨ k = .first then
    if c = 41 ∧ k = .first then some (.whole, 0, L - 1)
    else if c = 40 ∧ L < 60 then some (.first, 0, L + 1)
    else if isLet c then some (.word, 1, L)
    else if isNz c then some (.int, 1, L)
    else if c = 45 then some (.minus, 0, L)
    else if c = 48 then some (.whole, 0, L) else none
  else if k = .word ∧ n < 12 ∧ isSig c then some (.word, n + 1, L)
  else if k = .int ∧ n < 4000 ∧ isDig c then some (.int, n + 1, L)
  else if k = .minus ∧ isNz c then some (.int, 1, L)
  else tailStep L c
def bad (k : Kd) (n L : Int) : List Nat → Option (List Nat)
  | [] => if 0 < L ∨ k = .item ∨ k = .first then some [] else none
  | c :: r => match step k n L c with
    | none => some (c :: r)
    | some (k', n', L') => bad k' n' L' r
def resBad : Res → Option (List Nat)
  | .bad l => some l
  | .ok _ => none

theorem bad_tail {k : Kd} {n L : Int} {l : List Nat} (h : ∀ c ∈ l.head?, step k n L c = tailStep L c) (hk : ¬ (k = .item ∨ k = .first)) : bad k n L l = bad .whole 0 L l := by
  cases l with
  | nil =>
    unfold bad
    have e : (0 < L ∨ k = Kd.item ∨ k = Kd.first) ↔ (0 < L ∨ Kd.whole = Kd.item ∨ Kd.whole = Kd.first) := by
      constructor
      · rintro (h | h)
        · exact .inl h
        · exact absurd h hk
      · rintro (h | h | h)
        · exact .inl h
        · cases h
        · cases h
    simp only [e]
  | cons c r =>
    have e : step .whole 0 L c = tailStep L c := by simp [step]
    unfold bad
    rw [h c rfl, e]
theorem bad_word : ∀ (m : Nat) (l : List Nat) (n L : Int), n + m = 12 → bad .word n L l = bad .whole 0 L (spn isSig m l).2
  | 0, l, n, L, h => by
    refine bad_tail (fun c _ => ?_) (by decide)
    have : ¬ n < 12 := by omega
    simp [step, this]
  | m + 1, [], n, L, h => bad_tail (fun c hc => by cases hc) (by decide)
  | m + 1, c :: r, n, L, h => by
    by_cases hc : isSig c = true
    · have e : step .word n L c = some (.word, n + 1, L) := by
        have : n < 12 := by omega
        simp [step, this, hc]
      rw [spn_step hc]
      show (match step .word n L c with | none => some (c :: r) | some (k', n', L') => bad k' n' L' r) = _
      rw [e]
      exact bad_word m r (n + 1) L (by omega)
    · have e : (spn isSig (m + 1) (c :: r)).2 = c :: r := by unfold spn; rw [if_neg hc]
      rw [e]
      refine bad_tail (fun c' hc' => ?_) (by decide)
      cases hc'
      simp [step, hc]
theorem bad_int : ∀ (m : Nat) (l : List Nat) (n L : Int), n + m = 4000 → bad .int n L l = bad .whole 0 L (spn isDig m l).2
  | 0, l, n, L, h => by
    refine bad_tail (fun c _ => ?_) (by decide)
    have : ¬ n < 4000 := by omega
    simp [step, this]
  | m + 1, [], n, L, h => bad_tail (fun c hc => by cases hc) (by decide)
  | m + 1, c :: r, n, L, h => by
    by_cases hc : isDig c = true
    · have e : step .int n L c = some (.int, n + 1, L) := by
        have : n < 4000 := by omega
        simp [step, this, hc]
      rw [spn_step hc]
      show (match step .int n L c with | none => some (c :: r) | some (k', n', L') => bad k' n' L' r) = _
      rw [e]
      exact bad_int m r (n + 1) L (by omega)
    · have e : (spn isDig (m + 1) (c :: r)).2 = c :: r := by unfold spn; rw [if_neg hc]
      rw [e]
      refine bad_tail (fun c' hc' => ?_) (by decide)
      cases hc'
      simp [step, hc]
theorem bad_minus (l : List Nat) (L : Int) : bad .minus 0 L l = bad .whole 0 L (signAt l).2 := by
  cases l with
  | nil => exact bad_tail (fun c hc => by cases hc) (by decide)
  | cons c r =>
    by_cases hc : isNz c = true
    · have e : step .minus 0 L c = some (.int, 1, L) := by simp [step, hc]
      have hd : isDig c = true := by simp [isNz, isDig] at hc ⊢; omega
      have h48 : c ≠ 48 := by simp [isNz] at hc; omega
      have s : (signAt (c :: r)).2 = (spn isDig 3999 r).2 := by
        simp [signAt, hc, numAt, h48, spn_step hd]
      rw [s]
      show (match step .minus 0 L c with | none => some (c :: r) | some (k', n', L') => bad k' n' L' r) = _
      rw [e]
      exact bad_int 3999 r 1 L (by omega)
    · have s : (signAt (c :: r)).2 = c :: r := by simp [signAt, hc]
      rw [s]
      refine bad_tail (fun c' hc' => ?_) (by decide)
      cases hc'
      simp [step, hc]
theorem bad_first {L : Int} {l : List Nat} (h : l.head? ≠ some 41) : bad .first 0 L l = bad .item 0 L l := by
  cases l with
  | nil => simp [bad]
  | cons c r =>
    have hc : c ≠ 41 := by simpa using h
    have e : step .first 0 L c = step .item 0 L c := by simp [step, hc]
    unfold bad
    rw [e]
theorem bad_piece {l : List Nat} {v : D} {r : List Nat} {L : Int} (h : piece l = some (v, r)) : bad .item 0 L l = bad .whole 0 L r := by
  cases l with
  | nil => cases h
  | cons c l =>
    have go : ∀ (q : Kd × Int × Int), step .item 0 L c = some q → bad .item 0 L (c :: l) = bad q.1 q.2.1 q.2.2 l := fun q e => by
      show (match step .item 0 L c with | none => some (c :: l) | some (k', n', L') => bad k' n' L' l) = _
      rw [e]
    rw [piece_cons] at h
    split at h
    · rename_i hc
      have h40 : c ≠ 40 := by simp [isLet] at hc; omega
      have e : isSig c = true := by unfold isSig; rw [hc]; rfl
      cases h
      rw [go (.word, 1, L) (by simp [step, hc, h40]), spn_step e]
      exact bad_word 11 l 1 L (by omega)
    · rename_i hl
      split at h
      · rename_i hd
        have h40 : c ≠ 40 := by simp [isDig] at hd; omega
        have h45 : c ≠ 45 := by simp [isDig] at hd; omega
        have er : (numAt (c :: l)).2 = r := by rw [Option.some.inj h]
        by_cases h0 : c = 48
        · subst h0
          rw [go (.whole, 0, L) (by simp [step, isLet, isNz]), ← er]
          simp [numAt]
        · have hz : isNz c = true := by simp [isDig, isNz] at hd ⊢; omega
          rw [go (.int, 1, L) (by simp [step, hl, h40, hz]), ← er]
          have s : (numAt (c :: l)).2 = (spn isDig 3999 l).2 := by simp [numAt, h0, spn_step hd]
          rw [s]
          exact bad_int 3999 l 1 L (by omega)
      · split at h
        · rename_i hd h45
          subst h45
          have er : (signAt l).2 = r := by rw [Option.some.inj h]
          rw [go (.minus, 0, L) (by simp [step, isLet, isNz]), ← er]
          exact bad_minus l L
        · cases h
theorem bad_none {c : Nat} {l : List Nat} {L : Int} (h : piece (c :: l) = none) (h4 : ¬ (c = 40 ∧ L < 60)) : bad .item 0 L (c :: l) = some (c :: l) := by
  rw [piece_cons] at h
  split at h
  · cases h
  · rename_i hl
    split at h
    · cases h
    · rename_i hd
      split at h
      · cases h
      · rename_i h45
        have hz : isNz c ≠ true := by simp [isDig, isNz] at hd ⊢; omega
        have h48 : c ≠ 48 := by simp [isDig] at hd; omega
        have e : step .item 0 L c = none := by simp [step, hl, hz, h45, h48, h4]
        unfold bad
        rw [e]
def contBad : Res ⊕ (List (List D) × List Nat) → Option (List Nat)
  | .inl x => resBad x
  | .inr (rows, l) => bad .item 0 rows.length l
theorem bad_whole : ∀ (l : List Nat) (rows : List (List D)) (v : D), bad .whole 0 rows.length l = contBad (aft (pops rows v l))
  | [], [], v => by simp [bad, pops, aft, contBad, resBad]
  | [], row :: rows, v => by simp [bad, pops, aft, contBad, resBad]
  | c :: l, [], v => by simp [bad, step, tailStep, pops, aft, contBad, resBad]
  | c :: l, row :: rows, v => by
    have hp : (0 : Int) < ((row :: rows).length : Int) := by simp only [List.length_cons]; omega
    by_cases h41 : c = 41
    · subst h41
      have e : step .whole 0 ((row :: rows).length : Int) 41 = some (.whole, 0, ((row :: rows).length : Int) - 1) := by
        simp [step, tailStep]
      show (match step .whole 0 ((row :: rows).length : Int) 41 with | none => some (41 :: l) | some (k', n', L') => bad k' n' L' l) = _
      rw [e]
      have e2 : ((row :: rows).length : Int) - 1 = (rows.length : Int) := by simp only [List.length_cons]; omega
      rw [e2]
      show bad .whole 0 rows.length l = contBad (aft (pops rows (.tup (row ++ [v])) l))
      exact bad_whole l rows _
    · have ep : pops (row :: rows) v (c :: l) = (row :: rows, v, c :: l) := by
        unfold pops
        split
        · rename_i g
          injection g with g1 g2
          exact absurd g1 h41
        · rfl
      rw [ep]
      by_cases h32 : c = 32
      · subst h32
        have e : step .whole 0 ((row :: rows).length : Int) 32 = some (.item, 0, ((row :: rows).length : Int)) := by
          simp [step, tailStep, hp]
        show (match step .whole 0 ((row :: rows).length : Int) 32 with | none => some (32 :: l) | some (k', n', L') => bad k' n' L' l) = _
        rw [e]
        show bad .item 0 ((row :: rows).length : Int) l = bad .item 0 (((row ++ [v]) :: rows).length : Int) l
        simp only [List.length_cons]
      · have e : step .whole 0 ((row :: rows).length : Int) c = none := by simp [step, tailStep, h32, h41]
        have ea : aft (row :: rows, v, c :: l) = .inl (.bad (c :: l)) := by
          unfold aft
          split
          · rename_i g; cases g
          · rename_i g; cases g
          · rename_i g; cases g; exact absurd rfl h32
          · rename_i g; cases g; rfl
        rw [ea]
        show (match step .whole 0 ((row :: rows).length : Int) c with | none => some (c :: l) | some (k', n', L') => bad k' n' L' l) = _
        rw [e]
        rfl
theorem bad_turn {rows : List (List D)} {l : List Nat} : bad .item 0 rows.length l = contBad (turn rows l) := by
  unfold turn
  split
  · rename_i l r
    by_cases h6 : rows.length < 60
    · rw [if_pos h6]
      have e : step .item 0 (rows.length : Int) 40 = some (.first, 0, (rows.length : Int) + 1) := by
        simp [step, isLet]
        omega
      show (match step .item 0 (rows.length : Int) 40 with | none => some (40 :: r) | some (k', n', L') => bad k' n' L' r) = _
      rw [e]
      show bad .first 0 ((rows.length : Int) + 1) r = _
      split
      · rename_i r'
        have e2 : step .first 0 ((rows.length : Int) + 1) 41 = some (.whole, 0, (rows.length : Int)) := by
          simp [step]
        show (match step .first 0 ((rows.length : Int) + 1) 41 with | none => some (41 :: r') | some (k', n', L') => bad k' n' L' r') = _
        rw [e2]
        exact bad_whole r' rows (.tup [])
      · rename_i hne
        show _ = bad .item 0 ((([] : List D) :: rows).length : Int) r
        rw [bad_first]
        · simp only [List.length_cons]
          rfl
        · intro h
          cases r with
          | nil => cases h
          | cons c r =>
            have : c = 41 := by simpa using h
            subst this
            exact hne _ rfl
    · rw [if_neg h6]
      refine bad_none (by simp [piece, isLet, isDig]) ?_
      omega
  · rename_i l' hne
    cases e : piece l with
    | none =>
      cases l with
      | nil => simp [bad, contBad, resBad]
      | cons c r => exact bad_none e (fun h => hne r (by rw [h.1]))
    | some p =>
      obtain ⟨v, r⟩ := p
      rw [bad_piece e]
      exact bad_whole r rows v
theorem bad_run : ∀ (n : Nat) (rows : List (List D)) (l : List Nat), rows.length ≤ 60 → l.length < n → bad .item 0 rows.length l = resBad (run n rows l)
  | 0, _, _, _, h => absurd h (Nat.not_lt_zero _)
  | n + 1, rows, l, hr, h => by
    rw [bad_turn]
    unfold run
    cases e : turn rows l with
    | inl x => rfl
    | inr p =>
      have a := turn_len (rows' := p.1) (l' := p.2) e hr
      exact bad_run n p.1 p.2 a.2 (by omega)
theorem bad_parse (l : List Nat) : bad .item 0 0 l = resBad (parse l) := bad_run (l.length + 1) [] l (by decide) (Nat.lt_succ_self _)

/-! ### the law's own reading of a good text: its words -/
/-- the words between blanks of the text with «( » for «(» and « )» for «)», cur begun -/
def spl : List Nat → List Nat → List (List Nat)
  | cur, [] => [cur]
  | cur, c :: r => if c = 32 then cur :: spl [] r else if c = 40 then (cur ++ [40]) :: spl [] r else if c = 41 then cur :: spl [41] r else spl (cur ++ [c]) r
def push (v : D) : List (List D) → List (List D)
  | [] => []
  | row :: rows => (row ++ [v]) :: rows
def intVal : List Nat → Int
  | 45 :: ds => -(val ds : Int)
  | ds => (val ds : Int)
def wordStep (rows : List (List D)) (w : List Nat) : List (List D) :=
  if w = [40] then [] :: rows
  else if w = [41] then (match rows with | row :: rest => push (.tup row) rest | [] => [])
  else if w = [45] then push (.str []) rows
  else match special? w with
    | some d => push d rows
    | none => match w with
      | [] => rows
      | c :: _ => if c = 45 ∨ isDig c then push (.int (intVal w)) rows else push (.str w) rows
def words (rows : List (List D)) (ws : List (List Nat)) : List (List D) := ws.foldl wordStep rows

theorem spl_app : ∀ (w cur r : List Nat), (∀ c ∈ w, c ≠ 32 ∧ c ≠ 40 ∧ c ≠ 41) → spl cur (w ++ r) = spl (cur ++ w) r
  | [], cur, r, _ => by rw [List.append_nil]; rfl
  | c :: w, cur, r, h => by
    have hc := h c List.mem_cons_self
    show (if c = 32 then cur :: spl [] (w ++ r) else if c = 40 then (cur ++ [40]) :: spl [] (w ++ r) else if c = 41 then cur :: spl [41] (w ++ r) else spl (cur ++ [c]) (w ++ r)) = _
    rw [if_neg hc.1, if_neg hc.2.1, if_neg hc.2.2, spl_app w (cur ++ [c]) r fun d hd => h d (List.mem_cons_of_mem _ hd), List.append_assoc]
    rfl
def Goes (x : List (List D)) : Res ⊕ (List (List D) × List Nat) → Prop
  | .inl (.ok u) => x = [[u]]
  | .inl (.bad _) => True
  | .inr (rows, l) => x = words (rows ++ [[]]) (spl [] l)
/-- what comes behind a piece: the word ends there -/
theorem words_aft : ∀ (r : List Nat) (rows : List (List D)) (v : D) (S : List (List D)) (cur : List Nat), wordStep S cur = push v (rows ++ [[]]) →
    Goes (words S (spl cur r)) (aft (pops rows v r))
  | [], [], v, S, cur, h => by
    show words S [cur] = [[v]]
    show wordStep S cur = [[v]]
    rw [h]
    rfl
  | [], row :: rows, v, S, cur, h => trivial
  | c :: r, [], v, S, cur, h => trivial
  | c :: r, row :: rows, v, S, cur, h => by
    by_cases h41 : c = 41
    · subst h41
      have e : words S (spl cur (41 :: r)) = words (push v ((row :: rows) ++ [[]])) (spl [41] r) := by
        show words (wordStep S cur) (spl [41] r) = _
        rw [h]
      rw [e]
      exact words_aft r rows (.tup (row ++ [v])) _ [41] (by
        have h1 : ([41] : List Nat) ≠ [40] := by decide
        show wordStep (push v ((row :: rows) ++ [[]])) [41] = push (.tup (row ++ [v])) (rows ++ [[]])
        unfold wordStep
        rw [if_neg h1, if_pos rfl]
        rfl)
    · have ep : pops (row :: rows) v (c :: r) = (row :: rows, v, c :: r) := by
        unfold pops
        split
        · rename_i g
          injection g with g1 g2
          exact absurd g1 h41
        · rfl
      rw [ep]
      by_cases h32 : c = 32
      · subst h32
        show words (wordStep S cur) (spl [] r) = words (((row ++ [v]) :: rows) ++ [[]]) (spl [] r)
        rw [h]
        rfl
      · have ea : aft (row :: rows, v, c :: r) = .inl (.bad (c :: r)) := by
          unfold aft
          split
          · rename_i g; cases g
          · rename_i g; cases g
          · rename_i g; cases g; exact absurd rfl h32
          · rename_i g; cases g; rfl
        rw [ea]
        trivial
theorem push_app (v : D) (rows : List (List D)) : push v (rows ++ [[]]) = push v (rows ++ [[]]) := rfl
theorem sig_plain {c : Nat} (h : isSig c = true) : c ≠ 32 ∧ c ≠ 40 ∧ c ≠ 41 := by
  simp [isSig, isLet, isDig] at h
  omega
theorem dig_plain {c : Nat} (h : isDig c = true) : c ≠ 32 ∧ c ≠ 40 ∧ c ≠ 41 := by
  simp [isDig] at h
  omega
theorem step_word {w : List Nat} {c : Nat} {r : List Nat} (e : w = c :: r) (h : isLet c = true) (S : List (List D)) : wordStep S w = push (wordVal w) S := by
  have hc : 97 ≤ c ∧ c ≤ 122 := by simpa [isLet] using h
  subst e
  have n1 : (c :: r) ≠ [40] := by intro z; injection z; omega
  have n2 : (c :: r) ≠ [41] := by intro z; injection z; omega
  have n3 : (c :: r) ≠ [45] := by intro z; injection z; omega
  have n4 : ¬ (c = 45 ∨ isDig c = true) := by simp [isDig]; omega
  unfold wordStep wordVal
  rw [if_neg n1, if_neg n2, if_neg n3]
  cases special? (c :: r) with
  | some d => rfl
  | none =>
    show (if c = 45 ∨ isDig c = true then push (.int (intVal (c :: r))) S else push (.str (c :: r)) S) = push (.str (c :: r)) S
    rw [if_neg n4]
theorem step_num {w : List Nat} {c : Nat} {r : List Nat} (e : w = c :: r) (h : isDig c = true) (S : List (List D)) : wordStep S w = push (.int (val w)) S := by
  have hc : 48 ≤ c ∧ c ≤ 57 := by simpa [isDig] using h
  subst e
  have n1 : (c :: r) ≠ [40] := by intro z; injection z; omega
  have n2 : (c :: r) ≠ [41] := by intro z; injection z; omega
  have n3 : (c :: r) ≠ [45] := by intro z; injection z; omega
  have ns : special? (c :: r) = none := by
    unfold special?
    rw [if_neg (by intro z; injection z; omega), if_neg (by intro z; injection z; omega), if_neg (by intro z; injection z; omega)]
  have ev : intVal (c :: r) = (val (c :: r) : Int) := by
    unfold intVal
    split
    · rename_i g; injection g; omega
    · rfl
  unfold wordStep
  rw [if_neg n1, if_neg n2, if_neg n3, ns]
  show (if c = 45 ∨ isDig c = true then push (.int (intVal (c :: r))) S else push (.str (c :: r)) S) = _
  rw [if_pos (.inr h), ev]
theorem step_neg {c : Nat} {r : List Nat} (S : List (List D)) : wordStep S (45 :: c :: r) = push (.int (-(val (c :: r) : Int))) S := by
  have ns : special? (45 :: c :: r) = none := by
    unfold special?
    rw [if_neg (by intro z; injection z with z1 z2; cases z1), if_neg (by intro z; injection z with z1 z2; cases z1), if_neg (by intro z; injection z with z1 z2; cases z1)]
  unfold wordStep
  rw [if_neg (by intro z; injection z with z1 z2; cases z1), if_neg (by intro z; injection z with z1 z2; cases z1), if_neg (by intro z; injection z with z1 z2; cases z2), ns]
  show (if (45 : Nat) = 45 ∨ isDig 45 = true then push (.int (intVal (45 :: c :: r))) S else push (.str (45 :: c :: r)) S) = _
  rw [if_pos (.inl rfl)]
  rfl
/-- a word that begins as a number is one -/
def intOk (w : List Nat) : Prop := (∀ ds, w = 45 :: ds → (∀ c ∈ ds, isDig c = true) ∧ ds.length ≤ 4000) ∧ ∀ c r, w = c :: r → isDig c = true → (∀ d ∈ w, isDig d = true) ∧ w.length ≤ 4000
theorem intOk_let {c : Nat} {r : List Nat} (h : isLet c = true) : intOk (c :: r) := by
  have hc : 97 ≤ c ∧ c ≤ 122 := by simpa [isLet] using h
  refine ⟨fun ds e => ?_, fun c' r' e hd => ?_⟩
  · injection e
    omega
  · injection e with e _
    subst e
    have : 48 ≤ c ∧ c ≤ 57 := by simpa [isDig] using hd
    omega
theorem intOk_dig {w : List Nat} (h : ∀ c ∈ w, isDig c = true) (hl : w.length ≤ 4000) : intOk w := by
  refine ⟨fun ds e => ?_, fun c r e hd => ⟨h, hl⟩⟩
  have := h 45 (by rw [e]; exact List.mem_cons_self)
  cases this
theorem intOk_neg {ds : List Nat} (h : ∀ c ∈ ds, isDig c = true) (hl : ds.length ≤ 4000) : intOk (45 :: ds) := by
  refine ⟨fun ds' e => ?_, fun c r e hd => ?_⟩
  · injection e with _ e
    subst e
    exact ⟨h, hl⟩
  · injection e with e _
    subst e
    cases hd
/-- a piece is a word of its own -/
theorem piece_word {l : List Nat} {v : D} {r : List Nat} (h : piece l = some (v, r)) : ∃ w, l = w ++ r ∧ (∀ c ∈ w, c ≠ 32 ∧ c ≠ 40 ∧ c ≠ 41) ∧ (∀ S, wordStep S w = push v S) ∧ intOk w := by
  cases l with
  | nil => cases h
  | cons c l =>
    rw [piece_cons] at h
    split at h
    · rename_i hc
      cases h
      have e : isSig c = true := by unfold isSig; rw [hc]; rfl
      refine ⟨(spn isSig 12 (c :: l)).1, (spn_app _ _ _).symm, fun d hd => sig_plain (spn_all _ _ _ d hd), fun S => ?_, ?_⟩
      · exact step_word (c := c) (r := (spn isSig 11 l).1) (by rw [spn_step e]) hc S
      · rw [spn_step e]
        exact intOk_let hc
    · split at h
      · rename_i hl hd
        have h' := Option.some.inj h
        unfold numAt at h'
        by_cases h0 : c = 48
        · subst h0
          have h' : (D.int 0, l) = (v, r) := h'
          cases h'
          refine ⟨[48], rfl, fun d hd => by simp at hd; omega, fun S => ?_, intOk_dig (fun d hd => by simp at hd; subst hd; rfl) (by decide)⟩
          exact step_num (c := 48) (r := []) rfl (by decide) S
        · rw [if_neg (by simpa using h0)] at h'
          cases h'
          refine ⟨(spn isDig 4000 (c :: l)).1, (spn_app _ _ _).symm, fun d hd => dig_plain (spn_all _ _ _ d hd), fun S => ?_, intOk_dig (fun d hd => spn_all _ _ _ d hd) (spn_max _ _ _)⟩
          exact step_num (c := c) (r := (spn isDig 3999 l).1) (by rw [spn_step hd]) hd S
      · split at h
        · rename_i hl hd h45
          subst h45
          have h' := Option.some.inj h
          unfold signAt at h'
          by_cases hz : l.head?.any isNz = true
          · rw [if_pos hz] at h'
            cases l with
            | nil => simp at hz
            | cons d l =>
              have hz' : isNz d = true := by simpa using hz
              have hd' : isDig d = true := by simp [isNz, isDig] at hz' ⊢; omega
              have h48 : d ≠ 48 := by simp [isNz] at hz'; omega
              have e : numAt (d :: l) = (.int (val (spn isDig 4000 (d :: l)).1), (spn isDig 4000 (d :: l)).2) := by
                unfold numAt
                rw [if_neg (by simpa using h48)]
              rw [e] at h'
              cases h'
              refine ⟨45 :: (spn isDig 4000 (d :: l)).1, ?_, fun q hq => ?_, fun S => ?_, intOk_neg (fun d hd => spn_all _ _ _ d hd) (spn_max _ _ _)⟩
              · show 45 :: (d :: l) = 45 :: ((spn isDig 4000 (d :: l)).1 ++ (spn isDig 4000 (d :: l)).2)
                rw [spn_app]
              · rcases List.mem_cons.mp hq with rfl | hq
                · decide
                · exact dig_plain (spn_all _ _ _ q hq)
              · rw [spn_step hd']
                exact step_neg S
          · rw [if_neg hz] at h'
            cases h'
            exact ⟨[45], rfl, fun d hd => by simp at hd; omega, fun S => rfl, intOk_neg (fun d hd => nomatch hd) (by decide)⟩
        · cases h
theorem words_turn {rows : List (List D)} {l : List Nat} : Goes (words (rows ++ [[]]) (spl [] l)) (turn rows l) := by
  unfold turn
  split
  · rename_i l r
    by_cases h6 : rows.length < 60
    · rw [if_pos h6]
      split
      · rename_i r'
        exact words_aft r' rows (.tup []) ([] :: (rows ++ [[]])) [41] rfl
      · rfl
    · rw [if_neg h6]
      trivial
  · rename_i l' hne
    cases e : piece l with
    | none => trivial
    | some p =>
      obtain ⟨v, r⟩ := p
      obtain ⟨w, e1, e2, e3, _⟩ := piece_word e
      have a := words_aft r rows v (rows ++ [[]]) w (e3 _)
      have b : spl [] l = spl w r := by rw [e1, spl_app w [] r e2]; rfl
      rw [b]
      exact a
theorem words_run : ∀ (n : Nat) (rows : List (List D)) (l : List Nat) (u : D), run n rows l = .ok u → words (rows ++ [[]]) (spl [] l) = [[u]]
  | 0, _, _, _, h => by cases h
  | n + 1, rows, l, u, h => by
    have a := words_turn (rows := rows) (l := l)
    unfold run at h
    cases e : turn rows l with
    | inl x =>
      rw [e] at h a
      have h' : x = .ok u := h
      subst h'
      exact a
    | inr p =>
      rw [e] at h a
      obtain ⟨rows', l'⟩ := p
      have a' : words (rows ++ [[]]) (spl [] l) = words (rows' ++ [[]]) (spl [] l') := a
      rw [a']
      exact words_run n rows' l' u h
/-- a good text: both readings tell the same value -/
theorem words_parse {l : List Nat} {u : D} (h : parse l = .ok u) : words [[]] (spl [] l) = [[u]] := words_run (l.length + 1) [] l u h

/-! ### no word breaks the reading -/
def wordOk (rows : List (List D)) (w : List Nat) : Prop := rows ≠ [] ∧ (w = [41] → 2 ≤ rows.length) ∧ intOk w
def wordsOk : List (List D) → List (List Nat) → Prop
  | _, [] => True
  | rows, w :: ws => wordOk rows w ∧ wordsOk (wordStep rows w) ws
def GoesOk (p : Prop) : Res ⊕ (List (List D) × List Nat) → Prop
  | .inl (.ok _) => p
  | .inl (.bad _) => True
  | .inr (rows, l) => wordsOk (rows ++ [[]]) (spl [] l) → p
theorem intOk_41 : intOk [41] := ⟨fun ds e => (by injection e with e _; cases e), fun c r e hd => by injection e with e _; subst e; cases hd⟩
theorem intOk_40 : intOk [40] := ⟨fun ds e => (by injection e with e _; cases e), fun c r e hd => by injection e with e _; subst e; cases hd⟩
theorem intOk_nil : intOk [] := ⟨(fun ds e => nomatch e), (fun c r e hd => nomatch e)⟩
theorem ne_app (rows : List (List D)) : rows ++ [[]] ≠ [] := by simp
theorem words_aft_ok : ∀ (r : List Nat) (rows : List (List D)) (v : D) (S : List (List D)) (cur : List Nat), wordStep S cur = push v (rows ++ [[]]) → wordOk S cur →
    GoesOk (wordsOk S (spl cur r)) (aft (pops rows v r))
  | [], [], v, S, cur, h, o => ⟨o, trivial⟩
  | [], row :: rows, v, S, cur, h, o => trivial
  | c :: r, [], v, S, cur, h, o => trivial
  | c :: r, row :: rows, v, S, cur, h, o => by
    by_cases h41 : c = 41
    · subst h41
      have a := words_aft_ok r rows (.tup (row ++ [v])) (push v ((row :: rows) ++ [[]])) [41] (by
        have h1 : ([41] : List Nat) ≠ [40] := by decide
        unfold wordStep
        rw [if_neg h1, if_pos rfl]
        rfl) ⟨by simp [push], fun _ => by simp [push], intOk_41⟩
      have e : wordsOk S (spl cur (41 :: r)) = (wordOk S cur ∧ wordsOk (push v ((row :: rows) ++ [[]])) (spl [41] r)) := by
        show (wordOk S cur ∧ wordsOk (wordStep S cur) (spl [41] r)) = _
        rw [h]
      rw [e]
      show GoesOk _ (aft (pops rows (.tup (row ++ [v])) r))
      revert a
      cases aft (pops rows (.tup (row ++ [v])) r) with
      | inl x =>
        cases x with
        | ok d => exact fun a => ⟨o, a⟩
        | bad l => exact fun a => trivial
      | inr q => exact fun a z => ⟨o, a z⟩
    · have ep : pops (row :: rows) v (c :: r) = (row :: rows, v, c :: r) := by
        unfold pops
        split
        · rename_i g
          injection g with g1 g2
          exact absurd g1 h41
        · rfl
      rw [ep]
      by_cases h32 : c = 32
      · subst h32
        show wordsOk (((row ++ [v]) :: rows) ++ [[]]) (spl [] r) → (wordOk S cur ∧ wordsOk (wordStep S cur) (spl [] r))
        rw [h]
        exact fun z => ⟨o, z⟩
      · have ea : aft (row :: rows, v, c :: r) = .inl (.bad (c :: r)) := by
          unfold aft
          split
          · rename_i g; cases g
          · rename_i g; cases g
          · rename_i g; cases g; exact absurd rfl h32
          · rename_i g; cases g; rfl
        rw [ea]
        trivial
theorem words_turn_ok {rows : List (List D)} {l : List Nat} : GoesOk (wordsOk (rows ++ [[]]) (spl [] l)) (turn rows l) := by
  unfold turn
  split
  · rename_i l r
    by_cases h6 : rows.length < 60
    · rw [if_pos h6]
      have o40 : wordOk (rows ++ [[]]) [40] := ⟨ne_app rows, (fun e => absurd e (by decide)), intOk_40⟩
      split
      · rename_i r'
        have a := words_aft_ok r' rows (.tup []) ([] :: (rows ++ [[]])) [41] rfl ⟨by simp, (fun _ => by simp), intOk_41⟩
        show GoesOk (wordOk (rows ++ [[]]) [40] ∧ wordOk ([] :: (rows ++ [[]])) [] ∧ wordsOk ([] :: (rows ++ [[]])) (spl [41] r')) _
        have o0 : wordOk ([] :: (rows ++ [[]])) [] := ⟨by simp, (fun e => nomatch e), intOk_nil⟩
        revert a
        cases aft (pops rows (.tup []) r') with
        | inl x =>
          cases x with
          | ok d => exact fun a => ⟨o40, o0, a⟩
          | bad l => exact fun a => trivial
        | inr q => exact fun a z => ⟨o40, o0, a z⟩
      · exact fun z => ⟨o40, z⟩
    · rw [if_neg h6]
      trivial
  · rename_i l' hne
    cases e : piece l with
    | none => trivial
    | some p =>
      obtain ⟨v, r⟩ := p
      obtain ⟨w, e1, e2, e3, e4⟩ := piece_word e
      have a := words_aft_ok r rows v (rows ++ [[]]) w (e3 _) ⟨ne_app rows, (fun z => absurd rfl ((e2 41 (by rw [z]; exact List.mem_cons_self)).2.2)), e4⟩
      have b : spl [] l = spl w r := by rw [e1, spl_app w [] r e2]; rfl
      rw [b]
      exact a
theorem words_run_ok : ∀ (n : Nat) (rows : List (List D)) (l : List Nat) (u : D), run n rows l = .ok u → wordsOk (rows ++ [[]]) (spl [] l)
  | 0, _, _, _, h => by cases h
  | n + 1, rows, l, u, h => by
    have a := words_turn_ok (rows := rows) (l := l)
    unfold run at h
    cases e : turn rows l with
    | inl x =>
      rw [e] at h a
      have h' : x = .ok u := h
      subst h'
      exact a
    | inr p =>
      rw [e] at h a
      obtain ⟨rows', l'⟩ := p
      exact a (words_run_ok n rows' l' u h)
theorem words_parse_ok {l : List Nat} {u : D} (h : parse l = .ok u) : wordsOk [[]] (spl [] l) := words_run_ok (l.length + 1) [] l u h
theorem spl_len : ∀ (l cur : List Nat), (spl cur l).length ≤ l.length + 1
  | [], cur => Nat.le_refl _
  | c :: r, cur => by
    unfold spl
    have h1 := spl_len r []
    have h2 := spl_len r [41]
    have h3 := spl_len r (cur ++ [c])
    repeat' split
    all_goals simp only [List.length_cons]; omega
/-- no row too long -/
def Bd2 (rows : List (List D)) (n : Nat) : Prop := rows.length + n ≤ 1000003 ∧ ∀ row ∈ rows, row.length + n ≤ 1000003
theorem Bd2.push {rows : List (List D)} {n : Nat} (v : D) (h : Bd2 rows (n + 1)) : Bd2 (push v rows) n := by
  cases rows with
  | nil => exact ⟨by have := h.1; simp [K75.push] at this ⊢; omega, fun row hr => nomatch hr⟩
  | cons row rows =>
    refine ⟨?_, fun r hr => ?_⟩
    · have := h.1
      simp only [K75.push, List.length_cons] at this ⊢
      omega
    · rcases List.mem_cons.mp hr with rfl | hr
      · have := h.2 row (List.mem_cons_self ..)
        simp only [List.length_append, List.length_cons, List.length_nil]
        omega
      · have := h.2 r (List.mem_cons_of_mem _ hr)
        omega
theorem Bd2.mono {rows : List (List D)} {n m : Nat} (h : Bd2 rows n) (e : m ≤ n) : Bd2 rows m := ⟨by have := h.1; omega, fun row hr => by have := h.2 row hr; omega⟩
theorem Bd2.step {rows : List (List D)} {n : Nat} (w : List Nat) (h : Bd2 rows (n + 1)) : Bd2 (wordStep rows w) n := by
  unfold wordStep
  split
  · refine ⟨?_, fun r hr => ?_⟩
    · have := h.1
      simp only [List.length_cons]
      omega
    · rcases List.mem_cons.mp hr with rfl | hr
      · have := h.1
        simp only [List.length_nil]
        omega
      · have := h.2 r hr
        omega
  · split
    · cases rows with
      | nil => exact h.mono (Nat.le_succ n)
      | cons row rest =>
        refine Bd2.push _ ⟨?_, fun r hr => h.2 r (List.mem_cons_of_mem _ hr)⟩
        have := h.1
        simp only [List.length_cons] at this
        omega
    · split
      · exact h.push _
      · split
        · exact h.push _
        · split
          · exact h.mono (Nat.le_succ n)
          · split
            · exact h.push _
            · exact h.push _
end K75
end
section
namespace Big
open PySem PySem.Calls PySem.W PyProof.Rows PySem.NumText
/-! ### int(text) of up to 4300 digits -/
theorem wp_digits {M : Model} {A : Around} {E : Value → Shared → Prop} {s : Shared} {Q : Nat → Shared → Prop} (hd : s.heap.NoDigits) (h : Q 4300 s) : wpAny M A Builtin.intMaxStrDigits Q E s := by
  obtain ⟨mc, hns, hnone⟩ := hd
  unfold Builtin.intMaxStrDigits
  refine wpAny_bind (wpAny_nsGet hns ?_)
  rw [hnone]
  exact wpAny_pure h
theorem wp_long {M : Model} {A : Around} {E : Value → Shared → Prop} {s : Shared} {Q : Value → Shared → Prop} {v : Value} {text : List Nat} {n : Int} (hd : s.heap.NoDigits)
    (hs : ¬ (text.takeWhile (· != 0)).length ≤ 640) (hr : (int_private% "readNumeral") 4300 10 (text.takeWhile (· != 0)) = (int_private% "Numeral.value") n)
    (ha : ((text.takeWhile (· != 0)).length == text.length) = true) (h : Q (.int n s.toks) { s with toks := s.toks + 1 }) :
    wpAny M A ((int_private% "intFromText") v text 10) Q E s := by
  have hs' := decide_eq_false hs
  clear hs
  repeat (any_goals (first
    | assumption
    | (with_reducible refine wpAny_ite_false hs' ?_)
    | (with_reducible refine wpAny_ite_true (decide_eq_true ha) ?_)
    | (with_reducible refine wp_digits hd ?_)
    | wp_step))
  all_goals (try rw [hr])
  all_goals (try dsimp only)
  repeat (any_goals (first
    | assumption
    | (with_reducible refine wpAny_ite_true (decide_eq_true ha) ?_)
    | wp_step))
structure Hid (p : Prop) : Prop where
  out : p
set_option maxHeartbeats 4000000 in
theorem meets_long {x : PySem.Str} {u : Tok} {n : Int} (hx : x.length ≤ sizeLine) (hl : ¬ (numSeenOf x).length ≤ 640) (hn : PySem.intText? x = some n) :
    Meets (Builtin.«int.__new__» ⟨[.type "int", .str x u], []⟩) (fun _ R s => s.heap.NoDigits ∧ R (.ok (.ret (.int n s.toks))) { s with toks := s.toks + 1 }) := by
  refine Meets.of_wp fun prog w A R s h => ?_
  obtain ⟨hd, h⟩ := h
  have f1 := F.conv_sub_int
  have f2 := F.madeHere_int
  have f3 := KIN.str_int
  have f4 := KIN.str_idx
  have f5 := KIN.str_trunc
  have f6 : typeOf (.str x u) = pure (.type "str") := rfl
  have hr : (int_private% "readNumeral") 4300 10 (numSeenOf x) = (int_private% "Numeral.value") n ∧ ((numSeenOf x).length == (numTextOf x).length) = true := by
    rcases read4300 x hx with ⟨m, h1, h2, h3⟩ | ⟨h1, _⟩
    · rw [hn] at h1
      injection h1 with h1
      subst h1
      exact ⟨h3, h2⟩
    · rw [hn] at h1
      cases h1
  have hk := Hid.mk (And.intro hl hr)
  clear hl hr hn hx
  obtain ⟨hp, g, d, tk, os⟩ := s
  repeat (any_goals (first
    | assumption
    | ((with_reducible show wpAny _ _ ((int_private% "intFromText") _ _ _) _ _ _); refine wp_long hd hk.out.1 hk.out.2.1 hk.out.2.2 ?_)
    | wp_step))
  all_goals exact ⟨_, rfl, h⟩
theorem call_int_long {prog : Program} {w : World} {A : Around} {E : Value → Shared → Prop} {s : Shared} {Q : Value → Shared → Prop} {x : PySem.Str} {t : Tok} {n : Int} (hd : s.heap.NoDigits) (hx : x.length ≤ sizeLine)
    (hs : ∀ c ∈ x.cps.toList, c = 45 ∨ (48 ≤ c ∧ c ≤ 57)) (hn : PySem.intText? x = some n) (h : Q (.int n s.toks) { s with toks := s.toks + 1 }) : wpAny (model prog w) A (call (.type "int") [.str x t]) Q E s := by
  by_cases hl : x.length ≤ 640
  · exact KIN.call_text hn hl h
  · have e : (numSeenOf x).length = x.length := by
      rw [(numText_signs hs).2]
      exact Array.length_toList
    exact call_int_1 (meets_long hx (by rw [e]; exact hl) hn) ⟨hd, rfl, h⟩
theorem nodigits {K : Frag} {h : Heap} (X : K.In h) (G : h.NoLimit) (e : nsIn K cStatics "sys.int_max_str_digits" = some none) : h.NoDigits := by
  obtain ⟨mc, G, _⟩ := G
  refine ⟨mc, G, ?_⟩
  obtain ⟨o, es, ep, ho, hd, _, hf⟩ := G
  unfold nsIn at e
  split at e
  · rename_i c d es' n' sl q
    have z := X _ _ q
    rw [ho] at z
    injection z with z
    subst z
    simp only at hd
    injection hd with hd1 hd2
    subst hd1
    have f := hf "sys.int_max_str_digits"
    split at e
    · cases e
    · rename_i q2
      rw [← f]
      unfold nsFind findBy
      rw [← Array.find?_toList, q2]
      rfl
  · cases e
end Big
namespace L2
open PySem PySem.Spec PyProof.Rows
section
variable {X : Cx}
/-- what the written part tells of the limit on digits -/
abbrev NoDig (K : PySem.W.Frag) : Prop := PySem.W.nsIn K cStatics "sys.int_max_str_digits" = some none
theorem Inv.nodig {pins : List (Addr × Obj)} {σ : St} {H : Hp} {s : Shared} (I : Inv X pins σ H s) (e : NoDig X.K) : s.heap.NoDigits := Big.nodigits I.kIn I.nolimit e
/-- int(text) of a text of digits, a sign ahead or none -/
theorem call_int_sgn (e : NoDig X.K) : CallR X (.type "int") (fun xs H Q => ∃ a n, xs = [.str a] ∧ a.length ≤ sizeLine ∧ (∀ c ∈ a.cps.toList, c = 45 ∨ (48 ≤ c ∧ c ≤ 57)) ∧ PySem.intText? a = some n ∧ Q (.int n) H) := by
  intro pins s σ H xs us Q I rs h
  obtain ⟨a, n, rfl, hl, hs, hn, h⟩ := h
  cases rs with
  | cons r1 rs =>
    cases rs
    obtain ⟨t, rfl⟩ := r1
    exact Big.call_int_long (I.nodig e) hl hs hn ⟨.int n, H, I.tok _, ⟨_, rfl⟩, h⟩
/-- str(n) of any int below 10 ^ 4300 -/
theorem call_str_big (e : NoDig X.K) (hc : X.calm = true) : CallR X (.type "str") (fun xs H Q => ∃ i, xs = [.int i] ∧ i.natAbs < 10 ^ 4300 ∧ Q (.str (toString i)) H) := by
  intro pins s σ H xs us Q I rs h
  obtain ⟨i, rfl, hl, h⟩ := h
  cases rs with
  | cons r1 rs =>
    cases rs
    obtain ⟨t, rfl⟩ := r1
    exact str_of_int_or (I.ok.hd hc) (I.nodig e) (fun _ => ⟨.str _, H, I.tok _, ⟨_, rfl⟩, h⟩) fun z => absurd hl (Nat.not_lt.mpr z)
/-- text * n -/
theorem op_mulS : OpR X (binaryOp .Mult) (fun x y H Q => ∃ a n, x = .str a ∧ y = .int n ∧ 0 ≤ n ∧ n ≤ 100000 ∧ a.length * n.toNat ≤ 16777216 ∧
    ∀ r : Str, r.cps.toList = (List.replicate n.toNat a.cps.toList).flatten → Q (.str r) H) := by
  intro pins s σ H x y v u Q I rx ry h
  obtain ⟨a, n, rfl, rfl, h0, h1, hl, h⟩ := h
  obtain ⟨t, rfl⟩ := rx
  obtain ⟨t', rfl⟩ := ry
  have fold : ∀ (k : Nat) (acc : Array Nat), ((List.replicate k a.cps).foldl (· ++ ·) acc).toList = acc.toList ++ (List.replicate k a.cps.toList).flatten := by
    intro k
    induction k with
    | zero => intro acc; simp
    | succ k ih =>
      intro acc
      rw [List.replicate_succ, List.foldl_cons, ih, List.replicate_succ, List.flatten_cons, Array.toList_append, List.append_assoc]
  refine PySem.P.mul_str ?_ (fun h2 _ z => ?_) (fun _ _ => ?_) ?_
  · rw [decide_eq_false (by omega), decide_eq_false (by omega)]; rfl
  · have l1 : (a.length : Int) ≤ 16777216 := by
      have : 1 ≤ n.toNat := by omega
      have := Nat.le_trans (Nat.le_mul_of_pos_right a.length this) hl
      omega
    have l2 : (16777216 : Int) ≤ (2 ^ 63 - 1) / n := (Int.le_ediv_iff_mul_le (by omega)).mpr (by omega)
    omega
  · unfold PySem.Builtin.Str.tooLong
    rw [sizeLine_eq]
    exact decide_eq_false (by omega)
  · by_cases c1 : n < 1
    · rw [if_pos c1]
      have e0 : n = 0 := by omega
      refine ⟨by decide, .str _, H, I.tok _, ⟨_, rfl⟩, h _ ?_⟩
      subst e0
      rfl
    · rw [if_neg c1]
      by_cases c2 : (n == 1 || a.length == 0) = true
      · rw [if_pos c2]
        refine ⟨.str _, H, I, ⟨_, rfl⟩, h _ ?_⟩
        rcases Bool.or_eq_true_iff.mp c2 with c2 | c2
        · have e1 : n = 1 := eq_of_beq c2
          subst e1
          simp
        · have e1 : a.cps.toList = [] := List.length_eq_zero_iff.mp (by rw [Array.length_toList]; exact eq_of_beq c2)
          rw [e1]
          simp
      · rw [if_neg c2]
        have el : ∀ r : Str, r.cps.toList = (List.replicate n.toNat a.cps.toList).flatten → r.length = a.length * n.toNat := fun r e => by
          have q := congrArg List.length e
          rw [List.length_flatten, List.map_replicate, List.sum_replicate_nat, Array.length_toList, Array.length_toList] at q
          rw [Nat.mul_comm]
          exact q
        have er : (⟨(List.replicate n.toNat a.cps).foldl (· ++ ·) #[]⟩ : Str).cps.toList = (List.replicate n.toNat a.cps.toList).flatten := by
          rw [show (⟨(List.replicate n.toNat a.cps).foldl (· ++ ·) #[]⟩ : Str).cps = (List.replicate n.toNat a.cps).foldl (· ++ ·) #[] from rfl, fold]
          rfl
        refine ⟨?_, .str _, H, I.tok _, ⟨_, rfl⟩, h _ er⟩
        rw [el _ er, sizeLine_eq]
        exact hl
end
end L2
end
section
namespace L2
open PySem PySem.Spec PyProof.Rows
section
variable {X : Cx}
/-- list(text) -/
theorem call_list_txt (hc : X.calm = true) : CallR X (.type "list") (fun xs H Q => ∃ x : Str, xs = [.str x] ∧ x.length ≤ sizeLine ∧ ∀ l, H l = none → Q (.ref l) (upd H l (.lst (x.cps.toList.map fun c => V.str ⟨#[c]⟩)))) := by
  intro pins s σ H xs us Q I rs h
  obtain ⟨x, rfl, hl, h⟩ := h
  cases rs with
  | cons r1 rs =>
    cases rs
    obtain ⟨t, rfl⟩ := r1
    refine PySem.call_list_str (I.ok.hd hc) x t (hn := hl) fun h' tk acc' c' hk hS' hacc => ?_
    have hv : Vals (x.cps.toList.map fun c => V.str ⟨#[c]⟩) acc'.toList := by
      have go : ∀ (cs : List Nat) (vs : List Value), vs.length = cs.length → (∀ (j : Nat) (v : Value), vs[j]? = some v → ∃ (c : Nat) (u : Tok), cs[j]? = some c ∧ v = .str ⟨#[c]⟩ u) → Vals (cs.map fun c => V.str ⟨#[c]⟩) vs := by
        intro cs
        induction cs with
        | nil =>
          intro vs e _
          cases vs with
          | nil => exact .nil
          | cons v vs => simp at e
        | cons c cs ih =>
          intro vs e k
          cases vs with
          | nil => simp at e
          | cons v vs =>
            obtain ⟨c', u, e1, e2⟩ := k 0 v rfl
            have e1' : c = c' := Option.some.inj e1
            subst e1' e2
            refine .cons ⟨u, rfl⟩ (ih vs (by simpa using e) fun j w hj => ?_)
            obtain ⟨c'', u', f1, f2⟩ := k (j + 1) w (by simpa using hj)
            exact ⟨c'', u', by simpa using f1, f2⟩
      refine go _ _ (by rw [Array.length_toList, Array.length_toList]; exact hacc.1) fun j v hj => ?_
      obtain ⟨c, u, hc, rfl⟩ := hacc.2 j v (by simpa using hj)
      exact ⟨c, u, by simpa using hc, rfl⟩
    refine ⟨.ref s.heap.objs.size, _, I.laid (t' := tk) hk (Nat.le_refl _) ?_, rfl, h _ (I.hok.fresh (Nat.le_refl _))⟩
    refine ⟨by rw [List.length_map, Array.length_toList]; exact hl, acc'.toList, c', hv, by simpa using hS'⟩

/-! ### texts replaced: a token is out -/
def tRepC (y z : Str) (to : TE) : TE := fun σ H Q => to σ H fun x H1 => ∃ a, x = .str a ∧ a.length + (a.length + 1) * z.length ≤ 16777216 ∧ Q (.str (Txt.replace a y z)) H1
variable {o e : Expr} {to te : TE} {apos pos : Pos}
theorem PET.of (h : PE X e te) : PET X e te := fun pins s σ H Q _ I q => h.run pins s σ H Q I q
theorem pet_repC {y z : Str} {j0 j1 : Nat} {c0 c1 : Pos} (ho : PET X o to) (hyz : (y == z) = false)
    (hst : starEach [.Constant (.str y) j0 c0, .Constant (.str z) j1 c1] X.env = [(false, eval (.Constant (.str y) j0 c0) X.env), (false, eval (.Constant (.str z) j1 c1) X.env)] := by rfl)
    (hbase : attributeBase o "replace" X.env (eval o X.env) = eval o X.env := by rfl) (hline : (apos.endLine == pos.line) = true := by rfl) :
    PET X (.Call (.Attribute o "replace" apos) [.Constant (.str y) j0 c0, .Constant (.str z) j1 c1] [] pos) (tRepC y z to) := by
  intro pins s σ H Q h0 I h
  refine PySem.Call_method2 hbase hst hline (wpAny_mono (PySem.wpAny_toks (ho pins s σ H _ h0 I h)) (fun v s1 q => ?_) fun _ _ z => z.2)
  obtain ⟨hk, x, H1, I1, r1, a, rfl, hz, q⟩ := q
  obtain ⟨tx, rfl⟩ := r1
  refine ⟨"str", _, F.plainAttrs_str, F.slot_str_replace, F.type_str_replace, typeIs_str _ _ _, (fun _ e => nomatch e), Calls.callWith_builtin rfl (Calls.evalArgs_plain (Calls.spliced_cons (Calls.Constant_str ?_)))⟩
  refine Calls.spliced_cons (Calls.Constant_str (Calls.spliced_nil ?_))
  exact PySem.SC.replace (show s1.toks ≠ 0 by omega) (show s1.toks + 1 ≠ 0 by omega) (show s1.toks ≠ s1.toks + 1 by omega) hyz hz fun t' k => ⟨.str (Txt.replace a y z), H1, I1.tok k, ⟨t', rfl⟩, q⟩
theorem pet_split (ho : PET X o to) (he : PE X e te) (hs : starEach [e] X.env = [(false, eval e X.env)] := by rfl) (hbase : attributeBase o "split" X.env (eval o X.env) = eval o X.env := by rfl) (hline : (apos.endLine == pos.line) = true := by rfl) :
    PET X (.Call (.Attribute o "split" apos) [e] [] pos) (tM1 (fun x xs H Q => ∃ a b, x = .str a ∧ xs = [.str b] ∧ (b.length == 0) = false ∧ a.length + 2 ≤ sizeLine ∧ rNewStrs (Txt.split a b) H Q) to te) := by
  intro pins s σ H Q h0 I h
  refine PySem.Call_method1 hbase hs hline (thn (ho pins s σ H _ h0 I h) fun v s1 ⟨x, H1, I1, r1, q1⟩ => ?_)
  obtain ⟨⟨a, rfl⟩, q1⟩ := q1
  have r1' := r1
  obtain ⟨t, rfl⟩ := r1'
  refine ⟨"str", _, F.plainAttrs_str, F.slot_str_split, F.type_str_split, typeIs_str _ _ _, (fun _ e => nomatch e), Calls.callWith_builtin rfl (Calls.evalArgs_plain (Calls.spliced_cons ?_))⟩
  exact thn (he.run pins s1 σ H1 _ I1 q1) fun u s2 ⟨y, H2, I2, r2, q2⟩ => Calls.spliced_nil (mt_split pins s2 σ H2 _ [y] _ [u] Q I2 r1 (.cons r2 .nil) q2)
/-- a def of the text whose body gives out tokens -/
theorem Fun.okT {P : Program} {w : World} {K : PySem.W.Frag} {mg : Str → Option Value} {base : Heap} {x qual : Str} {st : Stmt} {f : Addr} {fd : FuncData} {N ps : List Str} {k : Nat} {sp : Sp} (F : Fun K x qual st f fd) (S : FnScope N ps (defScope st))
    (hnc : ∀ y ∈ (defScope st).names, y.2 ≠ .cell) (hps : 1 ≤ ps.length) (len : ∀ vs H Q E, sp vs H Q E → vs.length = ps.length)
    (hbody : ∀ (cdv : Value) (A : Around) (outer : List Env) (s : Shared) (H : Hp) (vs : List V) (Q : VK) (E : XK), Room k (A.deeper (envOfC qual (defScope st) s.heap.objs.size f cdv)) → sp vs H Q E →
      ∃ t, PSsT (cxOf CX0 P w K mg base N qual (defScope st) f cdv A outer s H E) (defBody st) t ∧ t { nx := fun _ H' => Q .non H', rt := Q } (start N vs) H) : FnOk P w K mg base CX0 (k + 1) f fd ps sp := by
  obtain ⟨oc, od, kV, doc, pm, an, cdv, ct, osl, rfl, lk, hcd⟩ := F.ex
  exact fn_ofT lk hcd S hnc hps len fun A outer s H vs Q E hr hsp => hbody cdv A outer s H vs Q E hr hsp

/-! ### isinstance of a caught error that has its own dict -/
def rIsD (K : PySem.W.Frag) (D a : Addr) (d : Option Addr) : List V → Hp → VK → Prop := fun xs H Q => ∃ (c : V) (cv : Value) (b : Bool) (dd : Addr) (fs : List (Str × V)), xs = [.ref a, c] ∧ d = some dd ∧ H dd = some (.xd fs) ∧ (∀ u, RelV c u → u = cv) ∧ PySem.W.kitOne K (.ref D) cv = some b ∧ Q (.bl b) H
theorem call_isD {a D : Addr} {d : Option Addr} {oe : Obj} {pn : List (Addr × Obj)} (C : ExcC X.K D) (hz : Zc (.ref D) d oe) (hf : ∃ vs, oe.data = .fields vs) : CallR (X.suite a ((a, oe) :: pn)) (.builtin "isinstance") (rIsD X.K D a d) := by
  intro pins s σ H xs us Q I r h
  obtain ⟨c, cv, b, dd, fs, rfl, rfl, hdd, hcv, e, q⟩ := h
  cases r with
  | cons rx rr =>
    cases rr with
    | cons rt rr =>
      cases rr
      cases rx
      have ec := hcv _ rt
      subst ec
      obtain ⟨hget, _⟩ := I.pin (a, oe) (List.mem_append.mpr (.inl List.mem_cons_self))
      obtain ⟨vs, hv⟩ := hf
      have hx : ObjOk X.prog X.w H s.heap dd (.xd fs) := I.hok dd _ hdd
      obtain ⟨mA, hns, _⟩ := hx
      obtain ⟨od, ho, _⟩ := lookIn_ns hns
      have J : PySem.W.InstAt s.heap a oe D (some od) := ⟨hget, hz.1, by unfold PySem.W.notCls; rw [hv] <;> rfl, by rw [hz.2]; exact ho⟩
      have hcl : (PySem.W.clsIn X.K D).isSome = true := by
        obtain ⟨cd, hc, _⟩ := PySem.W.any_some C.hd
        rw [hc]; rfl
      exact PySem.W.kia_one (PySem.W.kitx_exc hcl C.hg C.hk C.hs C.ha C.hn C.ht C.hm) I.kIn J e (fun z => nomatch z) fun tk => ⟨.bl b, H, I.kept (t' := tk) fun _ _ z => z, rfl, q⟩
end
end L2
end
section
namespace L2
open PySem PySem.Spec PyProof.Rows
/-- what «except x as n» wishes where it is the first of several clauses and takes every error of the body -/
def wFirst (K : PySem.W.Frag) (c : Value) (i : Nat) (ts : Addr → Value → Option Addr → TS) (D : Ends) : WX := fun cls d σ H =>
  PySem.W.exmOne K cls c = some true ∧ ∀ a, H a = none →
    ts a cls d ⟨fun σ' H' => D.nx (σ'.set i none) H', D.rt, fun σ' H' => D.bk (σ'.set i none) H', fun σ' H' => D.ct (σ'.set i none) H'⟩ (σ.set i (some (.ref a))) H
section
variable {X : Cx} {x n : Str} {c : Value} {i : Nat} {body suite : List Stmt} {b0 : Stmt} {np pos pos' : Pos} {tb : WX → TS} {ts : Addr → Value → Option Addr → TS} {more : List ExceptHandler}
theorem ps_try_first (hs : X.stack = X.env :: X.outer) (hf : X.env.frame = some X.env.locals) (hN : X.N.Nodup) (hi : X.N[i]? = some n) (hln : X.env.kindOf n = some .local) (hc : Names X x c)
    (hb : ∀ (W : WX) (pn : List (Addr × Obj)) (xe : Value → Shared → Prop), Takes (X.tr pn xe) W →
      PassesOwn (model X.prog X.w) X.A X.env xe → PSs (X.tr pn xe) body (tb W))
    (hsu : ∀ (a : Addr) (oe : Obj) (cls : Value) (d : Option Addr) (pn : List (Addr × Obj)), Zc cls d oe →
      (∃ vs, oe.data = .fields vs) → PSs (X.suite a ((a, oe) :: pn)) (b0 :: suite) (ts a cls d)) :
    PS X (.Try body (.ExceptHandler (some (.Name x np)) (some n) (b0 :: suite) pos' :: more) [] [] pos) (fun D σ H => tb (wFirst X.K c i ts D) D σ H) := by
  refine ⟨fun pins s σ H D I h => ?_⟩
  have ok := I.ok
  have fr0 : X.A.frames = some (X.env :: X.outer) := hs ▸ ok.frames
  refine wpAny_Try_except (wpAny_mono ((hb (wFirst X.K c i ts D) (X.pn ++ pins)
    (fun e s1 => wpAny (model X.prog X.w) X.A (noteFrame e X.env) (fun _ s2 => wpAny (model X.prog X.w) X.A (setFlight e none) (fun _ s3 =>
      wpAny (model X.prog X.w) X.A (handleBy e X.env (.ExceptHandler (some (.Name x np)) (some n) (b0 :: suite) pos' :: more)) (SP X pins D) X.xe s3) X.xe s2) X.xe s1)
    (fun u s' xx => ?_) PassesOwn.looking).run [] s σ H D (I.toTry _) h) (fun f s1 hsp => ?_) (fun e s1 he => he))
  · obtain ⟨a, B, sI, pins', σ', H', cls, d, rfl, J', nb, up, sky, na, os, ag, hb1, hyes⟩ := xx
    have J := J'.ofTry ok
    have sky' : Sky B (X.env :: X.outer) a (Zc cls d) X.env.locals s'.heap := hs ▸ sky
    show wpAny (model X.prog X.w) X.A (noteFrame (.ref a) X.env) _ _ _
    refine Sky.land Zc.steady fr0 hf sky' fun h3 fl3 up3 => ?_
    have J3 : Inv X pins σ' H' { s' with heap := h3 } := J.landed nb fl3.1 (up.trans up3) os ag
    obtain ⟨oe3, vs3, he3, hz3, hd3⟩ := fl3.there
    have nfr : a ∉ frs (X.env :: X.outer) := fun hm => by
      obtain ⟨_, o', e', hnf⟩ := fl3.2.2.1.mem hm
      rw [he3] at e'
      cases e'
      exact hnf _ hd3
    have nL : a ≠ X.env.locals := fun z => nfr (List.mem_filterMap.mpr ⟨X.env, List.mem_cons_self, z ▸ hf⟩)
    have nF : a ∉ X.fs := fun hm => by
      obtain ⟨e, he, q⟩ := List.mem_filterMap.mp hm
      exact nfr (List.mem_filterMap.mpr ⟨e, .tail _ he, q⟩)
    have S3 := J3.suite he3 hd3 na nL nF
    refine wpAny_handleBy_cons (codeAny_handlers_test ?_) (fun q => by cases q)
    have LT : PySem.W.Looks (model X.prog X.w) h3 (typeOf (.ref a)) cls := fun A Q E s k q => wpAny_typeOf_ref (k _ _ he3) (hz3.1 ▸ q)
    have LM := PySem.W.exm_one (M := model X.prog X.w) J3.kIn LT hb1
    have test : ∀ {Q E : Value → Shared → Prop}, Q c { s' with heap := h3 } →
        wpAny (model X.prog X.w) (X.A.mark (some (.ref a))) (eval (.Name x np) X.env) Q E { s' with heap := h3 } := fun {Q E} q => by
      obtain ⟨hg, hdbg, hm | ⟨hm, hv, hnn⟩⟩ := hc
      · exact ld_glob (X := X.suite a ((a, oe3) :: (X.pn ++ pins))) S3 hg hm q hdbg
      · exact ld_blt (X := X.suite a ((a, oe3) :: (X.pn ++ pins))) S3 hg hm hv q hnn hdbg
    refine test (LM.here (codeAny_handlers_suite_as (HandSPX.lands_againZ fl3 fun h4 fl4 up4 => ?_)))
    have J4 : Inv X pins σ' H' { s' with heap := h4 } := J.landed nb fl4.1 ((up.trans up3).trans up4) os ag
    obtain ⟨oe4, vs4, he4, hz4, hd4⟩ := fl4.there
    have S4 := J4.suite he4 hd4 na nL nF
    refine store_ok (X := X.suite a ((a, oe4) :: (X.pn ++ pins))) (v := .ref a) S4 hN hi (.inl hln) rfl (fun s5 S5 => ?_) (.inr hln)
    refine wpAny_mono ((hsu a oe4 cls d (X.pn ++ pins) hz4 ⟨_, hd4⟩).run [] s5 _ H' _ S5 (hyes a na)) (fun f s6 hsp => ?_) (fun _ _ z => False.elim z)
    have fin : ∀ {σ6 : St} {H6 : Hp} {Q : Shared → Prop}, Inv (X.suite a ((a, oe4) :: (X.pn ++ pins))) [] σ6 H6 s6 →
        (∀ s7, Inv X pins (σ6.set i none) H6 s7 → Q s7) →
        wpAny (model X.prog X.w) X.A (do bindName X.env n .none; unbindBehindTheSuite X.env n pos') (fun _ s7 => Q s7) X.xe s6 :=
      fun S6 hq => gone_ok (S6.unsuite ok) hN hi hln hq
    cases f <;> (first
      | (obtain ⟨σ6, H6, S6, q6⟩ := hsp; exact fin S6 fun s7 J7 => ⟨_, _, J7, q6⟩)
      | (obtain ⟨v6, σ6, H6, S6, r6, q6⟩ := hsp; exact fin S6 fun s7 J7 => ⟨_, _, _, J7, r6, q6⟩))
  · cases f <;> (first
      | (obtain ⟨σ', H', J', q⟩ := hsp; exact wpAny_execs_nil ⟨σ', H', J'.ofTry ok, q⟩)
      | (obtain ⟨σ', H', J', q⟩ := hsp; exact ⟨σ', H', J'.ofTry ok, q⟩)
      | (obtain ⟨v, σ', H', J', r, q⟩ := hsp; exact ⟨v, σ', H', J'.ofTry ok, r, q⟩))
end
end L2
end
section
namespace L2
open PySem PySem.Spec PyProof.Rows
/-- a def of the text that keeps a promise, and where it stands -/
structure Cal (P : Program) (w : World) (K : PySem.W.Frag) (mg : Str → Option Value) (base : Heap) (CX : CXT) (x : Str) (k : Nat) (f : Addr) (fd : FuncData) (ps : List Str) (sp : Sp) : Prop where
  fn : FnOk P w K mg base CX k f fd ps sp
  g : mg x = some (.ref f)
  kp : PySem.W.keepIn K (.ref f) = true
  b : Binds K fd ps []
section
variable {X : Cx} {CX : CXT} {x : Str} {k : Nat} {f : Addr} {fd : FuncData} {ps : List Str} {sp : Sp} {p pos : Pos} {e : Expr} {es : List Expr} {t : TA}
theorem pe_c (G : Cal X.prog X.w X.K X.mg X.base CX0 x k f fd ps sp) (hr : Room k X.A) (ha : PA X (e :: es) t) (hg : Gl X x := by rfl) (hdb : (x == ("__debug__" : Str)) = false := by decide)
    (he : starEach (e :: es) X.env = (false, eval e X.env) :: starEach es X.env := by rfl) (hpl : (backTo pos (starEach es X.env)).any (·.1) = false := by rfl) :
    PE X (.Call (.Name x p) (e :: es) [] pos) (tCall sp [] E0 t) := pe_call G.fn hr hg G.g G.kp G.b .nil pass0 ha hdb he hpl
theorem pe_globS {z : Str} (hm : ∃ t, X.mg x = some (.str z t)) (hg : Gl X x := by rfl) (hd : (x == ("__debug__" : Str)) = false := by decide) : PE X (.Name x pos) (tC (.str z)) := by
  obtain ⟨t, hm⟩ := hm
  exact pe_glob hg hm ⟨t, rfl⟩ hd
theorem pe_globI {i : Int} (hm : ∃ t, X.mg x = some (.int i t)) (hg : Gl X x := by rfl) (hd : (x == ("__debug__" : Str)) = false := by decide) : PE X (.Name x pos) (tC (.int i)) := by
  obtain ⟨t, hm⟩ := hm
  exact pe_glob hg hm ⟨t, rfl⟩ hd
/-- d[text], d a dict of the module -/
theorem ix_kd {d : Addr} {es : Array DictEntry} {n : Nat} (D : KDict X.K X.w d es n) :
    IxR X (fun x y H Q => ∃ (z : Str) (u0 : Value) (v0 : V), x = .ref d ∧ y = .str z ∧ PySem.W.nsIn X.K d z = some (some u0) ∧ RelV v0 u0 ∧ Q v0 H) := by
  intro value slice pins s σ H x y v u Q I rx ry h hs
  obtain ⟨z, u0, v0, rfl, rfl, e, r, q⟩ := h
  cases rx
  obtain ⟨t, rfl⟩ := ry
  refine tail_any (kd_type D I) PySem.F.slot_dict_getitem.lookup ?_ hs
  exact wpAny_getItem_of (PySem.strKind_is X.prog X.w z t) (PySem.W.mapOf_K (prog := X.prog) I.kIn D.at_ D.lit) (PySem.W.find_K D.at_ e) ⟨v0, H, I.tok _, r, q⟩
end
end L2
namespace K75
open PySem L2
def top (i : Nat) : Stmt := PySem.Challenge.pw_swornlots_k75_bad_plain_texts.main.body.getD i (.Pass ⟨0, 0, 0, 0⟩)

/-! ### places in a text -/
structure At (t : Str) (p : Int) (l : List Nat) : Prop where
  sz : t.length ≤ 1000000
  ex : ∃ w, t.cps.toList = w ++ l ∧ p = (w.length : Int)
theorem len_codes (t : Str) : t.cps.toList.length = t.length := Array.length_toList
theorem At.len {t : Str} {p : Int} {l : List Nat} (h : At t p l) : p + l.length = t.length := by
  obtain ⟨w, e, rfl⟩ := h.ex
  have q := congrArg List.length e
  rw [len_codes, List.length_append] at q
  omega
theorem At.ge {t : Str} {p : Int} {l : List Nat} (h : At t p l) : 0 ≤ p := by
  obtain ⟨w, e, rfl⟩ := h.ex
  omega
theorem At.line {t : Str} {p : Int} {l : List Nat} (h : At t p l) : t.length ≤ sizeLine := Nat.le_trans h.sz (by decide)
theorem At.start {t : Str} (h : t.length ≤ 1000000) : At t 0 t.cps.toList := ⟨h, [], rfl, rfl⟩
theorem At.get {t : Str} {p : Int} {c : Nat} {r : List Nat} (h : At t p (c :: r)) : atI t.cps.toList p = some c := by
  obtain ⟨w, e, rfl⟩ := h.ex
  refine atI_nat ?_
  rw [e, List.getElem?_append_right (Nat.le_refl _), Nat.sub_self]
  rfl
theorem At.app {t : Str} {p : Int} {w r : List Nat} (h : At t p (w ++ r)) : At t (p + w.length) r := by
  obtain ⟨v, e, rfl⟩ := h.ex
  refine ⟨h.sz, v ++ w, by rw [e, List.append_assoc], ?_⟩
  rw [List.length_append]
  omega
theorem At.step {t : Str} {p : Int} {c : Nat} {r : List Nat} (h : At t p (c :: r)) : At t (p + 1) r := At.app (w := [c]) h
theorem At.cut {t : Str} {p : Int} {w r : List Nat} (h : At t p (w ++ r)) : cutS t (some p) (some (p + w.length)) = ⟨w.toArray⟩ := by
  obtain ⟨v, e, rfl⟩ := h.ex
  have hl := len_codes t
  rw [e] at hl
  simp only [List.length_append] at hl
  have a1 : HT.sIx t.length 0 (some (v.length : Int)) = v.length := by
    show (if (v.length : Int) < 0 then ((v.length : Int) + (t.length : Int)).toNat else min (v.length : Int).toNat t.length) = v.length
    rw [if_neg (by omega)]
    omega
  have a2 : HT.sIx t.length t.length (some ((v.length : Int) + w.length)) = v.length + w.length := by
    show (if ((v.length : Int) + w.length) < 0 then (((v.length : Int) + w.length) + (t.length : Int)).toNat else min ((v.length : Int) + w.length).toNat t.length) = v.length + w.length
    rw [if_neg (by omega)]
    omega
  unfold cutS
  rw [a1, a2, e, List.drop_left, Nat.add_sub_cancel_left, List.take_left]

/-! ### values that stand in the heap -/
mutual
inductive Rp (H : Hp) : V → D → Prop where
  | non : Rp H .non .non
  | bl (b : Bool) : Rp H (.bl b) (.bl b)
  | int (i : Int) : Rp H (.int i) (.int i)
  | str (x : Str) : Rp H (.str x) (.str x.cps.toList)
  | tup {a : Addr} {xs : List V} {ds : List D} (h : H a = some (.tup xs)) (hs : RpAll H xs ds) : Rp H (.ref a) (.tup ds)
inductive RpAll (H : Hp) : List V → List D → Prop where
  | nil : RpAll H [] []
  | cons {v : V} {d : D} {vs : List V} {ds : List D} (h : Rp H v d) (hs : RpAll H vs ds) : RpAll H (v :: vs) (d :: ds)
end
mutual
theorem Rp.mono {H H' : Hp} (k : ∀ a xs, H a = some (.tup xs) → H' a = some (.tup xs)) {v : V} {d : D} : Rp H v d → Rp H' v d
  | .non => .non
  | .bl b => .bl b
  | .int i => .int i
  | .str x => .str x
  | .tup h hs => .tup (k _ _ h) (RpAll.mono k hs)
theorem RpAll.mono {H H' : Hp} (k : ∀ a xs, H a = some (.tup xs) → H' a = some (.tup xs)) {vs : List V} {ds : List D} : RpAll H vs ds → RpAll H' vs ds
  | .nil => .nil
  | .cons h hs => .cons (Rp.mono k h) (RpAll.mono k hs)
end
theorem Rp.same {H H' : Hp} (s : Same H H') {v : V} {d : D} (h : Rp H v d) : Rp H' v d := h.mono fun a xs e => s a _ e
theorem RpAll.same {H H' : Hp} (s : Same H H') {v : List V} {d : List D} (h : RpAll H v d) : RpAll H' v d := h.mono fun a xs e => s a _ e
theorem RpAll.snoc {H : Hp} {v : V} {d : D} (h : Rp H v d) : ∀ {vs : List V} {ds : List D}, RpAll H vs ds → RpAll H (vs ++ [v]) (ds ++ [d])
  | _, _, .nil => .cons h .nil
  | _, _, .cons g gs => .cons g (RpAll.snoc h gs)
theorem RpAll.len {H : Hp} : ∀ {vs : List V} {ds : List D}, RpAll H vs ds → vs.length = ds.length
  | _, _, .nil => rfl
  | _, _, .cons _ hs => congrArg (· + 1) hs.len
/-- the value of an atom -/
def av : D → V
  | .non => .non
  | .bl b => .bl b
  | .int i => .int i
  | .str x => .str ⟨x.toArray⟩
  | .tup _ => .non
def atom : D → Bool
  | .tup _ => false
  | _ => true
theorem Rp.av {H : Hp} : ∀ {d : D}, atom d = true → Rp H (av d) d
  | .non, _ => .non
  | .bl b, _ => .bl b
  | .int i, _ => .int i
  | .str x, _ => by
    have h : Rp H (.str ⟨x.toArray⟩) (.str (⟨x.toArray⟩ : Str).cps.toList) := .str _
    simpa [K75.av] using h
theorem Same.new {H : Hp} {p : Addr} {o : HO} (h : H p = none) : Same H (upd H p o) := fun b u e => by
  rw [upd_ne (ne_of_none e h)]
  exact e
/-- the values of the three words -/
def spO : Option D → Option Value
  | some (.bl b) => some (.bool b)
  | some _ => some .none
  | none => none
def spV (z : Str) : Option Value := spO (special? z.cps.toList)
/-- what the written part tells of the names -/
structure Tx (w : World) (K : PySem.W.Frag) (mg : Str → Option Value) : Prop where
  sp : ∃ d es n, mg "SPECIAL" = some (.ref d) ∧ KDict K w d es n ∧ ∀ z : Str, PySem.W.nsIn K d z = some (spV z)
  nd : NoDig K
  b_len : mg "len" = none
  b_int : mg "int" = none
  b_str : mg "str" = none
  b_list : mg "list" = none
  b_tuple : mg "tuple" = none
  b_bool : mg "bool" = none
  b_sum : mg "sum" = none
  b_abs : mg "abs" = none
  b_min : mg "min" = none
  b_range : mg "range" = none
  b_isinstance : mg "isinstance" = none
  mgLet : ∃ t, mg "LETTERS" = some (.str "abcdefghijklmnopqrstuvwxyz" t)
  mgSig : ∃ t, mg "SIGNS" = some (.str "abcdefghijklmnopqrstuvwxyz0123456789" t)
  mgDig : ∃ t, mg "DIGITS" = some (.str "0123456789" t)
  mgML : ∃ t, mg "MOST_LEVELS" = some (.int 60 t)
  mgMD : ∃ t, mg "MOST_DIGITS" = some (.int 4000 t)
  mgMS : ∃ t, mg "MOST_SIGNS" = some (.int 12 t)

/-! ### signs of the written texts -/
theorem codes_let : (Str.ofString "abcdefghijklmnopqrstuvwxyz").cps.toList = List.range' 97 26 := by decide +kernel
theorem codes_sig : (Str.ofString "abcdefghijklmnopqrstuvwxyz0123456789").cps.toList = List.range' 97 26 ++ List.range' 48 10 := by decide +kernel
theorem codes_dig : (Str.ofString "0123456789").cps.toList = List.range' 48 10 := by decide +kernel
theorem codes_nz : (Str.ofString "123456789").cps.toList = List.range' 49 9 := by decide +kernel
theorem mem_let (c : Nat) : c ∈ (Str.ofString "abcdefghijklmnopqrstuvwxyz").cps.toList ↔ isLet c = true := by
  rw [codes_let, List.mem_range'_1]
  simp [isLet]
  omega
theorem mem_dig (c : Nat) : c ∈ (Str.ofString "0123456789").cps.toList ↔ isDig c = true := by
  rw [codes_dig, List.mem_range'_1]
  simp [isDig]
  omega
theorem mem_nz (c : Nat) : c ∈ (Str.ofString "123456789").cps.toList ↔ isNz c = true := by
  rw [codes_nz, List.mem_range'_1]
  simp [isNz]
  omega
theorem mem_sig (c : Nat) : c ∈ (Str.ofString "abcdefghijklmnopqrstuvwxyz0123456789").cps.toList ↔ isSig c = true := by
  rw [codes_sig, List.mem_append, List.mem_range'_1, List.mem_range'_1]
  simp [isSig, isLet, isDig]
  omega
end K75
end
section
namespace K75
open PySem L2
section
variable {P : Program} {w : World} {K : PySem.W.Frag} {mg : Str → Option Value} {base : Heap}
/-! ### is_at -/
abbrev s_is_at : Stmt := top 19
abbrev N_is_at : List Str := ["text", "place", "sign"]
theorem sc_is_at : FnScope N_is_at ["text", "place", "sign"] (defScope s_is_at) := ⟨rfl, rfl, rfl, by decide +kernel, rfl, by decide +kernel, by decide +kernel⟩
def spAt : Sp := fun vs H Q _ => ∃ (t : Str) (p : Int) (l : List Nat) (c : Nat), vs = [.str t, .int p, .str ⟨#[c]⟩] ∧ At t p l ∧ Q (.bl (decide (l.head? = some c))) H
theorem sign_eq (c d : Nat) : decide (V.str ⟨#[c]⟩ = V.str ⟨#[d]⟩) = decide (c = d) := by
  by_cases e : c = d
  · subst e
    simp
  · rw [decide_eq_false e, decide_eq_false]
    intro h
    injection h with h
    injection h with h
    have h2 := congrArg Array.toList h
    simp at h2
    exact e h2
theorem ok_is_at {f : Addr} {fd : FuncData} (F : Fun K "is_at" "is_at" s_is_at f fd) (T : Tx w K mg) : FnOk P w K mg base CX0 1 f fd ["text", "place", "sign"] spAt := by
  refine F.ok sc_is_at (fun vs H Q E h => ?_) (fun cdv A outer s H vs Q E hr h => ?_)
  · obtain ⟨t, p, l, c, rfl, _⟩ := h
    rfl
  obtain ⟨t, p, l, c, rfl, hp, q⟩ := h
  refine ⟨_, (pss_one (ps_ret (pe_and (pe_cmpR op_lt (pv 1) (pe_callB call_len_str (by rfl) T.b_len (by decide +kernel) (pa_cons (pv 0) pa_nil)) (nomark _)) (pe_one (pe_cmpR op_eq (pe_ix ix_str (pv 0) (pv 1) (fun _ _ => rfl)) (pv 2) (nomark _)))))), ?_⟩
  refine ⟨_, rfl, _, rfl, _, rfl, hp.line, _, _, rfl, rfl, _, rfl, ?_⟩
  have hl := hp.len
  cases l with
  | nil =>
    have c1 : ¬ p < (t.length : Int) := by simp at hl; omega
    rw [decide_eq_false c1]
    refine iteF ?_
    exact q
  | cons d r =>
    have c1 : p < (t.length : Int) := by simp at hl; omega
    rw [decide_eq_true c1]
    refine iteT ?_
    refine ⟨_, rfl, _, rfl, _, _, _, rfl, rfl, hp.line, hp.get, _, rfl, rfl, ?_⟩
    rw [sign_eq]
    simpa using q
/-! ### end_of -/
abbrev s_end_of : Stmt := top 14
abbrev N_end_of : List Str := ["text", "place", "signs", "most", "end"]
theorem sc_end_of : FnScope N_end_of ["text", "place", "signs", "most"] (defScope s_end_of) := ⟨rfl, rfl, rfl, by decide +kernel, rfl, by decide +kernel, by decide +kernel⟩
def spEnd : Sp := fun vs H Q _ => ∃ (t : Str) (p : Int) (l : List Nat) (z : Str) (n : Nat) (pr : Nat → Bool), vs = [.str t, .int p, .str z, .int n] ∧ At t p l ∧ (∀ c, c ∈ z.cps.toList ↔ pr c = true) ∧
  Q (.int (p + (spn pr n l).1.length)) H
theorem ok_end_of {f : Addr} {fd : FuncData} (F : Fun K "end_of" "end_of" s_end_of f fd) (T : Tx w K mg) : FnOk P w K mg base CX0 1 f fd ["text", "place", "signs", "most"] spEnd := by
  refine F.ok sc_end_of (fun vs H Q E h => ?_) (fun cdv A outer s H vs Q E hr h => ?_)
  · obtain ⟨t, p, l, z, n, pr, rfl, _⟩ := h
    rfl
  obtain ⟨t, p, l, z, n, pr, rfl, hp, hz, q⟩ := h
  refine ⟨_, (pss_cons (ps_set (i := 4) sc_end_of.nd rfl (.inl rfl) (pv 1))
      (pss_cons (ps_while PassesOwn.never (PW.pt (pw_and (pt_cmpR op_lt (pv 4) (pe_callB call_len_str (by rfl) T.b_len (by decide +kernel) (pa_cons (pv 0) pa_nil)) (nomark _)) (pw_and (pt_cmpR op_lt (pe_op op_sub (pv 4) (pv 1)) (pv 3) (nomark _)) (pw_and1 (pt_cmpR op_in_sign (pe_ix ix_str (pv 0) (pv 4) (fun _ _ => rfl)) (pv 2) (by rfl)))))) (pss_one (ps_set (i := 4) sc_end_of.nd rfl (.inl rfl) (pe_op op_add (pv 4) pe_int))))
      (pss_one (ps_ret (pv 4))))), ?_⟩
  refine ⟨_, rfl, ?_⟩
  refine ⟨fun m σ H' => H' = H ∧ ∃ (u r : List Nat), l = u ++ r ∧ σ = [some (.str t), some (.int p), some (.str z), some (.int n), some (.int (p + u.length))] ∧ u.length + m = n ∧ (spn pr n l).1 = u ++ (spn pr m r).1, ⟨n, rfl, [], l, rfl, by simp; rfl, by simp, rfl⟩, ?_⟩
  rintro m σ H' ⟨rfl, u, r, el, rfl, em, es⟩
  have hq : At t (p + u.length) r := At.app (w := u) (el ▸ hp)
  have hl := hq.len
  refine ⟨_, rfl, _, rfl, _, rfl, hp.line, _, _, rfl, rfl, _, rfl, ?_⟩
  cases r with
  | nil =>
    have c1 : ¬ p + (u.length : Int) < (t.length : Int) := by simp at hl; omega
    rw [decide_eq_false c1]
    refine iteF (iteF ?_)
    refine ⟨_, rfl, ?_⟩
    have e : (spn pr n l).1.length = u.length := by rw [es]; cases m <;> simp [spn]
    rw [← e]
    exact q
  | cons c r =>
    have c1 : p + (u.length : Int) < (t.length : Int) := by simp at hl; omega
    rw [decide_eq_true c1]
    refine iteT ?_
    refine ⟨_, rfl, _, rfl, _, _, rfl, rfl, _, rfl, _, _, rfl, rfl, _, rfl, ?_⟩
    cases m with
    | zero =>
      have c2 : ¬ p + (u.length : Int) - p < (n : Int) := by omega
      rw [decide_eq_false c2]
      refine iteF (iteF ?_)
      refine ⟨_, rfl, ?_⟩
      have e : (spn pr n l).1.length = u.length := by rw [es]; simp [spn]
      rw [← e]
      exact q
    | succ m =>
      have c2 : p + (u.length : Int) - p < (n : Int) := by omega
      rw [decide_eq_true c2]
      refine iteT ?_
      refine ⟨_, rfl, _, rfl, _, _, _, rfl, rfl, hp.line, hq.get, _, rfl, _, _, rfl, rfl, _, rfl, ?_⟩
      by_cases c3 : pr c = true
      · rw [decide_eq_true ((hz c).mpr c3)]
        refine iteT ?_
        refine ⟨_, fun _ _ h => h, _, rfl, _, _, rfl, rfl, m, Nat.lt_succ_self m, rfl, u ++ [c], r, by rw [el, List.append_assoc]; rfl, ?_, ?_, ?_⟩
        · rw [List.length_append]
          show _ = [some (V.str t), some (V.int p), some (V.str z), some (V.int n), some (V.int (p + ((u.length + 1 : Nat) : Int)))]
          have e : p + (u.length : Int) + 1 = p + ((u.length + 1 : Nat) : Int) := by omega
          rw [← e]
          rfl
        · rw [List.length_append]
          show u.length + 1 + m = n
          omega
        · rw [es, spn_step c3, List.append_assoc]
          rfl
      · rw [decide_eq_false (fun h => c3 ((hz c).mp h))]
        refine iteF ?_
        refine ⟨_, rfl, ?_⟩
        have e : (spn pr n l).1.length = u.length := by rw [es]; simp [spn, c3]
        rw [← e]
        exact q
/-! ### read_number -/
abbrev s_read_number : Stmt := top 16
abbrev N_read_number : List Str := ["text", "place", "end"]
theorem sc_read_number : FnScope N_read_number ["text", "place"] (defScope s_read_number) := ⟨rfl, rfl, rfl, by decide +kernel, rfl, by decide +kernel, by decide +kernel⟩
/-- a new tuple of a value and the place behind it -/
def Gave (H : Hp) (Q : VK) (t : Str) (d : D) (l : List Nat) : Prop := ∀ (a : Addr) (e : Int) (H' : Hp), Same H H' → At t e l → H' a = some (.tup [av d, .int e]) → Q (.ref a) H'
def spNum : Sp := fun vs H Q _ => ∃ (t : Str) (p : Int) (c : Nat) (r : List Nat), vs = [.str t, .int p] ∧ At t p (c :: r) ∧ isDig c = true ∧ Gave H Q t (numAt (c :: r)).1 (numAt (c :: r)).2
theorem allDig {w : List Nat} (h : ∀ c ∈ w, isDig c = true) : NumText.AllDigits w := fun c hc => by
  have q := h c hc
  simp [isDig] at q
  exact q
theorem val_eq (w : List Nat) : val w = NumText.digitsVal w := rfl
theorem ok_read_number {f fE : Addr} {fd fdE : FuncData} (F : Fun K "read_number" "read_number" s_read_number f fd) (T : Tx w K mg) (G_end_of : Cal P w K mg base CX0 "end_of" 1 fE fdE ["text", "place", "signs", "most"] spEnd) :
    FnOk P w K mg base CX0 2 f fd ["text", "place"] spNum := by
  refine F.ok sc_read_number (fun vs H Q E h => ?_) (fun cdv A outer s H vs Q E hr h => ?_)
  · obtain ⟨t, p, c, r, rfl, _⟩ := h
    rfl
  obtain ⟨t, p, c, r, rfl, hp, hc, q⟩ := h
  refine ⟨_, (pss_cons (ps_if (pt_cmpR op_eq (pe_ix ix_str (pv 0) (pv 1) (fun _ _ => rfl)) pe_str (nomark _)) (pss_one (ps_ret (pe_tup (pa_cons pe_int (pa_cons (pe_op op_add (pv 1) pe_int) pa_nil))))) pss_nil)
      (pss_cons (ps_set (i := 2) sc_read_number.nd rfl (.inl rfl) (pe_c G_end_of (hr.mono (by decide)) (pa_cons (pv 0) (pa_cons (pv 1) (pa_cons (pe_globS T.mgDig) (pa_cons (pe_globI T.mgMD) pa_nil))))))
      (pss_one (ps_ret (pe_tup (pa_cons (pe_callTy (call_int_sgn T.nd) (by rfl) T.b_int (by decide +kernel) (pa_cons (pe_slice sl_str (pv 0) (po_some (pv 1)) (po_some (pv 2))) pa_nil)) (pa_cons (pv 2) pa_nil))))))), ?_⟩
  refine ⟨_, rfl, _, rfl, _, _, _, rfl, rfl, hp.line, hp.get, rfl, _, rfl, ?_⟩
  have e0 : decide (V.str ⟨#[c]⟩ = V.str "0") = decide (c = 48) := sign_eq c 48
  rw [e0]
  by_cases h0 : c = 48
  · rw [decide_eq_true h0]
    refine iteT ?_
    refine ⟨_, rfl, _, _, rfl, rfl, (by show 2 ≤ sizeLine; decide), fun a ha => ?_⟩
    have en : numAt (c :: r) = (.int 0, r) := by subst h0; rfl
    rw [en] at q
    exact q a (p + 1) _ (Same.new ha) hp.step upd_same
  · rw [decide_eq_false h0]
    refine iteF ?_
    refine ⟨_, rfl, _, rfl, t, p, c :: r, _, 4000, isDig, rfl, hp, mem_dig, ?_⟩
    have en : numAt (c :: r) = (.int (val (spn isDig 4000 (c :: r)).1), (spn isDig 4000 (c :: r)).2) := by
      unfold numAt
      rw [if_neg (by simpa using h0)]
    rw [en] at q
    have ea := spn_app isDig 4000 (c :: r)
    have hd := spn_all isDig 4000 (c :: r)
    have hm := spn_max isDig 4000 (c :: r)
    have hne : (spn isDig 4000 (c :: r)).1 ≠ [] := by rw [spn_step hc]; exact List.cons_ne_nil _ _
    have hp' : At t p ((spn isDig 4000 (c :: r)).1 ++ (spn isDig 4000 (c :: r)).2) := by rw [ea]; exact hp
    generalize (spn isDig 4000 (c :: r)).1 = u at *
    generalize (spn isDig 4000 (c :: r)).2 = v at *
    refine ⟨_, rfl, _, rfl, _, rfl, _, rfl, _, rfl, t, rfl, hp.line, ?_⟩
    rw [hp'.cut]
    refine ⟨_, (val u : Int), rfl, ?_, ?_, ?_, ?_⟩
    · show u.toArray.size ≤ sizeLine
      rw [List.size_toArray]
      exact Nat.le_trans hm (by decide)
    · intro d hd'
      exact .inr (allDig hd d (by simpa using hd'))
    · refine PySem.intText_digits (x := ⟨u.toArray⟩) (by simpa using allDig hd) (by simpa using hne) ?_ |>.trans ?_
      · show u.toArray.size ≤ 4300
        rw [List.size_toArray]
        omega
      · simp [val_eq]
    · refine ⟨_, rfl, (by show 2 ≤ sizeLine; decide), fun a ha => ?_⟩
      exact q a _ _ (Same.new ha) hp'.app upd_same
/-! ### read_word -/
abbrev s_read_word : Stmt := top 15
abbrev N_read_word : List Str := ["text", "place", "end", "word"]
theorem sc_read_word : FnScope N_read_word ["text", "place"] (defScope s_read_word) := ⟨rfl, rfl, rfl, by decide +kernel, rfl, by decide +kernel, by decide +kernel⟩
def spWord : Sp := fun vs H Q _ => ∃ (t : Str) (p : Int) (c : Nat) (r : List Nat), vs = [.str t, .int p] ∧ At t p (c :: r) ∧ isLet c = true ∧ Gave H Q t (wordVal (spn isSig 12 (c :: r)).1) (spn isSig 12 (c :: r)).2
theorem ok_read_word {f fE : Addr} {fd fdE : FuncData} (F : Fun K "read_word" "read_word" s_read_word f fd) (T : Tx w K mg) (G_end_of : Cal P w K mg base CX0 "end_of" 1 fE fdE ["text", "place", "signs", "most"] spEnd) :
    FnOk P w K mg base CX0 2 f fd ["text", "place"] spWord := by
  refine F.ok sc_read_word (fun vs H Q E h => ?_) (fun cdv A outer s H vs Q E hr h => ?_)
  · obtain ⟨t, p, c, r, rfl, _⟩ := h
    rfl
  obtain ⟨t, p, c, r, rfl, hp, hc, q⟩ := h
  obtain ⟨d, es, n, hg, KD, hv⟩ := T.sp
  refine ⟨_, (pss_cons (ps_set (i := 2) sc_read_word.nd rfl (.inl rfl) (pe_c G_end_of (hr.mono (by decide)) (pa_cons (pv 0) (pa_cons (pv 1) (pa_cons (pe_globS T.mgSig) (pa_cons (pe_globI T.mgMS) pa_nil))))))
      (pss_cons (ps_set (i := 3) sc_read_word.nd rfl (.inl rfl) (pe_slice sl_str (pv 0) (po_some (pv 1)) (po_some (pv 2))))
      (pss_cons (ps_if (pt_cmpR (op_in_kd KD) (pv 3) (pe_glob (v := .ref d) rfl hg rfl) (by rfl)) (pss_one (ps_ret (pe_tup (pa_cons (pe_ix (ix_kd KD) (pe_glob (v := .ref d) rfl hg rfl) (pv 3) (fun _ _ => rfl)) (pa_cons (pv 2) pa_nil))))) pss_nil)
      (pss_one (ps_ret (pe_tup (pa_cons (pv 3) (pa_cons (pv 2) pa_nil)))))))), ?_⟩
  refine ⟨_, rfl, _, rfl, t, p, c :: r, _, 12, isSig, rfl, hp, mem_sig, ?_⟩
  have ea := spn_app isSig 12 (c :: r)
  have hp' : At t p ((spn isSig 12 (c :: r)).1 ++ (spn isSig 12 (c :: r)).2) := by rw [ea]; exact hp
  generalize (spn isSig 12 (c :: r)).1 = u at *
  generalize (spn isSig 12 (c :: r)).2 = v at *
  refine ⟨_, rfl, _, rfl, _, rfl, _, rfl, _, rfl, t, rfl, hp.line, ?_⟩
  rw [hp'.cut]
  refine ⟨_, rfl, ⟨u.toArray⟩, _, rfl, rfl, hv _, _, rfl, ?_⟩
  have es0 : spV ⟨u.toArray⟩ = spO (special? u) := by simp [spV]
  unfold wordVal at q
  cases e : special? u with
  | none =>
    rw [e] at es0 q
    rw [es0]
    refine iteF ?_
    refine ⟨_, rfl, _, rfl, (by show 2 ≤ sizeLine; decide), fun a ha => ?_⟩
    exact q a _ _ (Same.new ha) hp'.app upd_same
  | some s0 =>
    have hs : (∃ b, s0 = .bl b) ∨ s0 = .non := by
      unfold special? at e
      split at e
      · exact .inl ⟨true, (Option.some.inj e).symm⟩
      · split at e
        · exact .inl ⟨false, (Option.some.inj e).symm⟩
        · split at e
          · exact .inr (Option.some.inj e).symm
          · cases e
    rw [e] at es0 q
    rcases hs with ⟨b, rfl⟩ | rfl
    · have es1 : spV ⟨u.toArray⟩ = some (.bool b) := es0
      rw [es1]
      refine iteT ?_
      refine ⟨_, rfl, ⟨u.toArray⟩, _, .bl b, rfl, rfl, (hv _).trans (congrArg some es1), rfl, _, rfl, (by show 2 ≤ sizeLine; decide), fun a ha => ?_⟩
      exact q a _ _ (Same.new ha) hp'.app upd_same
    · have es1 : spV ⟨u.toArray⟩ = some .none := es0
      rw [es1]
      refine iteT ?_
      refine ⟨_, rfl, ⟨u.toArray⟩, _, .non, rfl, rfl, (hv _).trans (congrArg some es1), rfl, _, rfl, (by show 2 ≤ sizeLine; decide), fun a ha => ?_⟩
      exact q a _ _ (Same.new ha) hp'.app upd_same
/-! ### read_sign -/
abbrev s_read_sign : Stmt := top 17
abbrev N_read_sign : List Str := ["text", "place", "number", "end"]
theorem sc_read_sign : FnScope N_read_sign ["text", "place"] (defScope s_read_sign) := ⟨rfl, rfl, rfl, by decide +kernel, rfl, by decide +kernel, by decide +kernel⟩
def spSign : Sp := fun vs H Q _ => ∃ (t : Str) (p : Int) (c : Nat) (r : List Nat), vs = [.str t, .int p] ∧ At t p (c :: r) ∧ Gave H Q t (signAt r).1 (signAt r).2
theorem ok_read_sign {f fE : Addr} {fd fdE : FuncData} (F : Fun K "read_sign" "read_sign" s_read_sign f fd) (T : Tx w K mg) (G_read_number : Cal P w K mg base CX0 "read_number" 2 fE fdE ["text", "place"] spNum) :
    FnOk P w K mg base CX0 3 f fd ["text", "place"] spSign := by
  refine F.ok sc_read_sign (fun vs H Q E h => ?_) (fun cdv A outer s H vs Q E hr h => ?_)
  · obtain ⟨t, p, c, r, rfl, _⟩ := h
    rfl
  obtain ⟨t, p, c, r, rfl, hp, q⟩ := h
  refine ⟨_, (pss_cons (ps_if (PW.pt (pw_and (pt_cmpR op_lt (pe_op op_add (pv 1) pe_int) (pe_callB call_len_str (by rfl) T.b_len (by decide +kernel) (pa_cons (pv 0) pa_nil)) (nomark _)) (pw_and1 (pt_cmpR op_in_sign (pe_ix ix_str (pv 0) (pe_op op_add (pv 1) pe_int) (fun _ _ => rfl)) pe_str (by rfl))))) (pss_cons (ps_asg (pe_c G_read_number (hr.mono (by decide)) (pa_cons (pv 0) (pa_cons (pe_op op_add (pv 1) pe_int) pa_nil))) (pg_tup rfl (pgs_cons (pg_name (i := 2) sc_read_sign.nd rfl (.inl rfl)) (pgs_cons (pg_name (i := 3) sc_read_sign.nd rfl (.inl rfl)) pgs_nil))))
      (pss_one (ps_ret (pe_tup (pa_cons (pe_un un_neg (pv 2)) (pa_cons (pv 3) pa_nil)))))) pss_nil)
      (pss_one (ps_ret (pe_tup (pa_cons pe_str (pa_cons (pe_op op_add (pv 1) pe_int) pa_nil)))))), ?_⟩
  have hq := hp.step
  have hl := hq.len
  have last : ∀ (d : D), signAt r = (.str [], r) → (tRet (tTup (tCons (tC (.str "")) (tCons (tOp (rI0 fun i j => .int (i + j)) (tVar 1) (tC (.int 1))) tNil)))) { nx := fun _ H' => Q .non H', rt := Q } (start N_read_sign [.str t, .int p]) H := by
    intro _ e
    rw [e] at q
    refine ⟨_, rfl, _, _, rfl, rfl, (by show 2 ≤ sizeLine; decide), fun a ha => ?_⟩
    exact q a _ _ (Same.new ha) hq upd_same
  refine ⟨_, rfl, _, _, rfl, rfl, _, rfl, _, rfl, hp.line, _, _, rfl, rfl, _, rfl, ?_⟩
  cases r with
  | nil =>
    have c1 : ¬ p + 1 < (t.length : Int) := by simp at hl; omega
    rw [decide_eq_false c1]
    refine iteF (iteF ?_)
    exact last .non rfl
  | cons c2 r =>
    have c1 : p + 1 < (t.length : Int) := by simp at hl; omega
    rw [decide_eq_true c1]
    refine iteT ?_
    refine ⟨_, rfl, _, rfl, _, _, rfl, rfl, _, _, _, rfl, rfl, hp.line, hq.get, _, _, rfl, rfl, _, rfl, ?_⟩
    by_cases h2 : isNz c2 = true
    · rw [decide_eq_true ((mem_nz c2).mpr h2)]
      refine iteT ?_
      have hd : isDig c2 = true := by simp [isNz, isDig] at h2 ⊢; omega
      have e1 : signAt (c2 :: r) = (neg (numAt (c2 :: r)).1, (numAt (c2 :: r)).2) := by simp [signAt, h2]
      have h48 : c2 ≠ 48 := by simp [isNz] at h2; omega
      have e2 : (numAt (c2 :: r)).1 = .int (val (spn isDig 4000 (c2 :: r)).1) := by
        unfold numAt
        rw [if_neg (by simpa using h48)]
      rw [e1] at q
      refine ⟨_, rfl, _, rfl, _, _, rfl, rfl, t, p + 1, c2, r, rfl, hq, hd, fun a e H' g he ha => ?_⟩
      rw [e2] at ha q
      refine ⟨a, _, rfl, SqT.of ha, rfl, _, _, rfl, _, _, rfl, rfl, ?_⟩
      refine ⟨_, rfl, _, rfl, _, rfl, (by show 2 ≤ sizeLine; decide), fun b hb => ?_⟩
      exact q b _ _ (g.trans (Same.new hb)) he upd_same
    · rw [decide_eq_false (fun h => h2 ((mem_nz c2).mp h))]
      refine iteF ?_
      exact last .non (by simp [signAt, h2])
end
end K75
end
section
namespace K75
open PySem L2
/-! ### BadText -/
abbrev s_bt : Stmt := inClass (top 3) 0
structure BT (K : PySem.W.Frag) (mg : Str → Option Value) (C fI : Addr) (fdI : FuncData) : Prop where
  gC : mg "BadText" = some (.ref C)
  oex : OexC K C
  no : PySem.W.findIn K (.ref C) "place" = some none
  iC : PySem.W.findIn K (.ref C) "__init__" = some (some (.ref fI))
  tI : PySem.W.typeIn K (.ref fI) = some (.type "function")
  F : Fun K "__init__" "BadText.__init__" s_bt fI fdI
  b : Binds K fdI ["self", "place"] []
  xf : XfC K C
  exc : ExcC K C
  te : PySem.W.exmOne K (.ref C) (.ref C) = some true
def spInitBT (C : Addr) : Sp := fun vs H Q _ => ∃ (a : Addr) (v : V), vs = [.ref a, v] ∧ H a = some (exo a C none) ∧
  ∀ dx, H dx = none → dx ≠ a → Q .non (upd (upd H dx (exd dx [("place", v)])) a (exo a C (some dx)))
section
variable {P : Program} {w : World} {K : PySem.W.Frag} {mg : Str → Option Value} {base : Heap}
theorem sc_bt : FnScope ["self", "place"] ["self", "place"] (defScope s_bt) := ⟨rfl, rfl, rfl, by decide +kernel, rfl, by decide +kernel, by decide +kernel⟩
theorem ok_bt {C fI : Addr} {fdI : FuncData} (B : BT K mg C fI fdI) : FnOk P w K mg base CX0 1 fI fdI ["self", "place"] (spInitBT C) := by
  refine B.F.ok sc_bt (fun vs H Q E h => ?_) (fun cdv A outer s H vs Q E hr h => ?_)
  · obtain ⟨a, v, rfl, _⟩ := h
    rfl
  obtain ⟨a, v, rfl, ha, q⟩ := h
  refine ⟨_, pss_one (ps_ost (pv 0) (pv 1)), ?_⟩
  exact ⟨_, rfl, _, rfl, a, C, rfl, B.oex, B.no, .inl ⟨ha, fun dx hd ne => q dx hd ne⟩⟩
/-- an error of BadText at a place -/
def Bad (C : Addr) (H : Hp) (E : XK) (p : Int) : Prop := ∀ (d : Addr) (H' : Hp), Same H H' → H' d = some (.xd [(("place" : Str), .int p)]) → E (.ref C) (some d) H'
theorem bad_mk {C : Addr} {H1 H2 : Hp} {E : XK} {p : Int} (s : Same H1 H2) (h : Bad C H1 E p) : Bad C H2 E p := fun d H' g e => h d H' (s.trans g) e
/-- BadText(p) is made, then raised -/
theorem raise_bt {C : Addr} {H : Hp} {E : XK} {p : Int} (h : Bad C H E p) : [V.int p].length ≤ 1000 ∧ ∀ a, H a = none → spInitBT C (.ref a :: ([V.int p] ++ [])) (upd H a (exo a C none))
    (fun v H2 => v = .non ∧ ∃ (d : Addr) (fs : List (Str × V)), H2 a = some (exo a C (some d)) ∧ H2 d = some (exd d fs) ∧ H d = none ∧ E (.ref C) (some d) (upd (del H2 a) d (.xd fs))) (fun _ _ _ => False) := by
  refine ⟨(by show 1 ≤ 1000; decide), fun a ha => ⟨a, .int p, rfl, upd_same, fun dx hd ne => ⟨rfl, dx, [(("place" : Str), .int p)], upd_same, ?_, ?_, ?_⟩⟩⟩
  · rw [upd_ne ne, upd_same]
  · rw [upd_ne ne] at hd
    exact hd
  · have hd' : H dx = none := by rw [upd_ne ne] at hd; exact hd
    refine h dx _ (fun b o e => ?_) upd_same
    have nb : b ≠ a := ne_of_none e ha
    have nd : b ≠ dx := ne_of_none e hd'
    rw [upd_ne nd, del_ne nb, upd_ne nb, upd_ne nd, upd_ne nb]
    exact e
/-! ### read_piece -/
abbrev s_read_piece : Stmt := top 18
abbrev N_read_piece : List Str := ["text", "place"]
theorem sc_read_piece : FnScope N_read_piece ["text", "place"] (defScope s_read_piece) := ⟨rfl, rfl, rfl, by decide +kernel, rfl, by decide +kernel, by decide +kernel⟩
def spPiece (C : Addr) : Sp := fun vs H Q E => ∃ (t : Str) (p : Int) (l : List Nat), vs = [.str t, .int p] ∧ At t p l ∧
  match piece l with
  | some (d, r) => Gave H Q t d r
  | none => Bad C H E p
theorem ok_read_piece {f fW fN fS C fI : Addr} {fd fdW fdN fdS fdI : FuncData} (F : Fun K "read_piece" "read_piece" s_read_piece f fd) (T : Tx w K mg) (B : BT K mg C fI fdI)
    (G_read_word : Cal P w K mg base CX0 "read_word" 2 fW fdW ["text", "place"] spWord) (G_read_number : Cal P w K mg base CX0 "read_number" 2 fN fdN ["text", "place"] spNum) (G_read_sign : Cal P w K mg base CX0 "read_sign" 3 fS fdS ["text", "place"] spSign) :
    FnOk P w K mg base (L2.CX P w) 4 f fd ["text", "place"] (spPiece C) := by
  refine F.okX sc_read_piece (fun vs H Q E h => ?_) (fun cdv A outer s H vs Q E hr h => ?_)
  · obtain ⟨t, p, l, rfl, _⟩ := h
    rfl
  obtain ⟨t, p, l, rfl, hp, q⟩ := h
  have GI : FnOk P w K mg base CX0 1 fI fdI ["self", "place"] (spInitBT C) := ok_bt B
  refine ⟨_, (pss_cons (ps_if (pt_cmpR op_ge (pv 1) (pe_callB call_len_str (by rfl) T.b_len (by decide +kernel) (pa_cons (pv 0) pa_nil)) (nomark _)) (pss_one (ps_raise rfl (takes_of rfl rfl rfl rfl) (pmk_oex B.oex B.iC B.tI GI (hr.mono (by decide)) B.b .nil pass0 rfl B.gC (pa_cons (pe_callB call_len_str (by rfl) T.b_len (by decide +kernel) (pa_cons (pv 0) pa_nil)) pa_nil)))) pss_nil)
      (pss_cons (ps_if (pt_cmpR op_in_sign (pe_ix ix_str (pv 0) (pv 1) (fun _ _ => rfl)) (pe_globS T.mgLet) (by rfl)) (pss_one (ps_ret (pe_c G_read_word (hr.mono (by decide)) (pa_cons (pv 0) (pa_cons (pv 1) pa_nil))))) pss_nil)
      (pss_cons (ps_if (pt_cmpR op_in_sign (pe_ix ix_str (pv 0) (pv 1) (fun _ _ => rfl)) (pe_globS T.mgDig) (by rfl)) (pss_one (ps_ret (pe_c G_read_number (hr.mono (by decide)) (pa_cons (pv 0) (pa_cons (pv 1) pa_nil))))) pss_nil)
      (pss_cons (ps_if (pt_cmpR op_eq (pe_ix ix_str (pv 0) (pv 1) (fun _ _ => rfl)) pe_str (nomark _)) (pss_one (ps_ret (pe_c G_read_sign (hr.mono (by decide)) (pa_cons (pv 0) (pa_cons (pv 1) pa_nil))))) pss_nil)
      (pss_one (ps_raise rfl (takes_of rfl rfl rfl rfl) (pmk_oex B.oex B.iC B.tI GI (hr.mono (by decide)) B.b .nil pass0 rfl B.gC (pa_cons (pv 1) pa_nil)))))))), ?_⟩
  have hl := hp.len
  refine ⟨_, rfl, _, rfl, _, rfl, hp.line, _, _, rfl, rfl, _, rfl, ?_⟩
  cases l with
  | nil =>
    have e1 : p = (t.length : Int) := by simp at hl; omega
    rw [decide_eq_true (by omega)]
    refine iteT ?_
    refine ⟨_, rfl, _, rfl, hp.line, ?_⟩
    rw [← e1]
    exact raise_bt q
  | cons c r =>
    have c1 : ¬ (t.length : Int) ≤ p := by simp at hl; omega
    rw [decide_eq_false c1]
    refine iteF ?_
    rw [piece_cons] at q
    refine ⟨_, rfl, _, rfl, _, _, _, rfl, rfl, hp.line, hp.get, _, _, rfl, rfl, _, rfl, ?_⟩
    by_cases h1 : isLet c = true
    · rw [decide_eq_true ((mem_let c).mpr h1)]
      refine iteT ?_
      rw [if_pos h1] at q
      exact ⟨_, rfl, _, rfl, t, p, c, r, rfl, hp, h1, q⟩
    rw [decide_eq_false (fun h => h1 ((mem_let c).mp h))]
    refine iteF ?_
    rw [if_neg h1] at q
    refine ⟨_, rfl, _, rfl, _, _, _, rfl, rfl, hp.line, hp.get, _, _, rfl, rfl, _, rfl, ?_⟩
    by_cases h2 : isDig c = true
    · rw [decide_eq_true ((mem_dig c).mpr h2)]
      refine iteT ?_
      rw [if_pos h2] at q
      exact ⟨_, rfl, _, rfl, t, p, c, r, rfl, hp, h2, q⟩
    rw [decide_eq_false (fun h => h2 ((mem_dig c).mp h))]
    refine iteF ?_
    rw [if_neg h2] at q
    refine ⟨_, rfl, _, rfl, _, _, _, rfl, rfl, hp.line, hp.get, rfl, _, rfl, ?_⟩
    have e0 : decide (V.str ⟨#[c]⟩ = V.str "-") = decide (c = 45) := sign_eq c 45
    rw [e0]
    by_cases h3 : c = 45
    · rw [decide_eq_true h3]
      refine iteT ?_
      rw [if_pos h3] at q
      exact ⟨_, rfl, _, rfl, t, p, c, r, rfl, hp, q⟩
    rw [decide_eq_false h3]
    refine iteF ?_
    rw [if_neg h3] at q
    exact ⟨_, rfl, raise_bt q⟩
end
end K75
end
section
namespace K75
open PySem L2
/-! ### the rows that are open -/
inductive Stk (H : Hp) : List Addr → List (List D) → Prop where
  | nil : Stk H [] []
  | cons {a : Addr} {as : List Addr} {xs : List V} {row : List D} {rows : List (List D)} (h : H a = some (.lst xs)) (r : RpAll H xs row) (n : a ∉ as) (s : Stk H as rows) : Stk H (a :: as) (row :: rows)
theorem Stk.len {H : Hp} : ∀ {as : List Addr} {rows : List (List D)}, Stk H as rows → as.length = rows.length
  | _, _, .nil => rfl
  | _, _, .cons _ _ _ s => congrArg (· + 1) s.len
theorem Stk.mono {H H' : Hp} (kt : ∀ a xs, H a = some (.tup xs) → H' a = some (.tup xs)) : ∀ {as : List Addr} {rows : List (List D)}, (∀ a ∈ as, ∀ xs, H a = some (.lst xs) → H' a = some (.lst xs)) → Stk H as rows → Stk H' as rows
  | _, _, _, .nil => .nil
  | _, _, k, .cons h r n s => .cons (k _ (List.mem_cons_self ..) _ h) (r.mono kt) n (Stk.mono kt (fun a ha => k a (List.mem_cons_of_mem _ ha)) s)
theorem kt_wr {H : Hp} {p : Addr} {o : HO} {ys : List V} (hp : H p = some (.lst ys)) : ∀ a xs, H a = some (.tup xs) → upd H p o a = some (.tup xs) := fun a xs e => by
  rw [upd_ne (ne_of e hp (by intro z; cases z))]
  exact e
theorem Rp.wr {H : Hp} {p : Addr} {o : HO} {ys : List V} {v : V} {d : D} (hp : H p = some (.lst ys)) (h : Rp H v d) : Rp (upd H p o) v d := h.mono (kt_wr hp)
theorem RpAll.wr {H : Hp} {p : Addr} {o : HO} {ys : List V} {v : List V} {d : List D} (hp : H p = some (.lst ys)) (h : RpAll H v d) : RpAll (upd H p o) v d := h.mono (kt_wr hp)
theorem Stk.wr {H : Hp} {p : Addr} {o : HO} {ys : List V} {as : List Addr} {rows : List (List D)} (hp : H p = some (.lst ys)) (hn : p ∉ as) (s : Stk H as rows) : Stk (upd H p o) as rows :=
  s.mono (kt_wr hp) fun a ha xs e => by
    rw [upd_ne (show a ≠ p from fun z => hn (by rw [← z]; exact ha))]
    exact e
structure Rows (H0 H : Hp) (R : Addr) (as : List Addr) (rows : List (List D)) : Prop where
  at_ : H R = some (.lst (as.reverse.map V.ref))
  stk : Stk H as rows
  nr : R ∉ as
  fresh : ∀ a ∈ R :: as, H0 a = none
  same : Same H0 H
theorem Rows.len {H0 H : Hp} {R : Addr} {as : List Addr} {rows : List (List D)} (h : Rows H0 H R as rows) : (as.reverse.map V.ref).length = rows.length := by
  rw [List.length_map, List.length_reverse, h.stk.len]
theorem Rows.ext {H0 H H' : Hp} {R : Addr} {as : List Addr} {rows : List (List D)} (h : Rows H0 H R as rows) (s : Same H H') : Rows H0 H' R as rows :=
  ⟨s _ _ h.at_, h.stk.mono (fun a xs e => s a _ e) (fun a _ xs e => s a _ e), h.nr, h.fresh, h.same.trans s⟩
/-- an object that was not there at first is written -/
theorem same_wr {H0 H : Hp} {p : Addr} {o : HO} (hp : H0 p = none) (s : Same H0 H) : Same H0 (upd H p o) := fun b u e => by
  rw [upd_ne (ne_of_none e hp)]
  exact s b u e
theorem Rows.push {H0 H : Hp} {R p : Addr} {as : List Addr} {rows : List (List D)} (h : Rows H0 H R as rows) (hp : H p = none) : Rows H0 (upd (upd H p (.lst [])) R (.lst (as.reverse.map V.ref ++ [.ref p]))) R (p :: as) ([] :: rows) := by
  have hR := h.at_
  have g := h.ext (Same.new (o := .lst []) hp)
  have npR : p ≠ R := (ne_of_none hR hp).symm
  have npa : p ∉ as := fun hm => by
    have : ∀ {as : List Addr} {rows : List (List D)}, Stk H as rows → p ∈ as → False := by
      intro as rows s
      induction s with
      | nil => intro hm; cases hm
      | cons h' _ _ _ ih =>
        intro hm
        rcases List.mem_cons.mp hm with e | hm
        · subst e
          rw [h'] at hp
          cases hp
        · exact ih hm
    exact this h.stk hm
  refine ⟨?_, ?_, ?_, ?_, same_wr (h.fresh R (List.mem_cons_self ..)) g.same⟩
  · rw [upd_same, List.reverse_cons, List.map_append]
    rfl
  · refine .cons (xs := []) ?_ .nil npa (g.stk.wr g.at_ h.nr)
    rw [upd_ne npR, upd_same]
  · intro hm
    rcases List.mem_cons.mp hm with e | hm
    · exact npR e.symm
    · exact h.nr hm
  · intro a ha
    rcases List.mem_cons.mp ha with rfl | ha
    · exact h.fresh _ (List.mem_cons_self ..)
    · rcases List.mem_cons.mp ha with rfl | ha
      · exact h.same.free hp
      · exact h.fresh a (List.mem_cons_of_mem _ ha)
theorem Rows.last {H0 H : Hp} {R a : Addr} {as : List Addr} {row : List D} {rows : List (List D)} (h : Rows H0 H R (a :: as) (row :: rows)) :
    ((a :: as).reverse.map V.ref)[((a :: as).reverse.map V.ref).length - 1]? = some (.ref a) ∧ ((a :: as).reverse.map V.ref).dropLast = as.reverse.map V.ref := by
  rw [List.reverse_cons, List.map_append]
  constructor
  · simp
  · simp
theorem Rows.pop {H0 H : Hp} {R a : Addr} {as : List Addr} {row : List D} {rows : List (List D)} (h : Rows H0 H R (a :: as) (row :: rows)) : Rows H0 (upd H R (.lst (as.reverse.map V.ref))) R as rows := by
  have hs := h.stk
  cases hs with
  | cons h' r n s =>
    refine ⟨upd_same, s.wr h.at_ fun hm => h.nr (List.mem_cons_of_mem _ hm), fun hm => h.nr (List.mem_cons_of_mem _ hm), fun b hb => ?_, same_wr (h.fresh R (List.mem_cons_self ..)) h.same⟩
    rcases List.mem_cons.mp hb with rfl | hb
    · exact h.fresh _ (List.mem_cons_self ..)
    · exact h.fresh b (List.mem_cons_of_mem _ (List.mem_cons_of_mem _ hb))
theorem Rows.top {H0 H : Hp} {R a : Addr} {as : List Addr} {row : List D} {rows : List (List D)} (h : Rows H0 H R (a :: as) (row :: rows)) : ∃ xs, H a = some (.lst xs) ∧ RpAll H xs row := by
  have hs := h.stk
  cases hs with
  | cons h' r n s => exact ⟨_, h', r⟩
theorem Rows.app {H0 H : Hp} {R a : Addr} {as : List Addr} {row : List D} {rows : List (List D)} {xs : List V} {v : V} {d : D} (h : Rows H0 H R (a :: as) (row :: rows)) (ha : H a = some (.lst xs)) (hx : RpAll H xs row) (hv : Rp H v d) :
    Rows H0 (upd H a (.lst (xs ++ [v]))) R (a :: as) ((row ++ [d]) :: rows) := by
  have hs := h.stk
  cases hs with
  | cons h' r n s =>
    refine ⟨?_, .cons upd_same (RpAll.snoc (hv.wr ha) (hx.wr ha)) n (s.wr ha n), h.nr, h.fresh, same_wr (h.fresh a (List.mem_cons_of_mem _ (List.mem_cons_self ..))) h.same⟩
    rw [upd_ne (show R ≠ a from fun e => h.nr (by rw [e]; exact List.mem_cons_self ..))]
    exact h.at_
section
variable {P : Program} {w : World} {K : PySem.W.Frag} {mg : Str → Option Value} {base : Heap}
abbrev s_read_plain : Stmt := top 20
abbrev N_read_plain : List Str := ["text", "rows", "place", "value"]
theorem sc_read_plain : FnScope N_read_plain ["text"] (defScope s_read_plain) := ⟨rfl, rfl, rfl, by decide +kernel, rfl, by decide +kernel, by decide +kernel⟩
/-- no row is longer than what was read -/
def Bd (rows : List (List D)) (l : List Nat) : Prop := ∀ row ∈ rows, row.length + l.length ≤ 1000000
theorem Bd.mono {rows : List (List D)} {l l' : List Nat} (h : Bd rows l) (e : l'.length ≤ l.length) : Bd rows l' := fun row hr => Nat.le_trans (Nat.add_le_add_left e _) (h row hr)
theorem Bd.push {rows : List (List D)} {l : List Nat} (h : Bd rows l) (e : l.length ≤ 1000000) : Bd ([] :: rows) l := fun row hr => by
  rcases List.mem_cons.mp hr with rfl | hr
  · simpa using e
  · exact h row hr
theorem Bd.tail {row : List D} {rows : List (List D)} {l : List Nat} (h : Bd (row :: rows) l) : Bd rows l := fun r hr => h r (List.mem_cons_of_mem _ hr)
theorem Bd.app {row : List D} {rows : List (List D)} {d : D} {c : Nat} {l : List Nat} (h : Bd (row :: rows) (c :: l)) : Bd ((row ++ [d]) :: rows) l := fun r hr => by
  rcases List.mem_cons.mp hr with rfl | hr
  · have q := h row (List.mem_cons_self ..)
    simp only [List.length_cons, List.length_append, List.length_nil] at q ⊢
    omega
  · have q := h r (List.mem_cons_of_mem _ hr)
    simp only [List.length_cons] at q
    omega
/-- what reading ends with -/
def Fin (C : Addr) (H : Hp) (Q : VK) (E : XK) (t : Str) : Res → Prop
  | .ok d => ∀ (v : V) (H' : Hp), Same H H' → Rp H' v d → Q v H'
  | .bad s => Bad C H E ((t.length : Int) - s.length)
def spRead (C : Addr) : Sp := fun vs H Q E => ∃ t : Str, vs = [.str t] ∧ t.length ≤ 1000000 ∧ Fin C H Q E t (parse t.cps.toList)
theorem at_dec {l : List Nat} {c : Nat} : decide (l.head? = some c) = true ↔ ∃ r, l = c :: r := by
  cases l with
  | nil => simp
  | cons a r => simp
theorem ok_read_plain {f fP fA C fI : Addr} {fd fdP fdA fdI : FuncData} (F : Fun K "read_plain" "read_plain" s_read_plain f fd) (T : Tx w K mg) (B : BT K mg C fI fdI)
    (G_read_piece : Cal P w K mg base (L2.CX P w) "read_piece" 4 fP fdP ["text", "place"] (spPiece C)) (G_is_at : Cal P w K mg base CX0 "is_at" 1 fA fdA ["text", "place", "sign"] spAt) :
    FnOk P w K mg base (L2.CX P w) 5 f fd ["text"] (spRead C) := by
  refine F.okX sc_read_plain (fun vs H Q E h => ?_) (fun cdv A outer s H0 vs Q E hr h => ?_)
  · obtain ⟨t, rfl, _⟩ := h
    rfl
  obtain ⟨t, rfl, ht, q⟩ := h
  have GI : FnOk P w K mg base CX0 1 fI fdI ["self", "place"] (spInitBT C) := ok_bt B
  refine ⟨_, (pss_cons (ps_set (i := 1) sc_read_plain.nd rfl (.inl rfl) (pe_lst pa_nil))
      (pss_cons (ps_set (i := 2) sc_read_plain.nd rfl (.inl rfl) pe_int)
      (pss_one (ps_while (passes_of rfl) (pt_val pe_bl) (C8.pss_cut (ps_if (PW.pt (pw_and (pt_val (pe_c G_is_at (hr.mono (by decide)) (pa_cons (pv 0) (pa_cons (pv 2) (pa_cons pe_str pa_nil))))) (pw_and1 (pt_cmpR op_lt (pe_callB call_len_seq (by rfl) T.b_len (by decide +kernel) (pa_cons (pv 1) pa_nil)) (pe_globI T.mgML) (nomark _))))) (pss_cons (ps_expr (pe_bm PySem.F.plainAttrs_list PySem.F.slot_list_append PySem.F.type_list_append mt_append (pv 1) (pa_cons (pe_lst pa_nil) pa_nil)))
      (pss_cons (ps_set (i := 2) sc_read_plain.nd rfl (.inl rfl) (pe_op op_add (pv 2) pe_int))
      (pss_cons (ps_if (pt_not (pt_val (pe_c G_is_at (hr.mono (by decide)) (pa_cons (pv 0) (pa_cons (pv 2) (pa_cons pe_str pa_nil)))))) (pss_one (ps_continue)) pss_nil)
      (pss_cons (ps_expr (pe_bm0 PySem.F.plainAttrs_list PySem.F.slot_list_pop PySem.F.type_list_pop mt_pop (pv 1)))
      (pss_cons (ps_set (i := 3) sc_read_plain.nd rfl (.inl rfl) (pe_tup pa_nil))
      (pss_one (ps_set (i := 2) sc_read_plain.nd rfl (.inl rfl) (pe_op op_add (pv 2) pe_int)))))))) (pss_one (ps_asg (pe_call G_read_piece.fn (hr.mono (by decide)) rfl G_read_piece.g G_read_piece.kp G_read_piece.b .nil (passes_call (takes_of rfl rfl rfl rfl) (fun _ _ _ _ h => h)) (pa_cons (pv 0) (pa_cons (pv 2) pa_nil))) (pg_tup rfl (pgs_cons (pg_name (i := 3) sc_read_plain.nd rfl (.inl rfl)) (pgs_cons (pg_name (i := 2) sc_read_plain.nd rfl (.inl rfl)) pgs_nil))))))
      (C8.pss_cut (ps_while (passes_of rfl) (PW.pt (pw_and (pt_cmpR op_gt (pe_callB call_len_seq (by rfl) T.b_len (by decide +kernel) (pa_cons (pv 1) pa_nil)) pe_int (nomark _)) (pw_and1 (pt_val (pe_c G_is_at (hr.mono (by decide)) (pa_cons (pv 0) (pa_cons (pv 2) (pa_cons pe_str pa_nil)))))))) (pss_cons (ps_set (i := 3) sc_read_plain.nd rfl (.inl rfl) (pe_callTy call_tuple_of (by rfl) T.b_tuple (by decide +kernel) (pa_cons (pe_op op_cat (pe_bm0 PySem.F.plainAttrs_list PySem.F.slot_list_pop PySem.F.type_list_pop mt_pop (pv 1)) (pe_lst (pa_cons (pv 3) pa_nil))) pa_nil)))
      (pss_one (ps_set (i := 2) sc_read_plain.nd rfl (.inl rfl) (pe_op op_add (pv 2) pe_int)))))
      (pss_cons (ps_if (pt_cmpR op_eq (pe_callB call_len_seq (by rfl) T.b_len (by decide +kernel) (pa_cons (pv 1) pa_nil)) pe_int (nomark _)) (pss_cons (ps_if (pt_cmpR op_lt (pv 2) (pe_callB call_len_str (by rfl) T.b_len (by decide +kernel) (pa_cons (pv 0) pa_nil)) (nomark _)) (pss_one (ps_raise rfl (takes_of rfl rfl rfl rfl) (pmk_oex B.oex B.iC B.tI GI (hr.mono (by decide)) B.b .nil pass0 rfl B.gC (pa_cons (pv 2) pa_nil)))) pss_nil)
      (pss_one (ps_ret (pv 3)))) pss_nil)
      (pss_cons (ps_if (pt_not (pt_val (pe_c G_is_at (hr.mono (by decide)) (pa_cons (pv 0) (pa_cons (pv 2) (pa_cons pe_str pa_nil)))))) (pss_one (ps_raise rfl (takes_of rfl rfl rfl rfl) (pmk_oex B.oex B.iC B.tI GI (hr.mono (by decide)) B.b .nil pass0 rfl B.gC (pa_cons (pv 2) pa_nil)))) pss_nil)
      (pss_cons (ps_expr (pe_bm PySem.F.plainAttrs_list PySem.F.slot_list_append PySem.F.type_list_append mt_append (pe_ix ix_list (pv 1) (pe_un un_neg pe_int) (fun _ _ => rfl)) (pa_cons (pv 3) pa_nil)))
      (pss_one (ps_set (i := 2) sc_read_plain.nd rfl (.inl rfl) (pe_op op_add (pv 2) pe_int)))))))))))), ?_⟩
  refine ⟨(by show 0 ≤ sizeLine; decide), fun R hR => ?_⟩
  refine ⟨fun m σ H => ∃ (as : List Addr) (rows : List (List D)) (l : List Nat) (p : Int) (vo : Option V), σ = [some (.str t), some (.ref R), some (.int p), vo] ∧ Rows H0 H R as rows ∧ rows.length ≤ 60 ∧ Bd rows l ∧ At t p l ∧ l.length < m ∧ Fin C H0 Q E t (run m rows l),
    ⟨t.cps.toList.length + 1, [], [], t.cps.toList, 0, none, rfl, ⟨upd_same, .nil, by simp, fun a ha => ?_, Same.new hR⟩, by decide, (fun _ h => nomatch h), At.start ht, Nat.lt_succ_self _, q⟩, ?_⟩
  · have e : a = R := by simpa using ha
    rw [e]
    exact hR
  rintro m σ H ⟨as, rows, l, p, vo, rfl, hRw, h60, hb, hp, hm, q⟩
  cases m with
  | zero => exact absurd hm (Nat.not_lt_zero _)
  | succ m =>
  refine ⟨_, rfl, iteT ⟨_, fun _ _ h => h, ?_⟩⟩
  have h60' : rows.length < 1000 := by omega
  have hsz : rows.length < sizeLine := small1000 (by omega)
  -- behind the first if: a value is read; then the rest of the turn
  refine ⟨fun σ H => ∃ (as : List Addr) (rows : List (List D)) (l : List Nat) (p : Int) (v : V) (d : D), σ = [some (.str t), some (.ref R), some (.int p), some v] ∧ Rows H0 H R as rows ∧ rows.length ≤ 60 ∧ Bd rows l ∧ At t p l ∧ l.length < m + 1 ∧ Rp H v d ∧
    Fin C H0 Q E t (go m (aft (pops rows d l))), ?_, ?_⟩
  · -- the first if
    refine ⟨_, rfl, _, rfl, t, p, l, 40, rfl, hp, _, rfl, ?_⟩
    by_cases h40 : ∃ r, l = 40 :: r
    · obtain ⟨r, rfl⟩ := h40
      rw [show decide ((40 :: r : List Nat).head? = some 40) = true by simp]
      refine iteT ⟨_, rfl, _, _, rfl, .inl (SqL.of hRw.at_), _, _, rfl, rfl, _, rfl, ?_⟩
      rw [hRw.len]
      by_cases h6 : rows.length < 60
      · rw [decide_eq_true (show (rows.length : Int) < 60 by omega)]
        refine iteT ?_
        rw [run_go] at q
        refine ⟨_, rfl, .inl ⟨rfl, _, SqL.of hRw.at_⟩, (by show 0 ≤ sizeLine; decide), fun a ha => ?_⟩
        refine ⟨R, _, _, rfl, rfl, by rw [upd_ne (ne_of_none hRw.at_ ha)]; exact hRw.at_, by rw [hRw.len]; exact hsz, ?_⟩
        have hR2 := hRw.push ha
        refine ⟨_, rfl, _, _, rfl, rfl, ?_⟩
        have hq := hp.step
        refine ⟨_, rfl, _, rfl, t, p + 1, r, 41, rfl, hq, _, rfl, ?_⟩
        by_cases h41 : ∃ r', r = 41 :: r'
        · obtain ⟨r', rfl⟩ := h41
          rw [turn_open1 h6] at q
          rw [show decide ((41 :: r' : List Nat).head? = some 41) = true by simp]
          refine iteF ?_
          obtain ⟨e1, e2⟩ := hR2.last
          refine ⟨_, rfl, .inl ⟨rfl, _, SqL.of hR2.at_⟩, R, _, _, rfl, rfl, hR2.at_, e1, ?_⟩
          rw [e2]
          have hR3 := hR2.pop
          refine ⟨(by show 0 ≤ sizeLine; decide), fun b hb' => ?_⟩
          refine ⟨_, rfl, _, _, rfl, rfl, ?_⟩
          refine ⟨as, rows, r', p + 1 + 1, .ref b, .tup [], rfl, hR3.ext (Same.new hb'), h60, hb.mono (by simp; omega), hq.step, ?_, .tup upd_same .nil, q⟩
          simp at hm
          omega
        · have e : decide (r.head? = some 41) = false := by
            rw [← Bool.not_eq_true, at_dec]
            exact h41
          rw [e]
          refine iteT ?_
          rw [turn_open2 h6 h41] at q
          refine ⟨m, Nat.lt_succ_self m, a :: as, [] :: rows, r, p + 1, _, rfl, hR2, ?_, ?_, hq, ?_, q⟩
          · show rows.length + 1 ≤ 60
            omega
          · have z := hq.len
            have z2 := hq.sz
            have z3 := hq.ge
            exact (hb.mono (by simp)).push (by omega)
          · simp at hm
            omega
      · rw [decide_eq_false (show ¬ (rows.length : Int) < 60 by omega)]
        refine iteF ?_
        rw [run_go, turn_open3 h6] at q
        have en : piece (40 :: r) = none := by simp [piece, isLet, isDig]
        refine ⟨_, rfl, _, rfl, t, p, 40 :: r, rfl, hp, ?_⟩
        rw [en]
        have hl := hp.len
        have e5 : (t.length : Int) - ((40 :: r : List Nat).length : Int) = p := by omega
        have q2 : Bad C H0 E p := by
          rw [← e5]
          exact q
        exact bad_mk hRw.same q2
    · have e : decide (l.head? = some 40) = false := by
        rw [← Bool.not_eq_true, at_dec]
        exact h40
      rw [e]
      refine iteF (iteF ?_)
      rw [run_go] at q
      refine ⟨_, rfl, _, rfl, t, p, l, rfl, hp, ?_⟩
      cases e5 : piece l with
      | none =>
        rw [turn_none h40 e5] at q
        have hl := hp.len
        have e6 : (t.length : Int) - (l.length : Int) = p := by omega
        have q2 : Bad C H0 E p := by
          rw [← e6]
          exact q
        exact bad_mk hRw.same q2
      | some dr =>
        obtain ⟨d, r⟩ := dr
        rw [turn_some h40 e5] at q
        have hat : atom d = true := by
          cases l with
          | nil => cases e5
          | cons c l =>
            rw [piece_cons] at e5
            split at e5
            · cases e5
              unfold wordVal special?
              repeat' split
              all_goals rfl
            · split at e5
              · have e7 := Option.some.inj e5
                unfold numAt at e7
                split at e7 <;> (cases e7; rfl)
              · split at e5
                · have e7 := Option.some.inj e5
                  unfold signAt numAt at e7
                  split at e7
                  · split at e7 <;> (cases e7; rfl)
                  · cases e7
                    rfl
                · cases e5
        intro a e8 H' g he ha
        refine ⟨a, _, rfl, SqT.of ha, rfl, _, _, rfl, _, _, rfl, rfl, ?_⟩
        have hlen := piece_len e5
        exact ⟨as, rows, r, e8, av d, d, rfl, hRw.ext g, h60, hb.mono (by omega), he, by omega, Rp.av hat, q⟩
  · -- the rest of the turn: closing brackets
    rintro σ H ⟨as, rows, l, p, v, d, rfl, hRw, h60, hb, hp, hm, hv, q⟩
    refine ⟨fun σ H => ∃ (as : List Addr) (rows : List (List D)) (l : List Nat) (p : Int) (v : V) (d : D), σ = [some (.str t), some (.ref R), some (.int p), some v] ∧ Rows H0 H R as rows ∧ rows.length ≤ 60 ∧ Bd rows l ∧ At t p l ∧ l.length < m + 1 ∧ Rp H v d ∧
      (rows = [] ∨ ¬ ∃ r, l = 41 :: r) ∧ Fin C H0 Q E t (go m (aft (rows, d, l))), ?_, ?_⟩
    · refine ⟨fun k σ H => ∃ (as : List Addr) (rows : List (List D)) (l : List Nat) (p : Int) (v : V) (d : D), σ = [some (.str t), some (.ref R), some (.int p), some v] ∧ Rows H0 H R as rows ∧ rows.length ≤ 60 ∧ Bd rows l ∧ At t p l ∧ l.length < m + 1 ∧ l.length = k ∧ Rp H v d ∧
        Fin C H0 Q E t (go m (aft (pops rows d l))), ⟨l.length, as, rows, l, p, v, d, rfl, hRw, h60, hb, hp, hm, rfl, hv, q⟩, ?_⟩
      rintro k σ H ⟨as, rows, l, p, v, d, rfl, hRw, h60, hb, hp, hm, hk, hv, q⟩
      have hsz : rows.length < sizeLine := small1000 (by omega)
      refine ⟨_, rfl, _, _, rfl, .inl (SqL.of hRw.at_), _, _, rfl, rfl, _, rfl, ?_⟩
      rw [hRw.len]
      have hstk := hRw.stk
      cases hstk with
      | nil =>
        refine iteF (iteF ?_)
        exact ⟨[], [], l, p, v, d, rfl, hRw, h60, hb, hp, hm, hv, .inl rfl, q⟩
      | @cons a as xs row rows ha hr' hn hs =>
        rw [decide_eq_true (show (0 : Int) < ((row :: rows).length : Int) by simp only [List.length_cons]; omega)]
        refine iteT ⟨_, rfl, _, rfl, t, p, l, 41, rfl, hp, _, rfl, ?_⟩
        by_cases h41 : ∃ r, l = 41 :: r
        · obtain ⟨r, rfl⟩ := h41
          rw [show decide ((41 :: r : List Nat).head? = some 41) = true by simp]
          refine iteT ⟨_, fun _ _ h => h, ?_⟩
          obtain ⟨e1, e2⟩ := hRw.last
          refine ⟨_, rfl, .inl ⟨rfl, _, SqL.of hRw.at_⟩, R, _, _, rfl, rfl, hRw.at_, e1, ?_⟩
          rw [e2]
          have hR2 := hRw.pop
          have ha2 : upd H R (.lst (as.reverse.map V.ref)) a = some (.lst xs) := by
            rw [upd_ne (show a ≠ R from fun z => hRw.nr (by rw [← z]; exact List.mem_cons_self ..))]
            exact ha
          refine ⟨_, rfl, (by show 1 ≤ sizeLine; decide), fun b hb' => ?_⟩
          have lx : xs.length + 1 ≤ sizeLine := by
            have z := hb row (List.mem_cons_self ..)
            rw [hr'.len]
            exact Nat.le_trans (show row.length + 1 ≤ 1000001 by omega) (by decide)
          refine ⟨a, b, xs, [v], rfl, rfl, by rw [upd_ne (ne_of_none ha2 hb')]; exact ha2, upd_same, lx, fun c hc => ?_⟩
          refine ⟨c, _, rfl, .inl ⟨SqL.of upd_same, fun e he => ?_⟩⟩
          refine ⟨_, rfl, _, _, rfl, rfl, ?_⟩
          have g : Same (upd H R (.lst (as.reverse.map V.ref))) (upd (upd (upd (upd H R (.lst (as.reverse.map V.ref))) b (.lst [v])) c (.lst (xs ++ [v]))) e (.tup (xs ++ [v]))) := (Same.new hb').trans ((Same.new hc).trans (Same.new he))
          refine ⟨r.length, by rw [← hk]; exact Nat.lt_succ_self _, as, rows, r, p + 1, .ref e, .tup (row ++ [d]), rfl, hR2.ext g, ?_, hb.tail.mono (by simp), hp.step, ?_, rfl, ?_, q⟩
          · simp only [List.length_cons] at h60
            omega
          · simp only [List.length_cons] at hm
            omega
          · exact .tup upd_same (RpAll.snoc ((hv.wr hRw.at_).same g) ((hr'.wr hRw.at_).same g))
        · have e : decide (l.head? = some 41) = false := by
            rw [← Bool.not_eq_true, at_dec]
            exact h41
          rw [e]
          refine iteF ?_
          rw [pops_stop h41] at q
          exact ⟨a :: as, row :: rows, l, p, v, d, rfl, hRw, h60, hb, hp, hm, hv, .inr h41, q⟩
    · rintro σ H ⟨as, rows, l, p, v, d, rfl, hRw, h60, hb, hp, hm, hv, hend, q⟩
      have hl := hp.len
      refine ⟨_, rfl, _, _, rfl, .inl (SqL.of hRw.at_), rfl, _, rfl, ?_⟩
      rw [hRw.len]
      have hstk := hRw.stk
      cases hstk with
      | nil =>
        refine iteT ⟨_, rfl, _, rfl, _, rfl, hp.line, _, _, rfl, rfl, _, rfl, ?_⟩
        cases l with
        | nil =>
          rw [decide_eq_false (show ¬ p < (t.length : Int) by simp at hl; omega)]
          refine iteF ⟨_, rfl, ?_⟩
          exact q v H hRw.same hv
        | cons c r =>
          rw [decide_eq_true (show p < (t.length : Int) by simp at hl; omega)]
          refine iteT ⟨_, rfl, ?_⟩
          have e5 : (t.length : Int) - ((c :: r : List Nat).length : Int) = p := by omega
          have q2 : Bad C H0 E p := by
            rw [← e5]
            exact q
          exact raise_bt (bad_mk hRw.same q2)
      | @cons a as xs row rows ha hr' hn hs =>
        have e9 : decide (V.int (((row :: rows).length : Nat) : Int) = V.int 0) = false := by
          rw [decide_eq_false]
          intro z
          injection z with z
          simp only [List.length_cons] at z
          omega
        rw [e9]
        refine iteF ⟨_, rfl, _, rfl, t, p, l, 32, rfl, hp, _, rfl, ?_⟩
        by_cases h32 : ∃ r, l = 32 :: r
        · obtain ⟨r, rfl⟩ := h32
          rw [show decide ((32 :: r : List Nat).head? = some 32) = true by simp]
          refine iteF ?_
          have lx : xs.length < sizeLine := by
            have z := hb row (List.mem_cons_self ..)
            rw [hr'.len]
            exact Nat.lt_of_lt_of_le (show row.length < 1000001 by omega) (by decide)
          refine ⟨_, rfl, _, rfl, R, _, -1, .ref a, rfl, rfl, SqL.of hRw.at_, ?_, .inl ⟨rfl, _, SqL.of ha⟩, _, rfl, a, xs, v, rfl, rfl, ha, lx, ?_⟩
          · rw [List.reverse_cons, List.map_append]
            exact atI_last _ _
          refine ⟨_, rfl, _, _, rfl, rfl, m, Nat.lt_succ_self m, a :: as, (row ++ [d]) :: rows, r, p + 1, _, rfl, hRw.app ha hr' hv, h60, hb.app, hp.step, ?_, q⟩
          simp only [List.length_cons] at hm
          omega
        · have e : decide (l.head? = some 32) = false := by
            rw [← Bool.not_eq_true, at_dec]
            exact h32
          rw [e]
          refine iteT ⟨_, rfl, ?_⟩
          rw [aft_bad h32] at q
          have e5 : (t.length : Int) - (l.length : Int) = p := by omega
          have q2 : Bad C H0 E p := by
            rw [← e5]
            exact q
          exact raise_bt (bad_mk hRw.same q2)
end
end K75
end
section
namespace K75
open PySem L2
/-! ### the law's bag of draws -/
abbrev bagL (c : Addr) (i pend seed cnt turn : Int) : List V := [.ref c, .int i, .int pend, .int seed, .int cnt, .int turn]
structure Bag (H : Hp) (b c : Addr) (ns : List Int) (i pend seed cnt turn : Int) : Prop where
  at_ : H b = some (.lst (bagL c i pend seed cnt turn))
  cs : H c = some (.lst (ns.map V.int))
  i0 : 0 ≤ i
  p0 : 0 ≤ pend
  s0 : 0 ≤ seed
  c0 : 0 ≤ cnt
  t0 : 0 ≤ turn
def BagAt (H : Hp) (b : Addr) : Prop := ∃ c ns i pend seed cnt turn, Bag H b c ns i pend seed cnt turn
/-- all but the bag is as it was, the bag has its list of cells -/
structure Keep (b : Addr) (H H' : Hp) : Prop where
  o : ∀ a o, a ≠ b → H a = some o → H' a = some o
  c : ∀ c xs, H b = some (.lst (.ref c :: xs)) → ∃ ys, H' b = some (.lst (.ref c :: ys))
theorem Keep.refl (b : Addr) (H : Hp) : Keep b H H := ⟨fun _ _ _ e => e, fun _ xs e => ⟨xs, e⟩⟩
theorem Keep.trans {b : Addr} {H H1 H2 : Hp} (k : Keep b H H1) (l : Keep b H1 H2) : Keep b H H2 := ⟨fun a o n e => l.o a o n (k.o a o n e), fun c xs e => by
  obtain ⟨ys, e⟩ := k.c c xs e
  exact l.c c ys e⟩
theorem Keep.same {b : Addr} {H H1 H2 : Hp} (k : Keep b H H1) (s : Same H1 H2) : Keep b H H2 := ⟨fun a o n e => s a o (k.o a o n e), fun c xs e => by
  obtain ⟨ys, e⟩ := k.c c xs e
  exact ⟨ys, s _ _ e⟩⟩
theorem Keep.put {b c : Addr} {H H1 : Hp} {xs ys : List V} (k : Keep b H H1) (h : H1 b = some (.lst (.ref c :: xs))) : Keep b H (upd H1 b (.lst (.ref c :: ys))) := ⟨fun a u n e => by
  rw [upd_ne n]
  exact k.o a u n e, fun c' zs e => by
  obtain ⟨ys', e⟩ := k.c c' zs e
  rw [h] at e
  injection e with e
  injection e with e
  injection e with e1 e2
  injection e1 with e1
  subst e1
  exact ⟨ys, upd_same⟩⟩
theorem Keep.of {b : Addr} {H H1 : Hp} (s : Same H H1) : Keep b H H1 := ⟨fun a o _ e => s a o e, fun c xs e => ⟨xs, s _ _ e⟩⟩
/-- an object that was not there at first is written -/
theorem Keep.wr {b p : Addr} {H H1 : Hp} {o : HO} (k : Keep b H H1) (hp : H p = none) (hb : H b ≠ none) : Keep b H (upd H1 p o) := ⟨fun a u n e => by
  rw [upd_ne (ne_of_none e hp)]
  exact k.o a u n e, fun c xs e => by
  rw [upd_ne (ne_of_none e hp)]
  exact k.c c xs e⟩
theorem Keep.none {b p : Addr} {H H1 : Hp} (k : Keep b H H1) (hp : H1 p = none) (ne : p ≠ b) : H p = none := by
  cases e : H p with
  | none => rfl
  | some o =>
    rw [k.o p o ne e] at hp
    cases hp
section
variable {H : Hp} {b c : Addr} {ns : List Int} {i pend seed cnt turn : Int}
theorem Bag.ne (g : Bag H b c ns i pend seed cnt turn) : c ≠ b := fun e => by
  have h := g.cs
  rw [e, g.at_] at h
  injection h with h
  injection h with h
  cases ns with
  | nil => cases h
  | cons n ns =>
    injection h with h1 _
    cases h1
theorem Bag.put (g : Bag H b c ns i pend seed cnt turn) {i' p' s' n' t' : Int} (h1 : 0 ≤ i') (h2 : 0 ≤ p') (h3 : 0 ≤ s') (h4 : 0 ≤ n') (h5 : 0 ≤ t') : Bag (upd H b (.lst (bagL c i' p' s' n' t'))) b c ns i' p' s' n' t' :=
  ⟨upd_same, by rw [upd_ne g.ne]; exact g.cs, h1, h2, h3, h4, h5⟩
theorem Bag.keep (g : Bag H b c ns i pend seed cnt turn) {H' : Hp} (s : Same H H') : Bag H' b c ns i pend seed cnt turn := ⟨s _ _ g.at_, s _ _ g.cs, g.i0, g.p0, g.s0, g.c0, g.t0⟩
end
theorem BagAt.wr {H H' : Hp} {b p : Addr} {o : HO} (g : BagAt H b) (k : Keep b H H') (g' : BagAt H' b) (hp : H p = none) : BagAt (upd H' p o) b := by
  obtain ⟨c, ns, i, q, sd, n, t, g⟩ := g
  obtain ⟨c', ns', i', q', sd', n', t', g'⟩ := g'
  obtain ⟨ys, e⟩ := k.c c _ g.at_
  rw [g'.at_] at e
  injection e with e
  injection e with e
  injection e with e1 e2
  injection e1 with e1
  subst e1
  have nb : b ≠ p := ne_of_none g.at_ hp
  have nc : c' ≠ p := ne_of_none g.cs hp
  exact ⟨c', ns', i', q', sd', n', t', by rw [upd_ne nb]; exact g'.at_, by rw [upd_ne nc]; exact g'.cs, g'.i0, g'.p0, g'.s0, g'.c0, g'.t0⟩
theorem BagAt.same {H H' : Hp} {b : Addr} (g : BagAt H b) (s : Same H H') : BagAt H' b := by
  obtain ⟨c, ns, i, p, sd, n, t, g⟩ := g
  exact ⟨c, ns, i, p, sd, n, t, g.keep s⟩
theorem BagAt.some {H : Hp} {b : Addr} (g : BagAt H b) : ∃ xs, H b = some (.lst xs) := by
  obtain ⟨c, ns, i, p, sd, n, t, g⟩ := g
  exact ⟨_, g.at_⟩
section
variable {P : Program} {w : World} {K : PySem.W.Frag} {mg : Str → Option Value} {base : Heap}
/-! ### _law_bag -/
abbrev s_bag : Stmt := top 22
theorem sc_bag : FnScope ["_law_script"] ["_law_script"] (defScope s_bag) := ⟨rfl, rfl, rfl, by decide +kernel, rfl, by decide +kernel, by decide +kernel⟩
def spBag (K : PySem.W.Frag) : Sp := fun vs H Q _ => ∃ (a : Addr) (ns : List Int), vs = [.ref a] ∧ SqL K H a (ns.map V.int) ∧ ∀ b H', Same H H' → BagAt H' b → Q (.ref b) H'
theorem fmod_pos {i m : Int} (h : 0 < m) : 0 ≤ i.fmod m ∧ i.fmod m < m := ⟨Int.fmod_nonneg_of_pos i h, Int.fmod_lt_of_pos i h⟩
theorem ok_bag {f : Addr} {fd : FuncData} (F : Fun K "_law_bag" "_law_bag" s_bag f fd) (T : Tx w K mg) : FnOk P w K mg base CX0 1 f fd ["_law_script"] (spBag K) := by
  refine F.ok sc_bag (fun vs H Q E h => ?_) (fun cdv A outer s H vs Q E hr h => ?_)
  · obtain ⟨a, ns, rfl, _⟩ := h
    rfl
  obtain ⟨a, ns, rfl, hS, q⟩ := h
  refine ⟨_, (pss_one (ps_ret (pe_lst (pa_cons (pe_callTy call_list_of (by rfl) T.b_list (by decide +kernel) (pa_cons (pv 0) pa_nil)) (pa_cons pe_int (pa_cons pe_int (pa_cons (pe_op op_modN (pe_callTy call_int1 (by rfl) T.b_int (by decide +kernel) (pa_cons (pe_callB (cr_sum rfl) (by rfl) T.b_sum (by decide +kernel) (pa_cons (pv 0) pa_nil)) pa_nil)) pe_int) (pa_cons pe_int (pa_cons pe_int pa_nil))))))))), ?_⟩
  refine ⟨_, rfl, a, _, rfl, .inl hS, fun c hc => ?_⟩
  have g1 : Same H (upd H c (.lst (ns.map V.int))) := Same.new hc
  refine ⟨_, rfl, a, ns, rfl, g1.seq hS, .inl ⟨_, rfl, _, _, rfl, rfl, (show (1000003 : Int) ≠ 0 by decide), (by show 6 ≤ sizeLine; decide), fun b hb => ?_⟩⟩
  refine q b _ (g1.trans (Same.new hb)) ⟨c, ns, _, _, _, _, _, upd_same, ?_, by decide, by decide, (fmod_pos (by decide)).1, by decide, by decide⟩
  rw [upd_ne (ne_of_none upd_same hb)]
  exact upd_same
/-! ### _law_mixed -/
abbrev s_mixed : Stmt := top 23
theorem sc_mixed : FnScope ["_law_seed", "_law_turn", "_law_first"] ["_law_seed", "_law_turn"] (defScope s_mixed) := ⟨rfl, rfl, rfl, by decide +kernel, rfl, by decide +kernel, by decide +kernel⟩
def spMixed : Sp := fun vs H Q _ => ∃ (s t : Int), vs = [.int s, .int t] ∧ ∀ r, 0 ≤ r → Q (.int r) H
theorem ok_mixed {f : Addr} {fd : FuncData} (F : Fun K "_law_mixed" "_law_mixed" s_mixed f fd) (T : Tx w K mg) : FnOk P w K mg base CX0 1 f fd ["_law_seed", "_law_turn"] spMixed := by
  refine F.ok sc_mixed (fun vs H Q E h => ?_) (fun cdv A outer s H vs Q E hr h => ?_)
  · obtain ⟨a, ns, rfl, _⟩ := h
    rfl
  obtain ⟨sd, tn, rfl, q⟩ := h
  refine ⟨_, (pss_cons (ps_set (i := 2) sc_mixed.nd rfl (.inl rfl) (pe_op op_modN (pe_callTy call_int1 (by rfl) T.b_int (by decide +kernel) (pa_cons (pe_op op_add (pe_op op_mul (pe_op op_add (pv 0) pe_int) pe_int) (pe_op op_mul (pe_op op_add (pv 1) pe_int) pe_int)) pa_nil)) pe_int))
      (pss_one (ps_ret (pe_op op_fdivW (pe_op op_modN (pe_callTy call_int1 (by rfl) T.b_int (by decide +kernel) (pa_cons (pe_op op_add (pe_op op_add (pe_op op_mul (pv 2) (pv 2)) (pe_op op_mul (pv 2) pe_int)) (pe_op op_mul pe_int (pv 1))) pa_nil)) pe_int) pe_int)))), ?_⟩
  refine ⟨_, rfl, _, _, rfl, rfl, _, _, rfl, rfl, .inr (by decide), _, rfl, _, _, rfl, rfl, _, _, rfl, rfl, .inr (by decide), _, _, rfl, rfl, .inl ⟨_, rfl, _, _, rfl, rfl, (show (2147483647 : Int) ≠ 0 by decide), ?_⟩⟩
  have hb := fmod_pos (i := (sd + 1) * 48271 + (tn + 1) * 69621) (m := 2147483647) (by decide)
  refine ⟨_, rfl, _, rfl, _, _, rfl, rfl, .inl ⟨by omega, by omega⟩, _, rfl, _, _, rfl, rfl, .inl ⟨by omega, by omega⟩, _, _, rfl, rfl, _, rfl, _, _, rfl, rfl, .inl (by decide), _, _, rfl, rfl, .inl ⟨_, rfl, _, _, rfl, rfl, (show (2147483629 : Int) ≠ 0 by decide), ?_⟩⟩
  refine ⟨_, _, rfl, rfl, (wide_div (b := 3) (by decide) (by decide) (by decide) (by decide)), q _ ?_⟩
  exact Int.ediv_nonneg (fmod_pos (by decide)).1 (by decide)
/-! ### _law_draw -/
abbrev s_draw : Stmt := top 24
abbrev N_draw : List Str := ["_law_bag_here", "_law_many", "_law_cell", "_law_value"]
theorem sc_draw : FnScope N_draw ["_law_bag_here", "_law_many"] (defScope s_draw) := ⟨rfl, rfl, rfl, by decide +kernel, rfl, by decide +kernel, by decide +kernel⟩
/-- any number below m -/
def Drawn (b : Addr) (H : Hp) (m : Int) (Q : VK) : Prop := ∀ (r : Int) (H' : Hp), Keep b H H' → BagAt H' b → 0 ≤ r → (2 ≤ m → r < m) → (m < 2 → r = 0) → Q (.int r) H'
def spDraw : Sp := fun vs H Q _ => ∃ (b : Addr) (m : Int), vs = [.ref b, .int m] ∧ BagAt H b ∧ m.natAbs < 2 ^ 200 ∧ Drawn b H m Q
theorem ok_draw {f fM : Addr} {fd fdM : FuncData} (F : Fun K "_law_draw" "_law_draw" s_draw f fd) (T : Tx w K mg) (G_mixed : Cal P w K mg base CX0 "_law_mixed" 1 fM fdM ["_law_seed", "_law_turn"] spMixed) :
    FnOk P w K mg base CX0 2 f fd ["_law_bag_here", "_law_many"] spDraw := by
  refine F.ok sc_draw (fun vs H Q E h => ?_) (fun cdv A outer s H vs Q E hr h => ?_)
  · obtain ⟨b, m, rfl, _⟩ := h
    rfl
  obtain ⟨b, m, rfl, hB, hm, q⟩ := h
  refine ⟨_, (pss_cons (ps_if (pt_cmpR op_lt (pv 1) pe_int (nomark _)) (pss_one (ps_ret pe_int)) pss_nil)
      (pss_cons (ps_asg (pe_op op_add (pe_ix ix_list (pv 0) pe_int (fun _ _ => rfl)) pe_int) (pg_sub (pv 0) pe_int set_list))
      (C8.pss_cut (ps_if (PW.pt (pw_and (pt_cmpR op_eq (pe_ix ix_list (pv 0) pe_int (fun _ _ => rfl)) pe_int (nomark _)) (pw_and (pt_cmpR op_eq (pe_ix ix_list (pv 0) pe_int (fun _ _ => rfl)) pe_int (nomark _)) (pw_and1 (pt_cmpR op_lt (pe_ix ix_list (pv 0) pe_int (fun _ _ => rfl)) (pe_callB call_len_seq (by rfl) T.b_len (by decide +kernel) (pa_cons (pe_ix ix_list (pv 0) pe_int (fun _ _ => rfl)) pa_nil)) (nomark _)))))) (pss_cons (ps_set (i := 2) sc_draw.nd rfl (.inl rfl) (pe_ix ix_list (pe_ix ix_list (pv 0) pe_int (fun _ _ => rfl)) (pe_ix ix_list (pv 0) pe_int (fun _ _ => rfl)) (fun _ _ => rfl)))
      (pss_cons (ps_asg (pe_op op_add (pe_ix ix_list (pv 0) pe_int (fun _ _ => rfl)) pe_int) (pg_sub (pv 0) pe_int set_list))
      (pss_one (ps_if (pt_cmpR op_ge (pe_callB call_abs (by rfl) T.b_abs (by decide +kernel) (pa_cons (pv 2) pa_nil)) (pe_op op_pow pe_int pe_int) (nomark _)) (pss_one (ps_asg (pe_callB call_abs (by rfl) T.b_abs (by decide +kernel) (pa_cons (pv 2) pa_nil)) (pg_sub (pv 0) pe_int set_list))) (pss_cons (ps_asg (pe_op op_add (pe_op op_mul pe_int (pe_callB call_abs (by rfl) T.b_abs (by decide +kernel) (pa_cons (pv 2) pa_nil))) (pe_callTy call_int1 (by rfl) T.b_int (by decide +kernel) (pa_cons (pe_cmpR op_lt (pv 2) pe_int (nomark _)) pa_nil))) (pg_sub (pv 0) pe_int set_list))
      (pss_one (ps_asg pe_int (pg_sub (pv 0) pe_int set_list)))))))) pss_nil)
      (pss_cons (ps_if (pt_cmpR op_gt (pe_ix ix_list (pv 0) pe_int (fun _ _ => rfl)) pe_int (nomark _)) (pss_cons (ps_set (i := 3) sc_draw.nd rfl (.inl rfl) (pe_op op_modN (pe_callTy call_int1 (by rfl) T.b_int (by decide +kernel) (pa_cons (pe_ix ix_list (pv 0) pe_int (fun _ _ => rfl)) pa_nil)) (pv 1)))
      (pss_cons (ps_asg (pe_op op_fdivW (pe_ix ix_list (pv 0) pe_int (fun _ _ => rfl)) (pv 1)) (pg_sub (pv 0) pe_int set_list))
      (pss_one (ps_ret (pv 3))))) pss_nil)
      (C8.pss_cut (ps_if (pt_cmpR op_gt (pe_ix ix_list (pv 0) pe_int (fun _ _ => rfl)) pe_int (nomark _)) (pss_one (ps_asg (pe_op op_sub (pe_ix ix_list (pv 0) pe_int (fun _ _ => rfl)) pe_int) (pg_sub (pv 0) pe_int set_list))) pss_nil)
      (pss_one (ps_ret (pe_op op_modN (pe_callTy call_int1 (by rfl) T.b_int (by decide +kernel) (pa_cons (pe_c G_mixed (hr.mono (by decide)) (pa_cons (pe_ix ix_list (pv 0) pe_int (fun _ _ => rfl)) (pa_cons (pe_ix ix_list (pv 0) pe_int (fun _ _ => rfl)) pa_nil))) pa_nil)) (pv 1))))))))), ?_⟩
  refine ⟨_, rfl, _, _, rfl, rfl, _, rfl, ?_⟩
  by_cases h2 : m < 2
  · rw [decide_eq_true h2]
    exact iteT (q 0 H (Keep.refl b H) hB (by decide) (fun h => absurd h2 (by omega)) fun _ => rfl)
  rw [decide_eq_false h2]
  refine iteF ?_
  obtain ⟨c, ns, i, p, sd, n, t, g⟩ := hB
  -- bag[5] = bag[5] + 1
  refine ⟨_, rfl, b, _, _, _, rfl, rfl, SqL.of g.at_, rfl, _, _, rfl, rfl, _, rfl, b, _, _, 5, rfl, rfl, g.at_, rfl, ?_⟩
  have g1 := g.put (i' := i) (p' := p) (s' := sd) (n' := n) (t' := t + 1) g.i0 g.p0 g.s0 g.c0 (by have := g.t0; omega)
  have k1 : Keep b H (upd H b (.lst (bagL c i p sd n (t + 1)))) := (Keep.refl b H).put g.at_
  -- behind the big if
  refine ⟨fun σ H' => ∃ vo i p sd n t, σ = [some (.ref b), some (.int m), vo, none] ∧ Keep b H H' ∧ Bag H' b c ns i p sd n t, ?_, ?_⟩
  · refine ⟨_, rfl, b, _, _, _, rfl, rfl, SqL.of g1.at_, rfl, rfl, _, rfl, ?_⟩
    by_cases hp : V.int p = V.int 0
    · rw [decide_eq_true hp]
      refine iteT ⟨_, rfl, b, _, _, _, rfl, rfl, SqL.of g1.at_, rfl, rfl, _, rfl, ?_⟩
      by_cases hn : V.int n = V.int 0
      · rw [decide_eq_true hn]
        refine iteT ⟨_, rfl, b, _, _, _, rfl, rfl, SqL.of g1.at_, rfl, _, rfl, b, _, _, _, rfl, rfl, SqL.of g1.at_, rfl, c, _, rfl, .inl (SqL.of g1.cs), _, _, rfl, rfl, _, rfl, ?_⟩
        rw [List.length_map]
        by_cases hi : i < (ns.length : Int)
        · rw [decide_eq_true hi]
          have hi0 := g.i0
          obtain ⟨x, hx⟩ : ∃ x : Int, atI (ns.map V.int) i = some (.int x) := by
            have hk : i.toNat < ns.length := by omega
            refine ⟨ns[i.toNat], ?_⟩
            have z : atI (ns.map V.int) ((i.toNat : Nat) : Int) = some (.int ns[i.toNat]) := atI_nat (by rw [List.getElem?_map, List.getElem?_eq_getElem hk] <;> rfl)
            rw [show ((i.toNat : Nat) : Int) = i by omega] at z
            exact z
          refine iteT ⟨_, rfl, b, _, _, _, rfl, rfl, SqL.of g1.at_, rfl, _, rfl, b, _, _, _, rfl, rfl, SqL.of g1.at_, rfl, c, _, _, _, rfl, rfl, SqL.of g1.cs, hx, ?_⟩
          refine ⟨_, rfl, b, _, _, _, rfl, rfl, SqL.of g1.at_, rfl, _, _, rfl, rfl, _, rfl, b, _, _, 1, rfl, rfl, g1.at_, rfl, ?_⟩
          have g2 := g1.put (i' := i + 1) (p' := p) (s' := sd) (n' := n) (t' := t + 1) (by omega) g.p0 g.s0 g.c0 g1.t0
          refine ⟨_, rfl, _, rfl, _, _, rfl, rfl, ⟨by decide, by decide, by decide⟩, _, _, rfl, rfl, _, rfl, ?_⟩
          have ha : 0 ≤ (if x < 0 then -x else x) := by split <;> omega
          refine ite2 (fun _ => ?_) (fun _ => ?_)
          · refine ⟨_, rfl, _, rfl, _, rfl, b, _, _, 2, rfl, rfl, g2.at_, rfl, ?_⟩
            exact ⟨_, _, _, _, _, _, rfl, (k1.put g1.at_).put g2.at_, g2.put (i' := i + 1) (s' := sd) (n' := n) (t' := t + 1) (by omega) ha g.s0 g.c0 g1.t0⟩
          · refine ⟨_, rfl, _, rfl, _, _, rfl, rfl, .inl (by decide), _, rfl, _, _, rfl, rfl, .inr ⟨_, rfl, _, _, rfl, rfl, _, rfl, b, _, _, 3, rfl, rfl, g2.at_, rfl, ?_⟩⟩
            have hs : 0 ≤ 2 * (if x < 0 then -x else x) + (if decide (x < 0) = true then 1 else 0) := by
              have : (0 : Int) ≤ (if decide (x < 0) = true then 1 else 0) := by split <;> decide
              omega
            have g3 := g2.put (i' := i + 1) (p' := p) (n' := n) (t' := t + 1) (by omega) g.p0 hs g.c0 g1.t0
            refine ⟨_, rfl, b, _, _, 4, rfl, rfl, g3.at_, rfl, ?_⟩
            exact ⟨_, _, _, _, _, _, rfl, ((k1.put g1.at_).put g2.at_).put g3.at_, g3.put (i' := i + 1) (p' := p) (n' := 15) (t' := t + 1) (by omega) g.p0 hs (by decide) g1.t0⟩
        · rw [decide_eq_false hi]
          refine iteF ?_
          exact ⟨_, _, _, _, _, _, rfl, k1, g1⟩
      · rw [decide_eq_false hn]
        refine iteF (iteF ?_)
        exact ⟨_, _, _, _, _, _, rfl, k1, g1⟩
    · rw [decide_eq_false hp]
      refine iteF (iteF ?_)
      exact ⟨_, _, _, _, _, _, rfl, k1, g1⟩
  · clear g1 k1 g
    rintro σ H1 ⟨vo, i, p, sd, n, t, rfl, k1, g⟩
    have hw : L2.CDivW p m := wide_div (b := 200) (by omega) hm (by decide) (by decide)
    refine ⟨_, rfl, b, _, _, _, rfl, rfl, SqL.of g.at_, rfl, _, _, rfl, rfl, _, rfl, ?_⟩
    refine ite2 (fun _ => ?_) (fun _ => ?_)
    · refine ⟨_, rfl, b, _, _, _, rfl, rfl, SqL.of g.at_, rfl, .inl ⟨_, rfl, _, rfl, _, _, rfl, rfl, (show m ≠ 0 by omega), ?_⟩⟩
      refine ⟨_, rfl, b, _, _, _, rfl, rfl, SqL.of g.at_, rfl, _, rfl, _, _, rfl, rfl, hw, _, rfl, b, _, _, 2, rfl, rfl, g.at_, rfl, _, rfl, ?_⟩
      have hr := fmod_pos (i := p) (m := m) (by omega)
      refine q _ _ (k1.put g.at_) ⟨c, ns, i, p / m, sd, n, t, g.put g.i0 (Int.ediv_nonneg g.p0 (by omega)) g.s0 g.c0 g.t0⟩ hr.1 (fun _ => hr.2) (fun h => absurd h h2)
    · refine ⟨fun σ H' => ∃ vo i p sd n t, σ = [some (.ref b), some (.int m), vo, none] ∧ Keep b H H' ∧ Bag H' b c ns i p sd n t, ?_, ?_⟩
      · refine ⟨_, rfl, b, _, _, _, rfl, rfl, SqL.of g.at_, rfl, _, _, rfl, rfl, _, rfl, ?_⟩
        by_cases hn : 0 < n
        · rw [decide_eq_true hn]
          refine iteT ⟨_, rfl, b, _, _, _, rfl, rfl, SqL.of g.at_, rfl, _, _, rfl, rfl, _, rfl, b, _, _, 4, rfl, rfl, g.at_, rfl, ?_⟩
          exact ⟨_, _, _, _, _, _, rfl, k1.put g.at_, g.put (i' := i) (p' := p) (s' := sd) (t' := t) g.i0 g.p0 g.s0 (by omega) g.t0⟩
        · rw [decide_eq_false hn]
          exact iteF ⟨_, _, _, _, _, _, rfl, k1, g⟩
      · clear k1 g hw
        rintro σ H2 ⟨vo, i, p, sd, n, t, rfl, k1, g⟩
        refine ⟨_, rfl, b, _, _, _, rfl, rfl, SqL.of g.at_, rfl, _, rfl, b, _, _, _, rfl, rfl, SqL.of g.at_, rfl, _, _, rfl, fun r hr => ?_⟩
        refine .inl ⟨_, rfl, _, rfl, _, _, rfl, rfl, (show m ≠ 0 by omega), ?_⟩
        have hr := fmod_pos (i := r) (m := m) (by omega)
        exact q _ _ k1 ⟨c, ns, i, p, sd, n, t, g⟩ hr.1 (fun _ => hr.2) (fun h => absurd h h2)
end
end K75
end
section
namespace K75
open PySem L2
theorem atI_ex {α : Type} {xs : List α} {r : Int} (h0 : 0 ≤ r) (h1 : r < (xs.length : Int)) : ∃ c, atI xs r = some c ∧ c ∈ xs := by
  have hk : r.toNat < xs.length := by omega
  have z : atI xs ((r.toNat : Nat) : Int) = some xs[r.toNat] := atI_nat (List.getElem?_eq_getElem hk)
  rw [show ((r.toNat : Nat) : Int) = r by omega] at z
  exact ⟨_, z, List.getElem_mem hk⟩
theorem len_add (x y : Str) : (x ++ y).length = x.length + y.length := by
  show (x.cps ++ y.cps).size = _
  rw [Array.size_append]
  rfl
theorem codes_add (x y : Str) : (x ++ y).cps.toList = x.cps.toList ++ y.cps.toList := by
  show (x.cps ++ y.cps).toList = _
  rw [Array.toList_append]
theorem len_one (c : Nat) : (⟨#[c]⟩ : Str).length = 1 := rfl
def intIn (lo hi : Int) : V → Bool
  | .int n => decide (lo ≤ n) && decide (n ≤ hi)
  | _ => false
theorem intIn_ex {lo hi : Int} {v : V} (h : intIn lo hi v = true) : ∃ n, v = .int n ∧ lo ≤ n ∧ n ≤ hi := by
  cases v with
  | int n =>
    simp [intIn] at h
    exact ⟨n, rfl, h⟩
  | _ => cases h
def strIn (m : Nat) : V → Bool
  | .str z => decide (z.length ≤ m)
  | _ => false
theorem strIn_ex {m : Nat} {v : V} (h : strIn m v = true) : ∃ z, v = .str z ∧ z.length ≤ m := by
  cases v with
  | str z =>
    simp [strIn] at h
    exact ⟨z, rfl, h⟩
  | _ => cases h
section
variable {P : Program} {w : World} {K : PySem.W.Frag} {mg : Str → Option Value} {base : Heap}
/-! ### _law_pick -/
abbrev s_pick : Stmt := top 25
theorem sc_pick : FnScope ["_law_bag_here", "_law_row"] ["_law_bag_here", "_law_row"] (defScope s_pick) := ⟨rfl, rfl, rfl, by decide +kernel, rfl, by decide +kernel, by decide +kernel⟩
def spPick : Sp := fun vs H Q _ => ∃ (b a : Addr) (xs : List V), vs = [.ref b, .ref a] ∧ BagAt H b ∧ H a = some (.lst xs) ∧ a ≠ b ∧ 0 < xs.length ∧ xs.length ≤ 1000 ∧
  ∀ v ∈ xs, ∀ H', Keep b H H' → BagAt H' b → Q v H'
abbrev CalDraw (P : Program) (w : World) (K : PySem.W.Frag) (mg : Str → Option Value) (base : Heap) (f : Addr) (fd : FuncData) : Prop := Cal P w K mg base CX0 "_law_draw" 2 f fd ["_law_bag_here", "_law_many"] spDraw
abbrev CalPick (P : Program) (w : World) (K : PySem.W.Frag) (mg : Str → Option Value) (base : Heap) (f : Addr) (fd : FuncData) : Prop := Cal P w K mg base CX0 "_law_pick" 3 f fd ["_law_bag_here", "_law_row"] spPick
theorem ok_pick {f fD : Addr} {fd fdD : FuncData} (F : Fun K "_law_pick" "_law_pick" s_pick f fd) (T : Tx w K mg) (G_draw : CalDraw P w K mg base fD fdD) : FnOk P w K mg base CX0 3 f fd ["_law_bag_here", "_law_row"] spPick := by
  refine F.ok sc_pick (fun vs H Q E h => ?_) (fun cdv A outer s H vs Q E hr h => ?_)
  · obtain ⟨b, a, xs, rfl, _⟩ := h
    rfl
  obtain ⟨b, a, xs, rfl, hB, ha, ne, h0, h1, q⟩ := h
  refine ⟨_, (pss_one (ps_ret (pe_ix ix_list (pv 1) (pe_c G_draw (hr.mono (by decide)) (pa_cons (pv 0) (pa_cons (pe_callB call_len_seq (by rfl) T.b_len (by decide +kernel) (pa_cons (pv 1) pa_nil)) pa_nil))) (fun _ _ => rfl)))), ?_⟩
  refine ⟨_, rfl, _, rfl, _, rfl, a, xs, rfl, .inl (SqL.of ha), b, (xs.length : Int), rfl, hB, ?_, fun r H1 k1 B1 r0 r1 r2 => ?_⟩
  · rw [Int.natAbs_natCast]
    exact Nat.lt_of_le_of_lt h1 (by decide)
  have hlt : r < (xs.length : Int) := by
    by_cases h2 : (2 : Int) ≤ (xs.length : Int)
    · exact r1 h2
    · have := r2 (by omega)
      omega
  obtain ⟨v, hv, hm⟩ := atI_ex r0 hlt
  exact ⟨a, xs, r, v, rfl, rfl, SqL.of (k1.o a _ ne ha), hv, q v hm H1 k1 B1⟩
/-! ### _law_p10_word -/
abbrev s_word : Stmt := top 27
abbrev N_word : List Str := ["_law_bag_here", "_law_signs", "_law_size", "_law_word", "_law_k"]
theorem sc_word : FnScope N_word ["_law_bag_here"] (defScope s_word) := ⟨rfl, rfl, rfl, by decide +kernel, rfl, by decide +kernel, by decide +kernel⟩
/-- any text of at most m signs -/
def Txts (b : Addr) (H : Hp) (m : Nat) (Q : VK) : Prop := ∀ (z : Str) (H' : Hp), Keep b H H' → BagAt H' b → z.length ≤ m → Q (.str z) H'
def spWordL : Sp := fun vs H Q _ => ∃ b : Addr, vs = [.ref b] ∧ BagAt H b ∧ Txts b H 20 Q
theorem BagAt.ne {H : Hp} {b p : Addr} (g : BagAt H b) (h : H p = none) : p ≠ b := by
  obtain ⟨xs, e⟩ := g.some
  exact (ne_of_none e h).symm
theorem ok_word {f fD fK : Addr} {fd fdD fdK : FuncData} (F : Fun K "_law_p10_word" "_law_p10_word" s_word f fd) (T : Tx w K mg) (G_draw : CalDraw P w K mg base fD fdD) (G_pick : CalPick P w K mg base fK fdK) :
    FnOk P w K mg base CX0 4 f fd ["_law_bag_here"] spWordL := by
  refine F.ok sc_word (fun vs H Q E h => ?_) (fun cdv A outer s H vs Q E hr h => ?_)
  · obtain ⟨b, rfl, _⟩ := h
    rfl
  obtain ⟨b, rfl, hB, q⟩ := h
  refine ⟨_, (pss_cons (ps_set (i := 1) sc_word.nd rfl (.inl rfl) pe_str)
      (pss_cons (ps_set (i := 2) sc_word.nd rfl (.inl rfl) (pe_c G_pick (hr.mono (by decide)) (pa_cons (pv 0) (pa_cons (pe_lst (pa_cons pe_int (pa_cons pe_int (pa_cons pe_int (pa_cons pe_int (pa_cons (pe_op op_add pe_int (pe_c G_draw (hr.mono (by decide)) (pa_cons (pv 0) (pa_cons pe_int pa_nil)))) (pa_cons pe_int pa_nil))))))) pa_nil))))
      (pss_cons (ps_set (i := 3) sc_word.nd rfl (.inl rfl) (pe_ix ix_str (pv 1) (pe_c G_draw (hr.mono (by decide)) (pa_cons (pv 0) (pa_cons pe_int pa_nil))) (fun _ _ => rfl)))
      (pss_cons (ps_for PassesOwn.never rfl (pi_range1 (by rfl) T.b_range (pa_cons (pe_op op_sub (pv 2) pe_int) pa_nil)) (pg_name (i := 4) sc_word.nd rfl (.inl rfl)) (pss_one (ps_set (i := 3) sc_word.nd rfl (.inl rfl) (pe_op op_add_str (pv 3) (pe_ix ix_str (pe_op op_add_str (pv 1) pe_str) (pe_c G_draw (hr.mono (by decide)) (pa_cons (pv 0) (pa_cons pe_int pa_nil))) (fun _ _ => rfl))))))
      (C8.pss_cut (ps_if (pt_cmpR op_eq (pe_c G_draw (hr.mono (by decide)) (pa_cons (pv 0) (pa_cons pe_int pa_nil))) pe_int (nomark _)) (pss_one (ps_set (i := 3) sc_word.nd rfl (.inl rfl) (pe_c G_pick (hr.mono (by decide)) (pa_cons (pv 0) (pa_cons (pe_lst (pa_cons pe_str (pa_cons pe_str (pa_cons pe_str (pa_cons pe_str (pa_cons pe_str (pa_cons pe_str (pa_cons pe_str (pa_cons pe_str (pa_cons pe_str (pa_cons pe_str (pa_cons pe_str (pa_cons pe_str pa_nil))))))))))))) pa_nil))))) pss_nil)
      (pss_cons (ps_if (pt_cmpR op_in_seq (pv 3) (pe_lst (pa_cons pe_str (pa_cons pe_str (pa_cons pe_str pa_nil)))) (by rfl)) (pss_one (ps_ret (pe_op op_add_str (pv 3) pe_str))) pss_nil)
      (pss_one (ps_ret (pv 3))))))))), ?_⟩
  refine ⟨_, rfl, _, rfl, b, 8, rfl, hB, by decide, fun r H1 k1 B1 r0 r1 r2 => ?_⟩
  refine ⟨_, _, rfl, rfl, (by show 6 ≤ sizeLine; decide), fun p hp => ?_⟩
  refine ⟨b, p, _, rfl, B1.same (Same.new hp), upd_same, B1.ne hp, (by show 0 < 6; decide), (by show 6 ≤ 1000; decide), fun v hv H2 k2 B2 => ?_⟩
  have k2' : Keep b H H2 := (k1.same (Same.new hp)).trans k2
  obtain ⟨n, rfl, n1, n2⟩ : ∃ n, v = .int n ∧ 1 ≤ n ∧ n ≤ 12 := by
    have r1' := r1 (by decide)
    have all : ∀ v ∈ [V.int 1, .int 2, .int 3, .int 4, .int (5 + r), .int 12], intIn 1 12 v = true := by
      intro v hv
      simp only [List.mem_cons, List.not_mem_nil, or_false] at hv
      rcases hv with rfl | rfl | rfl | rfl | rfl | rfl <;> simp [intIn] <;> omega
    exact intIn_ex (all v hv)
  refine ⟨_, rfl, _, rfl, b, 26, rfl, B2, by decide, fun r H3 k3 B3 r0 r1 r2 => ?_⟩
  obtain ⟨c, hc, _⟩ := atI_ex (xs := (Str.ofString "abcdefghijklmnopqrstuvwxyz").cps.toList) r0 (by rw [codes_let]; exact r1 (by decide))
  refine ⟨_, _, _, rfl, rfl, (by decide), hc, ?_⟩
  refine ⟨_, rfl, _, _, rfl, rfl, _, rfl, by omega, by omega, for_range (lo := 0) (n := (n - 1).toNat) (fun i σ H' => ∃ z vo, σ = [some (.ref b), some (.str "abcdefghijklmnopqrstuvwxyz"), some (.int n), some (.str z), vo] ∧ Keep b H H' ∧ BagAt H' b ∧ z.length = 1 + i)
    ⟨_, _, rfl, k2'.trans k3, B3, rfl⟩ ?_ ?_⟩
  · rintro i σ H4 hi ⟨z, vo, rfl, k4, B4, hz⟩
    refine ⟨_, rfl, _, rfl, _, _, rfl, rfl, (by decide), _, rfl, b, 36, rfl, B4, by decide, fun r H5 k5 B5 r0 r1 r2 => ?_⟩
    obtain ⟨c, hc, _⟩ := atI_ex (xs := (Str.ofString "abcdefghijklmnopqrstuvwxyz" ++ Str.ofString "0123456789").cps.toList) r0 (by rw [codes_add, codes_let, codes_dig]; exact r1 (by decide))
    refine ⟨_, _, _, rfl, rfl, (by decide), hc, _, _, rfl, rfl, ?_, ?_⟩
    · rw [hz, len_one]
      exact Nat.le_trans (show 1 + i + 1 ≤ 14 by omega) (by decide)
    · exact ⟨_, _, rfl, k4.trans k5, B5, by rw [len_add, hz, len_one]; omega⟩
  · rintro σ H4 ⟨z, vo, rfl, k4, B4, hz⟩
    have hz' : z.length ≤ 12 := by omega
    refine ⟨fun σ H' => ∃ z vo, σ = [some (.ref b), some (.str "abcdefghijklmnopqrstuvwxyz"), some (.int n), some (.str z), vo] ∧ Keep b H H' ∧ BagAt H' b ∧ z.length ≤ 12, ?_, ?_⟩
    · refine ⟨_, rfl, b, 9, rfl, B4, by decide, fun r H5 k5 B5 r0 r1 r2 => ⟨rfl, _, rfl, ?_⟩⟩
      refine ite2 (fun _ => ?_) (fun _ => ?_)
      · refine ⟨_, rfl, (by show 12 ≤ sizeLine; decide), fun p hp => ?_⟩
        refine ⟨b, p, _, rfl, B5.same (Same.new hp), upd_same, B5.ne hp, (by show 0 < 12; decide), (by show 12 ≤ 1000; decide), fun v hv H6 k6 B6 => ?_⟩
        obtain ⟨z', rfl, hz2⟩ := strIn_ex (m := 12) (List.all_eq_true.mp (show ([V.str "y", .str "n", .str "ye", .str "yess", .str "yes1", .str "non", .str "nones", .str "no1", .str "noneyesno", .str "z9", .str "a", .str "none0"] : List V).all (strIn 12) = true by decide +kernel) v hv)
        exact ⟨z', vo, rfl, ((k4.trans k5).same (Same.new hp)).trans k6, B6, hz2⟩
      · exact ⟨z, vo, rfl, k4.trans k5, B5, hz'⟩
    · clear hz hz' k4 B4 z vo
      rintro σ H5 ⟨z, vo, rfl, k5, B5, hz⟩
      refine ⟨_, rfl, (by show 3 ≤ sizeLine; decide), fun p hp => ⟨p, _, rfl, .inl (SqL.of upd_same), rfl, rfl, _, rfl, ?_⟩⟩
      refine ite2 (fun _ => ?_) (fun _ => ?_)
      · refine ⟨_, rfl, _, _, rfl, rfl, Nat.le_trans (show z.length + 1 ≤ 13 by omega) (by decide), ?_⟩
        exact q _ _ (k5.same (Same.new hp)) (B5.same (Same.new hp)) (by rw [len_add]; exact Nat.le_trans (Nat.add_le_add_right hz _) (by decide))
      · exact ⟨_, rfl, q z _ (k5.same (Same.new hp)) (B5.same (Same.new hp)) (by omega)⟩
end
end K75
end
section
namespace K75
open PySem L2
open TL (numL numL_digits tl_num numL_len numL_lt numL_ne)
theorem foldl_lt : ∀ (w : List Nat) (a n : Nat), NumText.AllDigits w → a < 10 ^ n → w.foldl (fun acc c => acc * 10 + (c - 48)) a < 10 ^ (n + w.length)
  | [], a, n, _, h => h
  | c :: w, a, n, hd, h => by
    have hc := hd.head
    have h2 : a * 10 + (c - 48) < 10 ^ (n + 1) := by
      rw [Nat.pow_succ]
      omega
    have ih := foldl_lt w _ (n + 1) hd.tail h2
    rw [List.foldl_cons, List.length_cons, show n + (w.length + 1) = n + 1 + w.length by omega]
    exact ih
theorem digitsVal_lt {w : List Nat} (h : NumText.AllDigits w) : NumText.digitsVal w < 10 ^ w.length := by
  have q := foldl_lt w 0 0 h (by decide)
  rw [Nat.zero_add] at q
  exact q
/-- the codes of str(n), n small -/
theorem numL_small : ∀ n : Nat, n < 1000 → (numL n).length ≤ 3 ∧ 1 ≤ (numL n).length := by decide +kernel
theorem numL_one : ∀ n : Nat, n < 10 → (numL n).length = 1 := by decide +kernel
theorem codes_str {i : Int} (h : 0 ≤ i) : (Str.ofString (toString i)).cps.toList = numL i.toNat := by
  have e : i = ((i.toNat : Nat) : Int) := by omega
  rw [e, show ((i.toNat : Nat) : Int).toNat = i.toNat by omega]
  exact tl_num _
theorem small_pow {n : Nat} (h : n < 10 ^ 4) : n < 10 ^ 4300 := Nat.lt_of_lt_of_le h (Nat.pow_le_pow_right (by decide) (by decide))
section
variable {P : Program} {w : World} {K : PySem.W.Frag} {mg : Str → Option Value} {base : Heap}
/-! ### _law_p10_number -/
abbrev s_number : Stmt := top 28
abbrev N_number : List Str := ["_law_bag_here", "_law_way", "_law_number"]
theorem sc_number : FnScope N_number ["_law_bag_here"] (defScope s_number) := ⟨rfl, rfl, rfl, by decide +kernel, rfl, by decide +kernel, by decide +kernel⟩
/-- any int of at most 4000 digits -/
def spNumL : Sp := fun vs H Q _ => ∃ b : Addr, vs = [.ref b] ∧ BagAt H b ∧ ∀ (n : Int) (H' : Hp), Keep b H H' → BagAt H' b → n.natAbs < 10 ^ 4000 → Q (.int n) H'
/-- int(str(i) + str(j) * k) -/
theorem long_int {i j k : Int} {Q : V → Prop} (hi : 0 ≤ i) (hi2 : i < 1000) (hj : 0 ≤ j) (hj2 : j < 10) (hk : 0 ≤ k) (hk2 : (numL i.toNat).length + k.toNat ≤ 4000) (q : ∀ n : Int, n.natAbs < 10 ^ 4000 → Q (.int n)) :
    ∀ r : Str, r.cps.toList = (List.replicate k.toNat (Str.ofString (toString j)).cps.toList).flatten → (Str.ofString (toString i)).length + r.length ≤ sizeLine ∧
      ∃ n : Int, (Str.ofString (toString i) ++ r).length ≤ sizeLine ∧ (∀ c ∈ (Str.ofString (toString i) ++ r).cps.toList, c = 45 ∨ (48 ≤ c ∧ c ≤ 57)) ∧ PySem.intText? (Str.ofString (toString i) ++ r) = some n ∧ Q (.int n) := by
  intro r hr
  have ci := codes_str hi
  have cj := codes_str hj
  have l1 := numL_one j.toNat (by omega)
  have di : NumText.AllDigits (numL i.toNat) := numL_digits _
  have dr : NumText.AllDigits r.cps.toList := by
    intro c hc
    rw [hr, cj] at hc
    obtain ⟨l, hl, hcl⟩ := List.mem_flatten.mp hc
    rw [List.eq_of_mem_replicate hl] at hcl
    exact numL_digits _ c hcl
  have lr : r.length = k.toNat := by
    rw [← len_codes, hr, cj, List.length_flatten, List.map_replicate, List.sum_replicate_nat, l1, Nat.mul_one]
  have li : (Str.ofString (toString i)).length = (numL i.toNat).length := by rw [← len_codes, ci]
  have ea : (Str.ofString (toString i) ++ r).cps.toList = numL i.toNat ++ r.cps.toList := by rw [codes_add, ci]
  have da : NumText.AllDigits (Str.ofString (toString i) ++ r).cps.toList := by
    rw [ea]
    intro c hc
    rcases List.mem_append.mp hc with h | h
    · exact di c h
    · exact dr c h
  have la : (Str.ofString (toString i) ++ r).length ≤ 4000 := by
    rw [len_add, li, lr]
    exact hk2
  have hline : 4000 ≤ sizeLine := by decide
  refine ⟨by rw [li, lr]; exact Nat.le_trans hk2 hline, _, Nat.le_trans la hline, fun c hc => .inr (da c hc), PySem.intText_digits da ?_ (Nat.le_trans la (by decide)), q _ ?_⟩
  · rw [ea]
    intro z
    exact numL_ne _ (List.append_eq_nil_iff.mp z).1
  · rw [Int.natAbs_natCast]
    refine Nat.lt_of_lt_of_le (digitsVal_lt da) (Nat.pow_le_pow_right (by decide) ?_)
    rw [len_codes]
    exact la
theorem ok_number {f fD fK : Addr} {fd fdD fdK : FuncData} (F : Fun K "_law_p10_number" "_law_p10_number" s_number f fd) (T : Tx w K mg) (G_draw : CalDraw P w K mg base fD fdD) (G_pick : CalPick P w K mg base fK fdK) :
    FnOk P w K mg base CX0 4 f fd ["_law_bag_here"] spNumL := by
  refine F.ok sc_number (fun vs H Q E h => ?_) (fun cdv A outer s H vs Q E hr h => ?_)
  · obtain ⟨b, rfl, _⟩ := h
    rfl
  obtain ⟨b, rfl, hB, q⟩ := h
  refine ⟨_, (pss_cons (ps_set (i := 1) sc_number.nd rfl (.inl rfl) (pe_c G_draw (hr.mono (by decide)) (pa_cons (pv 0) (pa_cons pe_int pa_nil))))
      (pss_cons (ps_set (i := 2) sc_number.nd rfl (.inl rfl) (pe_c G_draw (hr.mono (by decide)) (pa_cons (pv 0) (pa_cons pe_int pa_nil))))
      (C8.pss_cut (ps_if (pt_cmpR op_eq (pv 1) pe_int (nomark _)) (pss_one (ps_set (i := 2) sc_number.nd rfl (.inl rfl) (pe_c G_draw (hr.mono (by decide)) (pa_cons (pv 0) (pa_cons (pe_op op_pow pe_int pe_int) pa_nil))))) pss_nil)
      (C8.pss_cut (ps_if (pt_cmpR op_eq (pv 1) pe_int (nomark _)) (pss_one (ps_set (i := 2) sc_number.nd rfl (.inl rfl) (pe_callTy (call_int_sgn T.nd) (by rfl) T.b_int (by decide +kernel) (pa_cons (pe_op op_add_str (pe_callTy (call_str_big T.nd rfl) (by rfl) T.b_str (by decide +kernel) (pa_cons (pe_op op_add pe_int (pe_c G_draw (hr.mono (by decide)) (pa_cons (pv 0) (pa_cons pe_int pa_nil)))) pa_nil)) (pe_op op_mulS (pe_callTy (call_str_big T.nd rfl) (by rfl) T.b_str (by decide +kernel) (pa_cons (pe_c G_draw (hr.mono (by decide)) (pa_cons (pv 0) (pa_cons pe_int pa_nil))) pa_nil)) (pe_c G_draw (hr.mono (by decide)) (pa_cons (pv 0) (pa_cons pe_int pa_nil))))) pa_nil)))) pss_nil)
      (C8.pss_cut (ps_if (PW.pt (pw_and (pt_cmpR op_eq (pv 1) pe_int (nomark _)) (pw_and1 (pt_cmpR op_eq (pe_c G_draw (hr.mono (by decide)) (pa_cons (pv 0) (pa_cons pe_int pa_nil))) pe_int (nomark _))))) (pss_one (ps_set (i := 2) sc_number.nd rfl (.inl rfl) (pe_callTy (call_int_sgn T.nd) (by rfl) T.b_int (by decide +kernel) (pa_cons (pe_op op_add_str (pe_callTy (call_str_big T.nd rfl) (by rfl) T.b_str (by decide +kernel) (pa_cons (pe_op op_add pe_int (pe_c G_draw (hr.mono (by decide)) (pa_cons (pv 0) (pa_cons pe_int pa_nil)))) pa_nil)) (pe_op op_mulS (pe_callTy (call_str_big T.nd rfl) (by rfl) T.b_str (by decide +kernel) (pa_cons (pe_c G_draw (hr.mono (by decide)) (pa_cons (pv 0) (pa_cons pe_int pa_nil))) pa_nil)) (pe_c G_pick (hr.mono (by decide)) (pa_cons (pv 0) (pa_cons (pe_lst (pa_cons pe_int (pa_cons pe_int (pa_cons pe_int (pa_cons pe_int pa_nil))))) pa_nil))))) pa_nil)))) pss_nil)
      (pss_cons (ps_if (pt_cmpR op_eq (pe_c G_draw (hr.mono (by decide)) (pa_cons (pv 0) (pa_cons pe_int pa_nil))) pe_int (nomark _)) (pss_one (ps_ret (pe_un un_neg (pv 2)))) pss_nil)
      (pss_one (ps_ret (pv 2))))))))), ?_⟩
  let Mid : L2.St → Hp → Prop := fun σ H' => ∃ y n : Int, σ = [some (.ref b), some (.int y), some (.int n)] ∧ Keep b H H' ∧ BagAt H' b ∧ n.natAbs < 10 ^ 4000
  have small : ∀ n : Int, 0 ≤ n → n < 10 ^ 40 → n.natAbs < 10 ^ 4000 := fun n h0 h1 => Nat.lt_of_lt_of_le (show n.natAbs < 10 ^ 40 by omega) (Nat.pow_le_pow_right (by decide) (by decide))
  refine ⟨_, rfl, b, 8, rfl, hB, by decide, fun y H1 k1 B1 y0 y1 y2 => ?_⟩
  refine ⟨_, rfl, b, 12, rfl, B1, by decide, fun n H2 k2 B2 n0 n1 n2 => ?_⟩
  have hn := small n n0 (Int.lt_trans (n1 (by decide)) (by decide))
  refine ⟨Mid, ?_, ?_⟩
  · refine ⟨_, rfl, rfl, _, rfl, ?_⟩
    refine ite2 (fun _ => ?_) (fun _ => ?_)
    · refine ⟨_, rfl, _, _, rfl, rfl, ⟨by decide, by decide, by decide⟩, b, 10 ^ 40, rfl, B2, by decide +kernel, fun r H3 k3 B3 r0 r1 r2 => ?_⟩
      exact ⟨_, _, rfl, (k1.trans k2).trans k3, B3, small r r0 (r1 (by decide +kernel))⟩
    · exact ⟨_, _, rfl, k1.trans k2, B2, hn⟩
  clear y0 y1 y2 n0 n1 n2 hn k1 B1 k2 B2 H1 H2 n
  rintro σ H1 ⟨y, n, rfl, k1, B1, hn⟩
  refine ⟨Mid, ?_, ?_⟩
  · refine ⟨_, rfl, rfl, _, rfl, ?_⟩
    refine ite2 (fun _ => ?_) (fun _ => ?_)
    · refine ⟨_, rfl, b, 999, rfl, B1, by decide, fun i H2 k2 B2 i0 i1 i2 => ⟨_, _, rfl, rfl, _, rfl, ?_, ?_⟩⟩
      · have := i1 (by decide)
        exact small_pow (by omega)
      refine ⟨_, rfl, b, 10, rfl, B2, by decide, fun j H3 k3 B3 j0 j1 j2 => ⟨_, rfl, ?_, ?_⟩⟩
      · have := j1 (by decide)
        exact small_pow (by omega)
      refine ⟨_, rfl, b, 40, rfl, B3, by decide, fun k H4 k4 B4 kk0 kk1 kk2 => ?_⟩
      have i1' := i1 (by decide)
      have j1' := j1 (by decide)
      have kk1' := kk1 (by decide)
      have hs := numL_small (1 + i).toNat (by omega)
      have lj : (Str.ofString (toString j)).length = 1 := by rw [← len_codes, codes_str j0, numL_one _ (by omega)]
      refine ⟨_, k, rfl, rfl, kk0, by omega, ?_, fun r hr => ?_⟩
      · rw [show ((Str.ofString (toString j)).length = 1) from lj]
        omega
      obtain ⟨e1, m, e2, e3, e4, e5⟩ := long_int (i := 1 + i) (j := j) (k := k) (Q := fun v => ∃ m : Int, v = .int m ∧ m.natAbs < 10 ^ 4000) (by omega) (by omega) j0 (by omega) kk0 (by omega) (fun m hm => ⟨m, rfl, hm⟩) r hr
      obtain ⟨m', e6, e7⟩ := e5
      injection e6 with e6
      subst e6
      exact ⟨_, _, rfl, rfl, e1, _, m, rfl, e2, e3, e4, _, _, rfl, ((k1.trans k2).trans k3).trans k4, B4, e7⟩
    · exact ⟨_, _, rfl, k1, B1, hn⟩
  clear y n k1 B1 hn H1
  rintro σ H1 ⟨y, n, rfl, k1, B1, hn⟩
  refine ⟨Mid, ?_, ?_⟩
  · refine ⟨_, rfl, rfl, _, rfl, ?_⟩
    refine ite2 (fun _ => ?_) (fun _ => ?_)
    · refine ⟨_, rfl, b, 6, rfl, B1, by decide, fun i0 H2 k2 B2 _ _ _ => ⟨rfl, _, rfl, ?_⟩⟩
      refine ite2 (fun _ => ?_) (fun _ => ?_)
      · refine ⟨_, rfl, b, 9, rfl, B2, by decide, fun i H3 k3 B3 i0 i1 i2 => ⟨_, _, rfl, rfl, _, rfl, ?_, ?_⟩⟩
        · have := i1 (by decide)
          exact small_pow (by omega)
        refine ⟨_, rfl, b, 10, rfl, B3, by decide, fun j H4 k4 B4 j0 j1 j2 => ⟨_, rfl, ?_, ?_⟩⟩
        · have := j1 (by decide)
          exact small_pow (by omega)
        refine ⟨_, rfl, (by show 4 ≤ sizeLine; decide), fun p hp => ?_⟩
        refine ⟨b, p, _, rfl, B4.same (Same.new hp), upd_same, B4.ne hp, (by show 0 < 4; decide), (by show 4 ≤ 1000; decide), fun v hv H5 k5 B5 => ?_⟩
        obtain ⟨k, rfl, kk0, kk1⟩ := intIn_ex (lo := 0) (hi := 3999) (List.all_eq_true.mp (show ([V.int 399, .int 400, .int 3998, .int 3999] : List V).all (intIn 0 3999) = true by decide +kernel) v hv)
        have i1' := i1 (by decide)
        have j1' := j1 (by decide)
        have hs := numL_one (1 + i).toNat (by omega)
        have lj : (Str.ofString (toString j)).length = 1 := by rw [← len_codes, codes_str j0, numL_one _ (by omega)]
        refine ⟨_, k, rfl, rfl, kk0, by omega, ?_, fun r hr => ?_⟩
        · rw [show ((Str.ofString (toString j)).length = 1) from lj]
          omega
        obtain ⟨e1, m, e2, e3, e4, e5⟩ := long_int (i := 1 + i) (j := j) (k := k) (Q := fun v => ∃ m : Int, v = .int m ∧ m.natAbs < 10 ^ 4000) (by omega) (by omega) j0 (by omega) kk0 (by omega) (fun m hm => ⟨m, rfl, hm⟩) r hr
        obtain ⟨m', e6, e7⟩ := e5
        injection e6 with e6
        subst e6
        exact ⟨_, _, rfl, rfl, e1, _, m, rfl, e2, e3, e4, _, _, rfl, ((((k1.trans k2).trans k3).trans k4).same (Same.new hp)).trans k5, B5, e7⟩
      · exact ⟨_, _, rfl, k1.trans k2, B2, hn⟩
    · refine iteF ?_
      exact ⟨_, _, rfl, k1, B1, hn⟩
  clear y n k1 B1 hn H1
  rintro σ H1 ⟨y, n, rfl, k1, B1, hn⟩
  refine ⟨_, rfl, b, 3, rfl, B1, by decide, fun r H2 k2 B2 r0 r1 r2 => ⟨rfl, _, rfl, ?_⟩⟩
  refine ite2 (fun _ => ?_) (fun _ => ?_)
  · exact ⟨_, rfl, _, rfl, q _ _ (k1.trans k2) B2 (by rw [Int.natAbs_neg]; exact hn)⟩
  · exact ⟨_, rfl, q _ _ (k1.trans k2) B2 hn⟩
end
end K75
end
section
namespace K75
open PySem L2
/-! ### how deep, how long, which ints -/
mutual
def dep : D → Nat
  | .tup ds => 1 + depAll ds
  | _ => 0
def depAll : List D → Nat
  | [] => 0
  | d :: ds => max (dep d) (depAll ds)
end
mutual
def wt : D → Nat
  | .tup ds => 2 + wtAll ds
  | .int _ => 4001
  | .str x => 1 + x.length
  | _ => 4
def wtAll : List D → Nat
  | [] => 0
  | d :: ds => (wt d + 1) + wtAll ds
end
mutual
def okd : D → Prop
  | .tup ds => okAll ds
  | .int i => i.natAbs < 10 ^ 4000
  | _ => True
def okAll : List D → Prop
  | [] => True
  | d :: ds => okd d ∧ okAll ds
end
/-- a value of depth at most n, of at most m signs -/
structure Fine (n m : Nat) (d : D) : Prop where
  hd : dep d ≤ n
  hw : wt d ≤ m
  ho : okd d
structure FineAll (n k m : Nat) (ds : List D) : Prop where
  hd : depAll ds ≤ n
  hw : wtAll ds ≤ ds.length * (m + 1)
  ho : okAll ds
  hl : ds.length = k
theorem FineAll.nil (n m : Nat) : FineAll n 0 m [] := ⟨Nat.zero_le _, Nat.zero_le _, trivial, rfl⟩
theorem depAll_snoc : ∀ (ds : List D) (d : D), depAll (ds ++ [d]) = max (depAll ds) (dep d)
  | [], d => by simp [depAll]
  | c :: ds, d => by
    show max (dep c) (depAll (ds ++ [d])) = max (max (dep c) (depAll ds)) (dep d)
    rw [depAll_snoc ds d]
    omega
theorem wtAll_snoc : ∀ (ds : List D) (d : D), wtAll (ds ++ [d]) = wtAll ds + (wt d + 1)
  | [], d => by simp [wtAll]
  | c :: ds, d => by
    show (wt c + 1) + wtAll (ds ++ [d]) = (wt c + 1) + wtAll ds + (wt d + 1)
    rw [wtAll_snoc ds d]
    omega
theorem okAll_snoc : ∀ (ds : List D) (d : D), okAll ds → okd d → okAll (ds ++ [d])
  | [], d, _, h => ⟨h, trivial⟩
  | c :: ds, d, h, h2 => ⟨h.1, okAll_snoc ds d h.2 h2⟩
theorem FineAll.snoc {n k m : Nat} {ds : List D} {d : D} (h : FineAll n k m ds) (g : Fine n m d) : FineAll n (k + 1) m (ds ++ [d]) := by
  refine ⟨?_, ?_, okAll_snoc ds d h.ho g.ho, by rw [List.length_append, h.hl]; rfl⟩
  · rw [depAll_snoc]
    exact Nat.max_le.mpr ⟨h.hd, g.hd⟩
  · rw [wtAll_snoc, List.length_append]
    have h1 := h.hw
    have h2 := g.hw
    show wtAll ds + (wt d + 1) ≤ (ds.length + 1) * (m + 1)
    rw [Nat.add_mul]
    omega
section
variable {P : Program} {w : World} {K : PySem.W.Frag} {mg : Str → Option Value} {base : Heap}
/-- any value of depth at most n, of at most m signs -/
def Vals_ (b : Addr) (H : Hp) (n m : Nat) (Q : VK) : Prop := ∀ (v : V) (d : D) (H' : Hp), Keep b H H' → BagAt H' b → Rp H' v d → Fine n m d → Q v H'
/-! ### _law_p10_atom -/
abbrev s_atom : Stmt := top 29
abbrev N_atom : List Str := ["_law_bag_here", "_law_way"]
theorem sc_atom : FnScope N_atom ["_law_bag_here"] (defScope s_atom) := ⟨rfl, rfl, rfl, by decide +kernel, rfl, by decide +kernel, by decide +kernel⟩
def spAtom : Sp := fun vs H Q _ => ∃ b : Addr, vs = [.ref b] ∧ BagAt H b ∧ Vals_ b H 0 4001 Q
theorem ok_atom {f fD fW fN : Addr} {fd fdD fdW fdN : FuncData} (F : Fun K "_law_p10_atom" "_law_p10_atom" s_atom f fd) (T : Tx w K mg) (G_draw : CalDraw P w K mg base fD fdD)
    (G_word : Cal P w K mg base CX0 "_law_p10_word" 4 fW fdW ["_law_bag_here"] spWordL) (G_number : Cal P w K mg base CX0 "_law_p10_number" 4 fN fdN ["_law_bag_here"] spNumL) :
    FnOk P w K mg base CX0 5 f fd ["_law_bag_here"] spAtom := by
  refine F.ok sc_atom (fun vs H Q E h => ?_) (fun cdv A outer s H vs Q E hr h => ?_)
  · obtain ⟨b, rfl, _⟩ := h
    rfl
  obtain ⟨b, rfl, hB, q⟩ := h
  refine ⟨_, (pss_cons (ps_set (i := 1) sc_atom.nd rfl (.inl rfl) (pe_c G_draw (hr.mono (by decide)) (pa_cons (pv 0) (pa_cons pe_int pa_nil))))
      (pss_cons (ps_if (pt_cmpR op_lt (pv 1) pe_int (nomark _)) (pss_one (ps_ret (pe_c G_word (hr.mono (by decide)) (pa_cons (pv 0) pa_nil)))) pss_nil)
      (pss_cons (ps_if (pt_cmpR op_eq (pv 1) pe_int (nomark _)) (pss_one (ps_ret pe_str)) pss_nil)
      (pss_cons (ps_if (pt_cmpR op_eq (pv 1) pe_int (nomark _)) (pss_one (ps_ret pe_non)) pss_nil)
      (pss_cons (ps_if (pt_cmpR op_eq (pv 1) pe_int (nomark _)) (pss_one (ps_ret (pe_cmpR op_eq (pe_c G_draw (hr.mono (by decide)) (pa_cons (pv 0) (pa_cons pe_int pa_nil))) pe_int (nomark _)))) pss_nil)
      (pss_one (ps_ret (pe_c G_number (hr.mono (by decide)) (pa_cons (pv 0) pa_nil))))))))), ?_⟩
  refine ⟨_, rfl, b, 9, rfl, hB, by decide, fun y H1 k1 B1 y0 y1 y2 => ?_⟩
  refine ⟨_, rfl, _, _, rfl, rfl, _, rfl, ?_⟩
  refine ite2 (fun _ => ?_) (fun _ => ?_)
  · refine ⟨_, rfl, b, rfl, B1, fun z H2 k2 B2 hz => ?_⟩
    refine q _ _ H2 (k1.trans k2) B2 (.str z) ⟨Nat.le_refl _, ?_, trivial⟩
    show 1 + z.cps.toList.length ≤ 4001
    rw [len_codes]
    omega
  refine ⟨_, rfl, rfl, _, rfl, ?_⟩
  refine ite2 (fun _ => ?_) (fun _ => ?_)
  · exact q _ _ H1 k1 B1 (.str "") ⟨Nat.le_refl _, (by decide), trivial⟩
  refine ⟨_, rfl, rfl, _, rfl, ?_⟩
  refine ite2 (fun _ => ?_) (fun _ => ?_)
  · exact q _ _ H1 k1 B1 .non ⟨Nat.le_refl _, (by decide), trivial⟩
  refine ⟨_, rfl, rfl, _, rfl, ?_⟩
  refine ite2 (fun _ => ?_) (fun _ => ?_)
  · refine ⟨_, rfl, b, 2, rfl, B1, by decide, fun r H2 k2 B2 _ _ _ => ⟨rfl, ?_⟩⟩
    exact q _ _ H2 (k1.trans k2) B2 (.bl _) ⟨Nat.le_refl _, (by show 4 ≤ 4001; decide), trivial⟩
  · refine ⟨_, rfl, b, rfl, B1, fun n H2 k2 B2 hn => ?_⟩
    exact q _ _ H2 (k1.trans k2) B2 (.int n) ⟨Nat.le_refl _, Nat.le_refl _, hn⟩
/-! ### _law_p10_value -/
abbrev s_value : Stmt := top 30
abbrev N_value : List Str := ["_law_bag_here", "_law_levels", "_law_k"]
theorem sc_value : FnScope N_value ["_law_bag_here", "_law_levels"] (defScope s_value) := ⟨rfl, rfl, rfl, by decide +kernel, rfl, by decide +kernel, by decide +kernel⟩
def spValue (m : Int) : Sp := fun vs H Q _ => ∃ b : Addr, vs = [.ref b, .int m] ∧ 0 ≤ m ∧ BagAt H b ∧ Vals_ b H m.toNat (4001 * 5 ^ m.toNat) Q
abbrev CalAtom (P : Program) (w : World) (K : PySem.W.Frag) (mg : Str → Option Value) (base : Heap) (f : Addr) (fd : FuncData) : Prop := Cal P w K mg base CX0 "_law_p10_atom" 5 f fd ["_law_bag_here"] spAtom
theorem kt_keep {H H' : Hp} {b : Addr} (k : Keep b H H') (B : BagAt H b) : ∀ a xs, H a = some (.tup xs) → H' a = some (.tup xs) := fun a xs e => by
  obtain ⟨ys, eb⟩ := B.some
  exact k.o a _ (ne_of e eb (by intro z; cases z)) e
theorem Rp.keep {H H' : Hp} {b : Addr} {v : V} {d : D} (h : Rp H v d) (k : Keep b H H') (B : BagAt H b) : Rp H' v d := h.mono (kt_keep k B)
theorem RpAll.keep {H H' : Hp} {b : Addr} {v : List V} {d : List D} (h : RpAll H v d) (k : Keep b H H') (B : BagAt H b) : RpAll H' v d := h.mono (kt_keep k B)
theorem Fine.up {n m n' m' : Nat} {d : D} (h : Fine n m d) (hn : n ≤ n') (hm : m ≤ m') : Fine n' m' d := ⟨Nat.le_trans h.hd hn, Nat.le_trans h.hw hm, h.ho⟩
theorem ok_value {m : Int} {k : Nat} {f fD fA : Addr} {fd fdD fdA : FuncData} (F : Fun K "_law_p10_value" "_law_p10_value" s_value f fd) (T : Tx w K mg) (G_draw : CalDraw P w K mg base fD fdD) (G_atom : CalAtom P w K mg base fA fdA)
    (G_value : Cal P w K mg base CX0 "_law_p10_value" k f fd ["_law_bag_here", "_law_levels"] (spValue (m - 1))) (hk : 5 ≤ k) : FnOk P w K mg base CX0 (k + 1) f fd ["_law_bag_here", "_law_levels"] (spValue m) := by
  refine F.ok sc_value (fun vs H Q E h => ?_) (fun cdv A outer s H vs Q E hr h => ?_)
  · obtain ⟨b, rfl, _⟩ := h
    rfl
  obtain ⟨b, rfl, hm, hB, q⟩ := h
  have h5 : 1 ≤ 5 ^ m.toNat := Nat.pow_pos (by decide)
  have hr5 : Room 5 _ := hr.mono hk
  have hr2 : Room 2 _ := hr5.mono (by decide)
  refine ⟨_, (pss_cons (ps_if (PW.pt (pw_or (pt_cmpR op_eq (pv 1) pe_int (nomark _)) (pw_or1 (pt_cmpR op_eq (pe_c G_draw hr2 (pa_cons (pv 0) (pa_cons pe_int pa_nil))) pe_int (nomark _))))) (pss_one (ps_ret (pe_c G_atom hr5 (pa_cons (pv 0) pa_nil)))) pss_nil)
      (pss_one (ps_ret (pe_callTy call_tuple_of (by rfl) T.b_tuple (by decide +kernel) (pa_cons (pe_lc (own := [("_law_k", 2)]) (g := gName 2) (tt := tYes) (by rfl) sc_value.nd (pi_range1 (by rfl) T.b_range (pa_cons (pe_c G_draw hr2 (pa_cons (pv 0) (pa_cons pe_int pa_nil))) pa_nil)) (blkOk_by (own := [("_law_k", 2)]) (N := N_value) (sc := defScope s_value) (by decide +kernel)) (fun _ _ _ _ _ => pg_name (i := 2) sc_value.nd rfl (Or.inl rfl)) (fun _ _ _ _ _ => pts_nil) (fun _ _ _ _ _ => (pe_c G_value hr (pa_cons (pv 0) (pa_cons (pe_op op_sub (pv 1) pe_int) pa_nil))))) pa_nil))))), ?_⟩
  have toAtom : ∀ H1, Keep b H H1 → BagAt H1 b → spAtom ([.ref b] ++ []) H1 Q E0 := fun H1 k1 B1 =>
    ⟨b, rfl, B1, fun v d H2 k2 B2 hv hf => q v d H2 (k1.trans k2) B2 hv (hf.up (Nat.zero_le _) (by omega))⟩
  refine ⟨_, rfl, rfl, _, rfl, ?_⟩
  by_cases h0 : V.int m = V.int 0
  · rw [decide_eq_true h0]
    refine iteT (iteT ?_)
    exact ⟨_, rfl, toAtom H (Keep.refl b H) hB⟩
  rw [decide_eq_false h0]
  have hm0 : m ≠ 0 := fun e => h0 (by rw [e])
  refine iteF ⟨_, rfl, b, 4, rfl, hB, by decide, fun r H1 k1 B1 _ _ _ => ⟨rfl, _, rfl, ?_⟩⟩
  refine ite2 (fun _ => ?_) (fun _ => ?_)
  · exact ⟨_, rfl, toAtom H1 k1 B1⟩
  refine ⟨_, rfl, b, 5, rfl, B1, by decide, fun n H2 k2 B2 n0 n1 n2 => ⟨n, rfl, ?_, ?_, fun D hD => ?_⟩⟩
  · have := n1 (by decide)
    omega
  · have := n1 (by decide)
    omega
  have n1' := n1 (by decide)
  have k12 := k1.trans k2
  have hDb : D ≠ b := B2.ne hD
  refine lc_range (lo := 0) (n := n.toNat) (fun i H' => ∃ xs ds, H' D = some (.lst xs) ∧ RpAll H' xs ds ∧ FineAll (m - 1).toNat i (4001 * 5 ^ (m - 1).toNat) ds ∧ Keep b H H' ∧ Keep b H2 H' ∧ BagAt H' b)
    ⟨[], [], upd_same, .nil, FineAll.nil _ _, k12.same (Same.new hD), Keep.of (Same.new hD), B2.same (Same.new hD)⟩ ?_ ?_
  · rintro i H3 hi ⟨xs, ds, hx, hrp, hf, k3, k23, B3⟩
    refine ⟨rfl, _, rfl, _, rfl, _, _, rfl, rfl, b, rfl, by omega, B3, fun v d H4 k4 B4 hv hfd => ?_⟩
    have hx4 := k4.o D _ hDb hx
    refine ⟨xs, hx4, ?_, xs ++ [v], ds ++ [d], upd_same, ?_, hf.snoc hfd, ?_, (k23.trans k4).wr hD (by obtain ⟨xs, e⟩ := B2.some; rw [e]; exact fun z => nomatch z), ?_⟩
    · have : xs.length = i := by rw [hrp.len, hf.hl]
      exact small1000 (by omega)
    · exact RpAll.snoc (hv.wr hx4) ((hrp.keep k4 B3).wr hx4)
    · exact (k3.trans k4).wr (k12.none hD hDb) (by obtain ⟨xs, e⟩ := hB.some; rw [e]; exact fun z => nomatch z)
    · exact B2.wr (k23.trans k4) B4 hD
  · rintro H3 ⟨xs, ds, hx, hrp, hf, k3, k23, B3⟩
    refine ⟨D, xs, rfl, .inl ⟨SqL.of hx, fun t ht => ?_⟩⟩
    have g := Same.new (o := HO.tup xs) ht
    refine q _ (.tup ds) _ (k3.same g) (B3.same g) (.tup upd_same (hrp.same g)) ⟨?_, ?_, hf.ho⟩
    · show 1 + depAll ds ≤ m.toNat
      have := hf.hd
      omega
    · show 2 + wtAll ds ≤ 4001 * 5 ^ m.toNat
      have h1 := hf.hw
      have h2 := hf.hl
      have e : m.toNat = (m - 1).toNat + 1 := by omega
      rw [e, Nat.pow_succ]
      have h6 : 1 ≤ 5 ^ (m - 1).toNat := Nat.pow_pos (by decide)
      have h7 : ds.length * (4001 * 5 ^ (m - 1).toNat + 1) ≤ 4 * (4001 * 5 ^ (m - 1).toNat + 1) := Nat.mul_le_mul_right _ (by omega)
      omega
/-! ### _law_p10_wrapped -/
abbrev s_wrapped : Stmt := top 31
abbrev N_wrapped : List Str := ["_law_bag_here", "_law_value", "_law_most", "_law_many", "_law_k", "_law_way"]
theorem sc_wrapped : FnScope N_wrapped ["_law_bag_here", "_law_value", "_law_most"] (defScope s_wrapped) := ⟨rfl, rfl, rfl, by decide +kernel, rfl, by decide +kernel, by decide +kernel⟩
def spWrapped : Sp := fun vs H Q _ => ∃ (b : Addr) (v : V) (d : D), vs = [.ref b, v, .int 58] ∧ BagAt H b ∧ Rp H v d ∧ Fine 2 100025 d ∧ Vals_ b H 61 400000 Q
theorem fine_two {n m k : Nat} {d e : D} (hd : Fine n m d) (he : Fine n k e) : Fine (n + 1) (m + k + 4) (.tup [d, e]) := by
  refine ⟨?_, ?_, hd.ho, he.ho, trivial⟩
  · show 1 + max (dep d) (max (dep e) 0) ≤ n + 1
    have := hd.hd
    have := he.hd
    omega
  · show 2 + ((wt d + 1) + ((wt e + 1) + 0)) ≤ m + k + 4
    have := hd.hw
    have := he.hw
    omega
theorem fine_one {n m : Nat} {d : D} (hd : Fine n m d) : Fine (n + 1) (m + 4) (.tup [d]) := by
  refine ⟨?_, ?_, hd.ho, trivial⟩
  · show 1 + max (dep d) 0 ≤ n + 1
    have := hd.hd
    omega
  · show 2 + ((wt d + 1) + 0) ≤ m + 4
    have := hd.hw
    omega
theorem small_pow' {n : Nat} (h : n < 10 ^ 4) : n < 10 ^ 4000 := Nat.lt_of_lt_of_le h (Nat.pow_le_pow_right (by decide) (by decide))
/-- one of a few small atoms, or the empty tuple at q -/
theorem small_one {H : Hp} {q : Addr} (hq : H q = some (.tup [])) : ∀ v ∈ [V.str "", .str "a", .int 0, .non, .bl true, .ref q], ∃ d, Rp H v d ∧ Fine 1 4001 d := by
  intro v hv
  simp only [List.mem_cons, List.not_mem_nil, or_false] at hv
  rcases hv with rfl | rfl | rfl | rfl | rfl | rfl
  · exact ⟨_, .str _, by decide, by decide, trivial⟩
  · exact ⟨_, .str _, by decide, by decide, trivial⟩
  · exact ⟨_, .int _, by decide, by decide, small_pow' (by decide)⟩
  · exact ⟨_, .non, by decide, by decide, trivial⟩
  · exact ⟨_, .bl _, by decide, by decide, trivial⟩
  · exact ⟨_, .tup hq .nil, by decide, by decide, trivial⟩
theorem small_two {H : Hp} : ∀ v ∈ [V.int 7, .str "no1", .bl false, .str "", .int (-1)], ∃ d, Rp H v d ∧ Fine 1 4001 d := by
  intro v hv
  simp only [List.mem_cons, List.not_mem_nil, or_false] at hv
  rcases hv with rfl | rfl | rfl | rfl | rfl
  · exact ⟨_, .int _, by decide, by decide, small_pow' (by decide)⟩
  · exact ⟨_, .str _, by decide, by decide, trivial⟩
  · exact ⟨_, .bl _, by decide, by decide, trivial⟩
  · exact ⟨_, .str _, by decide, by decide, trivial⟩
  · exact ⟨_, .int _, by decide, by decide, small_pow' (by decide)⟩
theorem ok_wrapped {f fD fK : Addr} {fd fdD fdK : FuncData} (F : Fun K "_law_p10_wrapped" "_law_p10_wrapped" s_wrapped f fd) (T : Tx w K mg) (G_draw : CalDraw P w K mg base fD fdD) (G_pick : CalPick P w K mg base fK fdK) :
    FnOk P w K mg base CX0 4 f fd ["_law_bag_here", "_law_value", "_law_most"] spWrapped := by
  refine F.ok sc_wrapped (fun vs H Q E h => ?_) (fun cdv A outer s H vs Q E hr h => ?_)
  · obtain ⟨b, v, d, rfl, _⟩ := h
    rfl
  obtain ⟨b, v, d, rfl, hB, hv, hf, q⟩ := h
  refine ⟨_, (pss_cons (ps_set (i := 3) sc_wrapped.nd rfl (.inl rfl) (pe_c G_pick (hr.mono (by decide)) (pa_cons (pv 0) (pa_cons (pe_lst (pa_cons pe_int (pa_cons pe_int (pa_cons (pe_callB (call_min2 rfl) (by rfl) T.b_min (by decide +kernel) (pa_cons (pv 2) (pa_cons (pe_op op_add pe_int (pe_c G_draw (hr.mono (by decide)) (pa_cons (pv 0) (pa_cons pe_int pa_nil)))) pa_nil))) (pa_cons (pe_c G_draw (hr.mono (by decide)) (pa_cons (pv 0) (pa_cons (pe_op op_add (pv 2) pe_int) pa_nil))) (pa_cons (pv 2) pa_nil)))))) pa_nil))))
      (pss_cons (ps_for PassesOwn.never rfl (pi_range1 (by rfl) T.b_range (pa_cons (pv 3) pa_nil)) (pg_name (i := 4) sc_wrapped.nd rfl (.inl rfl)) (pss_cons (ps_set (i := 5) sc_wrapped.nd rfl (.inl rfl) (pe_c G_draw (hr.mono (by decide)) (pa_cons (pv 0) (pa_cons pe_int pa_nil))))
      (pss_one (ps_if (pt_cmpR op_lt (pv 5) pe_int (nomark _)) (pss_one (ps_set (i := 1) sc_wrapped.nd rfl (.inl rfl) (pe_tup (pa_cons (pv 1) pa_nil)))) (pss_one (ps_if (pt_cmpR op_eq (pv 5) pe_int (nomark _)) (pss_one (ps_set (i := 1) sc_wrapped.nd rfl (.inl rfl) (pe_tup (pa_cons (pe_c G_pick (hr.mono (by decide)) (pa_cons (pv 0) (pa_cons (pe_lst (pa_cons pe_str (pa_cons pe_str (pa_cons pe_int (pa_cons pe_non (pa_cons pe_bl (pa_cons (pe_tup pa_nil) pa_nil))))))) pa_nil))) (pa_cons (pv 1) pa_nil))))) (pss_one (ps_set (i := 1) sc_wrapped.nd rfl (.inl rfl) (pe_tup (pa_cons (pv 1) (pa_cons (pe_c G_pick (hr.mono (by decide)) (pa_cons (pv 0) (pa_cons (pe_lst (pa_cons pe_int (pa_cons pe_str (pa_cons pe_bl (pa_cons pe_str (pa_cons (pe_un un_neg pe_int) pa_nil)))))) pa_nil))) pa_nil)))))))))))
      (pss_one (ps_ret (pv 1))))), ?_⟩
  refine ⟨_, rfl, _, rfl, _, rfl, b, 8, rfl, hB, by decide, fun r H1 k1 B1 r0 r1 r2 => ⟨_, _, rfl, rfl, _, _, rfl, _, rfl, _, rfl, _, _, rfl, rfl, b, _, rfl, B1, by decide, fun r' H2 k2 B2 r0' r1' r2' => ?_⟩⟩
  refine ⟨_, rfl, (by show 5 ≤ sizeLine; decide), fun p hp => ?_⟩
  refine ⟨b, p, _, rfl, B2.same (Same.new hp), upd_same, B2.ne hp, (by show 0 < 5; decide), (by show 5 ≤ 1000; decide), fun u hu H3 k3 B3 => ?_⟩
  have k123 : Keep b H H3 := ((k1.trans k2).same (Same.new hp)).trans k3
  obtain ⟨n, rfl, n1, n2⟩ : ∃ n, u = .int n ∧ 0 ≤ n ∧ n ≤ 58 := by
    have e1 := r1 (by decide)
    have e2 := r1' (by decide)
    have all : ∀ u ∈ [V.int 0, .int 0, .int (if 1 + r < 58 then 1 + r else 58), .int r', .int 58], intIn 0 58 u = true := by
      intro u hu
      simp only [List.mem_cons, List.not_mem_nil, or_false] at hu
      rcases hu with rfl | rfl | rfl | rfl | rfl
      · decide
      · decide
      · simp only [intIn, Bool.and_eq_true, decide_eq_true_eq]
        split <;> omega
      · simp only [intIn, Bool.and_eq_true, decide_eq_true_eq]
        omega
      · decide
    exact intIn_ex (all u hu)
  refine ⟨_, rfl, n, rfl, by omega, by omega, for_range (lo := 0) (n := n.toNat) (fun i σ H' => ∃ v d x y, σ = [some (.ref b), some v, some (.int 58), some (.int n), x, y] ∧ Rp H' v d ∧ Fine (2 + i) (100025 + i * 4100) d ∧ Keep b H H' ∧ BagAt H' b)
    ⟨v, d, _, _, rfl, hv.keep k123 hB, hf, k123, B3⟩ ?_ ?_⟩
  · rintro i σ H4 hi ⟨v, d, x, y, rfl, hv, hf, k4, B4⟩
    refine ⟨_, rfl, b, 4, rfl, B4, by decide, fun r H5 k5 B5 _ _ _ => ?_⟩
    refine ⟨_, rfl, _, _, rfl, rfl, _, rfl, ?_⟩
    have up : ∀ {d : D} {m : Nat}, Fine (2 + i + 1) m d → m ≤ 100025 + i * 4100 + 4001 + 4 → Fine (2 + (i + 1)) (100025 + (i + 1) * 4100) d := fun h e => h.up (by omega) (by omega)
    refine ite2 (fun _ => ?_) (fun _ => ?_)
    · refine ⟨_, rfl, (by show 1 ≤ sizeLine; decide), fun t ht => ?_⟩
      have g := Same.new (o := HO.tup [v]) ht
      exact ⟨_, .tup [d], _, _, rfl, .tup upd_same (.cons ((hv.keep k5 B4).same g) .nil), up (fine_one hf) (by omega), (k4.trans k5).same g, B5.same g⟩
    refine ⟨_, rfl, rfl, _, rfl, ?_⟩
    refine ite2 (fun _ => ?_) (fun _ => ?_)
    · refine ⟨_, rfl, (by show 0 ≤ sizeLine; decide), fun t0 ht0 => ⟨(by show 6 ≤ sizeLine; decide), fun p hp => ?_⟩⟩
      have g0 := Same.new (o := HO.tup []) ht0
      have g := g0.trans (Same.new (o := HO.lst [V.str "", .str "a", .int 0, .non, .bl true, .ref t0]) hp)
      have B6 := B5.same g
      refine ⟨b, p, _, rfl, B6, upd_same, (B5.same g0).ne hp, (by show 0 < 6; decide), (by show 6 ≤ 1000; decide), fun u hu H6 k6 B7 => ?_⟩
      have ht1 : upd (upd H5 t0 (.tup [])) p (.lst [V.str "", .str "a", .int 0, .non, .bl true, .ref t0]) t0 = some (.tup []) := by
        rw [upd_ne (ne_of_none upd_same hp)]
        exact upd_same
      obtain ⟨e, he, hfe⟩ := small_one ht1 u hu
      refine ⟨_, rfl, (by show 2 ≤ sizeLine; decide), fun t ht => ?_⟩
      have g2 := Same.new (o := HO.tup [u, v]) ht
      have hv6 : Rp H6 v d := ((hv.keep k5 B4).same g).keep k6 B6
      refine ⟨_, .tup [e, d], _, _, rfl, .tup upd_same (.cons ((he.keep k6 B6).same g2) (.cons (hv6.same g2) .nil)), up (fine_two (hfe.up (by omega) (Nat.le_refl _)) hf) (by omega), (((k4.trans k5).same g).trans k6).same g2, B7.same g2⟩
    · refine ⟨_, rfl, _, rfl, _, rfl, (by show 5 ≤ sizeLine; decide), fun p hp => ?_⟩
      have g := Same.new (o := HO.lst [V.int 7, .str "no1", .bl false, .str "", .int (-1)]) hp
      have B6 := B5.same g
      refine ⟨b, p, _, rfl, B6, upd_same, B5.ne hp, (by show 0 < 5; decide), (by show 5 ≤ 1000; decide), fun u hu H6 k6 B7 => ?_⟩
      obtain ⟨e, he, hfe⟩ := small_two (H := H6) u hu
      refine ⟨(by show 2 ≤ sizeLine; decide), fun t ht => ?_⟩
      have g2 := Same.new (o := HO.tup [v, u]) ht
      have hv6 : Rp H6 v d := ((hv.keep k5 B4).same g).keep k6 B6
      refine ⟨_, .tup [d, e], _, _, rfl, .tup upd_same (.cons (hv6.same g2) (.cons (he.same g2) .nil)), up (fine_two hf (hfe.up (by omega) (Nat.le_refl _))) (by omega), (((k4.trans k5).same g).trans k6).same g2, B7.same g2⟩
  · rintro σ H4 ⟨v, d, x, y, rfl, hv, hf, k4, B4⟩
    have e : n.toNat ≤ 58 := by omega
    exact ⟨_, rfl, q v d H4 k4 B4 hv (hf.up (by omega) (by omega))⟩
end
end K75
end
section
namespace K75
open PySem L2
open TL (numL numL_digits tl_num numL_len numL_lt numL_ne)
/-! ### the types of the values -/
def tn : D → String
  | .non => "NoneType"
  | .bl _ => "bool"
  | .int _ => "int"
  | .str _ => "str"
  | .tup _ => "tuple"
theorem Rp.ty {K : PySem.W.Frag} {H : Hp} {v : V} {d : D} (h : Rp H v d) : TyX K H v (.type (tn d)) := by
  cases h with
  | non => exact .base .non
  | bl b => exact .base (.bl b)
  | int i => exact .base (.int i)
  | str x => exact .base (.str x)
  | tup h hs => exact .base (.tup h)
def isTup : D → Bool
  | .tup _ => true
  | _ => false
def isBl : D → Bool
  | .bl _ => true
  | _ => false
def isStr : D → Bool
  | .str _ => true
  | _ => false
def isInt : D → Bool
  | .int _ => true
  | .bl _ => true
  | _ => false
theorem kitTup {K : PySem.W.Frag} (d : D) : PySem.W.kitOne K (.type (tn d)) (.type "tuple") = some (isTup d) := by
  cases d with
  | non => exact kit_ty (a := "NoneType") (b := "tuple") (r := false) (by decide +kernel)
  | bl b => exact kit_ty (a := "bool") (b := "tuple") (r := false) (by decide +kernel)
  | int i => exact kit_ty (a := "int") (b := "tuple") (r := false) (by decide +kernel)
  | str x => exact kit_ty (a := "str") (b := "tuple") (r := false) (by decide +kernel)
  | tup ds => exact kit_ty (a := "tuple") (b := "tuple") (r := true) (by decide +kernel)
theorem kitBl {K : PySem.W.Frag} (d : D) : PySem.W.kitOne K (.type (tn d)) (.type "bool") = some (isBl d) := by
  cases d with
  | non => exact kit_ty (a := "NoneType") (b := "bool") (r := false) (by decide +kernel)
  | bl b => exact kit_ty (a := "bool") (b := "bool") (r := true) (by decide +kernel)
  | int i => exact kit_ty (a := "int") (b := "bool") (r := false) (by decide +kernel)
  | str x => exact kit_ty (a := "str") (b := "bool") (r := false) (by decide +kernel)
  | tup ds => exact kit_ty (a := "tuple") (b := "bool") (r := false) (by decide +kernel)
theorem kitStr {K : PySem.W.Frag} (d : D) : PySem.W.kitOne K (.type (tn d)) (.type "str") = some (isStr d) := by
  cases d with
  | non => exact kit_ty (a := "NoneType") (b := "str") (r := false) (by decide +kernel)
  | bl b => exact kit_ty (a := "bool") (b := "str") (r := false) (by decide +kernel)
  | int i => exact kit_ty (a := "int") (b := "str") (r := false) (by decide +kernel)
  | str x => exact kit_ty (a := "str") (b := "str") (r := true) (by decide +kernel)
  | tup ds => exact kit_ty (a := "tuple") (b := "str") (r := false) (by decide +kernel)
theorem kitInt {K : PySem.W.Frag} (d : D) : PySem.W.kitOne K (.type (tn d)) (.type "int") = some (isInt d) := by
  cases d with
  | non => exact kit_ty (a := "NoneType") (b := "int") (r := false) (by decide +kernel)
  | bl b => exact kit_ty (a := "bool") (b := "int") (r := true) (by decide +kernel)
  | int i => exact kit_ty (a := "int") (b := "int") (r := true) (by decide +kernel)
  | str x => exact kit_ty (a := "str") (b := "int") (r := false) (by decide +kernel)
  | tup ds => exact kit_ty (a := "tuple") (b := "int") (r := false) (by decide +kernel)
/-! ### items -/
theorem RpAll.get {H : Hp} : ∀ {xs : List V} {ds : List D} {i : Nat} {v : V}, RpAll H xs ds → xs[i]? = some v → ∃ d, ds[i]? = some d ∧ Rp H v d
  | _, _, _, _, .nil, e => by simp at e
  | _, _, 0, _, .cons h _, e => by
    simp at e
    subst e
    exact ⟨_, rfl, h⟩
  | _, _, i + 1, v, .cons _ hs, e => by
    obtain ⟨d, h1, h2⟩ := RpAll.get (i := i) (v := v) hs (by simpa using e)
    exact ⟨d, by simpa using h1, h2⟩
theorem depAll_mem : ∀ {ds : List D} {d : D}, d ∈ ds → dep d ≤ depAll ds
  | c :: ds, d, h => by
    show dep d ≤ max (dep c) (depAll ds)
    rcases List.mem_cons.mp h with rfl | h
    · exact Nat.le_max_left _ _
    · exact Nat.le_trans (depAll_mem h) (Nat.le_max_right _ _)
theorem wtAll_mem : ∀ {ds : List D} {d : D}, d ∈ ds → wt d + 1 ≤ wtAll ds
  | c :: ds, d, h => by
    show wt d + 1 ≤ wt c + 1 + wtAll ds
    rcases List.mem_cons.mp h with rfl | h
    · exact Nat.le_add_right _ _
    · exact Nat.le_trans (wtAll_mem h) (Nat.le_add_left _ _)
theorem okAll_mem : ∀ {ds : List D} {d : D}, d ∈ ds → okAll ds → okd d
  | c :: ds, d, h, o => by
    rcases List.mem_cons.mp h with rfl | h
    · exact o.1
    · exact okAll_mem h o.2
theorem take_snoc {α : Type} {l : List α} {i : Nat} {x : α} (h : l[i]? = some x) : l.take (i + 1) = l.take i ++ [x] := by
  obtain ⟨h1, h2⟩ := List.getElem?_eq_some_iff.mp h
  rw [List.take_succ_eq_append_getElem h1, h2]
/-- the length of a written int -/
theorem str_int_len {i : Int} (h : i.natAbs < 10 ^ 4000) : (Str.ofString (toString i)).length ≤ 4001 := by
  have nat : ∀ n : Nat, n < 10 ^ 4000 → (Str.ofString (toString ((n : Nat) : Int))).length ≤ 4000 := fun n hn => by
    rw [← len_codes, codes_str (Int.natCast_nonneg n)]
    exact numL_len (by decide) hn
  cases i with
  | ofNat n => exact Nat.le_succ_of_le (nat n h)
  | negSucc n =>
    have e : toString (Int.negSucc n) = "-" ++ toString ((n + 1 : Nat) : Int) := rfl
    have q := nat (n + 1) h
    rw [PySem.ofString_length] at q
    rw [e, PySem.ofString_length, String.length_append]
    show 1 + _ ≤ 4001
    omega
section
variable {P : Program} {w : World} {K : PySem.W.Frag} {mg : Str → Option Value} {base : Heap}
/-! ### _law_p10_text -/
abbrev s_text : Stmt := top 32
abbrev N_text : List Str := ["_law_value", "_law_text", "_law_part"]
theorem sc_text : FnScope N_text ["_law_value"] (defScope s_text) := ⟨rfl, rfl, rfl, by decide +kernel, rfl, by decide +kernel, by decide +kernel⟩
def spText (n : Nat) : Sp := fun vs H Q _ => ∃ (v : V) (d : D), vs = [v] ∧ Rp H v d ∧ dep d < n ∧ okd d ∧ wt d ≤ 1000000 ∧ ∀ (z : Str) (H' : Hp), Same H H' → z.length ≤ wt d → Q (.str z) H'
theorem ok_text {n k : Nat} {f : Addr} {fd : FuncData} (F : Fun K "_law_p10_text" "_law_p10_text" s_text f fd) (T : Tx w K mg) (G_text : Cal P w K mg base CX0 "_law_p10_text" k f fd ["_law_value"] (spText n)) :
    FnOk P w K mg base CX0 (k + 1) f fd ["_law_value"] (spText (n + 1)) := by
  refine F.ok sc_text (fun vs H Q E h => ?_) (fun cdv A outer s H vs Q E hr h => ?_)
  · obtain ⟨v, d, rfl, _⟩ := h
    rfl
  obtain ⟨v, d, rfl, hv, hd, ho, hw, q⟩ := h
  have hline : 1000010 ≤ sizeLine := by decide
  refine ⟨_, (pss_cons (ps_if (pt_val (pe_callB call_isi (by rfl) T.b_isinstance (by decide +kernel) (pa_cons (pv 0) (pa_cons (pe_bltn (v := .ty "tuple") rfl T.b_tuple (by decide +kernel) rfl) pa_nil)))) (pss_cons (ps_set (i := 1) sc_text.nd rfl (.inl rfl) pe_str)
      (pss_cons (ps_for PassesOwn.never rfl (pi_tup (pv 0)) (pg_name (i := 2) sc_text.nd rfl (.inl rfl)) (pss_one (ps_set (i := 1) sc_text.nd rfl (.inl rfl) (pe_op op_add_str (pe_op op_add_str (pv 1) pe_str) (pe_c G_text hr (pa_cons (pv 2) pa_nil))))))
      (pss_one (ps_ret (pe_op op_add_str (pe_op op_add_str pe_str (pe_slice sl_str (pv 1) (po_some pe_int) po_none)) pe_str))))) pss_nil)
      (pss_cons (ps_if (pt_cmpR op_isN (pv 0) pe_non (nomark _)) (pss_one (ps_ret pe_str)) pss_nil)
      (pss_cons (ps_if (pt_val (pe_callB call_isi (by rfl) T.b_isinstance (by decide +kernel) (pa_cons (pv 0) (pa_cons (pe_bltn (v := .ty "bool") rfl T.b_bool (by decide +kernel) rfl) pa_nil)))) (pss_one (ps_ret (pe_ix ix_list (pe_lst (pa_cons pe_str (pa_cons pe_str pa_nil))) (pe_callTy call_int1 (by rfl) T.b_int (by decide +kernel) (pa_cons (pv 0) pa_nil)) (fun _ _ => rfl)))) pss_nil)
      (pss_cons (ps_if (pt_val (pe_callB call_isi (by rfl) T.b_isinstance (by decide +kernel) (pa_cons (pv 0) (pa_cons (pe_bltn (v := .ty "str") rfl T.b_str (by decide +kernel) rfl) pa_nil)))) (pss_one (ps_ret (pe_ifExp (pt_cmpR op_ne (pv 0) pe_str (nomark _)) (pv 0) pe_str))) pss_nil)
      (pss_one (ps_ret (pe_callTy (call_str_big T.nd rfl) (by rfl) T.b_str (by decide +kernel) (pa_cons (pv 0) pa_nil)))))))), ?_⟩
  refine ⟨_, rfl, v, .ty "tuple", _, _, isTup d, rfl, .ty _, hv.ty, kitTup d, _, rfl, ?_⟩
  cases hv with
  | @tup a xs ds ha hs =>
    refine iteT ⟨_, rfl, a, rfl, ⟨xs, SqT.of ha⟩, for_tup (K := K) (a := a) (xs := xs) (fun i σ H' => ∃ z x, σ = [some (.ref a), some (.str z), x] ∧ Same H H' ∧ z.length ≤ wtAll (ds.take i)) ⟨_, _, rfl, Same.refl H, Nat.zero_le _⟩
      (fun i σ H' _ ⟨_, _, _, g, _⟩ => SqT.of (g _ _ ha)) ?_ ?_⟩
    · rintro i x σ H1 hi ⟨z, y, rfl, g, hz⟩
      obtain ⟨e, he, hre⟩ := hs.get hi
      have hm := List.mem_of_getElem? he
      have hw2 : 2 + wtAll ds ≤ 1000000 := hw
      have e1 := wtAll_mem hm
      have e2 : wtAll (ds.take (i + 1)) = wtAll (ds.take i) + (wt e + 1) := by rw [take_snoc he, wtAll_snoc]
      have e3 : wtAll (ds.take (i + 1)) ≤ wtAll ds := by
        have : ∀ (l m : List D), wtAll l ≤ wtAll (l ++ m) := by
          intro l m
          induction l with
          | nil => exact Nat.zero_le _
          | cons c l ih => exact Nat.add_le_add_left ih _
        have q := this (ds.take (i + 1)) (ds.drop (i + 1))
        rw [List.take_append_drop] at q
        exact q
      refine ⟨_, rfl, _, _, rfl, rfl, ?_, _, rfl, x, e, rfl, hre.same g, ?_, okAll_mem hm ho, by omega, fun t H2 g2 ht => ⟨_, _, rfl, rfl, ?_, _, _, rfl, g.trans g2, ?_⟩⟩
      · exact Nat.le_trans (show z.length + 1 ≤ 1000010 by omega) hline
      · have := depAll_mem hm
        have : 1 + depAll ds < n + 1 := hd
        omega
      · rw [len_add]
        exact Nat.le_trans (show z.length + 1 + t.length ≤ 1000010 by omega) hline
      · rw [len_add, len_add, e2]
        show z.length + 1 + t.length ≤ _
        omega
    · rintro σ H1 ⟨z, y, rfl, g, hz⟩
      have hw2 : 2 + wtAll ds ≤ 1000000 := hw
      have e4 : ds.take xs.length = ds := by rw [hs.len, List.take_length]
      rw [e4] at hz
      have hc := cutS_length z (some 1) none
      refine ⟨_, rfl, _, rfl, z, rfl, Nat.le_trans (show z.length ≤ 1000010 by omega) hline, _, _, rfl, rfl, ?_, _, _, rfl, rfl, ?_, ?_⟩
      · exact Nat.le_trans (show 1 + (cutS z (some 1) none).length ≤ 1000010 by omega) hline
      · rw [len_add]
        exact Nat.le_trans (show 1 + (cutS z (some 1) none).length + 1 ≤ 1000010 by omega) hline
      · refine q _ H1 g ?_
        rw [len_add, len_add]
        show 1 + (cutS z (some 1) none).length + 1 ≤ 2 + wtAll ds
        omega
  | non =>
    refine iteF ?_
    refine ⟨_, rfl, rfl, _, rfl, ?_⟩
    exact iteT (q _ H (Same.refl H) (by decide))
  | bl b =>
    refine iteF ?_
    refine ⟨_, rfl, rfl, _, rfl, ?_⟩
    refine iteF ?_
    refine ⟨_, rfl, _, .ty "bool", _, _, true, rfl, .ty _, (Rp.bl b).ty, kitBl (.bl b), _, rfl, ?_⟩
    refine iteT ⟨(by show 2 ≤ sizeLine; decide), fun p hp => ⟨_, rfl, .inr ⟨b, rfl, p, _, _, ?_, rfl, rfl, SqL.of upd_same, ?_, ?_⟩⟩⟩
    · exact if b then .str "yes" else .str "no"
    · cases b <;> rfl
    · cases b
      · exact q _ _ (Same.new hp) (by decide)
      · exact q _ _ (Same.new hp) (by decide)
  | int i =>
    refine iteF ?_
    refine ⟨_, rfl, rfl, _, rfl, ?_⟩
    refine iteF ?_
    refine ⟨_, rfl, _, .ty "bool", _, _, false, rfl, .ty _, (Rp.int i).ty, kitBl (.int i), _, rfl, ?_⟩
    refine iteF ?_
    refine ⟨_, rfl, _, .ty "str", _, _, false, rfl, .ty _, (Rp.int i).ty, kitStr (.int i), _, rfl, ?_⟩
    refine iteF ?_
    exact ⟨_, rfl, i, rfl, Nat.lt_of_lt_of_le ho (Nat.pow_le_pow_right (by decide) (by decide)), q _ H (Same.refl H) (str_int_len ho)⟩
  | str x =>
    refine iteF ?_
    refine ⟨_, rfl, rfl, _, rfl, ?_⟩
    refine iteF ?_
    refine ⟨_, rfl, _, .ty "bool", _, _, false, rfl, .ty _, (Rp.str x).ty, kitBl (.str x.cps.toList), _, rfl, ?_⟩
    refine iteF ?_
    refine ⟨_, rfl, _, .ty "str", _, _, true, rfl, .ty _, (Rp.str x).ty, kitStr (.str x.cps.toList), _, rfl, ?_⟩
    refine iteT ⟨_, rfl, rfl, _, rfl, ?_⟩
    refine ite2 (fun _ => ?_) (fun _ => ?_)
    · refine ⟨_, rfl, q _ H (Same.refl H) ?_⟩
      show x.length ≤ 1 + x.cps.toList.length
      rw [len_codes]
      omega
    · refine q _ H (Same.refl H) ?_
      show 1 ≤ 1 + x.cps.toList.length
      omega
end
end K75
end
section
namespace K75
open PySem L2
/-! ### what is read is not too deep, its rows not too long -/
mutual
def lenOk : D → Prop
  | .tup ds => ds.length ≤ 1000000 ∧ lenAll ds
  | _ => True
def lenAll : List D → Prop
  | [] => True
  | d :: ds => lenOk d ∧ lenAll ds
end
theorem lenAll_snoc : ∀ (ds : List D) (d : D), lenAll ds → lenOk d → lenAll (ds ++ [d])
  | [], d, _, h => ⟨h, trivial⟩
  | c :: ds, d, h, h2 => ⟨h.1, lenAll_snoc ds d h.2 h2⟩
theorem lenAll_mem : ∀ {ds : List D} {d : D}, d ∈ ds → lenAll ds → lenOk d
  | c :: ds, d, h, o => by
    rcases List.mem_cons.mp h with rfl | h
    · exact o.1
    · exact lenAll_mem h o.2
def RowsOk : List (List D) → Nat → Prop
  | [], _ => True
  | row :: rows, n => row.length + n ≤ 1000000 ∧ lenAll row ∧ depAll row + (rows.length + 1) ≤ 60 ∧ RowsOk rows n
theorem RowsOk.mono : ∀ {rows : List (List D)} {n m : Nat}, RowsOk rows n → m ≤ n → RowsOk rows m
  | [], _, _, _, _ => trivial
  | row :: rows, n, m, h, e => ⟨Nat.le_trans (Nat.add_le_add_left e _) h.1, h.2.1, h.2.2.1, h.2.2.2.mono e⟩
theorem atom_fine {d : D} (h : atom d = true) : dep d = 0 ∧ lenOk d := by
  cases d with
  | tup ds => cases h
  | _ => exact ⟨rfl, trivial⟩
theorem piece_atom {l r : List Nat} {d : D} (h : piece l = some (d, r)) : atom d = true := by
  cases l with
  | nil => cases h
  | cons c l =>
    rw [piece_cons] at h
    split at h
    · cases h
      unfold wordVal special?
      repeat' split
      all_goals rfl
    · split at h
      · have e7 := Option.some.inj h
        unfold numAt at e7
        split at e7 <;> (cases e7; rfl)
      · split at h
        · have e7 := Option.some.inj h
          unfold signAt numAt at e7
          split at e7
          · split at e7 <;> (cases e7; rfl)
          · cases e7
            rfl
        · cases h
def AftOk : Res ⊕ (List (List D) × List Nat) → Prop
  | .inl (.ok d) => dep d ≤ 60 ∧ lenOk d
  | .inl (.bad _) => True
  | .inr (rows, l) => RowsOk rows l.length
theorem aftp_ok : ∀ (l : List Nat) (rows : List (List D)) (v : D), RowsOk rows l.length → dep v + rows.length ≤ 60 → lenOk v → AftOk (aft (pops rows v l))
  | [], [], v, _, h2, h3 => ⟨h2, h3⟩
  | [], row :: rows, v, _, _, _ => trivial
  | c :: l, [], v, _, _, _ => trivial
  | c :: l, row :: rows, v, h1, h2, h3 => by
    by_cases h41 : ∃ r, c :: l = 41 :: r
    · obtain ⟨r, e⟩ := h41
      cases e
      refine aftp_ok l rows (.tup (row ++ [v])) (h1.2.2.2.mono (by simp)) ?_ ⟨?_, lenAll_snoc row v h1.2.1 h3⟩
      · show 1 + depAll (row ++ [v]) + rows.length ≤ 60
        rw [depAll_snoc]
        have := h1.2.2.1
        simp only [List.length_cons] at h2
        omega
      · have := h1.1
        simp only [List.length_cons, List.length_append, List.length_nil] at this ⊢
        omega
    · rw [pops_stop h41]
      by_cases h32 : ∃ r, c :: l = 32 :: r
      · obtain ⟨r, e⟩ := h32
        cases e
        refine ⟨?_, lenAll_snoc row v h1.2.1 h3, ?_, h1.2.2.2.mono (by simp)⟩
        · have := h1.1
          simp only [List.length_cons, List.length_append, List.length_nil] at this ⊢
          omega
        · rw [depAll_snoc]
          have := h1.2.2.1
          simp only [List.length_cons] at h2
          omega
      · rw [aft_bad h32]
        trivial
theorem turn_ok {rows : List (List D)} {l : List Nat} (h : RowsOk rows l.length) (h60 : rows.length ≤ 60) (hl : l.length ≤ 1000000) : AftOk (turn rows l) := by
  by_cases h40 : ∃ r, l = 40 :: r
  · obtain ⟨r, rfl⟩ := h40
    by_cases h6 : rows.length < 60
    · by_cases h41 : ∃ r', r = 41 :: r'
      · obtain ⟨r', rfl⟩ := h41
        rw [turn_open1 h6]
        refine aftp_ok r' rows (.tup []) (h.mono (by simp; omega)) ?_ ⟨by decide, trivial⟩
        show 1 + 0 + rows.length ≤ 60
        omega
      · rw [turn_open2 h6 h41]
        simp only [List.length_cons] at hl
        refine ⟨?_, trivial, ?_, h.mono (by simp)⟩
        · show 0 + r.length ≤ 1000000
          omega
        · show 0 + (rows.length + 1) ≤ 60
          omega
    · rw [turn_open3 h6]
      trivial
  · cases e : piece l with
    | none =>
      rw [turn_none h40 e]
      trivial
    | some p =>
      obtain ⟨d, r⟩ := p
      rw [turn_some h40 e]
      have hf := atom_fine (piece_atom e)
      have hlen := piece_len e
      exact aftp_ok r rows d (h.mono (by omega)) (by omega) hf.2
theorem run_ok : ∀ (n : Nat) (rows : List (List D)) (l : List Nat) (d : D), RowsOk rows l.length → rows.length ≤ 60 → l.length ≤ 1000000 → run n rows l = .ok d → dep d ≤ 60 ∧ lenOk d
  | 0, _, _, _, _, _, _, h => by cases h
  | n + 1, rows, l, d, h1, h2, h3, h => by
    have a := turn_ok h1 h2 h3
    rw [run_go] at h
    cases e : turn rows l with
    | inl x =>
      rw [e] at h a
      have h' : x = .ok d := h
      subst h'
      exact a
    | inr p =>
      rw [e] at h a
      obtain ⟨rows', l'⟩ := p
      have b := turn_len e h2
      exact run_ok n rows' l' d a b.2 (by omega) h
theorem parse_ok {l : List Nat} {d : D} (hl : l.length ≤ 1000000) (h : parse l = .ok d) : dep d ≤ 60 ∧ lenOk d := run_ok _ [] l d trivial (by decide) hl h
section
variable {P : Program} {w : World} {K : PySem.W.Frag} {mg : Str → Option Value} {base : Heap}
/-! ### _law_is_int -/
abbrev s_is_int : Stmt := top 26
theorem sc_is_int : FnScope ["_law_thing"] ["_law_thing"] (defScope s_is_int) := ⟨rfl, rfl, rfl, by decide +kernel, rfl, by decide +kernel, by decide +kernel⟩
def spIsInt : Sp := fun vs H Q _ => ∃ i : Int, vs = [.int i] ∧ Q (.bl true) H
theorem ok_is_int {f : Addr} {fd : FuncData} (F : Fun K "_law_is_int" "_law_is_int" s_is_int f fd) (T : Tx w K mg) : FnOk P w K mg base CX0 1 f fd ["_law_thing"] spIsInt := by
  refine F.ok sc_is_int (fun vs H Q E h => ?_) (fun cdv A outer s H vs Q E hr h => ?_)
  · obtain ⟨i, rfl, _⟩ := h
    rfl
  obtain ⟨i, rfl, q⟩ := h
  refine ⟨_, (pss_one (ps_ret (pe_and (pe_callB call_isi (by rfl) T.b_isinstance (by decide +kernel) (pa_cons (pv 0) (pa_cons (pe_bltn (v := .ty "int") rfl T.b_int (by decide +kernel) rfl) pa_nil))) (pe_one (pe_not (pe_callB call_isi (by rfl) T.b_isinstance (by decide +kernel) (pa_cons (pv 0) (pa_cons (pe_bltn (v := .ty "bool") rfl T.b_bool (by decide +kernel) rfl) pa_nil)))))))), ?_⟩
  refine ⟨_, rfl, _, .ty "int", _, _, true, rfl, .ty _, (Rp.int (H := H) i).ty, kitInt (.int i), _, rfl, ?_⟩
  refine iteT ⟨_, rfl, _, .ty "bool", _, _, false, rfl, .ty _, (Rp.int (H := H) i).ty, kitBl (.int i), _, rfl, q⟩
/-! ### _law_p10_same -/
abbrev s_same : Stmt := top 33
abbrev N_same : List Str := ["_law_actual", "_law_due", "_law_k"]
theorem sc_same : FnScope N_same ["_law_actual", "_law_due"] (defScope s_same) := ⟨rfl, rfl, rfl, by decide +kernel, rfl, by decide +kernel, by decide +kernel⟩
def spSame (n : Nat) : Sp := fun vs H Q _ => ∃ (u v : V) (d : D), vs = [u, v] ∧ Rp H u d ∧ Rp H v d ∧ dep d < n ∧ lenOk d ∧ ∀ H', Same H H' → Q (.bl true) H'
theorem ok_same {n k : Nat} {f fI : Addr} {fd fdI : FuncData} (F : Fun K "_law_p10_same" "_law_p10_same" s_same f fd) (T : Tx w K mg) (G_same : Cal P w K mg base CX0 "_law_p10_same" k f fd ["_law_actual", "_law_due"] (spSame n))
    (G_is_int : Cal P w K mg base CX0 "_law_is_int" 1 fI fdI ["_law_thing"] spIsInt) (hk : 1 ≤ k) : FnOk P w K mg base CX0 (k + 1) f fd ["_law_actual", "_law_due"] (spSame (n + 1)) := by
  refine F.ok sc_same (fun vs H Q E h => ?_) (fun cdv A outer s H vs Q E hr h => ?_)
  · obtain ⟨u, v, d, rfl, _⟩ := h
    rfl
  obtain ⟨u, v, d, rfl, hu, hv, hd, ho, q⟩ := h
  refine ⟨_, (pss_cons (ps_if (pt_val (pe_callB call_isi (by rfl) T.b_isinstance (by decide +kernel) (pa_cons (pv 1) (pa_cons (pe_bltn (v := .ty "tuple") rfl T.b_tuple (by decide +kernel) rfl) pa_nil)))) (pss_cons (ps_if (PW.pt (pw_or (pt_not (pt_val (pe_callB call_isi (by rfl) T.b_isinstance (by decide +kernel) (pa_cons (pv 0) (pa_cons (pe_bltn (v := .ty "tuple") rfl T.b_tuple (by decide +kernel) rfl) pa_nil))))) (pw_or1 (pt_cmpR op_ne (pe_callB call_len_seq (by rfl) T.b_len (by decide +kernel) (pa_cons (pv 0) pa_nil)) (pe_callB call_len_seq (by rfl) T.b_len (by decide +kernel) (pa_cons (pv 1) pa_nil)) (nomark _))))) (pss_one (ps_ret pe_bl)) pss_nil)
      (pss_one (ps_ret (pe_cmpR op_eq (pe_callB call_len_seq (by rfl) T.b_len (by decide +kernel) (pa_cons (pe_lc (own := [("_law_k", 2)]) (g := gName 2) (by rfl) sc_same.nd (pi_range1 (by rfl) T.b_range (pa_cons (pe_callB call_len_seq (by rfl) T.b_len (by decide +kernel) (pa_cons (pv 1) pa_nil)) pa_nil)) (blkOk_by (own := [("_law_k", 2)]) (N := N_same) (sc := defScope s_same) (by decide +kernel)) (fun _ _ _ _ _ => pg_name (i := 2) sc_same.nd rfl (Or.inl rfl)) (fun _ _ _ _ _ => (pts_one (pt_not (pt_val (pe_c G_same hr (pa_cons (pe_ix (show IxR _ (rIxT K) from ix_tup) (pv 0) (pv 2) (fun _ _ => rfl)) (pa_cons (pe_ix (show IxR _ (rIxT K) from ix_tup) (pv 1) (pv 2) (fun _ _ => rfl)) pa_nil))))))) (fun _ _ _ _ _ => (pv 2))) pa_nil)) pe_int (nomark _))))) pss_nil)
      (pss_cons (ps_if (pt_cmpR op_isN (pv 1) pe_non (nomark _)) (pss_one (ps_ret (pe_cmpR op_isN (pv 0) pe_non (nomark _)))) pss_nil)
      (pss_cons (ps_if (pt_val (pe_callB call_isi (by rfl) T.b_isinstance (by decide +kernel) (pa_cons (pv 1) (pa_cons (pe_bltn (v := .ty "bool") rfl T.b_bool (by decide +kernel) rfl) pa_nil)))) (pss_one (ps_ret (pe_and (pe_callB call_isi (by rfl) T.b_isinstance (by decide +kernel) (pa_cons (pv 0) (pa_cons (pe_bltn (v := .ty "bool") rfl T.b_bool (by decide +kernel) rfl) pa_nil))) (pe_one (pe_cmpR op_eq (pv 0) (pv 1) (nomark _)))))) pss_nil)
      (pss_cons (ps_if (pt_val (pe_callB call_isi (by rfl) T.b_isinstance (by decide +kernel) (pa_cons (pv 1) (pa_cons (pe_bltn (v := .ty "str") rfl T.b_str (by decide +kernel) rfl) pa_nil)))) (pss_one (ps_ret (pe_and (pe_callB call_isi (by rfl) T.b_isinstance (by decide +kernel) (pa_cons (pv 0) (pa_cons (pe_bltn (v := .ty "str") rfl T.b_str (by decide +kernel) rfl) pa_nil))) (pe_one (pe_cmpR op_eq (pv 0) (pv 1) (nomark _)))))) pss_nil)
      (pss_one (ps_ret (pe_and (pe_c G_is_int (hr.mono hk) (pa_cons (pv 0) pa_nil)) (pe_one (pe_cmpR op_eq (pv 0) (pv 1) (nomark _)))))))))), ?_⟩
  refine ⟨_, rfl, v, .ty "tuple", _, _, isTup d, rfl, .ty _, hv.ty, kitTup d, _, rfl, ?_⟩
  have kb : ∀ b : Bool, decide (V.bl b = V.bl b) = true := fun b => decide_eq_true rfl
  cases hv with
  | @tup a xs ds ha hs =>
    cases hu with
    | @tup a' xs' ds ha' hs' =>
    have el : xs'.length = xs.length := by rw [hs.len, hs'.len]
    have hxl : xs.length ≤ 1000000 := by rw [hs.len]; exact ho.1
    refine iteT ⟨_, rfl, .ref a', .ty "tuple", _, _, true, rfl, .ty _, (Rp.tup ha' hs').ty, kitTup (.tup ds), _, rfl, ?_⟩
    refine iteF ⟨_, rfl, a', xs', rfl, .inr (SqT.of ha'), _, rfl, a, xs, rfl, .inr (SqT.of ha), rfl, _, rfl, ?_⟩
    rw [el]
    have e0 : (!decide (V.int (xs.length : Int) = V.int (xs.length : Int))) = false := by rw [decide_eq_true rfl]; rfl
    rw [e0]
    refine iteF ?_
    refine ⟨_, rfl, a, xs, rfl, .inr (SqT.of ha), (xs.length : Int), rfl, by omega, by omega, fun D hD => ?_⟩
    refine lc_range (lo := 0) (n := ((xs.length : Nat) : Int).toNat) (fun i H' => H' D = some (.lst []) ∧ Same H H') ⟨upd_same, Same.new hD⟩ ?_ ?_
    · rintro i H1 hi ⟨h1, g⟩
      have hi' : i < xs.length := by omega
      have hg : xs[i]? = some xs[i] := List.getElem?_eq_getElem hi'
      have hg' : xs'[i]? = some (xs'[i]'(by omega)) := List.getElem?_eq_getElem (by omega)
      obtain ⟨e, he, hre⟩ := hs.get hg
      obtain ⟨e', he', hre'⟩ := hs'.get hg'
      rw [he] at he'
      cases he'
      have hm := List.mem_of_getElem? he
      have ez : (0 : Int) + (i : Int) = (i : Int) := Int.zero_add _
      refine ⟨rfl, _, rfl, _, rfl, a', _, _, _, rfl, rfl, SqT.of (g _ _ ha'), by rw [ez]; exact atI_nat hg', _, rfl, _, rfl, a, _, _, _, rfl, rfl, SqT.of (g _ _ ha), by rw [ez]; exact atI_nat hg, _, _, e, rfl, hre'.same g, hre.same g, ?_, lenAll_mem hm ho.2, fun H2 g2 => ⟨true, rfl, ?_⟩⟩
      · have := depAll_mem hm
        have : 1 + depAll ds < n + 1 := hd
        omega
      · exact ⟨g2 _ _ h1, g.trans g2⟩
    · rintro H1 ⟨h1, g⟩
      exact ⟨D, _, rfl, .inl (SqL.of h1), rfl, q H1 g⟩
  | non =>
    cases hu with
    | non =>
    refine iteF ?_
    refine ⟨_, rfl, rfl, _, rfl, ?_⟩
    exact iteT ⟨_, rfl, rfl, q H (Same.refl H)⟩
  | bl b =>
    cases hu with
    | bl =>
    refine iteF ?_
    refine ⟨_, rfl, rfl, _, rfl, ?_⟩
    refine iteF ?_
    refine ⟨_, rfl, _, .ty "bool", _, _, true, rfl, .ty _, (Rp.bl b).ty, kitBl (.bl b), _, rfl, ?_⟩
    refine iteT ⟨_, rfl, _, .ty "bool", _, _, true, rfl, .ty _, (Rp.bl b).ty, kitBl (.bl b), _, rfl, ?_⟩
    refine iteT ⟨_, rfl, _, rfl, rfl, ?_⟩
    rw [decide_eq_true rfl]
    exact q H (Same.refl H)
  | int i =>
    cases hu with
    | int =>
    refine iteF ?_
    refine ⟨_, rfl, rfl, _, rfl, ?_⟩
    refine iteF ?_
    refine ⟨_, rfl, _, .ty "bool", _, _, false, rfl, .ty _, (Rp.int i).ty, kitBl (.int i), _, rfl, ?_⟩
    refine iteF ?_
    refine ⟨_, rfl, _, .ty "str", _, _, false, rfl, .ty _, (Rp.int i).ty, kitStr (.int i), _, rfl, ?_⟩
    refine iteF ?_
    refine ⟨_, rfl, i, rfl, _, rfl, iteT ⟨_, rfl, _, rfl, rfl, ?_⟩⟩
    rw [decide_eq_true rfl]
    exact q H (Same.refl H)
  | str x =>
    have hx : ∃ y : Str, u = .str y ∧ y.cps.toList = x.cps.toList := by
      generalize hD : x.cps.toList = c at hu
      cases hu with
      | str y => exact ⟨y, rfl, hD.symm ▸ rfl⟩
    obtain ⟨y, rfl, hy⟩ := hx
    have exy : y = x := by
      cases y with | mk yc => cases x with | mk xc => exact congrArg Str.mk (Array.toList_inj.mp hy)
    subst exy
    refine iteF ?_
    refine ⟨_, rfl, rfl, _, rfl, ?_⟩
    refine iteF ?_
    refine ⟨_, rfl, _, .ty "bool", _, _, false, rfl, .ty _, (Rp.str y).ty, kitBl (.str y.cps.toList), _, rfl, ?_⟩
    refine iteF ?_
    refine ⟨_, rfl, _, .ty "str", _, _, true, rfl, .ty _, (Rp.str y).ty, kitStr (.str y.cps.toList), _, rfl, ?_⟩
    refine iteT ⟨_, rfl, _, .ty "str", _, _, true, rfl, .ty _, (Rp.str y).ty, kitStr (.str y.cps.toList), _, rfl, ?_⟩
    refine iteT ⟨_, rfl, _, rfl, rfl, ?_⟩
    rw [decide_eq_true rfl]
    exact q H (Same.refl H)
end
end K75
end
section
namespace K75
open PySem L2
section
variable {P : Program} {w : World} {K : PySem.W.Frag} {mg : Str → Option Value} {base : Heap}
/-! ### _law_p10_step -/
def kst : Kd → Str
  | .item => "item" | .first => "first" | .word => "word" | .int => "int" | .minus => "minus" | .whole => "whole"
def KO (k : Kd) (n L : Int) : HO := .tup [.str (kst k), .int n, .int L]
def StepQ (H : Hp) (Q : V → Hp → Prop) : Option (Kd × Int × Int) → Prop
  | none => ∀ H', Same H H' → Q .non H'
  | some (k, n, L) => ∀ p H', H' p = some (KO k n L) → Same H H' → Q (.ref p) H'
def spStep : Sp := fun vs H Q _ => ∃ (a : Addr) (k : Kd) (n L : Int) (c : Nat), vs = [.ref a, .str ⟨#[c]⟩] ∧ H a = some (KO k n L) ∧ StepQ H Q (step k n L c)
theorem k_in (k : Kd) : inV (.str (kst k)) [.str "item", .str "first"] = decide (k = .item ∨ k = .first) := by cases k <;> decide +kernel
theorem k_first (k : Kd) : decide (V.str (kst k) = V.str "first") = decide (k = .first) := by cases k <;> decide +kernel
theorem k_word (k : Kd) : decide (V.str (kst k) = V.str "word") = decide (k = .word) := by cases k <;> decide +kernel
theorem k_int (k : Kd) : decide (V.str (kst k) = V.str "int") = decide (k = .int) := by cases k <;> decide +kernel
theorem k_minus (k : Kd) : decide (V.str (kst k) = V.str "minus") = decide (k = .minus) := by cases k <;> decide +kernel
theorem c_eq {c d : Nat} {z : Str} (hz : z = ⟨#[d]⟩) : decide (V.str ⟨#[c]⟩ = V.str z) = decide (c = d) := by
  subst hz
  by_cases h : c = d
  · subst h
    rw [decide_eq_true rfl, decide_eq_true rfl]
  · rw [decide_eq_false h, decide_eq_false]
    intro e
    injection e with e
    injection e with e
    exact h (by simpa using congrArg Array.toList e)
theorem codes_ls : (Str.ofString "abcdefghijklmnopqrstuvwxyz" ++ Str.ofString "0123456789").cps.toList = (Str.ofString "abcdefghijklmnopqrstuvwxyz0123456789").cps.toList := by decide +kernel
abbrev s_step : Stmt := top 34
abbrev N_step : List Str := ["_law_state", "_law_sign", "_law_kind", "_law_count", "_law_levels", "_law_signs"]
theorem sc_step : FnScope N_step ["_law_state", "_law_sign"] (defScope s_step) := ⟨rfl, rfl, rfl, by decide +kernel, rfl, by decide +kernel, by decide +kernel⟩
theorem ok_step {f : Addr} {fd : FuncData} (F : Fun K "_law_p10_step" "_law_p10_step" s_step f fd) : FnOk P w K mg base CX0 1 f fd ["_law_state", "_law_sign"] spStep := by
  refine F.ok sc_step (fun vs H Q E h => ?_) (fun cdv A outer s H vs Q E hr h => ?_)
  · obtain ⟨a, k, n, L, c, rfl, _⟩ := h
    rfl
  obtain ⟨a, k, n, L, c, rfl, ha, q⟩ := h
  refine ⟨_, (pss_cons (ps_asg (pv 0) (pg_tup rfl (pgs_cons (pg_name (i := 2) sc_step.nd rfl (.inl rfl)) (pgs_cons (pg_name (i := 3) sc_step.nd rfl (.inl rfl)) (pgs_cons (pg_name (i := 4) sc_step.nd rfl (.inl rfl)) pgs_nil)))))
      (pss_cons (ps_set (i := 5) sc_step.nd rfl (.inl rfl) pe_str)
      (pss_cons (ps_if (pt_cmpR op_in_seq (pv 2) (pe_lst (pa_cons pe_str (pa_cons pe_str pa_nil))) (by rfl)) (C8.pss_cut (ps_if (PW.pt (pw_and (pt_cmpR op_eq (pv 1) pe_str (nomark _)) (pw_and1 (pt_cmpR op_eq (pv 2) pe_str (nomark _))))) (pss_one (ps_ret (pe_tup (pa_cons pe_str (pa_cons pe_int (pa_cons (pe_op op_sub (pv 4) pe_int) pa_nil)))))) pss_nil)
      (C8.pss_cut (ps_if (PW.pt (pw_and (pt_cmpR op_eq (pv 1) pe_str (nomark _)) (pw_and1 (pt_cmpR op_lt (pv 4) pe_int (nomark _))))) (pss_one (ps_ret (pe_tup (pa_cons pe_str (pa_cons pe_int (pa_cons (pe_op op_add (pv 4) pe_int) pa_nil)))))) pss_nil)
      (pss_cons (ps_if (pt_cmpR op_in_sign (pv 1) (pv 5) (by rfl)) (pss_one (ps_ret (pe_tup (pa_cons pe_str (pa_cons pe_int (pa_cons (pv 4) pa_nil)))))) pss_nil)
      (pss_cons (ps_if (pt_cmpR op_in_sign (pv 1) pe_str (by rfl)) (pss_one (ps_ret (pe_tup (pa_cons pe_str (pa_cons pe_int (pa_cons (pv 4) pa_nil)))))) pss_nil)
      (pss_cons (ps_if (pt_cmpR op_eq (pv 1) pe_str (nomark _)) (pss_one (ps_ret (pe_tup (pa_cons pe_str (pa_cons pe_int (pa_cons (pv 4) pa_nil)))))) pss_nil)
      (pss_one (ps_ret (pe_ifExp (pt_cmpR op_eq (pv 1) pe_str (nomark _)) (pe_tup (pa_cons pe_str (pa_cons pe_int (pa_cons (pv 4) pa_nil)))) pe_non)))))))) pss_nil)
      (C8.pss_cut (ps_if (PW.pt (pw_and (pt_cmpR op_eq (pv 2) pe_str (nomark _)) (pw_and (pt_cmpR op_lt (pv 3) pe_int (nomark _)) (pw_and1 (pt_cmpR op_in_sign (pv 1) (pe_op op_add_str (pv 5) pe_str) (by rfl)))))) (pss_one (ps_ret (pe_tup (pa_cons pe_str (pa_cons (pe_op op_add (pv 3) pe_int) (pa_cons (pv 4) pa_nil)))))) pss_nil)
      (C8.pss_cut (ps_if (PW.pt (pw_and (pt_cmpR op_eq (pv 2) pe_str (nomark _)) (pw_and (pt_cmpR op_lt (pv 3) pe_int (nomark _)) (pw_and1 (pt_cmpR op_in_sign (pv 1) pe_str (by rfl)))))) (pss_one (ps_ret (pe_tup (pa_cons pe_str (pa_cons (pe_op op_add (pv 3) pe_int) (pa_cons (pv 4) pa_nil)))))) pss_nil)
      (C8.pss_cut (ps_if (PW.pt (pw_and (pt_cmpR op_eq (pv 2) pe_str (nomark _)) (pw_and1 (pt_cmpR op_in_sign (pv 1) pe_str (by rfl))))) (pss_one (ps_ret (pe_tup (pa_cons pe_str (pa_cons pe_int (pa_cons (pv 4) pa_nil)))))) pss_nil)
      (C8.pss_cut (ps_if (PW.pt (pw_and (pt_cmpR op_gt (pv 4) pe_int (nomark _)) (pw_and1 (pt_cmpR op_eq (pv 1) pe_str (nomark _))))) (pss_one (ps_ret (pe_tup (pa_cons pe_str (pa_cons pe_int (pa_cons (pv 4) pa_nil)))))) pss_nil)
      (C8.pss_cut (ps_if (PW.pt (pw_and (pt_cmpR op_gt (pv 4) pe_int (nomark _)) (pw_and1 (pt_cmpR op_eq (pv 1) pe_str (nomark _))))) (pss_one (ps_ret (pe_tup (pa_cons pe_str (pa_cons pe_int (pa_cons (pe_op op_sub (pv 4) pe_int) pa_nil)))))) pss_nil)
      (pss_one (ps_ret pe_non)))))))))), ?_⟩
  refine ⟨_, rfl, a, _, rfl, SqT.of ha, rfl, _, _, rfl, _, _, rfl, _, _, rfl, rfl, ?_⟩
  refine ⟨_, rfl, (by show 2 ≤ sizeLine; decide), fun p hp => ?_⟩
  refine ⟨p, _, rfl, .inl (SqL.of upd_same), rfl, rfl, _, rfl, ?_⟩
  have g := Same.new (o := HO.lst [V.str "item", V.str "first"]) hp
  generalize upd H p (.lst [V.str "item", V.str "first"]) = H1 at g
  rw [k_in]
  have put : ∀ (k' : Kd) (n' L' : Int), step k n L c = some (k', n', L') → ∀ b : Addr, H1 b = none → Q (.ref b) (upd H1 b (KO k' n' L')) := fun _ _ _ e b hb => by
    rw [e] at q
    exact q b _ upd_same (g.trans (Same.new hb))
  have non : step k n L c = none → Q .non H1 := fun e => by
    rw [e] at q
    exact q _ g
  have sz : 3 ≤ sizeLine := by decide
  by_cases h1 : k = .item ∨ k = .first
  · rw [decide_eq_true h1]
    have es : step k n L c = if c = 41 ∧ k = .first then some (.whole, 0, L - 1) else if c = 40 ∧ L < 60 then some (.first, 0, L + 1) else if isLet c then some (.word, 1, L) else if isNz c then some (.int, 1, L) else if c = 45 then some (.minus, 0, L) else if c = 48 then some (.whole, 0, L) else none := by
      unfold step
      rw [if_pos h1]
    rw [es] at put non
    refine iteT ?_
    refine ⟨fun σ H' => σ = [some (.ref a), some (.str ⟨#[c]⟩), some (.str (kst k)), some (.int n), some (.int L), some (.str "abcdefghijklmnopqrstuvwxyz")] ∧ H' = H1 ∧ ¬ (c = 41 ∧ k = .first), ?_, ?_⟩
    · refine ⟨_, rfl, rfl, _, rfl, ?_⟩
      rw [c_eq (d := 41) (by decide)]
      by_cases h41 : c = 41
      · rw [decide_eq_true h41]
        refine iteT ⟨_, rfl, rfl, _, rfl, ?_⟩
        rw [k_first]
        by_cases hf : k = .first
        · rw [decide_eq_true hf]
          exact iteT ⟨_, rfl, _, _, rfl, rfl, sz, fun b hb => put .whole 0 (L - 1) (by rw [if_pos ⟨h41, hf⟩]) b hb⟩
        · rw [decide_eq_false hf]
          exact iteF ⟨rfl, rfl, fun e => hf e.2⟩
      · rw [decide_eq_false h41]
        exact iteF (iteF ⟨rfl, rfl, fun e => h41 e.1⟩)
    rintro σ H' ⟨rfl, rfl, h41⟩
    rw [if_neg h41] at put non
    refine ⟨fun σ H'' => σ = [some (.ref a), some (.str ⟨#[c]⟩), some (.str (kst k)), some (.int n), some (.int L), some (.str "abcdefghijklmnopqrstuvwxyz")] ∧ H'' = H' ∧ ¬ (c = 40 ∧ L < 60), ?_, ?_⟩
    · refine ⟨_, rfl, rfl, _, rfl, ?_⟩
      rw [c_eq (d := 40) (by decide)]
      by_cases h40 : c = 40
      · rw [decide_eq_true h40]
        refine iteT ⟨_, rfl, _, _, rfl, rfl, _, rfl, ?_⟩
        by_cases hf : L < 60
        · rw [decide_eq_true hf]
          exact iteT ⟨_, rfl, _, _, rfl, rfl, sz, fun b hb => put .first 0 (L + 1) (by rw [if_pos ⟨h40, hf⟩]) b hb⟩
        · rw [decide_eq_false hf]
          exact iteF ⟨rfl, rfl, fun e => hf e.2⟩
      · rw [decide_eq_false h40]
        exact iteF (iteF ⟨rfl, rfl, fun e => h40 e.1⟩)
    rintro σ H'' ⟨rfl, rfl, h40⟩
    rw [if_neg h40] at put non
    refine ⟨_, rfl, _, rfl, _, _, rfl, rfl, _, rfl, ?_⟩
    by_cases hl : isLet c = true
    · rw [decide_eq_true ((mem_let c).mpr hl)]
      exact iteT ⟨_, rfl, sz, fun b hb => put .word 1 L (by rw [if_pos hl]) b hb⟩
    rw [decide_eq_false (fun e => hl ((mem_let c).mp e))]
    rw [if_neg hl] at put non
    refine iteF ⟨_, rfl, _, _, rfl, rfl, _, rfl, ?_⟩
    by_cases hz : isNz c = true
    · rw [decide_eq_true ((mem_nz c).mpr hz)]
      exact iteT ⟨_, rfl, sz, fun b hb => put .int 1 L (by rw [if_pos hz]) b hb⟩
    rw [decide_eq_false (fun e => hz ((mem_nz c).mp e))]
    rw [if_neg hz] at put non
    refine iteF ⟨_, rfl, rfl, _, rfl, ?_⟩
    rw [c_eq (d := 45) (by decide)]
    by_cases h45 : c = 45
    · rw [decide_eq_true h45]
      exact iteT ⟨_, rfl, sz, fun b hb => put .minus 0 L (by rw [if_pos h45]) b hb⟩
    rw [decide_eq_false h45]
    rw [if_neg h45] at put non
    refine iteF ⟨_, rfl, rfl, _, rfl, ?_⟩
    rw [c_eq (d := 48) (by decide)]
    by_cases h48 : c = 48
    · rw [decide_eq_true h48]
      exact iteT ⟨_, rfl, sz, fun b hb => put .whole 0 L (by rw [if_pos h48]) b hb⟩
    rw [decide_eq_false h48]
    rw [if_neg h48] at put non
    exact iteF (non rfl)
  · rw [decide_eq_false h1]
    have es : step k n L c = if k = .word ∧ n < 12 ∧ isSig c then some (.word, n + 1, L) else if k = .int ∧ n < 4000 ∧ isDig c then some (.int, n + 1, L) else if k = .minus ∧ isNz c then some (.int, 1, L) else if 0 < L ∧ c = 32 then some (.item, 0, L) else if 0 < L ∧ c = 41 then some (.whole, 0, L - 1) else none := by
      unfold step tailStep
      rw [if_neg h1]
    rw [es] at put non
    refine iteF ?_
    refine ⟨fun σ H' => σ = [some (.ref a), some (.str ⟨#[c]⟩), some (.str (kst k)), some (.int n), some (.int L), some (.str "abcdefghijklmnopqrstuvwxyz")] ∧ H' = H1 ∧ ¬ (k = .word ∧ n < 12 ∧ isSig c = true), ?_, ?_⟩
    · refine ⟨_, rfl, rfl, _, rfl, ?_⟩
      rw [k_word]
      by_cases hk : k = .word
      · rw [decide_eq_true hk]
        refine iteT ⟨_, rfl, _, _, rfl, rfl, _, rfl, ?_⟩
        by_cases hn : n < 12
        · rw [decide_eq_true hn]
          refine iteT ⟨_, rfl, _, rfl, _, _, rfl, rfl, (by decide), _, _, rfl, rfl, _, rfl, ?_⟩
          rw [codes_ls]
          by_cases hs : isSig c = true
          · rw [decide_eq_true ((mem_sig c).mpr hs)]
            exact iteT ⟨_, rfl, _, _, rfl, rfl, _, rfl, sz, fun b hb => put .word (n + 1) L (by rw [if_pos ⟨hk, hn, hs⟩]) b hb⟩
          · rw [decide_eq_false (fun e => hs ((mem_sig c).mp e))]
            exact iteF ⟨rfl, rfl, fun e => hs e.2.2⟩
        · rw [decide_eq_false hn]
          exact iteF (iteF ⟨rfl, rfl, fun e => hn e.2.1⟩)
      · rw [decide_eq_false hk]
        exact iteF (iteF ⟨rfl, rfl, fun e => hk e.1⟩)
    rintro σ H' ⟨rfl, rfl, hw⟩
    rw [if_neg hw] at put non
    refine ⟨fun σ H'' => σ = [some (.ref a), some (.str ⟨#[c]⟩), some (.str (kst k)), some (.int n), some (.int L), some (.str "abcdefghijklmnopqrstuvwxyz")] ∧ H'' = H' ∧ ¬ (k = .int ∧ n < 4000 ∧ isDig c = true), ?_, ?_⟩
    · refine ⟨_, rfl, rfl, _, rfl, ?_⟩
      rw [k_int]
      by_cases hk : k = .int
      · rw [decide_eq_true hk]
        refine iteT ⟨_, rfl, _, _, rfl, rfl, _, rfl, ?_⟩
        by_cases hn : n < 4000
        · rw [decide_eq_true hn]
          refine iteT ⟨_, rfl, _, _, rfl, rfl, _, rfl, ?_⟩
          by_cases hs : isDig c = true
          · rw [decide_eq_true ((mem_dig c).mpr hs)]
            exact iteT ⟨_, rfl, _, _, rfl, rfl, _, rfl, sz, fun b hb => put .int (n + 1) L (by rw [if_pos ⟨hk, hn, hs⟩]) b hb⟩
          · rw [decide_eq_false (fun e => hs ((mem_dig c).mp e))]
            exact iteF ⟨rfl, rfl, fun e => hs e.2.2⟩
        · rw [decide_eq_false hn]
          exact iteF (iteF ⟨rfl, rfl, fun e => hn e.2.1⟩)
      · rw [decide_eq_false hk]
        exact iteF (iteF ⟨rfl, rfl, fun e => hk e.1⟩)
    rintro σ H'' ⟨rfl, rfl, hi⟩
    rw [if_neg hi] at put non
    refine ⟨fun σ H' => σ = [some (.ref a), some (.str ⟨#[c]⟩), some (.str (kst k)), some (.int n), some (.int L), some (.str "abcdefghijklmnopqrstuvwxyz")] ∧ H' = H'' ∧ ¬ (k = .minus ∧ isNz c = true), ?_, ?_⟩
    · refine ⟨_, rfl, rfl, _, rfl, ?_⟩
      rw [k_minus]
      by_cases hk : k = .minus
      · rw [decide_eq_true hk]
        refine iteT ⟨_, rfl, _, _, rfl, rfl, _, rfl, ?_⟩
        by_cases hs : isNz c = true
        · rw [decide_eq_true ((mem_nz c).mpr hs)]
          exact iteT ⟨_, rfl, sz, fun b hb => put .int 1 L (by rw [if_pos ⟨hk, hs⟩]) b hb⟩
        · rw [decide_eq_false (fun e => hs ((mem_nz c).mp e))]
          exact iteF ⟨rfl, rfl, fun e => hs e.2⟩
      · rw [decide_eq_false hk]
        exact iteF (iteF ⟨rfl, rfl, fun e => hk e.1⟩)
    rintro σ H' ⟨rfl, rfl, hm⟩
    rw [if_neg hm] at put non
    refine ⟨fun σ H'' => σ = [some (.ref a), some (.str ⟨#[c]⟩), some (.str (kst k)), some (.int n), some (.int L), some (.str "abcdefghijklmnopqrstuvwxyz")] ∧ H'' = H' ∧ ¬ (0 < L ∧ c = 32), ?_, ?_⟩
    · refine ⟨_, rfl, _, _, rfl, rfl, _, rfl, ?_⟩
      by_cases hk : 0 < L
      · rw [decide_eq_true hk]
        refine iteT ⟨_, rfl, rfl, _, rfl, ?_⟩
        rw [c_eq (d := 32) (by decide)]
        by_cases hs : c = 32
        · rw [decide_eq_true hs]
          exact iteT ⟨_, rfl, sz, fun b hb => put .item 0 L (by rw [if_pos ⟨hk, hs⟩]) b hb⟩
        · rw [decide_eq_false hs]
          exact iteF ⟨rfl, rfl, fun e => hs e.2⟩
      · rw [decide_eq_false hk]
        exact iteF (iteF ⟨rfl, rfl, fun e => hk e.1⟩)
    rintro σ H'' ⟨rfl, rfl, hm⟩
    rw [if_neg hm] at put non
    refine ⟨fun σ H' => σ = [some (.ref a), some (.str ⟨#[c]⟩), some (.str (kst k)), some (.int n), some (.int L), some (.str "abcdefghijklmnopqrstuvwxyz")] ∧ H' = H'' ∧ ¬ (0 < L ∧ c = 41), ?_, ?_⟩
    · refine ⟨_, rfl, _, _, rfl, rfl, _, rfl, ?_⟩
      by_cases hk : 0 < L
      · rw [decide_eq_true hk]
        refine iteT ⟨_, rfl, rfl, _, rfl, ?_⟩
        rw [c_eq (d := 41) (by decide)]
        by_cases hs : c = 41
        · rw [decide_eq_true hs]
          exact iteT ⟨_, rfl, _, _, rfl, rfl, sz, fun b hb => put .whole 0 (L - 1) (by rw [if_pos ⟨hk, hs⟩]) b hb⟩
        · rw [decide_eq_false hs]
          exact iteF ⟨rfl, rfl, fun e => hs e.2⟩
      · rw [decide_eq_false hk]
        exact iteF (iteF ⟨rfl, rfl, fun e => hk e.1⟩)
    rintro σ H' ⟨rfl, rfl, hm⟩
    rw [if_neg hm] at put non
    exact non rfl
end
end K75
end
section
namespace K75
open PySem L2
section
variable {P : Program} {w : World} {K : PySem.W.Frag} {mg : Str → Option Value} {base : Heap}
/-! ### _law_p10_place -/
abbrev s_place : Stmt := top 35
abbrev N_place : List Str := ["_law_text", "_law_state", "_law_k"]
theorem sc_place : FnScope N_place ["_law_text"] (defScope s_place) := ⟨rfl, rfl, rfl, by decide +kernel, rfl, by decide +kernel, by decide +kernel⟩
def spPlace : Sp := fun vs H Q _ => ∃ t : Str, vs = [.str t] ∧ t.length ≤ 1000000 ∧ ∀ H', Same H H' → match bad .item 0 0 t.cps.toList with
  | none => Q .non H'
  | some s => Q (.int ((t.length : Int) - s.length)) H'
theorem ok_place {f fS : Addr} {fd fdS : FuncData} (F : Fun K "_law_p10_place" "_law_p10_place" s_place f fd) (T : Tx w K mg) (G_step : Cal P w K mg base CX0 "_law_p10_step" 1 fS fdS ["_law_state", "_law_sign"] spStep) :
    FnOk P w K mg base CX0 2 f fd ["_law_text"] spPlace := by
  refine F.ok sc_place (fun vs H Q E h => ?_) (fun cdv A outer s H vs Q E hr h => ?_)
  · obtain ⟨t, rfl, _⟩ := h
    rfl
  obtain ⟨t, rfl, ht, q⟩ := h
  refine ⟨_, (pss_cons (ps_set (i := 1) sc_place.nd rfl (.inl rfl) (pe_tup (pa_cons pe_str (pa_cons pe_int (pa_cons pe_int pa_nil)))))
      (pss_cons (ps_for PassesOwn.never rfl (pi_range1 (by rfl) T.b_range (pa_cons (pe_callB call_len_str (by rfl) T.b_len (by decide +kernel) (pa_cons (pv 0) pa_nil)) pa_nil)) (pg_name (i := 2) sc_place.nd rfl (.inl rfl)) (pss_cons (ps_set (i := 1) sc_place.nd rfl (.inl rfl) (pe_c G_step (hr.mono (by decide)) (pa_cons (pv 1) (pa_cons (pe_ix ix_str (pv 0) (pv 2) (fun _ _ => rfl)) pa_nil))))
      (pss_one (ps_if (pt_cmpR op_isN (pv 1) pe_non (nomark _)) (pss_one (ps_ret (pv 2))) pss_nil))))
      (C8.pss_cut (ps_if (PW.pt (pw_or (pt_cmpR op_gt (pe_ix ix_tup (pv 1) pe_int (fun _ _ => rfl)) pe_int (nomark _)) (pw_or1 (pt_cmpR op_in_seq (pe_ix ix_tup (pv 1) pe_int (fun _ _ => rfl)) (pe_lst (pa_cons pe_str (pa_cons pe_str pa_nil))) (by rfl))))) (pss_one (ps_ret (pe_callB call_len_str (by rfl) T.b_len (by decide +kernel) (pa_cons (pv 0) pa_nil)))) pss_nil)
      (pss_one (ps_ret pe_non))))), ?_⟩
  refine ⟨(by show 3 ≤ sizeLine; decide), fun a ha => ?_⟩
  have hl : t.length ≤ sizeLine := Nat.le_trans ht (by decide)
  refine ⟨_, rfl, _, rfl, hl, _, rfl, by omega, by omega, for_range (lo := 0) (n := ((t.length : Nat) : Int).toNat) (fun i σ H' => ∃ (b : Addr) (vo : Option V) (k : Kd) (n L : Int) (l : List Nat), σ = [some (.str t), some (.ref b), vo] ∧ H' b = some (KO k n L) ∧ Same H H' ∧ At t (i : Int) l ∧ bad .item 0 0 t.cps.toList = bad k n L l)
    ⟨a, _, .item, 0, 0, _, rfl, upd_same, Same.new ha, At.start ht, rfl⟩ ?_ ?_⟩
  · rintro i σ H' hi ⟨b, vo, k, n, L, l, rfl, hb, g, hA, e⟩
    have hlen := hA.len
    cases l with
    | nil =>
      exfalso
      simp at hlen
      omega
    | cons c r =>
    have ez : (0 : Int) + (i : Int) = (i : Int) := Int.zero_add _
    refine ⟨_, rfl, _, rfl, _, rfl, _, _, _, rfl, rfl, hl, by rw [ez]; exact hA.get, b, k, n, L, c, rfl, hb, ?_⟩
    have e2 : bad k n L (c :: r) = (match step k n L c with | none => some (c :: r) | some (k', n', L') => bad k' n' L' r) := rfl
    rw [e2] at e
    cases es : step k n L c with
    | none =>
      rw [es] at e
      intro H1 g1
      refine ⟨_, rfl, rfl, _, rfl, ?_⟩
      refine iteT ⟨_, rfl, ?_⟩
      have := q H1 (g.trans g1)
      rw [e] at this
      have e3 : (0 : Int) + (i : Int) = (t.length : Int) - ((c :: r).length : Nat) := by omega
      rw [e3]
      exact this
    | some p =>
      obtain ⟨k', n', L'⟩ := p
      rw [es] at e
      intro b' H1 hb' g1
      refine ⟨_, rfl, rfl, _, rfl, ?_⟩
      refine iteF ?_
      exact ⟨b', _, k', n', L', r, rfl, hb', g.trans g1, by simpa using hA.step, e⟩
  · rintro σ H' ⟨b, vo, k, n, L, l, rfl, hb, g, hA, e⟩
    have hlen := hA.len
    have l0 : l = [] := by
      cases l with
      | nil => rfl
      | cons c r =>
        exfalso
        simp at hlen
        omega
    subst l0
    have e2 : bad k n L [] = if 0 < L ∨ k = .item ∨ k = .first then some [] else none := rfl
    rw [e2] at e
    refine ⟨fun σ H'' => σ = [some (.str t), some (.ref b), vo] ∧ Same H H'' ∧ ¬ (0 < L ∨ k = .item ∨ k = .first), ?_, ?_⟩
    · have fin : ∀ H'', Same H H'' → (0 < L ∨ k = .item ∨ k = .first) → Q (.int (t.length : Int)) H'' := fun H'' g1 hh => by
        have := q H'' g1
        rw [e, if_pos hh] at this
        simpa using this
      refine ⟨_, rfl, b, _, _, _, rfl, rfl, SqT.of hb, (show atI [V.str (kst k), .int n, .int L] 2 = some (.int L) by rfl), _, _, rfl, rfl, _, rfl, ?_⟩
      by_cases hL : 0 < L
      · rw [decide_eq_true hL]
        exact iteT (iteT ⟨_, rfl, _, rfl, hl, fin _ g (.inl hL)⟩)
      rw [decide_eq_false hL]
      refine iteF ⟨_, rfl, b, _, _, _, rfl, rfl, SqT.of hb, (show atI [V.str (kst k), .int n, .int L] 0 = some (.str (kst k)) by rfl), (by show 2 ≤ sizeLine; decide), fun p hp => ?_⟩
      refine ⟨p, _, rfl, .inl (SqL.of upd_same), rfl, rfl, _, rfl, ?_⟩
      rw [k_in]
      by_cases hk : k = .item ∨ k = .first
      · rw [decide_eq_true hk]
        exact iteT ⟨_, rfl, _, rfl, hl, fin _ (g.trans (Same.new hp)) (.inr hk)⟩
      · rw [decide_eq_false hk]
        exact iteF ⟨rfl, g.trans (Same.new hp), fun hh => hh.elim hL hk⟩
    rintro σ H'' ⟨rfl, g1, hh⟩
    have := q H'' g1
    rw [e, if_neg hh] at this
    exact this
/-! ### _law_p10_special -/
abbrev s_special : Stmt := top 37
abbrev N_special : List Str := ["_law_word"]
theorem sc_special : FnScope N_special ["_law_word"] (defScope s_special) := ⟨rfl, rfl, rfl, by decide +kernel, rfl, by decide +kernel, by decide +kernel⟩
def spSpecial : Sp := fun vs H Q _ => ∃ t : Str, vs = [.str t] ∧ (t = "none" → Q .non H) ∧ (t ≠ "none" → Q (.bl (decide (t = "yes"))) H)
theorem d_str {a b : Str} : decide (V.str a = V.str b) = decide (a = b) := by
  by_cases h : a = b
  · subst h
    rw [decide_eq_true rfl, decide_eq_true rfl]
  · rw [decide_eq_false h, decide_eq_false fun e => h (by injection e)]
theorem ok_special {f : Addr} {fd : FuncData} (F : Fun K "_law_p10_special" "_law_p10_special" s_special f fd) : FnOk P w K mg base CX0 1 f fd ["_law_word"] spSpecial := by
  refine F.ok sc_special (fun vs H Q E h => ?_) (fun cdv A outer s H vs Q E hr h => ?_)
  · obtain ⟨t, rfl, _⟩ := h
    rfl
  obtain ⟨t, rfl, q1, q2⟩ := h
  refine ⟨_, (pss_cons (ps_if (pt_cmpR op_eq (pv 0) pe_str (nomark _)) (pss_one (ps_ret pe_non)) pss_nil)
      (pss_one (ps_ret (pe_cmpR op_eq (pv 0) pe_str (nomark _))))), ?_⟩
  refine ⟨_, rfl, rfl, _, rfl, ?_⟩
  rw [d_str]
  by_cases h : t = "none"
  · rw [decide_eq_true h]
    exact iteT (q1 h)
  · rw [decide_eq_false h]
    refine iteF ⟨_, rfl, rfl, ?_⟩
    rw [d_str]
    exact q2 h
end
end K75
end
section
namespace K75
open PySem L2 C8 SX
/-! ### the words of a text whose parentheses stand apart -/
theorem joinL_cons (z p : List Nat) {q : List (List Nat)} (h : q ≠ []) : TL.joinL z (p :: q) = p ++ (z ++ TL.joinL z q) := by
  cases q with
  | nil => exact absurd rfl h
  | cons a b => rfl
theorem spl_ne (s : List Nat) : ∀ (n : Nat) (acc l : List Nat), TL.spl s n acc l ≠ []
  | _, acc, [] => by unfold TL.spl; simp
  | 0, acc, c :: r => by
    unfold TL.spl
    split
    · simp
    · exact spl_ne s 0 _ r
  | n + 1, acc, c :: r => by
    unfold TL.spl
    exact spl_ne s n acc r
theorem pre1 (c d : Nat) (r : List Nat) : TL.pre [c] (d :: r) = decide (d = c) := by
  by_cases h : d = c
  · subst h
    rw [decide_eq_true rfl]
    exact TL.pre_self [d] r
  · rw [decide_eq_false h]
    exact TL.pre_of_head [] r h
theorem join_spl (c : Nat) (z : List Nat) : ∀ (l acc : List Nat), TL.joinL z (TL.spl [c] 0 acc l) = acc ++ l.flatMap fun d => if d = c then z else [d]
  | [], acc => by
    show acc = acc ++ []
    rw [List.append_nil]
  | d :: r, acc => by
    rw [List.flatMap_cons]
    unfold TL.spl
    rw [pre1]
    by_cases h : d = c
    · rw [decide_eq_true h, if_pos rfl, if_pos h, joinL_cons z acc (spl_ne _ _ _ _)]
      show acc ++ (z ++ TL.joinL z (TL.spl [c] 0 [] r)) = _
      rw [join_spl c z r []]
      rfl
    · rw [decide_eq_false h, if_neg (by decide), if_neg h, join_spl c z r (acc ++ [d]), List.append_assoc]
theorem rep_codes (x z : Str) (c : Nat) (hc : c < 256) : (Txt.replace x ⟨#[c]⟩ z).cps.toList = x.cps.toList.flatMap fun d => if d = c then z.cps.toList else [d] := by
  rw [PySem.StrLaws.replace_one]
  show TL.tl (Str.join z (Txt.split x ⟨#[c]⟩)) = _
  rw [TL.tl_join]
  have e : x = S x.cps.toList := (S_tl x).symm
  have e2 : Txt.split x ⟨#[c]⟩ = (TL.spl [c] 0 [] x.cps.toList).map S := by
    have := split_S (a := x.cps.toList) (b := [c]) (by simp) (by simp [hc])
    rw [S_tl] at this
    exact this
  rw [e2, map_S_tl, join_spl]
  rfl
theorem spl_cons (d : Nat) (cur r : List Nat) : TL.spl [32] 0 cur (d :: r) = if d = 32 then cur :: TL.spl [32] 0 [] r else TL.spl [32] 0 (cur ++ [d]) r := by
  show (if TL.pre [32] (d :: r) = true then cur :: TL.spl [32] 0 [] r else TL.spl [32] 0 (cur ++ [d]) r) = _
  rw [pre1]
  by_cases h : d = 32
  · rw [decide_eq_true h, if_pos rfl, if_pos h]
  · rw [decide_eq_false h, if_neg (by decide), if_neg h]
theorem two_spl : ∀ (l cur : List Nat), TL.spl [32] 0 cur ((l.flatMap fun d => if d = 40 then [40, 32] else [d]).flatMap fun d => if d = 41 then [32, 41] else [d]) = K75.spl cur l
  | [], cur => rfl
  | c :: r, cur => by
    have ih := two_spl r
    have e : ∀ {z : List Nat}, (if c = 40 then [40, 32] else [c]).flatMap (fun d => if d = 41 then [32, 41] else [d]) = z → ((c :: r).flatMap fun d => if d = 40 then [40, 32] else [d]).flatMap (fun d => if d = 41 then [32, 41] else [d]) = z ++ ((r.flatMap fun d => if d = 40 then [40, 32] else [d]).flatMap fun d => if d = 41 then [32, 41] else [d]) := fun h => by
      rw [List.flatMap_cons, List.flatMap_append, h]
    unfold K75.spl
    by_cases h32 : c = 32
    · rw [if_pos h32, ← ih, e (z := [32]) (by subst h32; rfl)]
      exact (spl_cons 32 _ _).trans (if_pos rfl)
    · rw [if_neg h32]
      by_cases h40 : c = 40
      · rw [if_pos h40, ← ih, e (z := [40, 32]) (by subst h40; rfl)]
        exact (spl_cons 40 _ _).trans ((if_neg (by decide)).trans ((spl_cons 32 _ _).trans (if_pos rfl)))
      · rw [if_neg h40]
        by_cases h41 : c = 41
        · rw [if_pos h41, ← ih, e (z := [32, 41]) (by subst h41; rfl)]
          exact (spl_cons 32 _ _).trans ((if_pos rfl).trans (congrArg (cur :: ·) ((spl_cons 41 _ _).trans (if_neg (by decide)))))
        · rw [if_neg h41, ← ih, e (z := [c]) (by rw [if_neg h40]; simp [h41])]
          exact (spl_cons c _ _).trans (if_neg h32)
/-- the words as the law cuts them -/
theorem words_cut (t : Str) : Txt.split (Txt.replace (Txt.replace t "(" "( ") ")" " )") " " = (K75.spl [] t.cps.toList).map S := by
  have h0 : (("(" : Str)) = ⟨#[40]⟩ := by decide
  have h1 : ((")" : Str)) = ⟨#[41]⟩ := by decide
  have h2 : ((" " : Str)) = ⟨#[32]⟩ := by decide
  have z0 : ("( " : Str).cps.toList = [40, 32] := by decide
  have z1 : (" )" : Str).cps.toList = [32, 41] := by decide
  have e := split_S (a := (Txt.replace (Txt.replace t "(" "( ") ")" " )").cps.toList) (b := [32]) (by simp) (by decide)
  rw [S_tl] at e
  rw [h2]
  refine e.trans ?_
  rw [h1, rep_codes _ _ 41 (by decide), h0, rep_codes _ _ 40 (by decide), z0, z1, two_spl]
/-- the text of these codes is that text -/
theorem S_is {w v : List Nat} {x : Str} (h : x = S v) : decide (S w = x) = decide (w = v) := by
  subst h
  by_cases e : w = v
  · rw [decide_eq_true e, decide_eq_true (by rw [e])]
  · rw [decide_eq_false e, decide_eq_false fun z => e (S_inj z)]
theorem in_special (w : List Nat) : inV (.str (S w)) [.str "yes", .str "no", .str "none"] = (special? w).isSome := by
  have h1 : ("yes" : Str) = S [121, 101, 115] := by decide
  have h2 : ("no" : Str) = S [110, 111] := by decide
  have h3 : ("none" : Str) = S [110, 111, 110, 101] := by decide
  have e : inV (.str (S w)) [.str "yes", .str "no", .str "none"] = (((S [121, 101, 115] == S w) || ((S [110, 111] == S w) || ((S [110, 111, 110, 101] == S w) || false)))) := by
    rw [h1, h2, h3]
    rfl
  rw [e, S_beq_eq, S_beq_eq, S_beq_eq]
  unfold special?
  by_cases a : w = [121, 101, 115]
  · subst a
    rfl
  by_cases b : w = [110, 111]
  · subst b
    rfl
  by_cases c : w = [110, 111, 110, 101]
  · subst c
    rfl
  rw [if_neg a, if_neg b, if_neg c, decide_eq_false (Ne.symm a), decide_eq_false (Ne.symm b), decide_eq_false (Ne.symm c)]
  rfl
theorem special_none {w : List Nat} : (S w = ("none" : Str)) ↔ w = [110, 111, 110, 101] := by
  have h3 : ("none" : Str) = S [110, 111, 110, 101] := by decide
  rw [h3]
  exact ⟨S_inj, fun e => by rw [e]⟩
theorem special_yes {w : List Nat} : (S w = ("yes" : Str)) ↔ w = [121, 101, 115] := by
  have h3 : ("yes" : Str) = S [121, 101, 115] := by decide
  rw [h3]
  exact ⟨S_inj, fun e => by rw [e]⟩
theorem codes_sd : (Str.ofString "-0123456789").cps.toList = 45 :: List.range' 48 10 := by decide +kernel
theorem mem_sd (c : Nat) : c ∈ (Str.ofString "-0123456789").cps.toList ↔ (c = 45 ∨ isDig c = true) := by
  rw [codes_sd, List.mem_cons, List.mem_range'_1]
  simp [isDig]
  omega
end K75
namespace K75
open PySem L2 C8 SX
theorem spl_mem_len : ∀ (l cur w : List Nat), w ∈ K75.spl cur l → w.length ≤ cur.length + l.length
  | [], cur, w, h => by
    have e : w = cur := by simpa [K75.spl] using h
    rw [e]
    exact Nat.le_add_right _ _
  | c :: r, cur, w, h => by
    have h1 := spl_mem_len r [] w
    have h2 := spl_mem_len r [41] w
    have h3 := spl_mem_len r (cur ++ [c]) w
    simp only [List.length_append, List.length_cons, List.length_nil] at h1 h2 h3
    unfold K75.spl at h
    simp only [List.length_cons]
    split at h
    · rcases List.mem_cons.mp h with rfl | h
      · omega
      · have := h1 h
        omega
    · split at h
      · rcases List.mem_cons.mp h with rfl | h
        · simp only [List.length_append, List.length_cons, List.length_nil]
          omega
        · have := h1 h
          omega
      · split at h
        · rcases List.mem_cons.mp h with rfl | h
          · omega
          · have := h2 h
            omega
        · have := h3 h
          omega
theorem step_spec {rows : List (List D)} {v : List Nat} {d : D} (n40 : v ≠ [40]) (n41 : v ≠ [41]) (n45 : v ≠ [45]) (e : special? v = some d) : wordStep rows v = push d rows := by
  unfold wordStep
  rw [if_neg n40, if_neg n41, if_neg n45, e]
theorem step_nil {rows : List (List D)} : wordStep rows [] = rows := rfl
theorem step_int {rows : List (List D)} {c : Nat} {r : List Nat} (n40 : (c :: r) ≠ [40]) (n41 : (c :: r) ≠ [41]) (n45 : (c :: r) ≠ [45]) (e : special? (c :: r) = none) (h : c = 45 ∨ isDig c = true) : wordStep rows (c :: r) = push (.int (intVal (c :: r))) rows := by
  unfold wordStep
  rw [if_neg n40, if_neg n41, if_neg n45, e]
  exact if_pos h
theorem step_txt {rows : List (List D)} {c : Nat} {r : List Nat} (n40 : (c :: r) ≠ [40]) (n41 : (c :: r) ≠ [41]) (n45 : (c :: r) ≠ [45]) (e : special? (c :: r) = none) (h : ¬ (c = 45 ∨ isDig c = true)) : wordStep rows (c :: r) = push (.str (c :: r)) rows := by
  unfold wordStep
  rw [if_neg n40, if_neg n41, if_neg n45, e]
  exact if_neg h
theorem special_bl {v : List Nat} (h : (special? v).isSome = true) (hn : v ≠ [110, 111, 110, 101]) : special? v = some (.bl (decide (v = [121, 101, 115]))) := by
  unfold special? at h ⊢
  by_cases a : v = [121, 101, 115]
  · rw [if_pos a, decide_eq_true a]
  · rw [if_neg a, decide_eq_false a]
    rw [if_neg a] at h
    by_cases b : v = [110, 111]
    · rw [if_pos b]
    · rw [if_neg b, if_neg hn] at h
      cases h
theorem special_non : special? [110, 111, 110, 101] = some .non := rfl
end K75
end
section
namespace K75
open PySem L2
section
variable {P : Program} {w : World} {K : PySem.W.Frag} {mg : Str → Option Value} {base : Heap}
/-! ### _law_p10_read -/
abbrev s_read : Stmt := top 36
abbrev N_read : List Str := ["_law_text", "_law_rows", "_law_word", "_law_row"]
theorem sc_read : FnScope N_read ["_law_text"] (defScope s_read) := ⟨rfl, rfl, rfl, by decide +kernel, rfl, by decide +kernel, by decide +kernel⟩
def spReadL : Sp := fun vs H Q _ => ∃ (t : Str) (u : D), vs = [.str t] ∧ t.length ≤ 1000000 ∧ parse t.cps.toList = .ok u ∧ ∀ v H', Same H H' → Rp H' v u → Q v H'
theorem d_S {w v : List Nat} {x : Str} (h : x = SX.S v) : decide (V.str (SX.S w) = V.str x) = decide (w = v) := by rw [d_str, S_is h]
theorem Rows.ne {H0 H : Hp} {R : Addr} {as : List Addr} {rows : List (List D)} (h : Rows H0 H R as rows) (hr : rows ≠ []) : ∃ a as' row rows', as = a :: as' ∧ rows = row :: rows' := by
  have hs := h.stk
  cases hs with
  | nil => exact absurd rfl hr
  | cons _ _ _ _ => exact ⟨_, _, _, _, rfl, rfl⟩
theorem len_at {a : Addr} {as : List Addr} {xs : List V} (h : xs = (a :: as).reverse.map V.ref) : atI xs ((xs.length : Int) - 1) = some (.ref a) := by
  have e : ((xs.length : Int) - 1) = ((xs.length - 1 : Nat) : Int) := by
    have : 1 ≤ xs.length := by
      rw [h]
      simp
    omega
  rw [e]
  refine atI_nat ?_
  rw [h, List.reverse_cons, List.map_append]
  simp
theorem int_word {v : List Nat} {c : Nat} {r : List Nat} (e : v = c :: r) (ok : intOk v) (n45 : v ≠ [45]) (h : c = 45 ∨ isDig c = true) : (∀ x ∈ (SX.S v).cps.toList, x = 45 ∨ (48 ≤ x ∧ x ≤ 57)) ∧ PySem.intText? (SX.S v) = some (intVal v) := by
  by_cases h45 : c = 45
  · subst h45
    obtain ⟨o1, o2⟩ := ok.1 r e
    subst e
    have hne : r ≠ [] := fun z => n45 (by rw [z])
    refine ⟨fun x hx => ?_, PySem.intText_neg (x := SX.S (45 :: r)) (cs := r) rfl (allDig o1) hne ?_⟩
    · rcases List.mem_cons.mp hx with rfl | hx
      · exact .inl rfl
      · exact .inr (allDig o1 x hx)
    · rw [SX.S_len, List.length_cons]
      omega
  · have hd : isDig c = true := h.resolve_left h45
    obtain ⟨o1, o2⟩ := ok.2 c r e hd
    have ev : intVal v = (val v : Int) := by
      subst e
      unfold intVal
      split
      · rename_i g
        injection g with g _
        exact absurd g h45
      · rfl
    refine ⟨fun x hx => .inr (allDig o1 x hx), ?_⟩
    rw [ev, val_eq]
    refine PySem.intText_digits (x := SX.S v) (allDig o1) (by rw [e]; exact List.cons_ne_nil _ _) ?_
    rw [SX.S_len]
    omega
theorem rep_bound (t : Str) (h : t.length ≤ 1000000) : t.length + (t.length + 1) * ("( " : Str).length ≤ 16777216 ∧ (Txt.replace t "(" "( ").length + ((Txt.replace t "(" "( ").length + 1) * (" )" : Str).length ≤ 16777216 ∧
    (Txt.replace (Txt.replace t "(" "( ") ")" " )").length + 2 ≤ sizeLine := by
  have e1 : ("( " : Str).length = 2 := by decide
  have e2 : (" )" : Str).length = 2 := by decide
  have h1 := TK.replace_len t "(" "( "
  have h2 := TK.replace_len (Txt.replace t "(" "( ") ")" " )"
  rw [e1] at h1
  rw [e2] at h2
  rw [e1, e2]
  refine ⟨by omega, by omega, ?_⟩
  refine Nat.le_trans (m := 10000000) (by omega) (by decide)
theorem ok_read {f fS : Addr} {fd fdS : FuncData} (F : Fun K "_law_p10_read" "_law_p10_read" s_read f fd) (T : Tx w K mg) (G_special : Cal P w K mg base CX0 "_law_p10_special" 1 fS fdS ["_law_word"] spSpecial) :
    FnOk P w K mg base CX0 2 f fd ["_law_text"] spReadL := by
  refine F.okT sc_read (by decide +kernel) (by decide) (fun vs H Q E h => ?_) (fun cdv A outer s H0 vs Q E hr h => ?_)
  · obtain ⟨t, u, rfl, _⟩ := h
    rfl
  obtain ⟨t, u, rfl, ht, hu, q⟩ := h
  refine ⟨_, (psst_cons (PST.of (ps_set (i := 1) sc_read.nd rfl (.inl rfl) (pe_lst (pa_cons (pe_lst pa_nil) pa_nil))))
      (psst_cons (pst_for (passes_of rfl) rfl (pit_list (pet_split (pet_repC (pet_repC (PET.of (pv 0)) (by decide)) (by decide)) pe_str)) (pg_name (i := 2) sc_read.nd rfl (.inl rfl)) (pss_one (ps_if (pt_cmpR op_eq (pv 2) pe_str (nomark _)) (pss_one (ps_expr (pe_bm PySem.F.plainAttrs_list PySem.F.slot_list_append PySem.F.type_list_append mt_append (pv 1) (pa_cons (pe_lst pa_nil) pa_nil)))) (pss_one (ps_if (pt_cmpR op_eq (pv 2) pe_str (nomark _)) (pss_cons (ps_set (i := 3) sc_read.nd rfl (.inl rfl) (pe_callTy call_tuple_of (by rfl) T.b_tuple (by decide +kernel) (pa_cons (pe_bm0 PySem.F.plainAttrs_list PySem.F.slot_list_pop PySem.F.type_list_pop mt_pop (pv 1)) pa_nil)))
      (pss_one (ps_expr (pe_bm PySem.F.plainAttrs_list PySem.F.slot_list_append PySem.F.type_list_append mt_append (pe_ix ix_list (pv 1) (pe_op op_sub (pe_callB call_len_seq (by rfl) T.b_len (by decide +kernel) (pa_cons (pv 1) pa_nil)) pe_int) (fun _ _ => rfl)) (pa_cons (pv 3) pa_nil))))) (pss_one (ps_if (pt_cmpR op_eq (pv 2) pe_str (nomark _)) (pss_one (ps_expr (pe_bm PySem.F.plainAttrs_list PySem.F.slot_list_append PySem.F.type_list_append mt_append (pe_ix ix_list (pv 1) (pe_op op_sub (pe_callB call_len_seq (by rfl) T.b_len (by decide +kernel) (pa_cons (pv 1) pa_nil)) pe_int) (fun _ _ => rfl)) (pa_cons pe_str pa_nil)))) (pss_one (ps_if (pt_cmpR op_in_seq (pv 2) (pe_lst (pa_cons pe_str (pa_cons pe_str (pa_cons pe_str pa_nil)))) (by rfl)) (pss_one (ps_expr (pe_bm PySem.F.plainAttrs_list PySem.F.slot_list_append PySem.F.type_list_append mt_append (pe_ix ix_list (pv 1) (pe_op op_sub (pe_callB call_len_seq (by rfl) T.b_len (by decide +kernel) (pa_cons (pv 1) pa_nil)) pe_int) (fun _ _ => rfl)) (pa_cons (pe_c G_special (hr.mono (by decide)) (pa_cons (pv 2) pa_nil)) pa_nil)))) (pss_one (ps_if (PW.pt (pw_and (pt_cmpR op_ne (pv 2) pe_str (nomark _)) (pw_and1 (pt_cmpR op_in_sign (pe_ix ix_str (pv 2) pe_int (fun _ _ => rfl)) pe_str (by rfl))))) (pss_one (ps_expr (pe_bm PySem.F.plainAttrs_list PySem.F.slot_list_append PySem.F.type_list_append mt_append (pe_ix ix_list (pv 1) (pe_op op_sub (pe_callB call_len_seq (by rfl) T.b_len (by decide +kernel) (pa_cons (pv 1) pa_nil)) pe_int) (fun _ _ => rfl)) (pa_cons (pe_callTy (call_int_sgn T.nd) (by rfl) T.b_int (by decide +kernel) (pa_cons (pv 2) pa_nil)) pa_nil)))) (pss_one (ps_if (pt_cmpR op_ne (pv 2) pe_str (nomark _)) (pss_one (ps_expr (pe_bm PySem.F.plainAttrs_list PySem.F.slot_list_append PySem.F.type_list_append mt_append (pe_ix ix_list (pv 1) (pe_op op_sub (pe_callB call_len_seq (by rfl) T.b_len (by decide +kernel) (pa_cons (pv 1) pa_nil)) pe_int) (fun _ _ => rfl)) (pa_cons (pv 2) pa_nil)))) pss_nil)))))))))))))
      (PSsT.of (pss_one (ps_ret (pe_ix ix_list (pe_ix ix_list (pv 1) pe_int (fun _ _ => rfl)) pe_int (fun _ _ => rfl))))))), ?_⟩
  refine ⟨(by show 0 ≤ sizeLine; decide), fun a0 h0 => ⟨(by show 1 ≤ sizeLine; decide), fun R hR => ?_⟩⟩
  obtain ⟨b1, b2, b3⟩ := rep_bound t ht
  refine ⟨_, rfl, t, rfl, b1, _, rfl, b2, ⟨_, rfl⟩, _, _, rfl, rfl, rfl, b3, fun p hp => ?_⟩
  rw [words_cut]
  have hws := words_parse_ok hu
  have hwu := words_parse hu
  have hwl := spl_len t.cps.toList []
  rw [len_codes] at hwl
  generalize hW : K75.spl [] t.cps.toList = ws at hws hwu hwl ⊢
  have naR : a0 ≠ R := (ne_of_none (upd_same (H := H0) (a := a0) (o := .lst [])) hR)
  have hRw0 : Rows H0 (upd (upd H0 a0 (.lst [])) R (.lst [.ref a0])) R [a0] [[]] := by
    refine ⟨upd_same, .cons (xs := []) ?_ .nil (by simp) .nil, by simpa using naR.symm, fun a ha => ?_, same_wr ?_ (same_wr h0 (Same.refl H0))⟩
    · rw [upd_ne naR, upd_same]
    · have hRf : H0 R = none := by
        rw [upd_ne naR.symm] at hR
        exact hR
      rcases List.mem_cons.mp ha with rfl | ha
      · exact hRf
      · rw [List.mem_singleton.mp ha]
        exact h0
    · rw [upd_ne naR.symm] at hR
      exact hR
  have npR : p ≠ R := (ne_of_none (upd_same (H := upd H0 a0 (.lst [])) (a := R) (o := .lst [.ref a0])) hp).symm
  have npa : p ≠ a0 := fun e => by
    subst e
    rw [upd_ne naR, upd_same] at hp
    cases hp
  let Pv : Nat → L2.St → Hp → Prop := fun i σ H => ∃ (as : List Addr) (rows : List (List D)) (vo wo : Option V), σ = [some (.str t), some (.ref R), vo, wo] ∧ Rows H0 H R as rows ∧ H p = some (.lst ((ws.map SX.S).map V.str)) ∧ p ∉ R :: as ∧
    wordsOk rows (ws.drop i) ∧ words rows (ws.drop i) = [[u]] ∧ Bd2 rows (ws.length - i)
  refine ⟨p, rfl, ⟨_, SqL.of upd_same⟩, for_list (xs := (ws.map SX.S).map V.str) Pv ?_ ?_ ?_ ?_⟩
  · refine ⟨[a0], [[]], _, _, rfl, hRw0.ext (Same.new hp), upd_same, by simp [npR, npa], hws, hwu, ⟨?_, fun r hr => ?_⟩⟩
    · show 1 + (ws.length - 0) ≤ 1000003
      omega
    · rw [List.mem_singleton.mp hr]
      show 0 + (ws.length - 0) ≤ 1000003
      omega
  · rintro i σ H hi ⟨as, rows, vo, wo, rfl, hRw, hpp, hpn, _⟩
    exact SqL.of hpp
  · rintro i x σ H hx ⟨as, rows, vo, wo, rfl, hRw, hpp, hpn, ok, end_, bd⟩
    obtain ⟨v, hv, rfl⟩ : ∃ v, ws[i]? = some v ∧ x = .str (SX.S v) := by
      rw [List.getElem?_map, List.getElem?_map] at hx
      cases e : ws[i]? with
      | none => rw [e] at hx; cases hx
      | some v =>
        rw [e] at hx
        exact ⟨v, rfl, (Option.some.inj hx).symm⟩
    have hil : i < ws.length := (List.getElem?_eq_some_iff.mp hv).1
    have hd : ws.drop i = v :: ws.drop (i + 1) := by
      rw [List.drop_eq_getElem_cons hil]
      rw [(List.getElem?_eq_some_iff.mp hv).2]
    rw [hd] at ok end_
    have en : ws.length - i = (ws.length - (i + 1)) + 1 := by omega
    rw [en] at bd
    have bd' := bd.step v
    have ok' := ok.2
    have end' : words (wordStep rows v) (ws.drop (i + 1)) = [[u]] := end_
    have fin : ∀ {H3 : Hp} {as' : List Addr} {rows' : List (List D)} {wo' : Option V}, Rows H0 H3 R as' rows' → H3 p = some (.lst ((ws.map SX.S).map V.str)) → p ∉ R :: as' → rows' = wordStep rows v → Pv (i + 1) [some (.str t), some (.ref R), some (.str (SX.S v)), wo'] H3 :=
      fun r1 r2 r3 e => ⟨_, _, _, _, rfl, r1, r2, r3, by rw [e]; exact ok', by rw [e]; exact end', by rw [e]; exact bd'⟩
    obtain ⟨a, as', row, rows', rfl, rfl⟩ := hRw.ne ok.1.1
    obtain ⟨xs, ha, hxs⟩ := hRw.top
    have lx : xs.length < sizeLine := by
      have z := bd.2 row (List.mem_cons_self ..)
      rw [hxs.len]
      exact Nat.lt_of_lt_of_le (show row.length < 1000003 by omega) (by decide)
    have lr : ((a :: as').reverse.map V.ref).length < sizeLine := by
      rw [hRw.len]
      exact Nat.lt_of_lt_of_le (show (row :: rows').length < 1000003 by have := bd.1; omega) (by decide)
    have hpa : p ≠ a := fun e => hpn (by rw [e]; simp)
    have put : ∀ {H2 : Hp} {z : V} {d : D} {wo' : Option V}, Same H H2 → Rp H2 z d → wordStep (row :: rows') v = push d (row :: rows') → Pv (i + 1) [some (.str t), some (.ref R), some (.str (SX.S v)), wo'] (upd H2 a (.lst (xs ++ [z]))) := fun g hz e =>
      fin ((hRw.ext g).app (g _ _ ha) (hxs.same g) hz) (by rw [upd_ne hpa]; exact g _ _ hpp) hpn (by rw [e]; rfl)
    refine ⟨_, rfl, rfl, _, rfl, ?_⟩
    rw [d_S (v := [40]) (by decide)]
    by_cases h40 : v = [40]
    · rw [decide_eq_true h40]
      refine iteT ⟨_, rfl, .inl ⟨rfl, _, SqL.of hRw.at_⟩, (by show 0 ≤ sizeLine; decide), fun b hb => ?_⟩
      refine ⟨R, _, _, rfl, rfl, by rw [upd_ne (ne_of_none hRw.at_ hb)]; exact hRw.at_, lr, ?_⟩
      have npb : p ≠ b := fun e => by
        rw [e, hb] at hpp
        cases hpp
      refine fin (hRw.push hb) ?_ ?_ ?_
      · rw [upd_ne npR, upd_ne npb]
        exact hpp
      · intro hm
        rcases List.mem_cons.mp hm with e | hm
        · exact npR e
        · rcases List.mem_cons.mp hm with e | hm
          · exact npb e
          · exact hpn (List.mem_cons_of_mem _ hm)
      · rw [h40]
        rfl
    rw [decide_eq_false h40]
    refine iteF ⟨_, rfl, rfl, _, rfl, ?_⟩
    rw [d_S (v := [41]) (by decide)]
    by_cases h41 : v = [41]
    · rw [decide_eq_true h41]
      refine iteT ?_
      obtain ⟨e1, e2⟩ := hRw.last
      refine ⟨_, rfl, .inl ⟨rfl, _, SqL.of hRw.at_⟩, R, _, _, rfl, rfl, hRw.at_, e1, ?_⟩
      rw [e2]
      have hR2 := hRw.pop
      have ha2 : upd H R (.lst (as'.reverse.map V.ref)) a = some (.lst xs) := by
        rw [upd_ne (show a ≠ R from fun z => hRw.nr (by rw [← z]; exact List.mem_cons_self ..))]
        exact ha
      refine ⟨a, _, rfl, .inl ⟨SqL.of ha2, fun c hc => ?_⟩⟩
      have g := Same.new (o := HO.tup xs) hc
      have hR3 := hR2.ext g
      have hvv : Rp (upd (upd H R (.lst (as'.reverse.map V.ref))) c (.tup xs)) (.ref c) (.tup row) := .tup upd_same ((hxs.wr hRw.at_).same g)
      have h2 := ok.1.2.1 h41
      have hne : rows' ≠ [] := by
        intro e
        rw [e] at h2
        simp at h2
      obtain ⟨a2, as2, row2, rows2, rfl, rfl⟩ := hR3.ne hne
      obtain ⟨xs2, ha3, hxs2⟩ := hR3.top
      have lx2 : xs2.length < sizeLine := by
        have z := bd.2 row2 (List.mem_cons_of_mem _ (List.mem_cons_self ..))
        rw [hxs2.len]
        exact Nat.lt_of_lt_of_le (show row2.length < 1000003 by omega) (by decide)
      have hpp3 : upd (upd H R (.lst ((a2 :: as2).reverse.map V.ref))) c (.tup xs) p = some (.lst ((ws.map SX.S).map V.str)) := g p _ (by rw [upd_ne npR]; exact hpp)
      have hpn3 : p ∉ R :: a2 :: as2 := fun hm => hpn (by
        rcases List.mem_cons.mp hm with e | hm
        · rw [e]; exact List.mem_cons_self ..
        · exact List.mem_cons_of_mem _ (List.mem_cons_of_mem _ hm))
      refine ⟨_, rfl, _, rfl, R, _, rfl, .inl (SqL.of hR3.at_), _, _, rfl, rfl, R, _, _, .ref a2, rfl, rfl, SqL.of hR3.at_, len_at rfl, .inl ⟨rfl, _, SqL.of ha3⟩, _, rfl, a2, xs2, _, rfl, rfl, ha3, lx2, ?_⟩
      refine fin (hR3.app ha3 hxs2 hvv) ?_ hpn3 ?_
      · rw [upd_ne (show p ≠ a2 from fun e => hpn3 (by rw [e]; simp))]
        exact hpp3
      · rw [h41]
        rfl
    rw [decide_eq_false h41]
    refine iteF ⟨_, rfl, rfl, _, rfl, ?_⟩
    rw [d_S (v := [45]) (by decide)]
    by_cases h45 : v = [45]
    · rw [decide_eq_true h45]
      refine iteT ⟨_, rfl, _, rfl, R, _, rfl, .inl (SqL.of hRw.at_), _, _, rfl, rfl, R, _, _, .ref a, rfl, rfl, SqL.of hRw.at_, len_at rfl, .inl ⟨rfl, _, SqL.of ha⟩, a, xs, _, rfl, rfl, ha, lx, ?_⟩
      exact put (Same.refl H) (.str "") (by rw [h45]; rfl)
    rw [decide_eq_false h45]
    refine iteF ⟨_, rfl, (by show 3 ≤ sizeLine; decide), fun b hb => ?_⟩
    refine ⟨b, _, rfl, .inl (SqL.of upd_same), rfl, rfl, _, rfl, ?_⟩
    rw [in_special]
    have g := Same.new (o := HO.lst [V.str "yes", V.str "no", V.str "none"]) hb
    generalize upd H b (.lst [V.str "yes", V.str "no", V.str "none"]) = H4 at g
    have at4 := g _ _ hRw.at_
    have ha4 := g _ _ ha
    have hvl : v.length ≤ 1000000 := by
      have z := spl_mem_len t.cps.toList [] v (by rw [hW]; exact List.mem_of_getElem? hv)
      rw [len_codes] at z
      simp only [List.length_nil] at z
      omega
    by_cases hs : (special? v).isSome = true
    · rw [hs]
      refine iteT ⟨_, rfl, _, rfl, R, _, rfl, .inl (SqL.of at4), _, _, rfl, rfl, R, _, _, .ref a, rfl, rfl, SqL.of at4, len_at rfl, .inl ⟨rfl, _, SqL.of ha4⟩, _, rfl, SX.S v, rfl, fun e => ?_, fun e => ?_⟩
      · refine ⟨a, xs, _, rfl, rfl, ha4, lx, put g .non (step_spec h40 h41 h45 ?_)⟩
        rw [special_none.mp e]
        exact special_non
      · refine ⟨a, xs, _, rfl, rfl, ha4, lx, put g (.bl _) (step_spec h40 h41 h45 ?_)⟩
        have e2 := special_bl hs (fun z => e (special_none.mpr z))
        rw [S_is (v := [121, 101, 115]) (by decide)]
        exact e2
    have hs0 : special? v = none := by
      cases e : special? v with
      | none => rfl
      | some d => exact absurd (by rw [e]; rfl) hs
    rw [Bool.not_eq_true] at hs
    rw [hs]
    refine iteF ⟨_, rfl, rfl, _, rfl, ?_⟩
    rw [d_S (v := []) (by decide)]
    cases v with
    | nil =>
      rw [decide_eq_true rfl]
      refine iteF (iteF ⟨_, rfl, rfl, _, rfl, ?_⟩)
      rw [d_S (v := []) (by decide), decide_eq_true rfl]
      exact iteF (fin (hRw.ext g) (g _ _ hpp) hpn rfl)
    | cons c r =>
      rw [decide_eq_false (fun z => nomatch z)]
      refine iteT ⟨_, rfl, _, _, c, rfl, rfl, ?_, ?_, _, _, rfl, rfl, _, rfl, ?_⟩
      · rw [SX.S_len]
        exact Nat.le_trans hvl (by decide)
      · exact atI_nat (j := 0) rfl
      by_cases hI : c = 45 ∨ isDig c = true
      · rw [decide_eq_true ((mem_sd c).mpr hI)]
        obtain ⟨i1, i2⟩ := int_word rfl ok.1.2.2 h45 hI
        refine iteT ⟨_, rfl, _, rfl, R, _, rfl, .inl (SqL.of at4), _, _, rfl, rfl, R, _, _, .ref a, rfl, rfl, SqL.of at4, len_at rfl, .inl ⟨rfl, _, SqL.of ha4⟩, _, rfl, SX.S (c :: r), _, rfl, ?_, i1, i2, a, xs, _, rfl, rfl, ha4, lx, put g (.int _) (step_int h40 h41 h45 hs0 hI)⟩
        rw [SX.S_len]
        exact Nat.le_trans hvl (by decide)
      · rw [decide_eq_false (fun e => hI ((mem_sd c).mp e))]
        refine iteF ⟨_, rfl, rfl, _, rfl, ?_⟩
        rw [d_S (v := []) (by decide), decide_eq_false (fun z => nomatch z)]
        exact iteT ⟨_, rfl, _, rfl, R, _, rfl, .inl (SqL.of at4), _, _, rfl, rfl, R, _, _, .ref a, rfl, rfl, SqL.of at4, len_at rfl, .inl ⟨rfl, _, SqL.of ha4⟩, _, rfl, a, xs, _, rfl, rfl, ha4, lx, put g (Rp.str (SX.S (c :: r))) (step_txt h40 h41 h45 hs0 hI)⟩
  · rintro σ H ⟨as, rows, vo, wo, rfl, hRw, hpp, hpn, ok, end_, bd⟩
    have el : ((ws.map SX.S).map V.str).length = ws.length := by simp
    rw [el, List.drop_length] at end_
    have er : rows = [[u]] := end_
    subst er
    have hs := hRw.stk
    cases hs with
    | cons ha hxs n s =>
      cases s
      cases hxs with
      | cons hv hr =>
        cases hr
        refine ⟨_, rfl, R, _, _, _, rfl, rfl, SqL.of hRw.at_, (by rfl), _, _, _, _, rfl, rfl, SqL.of ha, (by rfl), q _ _ hRw.same hv⟩
end
end K75
end
section
namespace K75
open PySem L2
section
variable {P : Program} {w : World} {K : PySem.W.Frag} {mg : Str → Option Value} {base : Heap}
theorem cutS_len (z : Str) (lo hi : Option Int) : (cutS z lo hi).length = min (HT.sIx z.length z.length hi - HT.sIx z.length 0 lo) (z.length - HT.sIx z.length 0 lo) := by
  show (((z.cps.toList.drop (HT.sIx z.length 0 lo)).take (HT.sIx z.length z.length hi - HT.sIx z.length 0 lo)).toArray).size = _
  rw [List.size_toArray, List.length_take, List.length_drop, len_codes]
theorem sIx_pos {n d : Nat} {p : Int} (h : 0 ≤ p) : HT.sIx n d (some p) = min p.toNat n := by
  show (if p < 0 then (p + (n : Int)).toNat else min p.toNat n) = _
  rw [if_neg (by omega)]
theorem cut_lo {z : Str} {p : Int} (h : 0 ≤ p) : (cutS z none (some p)).length ≤ p.toNat := by
  rw [cutS_len, sIx_pos h]
  show min (min p.toNat z.length - 0) (z.length - 0) ≤ _
  omega
theorem cut_hi {z : Str} {p : Int} (h : 0 ≤ p) : (cutS z (some p) none).length ≤ z.length - p.toNat := by
  rw [cutS_len, sIx_pos h]
  show min (z.length - min p.toNat z.length) (z.length - min p.toNat z.length) ≤ _
  omega
theorem cut_one {z : Str} {p : Int} (h : 0 ≤ p) : (cutS z (some p) (some (p + 1))).length ≤ 1 := by
  rw [cutS_len, sIx_pos h, sIx_pos (show 0 ≤ p + 1 by omega)]
  omega
/-! ### _law_p10_spoilt -/
abbrev s_spoilt : Stmt := top 38
abbrev N_spoilt : List Str := ["_law_bag_here", "_law_text", "_law_signs", "_law_place", "_law_sign", "_law_way"]
theorem sc_spoilt : FnScope N_spoilt ["_law_bag_here", "_law_text"] (defScope s_spoilt) := ⟨rfl, rfl, rfl, by decide +kernel, rfl, by decide +kernel, by decide +kernel⟩
def spSpoilt : Sp := fun vs H Q _ => ∃ (b : Addr) (t : Str), vs = [.ref b, .str t] ∧ BagAt H b ∧ t.length ≤ 900000 ∧ ∀ (z : Str) (H' : Hp), Keep b H H' → BagAt H' b → z.length ≤ t.length + 1 → Q (.str z) H'
theorem ok_spoilt {f fD fK : Addr} {fd fdD fdK : FuncData} (F : Fun K "_law_p10_spoilt" "_law_p10_spoilt" s_spoilt f fd) (T : Tx w K mg) (G_draw : CalDraw P w K mg base fD fdD) (G_pick : CalPick P w K mg base fK fdK) :
    FnOk P w K mg base CX0 4 f fd ["_law_bag_here", "_law_text"] spSpoilt := by
  refine F.ok sc_spoilt (fun vs H Q E h => ?_) (fun cdv A outer s H vs Q E hr h => ?_)
  · obtain ⟨b, t, rfl, _⟩ := h
    rfl
  obtain ⟨b, t, rfl, hB, ht, q⟩ := h
  refine ⟨_, (pss_cons (ps_set (i := 2) sc_spoilt.nd rfl (.inl rfl) (pe_op op_cat (pe_callTy (call_list_txt rfl) (by rfl) T.b_list (by decide +kernel) (pa_cons pe_str pa_nil)) (pe_lst (pa_cons pe_str (pa_cons pe_str pa_nil)))))
      (pss_cons (ps_set (i := 3) sc_spoilt.nd rfl (.inl rfl) (pe_c G_draw (hr.mono (by decide)) (pa_cons (pv 0) (pa_cons (pe_op op_add (pe_callB call_len_str (by rfl) T.b_len (by decide +kernel) (pa_cons (pv 1) pa_nil)) pe_int) pa_nil))))
      (pss_cons (ps_set (i := 4) sc_spoilt.nd rfl (.inl rfl) (pe_c G_pick (hr.mono (by decide)) (pa_cons (pv 0) (pa_cons (pv 2) pa_nil))))
      (pss_cons (ps_set (i := 5) sc_spoilt.nd rfl (.inl rfl) (pe_c G_draw (hr.mono (by decide)) (pa_cons (pv 0) (pa_cons pe_int pa_nil))))
      (pss_cons (ps_if (pt_cmpR op_eq (pv 5) pe_int (nomark _)) (pss_one (ps_ret (pe_op op_add_str (pe_slice sl_str (pv 1) po_none (po_some (pv 3))) (pe_slice sl_str (pv 1) (po_some (pe_op op_add (pv 3) pe_int)) po_none)))) pss_nil)
      (pss_cons (ps_if (pt_cmpR op_eq (pv 5) pe_int (nomark _)) (pss_one (ps_ret (pe_op op_add_str (pe_op op_add_str (pe_slice sl_str (pv 1) po_none (po_some (pv 3))) (pv 4)) (pe_slice sl_str (pv 1) (po_some (pv 3)) po_none)))) pss_nil)
      (pss_cons (ps_if (pt_cmpR op_eq (pv 5) pe_int (nomark _)) (pss_one (ps_ret (pe_op op_add_str (pe_op op_add_str (pe_slice sl_str (pv 1) po_none (po_some (pv 3))) (pv 4)) (pe_slice sl_str (pv 1) (po_some (pe_op op_add (pv 3) pe_int)) po_none)))) pss_nil)
      (pss_cons (ps_if (pt_cmpR op_eq (pv 5) pe_int (nomark _)) (pss_one (ps_ret (pe_slice sl_str (pv 1) po_none (po_some (pv 3))))) pss_nil)
      (pss_cons (ps_if (pt_cmpR op_eq (pv 5) pe_int (nomark _)) (pss_one (ps_ret (pe_op op_add_str (pv 1) (pv 4)))) pss_nil)
      (pss_cons (ps_if (pt_cmpR op_eq (pv 5) pe_int (nomark _)) (pss_one (ps_ret (pe_op op_add_str (pe_op op_add_str (pe_slice sl_str (pv 1) po_none (po_some (pv 3))) (pe_slice sl_str (pv 1) (po_some (pv 3)) (po_some (pe_op op_add (pv 3) pe_int)))) (pe_slice sl_str (pv 1) (po_some (pv 3)) po_none)))) pss_nil)
      (pss_one (ps_ret (pv 1))))))))))))), ?_⟩
  have hline : t.length + 10 ≤ sizeLine := Nat.le_trans (show t.length + 10 ≤ 1000000 by omega) (by decide)
  have hl : t.length ≤ sizeLine := by omega
  refine ⟨_, rfl, (by decide), fun l hl' => ⟨(by show 2 ≤ sizeLine; decide), fun m hm => ?_⟩⟩
  refine ⟨l, m, _, _, rfl, rfl, by rw [upd_ne (ne_of_none upd_same hm)]; exact upd_same, upd_same, (by decide), fun c hc => ?_⟩
  have g := fun o => (Same.new hl').trans ((Same.new hm).trans (Same.new (o := o) hc))
  refine ⟨_, rfl, _, rfl, _, rfl, hl, _, _, rfl, rfl, b, (t.length : Int) + 1, rfl, hB.same (g _), ?_, fun p H1 k1 B1 p0 p1 p2 => ?_⟩
  · exact Nat.lt_of_le_of_lt (show ((t.length : Int) + 1).natAbs ≤ 900001 by omega) (by decide)
  have k0 := (Keep.of (b := b) (g _)).trans k1
  have hcb : c ≠ b := (hB.same ((Same.new hl').trans (Same.new hm))).ne hc
  refine ⟨_, rfl, _, rfl, b, c, _, rfl, B1, k1.o c _ hcb upd_same, hcb, (by decide), (by decide), fun v hv H2 k2 B2 => ?_⟩
  obtain ⟨y, rfl, hy⟩ := strIn_ex (m := 1) (List.all_eq_true.mp (by decide +kernel) v hv)
  refine ⟨_, rfl, b, 7, rfl, B2, by decide, fun r H3 k3 B3 r0 r1 r2 => ?_⟩
  have k := (k0.trans k2).trans k3
  have hp : p.toNat ≤ t.length := by
    by_cases h2 : (2 : Int) ≤ (t.length : Int) + 1
    · have := p1 h2
      omega
    · have := p2 (by omega)
      omega
  have a1 := cut_lo (z := t) p0
  have a2 := cut_hi (z := t) p0
  have a3 := cut_hi (z := t) (show 0 ≤ p + 1 by omega)
  have a4 := cut_one (z := t) p0
  refine ⟨_, rfl, rfl, _, rfl, ?_⟩
  refine ite2 (fun _ => ?_) (fun _ => ?_)
  · refine ⟨_, rfl, _, rfl, _, rfl, t, rfl, hl, _, rfl, _, rfl, _, _, rfl, rfl, _, rfl, t, rfl, hl, _, _, rfl, rfl, ?_, q _ _ k B3 ?_⟩
    · omega
    · rw [len_add]
      omega
  refine ⟨_, rfl, rfl, _, rfl, ?_⟩
  refine ite2 (fun _ => ?_) (fun _ => ?_)
  · refine ⟨_, rfl, _, rfl, _, rfl, t, rfl, hl, _, rfl, _, _, rfl, rfl, ?_, _, rfl, _, rfl, _, rfl, t, rfl, hl, _, _, rfl, rfl, ?_, q _ _ k B3 ?_⟩
    · omega
    · rw [len_add]
      omega
    · rw [len_add, len_add]
      omega
  refine ⟨_, rfl, rfl, _, rfl, ?_⟩
  refine ite2 (fun _ => ?_) (fun _ => ?_)
  · refine ⟨_, rfl, _, rfl, _, rfl, t, rfl, hl, _, rfl, _, _, rfl, rfl, ?_, _, rfl, _, rfl, _, _, rfl, rfl, _, rfl, t, rfl, hl, _, _, rfl, rfl, ?_, q _ _ k B3 ?_⟩
    · omega
    · rw [len_add]
      omega
    · rw [len_add, len_add]
      omega
  refine ⟨_, rfl, rfl, _, rfl, ?_⟩
  refine ite2 (fun _ => ?_) (fun _ => ?_)
  · exact ⟨_, rfl, _, rfl, _, rfl, t, rfl, hl, q _ _ k B3 (by omega)⟩
  refine ⟨_, rfl, rfl, _, rfl, ?_⟩
  refine ite2 (fun _ => ?_) (fun _ => ?_)
  · refine ⟨_, rfl, _, rfl, _, _, rfl, rfl, ?_, q _ _ k B3 ?_⟩
    · omega
    · rw [len_add]
      omega
  refine ⟨_, rfl, rfl, _, rfl, ?_⟩
  refine ite2 (fun _ => ?_) (fun _ => ?_)
  · refine ⟨_, rfl, _, rfl, _, rfl, t, rfl, hl, _, rfl, _, rfl, _, rfl, _, rfl, _, _, rfl, rfl, _, rfl, t, rfl, hl, _, _, rfl, rfl, ?_, _, rfl, _, rfl, _, rfl, t, rfl, hl, _, _, rfl, rfl, ?_, q _ _ k B3 ?_⟩
    · omega
    · rw [len_add]
      omega
    · rw [len_add, len_add]
      omega
  exact ⟨_, rfl, q _ _ k B3 (by omega)⟩
/-! ### _law_p10_odd -/
abbrev s_odd : Stmt := top 39
abbrev N_odd : List Str := ["_law_bag_here", "_law_rows", "_law_text"]
theorem sc_odd : FnScope N_odd ["_law_bag_here"] (defScope s_odd) := ⟨rfl, rfl, rfl, by decide +kernel, rfl, by decide +kernel, by decide +kernel⟩
def spOdd : Sp := fun vs H Q _ => ∃ b : Addr, vs = [.ref b] ∧ BagAt H b ∧ ∀ (z : Str) (H' : Hp), Keep b H H' → BagAt H' b → z.length ≤ 5000 → Q (.str z) H'
theorem rep_len (l : List Nat) : ∀ n : Nat, ((List.replicate n l).flatten).length = n * l.length
  | 0 => by simp
  | n + 1 => by
    rw [List.replicate_succ, List.flatten_cons, List.length_append, rep_len l n, Nat.succ_mul]
    omega
theorem mul_len {r a : Str} {n : Nat} (h : r.cps.toList = (List.replicate n a.cps.toList).flatten) : r.length = n * a.length := by
  have q := congrArg List.length h
  rw [len_codes, rep_len, len_codes] at q
  exact q
theorem ok_odd {f fD fK : Addr} {fd fdD fdK : FuncData} (F : Fun K "_law_p10_odd" "_law_p10_odd" s_odd f fd) (T : Tx w K mg) (G_draw : CalDraw P w K mg base fD fdD) (G_pick : CalPick P w K mg base fK fdK) :
    FnOk P w K mg base CX0 4 f fd ["_law_bag_here"] spOdd := by
  refine F.ok sc_odd (fun vs H Q E h => ?_) (fun cdv A outer s H vs Q E hr h => ?_)
  · obtain ⟨b, rfl, _⟩ := h
    rfl
  obtain ⟨b, rfl, hB, q⟩ := h
  refine ⟨_, (pss_cons (ps_set (i := 1) sc_odd.nd rfl (.inl rfl) (pe_lst (pa_cons pe_str (pa_cons pe_str (pa_cons pe_str (pa_cons pe_str (pa_cons pe_str (pa_cons pe_str (pa_cons pe_str (pa_cons pe_str (pa_cons pe_str (pa_cons pe_str (pa_cons pe_str (pa_cons pe_str (pa_cons pe_str (pa_cons pe_str (pa_cons pe_str (pa_cons pe_str (pa_cons pe_str (pa_cons pe_str (pa_cons pe_str (pa_cons pe_str pa_nil))))))))))))))))))))))
      (pss_cons (ps_set (i := 1) sc_odd.nd rfl (.inl rfl) (pe_op op_cat (pv 1) (pe_lst (pa_cons pe_str (pa_cons pe_str (pa_cons pe_str (pa_cons pe_str (pa_cons pe_str (pa_cons pe_str (pa_cons pe_str (pa_cons pe_str (pa_cons pe_str (pa_cons pe_str (pa_cons pe_str (pa_cons pe_str (pa_cons pe_str (pa_cons pe_str pa_nil)))))))))))))))))
      (pss_cons (ps_set (i := 1) sc_odd.nd rfl (.inl rfl) (pe_op op_cat (pv 1) (pe_lst (pa_cons (pe_op op_mulS pe_str pe_int) (pa_cons (pe_op op_mulS pe_str pe_int) (pa_cons (pe_op op_add_str (pe_op op_mulS pe_str pe_int) (pe_op op_mulS pe_str pe_int)) (pa_cons (pe_op op_add_str (pe_op op_mulS pe_str pe_int) (pe_op op_mulS pe_str pe_int)) (pa_cons (pe_op op_mulS pe_str pe_int) (pa_cons (pe_op op_add_str pe_str (pe_op op_mulS pe_str pe_int)) pa_nil)))))))))
      (pss_cons (ps_set (i := 2) sc_odd.nd rfl (.inl rfl) (pe_c G_pick (hr.mono (by decide)) (pa_cons (pv 0) (pa_cons (pv 1) pa_nil))))
      (pss_cons (ps_if (pt_cmpR op_eq (pe_c G_draw (hr.mono (by decide)) (pa_cons (pv 0) (pa_cons pe_int pa_nil))) pe_int (nomark _)) (pss_one (ps_ret (pe_op op_add_str (pe_op op_add_str pe_str (pv 2)) pe_str))) pss_nil)
      (pss_one (ps_ret (pv 2)))))))), ?_⟩
  refine ⟨(by show 20 ≤ sizeLine; decide), fun p1 h1 => ?_⟩
  refine ⟨_, rfl, (by show 14 ≤ sizeLine; decide), fun p2 h2 => ?_⟩
  refine ⟨p1, p2, _, _, rfl, rfl, by rw [upd_ne (ne_of_none upd_same h2)]; exact upd_same, upd_same, (by decide), fun p3 h3 => ?_⟩
  refine ⟨_, rfl, ?_⟩
  refine ⟨_, _, rfl, rfl, by decide, by decide, by decide, fun r1 e1 => ?_⟩
  refine ⟨_, _, rfl, rfl, by decide, by decide, by decide, fun r2 e2 => ?_⟩
  refine ⟨_, _, rfl, rfl, by decide, by decide, by decide, fun r3 e3 => ?_⟩
  refine ⟨_, _, rfl, rfl, by decide, by decide, by decide, fun r4 e4 => ?_⟩
  have l1 : r1.length = 12 := mul_len e1
  have l2 : r2.length = 13 := mul_len e2
  have l3 : r3.length = 60 := mul_len e3
  have l4 : r4.length = 60 := mul_len e4
  refine ⟨_, _, rfl, rfl, by rw [l3, l4]; decide, ?_⟩
  refine ⟨_, _, rfl, rfl, by decide, by decide, by decide, fun r5 e5 => ?_⟩
  refine ⟨_, _, rfl, rfl, by decide, by decide, by decide, fun r6 e6 => ?_⟩
  have l5 : r5.length = 61 := mul_len e5
  have l6 : r6.length = 61 := mul_len e6
  refine ⟨_, _, rfl, rfl, by rw [l5, l6]; decide, ?_⟩
  refine ⟨_, _, rfl, rfl, by decide, by decide, by decide, fun r7 e7 => ?_⟩
  refine ⟨_, _, rfl, rfl, by decide, by decide, by decide, fun r8 e8 => ?_⟩
  have l7 : r7.length = 4000 := mul_len e7
  have l8 : r8.length = 4001 := mul_len e8
  refine ⟨_, _, rfl, rfl, by rw [l8]; decide, ?_⟩
  refine ⟨(by show 6 ≤ sizeLine; decide), fun p4 h4 => ?_⟩
  refine ⟨p3, p4, _, _, rfl, rfl, by rw [upd_ne (ne_of_none upd_same h4)]; exact upd_same, upd_same, (by show 34 + 6 ≤ sizeLine; decide), fun p5 h5 => ?_⟩
  have g := fun o => (Same.new h1).trans ((Same.new h2).trans ((Same.new h3).trans ((Same.new h4).trans (Same.new (o := o) h5))))
  have hcb : p5 ≠ b := (hB.same ((Same.new h1).trans ((Same.new h2).trans ((Same.new h3).trans (Same.new h4))))).ne h5
  refine ⟨_, rfl, _, rfl, b, p5, _, rfl, hB.same (g _), upd_same, hcb, (by show 0 < 34 + 6; decide), (by show 34 + 6 ≤ 1000; decide), fun v hv H2 k2 B2 => ?_⟩
  obtain ⟨y, rfl, hy⟩ : ∃ z, v = .str z ∧ z.length ≤ 4002 := by
    rcases List.mem_append.mp hv with hv | hv
    · exact strIn_ex (m := 4002) (List.all_eq_true.mp (by decide +kernel) v hv)
    · have l9 : (("-" : Str) ++ r8).length = 4002 := by
        rw [len_add, l8]
        rfl
      have all : ([V.str r1, .str r2, .str (r3 ++ r4), .str (r5 ++ r6), .str r7, .str ("-" ++ r8)] : List V).all (strIn 4002) = true := by
        simp [strIn, l1, l2, l3, l4, l5, l6, l7, l9, len_add]
      exact strIn_ex (List.all_eq_true.mp all v hv)
  have k0 := (Keep.of (b := b) (g _)).trans k2
  refine ⟨_, rfl, b, 4, rfl, B2, by decide, fun r H3 k3 B3 r0 r1' r2' => ⟨rfl, _, rfl, ?_⟩⟩
  have q1 : ("(" : Str).length = 1 := by decide
  have q3 : (" x)" : Str).length = 3 := by decide
  have hline : 4100 ≤ sizeLine := by decide
  refine ite2 (fun _ => ?_) (fun _ => ?_)
  · refine ⟨_, rfl, _, _, rfl, rfl, ?_, _, _, rfl, rfl, ?_, q _ _ (k0.trans k3) B3 ?_⟩
    · rw [q1]
      omega
    · rw [len_add, q1, q3]
      omega
    · rw [len_add, len_add, q1, q3]
      omega
  · exact ⟨_, rfl, q _ _ (k0.trans k3) B3 (by omega)⟩
end
end K75
end
section
namespace K75
open PySem L2
section
variable {P : Program} {w : World} {K : PySem.W.Frag} {mg : Str → Option Value} {base : Heap}
/-! ### _law_p10_any -/
abbrev s_any : Stmt := top 40
abbrev N_any : List Str := ["_law_bag_here", "_law_text", "_law_k"]
theorem sc_any : FnScope N_any ["_law_bag_here"] (defScope s_any) := ⟨rfl, rfl, rfl, by decide +kernel, rfl, by decide +kernel, by decide +kernel⟩
def spAny : Sp := fun vs H Q _ => ∃ b : Addr, vs = [.ref b] ∧ BagAt H b ∧ ∀ (z : Str) (H' : Hp), Keep b H H' → BagAt H' b → z.length ≤ 500000 → Q (.str z) H'
theorem ok_any {f fD fK fO fT fW fV fS : Addr} {fd fdD fdK fdO fdT fdW fdV fdS : FuncData} (F : Fun K "_law_p10_any" "_law_p10_any" s_any f fd) (T : Tx w K mg) (G_draw : CalDraw P w K mg base fD fdD) (G_pick : CalPick P w K mg base fK fdK)
    (G_odd : Cal P w K mg base CX0 "_law_p10_odd" 4 fO fdO ["_law_bag_here"] spOdd) (G_text : Cal P w K mg base CX0 "_law_p10_text" 62 fT fdT ["_law_value"] (spText 62))
    (G_wrapped : Cal P w K mg base CX0 "_law_p10_wrapped" 4 fW fdW ["_law_bag_here", "_law_value", "_law_most"] spWrapped)
    (G_value : Cal P w K mg base CX0 "_law_p10_value" 8 fV fdV ["_law_bag_here", "_law_levels"] (spValue 2))
    (G_spoilt : Cal P w K mg base CX0 "_law_p10_spoilt" 4 fS fdS ["_law_bag_here", "_law_text"] spSpoilt) : FnOk P w K mg base CX0 63 f fd ["_law_bag_here"] spAny := by
  refine F.ok sc_any (fun vs H Q E h => ?_) (fun cdv A outer s H vs Q E hr h => ?_)
  · obtain ⟨b, rfl, _⟩ := h
    rfl
  obtain ⟨b, rfl, hB, q⟩ := h
  refine ⟨_, (pss_cons (ps_if (pt_cmpR op_eq (pe_c G_draw (hr.mono (by decide)) (pa_cons (pv 0) (pa_cons pe_int pa_nil))) pe_int (nomark _)) (pss_one (ps_ret (pe_c G_odd (hr.mono (by decide)) (pa_cons (pv 0) pa_nil)))) pss_nil)
      (pss_cons (ps_set (i := 1) sc_any.nd rfl (.inl rfl) (pe_c G_text (hr.mono (by decide)) (pa_cons (pe_c G_wrapped (hr.mono (by decide)) (pa_cons (pv 0) (pa_cons (pe_c G_value (hr.mono (by decide)) (pa_cons (pv 0) (pa_cons pe_int pa_nil))) (pa_cons pe_int pa_nil)))) pa_nil)))
      (pss_cons (ps_for PassesOwn.never rfl (pi_range1 (by rfl) T.b_range (pa_cons (pe_c G_pick (hr.mono (by decide)) (pa_cons (pv 0) (pa_cons (pe_lst (pa_cons pe_int (pa_cons pe_int (pa_cons pe_int (pa_cons pe_int pa_nil))))) pa_nil))) pa_nil)) (pg_name (i := 2) sc_any.nd rfl (.inl rfl)) (pss_one (ps_set (i := 1) sc_any.nd rfl (.inl rfl) (pe_c G_spoilt (hr.mono (by decide)) (pa_cons (pv 0) (pa_cons (pv 1) pa_nil))))))
      (pss_one (ps_ret (pv 1)))))), ?_⟩
  refine ⟨_, rfl, b, 3, rfl, hB, by decide, fun r H1 k1 B1 r0 r1 r2 => ⟨rfl, _, rfl, ?_⟩⟩
  refine ite2 (fun _ => ?_) (fun _ => ?_)
  · exact ⟨_, rfl, b, rfl, B1, fun z H2 k2 B2 hz => q z H2 (k1.trans k2) B2 (by omega)⟩
  refine ⟨_, rfl, _, rfl, b, rfl, by decide, B1, fun v d H2 k2 B2 hv hf => ?_⟩
  refine ⟨b, v, d, rfl, B2, hv, hf, fun v2 d2 H3 k3 B3 hv2 hf2 => ?_⟩
  have hw := hf2.hw
  have hd := hf2.hd
  refine ⟨v2, d2, rfl, hv2, by omega, hf2.ho, by omega, fun z H4 g4 hz => ?_⟩
  have k := (((k1.trans k2).trans k3).same g4)
  have B4 := B3.same g4
  refine ⟨_, rfl, (by show 4 ≤ sizeLine; decide), fun p hp => ?_⟩
  refine ⟨b, p, _, rfl, B4.same (Same.new hp), upd_same, B4.ne hp, (by show 0 < 4; decide), (by show 4 ≤ 1000; decide), fun y hy H5 k5 B5 => ?_⟩
  obtain ⟨n, rfl, n1, n2⟩ : ∃ n, y = .int n ∧ 0 ≤ n ∧ n ≤ 2 := intIn_ex (List.all_eq_true.mp (by decide +kernel) y hy)
  refine ⟨_, rfl, by omega, by omega, for_range (lo := 0) (n := n.toNat) (fun i σ H' => ∃ z vo, σ = [some (.ref b), some (.str z), vo] ∧ Keep b H H' ∧ BagAt H' b ∧ z.length ≤ 400000 + i)
    ⟨z, _, rfl, (k.same (Same.new hp)).trans k5, B5, by omega⟩ ?_ ?_⟩
  · rintro i σ H' hi ⟨z, vo, rfl, k', B', hz⟩
    exact ⟨_, rfl, _, rfl, b, z, rfl, B', by omega, fun z2 H6 k6 B6 hz2 => ⟨z2, _, rfl, k'.trans k6, B6, by omega⟩⟩
  · rintro σ H' ⟨z, vo, rfl, k', B', hz⟩
    exact ⟨_, rfl, q z _ k' B' (by omega)⟩
end
end K75
end
section
/-! ### a def that raises nothing, called while an error is handled: nothing is asked of the error's context -/
namespace L2Q
open PySem PySem.Spec PyProof.Rows L2 L2H
/-- what such a def promises -/
structure FnQ (P : Program) (w : World) (K : PySem.W.Frag) (mg : Str → Option Value) (base : Heap) (k : Nat) (f : Addr) (fd : FuncData) (ps : List Str) (sp : Sp) : Prop where
  len : ∀ vs H Q E, sp vs H Q E → vs.length = ps.length
  run : ∀ (q : Addr × Obj) (outer : List Env) (A : Around) (H : Hp) (s : Shared) (us : List Value) (vs : List V) (args : Args) (E : XK) (Q : VK),
    PinOk outer H s q → RoomH k A → Env0 P w K mg base A outer s H → BindsTo s fd args (ps.zip us) → Vals vs us → sp vs H Q E → codeAny (model P w) A (.call (.ref f) args) (CR CX0 outer P w H s Q E) s
theorem okQ {P : Program} {w : World} {K : PySem.W.Frag} {mg : Str → Option Value} {base : Heap} {k : Nat} {x qual : Str} {st : Stmt} {f : Addr} {fd : FuncData} {N ps : List Str} {sp : Sp} (F : Fun K x qual st f fd) (S : FnScope N ps (defScope st))
    (len : ∀ vs H Q E, sp vs H Q E → vs.length = ps.length)
    (body : ∀ (cdv : Value) (A : Around) (outer : List Env) (s : Shared) (H : Hp) (vs : List V) (Q : VK) (E : XK) (p : Addr × Obj), RoomH k (A.deeper (envOfC qual (defScope st) s.heap.objs.size f cdv)) → sp vs H Q E →
      ∃ t, PSs (cxH CX0 P w K mg base N qual (defScope st) f cdv A outer s H E p) (defBody st) t ∧ t { nx := fun _ H' => Q .non H', rt := Q } (L2.start N vs) H) : FnQ P w K mg base (k + 1) f fd ps sp := by
  obtain ⟨oc, od, kV, doc, pm, an, cdv, ct, osl, rfl, lk, hcd⟩ := F.ex
  constructor
  · exact len
  intro p outer A H s us vs args E Q pin room e0 bt r hsp
  have kin : K.In s.heap := e0.mod.kin.keeps (fun b o e => (e0.bs b o e).1)
  have nolim : s.heap.NoLimit := e0.mod.nolimit.keeps (fun b o e => (e0.bs b o e).1)
  have kinds : ∀ y ∈ ps.zip us, (defScope st).names.lookup y.1 = some .local ∨ ((defScope st).names.lookup y.1 = some .cell ∧ ((cellsFrom (s.heap.objs.size + 1) (defScope st).names []).lookup y.1).isSome = true) := by
    rintro ⟨n, v⟩ hy
    rcases S.par n (List.of_mem_zip hy).1 with z | z
    · exact Or.inl z
    · exact Or.inr ⟨z, PySem.W.cellsFrom_some _ _ _ (Or.inl z)⟩
  apply codeAny_call_function (RoomH.depth room) (kin _ _ lk) rfl S.co S.gen rfl (PySem.W.codeRec_of kin hcd)
  apply bt
  refine wpAny_newFunctionEnv_cells S.kind kinds (fun env he s1 x => ?_)
  subst he
  refine And.intro (nolim.keeps x.toInCall.keep) (codeAny_func ?_)
  obtain ⟨t, ht, hq⟩ := body cdv A outer s H vs Q E p (RoomH.deeper room _) hsp
  have I := inv_startH (CX := CX0) (E := E) S pin e0 (len _ _ _ _ hsp) r x
  apply wpAny_mono (ht.run [] s1 (L2.start N vs) H _ I hq) ?_ (fun _ _ z => z)
  intro fl s' hs
  have out : ∀ {v : V} {u : Value} {H' : Hp} {σ' : L2.St}, Inv (cxH CX0 P w K mg base N qual (defScope st) f cdv A outer s H E p) [] σ' H' s' → Q v H' → RelV v u → CE outer P w H s Q u s' := by
    intro v u H' σ' J z rv
    exact ⟨v, H', J.os, J.bare, J.base, J.hok, rv, z⟩
  match fl, hs with
  | .ret u, ⟨v, σ', H', J, rv, z⟩ => exact out J z rv
  | .next, ⟨σ', H', J, z⟩ => exact out (v := V.non) (u := Value.none) J z rfl
  | .brk, ⟨_, _, _, z⟩ => exact z.elim
  | .cont, ⟨_, _, _, z⟩ => exact z.elim
section
variable {X : Cx} {k : Nat} {f : Addr} {fd : FuncData} {ps : List Str} {sp : Sp} {x : Str} {q pos : Pos} {e : Expr} {es : List Expr} {t : TA}
/-- the call, an object pinned -/
theorem pe_callQ {p : Addr × Obj} (hp : p ∈ X.pn) (F : FnQ X.prog X.w X.K X.mg X.base k f fd ps sp) (room : RoomH k X.A) (hg : Gl X x) (hm : X.mg x = some (.ref f)) (kp : PySem.W.keepIn X.K (.ref f) = true) (hb : Binds X.K fd ps [])
    (ha : PA X (e :: es) t) (hdb : (x == ("__debug__" : Str)) = false := by decide) (he : starEach (e :: es) X.env = (false, eval e X.env) :: starEach es X.env := by rfl) (hpl : (backTo pos (starEach es X.env)).any (·.1) = false := by rfl) :
    PE X (.Call (.Name x q) (e :: es) [] pos) (tCall sp [] E0 t) := by
  constructor
  intro pins s σ H Q I h
  apply wpAny_Call_Name_kw (ld_glob I hg hm ?_ hdb)
  apply PySem.W.callWith_K (h₀ := X.base) I.ok.mod.kin kp ?_ he hpl
  apply thn (ha.run pos pins s σ H _ I h)
  rintro us s1 ⟨vs, H1, I1, r, z⟩
  rw [List.append_nil] at z
  refine ⟨I1.kIn, ?_⟩
  have bt := hb s1 us I1.kIn (by rw [List.append_nil, ← r.length]; exact F.len _ _ _ _ z)
  rw [List.append_nil] at bt
  obtain ⟨p1, p2, p3, p4, p5⟩ := I1.pin p (List.mem_append_left _ hp)
  have pin : PinOk X.stack H1 s1 p := ⟨p1, p2, (fun hm => (List.mem_cons.mp (I1.stkSub p.1 hm)).elim p3 p4), p5⟩
  apply wpAny_call
  apply codeAny_mono (F.run p X.stack X.A H1 s1 us vs ⟨us, []⟩ E0 Q pin room I1.env0 bt r z)
  intro res s' hq
  match res, hq with
  | .ok (.ret u), hq => exact I1.after hq
  | .ok .next, hq => exact hq.elim
  | .ok .brk, hq => exact hq.elim
  | .ok .cont, hq => exact hq.elim
  | .error e, hq => exact hq.elim
end
end L2Q
namespace K75
open PySem L2
section
variable {P : Program} {w : World} {K : PySem.W.Frag} {mg : Str → Option Value} {base : Heap}
theorem ok_is_intQ {f : Addr} {fd : FuncData} (F : Fun K "_law_is_int" "_law_is_int" s_is_int f fd) (T : Tx w K mg) : L2Q.FnQ P w K mg base 1 f fd ["_law_thing"] spIsInt := by
  refine L2Q.okQ F sc_is_int (fun vs H Q E h => ?_) (fun cdv A outer s H vs Q E p hr h => ?_)
  · obtain ⟨i, rfl, _⟩ := h
    rfl
  obtain ⟨i, rfl, q⟩ := h
  refine ⟨_, (pss_one (ps_ret (pe_and (pe_callB call_isi (by rfl) T.b_isinstance (by decide +kernel) (pa_cons (pv 0) (pa_cons (pe_bltn (v := .ty "int") rfl T.b_int (by decide +kernel) rfl) pa_nil))) (pe_one (pe_not (pe_callB call_isi (by rfl) T.b_isinstance (by decide +kernel) (pa_cons (pv 0) (pa_cons (pe_bltn (v := .ty "bool") rfl T.b_bool (by decide +kernel) rfl) pa_nil)))))))), ?_⟩
  refine ⟨_, rfl, _, .ty "int", _, _, true, rfl, .ty _, (Rp.int (H := H) i).ty, kitInt (.int i), _, rfl, ?_⟩
  refine iteT ⟨_, rfl, _, .ty "bool", _, _, false, rfl, .ty _, (Rp.int (H := H) i).ty, kitBl (.int i), _, rfl, q⟩
end
end K75
end
section
namespace L2
open PySem PySem.Spec PyProof.Rows
/-- isinstance of a caught error that has its own dict, its class told by the reading -/
theorem call_isDc {X : Cx} {a D : Addr} {cls : Value} {d : Option Addr} {oe : Obj} {pn : List (Addr × Obj)} (C : ExcC X.K D) (hz : Zc cls d oe) (hf : ∃ vs, oe.data = .fields vs) :
    CallR (X.suite a ((a, oe) :: pn)) (.builtin "isinstance") (fun xs H Q => cls = .ref D ∧ rIsD X.K D a d xs H Q) := by
  intro pins s σ H xs us Q I r h
  obtain ⟨rfl, h⟩ := h
  exact call_isD C hz hf pins s σ H xs us Q I r h
end L2
namespace K75
open PySem L2
section
variable {P : Program} {w : World} {K : PySem.W.Frag} {mg : Str → Option Value} {base : Heap}
/-- a class of errors, and whether BadText is one of it -/
def Kin (K : PySem.W.Frag) (mg : Str → Option Value) (C : Addr) (x : Str) (b : Bool) : Prop := ∃ D : Addr, mg x = some (.ref D) ∧ PySem.W.kitOne K (.ref C) (.ref D) = some b
/-! ### _law_p10_refused -/
abbrev s_refused : Stmt := top 41
abbrev N_refused : List Str := ["_law_text", "_law_place", "e"]
theorem sc_refused : FnScope N_refused ["_law_text", "_law_place"] (defScope s_refused) := ⟨rfl, rfl, rfl, by decide +kernel, rfl, by decide +kernel, by decide +kernel⟩
def spRefused : Sp := fun vs H Q _ => ∃ (t : Str) (s : List Nat), vs = [.str t, .int ((t.length : Int) - s.length)] ∧ t.length ≤ 1000000 ∧ parse t.cps.toList = .bad s ∧ ∀ H', Same H H' → Q (.bl true) H'
theorem ok_refused {f fR fI C fJ : Addr} {fd fdR fdI fdJ : FuncData} (F : Fun K "_law_p10_refused" "_law_p10_refused" s_refused f fd) (T : Tx w K mg) (B : BT K mg C fJ fdJ)
    (E1 : Kin K mg C "BadLine" false) (E2 : Kin K mg C "BadAct" false) (E3 : Kin K mg C "Refused" false) (E4 : Kin K mg C "LotError" true)
    (G_read : Cal P w K mg base (L2.CX P w) "read_plain" 5 fR fdR ["text"] (spRead C)) (G_is_int : Cal P w K mg base CX0 "_law_is_int" 1 fI fdI ["_law_thing"] spIsInt) (GQ : L2Q.FnQ P w K mg base 1 fI fdI ["_law_thing"] spIsInt) :
    FnOk P w K mg base CX0 6 f fd ["_law_text", "_law_place"] spRefused := by
  refine F.ok sc_refused (fun vs H Q E h => ?_) (fun cdv A outer s H vs Q E hr h => ?_)
  · obtain ⟨t, s, rfl, _⟩ := h
    rfl
  obtain ⟨t, l, rfl, ht, hp, q⟩ := h
  obtain ⟨D1, m1, k1⟩ := E1
  obtain ⟨D2, m2, k2⟩ := E2
  obtain ⟨D3, m3, k3⟩ := E3
  obtain ⟨D4, m4, k4⟩ := E4
  refine ⟨_, (pss_cons (ps_try_first (i := 2) rfl rfl sc_refused.nd rfl rfl ⟨rfl, by decide, .inl B.gC⟩
      (fun W pn xe tk po => pss_one (ps_expr (pe_callS (E := WE W) G_read.fn (hr.mono (show 5 ≤ 5 by decide)) rfl G_read.g G_read.kp G_read.b (passAt tk) (pa_cons (pv 0) pa_nil))))
      (fun a oe cls d pn hz hf => pss_cons (ps_if (PW.pt (pw_or (pt_val (pe_callB (call_isDc B.exc hz hf) (by rfl) T.b_isinstance (by decide +kernel) (pa_cons (pv 2) (pa_cons (pe_glob (v := .ref D1) rfl m1 rfl) pa_nil)))) (pw_or (pt_val (pe_callB (call_isDc B.exc hz hf) (by rfl) T.b_isinstance (by decide +kernel) (pa_cons (pv 2) (pa_cons (pe_glob (v := .ref D2) rfl m2 rfl) pa_nil)))) (pw_or1 (pt_val (pe_callB (call_isDc B.exc hz hf) (by rfl) T.b_isinstance (by decide +kernel) (pa_cons (pv 2) (pa_cons (pe_glob (v := .ref D3) rfl m3 rfl) pa_nil)))))))) (pss_one (ps_ret pe_bl)) pss_nil)
        (pss_one (ps_ret (pe_and (pe_callB (call_isDc B.exc hz hf) (by rfl) T.b_isinstance (by decide +kernel) (pa_cons (pv 2) (pa_cons (pe_glob (v := .ref D4) rfl m4 rfl) pa_nil))) (pe_and (L2Q.pe_callQ (p := (a, oe)) (List.mem_cons_self ..) GQ ⟨(hr.mono (show 1 ≤ 5 by decide)).dp, (hr.mono (show 1 ≤ 5 by decide)).un⟩ rfl G_is_int.g G_is_int.kp G_is_int.b (pa_cons (pe_xf B.xf B.no hz hf (pv 2)) pa_nil)) (pe_one (pe_cmpR op_eq (pe_xf B.xf B.no hz hf (pv 2)) (pv 1) (nomark _)))))))))
      (pss_one (ps_ret pe_bl))), ?_⟩
  refine ⟨_, rfl, t, rfl, ht, ?_⟩
  rw [hp]
  intro d H' g hd
  refine ⟨B.te, fun a ha => ?_⟩
  have lk : List.lookup ("place" : Str) [(("place" : Str), V.int ((t.length : Int) - l.length))] = some (V.int ((t.length : Int) - l.length)) := by simp [List.lookup]
  refine ⟨_, rfl, rfl, .ref D1, _, _, d, _, rfl, rfl, hd, fun u r => r, k1, _, rfl, iteF ?_⟩
  refine ⟨_, rfl, rfl, .ref D2, _, _, d, _, rfl, rfl, hd, fun u r => r, k2, _, rfl, iteF ?_⟩
  refine ⟨_, rfl, rfl, .ref D3, _, _, d, _, rfl, rfl, hd, fun u r => r, k3, _, rfl, iteF ?_⟩
  refine ⟨_, rfl, rfl, .ref D4, _, _, d, _, rfl, rfl, hd, fun u r => r, k4, _, rfl, iteT ?_⟩
  refine ⟨_, rfl, rfl, rfl, d, _, _, rfl, hd, lk, _, rfl, _, rfl, iteT ?_⟩
  refine ⟨_, rfl, rfl, rfl, d, _, _, rfl, hd, lk, _, rfl, rfl, ?_⟩
  rw [decide_eq_true rfl]
  exact q _ g
end
end K75
end
section
namespace K75
open PySem L2
section
variable {P : Program} {w : World} {K : PySem.W.Frag} {mg : Str → Option Value} {base : Heap}
/-! ### law -/
abbrev s_law : Stmt := top 42
abbrev N_law : List Str := ["_law_script", "_law_bag_here", "_law_texts", "_law_places", "_law_k", "_law_text"]
theorem sc_law : FnScope N_law ["_law_script"] (defScope s_law) := ⟨rfl, rfl, rfl, by decide +kernel, rfl, by decide +kernel, by decide +kernel⟩
def spLaw (K : PySem.W.Frag) : Sp := fun vs H Q _ => ∃ (a : Addr) (ns : List Int), vs = [.ref a] ∧ SqL K H a (ns.map V.int) ∧ ∀ H', Q (.bl true) H'
/-- the place that the law reckons for a text -/
def pl (t : Str) : V := match bad .item 0 0 t.cps.toList with
  | none => .non
  | some s => .int ((t.length : Int) - s.length)
theorem pl_get {ts : List Str} {j : Int} (h0 : 0 ≤ j) (h1 : j < ts.length) : ∃ t, t ∈ ts ∧ atI (ts.map V.str) j = some (.str t) ∧ atI (ts.map pl) j = some (pl t) := by
  obtain ⟨n, rfl⟩ : ∃ n : Nat, j = (n : Int) := ⟨j.toNat, by omega⟩
  have hj : n < ts.length := by omega
  refine ⟨ts[n], List.getElem_mem hj, atI_nat ?_, atI_nat ?_⟩
  · rw [List.getElem?_map, List.getElem?_eq_getElem hj]
    rfl
  · rw [List.getElem?_map, List.getElem?_eq_getElem hj]
    rfl
theorem ok_law {f fB fA fP fF fS fR fL C : Addr} {fd fdB fdA fdP fdF fdS fdR fdL : FuncData} (F : Fun K "law" "law" s_law f fd) (T : Tx w K mg)
    (G_bag : Cal P w K mg base CX0 "_law_bag" 1 fB fdB ["_law_script"] (spBag K)) (G_any : Cal P w K mg base CX0 "_law_p10_any" 63 fA fdA ["_law_bag_here"] spAny)
    (G_place : Cal P w K mg base CX0 "_law_p10_place" 2 fP fdP ["_law_text"] spPlace) (G_refused : Cal P w K mg base CX0 "_law_p10_refused" 6 fF fdF ["_law_text", "_law_place"] spRefused)
    (G_same : Cal P w K mg base CX0 "_law_p10_same" 62 fS fdS ["_law_actual", "_law_due"] (spSame 61)) (G_read_plain : Cal P w K mg base (L2.CX P w) "read_plain" 5 fR fdR ["text"] (spRead C))
    (G_read : Cal P w K mg base CX0 "_law_p10_read" 2 fL fdL ["_law_text"] spReadL) : FnOk P w K mg base CX0 64 f fd ["_law_script"] (spLaw K) := by
  refine F.ok sc_law (fun vs H Q E h => ?_) (fun cdv A outer s H vs Q E hr h => ?_)
  · obtain ⟨a, ns, rfl, _⟩ := h
    rfl
  obtain ⟨a, ns, rfl, hS, q⟩ := h
  refine ⟨_, (pss_cons (ps_set (i := 1) sc_law.nd rfl (.inr rfl) (pe_c G_bag (hr.mono (by decide)) (pa_cons (pv 0) pa_nil)))
      (pss_cons (ps_setLc (i := 2) (own := [("_law_k", 4)]) (g := gName 4) (tt := tYes) (by rfl) sc_law.nd rfl rfl (sw_true rfl rfl rfl (by decide +kernel)) (pi_range1 (by rfl) T.b_range (pa_cons pe_int pa_nil)) (blkOk_by (own := [("_law_k", 4)]) (N := N_law) (sc := defScope s_law) (by decide +kernel)) (fun _ _ _ _ _ => pg_name (i := 4) sc_law.nd rfl (Or.inl rfl)) (fun _ _ _ _ _ => pts_nil) (fun _ _ _ _ _ => (pe_c G_any (hr.mono (by decide)) (pa_cons (pv 1) pa_nil))))
      (pss_cons (ps_setLc (i := 3) (own := [("_law_text", 5)]) (g := gName 5) (tt := tYes) (by rfl) sc_law.nd rfl rfl (sw_true rfl rfl rfl (by decide +kernel)) (pi_list (pv 2)) (blkOk_by (own := [("_law_text", 5)]) (N := N_law) (sc := defScope s_law) (by decide +kernel)) (fun _ _ _ _ _ => pg_name (i := 5) sc_law.nd rfl (Or.inl rfl)) (fun _ _ _ _ _ => pts_nil) (fun _ _ _ _ _ => (pe_c G_place (hr.mono (by decide)) (pa_cons (pv 5) pa_nil))))
      (pss_cons (ps_for PassesOwn.never rfl (pi_list (pe_lst (pa_cons pe_int (pa_cons pe_int (pa_cons pe_int (pa_cons pe_int (pa_cons pe_int (pa_cons pe_int (pa_cons pe_int (pa_cons pe_int (pa_cons pe_int (pa_cons pe_int (pa_cons pe_int (pa_cons pe_int pa_nil)))))))))))))) (pg_name (i := 4) sc_law.nd rfl (.inl rfl)) (pss_one (ps_if (pt_cmpR op_notN (pe_ix ix_list (pv 3) (pv 4) (fun _ _ => rfl)) pe_non (nomark _)) (pss_one (ps_if (pt_not (pt_val (pe_c G_refused (hr.mono (by decide)) (pa_cons (pe_ix ix_list (pv 2) (pv 4) (fun _ _ => rfl)) (pa_cons (pe_ix ix_list (pv 3) (pv 4) (fun _ _ => rfl)) pa_nil))))) (pss_one (ps_ret pe_bl)) pss_nil)) (pss_one (ps_if (pt_not (pt_val (pe_c G_same (hr.mono (by decide)) (pa_cons (pe_call G_read_plain.fn (hr.mono (show 5 ≤ 63 by decide)) rfl G_read_plain.g G_read_plain.kp G_read_plain.b .nil passL (pa_cons (pe_ix ix_list (pv 2) (pv 4) (fun _ _ => rfl)) pa_nil)) (pa_cons (pe_c G_read (hr.mono (by decide)) (pa_cons (pe_ix ix_list (pv 2) (pv 4) (fun _ _ => rfl)) pa_nil)) pa_nil))))) (pss_one (ps_ret pe_bl)) pss_nil)))))
      (pss_one (ps_ret pe_bl)))))), ?_⟩
  refine ⟨_, rfl, a, ns, rfl, hS, fun b Hb gb Bb => ?_⟩
  refine ⟨6, rfl, by decide, by decide, fun D hD => ?_⟩
  have hDb : D ≠ b := Bb.ne hD
  refine lc_range (lo := 0) (n := 6) (fun i H' => ∃ ts : List Str, H' D = some (.lst (ts.map V.str)) ∧ ts.length = i ∧ (∀ t ∈ ts, t.length ≤ 500000) ∧ Keep b Hb H' ∧ BagAt H' b)
    ⟨[], upd_same, rfl, (fun t h => nomatch h), Keep.of (Same.new hD), Bb.same (Same.new hD)⟩ ?_ ?_
  · rintro i H3 hi ⟨ts, hx, hl, ht, k3, B3⟩
    refine ⟨rfl, _, rfl, b, rfl, B3, fun z H4 k4 B4 hz => ?_⟩
    have hx4 := k4.o D _ hDb hx
    refine ⟨_, hx4, ?_, ts ++ [z], ?_, ?_, ?_, (k3.trans k4).wr hD (by obtain ⟨xs, e⟩ := Bb.some; rw [e]; exact fun z => nomatch z), Bb.wr (k3.trans k4) B4 hD⟩
    · rw [List.length_map, hl]
      exact small1000 (by omega)
    · rw [upd_same, List.map_append]
      rfl
    · simp [hl]
    · intro t h
      rcases List.mem_append.mp h with h | h
      · exact ht t h
      · rw [List.mem_singleton.mp h]
        exact hz
  rintro H3 ⟨ts, hx, hl, ht, k3, B3⟩
  refine ⟨_, rfl, D, rfl, ⟨_, SqL.of hx⟩, fun D2 hD2 => ?_⟩
  have hn2 : D ≠ D2 := ne_of_none hx hD2
  refine lc_list (xs := ts.map V.str) (fun i H' => H' D = some (.lst (ts.map V.str)) ∧ H' D2 = some (.lst ((ts.take i).map pl)))
    ⟨by rw [upd_ne hn2]; exact hx, upd_same⟩ (fun i H' _ h => SqL.of h.1) ?_ ?_
  · rintro i x H4 hi ⟨h1, h2⟩
    rw [List.getElem?_map] at hi
    obtain ⟨t, htt, rfl⟩ : ∃ t, ts[i]? = some t ∧ x = .str t := by
      cases e : ts[i]? with
      | none => rw [e] at hi; cases hi
      | some t =>
        rw [e] at hi
        exact ⟨t, rfl, (Option.some.inj hi).symm⟩
    have hil : i < ts.length := (List.getElem?_eq_some_iff.mp htt).1
    have hti := ht t (List.mem_of_getElem? htt)
    refine ⟨rfl, _, rfl, t, rfl, by omega, fun H5 g5 => ?_⟩
    have etk : (ts.take (i + 1)).map pl = (ts.take i).map pl ++ [pl t] := by
      rw [List.take_succ, htt, List.map_append]
      rfl
    have fin : ∃ acc, H5 D2 = some (.lst acc) ∧ acc.length < sizeLine ∧ (upd H5 D2 (.lst (acc ++ [pl t])) D = some (.lst (ts.map V.str)) ∧ upd H5 D2 (.lst (acc ++ [pl t])) D2 = some (.lst ((ts.take (i + 1)).map pl))) := by
      refine ⟨_, g5 _ _ h2, ?_, ?_, ?_⟩
      · rw [List.length_map, List.length_take]
        exact small1000 (by omega)
      · rw [upd_ne hn2]
        exact g5 _ _ h1
      · rw [upd_same, etk]
    unfold pl at fin
    cases e : bad .item 0 0 t.cps.toList with
    | none =>
      rw [e] at fin
      exact fin
    | some s =>
      rw [e] at fin
      exact fin
  rintro H4 ⟨h1, h2⟩
  rw [List.length_map, List.take_length] at h2
  refine ⟨(by show 12 ≤ sizeLine; decide), fun p hp => ?_⟩
  refine ⟨p, rfl, ⟨_, SqL.of upd_same⟩, for_list (xs := [.int 0, .int 1, .int 2, .int 3, .int 4, .int 5, .int 3, .int 0, .int 5, .int 2, .int 4, .int 1]) (fun i σ H' => ∃ (ko : Option V) (to : Option V), σ = [some (.ref a), some (.ref b), some (.ref D), some (.ref D2), ko, to] ∧ Same (upd H4 p (.lst [.int 0, .int 1, .int 2, .int 3, .int 4, .int 5, .int 3, .int 0, .int 5, .int 2, .int 4, .int 1])) H')
    ⟨_, _, rfl, Same.refl _⟩ (fun i σ H' _ ⟨_, _, _, g⟩ => SqL.of (g _ _ upd_same)) ?_ ?_⟩
  · rintro i x σ H5 hi ⟨ko, to, rfl, g5⟩
    obtain ⟨j, rfl, j0, j1⟩ : ∃ n, x = .int n ∧ 0 ≤ n ∧ n ≤ 5 := intIn_ex (List.all_eq_true.mp (by decide +kernel) x (List.mem_of_getElem? hi))
    obtain ⟨t, hmem, a1, a2⟩ := pl_get (ts := ts) j0 (by omega)
    have hti := ht t hmem
    have gg := (Same.new (o := HO.lst [.int 0, .int 1, .int 2, .int 3, .int 4, .int 5, .int 3, .int 0, .int 5, .int 2, .int 4, .int 1]) hp).trans g5
    have d1 := gg _ _ h1
    have d2 := gg _ _ h2
    refine ⟨_, rfl, _, rfl, D2, _, _, _, rfl, rfl, SqL.of d2, a2, rfl, _, rfl, ?_⟩
    have eb := bad_parse t.cps.toList
    unfold pl at a2 ⊢
    cases e : bad .item 0 0 t.cps.toList with
    | none =>
      rw [e] at a2 eb
      refine iteF ?_
      obtain ⟨d, hd⟩ : ∃ d, parse t.cps.toList = .ok d := by
        cases hq : parse t.cps.toList with
        | ok d => exact ⟨d, rfl⟩
        | bad l =>
          rw [hq] at eb
          cases eb
      have po := parse_ok (by rw [len_codes]; omega) hd
      refine ⟨_, rfl, _, rfl, D, _, _, _, rfl, rfl, SqL.of d1, a1, t, rfl, by omega, ?_⟩
      rw [hd]
      intro v H6 g6 hv
      refine ⟨_, rfl, _, rfl, D, _, _, _, rfl, rfl, SqL.of (g6 _ _ d1), a1, t, d, rfl, by omega, hd, fun v2 H7 g7 hv2 => ?_⟩
      refine ⟨v, v2, d, rfl, hv.same g7, hv2, by omega, po.2, fun H8 g8 => ⟨true, rfl, ?_⟩⟩
      exact iteF ⟨_, _, rfl, ((g5.trans g6).trans g7).trans g8⟩
    | some l =>
      rw [e] at a2 eb
      refine iteT ?_
      have hb : parse t.cps.toList = .bad l := by
        cases hq : parse t.cps.toList with
        | ok d =>
          rw [hq] at eb
          cases eb
        | bad l' =>
          rw [hq] at eb
          have e2 : l = l' := Option.some.inj eb
          rw [e2]
      refine ⟨_, rfl, _, rfl, D, _, _, _, rfl, rfl, SqL.of d1, a1, _, rfl, _, rfl, D2, _, _, _, rfl, rfl, SqL.of d2, a2, t, l, rfl, by omega, hb, fun H6 g6 => ⟨true, rfl, ?_⟩⟩
      exact iteF ⟨_, _, rfl, g5.trans g6⟩
  · rintro σ H5 ⟨ko, to, rfl, g5⟩
    exact q _
end
end K75
end
section
namespace K75
open PySem L2
/-- nothing is promised, nothing is asked -/
theorem fn_none {P : Program} {w : World} {K : PySem.W.Frag} {mg : Str → Option Value} {base : Heap} {CX : CXT} {k : Nat} {f : Addr} {fd : FuncData} {ps : List Str} {sp : Sp} (h : ∀ vs H Q E, ¬ sp vs H Q E) : FnOk P w K mg base CX k f fd ps sp :=
  ⟨fun vs H Q E z => absurd z (h vs H Q E), fun A outer s H args us vs Q E _ _ _ _ z => absurd z (h vs H Q E)⟩
theorem no_value {vs : List V} {H : Hp} {Q : VK} {E : XK} : ¬ spValue (-1) vs H Q E := by
  rintro ⟨b, _, h, _⟩
  omega
theorem no_text {vs : List V} {H : Hp} {Q : VK} {E : XK} : ¬ spText 0 vs H Q E := by
  rintro ⟨v, d, _, _, h, _⟩
  exact absurd h (Nat.not_lt_zero _)
theorem no_same {vs : List V} {H : Hp} {Q : VK} {E : XK} : ¬ spSame 0 vs H Q E := by
  rintro ⟨u, v, d, _, _, _, h, _⟩
  exact absurd h (Nat.not_lt_zero _)
theorem exm_me {K : PySem.W.Frag} {S : Addr} (h1 : PySem.W.subIn K (.ref S) (.type "BaseException") = some true) (h2 : PySem.W.isClsIn K S = true) (h3 : PySem.W.typeIn K (.ref S) = some (.type "type")) (h4 : PySem.W.subIn K (.ref S) (.ref S) = some true) : PySem.W.exmOne K (.ref S) (.ref S) = some true := by
  have h2' : (PySem.W.clsIn K S).isSome = true := h2
  unfold PySem.W.exmOne PySem.W.kitCls
  simp [h1, h2', h3, h4]
theorem kit_of {K : PySem.W.Frag} {C D : Addr} {b : Bool} (h2 : PySem.W.isClsIn K D = true) (h3 : PySem.W.typeIn K (.ref D) = some (.type "type")) (h4 : PySem.W.subIn K (.ref C) (.ref D) = some b) (h5 : (Value.ref C == Value.ref D) = false) : PySem.W.kitOne K (.ref C) (.ref D) = some b := by
  have h2' : (PySem.W.clsIn K D).isSome = true := h2
  unfold PySem.W.kitOne PySem.W.kitCls
  rw [h5]
  simp [h2', h3, h4]
/-- the three entries of SPECIAL -/
theorem spec_find {a1 a2 a3 : Int} {t1 t2 t3 : Tok} : ∀ z : Str, ((#[⟨a1, .str "yes" t1, .bool true⟩, ⟨a2, .str "no" t2, .bool false⟩, ⟨a3, .str "none" t3, .none⟩] : Array DictEntry).toList.find? (·.key.isStr z)).map (·.val) = spV z := by
  intro z
  have y1 : ("yes" : Str) = SX.S [121, 101, 115] := by decide
  have y2 : ("no" : Str) = SX.S [110, 111] := by decide
  have y3 : ("none" : Str) = SX.S [110, 111, 110, 101] := by decide
  have hz : z = SX.S z.cps.toList := (SX.S_tl z).symm
  have e1 : ∀ (y : Str) (t : Tok), Value.isStr (.str y t) z = (y == z) := fun y t => rfl
  generalize z.cps.toList = w at hz
  subst hz
  have go : ∀ (e1 e2 e3 : DictEntry) (b1 b2 b3 : Bool), e1.key.isStr (SX.S w) = b1 → e2.key.isStr (SX.S w) = b2 → e3.key.isStr (SX.S w) = b3 →
      ([e1, e2, e3].find? (·.key.isStr (SX.S w))).map (·.val) = if b1 = true then some e1.val else if b2 = true then some e2.val else if b3 = true then some e3.val else none := by
    intro e1 e2 e3 b1 b2 b3 h1 h2 h3
    rw [List.find?_cons, h1]
    cases b1
    · rw [List.find?_cons, h2]
      cases b2
      · rw [List.find?_cons, h3]
        cases b3 <;> rfl
      · rfl
    · rfl
  refine (go _ _ _ _ _ _ (e1 _ _) (e1 _ _) (e1 _ _)).trans ?_
  rw [y1, y2, y3, SX.S_beq_eq, SX.S_beq_eq, SX.S_beq_eq]
  show _ = spO (special? w)
  unfold special?
  by_cases a : w = [121, 101, 115]
  · subst a
    rfl
  by_cases b : w = [110, 111]
  · subst b
    rfl
  by_cases c : w = [110, 111, 110, 101]
  · subst c
    rfl
  rw [if_neg a, if_neg b, if_neg c, decide_eq_false (Ne.symm a), decide_eq_false (Ne.symm b), decide_eq_false (Ne.symm c)]
  rfl
/-- a def of the top as the run has left it -/
structure Df (K : PySem.W.Frag) (mg : Str → Option Value) (x : Str) (st : Stmt) (f : Addr) (fd : FuncData) (ps : List Str) : Prop where
  F : Fun K x x st f fd
  g : mg x = some (.ref f)
  b : Binds K fd ps []
theorem Df.cal {P : Program} {w : World} {K : PySem.W.Frag} {mg : Str → Option Value} {base : Heap} {CX : CXT} {x : Str} {st : Stmt} {f : Addr} {fd : FuncData} {ps : List Str} {k : Nat} {sp : Sp} (D : Df K mg x st f fd ps) (h : FnOk P w K mg base CX k f fd ps sp) : Cal P w K mg base CX x k f fd ps sp := ⟨h, D.g, D.F.kp, D.b⟩
section
variable {P : Program} {w : World} {K : PySem.W.Frag} {mg : Str → Option Value} {base : Heap}
theorem text_n {f : Addr} {fd : FuncData} (D : Df K mg "_law_p10_text" s_text f fd ["_law_value"]) (T : Tx w K mg) : ∀ n : Nat, FnOk P w K mg base CX0 n f fd ["_law_value"] (spText n)
  | 0 => fn_none fun _ _ _ _ => no_text
  | n + 1 => ok_text D.F T (D.cal (text_n D T n))
theorem same_n {f fI : Addr} {fd fdI : FuncData} (D : Df K mg "_law_p10_same" s_same f fd ["_law_actual", "_law_due"]) (T : Tx w K mg) (G : Cal P w K mg base CX0 "_law_is_int" 1 fI fdI ["_law_thing"] spIsInt) : ∀ n : Nat, FnOk P w K mg base CX0 (n + 1) f fd ["_law_actual", "_law_due"] (spSame n)
  | 0 => fn_none fun _ _ _ _ => no_same
  | n + 1 => ok_same D.F T (D.cal (same_n D T G n)) G (Nat.le_add_left _ _)
theorem value_2 {f fD fA : Addr} {fd fdD fdA : FuncData} (D : Df K mg "_law_p10_value" s_value f fd ["_law_bag_here", "_law_levels"]) (T : Tx w K mg) (G_draw : CalDraw P w K mg base fD fdD) (G_atom : CalAtom P w K mg base fA fdA) : FnOk P w K mg base CX0 8 f fd ["_law_bag_here", "_law_levels"] (spValue 2) := by
  have v9 : FnOk P w K mg base CX0 5 f fd ["_law_bag_here", "_law_levels"] (spValue (0 - 1)) := fn_none fun _ _ _ _ => no_value
  have v0 := ok_value D.F T G_draw G_atom (D.cal v9) (Nat.le_refl _)
  have v1 := ok_value (m := 1) D.F T G_draw G_atom (D.cal v0) (by decide)
  exact ok_value (m := 2) D.F T G_draw G_atom (D.cal v1) (by decide)

theorem all_ok {C fJ f1 f2 f3 f4 f5 f6 f7 f8 f9 f10 f11 f12 f13 f14 f15 f16 f17 f18 f19 f20 f21 f22 f23 f24 f25 f26 f27 f28 : Addr} {fdJ fd1 fd2 fd3 fd4 fd5 fd6 fd7 fd8 fd9 fd10 fd11 fd12 fd13 fd14 fd15 fd16 fd17 fd18 fd19 fd20 fd21 fd22 fd23 fd24 fd25 fd26 fd27 fd28 : FuncData} (T : Tx w K mg) (B : BT K mg C fJ fdJ)
    (E1 : Kin K mg C "BadLine" false) (E2 : Kin K mg C "BadAct" false) (E3 : Kin K mg C "Refused" false) (E4 : Kin K mg C "LotError" true)
    (D_end_of : Df K mg "end_of" s_end_of f1 fd1 ["text", "place", "signs", "most"])
    (D_read_word : Df K mg "read_word" s_read_word f2 fd2 ["text", "place"])
    (D_read_number : Df K mg "read_number" s_read_number f3 fd3 ["text", "place"])
    (D_read_sign : Df K mg "read_sign" s_read_sign f4 fd4 ["text", "place"])
    (D_read_piece : Df K mg "read_piece" s_read_piece f5 fd5 ["text", "place"])
    (D_is_at : Df K mg "is_at" s_is_at f6 fd6 ["text", "place", "sign"])
    (D_read_plain : Df K mg "read_plain" s_read_plain f7 fd7 ["text"])
    (D_bag : Df K mg "_law_bag" s_bag f8 fd8 ["_law_script"])
    (D_mixed : Df K mg "_law_mixed" s_mixed f9 fd9 ["_law_seed", "_law_turn"])
    (D_draw : Df K mg "_law_draw" s_draw f10 fd10 ["_law_bag_here", "_law_many"])
    (D_pick : Df K mg "_law_pick" s_pick f11 fd11 ["_law_bag_here", "_law_row"])
    (D_is_int : Df K mg "_law_is_int" s_is_int f12 fd12 ["_law_thing"])
    (D_word : Df K mg "_law_p10_word" s_word f13 fd13 ["_law_bag_here"])
    (D_number : Df K mg "_law_p10_number" s_number f14 fd14 ["_law_bag_here"])
    (D_atom : Df K mg "_law_p10_atom" s_atom f15 fd15 ["_law_bag_here"])
    (D_value : Df K mg "_law_p10_value" s_value f16 fd16 ["_law_bag_here", "_law_levels"])
    (D_wrapped : Df K mg "_law_p10_wrapped" s_wrapped f17 fd17 ["_law_bag_here", "_law_value", "_law_most"])
    (D_text : Df K mg "_law_p10_text" s_text f18 fd18 ["_law_value"])
    (D_same : Df K mg "_law_p10_same" s_same f19 fd19 ["_law_actual", "_law_due"])
    (D_step : Df K mg "_law_p10_step" s_step f20 fd20 ["_law_state", "_law_sign"])
    (D_place : Df K mg "_law_p10_place" s_place f21 fd21 ["_law_text"])
    (D_read : Df K mg "_law_p10_read" s_read f22 fd22 ["_law_text"])
    (D_special : Df K mg "_law_p10_special" s_special f23 fd23 ["_law_word"])
    (D_spoilt : Df K mg "_law_p10_spoilt" s_spoilt f24 fd24 ["_law_bag_here", "_law_text"])
    (D_odd : Df K mg "_law_p10_odd" s_odd f25 fd25 ["_law_bag_here"])
    (D_any : Df K mg "_law_p10_any" s_any f26 fd26 ["_law_bag_here"])
    (D_refused : Df K mg "_law_p10_refused" s_refused f27 fd27 ["_law_text", "_law_place"])
    (D_law : Df K mg "law" s_law f28 fd28 ["_law_script"])
    : FnOk P w K mg base CX0 64 f28 fd28 ["_law_script"] (spLaw K) := by
  have G_end_of := D_end_of.cal (ok_end_of (P := P) (w := w) (mg := mg) (base := base) D_end_of.F T)
  have G_read_word := D_read_word.cal (ok_read_word (P := P) (w := w) (mg := mg) (base := base) D_read_word.F T G_end_of)
  have G_read_number := D_read_number.cal (ok_read_number (P := P) (w := w) (mg := mg) (base := base) D_read_number.F T G_end_of)
  have G_read_sign := D_read_sign.cal (ok_read_sign (P := P) (w := w) (mg := mg) (base := base) D_read_sign.F T G_read_number)
  have G_read_piece := D_read_piece.cal (ok_read_piece (P := P) (w := w) (mg := mg) (base := base) D_read_piece.F T B G_read_word G_read_number G_read_sign)
  have G_is_at := D_is_at.cal (ok_is_at (P := P) (w := w) (mg := mg) (base := base) D_is_at.F T)
  have G_read_plain := D_read_plain.cal (ok_read_plain (P := P) (w := w) (mg := mg) (base := base) D_read_plain.F T B G_read_piece G_is_at)
  have G_bag := D_bag.cal (ok_bag (P := P) (w := w) (mg := mg) (base := base) D_bag.F T)
  have G_mixed := D_mixed.cal (ok_mixed (P := P) (w := w) (mg := mg) (base := base) D_mixed.F T)
  have G_draw := D_draw.cal (ok_draw (P := P) (w := w) (mg := mg) (base := base) D_draw.F T G_mixed)
  have G_pick := D_pick.cal (ok_pick (P := P) (w := w) (mg := mg) (base := base) D_pick.F T G_draw)
  have G_is_int := D_is_int.cal (ok_is_int (P := P) (w := w) (mg := mg) (base := base) D_is_int.F T)
  have G_word := D_word.cal (ok_word (P := P) (w := w) (mg := mg) (base := base) D_word.F T G_draw G_pick)
  have G_number := D_number.cal (ok_number (P := P) (w := w) (mg := mg) (base := base) D_number.F T G_draw G_pick)
  have G_atom := D_atom.cal (ok_atom (P := P) (w := w) (mg := mg) (base := base) D_atom.F T G_draw G_word G_number)
  have G_value := D_value.cal (value_2 (P := P) (w := w) (mg := mg) (base := base) D_value T G_draw G_atom)
  have G_wrapped := D_wrapped.cal (ok_wrapped (P := P) (w := w) (mg := mg) (base := base) D_wrapped.F T G_draw G_pick)
  have G_text := D_text.cal (text_n (P := P) (w := w) (mg := mg) (base := base) D_text T 62)
  have G_same := D_same.cal (same_n (P := P) (w := w) (mg := mg) (base := base) D_same T G_is_int 61)
  have G_step := D_step.cal (ok_step (P := P) (w := w) (mg := mg) (base := base) D_step.F)
  have G_place := D_place.cal (ok_place (P := P) (w := w) (mg := mg) (base := base) D_place.F T G_step)
  have G_special := D_special.cal (ok_special (P := P) (w := w) (mg := mg) (base := base) D_special.F)
  have G_read := D_read.cal (ok_read (P := P) (w := w) (mg := mg) (base := base) D_read.F T G_special)
  have G_spoilt := D_spoilt.cal (ok_spoilt (P := P) (w := w) (mg := mg) (base := base) D_spoilt.F T G_draw G_pick)
  have G_odd := D_odd.cal (ok_odd (P := P) (w := w) (mg := mg) (base := base) D_odd.F T G_draw G_pick)
  have G_any := D_any.cal (ok_any (P := P) (w := w) (mg := mg) (base := base) D_any.F T G_draw G_pick G_odd G_text G_wrapped G_value G_spoilt)
  have G_refused := D_refused.cal (ok_refused (P := P) (w := w) (mg := mg) (base := base) D_refused.F T B E1 E2 E3 E4 G_read_plain G_is_int (ok_is_intQ D_is_int.F T))
  exact ok_law D_law.F T G_bag G_any G_place G_refused G_same G_read_plain G_read
end
theorem df_mk {K : PySem.W.Frag} {h : Heap} {mg : Str → Option Value} {x : Str} {st : Stmt} {f : Addr} {ps : List Str} {oc kV dc pm cd ct : Value} {od an : Option Addr} {sl : Array (Option Value)} (X : K.In h) (G : h.Ns mainGlobals mg) (a : PySem.W.nsIn K mainGlobals x = some (some (.ref f)))
    (l : K.lookup f = some ⟨oc, od, .func (PySem.W.fnOf x x (defArgs st) (defBody st) (defScope st) .none kV dc pm an cd ct), sl⟩) (c : PySem.W.codeIn K cd x = true) (k : PySem.W.keepIn K (.ref f) = true)
    (b : ∀ (kV doc pm : Value) (an : Option Addr) (cdv ct : Value) (us : List Value), us.length = ps.length → bindArgs (PySem.W.fnOf x x (defArgs st) (defBody st) (defScope st) .none kV doc pm an cdv ct) ⟨us, []⟩ = pure (ps.zip us)) :
    Df K mg x st f (PySem.W.fnOf x x (defArgs st) (defBody st) (defScope st) .none kV dc pm an cd ct) ps := ⟨fun_mk l c k, PySem.W.mg_of X G a, (fun_mk l c k).binds b⟩
theorem all_mk {P : Program} {w : World} {K : PySem.W.Frag} {h : Heap} {mg : Str → Option Value} {fa C C1 C2 C3 C4 fJ dS f1 f2 f3 f4 f5 f6 f7 f8 f9 f10 f11 f12 f13 f14 f15 f16 f17 f18 f19 f20 f21 f22 f23 f24 f25 f26 f27 f28 : Addr} (X : K.In h) (G : h.Ns mainGlobals mg) (hfa : mg "law" = some (.ref fa))
    {od0 an0 od1 an1 od2 an2 od3 an3 od4 an4 od5 an5 od6 an6 od7 an7 od8 an8 od9 an9 od10 an10 od11 an11 od12 an12 od13 an13 od14 an14 od15 an15 od16 an16 od17 an17 od18 an18 od19 an19 od20 an20 od21 an21 od22 an22 od23 an23 od24 an24 od25 an25 od26 an26 od27 an27 od28 an28 : Option Addr} {sl0 sl1 sl2 sl3 sl4 sl5 sl6 sl7 sl8 sl9 sl10 sl11 sl12 sl13 sl14 sl15 sl16 sl17 sl18 sl19 sl20 sl21 sl22 sl23 sl24 sl25 sl26 sl27 sl28 : Array (Option Value)} {oc0 kV0 dc0 pm0 cd0 ct0 oc1 kV1 dc1 pm1 cd1 ct1 oc2 kV2 dc2 pm2 cd2 ct2 oc3 kV3 dc3 pm3 cd3 ct3 oc4 kV4 dc4 pm4 cd4 ct4 oc5 kV5 dc5 pm5 cd5 ct5 oc6 kV6 dc6 pm6 cd6 ct6 oc7 kV7 dc7 pm7 cd7 ct7 oc8 kV8 dc8 pm8 cd8 ct8 oc9 kV9 dc9 pm9 cd9 ct9 oc10 kV10 dc10 pm10 cd10 ct10 oc11 kV11 dc11 pm11 cd11 ct11 oc12 kV12 dc12 pm12 cd12 ct12 oc13 kV13 dc13 pm13 cd13 ct13 oc14 kV14 dc14 pm14 cd14 ct14 oc15 kV15 dc15 pm15 cd15 ct15 oc16 kV16 dc16 pm16 cd16 ct16 oc17 kV17 dc17 pm17 cd17 ct17 oc18 kV18 dc18 pm18 cd18 ct18 oc19 kV19 dc19 pm19 cd19 ct19 oc20 kV20 dc20 pm20 cd20 ct20 oc21 kV21 dc21 pm21 cd21 ct21 oc22 kV22 dc22 pm22 cd22 ct22 oc23 kV23 dc23 pm23 cd23 ct23 oc24 kV24 dc24 pm24 cd24 ct24 oc25 kV25 dc25 pm25 cd25 ct25 oc26 kV26 dc26 pm26 cd26 ct26 oc27 kV27 dc27 pm27 cd27 ct27 oc28 kV28 dc28 pm28 cd28 ct28 : Value}
    {nm q : Str} {N : Addr} {bs : List Value} {sn : List Str} {sub : List Value} {ab : Bool} {col : Option Bool} {dd : Option Addr} {m0 m1 m2 m3 m5 : Option Value} {esS : Array DictEntry} {nS : Nat} {t1 t2 t3 t4 t5 t6 : Tok}
    (aC : PySem.W.nsIn K mainGlobals "BadText" = some (some (.ref C)))
    (aC1 : PySem.W.nsIn K mainGlobals "BadLine" = some (some (.ref C1)))
    (aC2 : PySem.W.nsIn K mainGlobals "BadAct" = some (some (.ref C2)))
    (aC3 : PySem.W.nsIn K mainGlobals "Refused" = some (some (.ref C3)))
    (aC4 : PySem.W.nsIn K mainGlobals "LotError" = some (some (.ref C4)))
    (xL : K.lookup C = some (excClassObj nm q C N bs [.ref C4, .type "ValueError", .type "Exception", .type "BaseException", .type "object"] true sn sub ab col dd m0 m1 m2 m3 m5 "ValueError.__new__"))
    (sa : PySem.W.findIn K (.ref C) "__setattr__" = some (some (.builtin "object.__setattr__")))
    (ga : PySem.W.findIn K (.ref C) "__getattribute__" = some (some (.builtin "BaseException.__getattribute__")))
    (gg : PySem.W.findIn K (.ref C) "__getattr__" = some none)
    (nb : PySem.W.findIn K (.ref C) "place" = some none)
    (hcl : PySem.W.findIn K (.ref C) "__class__" = some (some (.builtin "object.__class__")))
    (hgt : PySem.W.specialIn K (.builtin "object.__class__") "__get__" = some (some (.builtin "getset_descriptor.__get__")))
    (htk : PySem.W.takesIn K (.builtin "object.__class__") = some true)
    (hmo : PySem.W.mroIn K C (.type "object") = some true)
    (a0 : PySem.W.findIn K (.ref C) "__init__" = some (some (.ref fJ)))
    (t0 : PySem.W.typeIn K (.ref fJ) = some (.type "function"))
    (l0 : K.lookup fJ = some ⟨oc0, od0, .func (PySem.W.fnOf "__init__" "BadText.__init__" (defArgs s_bt) (defBody s_bt) (defScope s_bt) .none kV0 dc0 pm0 an0 cd0 ct0), sl0⟩)
    (c0 : PySem.W.codeIn K cd0 "BadText.__init__" = true)
    (k0 : PySem.W.keepIn K (.ref fJ) = true)
    (kC : PySem.W.keepIn K (.ref C) = true)
    (eC : PySem.W.subIn K (.ref C) (.type "BaseException") = some true)
    (tC : PySem.W.typeIn K (.ref C) = some (.type "type"))
    (hC : PySem.W.hasDictIn K C = true)
    (iC : PySem.W.isClsIn K C = true)
    (sC : PySem.W.subIn K (.ref C) (.ref C) = some true)
    (qi1 : PySem.W.isClsIn K C1 = true)
    (qt1 : PySem.W.typeIn K (.ref C1) = some (.type "type"))
    (qs1 : PySem.W.subIn K (.ref C) (.ref C1) = some false)
    (qn1 : (Value.ref C == Value.ref C1) = false)
    (qi2 : PySem.W.isClsIn K C2 = true)
    (qt2 : PySem.W.typeIn K (.ref C2) = some (.type "type"))
    (qs2 : PySem.W.subIn K (.ref C) (.ref C2) = some false)
    (qn2 : (Value.ref C == Value.ref C2) = false)
    (qi3 : PySem.W.isClsIn K C3 = true)
    (qt3 : PySem.W.typeIn K (.ref C3) = some (.type "type"))
    (qs3 : PySem.W.subIn K (.ref C) (.ref C3) = some false)
    (qn3 : (Value.ref C == Value.ref C3) = false)
    (qi4 : PySem.W.isClsIn K C4 = true)
    (qt4 : PySem.W.typeIn K (.ref C4) = some (.type "type"))
    (qs4 : PySem.W.subIn K (.ref C) (.ref C4) = some true)
    (qn4 : (Value.ref C == Value.ref C4) = false)
    (aS : PySem.W.nsIn K mainGlobals "SPECIAL" = some (some (.ref dS)))
    (lS : K.lookup dS = some ⟨.type "dict", none, .dict esS nS, #[]⟩)
    (kS : PySem.W.KeysLit w.params esS.toList)
    (oS : (dS == sysModules) = false)
    (nS1 : ∀ z : Str, (esS.toList.find? (·.key.isStr z)).map (·.val) = spV z)
    (nS2 : esS.toList.any (·.refKey) = false)
    (nd : PySem.W.nsIn K cStatics "sys.int_max_str_digits" = some none)
    (g1 : PySem.W.nsIn K mainGlobals "LETTERS" = some (some (.str "abcdefghijklmnopqrstuvwxyz" t1)))
    (g2 : PySem.W.nsIn K mainGlobals "SIGNS" = some (some (.str "abcdefghijklmnopqrstuvwxyz0123456789" t2)))
    (g3 : PySem.W.nsIn K mainGlobals "DIGITS" = some (some (.str "0123456789" t3)))
    (g4 : PySem.W.nsIn K mainGlobals "MOST_LEVELS" = some (some (.int 60 t4)))
    (g5 : PySem.W.nsIn K mainGlobals "MOST_DIGITS" = some (some (.int 4000 t5)))
    (g6 : PySem.W.nsIn K mainGlobals "MOST_SIGNS" = some (some (.int 12 t6)))
    (z1 : PySem.W.nsIn K mainGlobals "len" = some none)
    (z2 : PySem.W.nsIn K mainGlobals "int" = some none)
    (z3 : PySem.W.nsIn K mainGlobals "str" = some none)
    (z4 : PySem.W.nsIn K mainGlobals "list" = some none)
    (z5 : PySem.W.nsIn K mainGlobals "tuple" = some none)
    (z6 : PySem.W.nsIn K mainGlobals "bool" = some none)
    (z7 : PySem.W.nsIn K mainGlobals "sum" = some none)
    (z8 : PySem.W.nsIn K mainGlobals "abs" = some none)
    (z9 : PySem.W.nsIn K mainGlobals "min" = some none)
    (z10 : PySem.W.nsIn K mainGlobals "range" = some none)
    (z11 : PySem.W.nsIn K mainGlobals "isinstance" = some none)
    (a1 : PySem.W.nsIn K mainGlobals "end_of" = some (some (.ref f1)))
    (l1 : K.lookup f1 = some ⟨oc1, od1, .func (PySem.W.fnOf "end_of" "end_of" (defArgs s_end_of) (defBody s_end_of) (defScope s_end_of) .none kV1 dc1 pm1 an1 cd1 ct1), sl1⟩)
    (c1 : PySem.W.codeIn K cd1 "end_of" = true)
    (k1 : PySem.W.keepIn K (.ref f1) = true)
    (a2 : PySem.W.nsIn K mainGlobals "read_word" = some (some (.ref f2)))
    (l2 : K.lookup f2 = some ⟨oc2, od2, .func (PySem.W.fnOf "read_word" "read_word" (defArgs s_read_word) (defBody s_read_word) (defScope s_read_word) .none kV2 dc2 pm2 an2 cd2 ct2), sl2⟩)
    (c2 : PySem.W.codeIn K cd2 "read_word" = true)
    (k2 : PySem.W.keepIn K (.ref f2) = true)
    (a3 : PySem.W.nsIn K mainGlobals "read_number" = some (some (.ref f3)))
    (l3 : K.lookup f3 = some ⟨oc3, od3, .func (PySem.W.fnOf "read_number" "read_number" (defArgs s_read_number) (defBody s_read_number) (defScope s_read_number) .none kV3 dc3 pm3 an3 cd3 ct3), sl3⟩)
    (c3 : PySem.W.codeIn K cd3 "read_number" = true)
    (k3 : PySem.W.keepIn K (.ref f3) = true)
    (a4 : PySem.W.nsIn K mainGlobals "read_sign" = some (some (.ref f4)))
    (l4 : K.lookup f4 = some ⟨oc4, od4, .func (PySem.W.fnOf "read_sign" "read_sign" (defArgs s_read_sign) (defBody s_read_sign) (defScope s_read_sign) .none kV4 dc4 pm4 an4 cd4 ct4), sl4⟩)
    (c4 : PySem.W.codeIn K cd4 "read_sign" = true)
    (k4 : PySem.W.keepIn K (.ref f4) = true)
    (a5 : PySem.W.nsIn K mainGlobals "read_piece" = some (some (.ref f5)))
    (l5 : K.lookup f5 = some ⟨oc5, od5, .func (PySem.W.fnOf "read_piece" "read_piece" (defArgs s_read_piece) (defBody s_read_piece) (defScope s_read_piece) .none kV5 dc5 pm5 an5 cd5 ct5), sl5⟩)
    (c5 : PySem.W.codeIn K cd5 "read_piece" = true)
    (k5 : PySem.W.keepIn K (.ref f5) = true)
    (a6 : PySem.W.nsIn K mainGlobals "is_at" = some (some (.ref f6)))
    (l6 : K.lookup f6 = some ⟨oc6, od6, .func (PySem.W.fnOf "is_at" "is_at" (defArgs s_is_at) (defBody s_is_at) (defScope s_is_at) .none kV6 dc6 pm6 an6 cd6 ct6), sl6⟩)
    (c6 : PySem.W.codeIn K cd6 "is_at" = true)
    (k6 : PySem.W.keepIn K (.ref f6) = true)
    (a7 : PySem.W.nsIn K mainGlobals "read_plain" = some (some (.ref f7)))
    (l7 : K.lookup f7 = some ⟨oc7, od7, .func (PySem.W.fnOf "read_plain" "read_plain" (defArgs s_read_plain) (defBody s_read_plain) (defScope s_read_plain) .none kV7 dc7 pm7 an7 cd7 ct7), sl7⟩)
    (c7 : PySem.W.codeIn K cd7 "read_plain" = true)
    (k7 : PySem.W.keepIn K (.ref f7) = true)
    (a8 : PySem.W.nsIn K mainGlobals "_law_bag" = some (some (.ref f8)))
    (l8 : K.lookup f8 = some ⟨oc8, od8, .func (PySem.W.fnOf "_law_bag" "_law_bag" (defArgs s_bag) (defBody s_bag) (defScope s_bag) .none kV8 dc8 pm8 an8 cd8 ct8), sl8⟩)
    (c8 : PySem.W.codeIn K cd8 "_law_bag" = true)
    (k8 : PySem.W.keepIn K (.ref f8) = true)
    (a9 : PySem.W.nsIn K mainGlobals "_law_mixed" = some (some (.ref f9)))
    (l9 : K.lookup f9 = some ⟨oc9, od9, .func (PySem.W.fnOf "_law_mixed" "_law_mixed" (defArgs s_mixed) (defBody s_mixed) (defScope s_mixed) .none kV9 dc9 pm9 an9 cd9 ct9), sl9⟩)
    (c9 : PySem.W.codeIn K cd9 "_law_mixed" = true)
    (k9 : PySem.W.keepIn K (.ref f9) = true)
    (a10 : PySem.W.nsIn K mainGlobals "_law_draw" = some (some (.ref f10)))
    (l10 : K.lookup f10 = some ⟨oc10, od10, .func (PySem.W.fnOf "_law_draw" "_law_draw" (defArgs s_draw) (defBody s_draw) (defScope s_draw) .none kV10 dc10 pm10 an10 cd10 ct10), sl10⟩)
    (c10 : PySem.W.codeIn K cd10 "_law_draw" = true)
    (k10 : PySem.W.keepIn K (.ref f10) = true)
    (a11 : PySem.W.nsIn K mainGlobals "_law_pick" = some (some (.ref f11)))
    (l11 : K.lookup f11 = some ⟨oc11, od11, .func (PySem.W.fnOf "_law_pick" "_law_pick" (defArgs s_pick) (defBody s_pick) (defScope s_pick) .none kV11 dc11 pm11 an11 cd11 ct11), sl11⟩)
    (c11 : PySem.W.codeIn K cd11 "_law_pick" = true)
    (k11 : PySem.W.keepIn K (.ref f11) = true)
    (a12 : PySem.W.nsIn K mainGlobals "_law_is_int" = some (some (.ref f12)))
    (l12 : K.lookup f12 = some ⟨oc12, od12, .func (PySem.W.fnOf "_law_is_int" "_law_is_int" (defArgs s_is_int) (defBody s_is_int) (defScope s_is_int) .none kV12 dc12 pm12 an12 cd12 ct12), sl12⟩)
    (c12 : PySem.W.codeIn K cd12 "_law_is_int" = true)
    (k12 : PySem.W.keepIn K (.ref f12) = true)
    (a13 : PySem.W.nsIn K mainGlobals "_law_p10_word" = some (some (.ref f13)))
    (l13 : K.lookup f13 = some ⟨oc13, od13, .func (PySem.W.fnOf "_law_p10_word" "_law_p10_word" (defArgs s_word) (defBody s_word) (defScope s_word) .none kV13 dc13 pm13 an13 cd13 ct13), sl13⟩)
    (c13 : PySem.W.codeIn K cd13 "_law_p10_word" = true)
    (k13 : PySem.W.keepIn K (.ref f13) = true)
    (a14 : PySem.W.nsIn K mainGlobals "_law_p10_number" = some (some (.ref f14)))
    (l14 : K.lookup f14 = some ⟨oc14, od14, .func (PySem.W.fnOf "_law_p10_number" "_law_p10_number" (defArgs s_number) (defBody s_number) (defScope s_number) .none kV14 dc14 pm14 an14 cd14 ct14), sl14⟩)
    (c14 : PySem.W.codeIn K cd14 "_law_p10_number" = true)
    (k14 : PySem.W.keepIn K (.ref f14) = true)
    (a15 : PySem.W.nsIn K mainGlobals "_law_p10_atom" = some (some (.ref f15)))
    (l15 : K.lookup f15 = some ⟨oc15, od15, .func (PySem.W.fnOf "_law_p10_atom" "_law_p10_atom" (defArgs s_atom) (defBody s_atom) (defScope s_atom) .none kV15 dc15 pm15 an15 cd15 ct15), sl15⟩)
    (c15 : PySem.W.codeIn K cd15 "_law_p10_atom" = true)
    (k15 : PySem.W.keepIn K (.ref f15) = true)
    (a16 : PySem.W.nsIn K mainGlobals "_law_p10_value" = some (some (.ref f16)))
    (l16 : K.lookup f16 = some ⟨oc16, od16, .func (PySem.W.fnOf "_law_p10_value" "_law_p10_value" (defArgs s_value) (defBody s_value) (defScope s_value) .none kV16 dc16 pm16 an16 cd16 ct16), sl16⟩)
    (c16 : PySem.W.codeIn K cd16 "_law_p10_value" = true)
    (k16 : PySem.W.keepIn K (.ref f16) = true)
    (a17 : PySem.W.nsIn K mainGlobals "_law_p10_wrapped" = some (some (.ref f17)))
    (l17 : K.lookup f17 = some ⟨oc17, od17, .func (PySem.W.fnOf "_law_p10_wrapped" "_law_p10_wrapped" (defArgs s_wrapped) (defBody s_wrapped) (defScope s_wrapped) .none kV17 dc17 pm17 an17 cd17 ct17), sl17⟩)
    (c17 : PySem.W.codeIn K cd17 "_law_p10_wrapped" = true)
    (k17 : PySem.W.keepIn K (.ref f17) = true)
    (a18 : PySem.W.nsIn K mainGlobals "_law_p10_text" = some (some (.ref f18)))
    (l18 : K.lookup f18 = some ⟨oc18, od18, .func (PySem.W.fnOf "_law_p10_text" "_law_p10_text" (defArgs s_text) (defBody s_text) (defScope s_text) .none kV18 dc18 pm18 an18 cd18 ct18), sl18⟩)
    (c18 : PySem.W.codeIn K cd18 "_law_p10_text" = true)
    (k18 : PySem.W.keepIn K (.ref f18) = true)
    (a19 : PySem.W.nsIn K mainGlobals "_law_p10_same" = some (some (.ref f19)))
    (l19 : K.lookup f19 = some ⟨oc19, od19, .func (PySem.W.fnOf "_law_p10_same" "_law_p10_same" (defArgs s_same) (defBody s_same) (defScope s_same) .none kV19 dc19 pm19 an19 cd19 ct19), sl19⟩)
    (c19 : PySem.W.codeIn K cd19 "_law_p10_same" = true)
    (k19 : PySem.W.keepIn K (.ref f19) = true)
    (a20 : PySem.W.nsIn K mainGlobals "_law_p10_step" = some (some (.ref f20)))
    (l20 : K.lookup f20 = some ⟨oc20, od20, .func (PySem.W.fnOf "_law_p10_step" "_law_p10_step" (defArgs s_step) (defBody s_step) (defScope s_step) .none kV20 dc20 pm20 an20 cd20 ct20), sl20⟩)
    (c20 : PySem.W.codeIn K cd20 "_law_p10_step" = true)
    (k20 : PySem.W.keepIn K (.ref f20) = true)
    (a21 : PySem.W.nsIn K mainGlobals "_law_p10_place" = some (some (.ref f21)))
    (l21 : K.lookup f21 = some ⟨oc21, od21, .func (PySem.W.fnOf "_law_p10_place" "_law_p10_place" (defArgs s_place) (defBody s_place) (defScope s_place) .none kV21 dc21 pm21 an21 cd21 ct21), sl21⟩)
    (c21 : PySem.W.codeIn K cd21 "_law_p10_place" = true)
    (k21 : PySem.W.keepIn K (.ref f21) = true)
    (a22 : PySem.W.nsIn K mainGlobals "_law_p10_read" = some (some (.ref f22)))
    (l22 : K.lookup f22 = some ⟨oc22, od22, .func (PySem.W.fnOf "_law_p10_read" "_law_p10_read" (defArgs s_read) (defBody s_read) (defScope s_read) .none kV22 dc22 pm22 an22 cd22 ct22), sl22⟩)
    (c22 : PySem.W.codeIn K cd22 "_law_p10_read" = true)
    (k22 : PySem.W.keepIn K (.ref f22) = true)
    (a23 : PySem.W.nsIn K mainGlobals "_law_p10_special" = some (some (.ref f23)))
    (l23 : K.lookup f23 = some ⟨oc23, od23, .func (PySem.W.fnOf "_law_p10_special" "_law_p10_special" (defArgs s_special) (defBody s_special) (defScope s_special) .none kV23 dc23 pm23 an23 cd23 ct23), sl23⟩)
    (c23 : PySem.W.codeIn K cd23 "_law_p10_special" = true)
    (k23 : PySem.W.keepIn K (.ref f23) = true)
    (a24 : PySem.W.nsIn K mainGlobals "_law_p10_spoilt" = some (some (.ref f24)))
    (l24 : K.lookup f24 = some ⟨oc24, od24, .func (PySem.W.fnOf "_law_p10_spoilt" "_law_p10_spoilt" (defArgs s_spoilt) (defBody s_spoilt) (defScope s_spoilt) .none kV24 dc24 pm24 an24 cd24 ct24), sl24⟩)
    (c24 : PySem.W.codeIn K cd24 "_law_p10_spoilt" = true)
    (k24 : PySem.W.keepIn K (.ref f24) = true)
    (a25 : PySem.W.nsIn K mainGlobals "_law_p10_odd" = some (some (.ref f25)))
    (l25 : K.lookup f25 = some ⟨oc25, od25, .func (PySem.W.fnOf "_law_p10_odd" "_law_p10_odd" (defArgs s_odd) (defBody s_odd) (defScope s_odd) .none kV25 dc25 pm25 an25 cd25 ct25), sl25⟩)
    (c25 : PySem.W.codeIn K cd25 "_law_p10_odd" = true)
    (k25 : PySem.W.keepIn K (.ref f25) = true)
    (a26 : PySem.W.nsIn K mainGlobals "_law_p10_any" = some (some (.ref f26)))
    (l26 : K.lookup f26 = some ⟨oc26, od26, .func (PySem.W.fnOf "_law_p10_any" "_law_p10_any" (defArgs s_any) (defBody s_any) (defScope s_any) .none kV26 dc26 pm26 an26 cd26 ct26), sl26⟩)
    (c26 : PySem.W.codeIn K cd26 "_law_p10_any" = true)
    (k26 : PySem.W.keepIn K (.ref f26) = true)
    (a27 : PySem.W.nsIn K mainGlobals "_law_p10_refused" = some (some (.ref f27)))
    (l27 : K.lookup f27 = some ⟨oc27, od27, .func (PySem.W.fnOf "_law_p10_refused" "_law_p10_refused" (defArgs s_refused) (defBody s_refused) (defScope s_refused) .none kV27 dc27 pm27 an27 cd27 ct27), sl27⟩)
    (c27 : PySem.W.codeIn K cd27 "_law_p10_refused" = true)
    (k27 : PySem.W.keepIn K (.ref f27) = true)
    (a28 : PySem.W.nsIn K mainGlobals "law" = some (some (.ref f28)))
    (l28 : K.lookup f28 = some ⟨oc28, od28, .func (PySem.W.fnOf "law" "law" (defArgs s_law) (defBody s_law) (defScope s_law) .none kV28 dc28 pm28 an28 cd28 ct28), sl28⟩)
    (c28 : PySem.W.codeIn K cd28 "law" = true)
    (k28 : PySem.W.keepIn K (.ref f28) = true)
    : ∃ fd : FuncData, (∀ (s : Shared) (v : Value), BindsTo s fd ⟨[v], []⟩ [("_law_script", v)]) ∧ ∀ base : Heap, K.In base → base.Ns mainGlobals mg → FnOk P w K mg base CX0 64 fa fd ["_law_script"] (spLaw K) := by
  have e := hfa.symm.trans (PySem.W.mg_of X G a28)
  cases e
  have sV : ∀ z : Str, PySem.W.nsIn K dS z = some (spV z) := fun z => by
    have h1 := nS1 z
    unfold PySem.W.nsIn
    rw [lS]
    show (match esS.toList.find? (·.key.isStr z) with
      | some e => some (some e.val)
      | none => if esS.toList.any (·.refKey) then none else some none) = some (spV z)
    cases q : esS.toList.find? (·.key.isStr z) with
    | some e =>
      rw [q] at h1
      exact congrArg some h1
    | none =>
      rw [q] at h1
      rw [nS2]
      exact congrArg some h1
  have T : Tx w K mg :=
    { sp := ⟨dS, esS, nS, PySem.W.mg_of X G aS, ⟨lS, kS, oS⟩, sV⟩, nd := nd, b_len := PySem.W.mg_none_of X G z1, b_int := PySem.W.mg_none_of X G z2, b_str := PySem.W.mg_none_of X G z3, b_list := PySem.W.mg_none_of X G z4, b_tuple := PySem.W.mg_none_of X G z5, b_bool := PySem.W.mg_none_of X G z6, b_sum := PySem.W.mg_none_of X G z7, b_abs := PySem.W.mg_none_of X G z8, b_min := PySem.W.mg_none_of X G z9, b_range := PySem.W.mg_none_of X G z10, b_isinstance := PySem.W.mg_none_of X G z11,
      mgLet := ⟨t1, PySem.W.mg_of X G g1⟩, mgSig := ⟨t2, PySem.W.mg_of X G g2⟩, mgDig := ⟨t3, PySem.W.mg_of X G g3⟩, mgML := ⟨t4, PySem.W.mg_of X G g4⟩, mgMD := ⟨t5, PySem.W.mg_of X G g5⟩, mgMS := ⟨t6, PySem.W.mg_of X G g6⟩ }
  have FJ := fun_mk (st := s_bt) l0 c0 k0
  have B : BT K mg C fJ _ :=
    { gC := PySem.W.mg_of X G aC, oex := ⟨⟨nm, q, N, bs, _, sn, sub, ab, col, dd, m0, m1, m2, m3, m5, xL, rfl⟩, sa, eC, tC, kC⟩, no := nb, iC := a0, tI := t0, F := FJ, b := FJ.binds fun _ _ _ _ _ _ us hl => match us, hl with | [_, _], _ => rfl,
      xf := ⟨ga, gg, eC, hC⟩, exc := ⟨ga, gg, eC, hC, hcl, hgt, htk, hmo⟩, te := exm_me eC iC tC sC }
  refine ⟨PySem.W.fnOf "law" "law" (defArgs s_law) (defBody s_law) (defScope s_law) .none kV28 dc28 pm28 an28 cd28 ct28, fun s v => .of_eq rfl, fun base _ _ => ?_⟩
  exact all_ok T B ⟨C1, PySem.W.mg_of X G aC1, kit_of qi1 qt1 qs1 qn1⟩ ⟨C2, PySem.W.mg_of X G aC2, kit_of qi2 qt2 qs2 qn2⟩ ⟨C3, PySem.W.mg_of X G aC3, kit_of qi3 qt3 qs3 qn3⟩ ⟨C4, PySem.W.mg_of X G aC4, kit_of qi4 qt4 qs4 qn4⟩
    (df_mk X G a1 l1 c1 k1 fun _ _ _ _ _ _ us hl => match us, hl with | [_, _, _, _], _ => rfl)
    (df_mk X G a2 l2 c2 k2 fun _ _ _ _ _ _ us hl => match us, hl with | [_, _], _ => rfl)
    (df_mk X G a3 l3 c3 k3 fun _ _ _ _ _ _ us hl => match us, hl with | [_, _], _ => rfl)
    (df_mk X G a4 l4 c4 k4 fun _ _ _ _ _ _ us hl => match us, hl with | [_, _], _ => rfl)
    (df_mk X G a5 l5 c5 k5 fun _ _ _ _ _ _ us hl => match us, hl with | [_, _], _ => rfl)
    (df_mk X G a6 l6 c6 k6 fun _ _ _ _ _ _ us hl => match us, hl with | [_, _, _], _ => rfl)
    (df_mk X G a7 l7 c7 k7 fun _ _ _ _ _ _ us hl => match us, hl with | [_], _ => rfl)
    (df_mk X G a8 l8 c8 k8 fun _ _ _ _ _ _ us hl => match us, hl with | [_], _ => rfl)
    (df_mk X G a9 l9 c9 k9 fun _ _ _ _ _ _ us hl => match us, hl with | [_, _], _ => rfl)
    (df_mk X G a10 l10 c10 k10 fun _ _ _ _ _ _ us hl => match us, hl with | [_, _], _ => rfl)
    (df_mk X G a11 l11 c11 k11 fun _ _ _ _ _ _ us hl => match us, hl with | [_, _], _ => rfl)
    (df_mk X G a12 l12 c12 k12 fun _ _ _ _ _ _ us hl => match us, hl with | [_], _ => rfl)
    (df_mk X G a13 l13 c13 k13 fun _ _ _ _ _ _ us hl => match us, hl with | [_], _ => rfl)
    (df_mk X G a14 l14 c14 k14 fun _ _ _ _ _ _ us hl => match us, hl with | [_], _ => rfl)
    (df_mk X G a15 l15 c15 k15 fun _ _ _ _ _ _ us hl => match us, hl with | [_], _ => rfl)
    (df_mk X G a16 l16 c16 k16 fun _ _ _ _ _ _ us hl => match us, hl with | [_, _], _ => rfl)
    (df_mk X G a17 l17 c17 k17 fun _ _ _ _ _ _ us hl => match us, hl with | [_, _, _], _ => rfl)
    (df_mk X G a18 l18 c18 k18 fun _ _ _ _ _ _ us hl => match us, hl with | [_], _ => rfl)
    (df_mk X G a19 l19 c19 k19 fun _ _ _ _ _ _ us hl => match us, hl with | [_, _], _ => rfl)
    (df_mk X G a20 l20 c20 k20 fun _ _ _ _ _ _ us hl => match us, hl with | [_, _], _ => rfl)
    (df_mk X G a21 l21 c21 k21 fun _ _ _ _ _ _ us hl => match us, hl with | [_], _ => rfl)
    (df_mk X G a22 l22 c22 k22 fun _ _ _ _ _ _ us hl => match us, hl with | [_], _ => rfl)
    (df_mk X G a23 l23 c23 k23 fun _ _ _ _ _ _ us hl => match us, hl with | [_], _ => rfl)
    (df_mk X G a24 l24 c24 k24 fun _ _ _ _ _ _ us hl => match us, hl with | [_, _], _ => rfl)
    (df_mk X G a25 l25 c25 k25 fun _ _ _ _ _ _ us hl => match us, hl with | [_], _ => rfl)
    (df_mk X G a26 l26 c26 k26 fun _ _ _ _ _ _ us hl => match us, hl with | [_], _ => rfl)
    (df_mk X G a27 l27 c27 k27 fun _ _ _ _ _ _ us hl => match us, hl with | [_, _], _ => rfl)
    (df_mk X G a28 l28 c28 k28 fun _ _ _ _ _ _ us hl => match us, hl with | [_], _ => rfl)
theorem walk {l : PySem.W.OpenLaw} {q : Program} {loose : List Str} {XP : (Str → Option Value) → Heap → Prop} {YP : World → Heap → Prop} {d : DefRec} {K : Params → PySem.W.Frag} (hn : l.most = some 63) (hdf : d.params.defaults = [])
    (hY : ∀ (w : World) (h : Heap), YP w h → (K w.params).In h)
    (F : ∀ (w : World) (mg : Str → Option Value) (fa : Addr) (h : Heap), (K w.params).In h → h.Ns mainGlobals mg → mg d.name = some (.ref fa) →
      ∃ fd : FuncData, (∀ (s : Shared) (u : Value), BindsTo s fd ⟨[u], []⟩ [("_law_script", u)]) ∧ ∀ base : Heap, (K w.params).In base → base.Ns mainGlobals mg → FnOk l.prog w (K w.params) mg base CX0 64 fa fd ["_law_script"] (spLaw (K w.params))) :
    PySem.W.WalkO q loose XP YP l.row.toRowW d [] (fun f vs => PySem.call f vs) :=
  L2.walk_of (n := 63) (k := 64) (x := "_law_script") (CX := fun _ => CX0) (sp := fun w => spLaw (K w.params)) hn (by decide) hdf ⟨rfl, by decide, by decide⟩ hY F (fun _ _ a ns _ _ hS => ⟨a, ns, rfl, hS, fun _ => rfl⟩) fun _ _ _ _ _ z => z
end K75
end
open PySem PySem.W PyProof.Rows
set_option maxRecDepth 100000 in
set_option maxHeartbeats 0 in
theorem PySem.Challenge.cw_swornlots_k75_bad_plain_texts_holds : PySem.Challenge.rw_swornlots_k75_bad_plain_texts.Holds := by
  w_on; o_law; k_head; (case hw => w_witness2)
  k_fill
  refine K75.walk (l := PySem.Challenge.rw_swornlots_k75_bad_plain_texts) rfl rfl (fun w h Y => PySem.W.kIn_of Y) ?F
  case F =>
    intro w mg fa h KX G hmg
    refine' K75.all_mk KX G hmg ?aC ?aC1 ?aC2 ?aC3 ?aC4 ?xL ?sa ?ga ?gg ?nb ?hcl ?hgt ?htk ?hmo ?a0 ?t0 ?l0 ?c0 ?k0 ?kC ?eC ?tC ?hC ?iC ?sC ?qi1 ?qt1 ?qs1 ?qn1 ?qi2 ?qt2 ?qs2 ?qn2 ?qi3 ?qt3 ?qs3 ?qn3 ?qi4 ?qt4 ?qs4 ?qn4 ?aS ?lS ?kS ?oS ?nS1 ?nS2 ?nd ?g1 ?g2 ?g3 ?g4 ?g5 ?g6 ?z1 ?z2 ?z3 ?z4 ?z5 ?z6 ?z7 ?z8 ?z9 ?z10 ?z11 ?a1 ?l1 ?c1 ?k1 ?a2 ?l2 ?c2 ?k2 ?a3 ?l3 ?c3 ?k3 ?a4 ?l4 ?c4 ?k4 ?a5 ?l5 ?c5 ?k5 ?a6 ?l6 ?c6 ?k6 ?a7 ?l7 ?c7 ?k7 ?a8 ?l8 ?c8 ?k8 ?a9 ?l9 ?c9 ?k9 ?a10 ?l10 ?c10 ?k10 ?a11 ?l11 ?c11 ?k11 ?a12 ?l12 ?c12 ?k12 ?a13 ?l13 ?c13 ?k13 ?a14 ?l14 ?c14 ?k14 ?a15 ?l15 ?c15 ?k15 ?a16 ?l16 ?c16 ?k16 ?a17 ?l17 ?c17 ?k17 ?a18 ?l18 ?c18 ?k18 ?a19 ?l19 ?c19 ?k19 ?a20 ?l20 ?c20 ?k20 ?a21 ?l21 ?c21 ?k21 ?a22 ?l22 ?c22 ?k22 ?a23 ?l23 ?c23 ?k23 ?a24 ?l24 ?c24 ?k24 ?a25 ?l25 ?c25 ?k25 ?a26 ?l26 ?c26 ?k26 ?a27 ?l27 ?c27 ?k27 ?a28 ?l28 ?c28 ?k28
    (case aC => k_is)
    (case aC1 => k_is)
    (case aC2 => k_is)
    (case aC3 => k_is)
    (case aC4 => k_is)
    (case xL => k_is)
    (case sa => k_is)
    (case ga => k_is)
    (case gg => k_is)
    (case nb => k_is)
    (case hcl => k_is)
    (case hgt => k_is)
    (case htk => k_is)
    (case hmo => k_is)
    (case a0 => k_is)
    (case t0 => k_is)
    (case l0 => k_is)
    (case c0 => k_is)
    (case k0 => k_is)
    (case kC => k_is)
    (case eC => k_is)
    (case tC => k_is)
    (case hC => k_is)
    (case iC => k_is)
    (case sC => first | rfl | k_is)
    (case qi1 => k_is)
    (case qt1 => k_is)
    (case qs1 => k_is)
    (case qn1 => first | rfl | decide)
    (case qi2 => k_is)
    (case qt2 => k_is)
    (case qs2 => k_is)
    (case qn2 => first | rfl | decide)
    (case qi3 => k_is)
    (case qt3 => k_is)
    (case qs3 => k_is)
    (case qn3 => first | rfl | decide)
    (case qi4 => k_is)
    (case qt4 => k_is)
    (case qs4 => k_is)
    (case qn4 => first | rfl | decide)
    (case aS => k_is)
    (case lS => k_is)
    (case kS => exact ⟨⟨_, _, rfl, rfl⟩, ⟨_, _, rfl, rfl⟩, ⟨_, _, rfl, rfl⟩, trivial⟩)
    (case oS => first | rfl | decide)
    (case nS1 => exact K75.spec_find)
    (case nS2 => first | rfl | decide)
    (case nd => k_is)
    (case g1 => k_is)
    (case g2 => k_is)
    (case g3 => k_is)
    (case g4 => k_is)
    (case g5 => k_is)
    (case g6 => k_is)
    (case z1 => k_is)
    (case z2 => k_is)
    (case z3 => k_is)
    (case z4 => k_is)
    (case z5 => k_is)
    (case z6 => k_is)
    (case z7 => k_is)
    (case z8 => k_is)
    (case z9 => k_is)
    (case z10 => k_is)
    (case z11 => k_is)
    (case a1 => k_is)
    (case l1 => k_is)
    (case c1 => k_is)
    (case k1 => k_is)
    (case a2 => k_is)
    (case l2 => k_is)
    (case c2 => k_is)
    (case k2 => k_is)
    (case a3 => k_is)
    (case l3 => k_is)
    (case c3 => k_is)
    (case k3 => k_is)
    (case a4 => k_is)
    (case l4 => k_is)
    (case c4 => k_is)
    (case k4 => k_is)
    (case a5 => k_is)
    (case l5 => k_is)
    (case c5 => k_is)
    (case k5 => k_is)
    (case a6 => k_is)
    (case l6 => k_is)
    (case c6 => k_is)
    (case k6 => k_is)
    (case a7 => k_is)
    (case l7 => k_is)
    (case c7 => k_is)
    (case k7 => k_is)
    (case a8 => k_is)
    (case l8 => k_is)
    (case c8 => k_is)
    (case k8 => k_is)
    (case a9 => k_is)
    (case l9 => k_is)
    (case c9 => k_is)
    (case k9 => k_is)
    (case a10 => k_is)
    (case l10 => k_is)
    (case c10 => k_is)
    (case k10 => k_is)
    (case a11 => k_is)
    (case l11 => k_is)
    (case c11 => k_is)
    (case k11 => k_is)
    (case a12 => k_is)
    (case l12 => k_is)
    (case c12 => k_is)
    (case k12 => k_is)
    (case a13 => k_is)
    (case l13 => k_is)
    (case c13 => k_is)
    (case k13 => k_is)
    (case a14 => k_is)
    (case l14 => k_is)
    (case c14 => k_is)
    (case k14 => k_is)
    (case a15 => k_is)
    (case l15 => k_is)
    (case c15 => k_is)
    (case k15 => k_is)
    (case a16 => k_is)
    (case l16 => k_is)
    (case c16 => k_is)
    (case k16 => k_is)
    (case a17 => k_is)
    (case l17 => k_is)
    (case c17 => k_is)
    (case k17 => k_is)
    (case a18 => k_is)
    (case l18 => k_is)
    (case c18 => k_is)
    (case k18 => k_is)
    (case a19 => k_is)
    (case l19 => k_is)
    (case c19 => k_is)
    (case k19 => k_is)
    (case a20 => k_is)
    (case l20 => k_is)
    (case c20 => k_is)
    (case k20 => k_is)
    (case a21 => k_is)
    (case l21 => k_is)
    (case c21 => k_is)
    (case k21 => k_is)
    (case a22 => k_is)
    (case l22 => k_is)
    (case c22 => k_is)
    (case k22 => k_is)
    (case a23 => k_is)
    (case l23 => k_is)
    (case c23 => k_is)
    (case k23 => k_is)
    (case a24 => k_is)
    (case l24 => k_is)
    (case c24 => k_is)
    (case k24 => k_is)
    (case a25 => k_is)
    (case l25 => k_is)
    (case c25 => k_is)
    (case k25 => k_is)
    (case a26 => k_is)
    (case l26 => k_is)
    (case c26 => k_is)
    (case k26 => k_is)
    (case a27 => k_is)
    (case l27 => k_is)
    (case c27 => k_is)
    (case k27 => k_is)
    (case a28 => k_is)
    (case l28 => k_is)
    (case c28 => k_is)
    (case k28 => k_is)
