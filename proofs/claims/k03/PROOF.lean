import PyProof.Rows.All
import Wide.All
import OpenK.AllK
import Wide.FinOn
import HandS.ForMost
import HandS.ForExc
import HandS.Text
import HandS.StrMore
import HandS.Codes
import HandS.Defaults
import HandS.IsInst
import HandS.ExcField
import HandS.ExcInit
import HandS.ExcInitHot
import HandS.HotCalls
import HandS.More
import HandS.Iter
import PySem.Challenge.RW_foretask_k03_whole_texts_are_covered
set_option Elab.async false
set_option linter.all false
set_option maxRecDepth 100000
set_option maxHeartbeats 4000000
namespace Fk

/-! ### texts as lists of codes -/
def LET : List Nat := [65,66,67,68,69,70,71,72,73,74,75,76,77,78,79,80,81,82,83,84,85,86,87,88,89,90,97,98,99,100,101,102,103,104,105,106,107,108,109,110,111,112,113,114,115,116,117,118,119,120,121,122]
def DIG : List Nat := [48,49,50,51,52,53,54,55,56,57]
def SHORT : List Nat := [40,41,123,125,91,93,44,59,46,61,43,45,42,47,38,60,62]
def LONG : List (List Nat) := [[60,61],[62,61],[61,61],[33,61]]

def isWord (c : Nat) : Bool := decide (c ∈ LET) || decide (c ∈ DIG) || decide (c = 95)
def isDig (c : Nat) : Bool := decide (c ∈ DIG)
def wlen (r : List Nat) : Nat := (r.takeWhile isWord).length
def dlen (r : List Nat) : Nat := (r.takeWhile isDig).length

inductive TokV where
  | name (l : List Nat) | word (l : List Nat) | num (l : List Nat) | text (l : List Nat) | sign (l : List Nat) | fin
  deriving DecidableEq

inductive Res where
  | ok (v : TokV) (n : Nat)
  | bad (off : Nat)

def esc (c : Nat) : Nat := if c = 110 then 10 else c
def isEsc (c : Nat) : Bool := decide (c = 34) || decide (c = 92) || decide (c = 110)

/-- the rest of a string literal behind n signs, out: what it means so far -/
def body : List Nat → Nat → List Nat → Res
  | [], n, _ => .bad n
  | c :: r, n, out =>
    if c = 34 then (if out.length > 100 then .bad 0 else .ok (.text out) (n + 1))
    else if c = 92 then
      match r with
      | [] => .bad (n + 1)
      | d :: r' => if d = 10 then .bad (n + 1) else if isEsc d then body r' (n + 2) (out ++ [esc d]) else .bad n
    else if c = 10 then .bad n
    else body r (n + 1) (out ++ [c])

/-- which names are keywords is a parameter -/
def readName (kw : List Nat → Bool) (r : List Nat) : Res :=
  if wlen r > 20 then .bad 0 else if kw (r.take (wlen r)) then .ok (.word (r.take (wlen r))) (wlen r) else .ok (.name (r.take (wlen r))) (wlen r)
def readNum (r : List Nat) : Res :=
  if dlen r > 60 then .bad 0 else if (r.drop (dlen r)).head?.any isWord then .bad (dlen r) else .ok (.num (r.take (dlen r))) (dlen r)
def readText (r : List Nat) : Res := body (r.drop 1) 1 []
def readSign (r : List Nat) : Res :=
  if r.take 2 ∈ LONG then .ok (.sign (r.take 2)) 2 else if r.head?.any (fun c => decide (c ∈ SHORT)) then .ok (.sign (r.take 1)) 1 else .bad 0
def readTok (kw : List Nat → Bool) (r : List Nat) : Res :=
  match r with
  | [] => .bad 0
  | c :: _ => if c ∈ LET then readName kw r else if c ∈ DIG then readNum r else if c = 34 then readText r else readSign r

/-! ### blanks: b: in a remark -/
def blen : Bool → List Nat → Nat
  | _, [] => 0
  | true, c :: r => if c = 10 then blen false r + 1 else blen true r + 1
  | false, c :: r => if c = 32 ∨ c = 10 then blen false r + 1 else if c = 35 then blen true r + 1 else 0

/-! ### the tokens of t from place n on, by fuel -/
def scan (kw : List Nat → Bool) (t : List Nat) : Nat → Nat → Except Nat (List (TokV × Nat))
  | 0, _ => .ok []
  | f + 1, n =>
    if t.drop n = [] then .ok [(.fin, n)]
    else match readTok kw (t.drop n) with
      | .bad off => .error (n + off)
      | .ok v k => match scan kw t f (n + k + blen false (t.drop (n + k))) with
        | .ok l => .ok ((v, n) :: l)
        | .error q => .error q
def toks (kw : List Nat → Bool) (t : List Nat) : Except Nat (List (TokV × Nat)) := scan kw t (t.length + 1) (blen false t)

/-! ### lines -/
def lns : List Nat → List (List Nat)
  | [] => [[]]
  | c :: r => if c = 10 then [] :: lns r else match lns r with
    | h :: q => (c :: h) :: q
    | [] => [[c]]
/-- line and column of place n, both from 0 -/
def posR : List Nat → Nat → Nat × Nat
  | _, 0 => (0, 0)
  | [], _ + 1 => (0, 0)
  | c :: r, n + 1 => if c = 10 then ((posR r n).1 + 1, (posR r n).2) else if (posR r n).1 = 0 then (0, (posR r n).2 + 1) else posR r n
def step (p : Nat × Nat) (c : Nat) : Nat × Nat := if c = 10 then (p.1 + 1, 0) else (p.1, p.2 + 1)

theorem lns_ne (t : List Nat) : lns t ≠ [] := by
  cases t with
  | nil => simp [lns]
  | cons c r =>
    unfold lns
    split
    · simp
    · split <;> simp

theorem posR_zero (t : List Nat) : posR t 0 = (0, 0) := by cases t <;> rfl
theorem posR_nl (r : List Nat) (n : Nat) : posR (10 :: r) (n + 1) = ((posR r n).1 + 1, (posR r n).2) := by
  rw [posR, if_pos rfl]
theorem posR_fst {c : Nat} (hc : c ≠ 10) {r : List Nat} {n : Nat} (h : (posR r n).1 = 0) : posR (c :: r) (n + 1) = (0, (posR r n).2 + 1) := by
  rw [posR, if_neg hc, if_pos h]
theorem posR_far {c : Nat} (hc : c ≠ 10) {r : List Nat} {n : Nat} (h : (posR r n).1 ≠ 0) : posR (c :: r) (n + 1) = posR r n := by
  rw [posR, if_neg hc, if_neg h]

theorem pos_foldl : ∀ (t : List Nat) (n : Nat) (p : Nat × Nat), n ≤ t.length →
    (t.take n).foldl step p = (if (posR t n).1 = 0 then (p.1, p.2 + (posR t n).2) else (p.1 + (posR t n).1, (posR t n).2))
  | t, 0, p, h => by rw [posR_zero]; simp
  | [], n + 1, p, h => by simp at h
  | c :: r, n + 1, p, h => by
    have ih := pos_foldl r n (step p c) (by simpa using h)
    rw [List.take_succ_cons, List.foldl_cons, ih]
    by_cases hc : c = 10
    · subst hc
      rw [posR_nl]
      by_cases h0 : (posR r n).1 = 0
      · simp [h0, step]
      · rw [if_neg h0, if_neg (by simp)]
        simp only [step, if_true, Prod.mk.injEq, and_true]
        omega
    · by_cases h0 : (posR r n).1 = 0
      · rw [posR_fst hc h0, if_pos h0, if_pos rfl]
        simp only [step, hc, if_false, Prod.mk.injEq, true_and]
        omega
      · rw [posR_far hc h0, if_neg h0, if_neg h0]
        simp [step, hc]

theorem pos_step (t : List Nat) (n : Nat) (hn : n ≤ t.length) : (t.take n).foldl step (0, 0) = posR t n := by
  rw [pos_foldl t n (0, 0) hn]
  split <;> rename_i h
  · simp; rw [← h]
  · simp

/-- the sum of the lengths, newlines counted -/
def sumL (ls : List (List Nat)) : Nat := (ls.map (fun l => l.length + 1)).sum

theorem lns_cons {c : Nat} (hc : c ≠ 10) (r : List Nat) : ∃ h q, lns r = h :: q ∧ lns (c :: r) = (c :: h) :: q := by
  cases e : lns r with
  | nil => exact absurd e (lns_ne r)
  | cons h q => exact ⟨h, q, rfl, by simp [lns, hc, e]⟩
theorem lns_nl (r : List Nat) : lns (10 :: r) = [] :: lns r := by simp [lns]

theorem pos_lines : ∀ (t : List Nat) (n : Nat), n ≤ t.length →
    ∃ ln, (lns t)[(posR t n).1]? = some ln ∧ (posR t n).2 ≤ ln.length ∧ sumL ((lns t).take (posR t n).1) + (posR t n).2 = n
  | t, 0, _ => by
    rw [posR_zero]
    refine ⟨(lns t)[0]'(List.length_pos_iff.mpr (lns_ne _)), ?_, by simp, by simp [sumL]⟩
    simp
  | [], n + 1, h => by simp at h
  | c :: r, n + 1, h => by
    obtain ⟨ln, h1, h2, h3⟩ := pos_lines r n (by simpa using h)
    by_cases hc : c = 10
    · subst hc
      rw [posR_nl, lns_nl]
      refine ⟨ln, ?_, h2, ?_⟩
      · simpa using h1
      · simp only [List.take_succ_cons, sumL, List.map_cons, List.sum_cons, List.length_nil] at h3 ⊢
        omega
    · obtain ⟨hd, q, e1, e2⟩ := lns_cons hc r
      by_cases h0 : (posR r n).1 = 0
      · rw [posR_fst hc h0, e2]
        rw [h0, e1] at h1
        rw [h0] at h3
        simp only [List.getElem?_cons_zero, Option.some.injEq] at h1
        subst h1
        refine ⟨c :: hd, by simp, by simp; omega, ?_⟩
        simp only [List.take_zero, sumL, List.map_nil, List.sum_nil] at h3 ⊢
        omega
      · rw [posR_far hc h0]
        obtain ⟨m, hm⟩ : ∃ m, (posR r n).1 = m + 1 := ⟨(posR r n).1 - 1, by omega⟩
        rw [hm, e1] at h1 h3
        rw [hm, e2]
        refine ⟨ln, by simpa using h1, h2, ?_⟩
        simp only [List.take_succ_cons, sumL, List.map_cons, List.sum_cons, List.length_cons] at h3 ⊢
        omega

theorem posR_le (t : List Nat) (n : Nat) (hn : n ≤ t.length) : (posR t n).1 < (lns t).length := by
  obtain ⟨ln, h1, _⟩ := pos_lines t n hn
  exact (List.getElem?_eq_some_iff.mp h1).1

/-- joined by newlines -/
def joinN : List (List Nat) → List Nat
  | [] => []
  | [p] => p
  | p :: q :: r => p ++ (10 :: joinN (q :: r))
theorem joinN_cons {p : List Nat} {ls : List (List Nat)} (h : ls ≠ []) : joinN (p :: ls) = p ++ (10 :: joinN ls) := by
  cases ls with
  | nil => exact absurd rfl h
  | cons q r => rfl
theorem joinN_head (c : Nat) (h : List Nat) (q : List (List Nat)) : joinN ((c :: h) :: q) = c :: joinN (h :: q) := by
  cases q with
  | nil => rfl
  | cons a b => rfl

/-- what stands ahead of the line of place n -/
theorem before_line : ∀ (t : List Nat) (n : Nat), n ≤ t.length → 0 < (posR t n).1 → ∃ s, t = joinN ((lns t).take (posR t n).1) ++ 10 :: s ∧ (joinN ((lns t).take (posR t n).1)).length < n
  | t, 0, _, h => by rw [posR_zero] at h; simp at h
  | [], n + 1, hn, h => by simp at hn
  | c :: r, n + 1, hn, h => by
    have hn' : n ≤ r.length := by simpa using hn
    by_cases hc : c = 10
    · subst hc
      rw [posR_nl, lns_nl, List.take_succ_cons]
      by_cases h0 : (posR r n).1 = 0
      · rw [h0]
        exact ⟨r, by simp [joinN], by simp [joinN]⟩
      · obtain ⟨s, e1, e2⟩ := before_line r n hn' (by omega)
        obtain ⟨m, hm⟩ : ∃ m, (posR r n).1 = m + 1 := ⟨(posR r n).1 - 1, by omega⟩
        have ne : (lns r).take (posR r n).1 ≠ [] := by
          rw [hm]
          cases e : lns r with
          | nil => exact absurd e (lns_ne r)
          | cons a b => simp
        refine ⟨s, ?_, ?_⟩
        · rw [joinN_cons ne]
          simp only [List.nil_append, List.cons_append, List.cons.injEq, true_and]
          exact e1
        · rw [joinN_cons ne]
          simp; omega
    · obtain ⟨hd, q, e1, e2⟩ := lns_cons hc r
      by_cases h0 : (posR r n).1 = 0
      · rw [posR_fst hc h0] at h
        simp at h
      · rw [posR_far hc h0]
        obtain ⟨s, f1, f2⟩ := before_line r n hn' (by omega)
        obtain ⟨m, hm⟩ : ∃ m, (posR r n).1 = m + 1 := ⟨(posR r n).1 - 1, by omega⟩
        rw [hm, e1, List.take_succ_cons] at f1 f2
        rw [hm, e2, List.take_succ_cons, joinN_head]
        refine ⟨s, ?_, ?_⟩
        · rw [List.cons_append, ← f1]
        · simp; omega


/-! ### the first line decides -/
def fl (r : List Nat) : List Nat := r.takeWhile (fun c => decide (c ≠ 10))
theorem fl_nil : fl [] = [] := rfl
theorem fl_nl (r : List Nat) : fl (10 :: r) = [] := by simp [fl]
theorem fl_cons {c : Nat} (h : c ≠ 10) (r : List Nat) : fl (c :: r) = c :: fl r := by simp [fl, h]
theorem fl_len : ∀ r : List Nat, (fl r).length ≤ r.length
  | [] => Nat.le_refl _
  | c :: r => by
    by_cases h : c = 10
    · subst h; rw [fl_nl]; simp
    · rw [fl_cons h]; simpa using fl_len r
theorem fl_take : ∀ (r : List Nat) (k : Nat), k ≤ (fl r).length → (fl r).take k = r.take k
  | [], k, _ => by simp [fl]
  | c :: r, k, h => by
    by_cases hc : c = 10
    · subst hc
      rw [fl_nl] at h
      have : k = 0 := by simpa using h
      subst this
      simp
    · rw [fl_cons hc] at h ⊢
      cases k with
      | zero => simp
      | succ k =>
        rw [List.take_succ_cons, List.take_succ_cons, fl_take r k (by simpa using h)]
theorem fl_no (r : List Nat) : 10 ∉ fl r := fun h => by
  have : ∀ l : List Nat, 10 ∉ fl l := by
    intro l
    induction l with
    | nil => simp [fl]
    | cons c l ih =>
      by_cases hc : c = 10
      · subst hc; rw [fl_nl]; simp
      · rw [fl_cons hc]
        intro m
        rcases List.mem_cons.mp m with e | m
        · exact hc e.symm
        · exact ih m
  exact this r h
theorem fl_same {r : List Nat} (h : 10 ∉ r) : fl r = r := by
  induction r with
  | nil => rfl
  | cons c r ih =>
    have hc : c ≠ 10 := fun e => h (by rw [e]; exact List.mem_cons_self ..)
    rw [fl_cons hc, ih fun m => h (List.mem_cons_of_mem _ m)]
theorem fl_app (a s : List Nat) : fl (a ++ 10 :: s) = fl a := by
  induction a with
  | nil => simp [fl]
  | cons c a ih =>
    by_cases hc : c = 10
    · subst hc; rw [List.cons_append, fl_nl, fl_nl]
    · rw [List.cons_append, fl_cons hc, fl_cons hc, ih]
theorem tw_fl {p : Nat → Bool} (hp : p 10 = false) : ∀ r : List Nat, (fl r).takeWhile p = r.takeWhile p
  | [] => rfl
  | c :: r => by
    by_cases hc : c = 10
    · subst hc; rw [fl_nl]; simp [hp]
    · rw [fl_cons hc, List.takeWhile_cons, List.takeWhile_cons, tw_fl hp r]
theorem tw_le {p : Nat → Bool} (hp : p 10 = false) (r : List Nat) : (r.takeWhile p).length ≤ (fl r).length := by
  rw [← tw_fl hp r]
  exact (List.takeWhile_sublist p).length_le
theorem drop_head_fl : ∀ (r : List Nat) (k : Nat), k ≤ (fl r).length → ∀ p : Nat → Bool, p 10 = false → ((fl r).drop k).head?.any p = (r.drop k).head?.any p
  | [], k, _, p, _ => by simp [fl]
  | c :: r, k, h, p, hp => by
    by_cases hc : c = 10
    · subst hc
      rw [fl_nl] at h ⊢
      have : k = 0 := by simpa using h
      subst this
      simp [hp]
    · rw [fl_cons hc] at h ⊢
      cases k with
      | zero => simp
      | succ k => simpa using drop_head_fl r k (by simpa using h) p hp
theorem isWord10 : isWord 10 = false := by decide
theorem isDig10 : isDig 10 = false := by decide
theorem short10 : (fun c => decide (c ∈ SHORT)) 10 = false := by decide

theorem body_q (r : List Nat) (n : Nat) (out : List Nat) : body (34 :: r) n out = (if out.length > 100 then .bad 0 else .ok (.text out) (n + 1)) := by cases r <;> rfl
theorem body_e0 (n : Nat) (out : List Nat) : body [92] n out = .bad (n + 1) := rfl
theorem body_e (d : Nat) (r : List Nat) (n : Nat) (out : List Nat) : body (92 :: d :: r) n out = (if d = 10 then .bad (n + 1) else if isEsc d then body r (n + 2) (out ++ [esc d]) else .bad n) := rfl
theorem body_nl (r : List Nat) (n : Nat) (out : List Nat) : body (10 :: r) n out = .bad n := by cases r <;> rfl
theorem body_c {c : Nat} (h1 : c ≠ 34) (h2 : c ≠ 92) (h3 : c ≠ 10) (r : List Nat) (n : Nat) (out : List Nat) : body (c :: r) n out = body r (n + 1) (out ++ [c]) := by
  cases r with
  | nil =>
    show (if c = 34 then (if out.length > 100 then Res.bad 0 else .ok (.text out) (n + 1)) else if c = 92 then Res.bad (n + 1) else if c = 10 then .bad n else body [] (n + 1) (out ++ [c])) = _
    rw [if_neg h1, if_neg h2, if_neg h3]
  | cons d r => rw [body, if_neg h1, if_neg h2, if_neg h3]
theorem body_fl : ∀ (m : Nat) (r : List Nat) (n : Nat) (out : List Nat), r.length ≤ m → body (fl r) n out = body r n out
  | 0, r, n, out, h => by
    have : r = [] := List.length_eq_zero_iff.mp (by omega)
    subst this; rfl
  | m + 1, [], n, out, h => rfl
  | m + 1, c :: r, n, out, h => by
    have hr : r.length ≤ m := by simpa using h
    by_cases hc : c = 10
    · subst hc
      rw [fl_nl, body_nl]
      rfl
    · rw [fl_cons hc]
      by_cases h34 : c = 34
      · subst h34; rw [body_q, body_q]
      · by_cases h92 : c = 92
        · subst h92
          cases r with
          | nil => rfl
          | cons d r' =>
            by_cases hd : d = 10
            · subst hd; rw [fl_nl, body_e0, body_e]; rfl
            · rw [fl_cons hd, body_e, body_e]
              rw [body_fl m r' _ _ (by simp at hr; omega)]
        · rw [body_c h34 h92 hc, body_c h34 h92 hc]
          rw [body_fl m r _ _ hr]

/-- how a text is spelled -/
def sp1 (c : Nat) : List Nat := if c = 10 then [92, 110] else if c = 34 ∨ c = 92 then [92, c] else [c]
def spell (l : List Nat) : List Nat := l.flatMap sp1
def spelled (l : List Nat) : List Nat := 34 :: (spell l ++ [34])
theorem spell_snoc (l : List Nat) (c : Nat) : spell (l ++ [c]) = spell l ++ sp1 c := by simp [spell]

theorem body_ok : ∀ (m : Nat) (r : List Nat) (n : Nat) (out : List Nat) (v : TokV) (k : Nat), r.length ≤ m → body r n out = .ok v k →
    ∃ l z, v = .text l ∧ r = z ++ 34 :: r.drop (z.length + 1) ∧ k = n + z.length + 1 ∧ spell l = spell out ++ z ∧ 10 ∉ z
  | 0, r, n, out, v, k, h, e => by
    have : r = [] := List.length_eq_zero_iff.mp (by omega)
    subst this; simp [body] at e
  | m + 1, [], n, out, v, k, h, e => by simp [body] at e
  | m + 1, c :: r, n, out, v, k, h, e => by
    have hr : r.length ≤ m := by simpa using h
    unfold body at e
    by_cases h34 : c = 34
    · subst h34
      simp only [if_true] at e
      by_cases ho : out.length > 100
      · rw [if_pos ho] at e; cases e
      · rw [if_neg ho] at e
        cases e
        exact ⟨out, [], rfl, by simp, rfl, by simp, by simp⟩
    · simp only [h34, if_false] at e
      by_cases h92 : c = 92
      · subst h92
        simp only [if_true] at e
        cases r with
        | nil => cases e
        | cons d r' =>
          simp only at e
          by_cases hd : d = 10
          · rw [if_pos hd] at e; cases e
          · rw [if_neg hd] at e
            by_cases he : isEsc d = true
            · rw [if_pos he] at e
              obtain ⟨l, z, e1, e2, e3, e4, e5⟩ := body_ok m r' _ _ v k (by simp at hr; omega) e
              have es : sp1 (esc d) = [92, d] := by
                simp only [isEsc, Bool.or_eq_true, decide_eq_true_eq] at he
                rcases he with (he | he) | he <;> subst he <;> decide
              refine ⟨l, 92 :: d :: z, e1, ?_, ?_, ?_, ?_⟩
              · simp only [List.cons_append, List.cons.injEq, true_and, List.length_cons, List.drop_succ_cons]
                exact e2
              · simp only [List.length_cons]; omega
              · rw [e4, spell_snoc, es]; simp
              · intro hm
                simp only [List.mem_cons] at hm
                rcases hm with hm | hm | hm
                · cases hm
                · exact hd hm.symm
                · exact e5 hm
            · rw [if_neg he] at e; cases e
      · simp only [h92, if_false] at e
        by_cases hc : c = 10
        · rw [if_pos hc] at e; cases e
        · rw [if_neg hc] at e
          obtain ⟨l, z, e1, e2, e3, e4, e5⟩ := body_ok m r _ _ v k hr e
          have es : sp1 c = [c] := by simp [sp1, hc, h34, h92]
          refine ⟨l, c :: z, e1, ?_, ?_, ?_, ?_⟩
          · simp only [List.cons_append, List.cons.injEq, true_and, List.length_cons, List.drop_succ_cons]
            exact e2
          · simp only [List.length_cons]; omega
          · rw [e4, spell_snoc, es]; simp
          · intro hm
            rcases List.mem_cons.mp hm with hm | hm
            · exact hc hm.symm
            · exact e5 hm
theorem body_bad : ∀ (m : Nat) (r : List Nat) (n : Nat) (out : List Nat) (off : Nat), r.length ≤ m → body r n out = .bad off → off ≤ n + (fl r).length
  | 0, r, n, out, off, h, e => by
    have : r = [] := List.length_eq_zero_iff.mp (by omega)
    subst this
    simp [body] at e; omega
  | m + 1, [], n, out, off, h, e => by simp [body] at e; omega
  | m + 1, c :: r, n, out, off, h, e => by
    have hr : r.length ≤ m := by simpa using h
    unfold body at e
    by_cases h34 : c = 34
    · subst h34
      simp only [if_true] at e
      by_cases ho : out.length > 100
      · rw [if_pos ho] at e; cases e; omega
      · rw [if_neg ho] at e; cases e
    · simp only [h34, if_false] at e
      by_cases h92 : c = 92
      · subst h92
        simp only [if_true] at e
        rw [fl_cons (by decide)]
        cases r with
        | nil => cases e; simp
        | cons d r' =>
          simp only at e
          by_cases hd : d = 10
          · rw [if_pos hd] at e; cases e; simp
          · rw [if_neg hd] at e
            rw [fl_cons hd]
            by_cases he : isEsc d = true
            · rw [if_pos he] at e
              have := body_bad m r' _ _ off (by simp at hr; omega) e
              simp; omega
            · rw [if_neg he] at e; cases e; omega
      · simp only [h92, if_false] at e
        by_cases hc : c = 10
        · rw [if_pos hc] at e; cases e; omega
        · rw [if_neg hc] at e
          have := body_bad m r _ _ off hr e
          rw [fl_cons hc]; simp; omega

/-! ### one token -/
section
variable {kw : List Nat → Bool}
theorem readName_fl (r : List Nat) : readName kw (fl r) = readName kw r := by
  unfold readName wlen
  rw [tw_fl isWord10, fl_take r _ (tw_le isWord10 r)]
theorem readNum_fl (r : List Nat) : readNum (fl r) = readNum r := by
  unfold readNum dlen
  rw [tw_fl isDig10, fl_take r _ (tw_le isDig10 r), drop_head_fl r _ (tw_le isDig10 r) isWord isWord10]
theorem long_nl (c : Nat) : ¬ [c, 10] ∈ LONG := by simp [LONG]
theorem long_one (c : Nat) : ¬ [c] ∈ LONG := by simp [LONG]
theorem readSign_fl {c : Nat} (r : List Nat) (hc : c ≠ 10) : readSign (fl (c :: r)) = readSign (c :: r) := by
  rw [fl_cons hc]
  unfold readSign
  cases r with
  | nil => rfl
  | cons d r =>
    by_cases hd : d = 10
    · subst hd
      rw [fl_nl]
      simp [long_nl, long_one]
    · rw [fl_cons hd]
      simp
theorem readTok_fl (r : List Nat) : readTok kw (fl r) = readTok kw r := by
  cases r with
  | nil => rfl
  | cons c r =>
    by_cases hc : c = 10
    · subst hc
      rw [fl_nl]
      have h1 : ¬ 10 ∈ LET := by decide
      have h2 : ¬ 10 ∈ DIG := by decide
      have h3 : ¬ (10 :: r).take 2 ∈ LONG := by
        cases r with
        | nil => exact long_one 10
        | cons d r => simp [LONG]
      have h4 : ¬ 10 ∈ SHORT := by decide
      simp only [readTok, h1, h2, if_false, readSign, h3]
      simp [h4]
    · have e1 := readName_fl (kw := kw) (c :: r)
      have e2 := readNum_fl (c :: r)
      have e3 := readSign_fl r hc
      rw [fl_cons hc] at e1 e2 e3 ⊢
      unfold readTok
      simp only
      rw [e1, e2, e3]
      have e4 : readText (c :: fl r) = readText (c :: r) := by
        unfold readText
        exact body_fl _ r _ _ (Nat.le_refl _)
      rw [e4]

/-- where a token's spelling stands -/
def Src (r : List Nat) (v : TokV) (k : Nat) : Prop :=
  match v with
  | .name l => l = r.take k
  | .word l => l = r.take k
  | .sign l => l = r.take k
  | .num l => l = r.take k ∧ dlen r = k ∧ k ≤ 60
  | .text l => r.take k = spelled l
  | .fin => False
def size : TokV → Nat
  | .name l => l.length
  | .word l => l.length
  | .sign l => l.length
  | .num l => l.length
  | .text l => (spelled l).length
  | .fin => 0
theorem take_len_le {r : List Nat} {k : Nat} (h : k ≤ r.length) : (r.take k).length = k := by rw [List.length_take]; omega
theorem wlen_pos {c : Nat} {r : List Nat} (h : c ∈ LET) : 1 ≤ wlen (c :: r) := by
  have : isWord c = true := by simp [isWord, h]
  unfold wlen
  rw [List.takeWhile_cons, if_pos this]; simp
theorem dlen_pos {c : Nat} {r : List Nat} (h : c ∈ DIG) : 1 ≤ dlen (c :: r) := by
  have : isDig c = true := by simp [isDig, h]
  unfold dlen
  rw [List.takeWhile_cons, if_pos this]; simp
theorem long_len : ∀ l ∈ LONG, l.length = 2 := by decide
theorem long_no : ∀ l ∈ LONG, 10 ∉ l := by decide
theorem readTok_ok {r : List Nat} {v : TokV} {k : Nat} (e : readTok kw r = .ok v k) : 1 ≤ k ∧ k ≤ (fl r).length ∧ Src r v k ∧ size v = k := by
  cases r with
  | nil => cases e
  | cons c r =>
    have e0 : (if c ∈ LET then readName kw (c :: r) else if c ∈ DIG then readNum (c :: r) else if c = 34 then readText (c :: r) else readSign (c :: r)) = Res.ok v k := e
    by_cases h1 : c ∈ LET
    · rw [if_pos h1] at e0
      unfold readName at e0
      have p := wlen_pos (r := r) h1
      have q : wlen (c :: r) ≤ (fl (c :: r)).length := tw_le isWord10 _
      have q' := Nat.le_trans q (fl_len _)
      split at e0
      · cases e0
      · split at e0
        · cases e0; exact ⟨p, q, rfl, take_len_le q'⟩
        · cases e0; exact ⟨p, q, rfl, take_len_le q'⟩
    · rw [if_neg h1] at e0
      by_cases h2 : c ∈ DIG
      · rw [if_pos h2] at e0
        unfold readNum at e0
        have p := dlen_pos (r := r) h2
        have q : dlen (c :: r) ≤ (fl (c :: r)).length := tw_le isDig10 _
        have q' := Nat.le_trans q (fl_len _)
        split at e0
        · cases e0
        · split at e0
          · cases e0
          · cases e0; exact ⟨p, q, ⟨rfl, rfl, by omega⟩, take_len_le q'⟩
      · rw [if_neg h2] at e0
        by_cases h3 : c = 34
        · rw [if_pos h3] at e0
          subst h3
          obtain ⟨l, z, e1, e2, e3, e4, e5⟩ := body_ok _ r 1 [] v k (Nat.le_refl _) e0
          have ez : spell l = z := by rw [e4]; simp [spell]
          have e6 : fl (34 :: r) = 34 :: (z ++ 34 :: fl (r.drop (z.length + 1))) := by
            rw [fl_cons (by decide)]
            congr 1
            conv => lhs; rw [e2]
            have : ∀ (a b : List Nat), 10 ∉ a → fl (a ++ b) = a ++ fl b := by
              intro a b
              induction a with
              | nil => intro _; rfl
              | cons x a ih =>
                intro h
                have hx : x ≠ 10 := fun e => h (by rw [e]; exact List.mem_cons_self ..)
                rw [List.cons_append, fl_cons hx, ih fun m => h (List.mem_cons_of_mem _ m)]; rfl
            rw [this _ _ e5, fl_cons (by decide)]
          have e7 : (34 :: r).take k = spelled l := by
            rw [e3, e2, spelled, ez]
            rw [show 1 + z.length + 1 = (z.length + 1) + 1 by omega, List.take_succ_cons]
            congr 1
            have : ∀ (a b : List Nat) (x : Nat), (a ++ x :: b).take (a.length + 1) = a ++ [x] := by
              intro a b x
              induction a with
              | nil => simp
              | cons y a ih => rw [List.cons_append, List.length_cons, List.take_succ_cons, ih]; rfl
            exact this _ _ _
          refine ⟨by omega, ?_, ?_, ?_⟩
          · rw [e6, e3]; simp; omega
          · rw [e1]; exact e7
          · rw [e1]; show (spelled l).length = k; rw [spelled, ez, e3]; simp; omega
        · rw [if_neg h3] at e0
          unfold readSign at e0
          split at e0
          · rename_i h4
            cases e0
            have l2 := long_len _ h4
            have l2' : 2 ≤ (c :: r).length := by
              rw [List.length_take] at l2; omega
            refine ⟨by omega, ?_, rfl, l2⟩
            have n10 := long_no _ h4
            cases r with
            | nil => simp at l2'
            | cons d r =>
              have hc : c ≠ 10 := fun e => n10 (by rw [e]; simp)
              have hd : d ≠ 10 := fun e => n10 (by rw [e]; simp)
              rw [fl_cons hc, fl_cons hd]; simp
          · split at e0
            · rename_i h4
              cases e0
              have hc : c ≠ 10 := fun e => by
                subst e
                have h5 : (10 : Nat) ∈ SHORT := by simpa using h4
                exact absurd h5 (by decide)
              refine ⟨Nat.le_refl _, ?_, rfl, ?_⟩
              · rw [fl_cons hc]; simp
              · simp [size]
            · cases e0
theorem readTok_bad {r : List Nat} {off : Nat} (e : readTok kw r = .bad off) : off ≤ (fl r).length := by
  cases r with
  | nil => cases e; simp [fl]
  | cons c r =>
    have e0 : (if c ∈ LET then readName kw (c :: r) else if c ∈ DIG then readNum (c :: r) else if c = 34 then readText (c :: r) else readSign (c :: r)) = Res.bad off := e
    split at e0
    · unfold readName at e0
      split at e0
      · cases e0; omega
      · split at e0 <;> cases e0
    · split at e0
      · unfold readNum at e0
        split at e0
        · cases e0; omega
        · split at e0
          · cases e0; exact tw_le isDig10 _
          · cases e0
      · split at e0
        · rename_i h3
          subst h3
          have := body_bad _ r 1 [] off (Nat.le_refl _) e0
          rw [fl_cons (by decide)]; simp; omega
        · unfold readSign at e0
          split at e0
          · cases e0
          · split at e0
            · cases e0
            · cases e0; omega
end


/-! ### blanks -/
def Spc (l : List Nat) : Prop := ∀ c ∈ l, c = 32
/-- spaces, and then perhaps a remark -/
def LineOk (l : List Nat) : Prop := Spc l ∨ ∃ k x, l = List.replicate k 32 ++ 35 :: x
theorem LineOk.nil : LineOk [] := .inl (by simp [Spc])
theorem LineOk.sp {l : List Nat} (h : LineOk l) : LineOk (32 :: l) := by
  rcases h with h | ⟨k, x, h⟩
  · left
    intro c hc
    rcases List.mem_cons.mp hc with e | hc
    · exact e
    · exact h c hc
  · right
    exact ⟨k + 1, x, by rw [h, List.replicate_succ]; rfl⟩
/-- a gap between tokens: its lines; open: something stands behind it -/
structure Gap (g : List Nat) (more : Bool) : Prop where
  lines : ∀ l ∈ lns g, LineOk l
  last : more = true → ∀ l, (lns g).getLast? = some l → Spc l
theorem blen_le : ∀ (b : Bool) (r : List Nat), blen b r ≤ r.length
  | true, [] => Nat.le_refl _
  | false, [] => Nat.le_refl _
  | true, c :: r => by
    unfold blen
    split
    · simpa using blen_le false r
    · simpa using blen_le true r
  | false, c :: r => by
    unfold blen
    split
    · simpa using blen_le false r
    · split
      · simpa using blen_le true r
      · omega
theorem getLast_cons2 {α : Type} (a b : α) (l : List α) : (a :: b :: l).getLast? = (b :: l).getLast? := by simp [List.getLast?_cons_cons]
/-- what is skipped -/
theorem blen_gap : ∀ (r : List Nat),
    (Gap (r.take (blen false r)) (decide (blen false r < r.length))) ∧
    (∃ h q, lns (r.take (blen true r)) = h :: q ∧ (∀ l ∈ q, LineOk l) ∧ (blen true r < r.length → q ≠ [] ∧ ∀ l, q.getLast? = some l → Spc l))
  | [] => ⟨⟨by simp [blen, lns, LineOk.nil], by simp [blen, lns, Spc]⟩, ⟨[], [], by simp [blen, lns], by simp, by simp [blen]⟩⟩
  | c :: r => by
    obtain ⟨G, ⟨h, q, e, hq, hl⟩⟩ := blen_gap r
    constructor
    · by_cases h1 : c = 32 ∨ c = 10
      · have eb : blen false (c :: r) = blen false r + 1 := by simp [blen, h1]
        rw [eb, List.take_succ_cons]
        have ed : decide (blen false r + 1 < (c :: r).length) = decide (blen false r < r.length) := by simp
        rw [ed]
        by_cases h2 : c = 10
        · subst h2
          constructor
          · intro l hm
            rw [lns_nl] at hm
            rcases List.mem_cons.mp hm with hm | hm
            · rw [hm]; exact LineOk.nil
            · exact G.lines l hm
          · intro hd l hm
            rw [lns_nl] at hm
            cases e3 : lns (r.take (blen false r)) with
            | nil => exact absurd e3 (lns_ne _)
            | cons a b =>
              rw [e3, getLast_cons2] at hm
              exact G.last hd l (by rw [e3]; exact hm)
        · have h3 : c = 32 := h1.elim id fun z => absurd z h2
          subst h3
          obtain ⟨a, b, e1, e2⟩ := lns_cons (c := 32) (by decide) (r.take (blen false r))
          constructor
          · intro l hm
            rw [e2] at hm
            rcases List.mem_cons.mp hm with hm | hm
            · rw [hm]; exact (G.lines a (by rw [e1]; simp)).sp
            · exact G.lines l (by rw [e1]; exact List.mem_cons_of_mem _ hm)
          · intro hd l hm
            rw [e2] at hm
            cases b with
            | nil =>
              have el : 32 :: a = l := by simpa using hm
              have := G.last hd a (by rw [e1]; simp)
              rw [← el]
              intro x hx
              rcases List.mem_cons.mp hx with hx | hx
              · exact hx
              · exact this x hx
            | cons b1 b2 =>
              rw [getLast_cons2] at hm
              exact G.last hd l (by rw [e1, getLast_cons2]; exact hm)
      · by_cases h2 : c = 35
        · subst h2
          have eb : blen false (35 :: r) = blen true r + 1 := by simp [blen]
          rw [eb, List.take_succ_cons]
          obtain ⟨a, b, e1, e2⟩ := lns_cons (c := 35) (by decide) (r.take (blen true r))
          rw [e] at e1
          cases e1
          constructor
          · intro l hm
            rw [e2] at hm
            rcases List.mem_cons.mp hm with hm | hm
            · right; exact ⟨0, h, by rw [hm]; simp⟩
            · exact hq l hm
          · intro hd l hm
            have hd' : blen true r < r.length := by simpa using hd
            obtain ⟨hn, hs⟩ := hl hd'
            rw [e2] at hm
            cases q with
            | nil => exact absurd rfl hn
            | cons b1 b2 =>
              rw [getLast_cons2] at hm
              exact hs l hm
        · have eb : blen false (c :: r) = 0 := by simp [blen, h1, h2]
          rw [eb, List.take_zero]
          exact ⟨by simp [lns, LineOk.nil], by simp [lns, Spc]⟩
    · by_cases h2 : c = 10
      · subst h2
        have eb : blen true (10 :: r) = blen false r + 1 := by simp [blen]
        rw [eb, List.take_succ_cons, lns_nl]
        refine ⟨[], _, rfl, G.lines, fun hlt => ⟨lns_ne _, fun l hm => ?_⟩⟩
        exact G.last (by simpa using hlt) l hm
      · have eb : blen true (c :: r) = blen true r + 1 := by simp [blen, h2]
        rw [eb, List.take_succ_cons]
        obtain ⟨a, b, e1, e2⟩ := lns_cons h2 (r.take (blen true r))
        rw [e] at e1
        cases e1
        exact ⟨_, _, e2, hq, fun hlt => hl (by simpa using hlt)⟩

/-- blanks ahead of a newline -/
theorem blen_app : ∀ (b : Bool) (a s : List Nat), (blen b a < a.length → blen b (a ++ 10 :: s) = blen b a) ∧ (¬ blen b a < a.length → a.length ≤ blen b (a ++ 10 :: s))
  | b, [], s => ⟨fun h => by simp at h, fun _ => Nat.zero_le _⟩
  | true, c :: a, s => by
    by_cases h : c = 10
    · have e1 : blen true (c :: a) = blen false a + 1 := by simp [blen, h]
      have e2 : blen true (c :: a ++ 10 :: s) = blen false (a ++ 10 :: s) + 1 := by simp [blen, h]
      rw [e1, e2]
      have := blen_app false a s
      constructor
      · intro q; rw [this.1 (by simpa using q)]
      · intro q; have := this.2 (by simpa using q); simpa using this
    · have e1 : blen true (c :: a) = blen true a + 1 := by simp [blen, h]
      have e2 : blen true (c :: a ++ 10 :: s) = blen true (a ++ 10 :: s) + 1 := by simp [blen, h]
      rw [e1, e2]
      have := blen_app true a s
      constructor
      · intro q; rw [this.1 (by simpa using q)]
      · intro q; have := this.2 (by simpa using q); simpa using this
  | false, c :: a, s => by
    by_cases h : c = 32 ∨ c = 10
    · have e1 : blen false (c :: a) = blen false a + 1 := by simp [blen, h]
      have e2 : blen false (c :: a ++ 10 :: s) = blen false (a ++ 10 :: s) + 1 := by simp [blen, h]
      rw [e1, e2]
      have := blen_app false a s
      constructor
      · intro q; rw [this.1 (by simpa using q)]
      · intro q; have := this.2 (by simpa using q); simpa using this
    · by_cases h' : c = 35
      · have e1 : blen false (c :: a) = blen true a + 1 := by simp [blen, h']
        have e2 : blen false (c :: a ++ 10 :: s) = blen true (a ++ 10 :: s) + 1 := by simp [blen, h']
        rw [e1, e2]
        have := blen_app true a s
        constructor
        · intro q; rw [this.1 (by simpa using q)]
        · intro q; have := this.2 (by simpa using q); simpa using this
      · have e1 : blen false (c :: a) = 0 := by simp [blen, h, h']
        have e2 : blen false (c :: a ++ 10 :: s) = 0 := by simp [blen, h, h']
        rw [e1, e2]
        exact ⟨fun _ => rfl, fun q => by simp at q⟩

/-! ### the whole -/
section
variable {kw : List Nat → Bool}
theorem scan_end {t : List Nat} {f n : Nat} (h : t.drop n = []) : scan kw t (f + 1) n = .ok [(.fin, n)] := by rw [scan, if_pos h]
theorem scan_bad {t : List Nat} {f n off : Nat} (h : t.drop n ≠ []) (e : readTok kw (t.drop n) = .bad off) : scan kw t (f + 1) n = .error (n + off) := by rw [scan, if_neg h, e]
theorem scan_ok {t : List Nat} {f n k : Nat} {v : TokV} (h : t.drop n ≠ []) (e : readTok kw (t.drop n) = .ok v k) : scan kw t (f + 1) n =
    (match scan kw t f (n + k + blen false (t.drop (n + k))) with
        | .ok l => .ok ((v, n) :: l)
        | .error q => .error q) := by rw [scan, if_neg h, e]
/-- what stands ahead of a newline ahead of the fault is read -/
theorem scan_prefix {b s : List Nat} : ∀ (f g n q : Nat), n ≤ b.length → scan kw (b ++ 10 :: s) f n = .error q → b.length < q → ∃ l, scan kw b g n = .ok l
  | 0, _, _, _, _, h, _ => by simp [scan] at h
  | f + 1, 0, n, q, _, _, _ => ⟨_, rfl⟩
  | f + 1, g + 1, n, q, hn, h, hq => by
    have ed : (b ++ 10 :: s).drop n = b.drop n ++ 10 :: s := List.drop_append_of_le_length hn
    have ne : (b ++ 10 :: s).drop n ≠ [] := by rw [ed]; simp
    by_cases hb : b.drop n = []
    · exact ⟨_, scan_end hb⟩
    · have er : readTok kw ((b ++ 10 :: s).drop n) = readTok kw (b.drop n) := by
        rw [ed, ← readTok_fl (b.drop n ++ 10 :: s), fl_app, readTok_fl]
      have hl : (b.drop n).length = b.length - n := List.length_drop
      cases e : readTok kw (b.drop n) with
      | bad off =>
        rw [scan_bad ne (er.trans e)] at h
        cases h
        have := readTok_bad e
        have := fl_len (b.drop n)
        omega
      | ok v k =>
        rw [scan_ok ne (er.trans e)] at h
        obtain ⟨k1, k2, _⟩ := readTok_ok e
        have := fl_len (b.drop n)
        have hnk : n + k ≤ b.length := by omega
        have ed2 : (b ++ 10 :: s).drop (n + k) = b.drop (n + k) ++ 10 :: s := List.drop_append_of_le_length hnk
        rw [ed2] at h
        obtain ⟨p1, p2⟩ := blen_app false (b.drop (n + k)) s
        have hl2 : (b.drop (n + k)).length = b.length - (n + k) := List.length_drop
        rw [scan_ok hb e]
        by_cases hc : blen false (b.drop (n + k)) < (b.drop (n + k)).length
        · rw [p1 hc] at h
          cases e2 : scan kw (b ++ 10 :: s) f (n + k + blen false (b.drop (n + k))) with
          | ok l => rw [e2] at h; cases h
          | error q2 =>
            rw [e2] at h
            cases h
            obtain ⟨l, el⟩ := scan_prefix f g _ q (by omega) e2 hq
            exact ⟨_, by rw [el]⟩
        · have hle := blen_le false (b.drop (n + k))
          have e0 : n + k + blen false (b.drop (n + k)) = b.length := by omega
          rw [e0]
          have e3 : b.drop b.length = [] := List.drop_length
          cases g with
          | zero => exact ⟨_, rfl⟩
          | succ g => exact ⟨_, by rw [scan_end e3]⟩
theorem scan_le {t : List Nat} : ∀ (f n q : Nat), n ≤ t.length → scan kw t f n = .error q → n ≤ q ∧ q ≤ t.length
  | 0, _, _, _, h => by simp [scan] at h
  | f + 1, n, q, hn, h => by
    by_cases hb : t.drop n = []
    · rw [scan_end hb] at h; cases h
    · have hl : (t.drop n).length = t.length - n := List.length_drop
      cases e : readTok kw (t.drop n) with
      | bad off =>
        rw [scan_bad hb e] at h
        cases h
        have := readTok_bad e
        have := fl_len (t.drop n)
        omega
      | ok v k =>
        rw [scan_ok hb e] at h
        obtain ⟨k1, k2, _⟩ := readTok_ok e
        have := fl_len (t.drop n)
        have := blen_le false (t.drop (n + k))
        have : (t.drop (n + k)).length = t.length - (n + k) := List.length_drop
        cases e2 : scan kw t f (n + k + blen false (t.drop (n + k))) with
        | ok l => rw [e2] at h; cases h
        | error q2 =>
          rw [e2] at h
          cases h
          have := scan_le f _ q (by omega) e2
          omega
theorem toks_le {t : List Nat} {q : Nat} (h : toks kw t = .error q) : q ≤ t.length := (scan_le _ _ _ (blen_le false t) h).2
/-- the law's second half -/
theorem toks_before {t : List Nat} {q : Nat} (h : toks kw t = .error q) : ∃ l, toks kw (joinN ((lns t).take (posR t q).1)) = .ok l := by
  have hq := toks_le h
  by_cases h0 : (posR t q).1 = 0
  · rw [h0]
    exact ⟨[(.fin, 0)], rfl⟩
  · obtain ⟨s, e1, e2⟩ := before_line t q hq (by omega)
    generalize joinN ((lns t).take (posR t q).1) = b at e1 e2
    rw [e1] at h
    unfold toks at h ⊢
    obtain ⟨p1, p2⟩ := blen_app false b s
    by_cases hc : blen false b < b.length
    · rw [p1 hc] at h
      exact scan_prefix _ _ _ _ (by omega) h e2
    · have := blen_le false b
      have e0 : blen false b = b.length := by omega
      rw [e0]
      exact ⟨_, scan_end List.drop_length⟩

/-! ### what is covered -/
def slc (t : List Nat) (a b : Nat) : List Nat := (t.drop a).take (b - a)
def isFin : TokV → Bool
  | .fin => true
  | _ => false
def At (t : List Nat) (v : TokV) (n : Nat) : Prop := n + size v ≤ t.length ∧
  match v with
  | .name l => slc t n (n + size v) = l
  | .word l => slc t n (n + size v) = l
  | .sign l => slc t n (n + size v) = l
  | .num l => slc t n (n + size v) = l ∧ dlen (t.drop n) = l.length ∧ 1 ≤ l.length ∧ l.length ≤ 60
  | .text l => slc t n (n + size v) = spelled l
  | .fin => n = t.length
def Cov (t : List Nat) : Nat → List (TokV × Nat) → Prop
  | a, [] => a = t.length
  | a, (v, n) :: r => a ≤ n ∧ At t v n ∧ Gap (slc t a n) (!isFin v) ∧ Cov t (n + size v) r
theorem slc_add (t : List Nat) (n k : Nat) : slc t n (n + k) = (t.drop n).take k := by
  unfold slc
  rw [Nat.add_sub_cancel_left]
theorem scan_cov {t : List Nat} : ∀ (f a n : Nat) (l : List (TokV × Nat)), a ≤ t.length → n = a + blen false (t.drop a) → t.length - n < f → scan kw t f n = .ok l →
    Cov t a l ∧ ∃ r, l = r ++ [(.fin, t.length)]
  | 0, _, _, _, _, _, h, _ => by omega
  | f + 1, a, n, l, ha, en, hf, h => by
    have hla : (t.drop a).length = t.length - a := List.length_drop
    have hbl := blen_le false (t.drop a)
    have G := (blen_gap (t.drop a)).1
    have eg : slc t a n = (t.drop a).take (blen false (t.drop a)) := by rw [en, slc_add]
    by_cases hb : t.drop n = []
    · rw [scan_end hb] at h
      cases h
      have : t.length ≤ n := List.drop_eq_nil_iff.mp hb
      have e : n = t.length := by omega
      refine ⟨⟨by omega, ⟨by simp [size]; omega, e⟩, ?_, by simp [Cov, size]; exact e⟩, [], by rw [e]; rfl⟩
      rw [eg]
      exact ⟨G.lines, fun z => by simp [isFin] at z⟩
    · have hlt : n < t.length := by
        rcases Nat.lt_or_ge n t.length with h | h
        · exact h
        · exact absurd (List.drop_eq_nil_iff.mpr h) hb
      have hl : (t.drop n).length = t.length - n := List.length_drop
      cases e : readTok kw (t.drop n) with
      | bad off => rw [scan_bad hb e] at h; cases h
      | ok v k =>
        rw [scan_ok hb e] at h
        obtain ⟨k1, k2, k3, k4⟩ := readTok_ok e
        have := fl_len (t.drop n)
        have hbl2 := blen_le false (t.drop (n + k))
        have hl2 : (t.drop (n + k)).length = t.length - (n + k) := List.length_drop
        cases e2 : scan kw t f (n + k + blen false (t.drop (n + k))) with
        | error q2 => rw [e2] at h; cases h
        | ok l2 =>
          rw [e2] at h
          cases h
          obtain ⟨c1, r, c2⟩ := scan_cov f (n + k) _ l2 (by omega) rfl (by omega) e2
          have hfin : isFin v = false := by
            cases v <;> first | rfl | exact k3.elim
          refine ⟨⟨by omega, ⟨by rw [k4]; omega, ?_⟩, ?_, by rw [k4]; exact c1⟩, (v, n) :: r, by rw [c2]; rfl⟩
          · cases v with
            | name l => rw [k4, slc_add]; exact k3.symm
            | word l => rw [k4, slc_add]; exact k3.symm
            | sign l => rw [k4, slc_add]; exact k3.symm
            | num l =>
              have k4' : l.length = k := k4
              rw [k4, slc_add]
              exact ⟨k3.1.symm, by rw [k4']; exact k3.2.1, by omega, by rw [k4']; exact k3.2.2⟩
            | text l => rw [k4, slc_add]; exact k3
            | fin => exact k3.elim
          · rw [eg, hfin]
            exact ⟨G.lines, fun _ => G.last (by simp; omega)⟩
theorem toks_cov {t : List Nat} {l : List (TokV × Nat)} (h : toks kw t = .ok l) : Cov t 0 l ∧ ∃ r, l = r ++ [(.fin, t.length)] :=
  scan_cov (t.length + 1) 0 (blen false t) l (Nat.zero_le _) (by simp) (by omega) h
theorem dig_all (r : List Nat) : ∀ c ∈ r.take (dlen r), c ∈ DIG := by
  intro c hc
  have e : r.take (dlen r) = r.takeWhile isDig := by
    unfold dlen
    have := List.takeWhile_prefix isDig (l := r)
    exact (List.prefix_iff_eq_take.mp this).symm
  rw [e] at hc
  have : isDig c = true := by
    have : ∀ l : List Nat, c ∈ l.takeWhile isDig → isDig c = true := by
      intro l
      induction l with
      | nil => intro h; simp at h
      | cons x l ih =>
        intro h
        rw [List.takeWhile_cons] at h
        split at h
        · rcases List.mem_cons.mp h with h | h
          · rw [h]; assumption
          · exact ih h
        · simp at h
    exact this r hc
  simpa [isDig] using this
/-- places behind one another in one line -/
theorem posR_add {t : List Nat} {n k : Nat} (hn : n + k ≤ t.length) (h : 10 ∉ (t.drop n).take k) : posR t (n + k) = ((posR t n).1, (posR t n).2 + k) := by
  rw [← pos_step t (n + k) hn, ← pos_step t n (by omega), List.take_add, List.foldl_append]
  generalize (t.take n).foldl step (0, 0) = p
  have hlen : ((t.drop n).take k).length = k := by rw [List.length_take, List.length_drop]; omega
  generalize (t.drop n).take k = z at h hlen
  subst hlen
  clear hn
  induction z generalizing p with
  | nil => rfl
  | cons c z ih =>
    have hc : c ≠ 10 := fun e => h (by rw [e]; exact List.mem_cons_self ..)
    rw [List.foldl_cons, ih _ fun m => h (List.mem_cons_of_mem _ m)]
    simp [step, hc]; omega
theorem fl_take_no {r : List Nat} {k : Nat} (h : k ≤ (fl r).length) : 10 ∉ r.take k := fun m => by
  rw [← fl_take r k h] at m
  exact fl_no r (List.mem_of_mem_take m)
end


/-! ### for the walk -/
theorem tw_at {p : Nat → Bool} : ∀ (r : List Nat) (k : Nat), k ≤ (r.takeWhile p).length → (decide (k < (r.takeWhile p).length) = (r.drop k).head?.any p)
  | [], k, h => by simp at h; subst h; simp
  | c :: r, k, h => by
    by_cases hp : p c = true
    · rw [List.takeWhile_cons, if_pos hp] at h ⊢
      cases k with
      | zero => simp [hp]
      | succ k =>
        have := tw_at r k (by simpa using h)
        simpa using this
    · rw [List.takeWhile_cons, if_neg hp] at h ⊢
      have : k = 0 := by simpa using h
      subst this
      simp [hp]
theorem drop_cons {t : List Nat} {n c : Nat} {r : List Nat} (h : t.drop n = c :: r) : n < t.length ∧ t.drop (n + 1) = r ∧ (t.drop n).take 1 = [c] := by
  have hl : (t.drop n).length = t.length - n := List.length_drop
  rw [h] at hl
  refine ⟨by simp at hl; omega, ?_, by rw [h]; simp⟩
  rw [← List.drop_drop, h]; rfl
theorem blen_sp {c : Nat} {r : List Nat} (h : c = 32 ∨ c = 10) : blen false (c :: r) = blen false r + 1 := by simp [blen, h]
theorem blen_rem {c : Nat} {r : List Nat} (h : c = 35) : blen false (c :: r) = blen true (c :: r) := by subst h; simp [blen]
theorem blen_in {c : Nat} {r : List Nat} (h : c ≠ 10) : blen true (c :: r) = blen true r + 1 := by simp [blen, h]
theorem blen_out {c : Nat} {r : List Nat} (h : c = 10) : blen true (c :: r) = blen false (c :: r) := by subst h; simp [blen]
theorem blen_nil (b : Bool) : blen b [] = 0 := by cases b <;> rfl
theorem blen_stop {c : Nat} {r : List Nat} (h1 : ¬ (c = 32 ∨ c = 10)) (h2 : c ≠ 35) : blen false (c :: r) = 0 := by simp [blen, h1, h2]
theorem foldl_pos (t : List Nat) (n k : Nat) (h : n + k ≤ t.length) : ((t.drop n).take k).foldl step (posR t n) = posR t (n + k) := by
  rw [← pos_step t (n + k) h, ← pos_step t n (by omega), List.take_add, List.foldl_append]

end Fk

/-! ### rules that serve outside of and within an except suite -/
namespace FkG
open PySem PySem.Spec PyProof.Rows L2 HotX

/-! hot: the end of an iterator -/
section
variable {prog : Program} {w : World} {A : Around} {E : Value → Shared → Prop} {s : Shared}
theorem tuple_end_hot {x1 it t : Addr} {i : Nat} {items : Array Value} {Q : Option Value → Shared → Prop} (hot : HotAt A x1 s.heap) (hne : x1 ≠ it)
    (hit : IsTupIter s.heap it t i) (ht : IsTup s.heap t items) (hx : items[i]? = none)
    (hQ : ∀ h', Heap.ExtBut it s.heap h' → Q none { s with heap := h' }) : wpAny (model prog w) A (pyNext (.ref it)) Q E s := by
  obtain ⟨o, ho, hc, hd⟩ := id hit
  obtain ⟨ol, hol, _, nl, hdl⟩ := ht
  obtain ⟨hh, o1, vs1, h1, d1, c1⟩ := hot
  unfold pyNext
  refine wpAny_bind (wpAny_attempt (wpAny_callSpecial?_slot (name := Str.ofString "__next__") hit.typeIs slot_tupleiter_next
    (wpAny_call_entry slot_tupleiter_next hit.typeIs entry_tupleiter_next ?_ (args_tupleiter_next _))))
  show wpAny _ _ (field (.ref it) 0 >>= _) _ _ s
  refine wpAny_bind (wpAny_field ho hd (x := .ref t) rfl ?_)
  show wpAny _ _ (if (Value.ref t == Value.none) = true then _ else _) _ _ s
  rw [if_neg (show ¬ ((Value.ref t == Value.none) = true) from Bool.false_ne_true)]
  show wpAny _ _ (field (.ref it) 1 >>= _) _ _ s
  refine wpAny_bind (wpAny_field ho hd (x := .int i 0) rfl ?_)
  show wpAny _ _ (seqItems? (.ref t) >>= _) _ _ s
  refine wpAny_bind (wpAny_seqItems hol hdl ?_)
  simp only [Int.toNat_natCast, hx]
  refine wpAny_bind (wpAny_rule (wpAny_bind (wpAny_setField ho hd (by simp) ?_)))
  show wpAny _ _ (newExc (.type "StopIteration") [] >>= _) _ _ _
  refine wpAny_bind ?_
  simp only [newExc, newTuple]
  refine wpAny_bind (wpAny_newObj_type ?_ (by size_fits))
  refine wpAny_bind (m := firstArgMember _ _) (wpAny_of_eq (a := Value.none) (by first | rfl | (simp only [firstArgMember]; rfl)) ?_)
  refine wpAny_newObj_type ?_ (by size_fits)
  have sb := Heap.SameBut.update (h := s.heap) (a := it) (f := Obj.mapFields (·.setIfInBounds 0 .none))
  have k1 : (s.heap.update it (Obj.mapFields (·.setIfInBounds 0 .none))).get? x1 = some o1 := (sb.2 x1 hne).trans h1
  refine raiseNew_hot ⟨hh, o1, vs1, Heap.get?_push_of_some _ (Heap.get?_push_of_some _ k1), d1, c1⟩ (Nat.ne_of_lt (Heap.lt_size (Heap.get?_push_of_some _ k1))) (Heap.get?_push_size _ rfl) rfl (by first | (simp; done) | (simp; omega) | (simp only [Array.size_append]; simp; omega)) ?_
  refine wpAny_bind (wpAny_isInstance (T := "StopIteration") (b := true) ⟨_, Heap.get?_update_self _ (Heap.get?_push_size _ rfl) rfl, rfl⟩ isSubtype_stop ?_)
  refine wpAny_pure (hQ _ fun b o hb e => ?_)
  have kb : (s.heap.update it (Obj.mapFields (·.setIfInBounds 0 .none))).get? b = some o := (sb.2 b hb).trans e
  rw [Heap.get?_update_other _ _ (Nat.ne_of_gt (Heap.lt_size (Heap.get?_push_of_some _ kb)))]
  exact Heap.get?_push_of_some _ (Heap.get?_push_of_some _ kb)

theorem unpackItems_hot {x1 t : Addr} {items : Array Value} {Q : List Value → Shared → Prop} (hot : HotAt A x1 s.heap) (ht : IsTup s.heap t items)
    (hQ : ∀ h', Heap.ExtBut s.heap.objs.size s.heap h' → Q items.toList { s with heap := h' }) : wpAny (model prog w) A (unpackItems (.ref t) items.size none) Q E s := by
  have hlt : t ≠ s.heap.objs.size := by obtain ⟨o, ho, _⟩ := ht; exact Nat.ne_of_lt (Heap.lt_size ho)
  obtain ⟨hh, o1, vs1, h1, d1, c1⟩ := hot
  have hx1 : x1 ≠ s.heap.objs.size := Nat.ne_of_lt (Heap.lt_size h1)
  unfold unpackItems
  refine wpAny_bind ?_
  · unfold notIterableAtAll
    refine wpAny_bind (wpAny_specialOf ht.typeIs slot_tuple_iter.lookup ?_)
    refine wpAny_pure ?_
    simp only [Bool.false_eq_true, if_false]
    refine wpAny_bind (wpAny_holding (iter_tuple ht ?_))
    refine wpAny_bind (wpAny_holding (draw_tuple hlt items.size 0 _ _ ⟨_, Heap.get?_push_size _ rfl, rfl, rfl⟩ (ht.push _) (by omega) fun h₁ hit₁ hs₁ => ?_))
    have hall : List.take items.size (List.drop 0 items.toList) = items.toList := by
      rw [List.drop_zero]; exact List.take_of_length_le (by simp)
    rw [hall]
    rw [if_neg (by simp)]
    have ht₁ : IsTup h₁ t items := (ht.push _).extBut hs₁.extBut hlt
    have k1 : h₁.get? x1 = some o1 := (hs₁.2 x1 hx1).trans (Heap.get?_push_of_some _ h1)
    refine wpAny_bind (wpAny_holding (tuple_end_hot ⟨hh, o1, vs1, k1, d1, c1⟩ hx1 hit₁ ht₁ (by simp) fun h₂ he₂ => ?_))
    simp only [Option.isSome_none, Bool.false_eq_true, if_false]
    refine wpAny_pure (hQ h₂ fun b o hb e => he₂ b o hb (hs₁.extBut b o hb (Heap.get?_push_of_some _ e)))
theorem assign_Tuple_hot {env : Env} {elts : List Expr} {k} {pos : Pos} {x1 t : Addr} {items : Array Value} {Q : Unit → Shared → Prop} (hot : HotAt A x1 s.heap) (ht : IsTup s.heap t items)
    (hn : (assignEach elts env).length = items.size) (hstar : (assignEach elts env).findIdx? (·.1) = none)
    (h : ∀ h', Heap.ExtBut s.heap.objs.size s.heap h' → wpAny (model prog w) A (assignInOrder ((assignEach elts env).map (·.2)) items.toList) Q E { s with heap := h' }) :
    wpAny (model prog w) A (assign (.Tuple elts k pos) env (.ref t)) Q E s := by
  rw [assign_Tuple]
  refine wpAny_bind (wpAny_standAt ?_)
  unfold unpack
  rw [hn, hstar]
  exact wpAny_bind (wpAny_holding (unpackItems_hot hot ht h))
theorem ascii_end_hot {x1 it : Addr} {x : Str} {t : Tok} {i : Nat} {Q : Option Value → Shared → Prop} (hot : HotAt A x1 s.heap) (hne : x1 ≠ it)
    (hit : s.heap.IsStrIter it "str_ascii_iterator" x t i) (hx : x.cps[i]? = none)
    (hQ : ∀ h', Heap.ExtBut it s.heap h' → Q none { s with heap := h' }) : wpAny (model prog w) A (pyNext (.ref it)) Q E s := by
  obtain ⟨o, ho, hc, hd⟩ := id hit
  obtain ⟨hh, o1, vs1, h1, d1, c1⟩ := hot
  unfold pyNext
  refine wpAny_bind (wpAny_attempt (wpAny_callSpecial?_slot (name := Str.ofString "__next__") hit.typeIs F.slot_str_ascii_iterator_next
    (wpAny_call_entry F.slot_str_ascii_iterator_next hit.typeIs F.entry_str_ascii_iterator_next ?_ (F.args_str_ascii_iterator_next_1 _))))
  show wpAny _ _ (field (.ref it) 0 >>= _) _ _ s
  refine wpAny_bind (wpAny_field ho hd (x := .str x t) rfl ?_)
  show wpAny _ _ (field (.ref it) 1 >>= _) _ _ s
  refine wpAny_bind (wpAny_field ho hd (x := .int i 0) rfl ?_)
  simp only [Int.toNat_natCast, hx]
  refine wpAny_bind (wpAny_rule (wpAny_bind (wpAny_setField ho hd (by simp) (wpAny_bind (wpAny_letGo ?_)))))
  show wpAny _ _ (newExc (.type "StopIteration") [] >>= _) _ _ _
  refine wpAny_bind ?_
  simp only [newExc, newTuple]
  refine wpAny_bind (wpAny_newObj_type ?_ (by size_fits))
  refine wpAny_bind (m := firstArgMember _ _) (wpAny_of_eq (a := Value.none) (by first | rfl | (simp only [firstArgMember]; rfl)) ?_)
  refine wpAny_newObj_type ?_ (by size_fits)
  have sb := fun (f : Obj → Obj) => Heap.SameBut.update (h := s.heap) (a := it) (f := f)
  refine raiseNew_hot ⟨hh, o1, vs1, Heap.get?_push_of_some _ (Heap.get?_push_of_some _ (((sb _).2 x1 hne).trans h1)), d1, c1⟩ (Nat.ne_of_lt (Heap.lt_size (Heap.get?_push_of_some _ (((sb _).2 x1 hne).trans h1)))) (Heap.get?_push_size _ rfl) rfl (by first | (simp; done) | (simp; omega) | (simp only [Array.size_append]; simp; omega)) ?_
  refine wpAny_bind (wpAny_isInstance (T := "StopIteration") (b := true) ⟨_, Heap.get?_update_self _ (Heap.get?_push_size _ rfl) rfl, rfl⟩ isSubtype_stop ?_)
  refine wpAny_pure (hQ _ fun b o hb e => ?_)
  rw [Heap.get?_update_other _ _ (Nat.ne_of_gt (Heap.lt_size (Heap.get?_push_of_some _ (((sb _).2 b hb).trans e))))]
  exact Heap.get?_push_of_some _ (Heap.get?_push_of_some _ (((sb _).2 b hb).trans e))
theorem wide_end_hot {x1 it : Addr} {x : Str} {t : Tok} {i : Nat} {Q : Option Value → Shared → Prop} (hot : HotAt A x1 s.heap) (hne : x1 ≠ it)
    (hit : s.heap.IsStrIter it "str_iterator" x t i) (hx : x.cps[i]? = none)
    (hQ : ∀ h', Heap.ExtBut it s.heap h' → Q none { s with heap := h' }) : wpAny (model prog w) A (pyNext (.ref it)) Q E s := by
  obtain ⟨o, ho, hc, hd⟩ := id hit
  obtain ⟨hh, o1, vs1, h1, d1, c1⟩ := hot
  unfold pyNext
  refine wpAny_bind (wpAny_attempt (wpAny_callSpecial?_slot (name := Str.ofString "__next__") hit.typeIs F.slot_str_iterator_next
    (wpAny_call_entry F.slot_str_iterator_next hit.typeIs F.entry_str_iterator_next ?_ (F.args_str_iterator_next_1 _))))
  show wpAny _ _ (field (.ref it) 0 >>= _) _ _ s
  refine wpAny_bind (wpAny_field ho hd (x := .str x t) rfl ?_)
  show wpAny _ _ (field (.ref it) 1 >>= _) _ _ s
  refine wpAny_bind (wpAny_field ho hd (x := .int i 0) rfl ?_)
  simp only [Int.toNat_natCast, hx]
  refine wpAny_bind (wpAny_rule (wpAny_bind (wpAny_setField ho hd (by simp) (wpAny_bind (wpAny_letGo ?_)))))
  show wpAny _ _ (newExc (.type "StopIteration") [] >>= _) _ _ _
  refine wpAny_bind ?_
  simp only [newExc, newTuple]
  refine wpAny_bind (wpAny_newObj_type ?_ (by size_fits))
  refine wpAny_bind (m := firstArgMember _ _) (wpAny_of_eq (a := Value.none) (by first | rfl | (simp only [firstArgMember]; rfl)) ?_)
  refine wpAny_newObj_type ?_ (by size_fits)
  have sb := fun (f : Obj → Obj) => Heap.SameBut.update (h := s.heap) (a := it) (f := f)
  refine raiseNew_hot ⟨hh, o1, vs1, Heap.get?_push_of_some _ (Heap.get?_push_of_some _ (((sb _).2 x1 hne).trans h1)), d1, c1⟩ (Nat.ne_of_lt (Heap.lt_size (Heap.get?_push_of_some _ (((sb _).2 x1 hne).trans h1)))) (Heap.get?_push_size _ rfl) rfl (by first | (simp; done) | (simp; omega) | (simp only [Array.size_append]; simp; omega)) ?_
  refine wpAny_bind (wpAny_isInstance (T := "StopIteration") (b := true) ⟨_, Heap.get?_update_self _ (Heap.get?_push_size _ rfl) rfl, rfl⟩ isSubtype_stop ?_)
  refine wpAny_pure (hQ _ fun b o hb e => ?_)
  rw [Heap.get?_update_other _ _ (Nat.ne_of_gt (Heap.lt_size (Heap.get?_push_of_some _ (((sb _).2 b hb).trans e))))]
  exact Heap.get?_push_of_some _ (Heap.get?_push_of_some _ (((sb _).2 b hb).trans e))
end

/-! ### a context: calm, or hot -/
def cxG (c : Bool) (pn : List (Addr × Obj)) (CX : CXT) (P : Program) (w : World) (K : PySem.W.Frag) (mg : Str → Option Value) (base : Heap) (N : List Str) (qual : Str) (scope : Scope) (f : Addr) (cd : Value) (A : Around) (outer : List Env) (s : Shared) (H : Hp) (E : XK) : Cx :=
  { cxOf CX P w K mg base N qual scope f cd A outer s H E with calm := c, pn := pn }
structure CtG (c : Bool) (k : Nat) (X : Cx) : Prop where
  ca : X.calm = c
  rm : c = true → Room k X.A
  hot : c = false → L2H.RoomH k X.A ∧ L2H.HotC X
theorem CtG.mono {c : Bool} {j k : Nat} {X : Cx} (r : CtG c k X) (h : j ≤ k) : CtG c j X := ⟨r.ca, fun e => (r.rm e).mono h, fun e => ⟨(r.hot e).1.mono h, (r.hot e).2⟩⟩
theorem CtG.units {c : Bool} {k : Nat} {X : Cx} (r : CtG c k X) : X.A.units + 64 < cLine := by
  cases c with
  | true => exact (r.rm rfl).units
  | false => have := (r.hot rfl).1.un; omega
/-- a def's promise in both -/
structure FnG (c : Bool) (P : Program) (w : World) (K : PySem.W.Frag) (mg : Str → Option Value) (base : Heap) (CX : CXT) (k : Nat) (f : Addr) (fd : FuncData) (ps : List Str) (sp : Sp) : Prop where
  ok : c = true → FnOk P w K mg base CX k f fd ps sp
  hot : c = false → L2H.FnH P w K mg base CX k f fd ps sp
section
variable {c : Bool} {P : Program} {w : World} {K : PySem.W.Frag} {mg : Str → Option Value} {base : Heap} {x qual : Str} {params : Arguments} {body : List Stmt} {scope : Scope} {dvs : List V} {kws : List (Str × V)} {f : Addr} {fd : FuncData} {CX : CXT} {N ps : List Str} {k : Nat} {sp : Sp}
theorem okG (F : FunD K x qual params body scope dvs kws f fd) (S : FnScope N ps scope) (len : ∀ vs H Q E, sp vs H Q E → vs.length = ps.length)
    (hbody : ∀ (cdv : Value) (A : Around) (outer : List Env) (s : Shared) (H : Hp) (vs : List V) (Q : VK) (E : XK) (pn : List (Addr × Obj)), CtG c k (cxG c pn CX P w K mg base N qual scope f cdv A outer s H E) → sp vs H Q E →
      ∃ t, PSs (cxG c pn CX P w K mg base N qual scope f cdv A outer s H E) body t ∧ t { nx := fun _ H' => Q .non H', rt := Q } (L2.start N vs) H) : FnG c P w K mg base CX (k + 1) f fd ps sp := by
  obtain ⟨oc, od, dV, kV, doc, pm, an, cdv, ct, osl, rfl, lk, hcd, _, _⟩ := F.ex
  refine ⟨fun e => ?_, fun e => ?_⟩
  · subst e
    exact fn_of lk hcd S len fun A outer s H vs Q E hr hsp => hbody cdv A outer s H vs Q E [] ⟨rfl, fun _ => hr, fun z => Bool.noConfusion z⟩ hsp
  · subst e
    exact L2H.fn_ofH lk hcd S len fun A outer s H vs Q E p hot hr hsp => hbody cdv A outer s H vs Q E [p] ⟨rfl, fun z => Bool.noConfusion z, fun _ => ⟨hr, p, hot, List.mem_singleton.mpr rfl⟩⟩ hsp
theorem FnG.len (F : FnG c P w K mg base CX k f fd ps sp) : ∀ vs H Q E, sp vs H Q E → vs.length = ps.length := by
  cases c with
  | true => exact (F.ok rfl).len
  | false => exact (F.hot rfl).len
end
section
variable {c : Bool} {X : Cx} {CX : CXT} {k : Nat} {f C : Addr} {fd : FuncData} {ps : List Str} {sp : Sp} {dvs : List V} {ds : List Value} {E : XK} {x m : Str} {p pos apos : Pos} {e o : Expr} {es : List Expr} {ta : TE} {t : TA}
theorem run_fnG {pins : List (Addr × Obj)} {σ : L2.St} {H : Hp} {s : Shared} {Q : VK} {us : List Value} {vs : List V} (F : FnG c X.prog X.w X.K X.mg X.base CX k f fd ps sp) (hr : CtG c k X) (hb : Binds X.K fd ps ds) (hd : Vals dvs ds) (hx : Passes CX X E)
    (I : Inv X pins σ H s) (r : Vals vs us) (h : sp (vs ++ dvs) H Q E) : wpAny (model X.prog X.w) X.A (call (.ref f) us) (EP X pins σ Q) X.xe s := by
  cases c with
  | true => exact run_fn (F.ok rfl) (hr.rm rfl) hb hd hx I r h
  | false =>
    obtain ⟨rh, q, hot, hp⟩ := hr.hot rfl
    have r2 : Vals (vs ++ dvs) (us ++ ds) := r.append hd
    have hl : (us ++ ds).length = ps.length := by rw [← r2.length]; exact F.len _ _ _ _ h
    have P1 := I.pin q (List.mem_append_left _ hp)
    have hpin : L2H.PinOk X.stack H s q := ⟨P1.1, P1.2.1, fun hm => (List.mem_cons.mp (I.stkSub q.1 hm)).elim P1.2.2.1 P1.2.2.2.1, P1.2.2.2.2⟩
    refine wpAny_call (codeAny_mono ((F.hot rfl).run X.A X.stack s H ⟨us, []⟩ (us ++ ds) (vs ++ dvs) Q E q rh hot hpin I.env0 (hb s us I.kIn hl) r2 h) fun r s' hq => ?_)
    cases r with
    | error e => exact hx pins σ H s e s' I hq
    | ok fl =>
      cases fl with
      | ret u => exact I.after hq
      | next => exact False.elim hq
      | brk => exact False.elim hq
      | cont => exact False.elim hq
theorem pe_callG (F : FnG c X.prog X.w X.K X.mg X.base CX k f fd ps sp) (hr : CtG c k X) (hg : Gl X x) (hm : X.mg x = some (.ref f)) (hk : PySem.W.keepIn X.K (.ref f) = true) (hb : Binds X.K fd ps ds) (hd : Vals dvs ds) (hx : Passes CX X E)
    (ha : PA X (e :: es) t) (hdb : (x == ("__debug__" : Str)) = false := by decide) (he : starEach (e :: es) X.env = (false, eval e X.env) :: starEach es X.env := by rfl) (hpl : (backTo pos (starEach es X.env)).any (·.1) = false := by rfl) :
    PE X (.Call (.Name x p) (e :: es) [] pos) (tCall sp dvs E t) := by
  refine ⟨fun pins s σ H Q I h => ?_⟩
  refine wpAny_Call_Name_kw (ld_glob I hg hm ?_ hdb)
  refine PySem.W.callWith_K (h₀ := X.base) I.ok.mod.kin hk (thn (ha.run pos pins s σ H _ I h) fun us s1 ⟨vs, H1, I1, r, q⟩ => ⟨I1.kIn, ?_⟩) he hpl
  exact run_fnG F hr hb hd hx I1 r q
theorem pe_methG {pl : Sem Bool} (he : PE X o ta) (cl : Cls X.K C) (hm : Meth X.K C m f) (F : FnG c X.prog X.w X.K X.mg X.base CX k f fd ps sp) (hr : CtG c k X) (hb : Binds X.K fd ps ds) (hd : Vals dvs ds) (hx : Passes CX X E) (ha : PA X (e :: es) t)
    (hst : starEach (e :: es) X.env = (false, eval e X.env) :: starEach es X.env := by rfl) (hpl : (backTo pos (starEach es X.env)).any (·.1) = false := by rfl)
    (ht : eval (.Call (.Attribute o m apos) (e :: es) [] pos) X.env = (do
      let ov ← eval o X.env
      standAt apos.atName
      let (f, first) ← holding [ov] (getMethod ov m pl)
      callWith pos f first (backTo pos (starEach (e :: es) X.env)) (backToKw pos (keywordEach [] X.env))) := by rfl) :
    PE X (.Call (.Attribute o m apos) (e :: es) [] pos) (tMeth C m sp dvs E ta t) := by
  refine ⟨fun pins s σ H Q I h => ?_⟩
  refine PySem.W.methodCall_KW (pl := pl) (thn (he.run pins s σ H _ I h) fun u s1 ⟨x, H1, I1, rx, a, dx, fs, ex, ea, l, q⟩ => ?_) ht
  subst ex
  obtain rfl : u = Value.ref a := rx
  refine getmeth_ok I1 ea cl hm l ?_
  refine PySem.W.callWith_K (first := [.ref a]) (h₀ := X.base) I.ok.mod.kin hm.kp (thn (ha.run pos pins s1 σ H1 _ I1 q) fun us s2 ⟨vs, H2, I2, r, q2⟩ => ⟨I2.kIn, ?_⟩) hst hpl
  exact run_fnG (us := .ref a :: us) (vs := .ref a :: vs) F hr hb hd hx I2 (.cons rfl r) q2
theorem pe_methG0 {pl : Sem Bool} (he : PE X o ta) (cl : Cls X.K C) (hm : Meth X.K C m f) (F : FnG c X.prog X.w X.K X.mg X.base CX k f fd ps sp) (hr : CtG c k X) (hb : Binds X.K fd ps ds) (hd : Vals dvs ds) (hx : Passes CX X E)
    (ht : eval (.Call (.Attribute o m apos) [] [] pos) X.env = (do
      let ov ← eval o X.env
      standAt apos.atName
      let (f, first) ← holding [ov] (getMethod ov m pl)
      callWith pos f first (backTo pos (starEach [] X.env)) (backToKw pos (keywordEach [] X.env))) := by rfl) :
    PE X (.Call (.Attribute o m apos) [] [] pos) (tMeth C m sp dvs E ta tNil) := by
  refine ⟨fun pins s σ H Q I h => ?_⟩
  refine PySem.W.methodCall_KW (pl := pl) (thn (he.run pins s σ H _ I h) fun u s1 ⟨x, H1, I1, rx, a, dx, fs, ex, ea, l, q⟩ => ?_) ht
  subst ex
  obtain rfl : u = Value.ref a := rx
  refine getmeth_ok I1 ea cl hm l ?_
  exact PySem.W.callWith_K0 (first := [.ref a]) I1.kIn hm.kp (run_fnG (us := [.ref a]) (vs := [.ref a]) F hr hb hd hx I1 (.cons rfl .nil) q)
theorem run_makeG {pins : List (Addr × Obj)} {σ : L2.St} {H : Hp} {s : Shared} {Q : VK} {us : List Value} {vs : List V} (M : Mk X.K C f) (F : FnG c X.prog X.w X.K X.mg X.base CX k f fd ps sp) (hr : CtG c (k + 1) X) (hb : Binds X.K fd ps ds) (hd : Vals dvs ds)
    (hx : Passes CX X E) (I : Inv X pins σ H s) (r : Vals vs us)
    (h : ∀ x dx, H x = none → H dx = none → dx ≠ x → sp (.ref x :: (vs ++ dvs)) (upd (upd H dx (.own x)) x (.ins C dx [])) (fun v H2 => v = .non ∧ Q (.ref x) H2) E) :
    wpAny (model X.prog X.w) X.A (call (.ref C) us) (EP X pins σ Q) X.xe s := by
  cases c with
  | true => exact run_make M (F.ok rfl) (hr.rm rfl) hb hd hx I r h
  | false =>
    obtain ⟨rh, q, hot, hp⟩ := hr.hot rfl
    have hq := h (s.heap.objs.size + 1) s.heap.objs.size (I.hok.fresh (Nat.le_succ _)) (I.hok.fresh (Nat.le_refl _)) (Nat.ne_of_lt (Nat.lt_succ_self _))
    have I2 := Inv.made (C := C) I
    have r2 : Vals (V.ref (s.heap.objs.size + 1) :: (vs ++ dvs)) (Value.ref (s.heap.objs.size + 1) :: (us ++ ds)) := .cons rfl (r.append hd)
    have hl : (Value.ref (s.heap.objs.size + 1) :: us ++ ds).length = ps.length := by
      have e := r2.length
      rw [F.len _ _ _ _ hq] at e
      exact e.symm
    have P1 := I2.pin q (List.mem_append_left _ hp)
    have hpin := (⟨P1.1, P1.2.1, fun hm => (List.mem_cons.mp (I2.stkSub q.1 hm)).elim P1.2.2.1 P1.2.2.2.1, P1.2.2.2.2⟩ : L2H.PinOk X.stack _ _ q)
    refine wpAny_call (make_map (f := f) I.kIn M.makes M.init (beq_iff_eq.mp M.fn) (codeAny_mono ((F.hot rfl).run _ X.stack _ _ ⟨Value.ref (s.heap.objs.size + 1) :: us, []⟩ (Value.ref (s.heap.objs.size + 1) :: (us ++ ds)) _ _ E q (rh.make C us [])
      ⟨hot.1, hot.2⟩ hpin (I2.env0.make C us []) (hb _ (Value.ref (s.heap.objs.size + 1) :: us) I2.kIn hl) r2 hq) fun r s' hq' => ?_))
    cases r with
    | error e => exact hx pins σ _ _ e s' I2 hq'
    | ok fl =>
      cases fl with
      | ret u =>
        obtain ⟨v, H', I3, rv, ev, q3⟩ := I2.after hq'
        subst ev
        exact ⟨rv, ⟨V.ref (s.heap.objs.size + 1), H', I3, rfl, q3⟩⟩
      | next => exact False.elim hq'
      | brk => exact False.elim hq'
      | cont => exact False.elim hq'
theorem pe_makeG (M : Mk X.K C f) (F : FnG c X.prog X.w X.K X.mg X.base CX k f fd ps sp) (hr : CtG c (k + 1) X) (hg : Gl X x) (hm : X.mg x = some (.ref C)) (hb : Binds X.K fd ps ds) (hd : Vals dvs ds) (hx : Passes CX X E)
    (ha : PA X (e :: es) t) (hdb : (x == ("__debug__" : Str)) = false := by decide) (he : starEach (e :: es) X.env = (false, eval e X.env) :: starEach es X.env := by rfl) (hpl : (backTo pos (starEach es X.env)).any (·.1) = false := by rfl) :
    PE X (.Call (.Name x p) (e :: es) [] pos) (tMake C sp dvs E t) := by
  refine ⟨fun pins s σ H Q I h => ?_⟩
  refine wpAny_Call_Name_kw (ld_glob I hg hm ?_ hdb)
  refine PySem.W.callWith_K (h₀ := X.base) I.ok.mod.kin M.kp (thn (ha.run pos pins s σ H _ I h) fun us s1 ⟨vs, H1, I1, r, q⟩ => ⟨I1.kIn, ?_⟩) he hpl
  exact run_makeG M F hr hb hd hx I1 r q
/-- a statement that is met outside of except suites alone -/
def tCalm (X : Cx) (t : TS) : TS := fun D σ H => X.calm = true ∧ t D σ H
theorem ps_calm {st : Stmt} {t : TS} (h : X.calm = true → PS X st t) : PS X st (tCalm X t) := ⟨fun pins s σ H D I q => (h q.1).run pins s σ H D I q.2⟩
/-- (a, b, ..) = a tuple of that length -/
theorem pg_tupG {es : List Expr} {j : Nat} {t : TGs} {n : Nat} (hr : CtG c k X) (h : PGs X es t)
    (hn : (assignEach es X.env).length = n := by rfl) (hst : (assignEach es X.env).findIdx? (·.1) = none := by rfl) : PG X (.Tuple es j pos) (gTup X.K n t) := by
  cases c with
  | true => exact pg_tup hr.ca h hn hst
  | false =>
    refine ⟨fun pins s σ H v u Q I r hw => ?_⟩
    obtain ⟨a, xs, e1, hq, hl, hw⟩ := hw
    subst e1
    cases r
    obtain ⟨its, rv, ht, hz⟩ := I.tuple hq
    obtain ⟨x1, hot⟩ := (hr.hot rfl).2.at I
    refine assign_Tuple_hot hot ht (by simp [hn, ← hl, rv.length]) hst fun h' hx => ?_
    have I1 : Inv X pins σ H { s with heap := h' } := I.kept (t' := s.toks) fun b o e => hx b o (Nat.ne_of_lt (Heap.lt_size e)) e
    exact h.run pins _ σ H xs _ Q I1 (by simpa using rv) hw
end
end FkG

namespace FkG
open PySem PySem.Spec PyProof.Rows L2 HotX

/-! ### for over a text, hot -/
theorem turn_strH {P : Program} {w : World} {K : PySem.W.Frag} {tg : Expr} (it : Addr) (x : Str) (t : Tok) (ty : String) (hty : ty = "str_ascii_iterator" ∨ ty = "str_iterator") :
    L2H.TurnH P w K tg (Its x) [it] it (fun i h => h.IsStrIter it ty x t i) where
  mem := by simp
  obj := fun i h st b hb => by
    have e : b = it := by simpa using hb
    subst e
    obtain ⟨o, e, c, d⟩ := st
    exact ⟨o, e, fun v z => by rw [d] at z; cases z⟩
  keep := fun i h h' st k => let ⟨o, ho, r⟩ := st; ⟨o, k it (by simp) o ho, r⟩
  item := by
    intro X hP hw hK hc i pins s σ H E I hf st hg
    subst hP hw hK
    obtain ⟨f0, f1, f2, f3, f4, f5⟩ := hf it (by simp)
    have hno : ["enumerate", "zip", "dict_itemiterator", "dict_reverseitemiterator", "odict_iterator", "itertools.zip_longest", "itertools.pairwise"].contains ty = false := by
      rcases hty with e | e
      · rw [e]; decide
      · rw [e]; decide
    have hlt : i < x.cps.size := hg
    obtain ⟨c, hcx⟩ : ∃ c, x.cps[i]? = some c := ⟨x.cps[i], by simp [hlt]⟩
    have fin : ∀ h' : Heap, h'.IsStrIter it ty x t (i + 1) → Heap.SameBut it s.heap h' → ∃ u, some (Value.str ⟨#[c]⟩ s.toks) = some u ∧
        wpAny (model X.prog X.w) X.A (letOwnedTupleGo tg (.ref it) u) (fun _ s2 => ∃ y H', Inv X pins σ H' s2 ∧ RelV y u ∧ (Its x).yld i H y H' ∧ s2.heap.IsStrIter it ty x t (i + 1) ∧ ∀ b ∈ [it], H' b = none) E { s with heap := h', toks := s.toks + 1 } := fun h' st' sb => by
      have I1 : Inv X pins σ H { s with heap := h', toks := s.toks + 1 } := I.turned (fun b o hb e => (sb.2 b hb).trans e) f0 f1 f3 f4 f5
      obtain ⟨oi, e, cc, dd⟩ := id st'
      exact ⟨_, rfl, go_of (s := { s with heap := h', toks := s.toks + 1 }) e cc dd hno ⟨.str ⟨#[c]⟩, H, I1, ⟨_, rfl⟩, ⟨rfl, c, hcx, rfl⟩, st', fun b hb => (hf b hb).1⟩⟩
    rcases hty with e | e
    · subst e
      exact wpAny_pyNext_ascii_item st hcx fin
    · subst e
      exact wpAny_pyNext_wide_item st hcx fin
  done := by
    intro X hP hw hK hc i pins s σ H E I hf st hg
    subst hP hw hK
    obtain ⟨f0, f1, f2, f3, f4, f5⟩ := hf it (by simp)
    have hx : x.cps[i]? = none := Array.getElem?_eq_none hg
    obtain ⟨p, ⟨hh, v1, e1, c1⟩, hp⟩ := hc
    have hot : HotAt X.A p.1 s.heap := ⟨hh, p.2, v1, (I.pin p (List.mem_append_left _ hp)).1, e1, c1⟩
    have ne : p.1 ≠ it := f5 p (List.mem_append_left _ hp)
    rcases hty with e | e
    · subst e
      exact ascii_end_hot hot ne st hx fun h' eb => ⟨rfl, I.turned (t' := s.toks) (fun b o hb e => eb b o hb e) f0 f1 f3 f4 f5⟩
    · subst e
      exact wide_end_hot hot ne st hx fun h' eb => ⟨rfl, I.turned (t' := s.toks) (fun b o hb e => eb b o hb e) f0 f1 f3 f4 f5⟩
  self := fun A i s Q E st h => by
    rcases hty with e | e
    · rw [e] at st; exact wpAny_pyIter_striter_ascii st h
    · rw [e] at st; exact wpAny_pyIter_striter_wide st h
theorem pi_oneH {X : Cx} {tg : Expr} {pins : List (Addr × Obj)} {σ : L2.St} {H : Hp} {s : Shared} {R : It → Hp → Prop} {J : It} {tn : Nat → Heap → Prop} {tk : Nat} (I : Inv X pins σ H s) (o : Obj)
    (T : L2H.TurnH X.prog X.w X.K tg J [s.heap.objs.size] s.heap.objs.size tn) (h0 : tn 0 (s.heap.push o)) (q : R J H) : L2H.PIEH X pins σ tg R (.ref s.heap.objs.size) { s with heap := s.heap.push o, toks := tk } := by
  refine ⟨s.heap.objs.size, [s.heap.objs.size], tn, J, H, rfl, I.kept (t' := tk) fun b o e => Heap.get?_push_of_some _ e, T, h0, fun b hb => ?_, q⟩
  have e : b = s.heap.objs.size := by simpa using hb
  subst e
  exact I.fpOk (Nat.le_refl _) (I.hok.fresh (Nat.le_refl _))
theorem pi_strH {X : Cx} {tg e : Expr} {te : TE} (he : PE X e te) : L2H.PIH X tg e (iStr te) := by
  refine ⟨fun pins s σ H R I h => ?_⟩
  refine thn (he.run pins s σ H _ I h) fun v s1 ⟨y, H1, I1, r1, x, ex, q⟩ => ?_
  subst ex
  obtain ⟨t, rfl⟩ := r1
  cases ha : x.cps.all (· < 128)
  · exact wpAny_pyIter_wide ha (pi_oneH (tk := s1.toks) I1 _ (turn_strH _ x t "str_iterator" (.inr rfl)) ⟨_, Heap.get?_push_size _ rfl, rfl, rfl⟩ q)
  · exact wpAny_pyIter_ascii ha (pi_oneH (tk := s1.toks) I1 _ (turn_strH _ x t "str_ascii_iterator" (.inl rfl)) ⟨_, Heap.get?_push_size _ rfl, rfl, rfl⟩ q)
theorem ps_forStrG {c : Bool} {k : Nat} {X : Cx} {tg e : Expr} {te : TE} {body : List Stmt} {g : TG} {tb : TS} {pos : Pos} (hr : CtG c k X) (hp : PassesOwn (model X.prog X.w) X.A X.env X.xe) (he : PE X e te) (hg : PG X tg g) (hb : PSs X body tb)
    (hs : ∀ x, foldedSetIterable e X.env x = pure x := by intro _; rfl) : PS X (.For tg e body [] pos) (tFor (iStr te) g tb) := by
  cases c with
  | true => exact ps_for hp hr.ca (pi_str he) hg hb hs
  | false => exact L2H.ps_forH hp (hr.hot rfl).2 (pi_strH he) hg hb hs
/-- over a text, by an invariant -/
theorem for_str {x : Str} {g : TG} {tb : TS} {D : Ends} {σ : L2.St} {H : Hp} (Pv : Nat → L2.St → Hp → Prop) (h0 : Pv 0 σ H)
    (hs : ∀ i c σ H, x.cps.toList[i]? = some c → Pv i σ H → g (.str ⟨#[c]⟩) σ H fun σ2 H2 => tb { D with nx := Pv (i + 1), ct := Pv (i + 1), bk := D.nx } σ2 H2) (hd : ∀ σ H, Pv x.cps.toList.length σ H → D.nx σ H) :
    ∃ W : Nat → Nat → L2.St → Hp → Prop, (∃ m, W 0 m σ H) ∧ ∀ i m σ H, W i m σ H →
      ((Its x).stop i H ∧ D.nx σ H) ∨ ((Its x).go i H ∧ ∃ N : L2.St → Hp → Prop, (∀ σ' H', N σ' H' → ∃ m', m' < m ∧ W (i + 1) m' σ' H') ∧ ∀ x' H', (Its x).yld i H x' H' → g x' σ H' fun σ2 H2 => tb { D with nx := N, ct := N, bk := D.nx } σ2 H2) := by
  have hl : x.cps.size = x.cps.toList.length := by simp
  refine ⟨fun i m σ H => m = x.cps.size - i ∧ i ≤ x.cps.size ∧ Pv i σ H, ⟨x.cps.size, by simp, Nat.zero_le _, h0⟩, ?_⟩
  rintro i m σ H ⟨rfl, hi, p⟩
  by_cases hlt : i < x.cps.size
  · refine .inr ⟨hlt, Pv (i + 1), fun σ' H' p' => ⟨x.cps.size - (i + 1), by omega, rfl, hlt, p'⟩, fun x' H' y => ?_⟩
    obtain ⟨e, c, hc, ex⟩ := y
    subst e
    subst ex
    exact hs i c σ _ (by rw [Array.getElem?_toList]; exact hc) p
  · have e : i = x.cps.size := by omega
    subst e
    exact .inl ⟨Nat.le_refl _, hd σ H (by rw [← hl]; exact p)⟩

/-! ### an exception class over an own class over ValueError -/
section
variable {X : Cx} {pins : List (Addr × Obj)} {σ : L2.St} {H : Hp} {s : Shared} {a C dx : Addr} {f : Str} {y : V} {u : Value} {fs : List (Str × V)} {Q : Unit → Shared → Prop} {E : Value → Shared → Prop} {A : Around}
variable {o e : Expr} {es : List Expr} {to te : TE} {ta : TA} {p p' p1 p2 pos : Pos}
/-- Base.__init__(self, ..), Base an own class (at B) that has ValueError's -/
theorem pe_baseinit {x : Str} {B : Addr} {pl : Sem Bool} (hg : Gl X x) (hm : X.mg x = some (.ref B)) (rd : PySem.W.readsIn X.K B (.type "type") = true) (ga : PySem.W.specialIn X.K (.ref B) "__getattribute__" = some (some (.builtin "type.__getattribute__")))
    (vV : PySem.W.findCls X.K (.ref B) (.type "type") "__init__" = some (.val (.builtin "ValueError.__init__"))) (ha : PA X (e :: es) ta)
    (hdb : (x == ("__debug__" : Str)) = false := by decide)
    (hc : eval (.Call (.Attribute (.Name x p1) "__init__" p2) (e :: es) [] pos) X.env = (do
      let ov ← eval (.Name x p1) X.env
      standAt p2.atName
      let (f, first) ← holding [ov] (getMethod ov "__init__" pl)
      callWith pos f first (backTo pos (starEach (e :: es) X.env)) (backToKw pos (keywordEach [] X.env))) := by rfl)
    (he : starEach (e :: es) X.env = (false, eval e X.env) :: starEach es X.env := by rfl) (hpl : (backTo pos (starEach es X.env)).any (·.1) = false := by rfl) :
    PE X (.Call (.Attribute (.Name x p1) "__init__" p2) (e :: es) [] pos) (tVeI X.K ta) := by
  refine ⟨fun pins s σ H Q I h => ?_⟩
  refine PySem.W.methodCall_KW (ld_glob I hg hm ?_ hdb) hc
  refine PySem.W.method_cls I.kIn ga (PySem.W.cls_value I.kIn rd vV (by decide +kernel) ?_)
  show wpAny _ _ (callWith pos (Value.builtin "ValueError.__init__") [] (backTo pos (starEach (e :: es) X.env)) []) _ _ _
  refine PyProof.Rows.callWith_method1 (thn (ha.run pos pins _ σ H _ (I.tok _) h) fun us s1 ⟨vs, H1, I1, r1, a, C, ws, ev, hl, T, ea, q⟩ => ?_) he hpl
  subst ev
  cases r1 with
  | @cons _ u0 _ ur ra rw' =>
    obtain rfl : u0 = Value.ref a := ra
    have hlen : ur.length ≤ sizeLine := by
      rw [← Paired.length rw', sizeLine_eq]
      omega
    exact oinit_ok T I1 ea hlen fun s' J => ⟨.non, H1, J, rfl, q⟩
theorem mk_endN {pins : List (Addr × Obj)} {σ : L2.St} {H1 H2 : Hp} {Q : XK} {hp hp2 h2 : Heap} {g1 g2 : Array GenState} {d1 d2 : Drawn} {t1 t2 : Nat} {os1 os2 : OsState} {a C d : Addr} {fs : List (Str × V)} (T : Raises X (.ref C)) (I1 : Inv X pins σ H1 ⟨hp, g1, d1, t1, os1⟩)
    (ha : hp.objs.size ≤ a) (k : ∀ b o, hp.get? b = some o → hp2.get? b = some o) (un : Un (frs X.stack) [] (upd H1 a (exo a C none)) H2 hp2 h2) (hok : HOk X.prog X.w H2 h2) (ho : os2 = os1) (hb : AllBare g2)
    (ea : H2 a = some (exo a C (some d))) (ed : H2 d = some (exd d fs)) (hd1 : H1 d = none) (q : Q (.ref C) (some d) (upd (del H2 a) d (.xd fs))) : L2N.MkP X pins σ Q (.ref a) ⟨h2, g2, d2, t2, os2⟩ := by
  obtain ⟨t0, G, J, kG, ge, hoe, na⟩ := mk_end0 (d2 := d2) (t2 := t2) I1 ha k un hok ho hb ea ed hd1
  exact ⟨a, _, _, ⟨G, g2, d2, t2, os2⟩, _, .ref C, some d, rfl, J, kG, ge, hoe, ⟨rfl, rfl, fun vs hv => by cases hv; rfl⟩, rfl, rfl, na, rfl, hb, T, q⟩
theorem pmk_oexN {CX : CXT} {x : Str} {C fI : Addr} {k : Nat} {fd : FuncData} {ps : List Str} {sp : Sp} {ds : List Value} {dvs : List V} (T : OexC X.K C) (iC : PySem.W.findIn X.K (.ref C) "__init__" = some (some (.ref fI))) (tI : PySem.W.typeIn X.K (.ref fI) = some (.type "function"))
    (F1 : FnOk X.prog X.w X.K X.mg X.base CX k fI fd ps sp) (hr : Room (k + 1) X.A) (hb : Binds X.K fd ps ds) (hd : Vals dvs ds) (hx : Passes CX X (fun _ _ _ => False)) (hg : Gl X x) (hm : X.mg x = some (.ref C)) (ha : PA X (e :: es) ta)
    (hdb : (x == ("__debug__" : Str)) = false := by decide) (he : starEach (e :: es) X.env = (false, eval e X.env) :: starEach es X.env := by rfl) (hpl : (backTo pos (starEach es X.env)).any (·.1) = false := by rfl) :
    L2N.PMk X (.Call (.Name x p) (e :: es) [] pos) (tMkO C sp dvs ta) := by
  intro pins s σ H Q I h
  obtain ⟨nm, q, N, bs, bm, sn, sub, ab, col, dd, k0, k1, k2, k3, k5, hC, hbm⟩ := T.cls
  refine wpAny_Call_Name_kw (ld_glob I hg hm ?_ hdb)
  refine PySem.W.callWith_K (h₀ := X.base) I.ok.mod.kin T.kC (thn (ha.run pos pins s σ H _ I h) fun us s1 ⟨vs, H1, I1, r1, hz, q1⟩ => ⟨I1.kIn, ?_⟩) he hpl
  show wpAny _ _ (call (.ref C) us) _ _ _
  obtain ⟨hp, g, dr, tk, os⟩ := s1
  have hsz : hp.objs.size ≤ hp.objs.size + 1 := Nat.le_succ _
  have hn : H1 (hp.objs.size + 1) = none := I1.hok.fresh hsz
  have hq := q1 (hp.objs.size + 1) hn
  have kk : ∀ b o, hp.get? b = some o → ((hp.push (PySem.W.kdv_tup us)).push (PySem.HandSPX.excO C hp.objs.size)).get? b = some o := fun b o e => Heap.get?_push_of_some _ (Heap.get?_push_of_some _ e)
  have hget : ((hp.push (PySem.W.kdv_tup us)).push (PySem.HandSPX.excO C hp.objs.size)).get? (hp.objs.size + 1) = some (PySem.HandSPX.excO C hp.objs.size) := by heap_get
  have I2 : Inv X pins σ (upd H1 (hp.objs.size + 1) (exo (hp.objs.size + 1) C none)) ⟨(hp.push (PySem.W.kdv_tup us)).push (PySem.HandSPX.excO C hp.objs.size), g, dr, tk, os⟩ :=
    I1.laid (t' := tk) (a := hp.objs.size + 1) (o := exo (hp.objs.size + 1) C none) (h' := (hp.push (PySem.W.kdv_tup us)).push (PySem.HandSPX.excO C hp.objs.size)) kk hsz (exo_ok hget)
  have r2 : Vals (V.ref (hp.objs.size + 1) :: (vs ++ dvs)) (Value.ref (hp.objs.size + 1) :: (us ++ ds)) := .cons rfl (r1.append hd)
  have hl : (Value.ref (hp.objs.size + 1) :: us ++ ds).length = ps.length := by
    have e := r2.length
    rw [F1.len _ _ _ _ hq] at e
    exact e.symm
  have hus : us.length ≤ sizeLine := by
    rw [← Paired.length r1, sizeLine_eq]
    omega
  refine wpAny_call (PySem.HandSPX.call_own F.excBase_ValueError (fun Y => PySem.HandSPX.refsVE_contains Y bm hbm) (I1.kIn _ _ hC) (PySem.W.looks_findIn I1.kIn iC) (fun self => PySem.W.bind_fn I1.kIn self tI) hus
    (codeAny_mono (F1.run _ X.stack _ _ ⟨Value.ref (hp.objs.size + 1) :: us, []⟩ (Value.ref (hp.objs.size + 1) :: (us ++ ds)) _ _ (fun _ _ _ => False) (hr.make C us []) (I2.env0.make C us []) (hb _ (Value.ref (hp.objs.size + 1) :: us) I2.kIn hl) r2 hq) fun r s' hq' => ?_))
  cases r with
  | error er => exact hx pins σ _ _ er s' I2 hq'
  | ok fl =>
    cases fl with
    | ret u =>
      obtain ⟨v, H2, os2, bare2, un2, hok2, rv, ev, d, fs, ea, ed, hd1, q2⟩ := hq'
      subst ev
      obtain ⟨h2, g2, d2, t2, os'⟩ := s'
      exact ⟨rv, mk_endN (raises_own T.exC T.tyC) I1 hsz kk un2 hok2 os2 bare2 ea ed hd1 q2⟩
    | next => exact False.elim hq'
    | brk => exact False.elim hq'
    | cont => exact False.elim hq'
end

/-! ### d.get(k, x) of a written dict with text keys -/
def tKGet (K : PySem.W.Frag) (w : World) (td ty tx : TE) : TE := fun σ H Q => td σ H fun x H1 => ∃ d es n, x = .ref d ∧ KDict K w d es n ∧ ty σ H1 fun y H2 => ∃ z, y = .str z ∧ tx σ H2 fun v H3 => ∃ r : Option Value, PySem.W.nsIn K d z = some r ∧
  ((r = none ∧ Q v H3) ∨ ∃ u0 v0, r = some u0 ∧ RelV v0 u0 ∧ Q v0 H3)
section
variable {X : Cx} {o e f : Expr} {apos cpos : Pos} {td ty tx : TE}
theorem pe_kget (ho : PE X o td) (he : PE X e ty) (hf : PE X f tx) (m : M2 X o "get" apos e f cpos) : PE X (.Call (.Attribute o "get" apos) [e, f] [] cpos) (tKGet X.K X.w td ty tx) := by
  refine ⟨fun pins s σ H Q I h => ?_⟩
  refine wpAny_Call_method m.base m.few m.line PySem.F.plainAttrs_dict PySem.F.slot_dict_get PySem.F.type_dict_get (thn (ho.run pins s σ H _ I h) fun u s1 ⟨x, H1, I1, rx, d, es, n, ex, D, q1⟩ => ?_)
  subst ex
  obtain rfl : u = Value.ref d := rx
  refine ⟨kd_type D I1, fun b q => ?_, ?_⟩
  · cases q
    exact ⟨_, I1.kIn _ _ D.at_, rfl⟩
  rw [m.trees]
  refine Calls.callWith_builtin rfl (Calls.evalArgs_plain (Calls.spliced_cons (thn (he.run pins s1 σ H1 _ I1 q1) fun iv s2 ⟨y, H2, I2, ry, z, ey, q2⟩ =>
    Calls.spliced_cons (thn (hf.run pins s2 σ H2 _ I2 q2) fun fv s3 ⟨v, H3, I3, rz, r, hr, q3⟩ => Calls.spliced_nil ?_))))
  subst ey
  obtain ⟨t, rfl⟩ := ry
  have mm := PySem.W.mapOf_K (prog := X.prog) (w := X.w) I3.kIn D.at_ D.lit
  refine call_meetsIn PySem.F.slot_dict_get mm.typeIs PySem.F.entry_dict_get (PySem.F.args_dict_get_3 _ _ _) (meets_dict_get_default (strKind X.prog X.w) d (strKind_is X.prog X.w z t) D.low fv) ⟨_, mm, ?_⟩
  rw [PySem.W.find_K D.at_ hr]
  rcases q3 with ⟨rn, q⟩ | ⟨u0, v0, rs, ru, q⟩
  · subst rn
    exact ⟨v, H3, I3.tok _, rz, q⟩
  · subst rs
    exact ⟨v0, H3, I3.tok _, ru, q⟩
end
end FkG

namespace FkW
open PySem PySem.Spec PyProof.Rows L2 FkG SX
open Fk (posR posR_zero)

/-! ### the text by places -/
def top (i : Nat) : Stmt := PySem.Challenge.pw_foretask_k03_whole_texts_are_covered.main.body.getD i (.Pass ⟨0, 0, 0, 0⟩)
abbrev sTFinit : Stmt := inClass (top 6) 0
abbrev sRdInit : Stmt := inClass (top 14) 0
abbrev sSign : Stmt := inClass (top 14) 1
abbrev sMove : Stmt := inClass (top 14) 2
abbrev sAhead : Stmt := inClass (top 14) 3
abbrev sIsWord : Stmt := top 15
abbrev sRow : Stmt := top 16
abbrev sSkip : Stmt := top 17
abbrev sName : Stmt := top 18
abbrev sNum : Stmt := top 19
abbrev sText : Stmt := top 20
abbrev sSgn : Stmt := top 21
abbrev sTok : Stmt := top 22
abbrev sToks : Stmt := top 23
abbrev FnP (K : PySem.W.Frag) (x qual : Str) (st : Stmt) (f : Addr) (fd : FuncData) : Prop := FunD K x qual (defArgs st) (defBody st) (defScope st) [] [] f fd

/-! ### a reader's fields -/
theorem k_tl : ¬ (("text" : Str) = "line") := by decide +kernel
theorem k_ta : ¬ (("text" : Str) = "at") := by decide +kernel
theorem k_tc : ¬ (("text" : Str) = "column") := by decide +kernel
theorem k_al : ¬ (("at" : Str) = "line") := by decide +kernel
theorem k_ac : ¬ (("at" : Str) = "column") := by decide +kernel
theorem k_lc : ¬ (("line" : Str) = "column") := by decide +kernel
def fld4 (z : Str) (a l c : Int) : List (Str × V) := [("text", V.str z), ("at", V.int a), ("line", V.int l), ("column", V.int c)]
theorem putF_hit {f : Str} {v u : V} {r : List (Str × V)} : putF f v ((f, u) :: r) = (f, v) :: r := by
  show (if f = f then (f, v) :: r else (f, u) :: putF f v r) = _
  rw [if_pos rfl]
theorem putF_miss {f g : Str} {v u : V} {r : List (Str × V)} (h : ¬ g = f) : putF f v ((g, u) :: r) = (g, u) :: putF f v r := by
  show (if g = f then (g, v) :: r else (g, u) :: putF f v r) = _
  rw [if_neg h]
theorem putF_nil {f : Str} {v : V} : putF f v [] = [(f, v)] := rfl
theorem lk_hit {f : Str} {u : V} {r : List (Str × V)} : List.lookup f ((f, u) :: r) = some u := by simp [List.lookup]
theorem lk_miss {f g : Str} {u : V} {r : List (Str × V)} (h : ¬ f = g) : List.lookup f ((g, u) :: r) = List.lookup f r := by
  have e : (f == g) = false := by simpa using h
  simp [List.lookup, e]
section
variable (z : Str) (a l c x : Int)
theorem fld_text : (fld4 z a l c).lookup ("text" : Str) = some (.str z) := lk_hit
theorem fld_at : (fld4 z a l c).lookup ("at" : Str) = some (.int a) := (lk_miss fun e => k_ta e.symm).trans lk_hit
theorem fld_line : (fld4 z a l c).lookup ("line" : Str) = some (.int l) := (lk_miss fun e => k_tl e.symm).trans ((lk_miss fun e => k_al e.symm).trans lk_hit)
theorem fld_col : (fld4 z a l c).lookup ("column" : Str) = some (.int c) := (lk_miss fun e => k_tc e.symm).trans ((lk_miss fun e => k_ac e.symm).trans ((lk_miss fun e => k_lc e.symm).trans lk_hit))
theorem fld_no {m : Str} (h1 : ¬ m = "text") (h2 : ¬ m = "at") (h3 : ¬ m = "line") (h4 : ¬ m = "column") : (fld4 z a l c).lookup m = none :=
  (lk_miss h1).trans ((lk_miss h2).trans ((lk_miss h3).trans ((lk_miss h4).trans rfl)))
theorem put_at : putF "at" (.int x) (fld4 z a l c) = fld4 z x l c := (putF_miss k_ta).trans (congrArg _ putF_hit)
theorem put_line : putF "line" (.int x) (fld4 z a l c) = fld4 z a x c := (putF_miss k_tl).trans (congrArg _ ((putF_miss k_al).trans (congrArg _ putF_hit)))
theorem put_col : putF "column" (.int x) (fld4 z a l c) = fld4 z a l x := (putF_miss k_tc).trans (congrArg _ ((putF_miss k_ac).trans (congrArg _ ((putF_miss k_lc).trans (congrArg _ putF_hit)))))
theorem fld_len : (fld4 z a l c).length < 1000 := by show 4 < 1000; decide
end
/-- line and column of place n, from 1 -/
def lin (t : List Nat) (n : Nat) : Int := ((posR t n).1 : Int) + 1
def col (t : List Nat) (n : Nat) : Int := ((posR t n).2 : Int) + 1
/-- the fields of a reader of t at place n -/
def flds (t : List Nat) (n : Nat) : List (Str × V) := fld4 (S t) (n : Int) (lin t n) (col t n)
theorem upd_id {H : Hp} {p : Addr} {o : HO} (h : H p = some o) : upd H p o = H := by
  funext b
  by_cases e : b = p
  · rw [e, upd_same, h]
  · rw [upd_ne e]
/-- the sign at place n, the empty text behind the end -/
def sg (t : List Nat) (n : Nat) : Str := S ((t.drop n).take 1)

/-! ### slices of texts -/
theorem sIx_nat' (n d k : Nat) : HT.sIx n d (some (k : Int)) = min k n := HT.sIx_nat n d k
theorem cut_nat (t : List Nat) (a b : Nat) : cutS (S t) (some (a : Int)) (some (b : Int)) = S ((t.drop a).take (b - a)) := by
  refine TL.ext_tl ?_
  show ((S t).cps.toList.drop (HT.sIx (S t).length 0 (some (a : Int)))).take (HT.sIx (S t).length (S t).length (some (b : Int)) - HT.sIx (S t).length 0 (some (a : Int))) = (t.drop a).take (b - a)
  rw [sIx_nat', sIx_nat', S_len]
  show (t.drop (min a t.length)).take (min b t.length - min a t.length) = _
  by_cases h : a ≤ t.length
  · rw [Nat.min_eq_left h]
    by_cases h2 : b ≤ t.length
    · rw [Nat.min_eq_left h2]
    · rw [Nat.min_eq_right (by omega), List.take_of_length_le (by rw [List.length_drop]; omega), List.take_of_length_le (by rw [List.length_drop]; omega)]
  · rw [Nat.min_eq_right (show t.length ≤ a by omega), List.drop_of_length_le (Nat.le_refl _), List.drop_of_length_le (show t.length ≤ a by omega)]
    simp
theorem le_line {n : Nat} (h : n ≤ 100000) : n ≤ sizeLine := by rw [sizeLine_eq]; omega
theorem lt_line {n : Nat} (h : n ≤ 100000) : n < sizeLine := by rw [sizeLine_eq]; omega

/-! ### what the top has written of Reader -/
structure RdT (K : PySem.W.Frag) (mg : Str → Option Value) (C : Addr) : Prop where
  cl : Cls K C
  nT : NoAttr K C "text"
  nA : NoAttr K C "at"
  nL : NoAttr K C "line"
  nC : NoAttr K C "column"
  mgC : mg "Reader" = some (.ref C)

section
variable {c : Bool} {P : Program} {w : World} {K : PySem.W.Frag} {mg : Str → Option Value} {base : Heap}
abbrev CXN (P : Program) (w : World) : CXT := L2N.CX P w
theorem takesG {c : Bool} {pn : List (Addr × Obj)} {N : List Str} {qual : Str} {scope : Scope} {f : Addr} {cd : Value} {A : Around} {outer : List Env} {s : Shared} {H : Hp} {E : XK} :
    L2N.Takes (cxG c pn (CXN P w) P w K mg base N qual scope f cd A outer s H E) (fun cls d _ H => E cls d H) := L2N.takes_of rfl rfl rfl rfl
theorem passG {c : Bool} {pn : List (Addr × Obj)} {N : List Str} {qual : Str} {scope : Scope} {f : Addr} {cd : Value} {A : Around} {outer : List Env} {s : Shared} {H : Hp} {E : XK} :
    Passes (CXN P w) (cxG c pn (CXN P w) P w K mg base N qual scope f cd A outer s H E) E := fun pins σ H s e s' I h => L2N.passes_call takesG (fun _ _ _ _ h => h) pins σ H s e s' I h

/-! ### Reader(text) -/
def spRdInit (C : Addr) : Sp := fun vs H Q _ => ∃ (p dx : Addr) (t : List Nat), vs = [.ref p, .str (S t)] ∧ H p = some (.ins C dx []) ∧ Q .non (upd H p (.ins C dx (flds t 0)))
theorem scRdInit : FnScope ["self", "text"] ["self", "text"] (defScope sRdInit) := ⟨rfl, rfl, rfl, by decide +kernel, rfl, by decide +kernel, by decide +kernel⟩
theorem fld_made (z : Str) : putF "column" (.int 1) (putF "line" (.int 1) (putF "at" (.int 0) (putF "text" (.str z) []))) = fld4 z 0 1 1 := by
  rw [putF_nil, putF_miss k_ta, putF_nil, putF_miss k_tl, putF_miss k_al, putF_nil, putF_miss k_tc, putF_miss k_ac, putF_miss k_lc, putF_nil]
  rfl
theorem flds0 (t : List Nat) : flds t 0 = fld4 (S t) 0 1 1 := by
  unfold flds lin col
  rw [posR_zero]
  rfl
theorem ok_rdInit {f C : Addr} {fd : FuncData} (F : FnP K "__init__" "Reader.__init__" sRdInit f fd) (T : RdT K mg C) : FnG c P w K mg base (CXN P w) 1 f fd ["self", "text"] (spRdInit C) := by
  refine okG F scRdInit (fun vs H Q E h => ?_) (fun cdv A outer s H vs Q E pn ct h => ?_)
  · obtain ⟨p, dx, t, rfl, _⟩ := h
    rfl
  · obtain ⟨p, dx, t, rfl, hp, k⟩ := h
    refine ⟨_, pss_cons (ps_fld (pv 0) (pv 1) rfl) (pss_cons (ps_fld (pv 0) pe_int rfl) (pss_cons (ps_fld (pv 0) pe_int rfl) (pss_one (ps_fld (pv 0) pe_int rfl)))), ?_⟩
    refine ⟨_, rfl, _, rfl, p, C, dx, _, rfl, hp, T.cl, T.nT, (by show 0 < 1000; decide), _, rfl, p, C, dx, _, rfl, upd_same, T.cl, T.nA, (by show 1 < 1000; decide), _, rfl, p, C, dx, _, rfl, upd_same, T.cl, T.nL, ?_, ?_⟩
    · rw [putF_nil, putF_miss k_ta, putF_nil]; show 2 < 1000; decide
    refine ⟨_, rfl, p, C, dx, _, rfl, upd_same, T.cl, T.nC, ?_, ?_⟩
    · rw [putF_nil, putF_miss k_ta, putF_nil, putF_miss k_tl, putF_miss k_al, putF_nil]; show 3 < 1000; decide
    rw [upd_upd, upd_upd, upd_upd, fld_made, ← flds0]
    exact k

/-! ### reader.sign(ahead) -/
def spSign (C : Addr) : Sp := fun vs H Q _ => ∃ (p dx : Addr) (t : List Nat) (n k : Nat), vs = [.ref p, .int (k : Int)] ∧ H p = some (.ins C dx (flds t n)) ∧ t.length ≤ 8000 ∧ Q (.str (sg t (n + k))) H
theorem scSign : FnScope ["self", "ahead"] ["self", "ahead"] (defScope sSign) := ⟨rfl, rfl, rfl, by decide +kernel, rfl, by decide +kernel, by decide +kernel⟩
abbrev FnS (K : PySem.W.Frag) (f : Addr) (fd : FuncData) : Prop := FunD K "sign" "Reader.sign" (defArgs sSign) (defBody sSign) (defScope sSign) [V.int 0] [] f fd
theorem ok_sign {f C : Addr} {fd : FuncData} (F : FnS K f fd) (T : RdT K mg C) : FnG c P w K mg base (CXN P w) 1 f fd ["self", "ahead"] (spSign C) := by
  refine okG F scSign (fun vs H Q E h => ?_) (fun cdv A outer s H vs Q E pn ct h => ?_)
  · obtain ⟨p, dx, t, n, k, rfl, _⟩ := h
    rfl
  · obtain ⟨p, dx, t, n, k, rfl, hp, ht, q⟩ := h
    refine ⟨_, pss_one (ps_ret (pe_slice sl_str (pe_fld (pv 0) rfl) (po_some (pe_op op_add (pe_fld (pv 0) rfl) (pv 1))) (po_some (pe_op op_add (pe_op op_add (pe_fld (pv 0) rfl) (pv 1)) pe_int)))), ?_⟩
    refine ⟨_, rfl, p, C, dx, _, _, rfl, hp, T.cl, T.nT, fld_text _ _ _ _, ?_⟩
    refine ⟨_, rfl, p, C, dx, _, _, rfl, hp, T.cl, T.nA, fld_at _ _ _ _, _, rfl, _, _, rfl, rfl, _, rfl, ?_⟩
    refine ⟨_, rfl, p, C, dx, _, _, rfl, hp, T.cl, T.nA, fld_at _ _ _ _, _, rfl, _, _, rfl, rfl, _, _, rfl, rfl, _, rfl, ?_⟩
    refine ⟨_, rfl, (by rw [S_len]; exact le_line (by omega)), ?_⟩
    have e : cutS (S t) (some ((n : Int) + (k : Int))) (some ((n : Int) + (k : Int) + 1)) = sg t (n + k) := by
      rw [show (n : Int) + (k : Int) = ((n + k : Nat) : Int) by omega, show ((n + k : Nat) : Int) + 1 = ((n + k + 1 : Nat) : Int) by omega, cut_nat, show n + k + 1 - (n + k) = 1 by omega]
      rfl
    rw [e]
    exact q
theorem binds_sign1 {f : Addr} {fd : FuncData} (F : FnS K f fd) : Binds K fd ["self", "ahead"] [] := by
  obtain ⟨ds, hv, hb⟩ := F.binds1 (ps := ["self", "ahead"]) 2 1 (by simp) rfl (fun T kV doc pm an cdv ct us its hl hi => by
    match us, hl with
    | [_, _], _ => exact ⟨_, rfl, match its, hi with | [_], _ => rfl⟩)
  cases hv
  exact hb
theorem binds_sign0 {f : Addr} {fd : FuncData} (F : FnS K f fd) : ∃ ds, Vals [V.int 0] ds ∧ Binds K fd ["self", "ahead"] ds :=
  F.binds1 (ps := ["self", "ahead"]) 1 0 (by simp) rfl (fun T kV doc pm an cdv ct us its hl hi => by
    match us, hl with
    | [_], _ => exact ⟨_, rfl, match its, hi with | [_], _ => rfl⟩)

/-! ### reader.fault_ahead(ahead, reason) -/
def spAhead (C : Addr) : Sp := fun vs H Q _ => ∃ (p dx : Addr) (t : List Nat) (n k : Nat) (z : Str), vs = [.ref p, .int (k : Int), .str z] ∧ H p = some (.ins C dx (flds t n)) ∧
  ∀ a, H a = none → Q (.ref a) (upd H a (.tup [.int (lin t n), .int (col t n + (k : Int)), .str z]))
theorem scAhead : FnScope ["self", "ahead", "reason"] ["self", "ahead", "reason"] (defScope sAhead) := ⟨rfl, rfl, rfl, by decide +kernel, rfl, by decide +kernel, by decide +kernel⟩
theorem ok_ahead {f C : Addr} {fd : FuncData} (F : FnP K "fault_ahead" "Reader.fault_ahead" sAhead f fd) (T : RdT K mg C) : FnG c P w K mg base (CXN P w) 1 f fd ["self", "ahead", "reason"] (spAhead C) := by
  refine okG F scAhead (fun vs H Q E h => ?_) (fun cdv A outer s H vs Q E pn ct h => ?_)
  · obtain ⟨p, dx, t, n, k, z, rfl, _⟩ := h
    rfl
  · obtain ⟨p, dx, t, n, k, z, rfl, hp, q⟩ := h
    refine ⟨_, pss_one (ps_ret (pe_tup (pa_cons (pe_fld (pv 0) rfl) (pa_cons (pe_op op_add (pe_fld (pv 0) rfl) (pv 1)) (pa_cons (pv 2) pa_nil))))), ?_⟩
    refine ⟨_, rfl, p, C, dx, _, _, rfl, hp, T.cl, T.nL, fld_line _ _ _ _, _, rfl, p, C, dx, _, _, rfl, hp, T.cl, T.nC, fld_col _ _ _ _, _, rfl, _, _, rfl, rfl, _, rfl, (by show 3 ≤ sizeLine; decide), ?_⟩
    exact q
end
end FkW

namespace FkW
open PySem PySem.Spec PyProof.Rows L2 FkG SX
open Fk (posR posR_zero isWord isDig blen)
/-! ### written texts -/
theorem c_nil : Str.ofString "" = S [] := by decide +kernel
theorem c_nl : Str.ofString "\n" = S [10] := by decide +kernel
theorem c_sp : Str.ofString " " = S [32] := by decide +kernel
theorem c_hash : Str.ofString "#" = S [35] := by decide +kernel
theorem c_q : Str.ofString "\"" = S [34] := by decide +kernel
theorem c_bs : Str.ofString "\\" = S [92] := by decide +kernel
theorem c_us : Str.ofString "_" = S [95] := by decide +kernel
theorem vstr (a b : List Nat) : decide (V.str (S a) = V.str (S b)) = decide (a = b) := by
  by_cases h : a = b
  · rw [h]; simp
  · have : ¬ V.str (S a) = V.str (S b) := fun e => h (S_inj (V.str.inj e))
    rw [decide_eq_false h, decide_eq_false this]
theorem inV_str (z : List Nat) (ws : List (List Nat)) : inV (.str (S z)) (ws.map fun w => V.str (S w)) = decide (z ∈ ws) := by
  induction ws with
  | nil => simp [inV]
  | cons w ws ih =>
    have e : inV (.str (S z)) ((w :: ws).map fun w => V.str (S w)) = ((S w == S z) || inV (.str (S z)) (ws.map fun w => V.str (S w))) := rfl
    rw [e, ih, S_beq_eq]
    by_cases h : w = z
    · subst h; simp
    · have h' : ¬ z = w := fun q => h q.symm
      simp [h, h']
theorem sg_cases (t : List Nat) (n : Nat) : (t.drop n = [] ∧ sg t n = S []) ∨ ∃ c r, t.drop n = c :: r ∧ sg t n = S [c] := by
  cases h : t.drop n with
  | nil => exact .inl ⟨rfl, by unfold sg; rw [h]; rfl⟩
  | cons c r => exact .inr ⟨c, r, rfl, by unfold sg; rw [h]; rfl⟩
theorem sg_nil {t : List Nat} {n : Nat} (h : t.drop n = []) : sg t n = S [] := by unfold sg; rw [h]; rfl
theorem sg_cons {t : List Nat} {n c : Nat} {r : List Nat} (h : t.drop n = c :: r) : sg t n = S [c] := by unfold sg; rw [h]; rfl
theorem ifd {c A B : Prop} [Decidable c] (h1 : c → A) (h2 : ¬ c → B) : if decide c = true then A else B := by
  by_cases h : c
  · rw [if_pos (decide_eq_true h)]; exact h1 h
  · rw [if_neg (by simp [h])]; exact h2 h
theorem ifnd {c A B : Prop} [Decidable c] (h1 : ¬ c → A) (h2 : c → B) : if (!decide c) = true then A else B := by
  by_cases h : c
  · rw [if_neg (by simp [h])]; exact h2 h
  · rw [if_pos (by simp [h])]; exact h1 h
theorem ift {b : Bool} {A B : Prop} (hb : b = true) (h : A) : if b = true then A else B := by rw [if_pos hb]; exact h
theorem iff' {b : Bool} {A B : Prop} (hb : b = false) (h : B) : if b = true then A else B := by rw [hb, if_neg Bool.false_ne_true]; exact h

/-- all but p stands -/
def KeepBut (p : Addr) (H H' : Hp) : Prop := ∀ b o, b ≠ p → H b = some o → H' b = some o
theorem KeepBut.refl (p : Addr) (H : Hp) : KeepBut p H H := fun _ _ _ e => e
theorem KeepBut.trans {p : Addr} {H H1 H2 : Hp} (a : KeepBut p H H1) (b : KeepBut p H1 H2) : KeepBut p H H2 := fun c o n e => b c o n (a c o n e)
theorem KeepBut.upd {p : Addr} {H H1 : Hp} {o : HO} (a : KeepBut p H H1) : KeepBut p H (upd H1 p o) := fun c u n e => by rw [upd_ne n]; exact a c u n e
theorem KeepBut.new {p q : Addr} {H H1 : Hp} {o : HO} (a : KeepBut p H H1) (h : H1 q = none) : KeepBut p H (L2.upd H1 q o) := fun c u n e => by
  have := a c u n e
  rw [upd_ne (ne_of_none this h)]; exact this

/-- what else the walk of the reader's defs knows -/
structure GlT (mg : Str → Option Value) : Prop where
  let_ : ∃ u, mg "LETTERS" = some u ∧ RelV (.str (S Fk.LET)) u
  dig : ∃ u, mg "DIGITS" = some u ∧ RelV (.str (S Fk.DIG)) u
  short : ∃ u, mg "SHORT_SIGNS" = some u ∧ RelV (.str (S Fk.SHORT)) u
  mChar : ∃ u, mg "MOST_CHARACTERS" = some u ∧ RelV (.int 8000) u
  mName : ∃ u, mg "MOST_NAME" = some u ∧ RelV (.int 20) u
  mDig : ∃ u, mg "MOST_DIGITS" = some u ∧ RelV (.int 60) u
  mLit : ∃ u, mg "MOST_LITERAL" = some u ∧ RelV (.int 100) u
  len : mg "len" = none
  int : mg "int" = none
  tuple : mg "tuple" = none

section
variable {c : Bool} {P : Program} {w : World} {K : PySem.W.Frag} {mg : Str → Option Value} {base : Heap}
theorem ownG {c : Bool} {pn : List (Addr × Obj)} {N : List Str} {qual : Str} {scope : Scope} {f : Addr} {cd : Value} {A : Around} {outer : List Env} {s : Shared} {H : Hp} {E : XK} :
    PassesOwn (model P w) (cxG c pn (CXN P w) P w K mg base N qual scope f cd A outer s H E).A (cxG c pn (CXN P w) P w K mg base N qual scope f cd A outer s H E).env (cxG c pn (CXN P w) P w K mg base N qual scope f cd A outer s H E).xe :=
  L2.passes_of (X := cxG c pn (CXN P w) P w K mg base N qual scope f cd A outer s H E) rfl

/-! ### reader.move(count) -/
def spMove (C : Addr) : Sp := fun vs H Q _ => ∃ (p dx : Addr) (t : List Nat) (n k : Nat), vs = [.ref p, .int (k : Int)] ∧ H p = some (.ins C dx (flds t n)) ∧ n + k ≤ t.length ∧ t.length ≤ 8000 ∧ Q .non (upd H p (.ins C dx (flds t (n + k))))
theorem scMove : FnScope ["self", "count", "character"] ["self", "count"] (defScope sMove) := ⟨rfl, rfl, rfl, by decide +kernel, rfl, by decide +kernel, by decide +kernel⟩
theorem take_more {l : List Nat} {i x : Nat} (h : l[i]? = some x) : l.take (i + 1) = l.take i ++ [x] := by
  rw [List.take_add_one, h]; rfl
theorem ok_move {f C : Addr} {fd : FuncData} (F : FnP K "move" "Reader.move" sMove f fd) (T : RdT K mg C) : FnG c P w K mg base (CXN P w) 1 f fd ["self", "count"] (spMove C) := by
  refine okG F scMove (fun vs H Q E h => ?_) (fun cdv A outer s H vs Q E pn ct h => ?_)
  · obtain ⟨p, dx, t, n, k, rfl, _⟩ := h
    rfl
  · obtain ⟨p, dx, t, n, k, rfl, hp, hk, ht, q⟩ := h
    refine ⟨_, pss_cons (ps_forStrG ct ownG (pe_slice sl_str (pe_fld (pv 0) rfl) (po_some (pe_fld (pv 0) rfl)) (po_some (pe_op op_add (pe_fld (pv 0) rfl) (pv 1)))) (pg_name (i := 2) scMove.nd rfl (.inl rfl))
      (pss_one (ps_if (pt_cmpR op_eq (pv 2) pe_str (nomark _)) (pss_cons (ps_fldaug (pv 0) pe_int in_add) (pss_one (ps_fld (pv 0) pe_int rfl))) (pss_one (ps_fldaug (pv 0) pe_int in_add)))))
      (pss_one (ps_fldaug (pv 0) (pv 1) in_add)), ?_⟩
    have e : cutS (S t) (some (n : Int)) (some ((n : Int) + (k : Int))) = S ((t.drop n).take k) := by
      rw [show (n : Int) + (k : Int) = ((n + k : Nat) : Int) by omega, cut_nat, show n + k - n = k by omega]
    refine ⟨_, rfl, p, C, dx, _, _, rfl, hp, T.cl, T.nT, fld_text _ _ _ _, _, rfl, p, C, dx, _, _, rfl, hp, T.cl, T.nA, fld_at _ _ _ _, _, rfl, ?_⟩
    refine ⟨_, rfl, p, C, dx, _, _, rfl, hp, T.cl, T.nA, fld_at _ _ _ _, _, rfl, _, _, rfl, rfl, _, rfl, _, rfl, (by rw [S_len]; exact le_line (by omega)), _, rfl, ?_⟩
    rw [e]
    have hlen : ((t.drop n).take k).length = k := by rw [List.length_take, List.length_drop]; omega
    -- line and column behind i signs
    refine for_str (fun i σ H' => ∃ v : Option V, σ = [some (.ref p), some (.int (k : Int)), v] ∧ H' = upd H p (.ins C dx (fld4 (S t) (n : Int) (((((t.drop n).take k).take i).foldl Fk.step (posR t n)).1 + 1) (((((t.drop n).take k).take i).foldl Fk.step (posR t n)).2 + 1))))
      ⟨none, rfl, (upd_id hp).symm⟩ ?_ ?_
    · rintro i d σ H' hi ⟨v, rfl, rfl⟩
      have em := take_more (l := (t.drop n).take k) (i := i) (x := d) hi
      have ep := congrArg (fun l => l.foldl Fk.step (posR t n)) em
      simp only [List.foldl_append, List.foldl_cons, List.foldl_nil] at ep
      generalize ((((t.drop n).take k).take i).foldl Fk.step (posR t n)) = st at ep ⊢
      refine ⟨_, rfl, rfl, _, rfl, ?_⟩
      have e1 : decide (V.str ⟨#[d]⟩ = V.str (Str.ofString "\n")) = decide (d = 10) := by
        rw [c_nl]
        refine (vstr [d] [10]).trans ?_
        by_cases h : d = 10 <;> simp [h]
      rw [e1]
      refine ifd (fun hd => ?_) (fun hd => ?_)
      · subst hd
        refine ⟨_, rfl, p, C, dx, _, _, rfl, upd_same, T.cl, T.nL, fld_line _ _ _ _, _, _, rfl, rfl, dx, _, upd_same, fld_len _ _ _ _, ?_⟩
        refine ⟨_, rfl, p, C, dx, _, rfl, upd_same, T.cl, T.nC, ?_, ?_⟩
        · rw [put_line]; exact fld_len _ _ _ _
        · refine ⟨_, rfl, ?_⟩
          rw [upd_upd, upd_upd, put_line, put_col, ep]
          simp [Fk.step]
      · refine ⟨_, rfl, p, C, dx, _, _, rfl, upd_same, T.cl, T.nC, fld_col _ _ _ _, _, _, rfl, rfl, dx, _, upd_same, fld_len _ _ _ _, ?_⟩
        refine ⟨_, rfl, ?_⟩
        rw [upd_upd, put_col, ep]
        simp [Fk.step, hd]
    · rintro σ H' ⟨v, rfl, rfl⟩
      refine ⟨_, rfl, p, C, dx, _, _, rfl, upd_same, T.cl, T.nA, fld_at _ _ _ _, _, rfl, _, _, rfl, rfl, dx, _, upd_same, fld_len _ _ _ _, ?_⟩
      have e2 : ((S ((t.drop n).take k)).cps.toList.length) = k := hlen
      rw [upd_upd, put_at, e2, List.take_of_length_le (by omega), Fk.foldl_pos t n k hk]
      have e3 : fld4 (S t) ((n : Int) + (k : Int)) (((posR t (n + k)).1 : Int) + 1) (((posR t (n + k)).2 : Int) + 1) = flds t (n + k) := by
        unfold flds lin col
        rw [show (n : Int) + (k : Int) = ((n + k : Nat) : Int) by omega]
      rw [e3]
      exact q
end
end FkW

namespace FkW
open PySem PySem.Spec PyProof.Rows L2 FkG SX
open Fk (posR posR_zero isWord isDig blen dlen wlen)
/-! ### a def, a method, a class by their promises, in both contexts -/
structure CalG (c : Bool) (P : Program) (w : World) (K : PySem.W.Frag) (mg : Str → Option Value) (base : Heap) (k : Nat) (x : Str) (sp : L2.Sp) (dvs : List V) : Prop where
  ex : ∃ (f : Addr) (fd : FuncData) (ps : List Str) (ds : List Value), FnG c P w K mg base (CXN P w) k f fd ps sp ∧ mg x = some (.ref f) ∧ PySem.W.keepIn K (.ref f) = true ∧ Binds K fd ps ds ∧ Vals dvs ds
structure MetG (c : Bool) (P : Program) (w : World) (K : PySem.W.Frag) (mg : Str → Option Value) (base : Heap) (k : Nat) (C : Addr) (m : Str) (sp : L2.Sp) (dvs : List V) : Prop where
  ex : ∃ (f : Addr) (fd : FuncData) (ps : List Str) (ds : List Value), Cls K C ∧ Meth K C m f ∧ FnG c P w K mg base (CXN P w) k f fd ps sp ∧ Binds K fd ps ds ∧ Vals dvs ds
structure MakG (c : Bool) (P : Program) (w : World) (K : PySem.W.Frag) (mg : Str → Option Value) (base : Heap) (k : Nat) (x : Str) (C : Addr) (sp : L2.Sp) : Prop where
  ex : ∃ (f : Addr) (fd : FuncData) (ps : List Str), Mk K C f ∧ FnG c P w K mg base (CXN P w) k f fd ps sp ∧ mg x = some (.ref C) ∧ Binds K fd ps []
section
variable {c : Bool} {X : Cx} {k j : Nat} {C : Addr} {x m : Str} {sp : L2.Sp} {dvs : List V} {E : XK} {p pos apos : Pos} {e o : Expr} {es : List Expr} {ta : TE} {t : TA}
theorem pe_cG (d : CalG c X.prog X.w X.K X.mg X.base k x sp dvs) (hr : CtG c j X) (hx : Passes (CXN X.prog X.w) X E) (hk : k ≤ j) (hg : Gl X x) (ha : PA X (e :: es) t)
    (hdb : (x == ("__debug__" : Str)) = false := by decide) (he : starEach (e :: es) X.env = (false, eval e X.env) :: starEach es X.env := by rfl) (hpl : (backTo pos (starEach es X.env)).any (·.1) = false := by rfl) :
    PE X (.Call (.Name x p) (e :: es) [] pos) (tCall sp dvs E t) := by
  obtain ⟨f, fd, ps, ds, F, hm, kp, b, d⟩ := d.ex
  exact pe_callG F (hr.mono hk) hg hm kp b d hx ha hdb he hpl
theorem pe_mG {pl : Sem Bool} (d : MetG c X.prog X.w X.K X.mg X.base k C m sp dvs) (hr : CtG c j X) (hx : Passes (CXN X.prog X.w) X E) (hk : k ≤ j) (he : PE X o ta) (ha : PA X (e :: es) t)
    (hst : starEach (e :: es) X.env = (false, eval e X.env) :: starEach es X.env := by rfl) (hpl : (backTo pos (starEach es X.env)).any (·.1) = false := by rfl)
    (ht : eval (.Call (.Attribute o m apos) (e :: es) [] pos) X.env = (do
      let ov ← eval o X.env
      standAt apos.atName
      let (f, first) ← holding [ov] (getMethod ov m pl)
      callWith pos f first (backTo pos (starEach (e :: es) X.env)) (backToKw pos (keywordEach [] X.env))) := by rfl) :
    PE X (.Call (.Attribute o m apos) (e :: es) [] pos) (tMeth C m sp dvs E ta t) := by
  obtain ⟨f, fd, ps, ds, hc, hm, F, b, d⟩ := d.ex
  exact pe_methG (pl := pl) he hc hm F (hr.mono hk) b d hx ha hst hpl ht
theorem pe_m0G {pl : Sem Bool} (d : MetG c X.prog X.w X.K X.mg X.base k C m sp dvs) (hr : CtG c j X) (hx : Passes (CXN X.prog X.w) X E) (hk : k ≤ j) (he : PE X o ta)
    (ht : eval (.Call (.Attribute o m apos) [] [] pos) X.env = (do
      let ov ← eval o X.env
      standAt apos.atName
      let (f, first) ← holding [ov] (getMethod ov m pl)
      callWith pos f first (backTo pos (starEach [] X.env)) (backToKw pos (keywordEach [] X.env))) := by rfl) :
    PE X (.Call (.Attribute o m apos) [] [] pos) (tMeth C m sp dvs E ta tNil) := by
  obtain ⟨f, fd, ps, ds, hc, hm, F, b, d⟩ := d.ex
  exact pe_methG0 (pl := pl) he hc hm F (hr.mono hk) b d hx ht
theorem pe_mkG (d : MakG c X.prog X.w X.K X.mg X.base k x C sp) (hr : CtG c j X) (hx : Passes (CXN X.prog X.w) X E) (hk : k + 1 ≤ j) (hg : Gl X x) (ha : PA X (e :: es) t)
    (hdb : (x == ("__debug__" : Str)) = false := by decide) (he : starEach (e :: es) X.env = (false, eval e X.env) :: starEach es X.env := by rfl) (hpl : (backTo pos (starEach es X.env)).any (·.1) = false := by rfl) :
    PE X (.Call (.Name x p) (e :: es) [] pos) (tMake C sp [] E t) := by
  obtain ⟨f, fd, ps, M, F, hm, b⟩ := d.ex
  exact pe_makeG M F (hr.mono hk) hg hm b .nil hx ha hdb he hpl
end
/-! ### a sign of a reader in slot i -/
theorem rd_sign {C p dx : Addr} {t : List Nat} {n k i : Nat} {σ : L2.St} {H : Hp} {Q : VK} {E : XK} {dvs : List V} {ta : TA} (hσ : σ[i]? = some (some (.ref p))) (hp : H p = some (.ins C dx (flds t n))) (ht : t.length ≤ 8000)
    (ha : ta = tNil ∧ dvs = [.int (k : Int)] ∨ dvs = [] ∧ ∃ te, ta = tCons te tNil ∧ ∀ R : VK, R (.int (k : Int)) H → te σ H R) (q : Q (.str (sg t (n + k))) H) :
    tMeth C "sign" (spSign C) dvs E (tVar i) ta σ H Q := by
  refine ⟨_, hσ, p, dx, _, rfl, hp, fld_no _ _ _ _ (by decide +kernel) (by decide +kernel) (by decide +kernel) (by decide +kernel), ?_⟩
  rcases ha with ⟨rfl, rfl⟩ | ⟨rfl, te, rfl, h⟩
  · exact ⟨p, dx, t, n, k, rfl, hp, ht, q⟩
  · exact h _ ⟨p, dx, t, n, k, rfl, hp, ht, q⟩
/-- reader.sign() -/
theorem rd_sign0 {C p dx : Addr} {t : List Nat} {n i : Nat} {σ : L2.St} {H : Hp} {Q : VK} {E : XK} (hσ : σ[i]? = some (some (.ref p))) (hp : H p = some (.ins C dx (flds t n))) (ht : t.length ≤ 8000) (q : Q (.str (sg t n)) H) :
    tMeth C "sign" (spSign C) [.int 0] E (tVar i) tNil σ H Q := rd_sign (k := 0) hσ hp ht (.inl ⟨rfl, rfl⟩) q
/-- reader.sign(count), count in slot j -/
theorem rd_signV {C p dx : Addr} {t : List Nat} {n k i j : Nat} {σ : L2.St} {H : Hp} {Q : VK} {E : XK} (hσ : σ[i]? = some (some (.ref p))) (hj : σ[j]? = some (some (.int (k : Int)))) (hp : H p = some (.ins C dx (flds t n))) (ht : t.length ≤ 8000) (q : Q (.str (sg t (n + k))) H) :
    tMeth C "sign" (spSign C) [] E (tVar i) (tCons (tVar j) tNil) σ H Q := rd_sign hσ hp ht (.inr ⟨rfl, _, rfl, fun R h => ⟨_, hj, h⟩⟩) q

section
variable {c : Bool} {P : Program} {w : World} {K : PySem.W.Frag} {mg : Str → Option Value} {base : Heap}
/-- reader's methods, called -/
structure RdC (c : Bool) (P : Program) (w : World) (K : PySem.W.Frag) (mg : Str → Option Value) (base : Heap) (C : Addr) : Prop where
  t : RdT K mg C
  g : GlT mg
  s0 : MetG c P w K mg base 1 C "sign" (spSign C) [.int 0]
  s1 : MetG c P w K mg base 1 C "sign" (spSign C) []
  mv : MetG c P w K mg base 1 C "move" (spMove C) []
  ah : MetG c P w K mg base 1 C "fault_ahead" (spAhead C) []

/-! ### is_word_sign(sign) -/
def spIsWord : L2.Sp := fun vs H Q _ => ∃ (t : List Nat) (n : Nat), vs = [.str (sg t n)] ∧ Q (.bl ((t.drop n).head?.any isWord)) H
theorem scIsWord : FnScope ["sign"] ["sign"] (defScope sIsWord) := ⟨rfl, rfl, rfl, by decide +kernel, rfl, by decide +kernel, by decide +kernel⟩
theorem ok_isWord {f : Addr} {fd : FuncData} (F : FnP K "is_word_sign" "is_word_sign" sIsWord f fd) (T : GlT mg) : FnG c P w K mg base (CXN P w) 1 f fd ["sign"] spIsWord := by
  refine okG F scIsWord (fun vs H Q E h => ?_) (fun cdv A outer s H vs Q E pn ct h => ?_)
  · obtain ⟨t, n, rfl, _⟩ := h
    rfl
  · obtain ⟨t, n, rfl, q⟩ := h
    refine ⟨_, pss_one (ps_ret (pe_and (pe_cmpR op_ne (pv 0) pe_str (nomark _)) (pe_one (pe_or (pe_cmpR op_in_sign (pv 0) (C8.pe_gc rfl T.let_) rfl) (pe_or (pe_cmpR op_in_sign (pv 0) (C8.pe_gc rfl T.dig) rfl) (pe_one (pe_cmpR op_eq (pv 0) pe_str (nomark _)))))))), ?_⟩
    refine ⟨_, rfl, rfl, _, rfl, ?_⟩
    rw [c_nil]
    rcases sg_cases t n with ⟨e1, e2⟩ | ⟨d, r, e1, e2⟩
    · rw [e2, vstr]
      refine iff' (by simp) ?_
      rw [e1] at q
      exact q
    · rw [e2, vstr]
      refine ift (by simp) ?_
      refine ⟨_, rfl, d, _, rfl, rfl, _, rfl, ?_⟩
      rw [e1] at q
      have q' : Q (.bl (decide (d ∈ Fk.LET) || decide (d ∈ Fk.DIG) || decide (d = 95))) H := q
      refine ifd (fun h1 => ?_) (fun h1 => ?_)
      · have h1' : d ∈ Fk.LET := h1
        simpa [h1'] using q'
      · have h1' : ¬ d ∈ Fk.LET := h1
        refine ⟨_, rfl, d, _, rfl, rfl, _, rfl, ?_⟩
        refine ifd (fun h2 => ?_) (fun h2 => ?_)
        · have h2' : d ∈ Fk.DIG := h2
          simpa [h2'] using q'
        · have h2' : ¬ d ∈ Fk.DIG := h2
          refine ⟨_, rfl, rfl, ?_⟩
          rw [c_us, vstr]
          simpa [h1', h2'] using q'

/-! ### row_length(reader, DIGITS) -/
def spRow (C : Addr) : L2.Sp := fun vs H Q _ => ∃ (p dx : Addr) (t : List Nat) (n : Nat), vs = [.ref p, .str (S Fk.DIG)] ∧ H p = some (.ins C dx (flds t n)) ∧ t.length ≤ 8000 ∧ Q (.int (dlen (t.drop n) : Nat)) H
theorem scRow : FnScope ["reader", "allowed", "count"] ["reader", "allowed"] (defScope sRow) := ⟨rfl, rfl, rfl, by decide +kernel, rfl, by decide +kernel, by decide +kernel⟩
theorem ok_row {f C : Addr} {fd : FuncData} (F : FnP K "row_length" "row_length" sRow f fd) (R : RdC c P w K mg base C) : FnG c P w K mg base (CXN P w) 2 f fd ["reader", "allowed"] (spRow C) := by
  refine okG F scRow (fun vs H Q E h => ?_) (fun cdv A outer s H vs Q E pn ct h => ?_)
  · obtain ⟨p, dx, t, n, rfl, _⟩ := h
    rfl
  · obtain ⟨p, dx, t, n, rfl, hp, ht, q⟩ := h
    refine ⟨_, pss_cons (ps_set (i := 2) scRow.nd rfl (.inl rfl) pe_int) (pss_cons (ps_while ownG
        (PW.pt (pw_and (pt_cmpR op_ne (pe_mG R.s1 ct passG (Nat.le_refl _) (pv 0) (pa_cons (pv 2) pa_nil)) pe_str (nomark _)) (pw_and1 (pt_cmpR op_in_sign (pe_mG R.s1 ct passG (Nat.le_refl _) (pv 0) (pa_cons (pv 2) pa_nil)) (pv 1) rfl))))
        (pss_one (ps_aug (i := 2) scRow.nd rfl (.inl rfl) pe_int ip_add)))
      (pss_one (ps_ret (pv 2)))), ?_⟩
    -- k digits are counted
    refine ⟨fun m σ H' => ∃ k : Nat, σ = [some (.ref p), some (.str (S Fk.DIG)), some (.int (k : Int))] ∧ H' = H ∧ k ≤ dlen (t.drop n) ∧ m = dlen (t.drop n) - k, ⟨_, 0, rfl, rfl, Nat.zero_le _, rfl⟩, ?_⟩
    rintro m σ H' ⟨k, rfl, rfl, hk, rfl⟩
    refine rd_signV (k := k) rfl rfl hp ht ⟨rfl, _, rfl, ?_⟩
    have hat := Fk.tw_at (p := isDig) (t.drop n) k hk
    rw [List.drop_drop] at hat
    have fin : ¬ k < dlen (t.drop n) → ∃ v, ([some (.ref p), some (.str (S Fk.DIG)), some (.int (k : Int))] : L2.St)[2]? = some (some v) ∧ Q v H' := fun h => by
      have e : dlen (t.drop n) = k := by omega
      rw [e] at q
      exact ⟨_, rfl, q⟩
    rw [c_nil]
    rcases sg_cases t (n + k) with ⟨e1, e2⟩ | ⟨d, r, e1, e2⟩
    · rw [e2, vstr]
      refine iff' (by simp) (iteF ?_)
      rw [e1] at hat
      have hat' : decide (k < dlen (t.drop n)) = false := hat
      exact fin (by simpa using hat')
    · rw [e2, vstr]
      refine ift (by simp) (rd_signV (k := k) rfl rfl hp ht ⟨_, rfl, d, _, (by rw [e2]), rfl, _, rfl, ?_⟩)
      rw [e1] at hat
      have hat' : decide (k < dlen (t.drop n)) = decide (d ∈ Fk.DIG) := hat
      refine ifd (fun h1 => ?_) (fun h1 => ?_)
      · have h1' : d ∈ Fk.DIG := h1
        have hlt : k < dlen (t.drop n) := by simpa [h1'] using hat'
        refine ⟨fun σ' H'' => ∃ m', m' < dlen (t.drop n) - k ∧ ∃ k : Nat, σ' = [some (.ref p), some (.str (S Fk.DIG)), some (.int (k : Int))] ∧ H'' = H' ∧ k ≤ dlen (t.drop n) ∧ m' = dlen (t.drop n) - k, fun _ _ h => h, ?_⟩
        exact ⟨_, rfl, _, _, rfl, rfl, dlen (t.drop n) - (k + 1), by omega, k + 1, rfl, rfl, hlt, rfl⟩
      · have h1' : ¬ d ∈ Fk.DIG := h1
        exact fin (by simpa [h1'] using hat')
end
end FkW

namespace FkW
open PySem PySem.Spec PyProof.Rows L2 FkG SX
open Fk (posR posR_zero isWord isDig blen dlen wlen)
/-- reader.move(count) -/
theorem rd_moveV {C p dx : Addr} {t : List Nat} {n k i j : Nat} {σ : L2.St} {H : Hp} {Q : VK} {E : XK} (hσ : σ[i]? = some (some (.ref p))) (hj : σ[j]? = some (some (.int (k : Int)))) (hp : H p = some (.ins C dx (flds t n))) (hn : n + k ≤ t.length) (ht : t.length ≤ 8000)
    (q : Q .non (upd H p (.ins C dx (flds t (n + k))))) : tMeth C "move" (spMove C) [] E (tVar i) (tCons (tVar j) tNil) σ H Q := by
  refine ⟨_, hσ, p, dx, _, rfl, hp, fld_no _ _ _ _ (by decide +kernel) (by decide +kernel) (by decide +kernel) (by decide +kernel), _, hj, ?_⟩
  exact ⟨p, dx, t, n, k, rfl, hp, hn, ht, q⟩
/-- reader.move(1) -/
theorem rd_move1 {C p dx : Addr} {t : List Nat} {n i : Nat} {σ : L2.St} {H : Hp} {Q : VK} {E : XK} (hσ : σ[i]? = some (some (.ref p))) (hp : H p = some (.ins C dx (flds t n))) (hn : n + 1 ≤ t.length) (ht : t.length ≤ 8000)
    (q : Q .non (upd H p (.ins C dx (flds t (n + 1))))) : tMeth C "move" (spMove C) [] E (tVar i) (tCons (tC (.int 1)) tNil) σ H Q := by
  refine ⟨_, hσ, p, dx, _, rfl, hp, fld_no _ _ _ _ (by decide +kernel) (by decide +kernel) (by decide +kernel) (by decide +kernel), ?_⟩
  exact ⟨p, dx, t, n, 1, rfl, hp, hn, ht, q⟩
theorem in3 (z : List Nat) : inV (.str (S z)) [V.str (Str.ofString " "), V.str (Str.ofString "\n"), V.str (Str.ofString "#")] = decide (z ∈ [[32], [10], [35]]) := by
  rw [c_sp, c_nl, c_hash]
  exact inV_str z [[32], [10], [35]]
theorem in2 (z : List Nat) : inV (.str (S z)) [V.str (Str.ofString ""), V.str (Str.ofString "\n")] = decide (z ∈ [[], [10]]) := by
  rw [c_nil, c_nl]
  exact inV_str z [[], [10]]
section
variable {c : Bool} {P : Program} {w : World} {K : PySem.W.Frag} {mg : Str → Option Value} {base : Heap}
/-! ### skip_blanks(reader) -/
def spSkip (C : Addr) : L2.Sp := fun vs H Q _ => ∃ (p dx : Addr) (t : List Nat) (n : Nat), vs = [.ref p] ∧ H p = some (.ins C dx (flds t n)) ∧ n ≤ t.length ∧ t.length ≤ 8000 ∧
  ∀ H', KeepBut p H H' → H' p = some (.ins C dx (flds t (n + blen false (t.drop n)))) → Q .non H'
theorem scSkip : FnScope ["reader"] ["reader"] (defScope sSkip) := ⟨rfl, rfl, rfl, by decide +kernel, rfl, by decide +kernel, by decide +kernel⟩
theorem ok_skip {f C : Addr} {fd : FuncData} (F : FnP K "skip_blanks" "skip_blanks" sSkip f fd) (R : RdC c P w K mg base C) : FnG c P w K mg base (CXN P w) 2 f fd ["reader"] (spSkip C) := by
  refine okG F scSkip (fun vs H Q E h => ?_) (fun cdv A outer s H vs Q E pn ct h => ?_)
  · obtain ⟨p, dx, t, n, rfl, _⟩ := h
    rfl
  · obtain ⟨p, dx, t, n, rfl, hp, hn, ht, q⟩ := h
    refine ⟨_, pss_one (ps_while ownG (pt_cmpR op_in_seq (pe_m0G R.s0 ct passG (Nat.le_refl _) (pv 0)) (pe_tup (pa_cons pe_str (pa_cons pe_str (pa_cons pe_str pa_nil)))) rfl)
      (pss_one (ps_if (pt_cmpR op_eq (pe_m0G R.s0 ct passG (Nat.le_refl _) (pv 0)) pe_str (nomark _))
        (pss_one (ps_while ownG (pt_cmpR op_notIn_seq (pe_m0G R.s0 ct passG (Nat.le_refl _) (pv 0)) (pe_tup (pa_cons pe_str (pa_cons pe_str pa_nil))) rfl)
          (pss_one (ps_expr (pe_mG R.mv ct passG (Nat.le_refl _) (pv 0) (pa_cons pe_int pa_nil))))))
        (pss_one (ps_expr (pe_mG R.mv ct passG (Nat.le_refl _) (pv 0) (pa_cons pe_int pa_nil))))))), ?_⟩
    generalize hN : n + blen false (t.drop n) = N at q
    refine ⟨fun m σ H' => ∃ i : Nat, σ = [some (.ref p)] ∧ H' p = some (.ins C dx (flds t i)) ∧ KeepBut p H H' ∧ i + blen false (t.drop i) = N ∧ i ≤ t.length ∧ m = t.length - i, ⟨_, n, rfl, hp, KeepBut.refl _ _, hN, hn, rfl⟩, ?_⟩
    rintro m σ H1 ⟨i, rfl, h1, k1, hi, hil, rfl⟩
    refine rd_sign0 rfl h1 ht ⟨(by show 3 ≤ sizeLine; decide), fun a ha => ⟨a, _, rfl, .inr (SqT.of upd_same), rfl, rfl, _, rfl, ?_⟩⟩
    have h2 : (upd H1 a (.tup [V.str (Str.ofString " "), V.str (Str.ofString "\n"), V.str (Str.ofString "#")])) p = some (.ins C dx (flds t i)) := by rw [upd_ne (ne_of_none h1 ha)]; exact h1
    have k2 : KeepBut p H (upd H1 a (.tup [V.str (Str.ofString " "), V.str (Str.ofString "\n"), V.str (Str.ofString "#")])) := k1.new ha
    show if inV (.str (sg t i)) [V.str (Str.ofString " "), V.str (Str.ofString "\n"), V.str (Str.ofString "#")] = true then _ else _
    generalize upd H1 a (.tup [V.str (Str.ofString " "), V.str (Str.ofString "\n"), V.str (Str.ofString "#")]) = H2 at h2 k2
    have stop : blen false (t.drop i) = 0 → Q .non H2 := fun e => by
      rw [e] at hi
      subst hi
      exact q H2 k2 h2
    rcases sg_cases t i with ⟨e1, e2⟩ | ⟨d, r, e1, e2⟩
    · rw [e2, in3]
      refine iff' (by simp) ?_
      exact stop (by rw [e1]; exact Fk.blen_nil _)
    · rw [e2, in3]
      obtain ⟨hlt, hr, _⟩ := Fk.drop_cons e1
      refine ifd (fun hd => ?_) (fun hd => ?_)
      · refine ⟨fun σ' H'' => ∃ m', m' < t.length - i ∧ ∃ j : Nat, σ' = [some (.ref p)] ∧ H'' p = some (.ins C dx (flds t j)) ∧ KeepBut p H H'' ∧ j + blen false (t.drop j) = N ∧ j ≤ t.length ∧ m' = t.length - j, fun _ _ h => h, ?_⟩
        refine rd_sign0 rfl h2 ht ⟨rfl, _, rfl, ?_⟩
        rw [e2, c_hash, vstr]
        refine ifd (fun h35 => ?_) (fun h35 => ?_)
        · have h35' : d = 35 := by simpa using h35
          -- the remark
          have hi2 : i + blen true (t.drop i) = N := by rw [e1, ← Fk.blen_rem h35', ← e1]; exact hi
          -- the sign # itself is passed: the inner loop begins at i and goes on
          refine ⟨fun m σ H' => ∃ j : Nat, σ = [some (.ref p)] ∧ H' p = some (.ins C dx (flds t j)) ∧ KeepBut p H H' ∧ j + blen true (t.drop j) = N ∧ i ≤ j ∧ j ≤ t.length ∧ m = t.length - j, ⟨_, i, rfl, h2, k2, hi2, Nat.le_refl _, hil, rfl⟩, ?_⟩
          rintro m σ H3 ⟨j, rfl, h3, k3, hj, hij, hjl, rfl⟩
          refine rd_sign0 rfl h3 ht ⟨(by show 2 ≤ sizeLine; decide), fun b hb => ⟨b, _, rfl, .inr (SqT.of upd_same), rfl, rfl, _, rfl, ?_⟩⟩
          have h4 : (upd H3 b (.tup [V.str (Str.ofString ""), V.str (Str.ofString "\n")])) p = some (.ins C dx (flds t j)) := by rw [upd_ne (ne_of_none h3 hb)]; exact h3
          have k4 : KeepBut p H (upd H3 b (.tup [V.str (Str.ofString ""), V.str (Str.ofString "\n")])) := k3.new hb
          show if (!inV (.str (sg t j)) [V.str (Str.ofString ""), V.str (Str.ofString "\n")]) = true then _ else _
          generalize upd H3 b (.tup [V.str (Str.ofString ""), V.str (Str.ofString "\n")]) = H4 at h4 k4
          rcases sg_cases t j with ⟨f1, f2⟩ | ⟨d', r', f1, f2⟩
          · rw [f2, in2]
            refine iff' (by simp) ?_
            have ne : j ≠ i := fun z => by rw [z, e1] at f1; cases f1
            refine ⟨_, by omega, j, rfl, h4, k4, ?_, hjl, rfl⟩
            rw [f1, Fk.blen_nil] at hj ⊢
            exact hj
          · rw [f2, in2]
            obtain ⟨jlt, jr, _⟩ := Fk.drop_cons f1
            refine ifnd (fun hd10 => ?_) (fun hd10 => ?_)
            · have hd10' : d' ≠ 10 := fun z => hd10 (by simp [z])
              refine ⟨fun σ' H'' => ∃ m', m' < t.length - j ∧ ∃ j : Nat, σ' = [some (.ref p)] ∧ H'' p = some (.ins C dx (flds t j)) ∧ KeepBut p H H'' ∧ j + blen true (t.drop j) = N ∧ i ≤ j ∧ j ≤ t.length ∧ m' = t.length - j, fun _ _ h => h, ?_⟩
              refine rd_move1 rfl h4 jlt ht ?_
              refine ⟨_, by omega, j + 1, rfl, upd_same, k4.upd, ?_, by omega, jlt, rfl⟩
              rw [f1, Fk.blen_in hd10'] at hj
              rw [jr]
              omega
            · have hd10' : d' = 10 := by simpa using hd10
              have ne : j ≠ i := fun z => by
                rw [z, e1] at f1
                cases f1
                omega
              refine ⟨_, by omega, j, rfl, h4, k4, ?_, hjl, rfl⟩
              rw [f1, Fk.blen_out hd10', ← f1] at hj
              exact hj
        · have h35' : d ≠ 35 := fun z => h35 (by rw [z])
          have hsp : d = 32 ∨ d = 10 := by
            simp at hd
            omega
          refine rd_move1 rfl h2 hlt ht ?_
          refine ⟨_, by omega, i + 1, rfl, upd_same, k2.upd, ?_, hlt, rfl⟩
          rw [e1, Fk.blen_sp hsp] at hi
          rw [hr]
          omega
      · refine stop ?_
        rw [e1]
        simp at hd
        exact Fk.blen_stop (by omega) (by omega)
end
end FkW

namespace FkW
open PySem PySem.Spec PyProof.Rows L2 FkG SX
open Fk (posR posR_zero isWord isDig blen dlen wlen TokV Res)
/-! ### TextFault -/
/-- the fields of a fault, as its dict holds them -/
def tfs (l cc : Int) (r : Str) : List (Str × V) := [("reason", .str r), ("column", .int cc), ("line", .int l)]
def spTF (CT : Addr) : L2.Sp := fun vs H Q _ => ∃ (a : Addr) (l cc : Int) (r : Str), vs = [.ref a, .int l, .int cc, .str r] ∧ H a = some (exo a CT none) ∧
  ∀ (d : Addr) (H' : Hp), H d = none → d ≠ a → H' a = some (exo a CT (some d)) → H' d = some (exd d (tfs l cc r)) → (∀ b o, b ≠ a → H b = some o → H' b = some o) → Q .non H'
structure FtT (K : PySem.W.Frag) (mg : Str → Option Value) (CT CE fI : Addr) : Prop where
  mgT : mg "TextFault" = some (.ref CT)
  mgE : mg "ForetaskError" = some (.ref CE)
  ox : OexC K CT
  iC : PySem.W.findIn K (.ref CT) "__init__" = some (some (.ref fI))
  tI : PySem.W.typeIn K (.ref fI) = some (.type "function")
  nL : PySem.W.findIn K (.ref CT) "line" = some none
  nC : PySem.W.findIn K (.ref CT) "column" = some none
  nR : PySem.W.findIn K (.ref CT) "reason" = some none
  rd : PySem.W.readsIn K CE (.type "type") = true
  ga : PySem.W.specialIn K (.ref CE) "__getattribute__" = some (some (.builtin "type.__getattribute__"))
  vE : PySem.W.findCls K (.ref CE) (.type "type") "__init__" = some (.val (.builtin "ValueError.__init__"))
theorem scTF : FnScope ["self", "line", "column", "reason"] ["self", "line", "column", "reason"] (defScope sTFinit) := ⟨rfl, rfl, rfl, by decide +kernel, rfl, by decide +kernel, by decide +kernel⟩
/-- what is wanted of a fault at line l, column cc -/
def Wish (CT : Addr) (E : XK) (H : Hp) (l cc : Int) : Prop := ∀ (d : Addr) (H' : Hp) (r : Str), Same H H' → H' d = some (.xd (tfs l cc r)) → E (.ref CT) (some d) H'
theorem Wish.same {CT : Addr} {E : XK} {H H1 : Hp} {l cc : Int} (h : Wish CT E H l cc) (s : Same H H1) : Wish CT E H1 l cc := fun d H' r s' e => h d H' r (s.trans s') e
section
variable {c : Bool} {P : Program} {w : World} {K : PySem.W.Frag} {mg : Str → Option Value} {base : Heap}
theorem ok_tf {f CT CE fI : Addr} {fd : FuncData} (F : FnP K "__init__" "TextFault.__init__" sTFinit f fd) (T : FtT K mg CT CE fI) : FnOk P w K mg base CX0 1 f fd ["self", "line", "column", "reason"] (spTF CT) := by
  refine F.ok scTF (fun vs H Q E h => ?_) (fun cdv A outer s H vs Q E hr h => ?_)
  · obtain ⟨a, l, cc, r, rfl, _⟩ := h
    rfl
  · obtain ⟨a, l, cc, r, rfl, ha, k⟩ := h
    refine ⟨_, pss_cons (ps_expr (pe_baseinit (by rfl) T.mgE T.rd T.ga T.vE (pa_cons (pv 0) (pa_cons (pv 3) pa_nil)))) (pss_cons (ps_ost (pv 0) (pv 1)) (pss_cons (ps_ost (pv 0) (pv 2)) (pss_one (ps_ost (pv 0) (pv 3))))), ?_⟩
    refine ⟨_, rfl, _, rfl, a, CT, _, rfl, (by show 1 ≤ 1000; decide), T.ox, ha, ?_⟩
    refine ⟨_, rfl, _, rfl, a, CT, rfl, T.ox, T.nL, .inl ⟨ha, fun dx hn hne => ?_⟩⟩
    have e1 : (upd (upd H dx (exd dx [("line", V.int l)])) a (exo a CT (some dx))) dx = some (exd dx [("line", V.int l)]) := by rw [upd_ne hne, upd_same]
    refine ⟨_, rfl, _, rfl, a, CT, rfl, T.ox, T.nC, .inr ⟨dx, _, upd_same, e1, (by show 1 ≤ 900; decide), ?_⟩⟩
    refine ⟨_, rfl, _, rfl, a, CT, rfl, T.ox, T.nR, .inr ⟨dx, _, ?_, upd_same, (by show 2 ≤ 900; decide), ?_⟩⟩
    · rw [upd_ne (Ne.symm hne), upd_same]
    refine k dx _ hn hne ?_ upd_same fun b o hb e => ?_
    · rw [upd_ne (Ne.symm hne), upd_ne (Ne.symm hne), upd_same]
    · have hbd : b ≠ dx := ne_of_none e hn
      rw [upd_ne hbd, upd_ne hbd, upd_ne hb, upd_ne hbd]
      exact e
/-- a fault may be raised -/
structure FtC (P : Program) (w : World) (K : PySem.W.Frag) (mg : Str → Option Value) (base : Heap) (CT : Addr) : Prop where
  ex : ∃ (CE fI : Addr) (fd : FuncData) (ps : List Str), FtT K mg CT CE fI ∧ FnOk P w K mg base CX0 1 fI fd ps (spTF CT) ∧ Binds K fd ps []
end
/-- raise TextFault(..) -/
theorem ps_fault {c : Bool} {k : Nat} {X : Cx} {CT : Addr} {W : WX} {e : Expr} {es : List Expr} {ta : TA} {p pos pos2 : Pos} (F : FtC X.prog X.w X.K X.mg X.base CT) (ct : CtG c k X) (hk : 2 ≤ k) (tk : L2N.Takes X W) (ha : PA X (e :: es) ta) (hg : Gl X "TextFault" := by rfl)
    (he : starEach (e :: es) X.env = (false, eval e X.env) :: starEach es X.env := by rfl) (hpl : (backTo pos (starEach es X.env)).any (·.1) = false := by rfl) :
    PS X (.Raise (some (.Call (.Name "TextFault" p) (e :: es) [] pos)) none pos2) (tCalm X fun _ σ H => tMkO CT (spTF CT) [] ta σ H fun cls d H' => W cls d σ H') := by
  refine ps_calm fun hc => ?_
  obtain ⟨CE, fI, fd, ps, T, F1, b⟩ := F.ex
  have ec : c = true := ct.ca.symm.trans hc
  exact L2N.ps_raise hc tk (pmk_oexN (CX := CX0) T.ox T.iC T.tI F1 ((ct.rm ec).mono hk) b .nil (fun _ _ _ _ _ _ _ h => h.elim) hg T.mgT ha (by decide) he hpl)
theorem rd_fault {CT : Addr} {E : XK} {H : Hp} {l cc : Int} {r : Str} (h : Wish CT E H l cc) :
    ([V.int l, .int cc, .str r] : List V).length ≤ 1000 ∧ ∀ a, H a = none → spTF CT (.ref a :: ([V.int l, .int cc, .str r] ++ [])) (upd H a (exo a CT none))
      (fun v H2 => v = .non ∧ ∃ (d : Addr) (fs : List (Str × V)), H2 a = some (exo a CT (some d)) ∧ H2 d = some (exd d fs) ∧ H d = none ∧ E (.ref CT) (some d) (upd (del H2 a) d (.xd fs))) (fun _ _ _ => False) := by
  refine ⟨by show 3 ≤ 1000; decide, fun a ha => ⟨a, l, cc, r, rfl, upd_same, fun d H' hd hne e1 e2 kp => ⟨rfl, d, _, e1, e2, ?_, ?_⟩⟩⟩
  · rw [upd_ne hne] at hd; exact hd
  · refine h d _ r (fun b o e => ?_) upd_same
    have hd0 : H d = none := by rw [upd_ne hne] at hd; exact hd
    have hba : b ≠ a := ne_of_none e ha
    rw [upd_ne (ne_of_none e hd0), del_ne hba]
    exact kp b o hba (by rw [upd_ne hba]; exact e)

/-! ### tokens as values -/
def kindV : TokV → V
  | .name _ => .str (Str.ofString "name")
  | .word _ => .str (Str.ofString "word")
  | .num _ => .str (Str.ofString "number")
  | .text _ => .str (Str.ofString "text")
  | .sign _ => .str (Str.ofString "sign")
  | .fin => .str (Str.ofString "end")
def valT : TokV → V
  | .name l => .str (S l)
  | .word l => .str (S l)
  | .num l => .int ((NumText.digitsVal l : Nat) : Int)
  | .text l => .str (S l)
  | .sign l => .str (S l)
  | .fin => .str (S [])
/-- what a def that reads a token answers -/
def TokP (c : Bool) (CT : Addr) (res : Res) (t : List Nat) (n : Nat) (H : Hp) (Q : VK) (E : XK) : Prop :=
  match res with
  | .ok v k => ∀ (a : Addr) (H' : Hp), Same H H' → H' a = some (.tup [kindV v, valT v, .int (k : Int)]) → Q (.ref a) H'
  | .bad off => c = true ∧ Wish CT E H (lin t n) (col t n + (off : Int))
/-- the keywords, as the top has them -/
def KWS : List Str := ["record", "proc", "var", "if", "else", "while", "for", "to", "return", "throw", "try", "catch", "print", "read", "break", "ahead", "none", "true", "false", "and", "or", "not", "mod", "new", "array", "size"]
def kwf (z : List Nat) : Bool := KWS.any fun k => k == S z
/-- two tuples of the top -/
structure TupT (K : PySem.W.Frag) (mg : Str → Option Value) : Prop where
  kw : ∃ a : Addr, mg "KEYWORDS" = some (.ref a) ∧ ∀ H, SqT K H a (KWS.map V.str)
  long : ∃ a : Addr, mg "LONG_SIGNS" = some (.ref a) ∧ ∀ H, SqT K H a (Fk.LONG.map fun z => V.str (S z))
theorem inV_kw (z : List Nat) : ∀ ws : List Str, inV (.str (S z)) (ws.map V.str) = ws.any fun k => k == S z
  | [] => rfl
  | w :: ws => by
    have e : inV (.str (S z)) ((w :: ws).map V.str) = ((w == S z) || inV (.str (S z)) (ws.map V.str)) := rfl
    rw [e, inV_kw z ws]; rfl
theorem flat_strs : ∀ ws : List Str, (ws.map V.str).all flatV = true
  | [] => rfl
  | w :: ws => by
    have e : ((w :: ws).map V.str).all flatV = (true && (ws.map V.str).all flatV) := rfl
    rw [e, flat_strs ws]; rfl

section
variable {c : Bool} {P : Program} {w : World} {K : PySem.W.Frag} {mg : Str → Option Value} {base : Heap}
/-! ### read_name(reader) -/
def spName (c : Bool) (C CT : Addr) : L2.Sp := fun vs H Q E => ∃ (p dx : Addr) (t : List Nat) (n : Nat), vs = [.ref p] ∧ H p = some (.ins C dx (flds t n)) ∧ t.length ≤ 8000 ∧ TokP c CT (Fk.readName kwf (t.drop n)) t n H Q E
theorem scName : FnScope ["reader", "count", "name"] ["reader"] (defScope sName) := ⟨rfl, rfl, rfl, by decide +kernel, rfl, by decide +kernel, by decide +kernel⟩
theorem ok_name {f C CT : Addr} {fd : FuncData} (F : FnP K "read_name" "read_name" sName f fd) (R : RdC c P w K mg base C) (W : CalG c P w K mg base 1 "is_word_sign" spIsWord []) (FT : FtC P w K mg base CT) (U : TupT K mg) :
    FnG c P w K mg base (CXN P w) 3 f fd ["reader"] (spName c C CT) := by
  refine okG F scName (fun vs H Q E h => ?_) (fun cdv A outer s H vs Q E pn ct h => ?_)
  · obtain ⟨p, dx, t, n, rfl, _⟩ := h
    rfl
  · obtain ⟨p, dx, t, n, rfl, hp, ht, q⟩ := h
    obtain ⟨aK, mK, sK⟩ := U.kw
    refine ⟨_, pss_cons (ps_set (i := 1) scName.nd rfl (.inl rfl) pe_int)
      (pss_cons (ps_while ownG (pt_val (pe_cG W ct passG (by decide) rfl (pa_cons (pe_mG R.s1 ct passG (by decide) (pv 0) (pa_cons (pv 1) pa_nil)) pa_nil))) (pss_one (ps_aug (i := 1) scName.nd rfl (.inl rfl) pe_int ip_add)))
      (pss_cons (ps_if (pt_cmpR op_gt (pv 1) (C8.pe_gc rfl R.g.mName) (nomark _)) (pss_one (ps_fault FT ct (Nat.le_refl _) takesG (pa_cons (pe_fld (pv 0) rfl) (pa_cons (pe_fld (pv 0) rfl) (pa_cons pe_str pa_nil))))) pss_nil)
      (pss_cons (ps_set (i := 2) scName.nd rfl (.inl rfl) (pe_slice sl_str (pe_fld (pv 0) rfl) (po_some (pe_fld (pv 0) rfl)) (po_some (pe_op op_add (pe_fld (pv 0) rfl) (pv 1)))))
      (pss_cons (ps_if (pt_cmpR op_in_seq (pv 2) (pe_glob (v := .ref aK) rfl mK rfl) rfl) (pss_one (ps_ret (pe_tup (pa_cons pe_str (pa_cons (pv 2) (pa_cons (pv 1) pa_nil)))))) pss_nil)
      (pss_one (ps_ret (pe_tup (pa_cons pe_str (pa_cons (pv 2) (pa_cons (pv 1) pa_nil)))))))))), ?_⟩
    have hle : wlen (t.drop n) ≤ t.length - n := by
      have := (List.takeWhile_sublist (l := t.drop n) isWord).length_le
      rw [List.length_drop] at this
      exact this
    refine ⟨fun m σ H' => ∃ k : Nat, σ = [some (.ref p), some (.int (k : Int)), none] ∧ H' = H ∧ k ≤ wlen (t.drop n) ∧ m = wlen (t.drop n) - k, ⟨_, 0, rfl, rfl, Nat.zero_le _, rfl⟩, ?_⟩
    rintro m σ H' ⟨k, rfl, rfl, hk, rfl⟩
    refine rd_signV (k := k) rfl rfl hp ht ⟨t, n + k, rfl, _, rfl, ?_⟩
    have hat := Fk.tw_at (p := isWord) (t.drop n) k hk
    rw [List.drop_drop] at hat
    rw [← hat]
    refine ifd (fun h1 => ?_) (fun h1 => ?_)
    · have hlt : k < wlen (t.drop n) := h1
      refine ⟨fun σ' H'' => ∃ m', m' < wlen (t.drop n) - k ∧ ∃ k : Nat, σ' = [some (.ref p), some (.int (k : Int)), none] ∧ H'' = H' ∧ k ≤ wlen (t.drop n) ∧ m' = wlen (t.drop n) - k, fun _ _ h => h, ?_⟩
      exact ⟨_, rfl, _, _, rfl, rfl, wlen (t.drop n) - (k + 1), by omega, k + 1, rfl, rfl, hlt, rfl⟩
    · have hk' : wlen (t.drop n) = k := by
        have : ¬ k < wlen (t.drop n) := h1
        omega
      unfold Fk.readName at q
      rw [hk'] at q
      refine ⟨_, rfl, _, _, rfl, rfl, _, rfl, ?_⟩
      refine ifd (fun h2 => ?_) (fun h2 => ?_)
      · have h2' : k > 20 := by omega
        rw [if_pos h2'] at q
        obtain ⟨hc, q⟩ := q
        refine ⟨ct.ca.trans hc, ?_⟩
        refine ⟨_, rfl, p, C, dx, _, _, rfl, hp, R.t.cl, R.t.nL, fld_line _ _ _ _, _, rfl, p, C, dx, _, _, rfl, hp, R.t.cl, R.t.nC, fld_col _ _ _ _, ?_⟩
        have q' : Wish CT E H' (lin t n) (col t n) := by simpa using q
        exact rd_fault q'
      · have h2' : ¬ k > 20 := by omega
        rw [if_neg h2'] at q
        refine ⟨_, rfl, p, C, dx, _, _, rfl, hp, R.t.cl, R.t.nT, fld_text _ _ _ _, _, rfl, p, C, dx, _, _, rfl, hp, R.t.cl, R.t.nA, fld_at _ _ _ _, _, rfl, ?_⟩
        refine ⟨_, rfl, p, C, dx, _, _, rfl, hp, R.t.cl, R.t.nA, fld_at _ _ _ _, _, rfl, _, _, rfl, rfl, _, rfl, _, rfl, (by rw [S_len]; exact le_line (by omega)), ?_⟩
        have e : cutS (S t) (some (n : Int)) (some ((n : Int) + (k : Int))) = S ((t.drop n).take k) := by
          rw [show (n : Int) + (k : Int) = ((n + k : Nat) : Int) by omega, cut_nat, show n + k - n = k by omega]
        rw [e]
        refine ⟨_, rfl, aK, _, rfl, .inr (sK _), rfl, flat_strs _, _, rfl, ?_⟩
        show if inV (.str (S ((t.drop n).take k))) (KWS.map V.str) = true then _ else _
        rw [inV_kw]
        have q2 : TokP c CT (if kwf ((t.drop n).take k) = true then Res.ok (TokV.word ((t.drop n).take k)) k else Res.ok (TokV.name ((t.drop n).take k)) k) t n H' Q E := q
        cases hkw : kwf ((t.drop n).take k) with
        | true =>
          rw [hkw] at q2
          refine ift hkw ?_
          refine ⟨_, rfl, _, rfl, (by show 3 ≤ sizeLine; decide), fun a ha => q2 a _ (fun b o e => ?_) upd_same⟩
          rw [upd_ne (ne_of_none e ha)]; exact e
        | false =>
          rw [hkw] at q2
          refine iff' hkw ?_
          refine ⟨_, rfl, _, rfl, (by show 3 ≤ sizeLine; decide), fun a ha => q2 a _ (fun b o e => ?_) upd_same⟩
          rw [upd_ne (ne_of_none e ha)]; exact e
end
end FkW

namespace FkW
open PySem PySem.Spec PyProof.Rows L2 FkG SX
open Fk (posR posR_zero isWord isDig blen dlen wlen TokV Res)
/-- reader.fault_ahead(j, '..') -/
theorem rd_ahead {C p dx : Addr} {t : List Nat} {n k i : Nat} {z : Str} {σ : L2.St} {H : Hp} {Q : VK} {E : XK} {te : TE} (hσ : σ[i]? = some (some (.ref p))) (hp : H p = some (.ins C dx (flds t n))) (he : ∀ R : VK, R (.int (k : Int)) H → te σ H R)
    (q : ∀ a, H a = none → Q (.ref a) (upd H a (.tup [.int (lin t n), .int (col t n + (k : Int)), .str z]))) : tMeth C "fault_ahead" (spAhead C) [] E (tVar i) (tCons te (tCons (tC (.str z)) tNil)) σ H Q := by
  refine ⟨_, hσ, p, dx, _, rfl, hp, fld_no _ _ _ _ (by decide +kernel) (by decide +kernel) (by decide +kernel) (by decide +kernel), ?_⟩
  exact he _ ⟨p, dx, t, n, k, z, rfl, hp, q⟩
theorem Same.new {H : Hp} {a : Addr} {o : HO} (h : H a = none) : Same H (upd H a o) := fun b u e => by
  rw [upd_ne (ne_of_none e h)]; exact e
section
variable {c : Bool} {P : Program} {w : World} {K : PySem.W.Frag} {mg : Str → Option Value} {base : Heap}
/-! ### read_number(reader) -/
def spNum (c : Bool) (C CT : Addr) : L2.Sp := fun vs H Q E => ∃ (p dx : Addr) (t : List Nat) (n : Nat), vs = [.ref p] ∧ H p = some (.ins C dx (flds t n)) ∧ t.length ≤ 8000 ∧ 1 ≤ dlen (t.drop n) ∧ TokP c CT (Fk.readNum (t.drop n)) t n H Q E
theorem scNum : FnScope ["reader", "count", "line", "column", "reason"] ["reader"] (defScope sNum) := ⟨rfl, rfl, rfl, by decide +kernel, rfl, by decide +kernel, by decide +kernel⟩
theorem dig_range {a : List Nat} (h : ∀ x ∈ a, x ∈ Fk.DIG) : a.all (fun c => decide (48 ≤ c) && decide (c ≤ 57)) = true := by
  rw [List.all_eq_true]
  intro x hx
  have := h x hx
  simp only [Fk.DIG, List.mem_cons, List.not_mem_nil, or_false] at this
  simp only [Bool.and_eq_true, decide_eq_true_eq]
  omega
theorem ok_num {f C CT : Addr} {fd : FuncData} (F : FnP K "read_number" "read_number" sNum f fd) (R : RdC c P w K mg base C) (W : CalG c P w K mg base 1 "is_word_sign" spIsWord []) (RL : CalG c P w K mg base 2 "row_length" (spRow C) []) (FT : FtC P w K mg base CT) :
    FnG c P w K mg base (CXN P w) 3 f fd ["reader"] (spNum c C CT) := by
  refine okG F scNum (fun vs H Q E h => ?_) (fun cdv A outer s H vs Q E pn ct h => ?_)
  · obtain ⟨p, dx, t, n, rfl, _⟩ := h
    rfl
  · obtain ⟨p, dx, t, n, rfl, hp, ht, h1, q⟩ := h
    refine ⟨_, pss_cons (ps_set (i := 1) scNum.nd rfl (.inl rfl) (pe_cG RL ct passG (Nat.le_refl _) rfl (pa_cons (pv 0) (pa_cons (C8.pe_gc rfl R.g.dig) pa_nil))))
      (pss_cons (ps_if (pt_cmpR op_gt (pv 1) (C8.pe_gc rfl R.g.mDig) (nomark _)) (pss_one (ps_fault FT ct (Nat.le_refl _) takesG (pa_cons (pe_fld (pv 0) rfl) (pa_cons (pe_fld (pv 0) rfl) (pa_cons pe_str pa_nil))))) pss_nil)
      (pss_cons (ps_if (pt_val (pe_cG W ct passG (by decide) rfl (pa_cons (pe_mG R.s1 ct passG (by decide) (pv 0) (pa_cons (pv 1) pa_nil)) pa_nil)))
        (pss_cons (ps_asg (pe_mG R.ah ct passG (by decide) (pv 0) (pa_cons (pv 1) (pa_cons pe_str pa_nil))) (pg_tupG ct (pgs_cons (pg_name (i := 2) scNum.nd rfl (.inl rfl)) (pgs_cons (pg_name (i := 3) scNum.nd rfl (.inl rfl)) (pgs_cons (pg_name (i := 4) scNum.nd rfl (.inl rfl)) pgs_nil)))))
          (pss_one (ps_fault FT ct (Nat.le_refl _) takesG (pa_cons (pv 2) (pa_cons (pv 3) (pa_cons (pv 4) pa_nil)))))) pss_nil)
      (pss_one (ps_ret (pe_tup (pa_cons pe_str (pa_cons (pe_callTy call_int_str (by rfl) R.g.int (by decide +kernel) (pa_cons (pe_slice sl_str (pe_fld (pv 0) rfl) (po_some (pe_fld (pv 0) rfl)) (po_some (pe_op op_add (pe_fld (pv 0) rfl) (pv 1)))) pa_nil)) (pa_cons (pv 1) pa_nil)))))))), ?_⟩
    have hle : dlen (t.drop n) ≤ t.length - n := by
      have := (List.takeWhile_sublist (l := t.drop n) isDig).length_le
      rw [List.length_drop] at this
      exact this
    have hall := Fk.dig_all (t.drop n)
    unfold Fk.readNum at q
    generalize hk : dlen (t.drop n) = k at q h1 hle hall
    refine ⟨_, rfl, p, dx, t, n, rfl, hp, ht, ?_⟩
    rw [hk]
    refine ⟨_, rfl, _, _, rfl, rfl, _, rfl, ?_⟩
    refine ifd (fun h2 => ?_) (fun h2 => ?_)
    · have h2' : k > 60 := by omega
      rw [if_pos h2'] at q
      obtain ⟨hc, q⟩ := q
      refine ⟨ct.ca.trans hc, ?_⟩
      refine ⟨_, rfl, p, C, dx, _, _, rfl, hp, R.t.cl, R.t.nL, fld_line _ _ _ _, _, rfl, p, C, dx, _, _, rfl, hp, R.t.cl, R.t.nC, fld_col _ _ _ _, ?_⟩
      have q' : Wish CT E H (lin t n) (col t n) := by simpa using q
      exact rd_fault q'
    · have h2' : ¬ k > 60 := by omega
      rw [if_neg h2'] at q
      refine rd_signV (k := k) rfl rfl hp ht ⟨t, n + k, rfl, _, rfl, ?_⟩
      rw [List.drop_drop] at q
      cases hw : (t.drop (n + k)).head?.any isWord with
      | true =>
        rw [hw, if_pos rfl] at q
        obtain ⟨hc, q⟩ := q
        refine ift rfl ?_
        refine rd_ahead (k := k) rfl hp (fun R h => ⟨_, rfl, h⟩) fun a ha => ?_
        refine ⟨a, _, rfl, SqT.of upd_same, rfl, _, _, rfl, _, _, rfl, _, _, rfl, rfl, ?_⟩
        refine ⟨ct.ca.trans hc, _, rfl, _, rfl, _, rfl, ?_⟩
        exact rd_fault (q.same (Same.new ha))
      | false =>
        rw [hw, if_neg (by simp)] at q
        refine iff' rfl ?_
        refine ⟨_, rfl, p, C, dx, _, _, rfl, hp, R.t.cl, R.t.nT, fld_text _ _ _ _, _, rfl, p, C, dx, _, _, rfl, hp, R.t.cl, R.t.nA, fld_at _ _ _ _, _, rfl, ?_⟩
        refine ⟨_, rfl, p, C, dx, _, _, rfl, hp, R.t.cl, R.t.nA, fld_at _ _ _ _, _, rfl, _, _, rfl, rfl, _, rfl, _, rfl, (by rw [S_len]; exact le_line (by omega)), ?_⟩
        have e : cutS (S t) (some (n : Int)) (some ((n : Int) + (k : Int))) = S ((t.drop n).take k) := by
          rw [show (n : Int) + (k : Int) = ((n + k : Nat) : Int) by omega, cut_nat, show n + k - n = k by omega]
        rw [e]
        have hlen : ((t.drop n).take k).length = k := by rw [List.length_take, List.length_drop]; omega
        refine ⟨_, _, rfl, int_S (dig_range hall) (fun z => by rw [z] at hlen; simp at hlen; omega) (by omega), (by rw [S_len]; omega), _, rfl, (by show 3 ≤ sizeLine; decide), fun a ha => ?_⟩
        exact q a _ (Same.new ha) upd_same

/-! ### read_sign(reader) -/
def spSgn (c : Bool) (C CT : Addr) : L2.Sp := fun vs H Q E => ∃ (p dx : Addr) (t : List Nat) (n : Nat), vs = [.ref p] ∧ H p = some (.ins C dx (flds t n)) ∧ t.length ≤ 8000 ∧ t.drop n ≠ [] ∧ TokP c CT (Fk.readSign (t.drop n)) t n H Q E
theorem scSgn : FnScope ["reader", "pair"] ["reader"] (defScope sSgn) := ⟨rfl, rfl, rfl, by decide +kernel, rfl, by decide +kernel, by decide +kernel⟩
theorem ok_sgn {f C CT : Addr} {fd : FuncData} (F : FnP K "read_sign" "read_sign" sSgn f fd) (R : RdC c P w K mg base C) (FT : FtC P w K mg base CT) (U : TupT K mg) : FnG c P w K mg base (CXN P w) 3 f fd ["reader"] (spSgn c C CT) := by
  refine okG F scSgn (fun vs H Q E h => ?_) (fun cdv A outer s H vs Q E pn ct h => ?_)
  · obtain ⟨p, dx, t, n, rfl, _⟩ := h
    rfl
  · obtain ⟨p, dx, t, n, rfl, hp, ht, hne, q⟩ := h
    obtain ⟨aL, mL, sL⟩ := U.long
    refine ⟨_, pss_cons (ps_set (i := 1) scSgn.nd rfl (.inl rfl) (pe_op op_add_str (pe_m0G R.s0 ct passG (by decide) (pv 0)) (pe_mG R.s1 ct passG (by decide) (pv 0) (pa_cons pe_int pa_nil))))
      (pss_cons (ps_if (pt_cmpR op_in_seq (pv 1) (pe_glob (v := .ref aL) rfl mL rfl) rfl) (pss_one (ps_ret (pe_tup (pa_cons pe_str (pa_cons (pv 1) (pa_cons pe_int pa_nil)))))) pss_nil)
      (pss_cons (ps_if (pt_cmpR op_in_sign (pe_m0G R.s0 ct passG (by decide) (pv 0)) (C8.pe_gc rfl R.g.short) rfl) (pss_one (ps_ret (pe_tup (pa_cons pe_str (pa_cons (pe_m0G R.s0 ct passG (by decide) (pv 0)) (pa_cons pe_int pa_nil)))))) pss_nil)
      (pss_one (ps_fault FT ct (Nat.le_refl _) takesG (pa_cons (pe_fld (pv 0) rfl) (pa_cons (pe_fld (pv 0) rfl) (pa_cons pe_str pa_nil))))))), ?_⟩
    have e2 : sg t n ++ sg t (n + 1) = S ((t.drop n).take 2) := by
      unfold sg
      rw [S_cat]
      congr 1
      rw [← List.drop_drop]
      cases t.drop n with
      | nil => rfl
      | cons a l => cases l <;> simp
    unfold Fk.readSign at q
    refine rd_sign0 rfl hp ht (rd_sign (k := 1) rfl hp ht (.inr ⟨rfl, _, rfl, fun R h => h⟩) ⟨_, _, rfl, rfl, ?_, ?_⟩)
    · unfold sg
      rw [S_len, S_len, List.length_take, List.length_take]
      exact le_line (by omega)
    rw [e2]
    refine ⟨_, rfl, aL, _, rfl, .inr (sL _), rfl, rfl, _, rfl, ?_⟩
    show if inV (.str (S ((t.drop n).take 2))) (Fk.LONG.map fun z => V.str (S z)) = true then _ else _
    rw [inV_str]
    refine ifd (fun h1 => ?_) (fun h1 => ?_)
    · rw [if_pos h1] at q
      refine ⟨_, rfl, (by show 3 ≤ sizeLine; decide), fun a ha => q a _ (Same.new ha) upd_same⟩
    · rw [if_neg h1] at q
      rcases sg_cases t n with ⟨f1, f2⟩ | ⟨d, r, f1, f2⟩
      · exact absurd f1 hne
      · refine rd_sign0 rfl hp ht ⟨d, _, (by rw [f2]), rfl, _, rfl, ?_⟩
        have q2 : TokP c CT (if decide (d ∈ Fk.SHORT) = true then Res.ok (TokV.sign ((t.drop n).take 1)) 1 else Res.bad 0) t n H Q E := by
          rw [f1] at q ⊢
          exact q
        refine ifd (fun h2 => ?_) (fun h2 => ?_)
        · have h2' : d ∈ Fk.SHORT := h2
          rw [if_pos (by simpa using h2')] at q2
          refine rd_sign0 rfl hp ht ⟨(by show 3 ≤ sizeLine; decide), fun a ha => ?_⟩
          refine q2 a _ (Same.new ha) (upd_same.trans ?_)
          rw [f2, f1]
          rfl
        · have h2' : ¬ d ∈ Fk.SHORT := h2
          rw [if_neg (by simpa using h2')] at q2
          obtain ⟨hc, q3⟩ := q2
          refine ⟨ct.ca.trans hc, _, rfl, p, C, dx, _, _, rfl, hp, R.t.cl, R.t.nL, fld_line _ _ _ _, _, rfl, p, C, dx, _, _, rfl, hp, R.t.cl, R.t.nC, fld_col _ _ _ _, ?_⟩
          have q' : Wish CT E H (lin t n) (col t n) := by simpa using q3
          exact rd_fault q'
end
end FkW

namespace FkW
open PySem PySem.Spec PyProof.Rows L2 FkG SX
open Fk (posR posR_zero isWord isDig blen dlen wlen TokV Res isEsc esc)
/-- the dict ESCAPES of the top -/
structure EscT (K : PySem.W.Frag) (w : World) (mg : Str → Option Value) : Prop where
  ex : ∃ (d : Addr) (es : Array DictEntry) (n : Nat), mg "ESCAPES" = some (.ref d) ∧ KDict K w d es n ∧ PySem.W.nsIn K d (S []) = some none ∧
    (∀ x : Nat, isEsc x = true → ∃ u, PySem.W.nsIn K d (S [x]) = some (some u) ∧ RelV (.str (S [esc x])) u) ∧ (∀ x : Nat, isEsc x = false → PySem.W.nsIn K d (S [x]) = some none)
def chs (l : List Nat) : List V := l.map fun c => V.str (S [c])
theorem chs_eq (l : List Nat) : chs l = ((l.map fun c => [c]).map S).map V.str := by simp [chs]
theorem chs_len (l : List Nat) : (chs l).length = l.length := by simp [chs]
theorem chs_snoc (l : List Nat) (c : Nat) : chs l ++ [V.str (S [c])] = chs (l ++ [c]) := by simp [chs]
theorem joinL_nil : ∀ l : List Nat, TL.joinL [] (l.map fun c => [c]) = l
  | [] => rfl
  | [a] => rfl
  | a :: b :: r => by
    have ih := joinL_nil (b :: r)
    show [a] ++ ([] ++ TL.joinL [] ((b :: r).map fun c => [c])) = _
    rw [ih]; rfl
theorem sum_ones : ∀ l : List Nat, (((l.map fun c => [c]).map S).map (·.length)).sum = l.length
  | [] => rfl
  | a :: r => by
    have ih := sum_ones r
    show (S [a]).length + (((r.map fun c => [c]).map S).map (·.length)).sum = _
    rw [ih, S_len]; simp; omega
/-- is the sign at n "" or a newline -/
def brk (t : List Nat) (n : Nat) : Bool := decide ((t.drop n).take 1 ∈ ([[], [10]] : List (List Nat)))
theorem brk_nil {t : List Nat} {n : Nat} (h : t.drop n = []) : brk t n = true := by unfold brk; rw [h]; rfl
theorem brk_cons {t : List Nat} {n c : Nat} {r : List Nat} (h : t.drop n = c :: r) : brk t n = decide (c = 10) := by
  unfold brk; rw [h]
  by_cases e : c = 10
  · subst e; rfl
  · simp [e]
/-- the state behind «if sign == "\\"» -/
inductive Mid3 (t : List Nat) (n k k' fa : Nat) (sv out : List Nat) (R0 : Res) : Prop
  | cut (h : brk t (n + fa) = true) (e : R0 = .bad fa)
  | unk (h : brk t (n + fa) = false) (s : sv = []) (p : 1 ≤ fa) (e : R0 = .bad (fa - 1))
  | go (h : brk t (n + fa) = false) (x : Nat) (s : sv = [x]) (e : Fk.body (t.drop (n + k' + 1)) (k' + 1) (out ++ [x]) = R0) (l : n + k' + 1 ≤ t.length) (m : k ≤ k')
section
variable {c : Bool} {P : Program} {w : World} {K : PySem.W.Frag} {mg : Str → Option Value} {base : Heap}
/-! ### read_text(reader) -/
def spText (c : Bool) (C CT : Addr) : L2.Sp := fun vs H Q E => ∃ (p dx : Addr) (t : List Nat) (n : Nat) (r : List Nat), vs = [.ref p] ∧ H p = some (.ins C dx (flds t n)) ∧ t.length ≤ 8000 ∧ t.drop n = 34 :: r ∧ TokP c CT (Fk.readText (t.drop n)) t n H Q E
theorem scText : FnScope ["reader", "out", "count", "sign", "fault_at", "line", "column", "reason"] ["reader"] (defScope sText) := ⟨rfl, rfl, rfl, by decide +kernel, rfl, by decide +kernel, by decide +kernel⟩
theorem ok_text {f C CT : Addr} {fd : FuncData} (F : FnP K "read_text" "read_text" sText f fd) (R : RdC c P w K mg base C) (FT : FtC P w K mg base CT) (ET : EscT K w mg) : FnG c P w K mg base (CXN P w) 3 f fd ["reader"] (spText c C CT) := by
  refine okG F scText (fun vs H Q E h => ?_) (fun cdv A outer s H vs Q E pn ct h => ?_)
  · obtain ⟨p, dx, t, n, r, rfl, _⟩ := h
    rfl
  · obtain ⟨p, dx, t, n, r, rfl, hp, ht, hr, q⟩ := h
    obtain ⟨dE, es, nE, mE, DE, dE0, dE1, dE2⟩ := ET.ex
    refine ⟨_, pss_cons (ps_set (i := 1) scText.nd rfl (.inl rfl) (pe_lst pa_nil))
      (pss_cons (ps_set (i := 2) scText.nd rfl (.inl rfl) pe_int)
      (pss_cons (ps_while ownG (pt_cmpR op_ne (pe_mG R.s1 ct passG (by decide) (pv 0) (pa_cons (pv 2) pa_nil)) pe_str (nomark _))
        (pss_cons (ps_set (i := 3) scText.nd rfl (.inl rfl) (pe_mG R.s1 ct passG (by decide) (pv 0) (pa_cons (pv 2) pa_nil)))
        (pss_cons (ps_set (i := 4) scText.nd rfl (.inl rfl) (pv 2))
        (C8.pss_cut (ps_if (pt_cmpR op_eq (pv 3) pe_str (nomark _))
            (pss_cons (ps_set (i := 3) scText.nd rfl (.inl rfl) (pe_kget (pe_glob (v := .ref dE) rfl mE rfl) (pe_mG R.s1 ct passG (by decide) (pv 0) (pa_cons (pe_op op_add (pv 2) pe_int) pa_nil)) pe_str ⟨rfl, rfl, rfl, rfl⟩))
            (pss_cons (ps_set (i := 4) scText.nd rfl (.inl rfl) (pe_op op_add (pv 2) pe_int))
            (pss_one (ps_aug (i := 2) scText.nd rfl (.inl rfl) pe_int ip_add)))) pss_nil)
        (pss_cons (ps_if (pt_cmpR op_in_seq (pe_mG R.s1 ct passG (by decide) (pv 0) (pa_cons (pv 4) pa_nil)) (pe_tup (pa_cons pe_str (pa_cons pe_str pa_nil))) rfl)
            (pss_cons (ps_asg (pe_mG R.ah ct passG (by decide) (pv 0) (pa_cons (pv 4) (pa_cons pe_str pa_nil))) (pg_tupG ct (pgs_cons (pg_name (i := 5) scText.nd rfl (.inl rfl)) (pgs_cons (pg_name (i := 6) scText.nd rfl (.inl rfl)) (pgs_cons (pg_name (i := 7) scText.nd rfl (.inl rfl)) pgs_nil)))))
            (pss_one (ps_fault FT ct (Nat.le_refl _) takesG (pa_cons (pv 5) (pa_cons (pv 6) (pa_cons (pv 7) pa_nil)))))) pss_nil)
        (pss_cons (ps_if (pt_cmpR op_eq (pv 3) pe_str (nomark _))
            (pss_cons (ps_asg (pe_mG R.ah ct passG (by decide) (pv 0) (pa_cons (pe_op op_sub (pv 4) pe_int) (pa_cons pe_str pa_nil))) (pg_tupG ct (pgs_cons (pg_name (i := 5) scText.nd rfl (.inl rfl)) (pgs_cons (pg_name (i := 6) scText.nd rfl (.inl rfl)) (pgs_cons (pg_name (i := 7) scText.nd rfl (.inl rfl)) pgs_nil)))))
            (pss_one (ps_fault FT ct (Nat.le_refl _) takesG (pa_cons (pv 5) (pa_cons (pv 6) (pa_cons (pv 7) pa_nil)))))) pss_nil)
        (pss_cons (ps_expr (pe_bm PySem.F.plainAttrs_list PySem.F.slot_list_append PySem.F.type_list_append mt_append (pv 1) (pa_cons (pv 3) pa_nil)))
        (pss_one (ps_aug (i := 2) scText.nd rfl (.inl rfl) pe_int ip_add)))))))))
      (pss_cons (ps_if (pt_cmpR op_gt (pe_callB call_len (by rfl) R.g.len PySem.boot_len (pa_cons (pv 1) pa_nil)) (C8.pe_gc rfl R.g.mLit) (nomark _)) (pss_one (ps_fault FT ct (Nat.le_refl _) takesG (pa_cons (pe_fld (pv 0) rfl) (pa_cons (pe_fld (pv 0) rfl) (pa_cons pe_str pa_nil))))) pss_nil)
      (pss_one (ps_ret (pe_tup (pa_cons pe_str (pa_cons (pe_join pe_str (pv 1)) (pa_cons (pe_op op_add (pv 2) pe_int) pa_nil))))))))), ?_⟩
    have hle : n < t.length := (Fk.drop_cons hr).1
    generalize hR0 : Fk.readText (t.drop n) = R0 at q
    have hbody0 : Fk.body (t.drop (n + 1)) 1 [] = R0 := by
      rw [← hR0]
      unfold Fk.readText
      rw [List.drop_drop]
    refine ⟨by show 0 ≤ sizeLine; exact Nat.zero_le _, fun lo hlo => ?_⟩
    have npl : p ≠ lo := ne_of_none hp hlo
    -- what stands between the turns
    refine ⟨fun m σ H' => ∃ (k : Nat) (out : List Nat) (v3 v4 : Option V), σ = [some (.ref p), some (.ref lo), some (.int (k : Int)), v3, v4, none, none, none] ∧ H' p = some (.ins C dx (flds t n)) ∧ H' lo = some (.lst (chs out)) ∧ Same H H' ∧
      1 ≤ k ∧ n + k ≤ t.length ∧ out.length ≤ k ∧ Fk.body (t.drop (n + k)) k out = R0 ∧ m = t.length - (n + k),
      ⟨_, 1, [], none, none, rfl, by rw [upd_ne npl]; exact hp, upd_same, Same.new hlo, Nat.le_refl _, hle, Nat.zero_le _, hbody0, rfl⟩, ?_⟩
    rintro m σ H1 ⟨k, out, v3, v4, rfl, h1, l1, s1, hk1, hkl, hol, hb, rfl⟩
    have q1 : TokP c CT R0 t n H1 Q E := by
      cases R0 with
      | ok v j => exact fun a H' sm e => q a H' (s1.trans sm) e
      | bad off => exact ⟨q.1, q.2.same s1⟩
    -- a fault
    have flt : ∀ {off : Nat} {H' : Hp}, R0 = .bad off → Same H1 H' → c = true ∧ Wish CT E H' (lin t n) (col t n + (off : Int)) := fun {off H'} e sm => by
      rw [e] at q1
      exact ⟨q1.1, q1.2.same sm⟩
    refine rd_signV (k := k) rfl rfl h1 ht ⟨rfl, _, rfl, ?_⟩
    rw [c_q]
    by_cases hq : ∃ r', t.drop (n + k) = 34 :: r'
    · -- the closing quote
      obtain ⟨r', e1⟩ := hq
      rw [sg_cons e1, vstr]
      refine iff' (by simp) ?_
      rw [e1, Fk.body_q] at hb
      refine ⟨_, rfl, _, (chs out).length, rfl, .inl ⟨_, SqL.of l1, rfl⟩, _, _, rfl, rfl, _, rfl, ?_⟩
      rw [chs_len]
      refine ifd (fun h2 => ?_) (fun h2 => ?_)
      · have h2' : out.length > 100 := by omega
        rw [if_pos h2'] at hb
        obtain ⟨hc, w1⟩ := flt hb.symm (Same.refl _)
        refine ⟨ct.ca.trans hc, _, rfl, p, C, dx, _, _, rfl, h1, R.t.cl, R.t.nL, fld_line _ _ _ _, _, rfl, p, C, dx, _, _, rfl, h1, R.t.cl, R.t.nC, fld_col _ _ _ _, ?_⟩
        exact rd_fault (by simpa using w1)
      · have h2' : ¬ out.length > 100 := by omega
        rw [if_neg h2'] at hb
        rw [← hb] at q1
        refine ⟨⟨_, rfl⟩, _, rfl, _, lo, ((out.map fun c => [c]).map S), rfl, rfl, .inl (by rw [← chs_eq]; exact SqL.of l1), ?_, _, rfl, _, _, rfl, rfl, (by show 3 ≤ sizeLine; decide), fun a ha => ?_⟩
        · rw [sum_ones, c_nil, S_len]
          simp; omega
        · refine q1 a _ (Same.new ha) (upd_same.trans ?_)
          rw [c_nil, join_S, joinL_nil]
          rfl
    · -- a sign of the literal
      have hne : sg t (n + k) ≠ S [34] := fun e => by
        rcases sg_cases t (n + k) with ⟨e1, e2⟩ | ⟨d, r', e1, e2⟩
        · rw [e2] at e
          have := S_inj e
          cases this
        · rw [e2] at e
          have := S_inj e
          cases this
          exact hq ⟨r', e1⟩
      have e34 : (!decide (V.str (sg t (n + k)) = V.str (S [34]))) = true := by
        have : ¬ V.str (sg t (n + k)) = V.str (S [34]) := fun e => hne (V.str.inj e)
        simp [this]
      refine ift e34 ?_
      refine ⟨fun σ' H'' => ∃ m', m' < t.length - (n + k) ∧ ∃ (k : Nat) (out : List Nat) (v3 v4 : Option V), σ' = [some (.ref p), some (.ref lo), some (.int (k : Int)), v3, v4, none, none, none] ∧ H'' p = some (.ins C dx (flds t n)) ∧ H'' lo = some (.lst (chs out)) ∧ Same H H'' ∧
        1 ≤ k ∧ n + k ≤ t.length ∧ out.length ≤ k ∧ Fk.body (t.drop (n + k)) k out = R0 ∧ m' = t.length - (n + k), fun _ _ h => h, ?_⟩
      refine rd_signV (k := k) rfl rfl h1 ht ⟨_, rfl, ?_⟩
      refine ⟨fun σ' H' => H' = H1 ∧ ∃ (k' fa : Nat) (sv : List Nat), σ' = [some (.ref p), some (.ref lo), some (.int (k' : Int)), some (.str (S sv)), some (.int (fa : Int)), none, none, none] ∧ Mid3 t n k k' fa sv out R0, ?_, ?_⟩
      · -- «if sign == "\"»
        refine ⟨_, rfl, rfl, _, rfl, ?_⟩
        rw [c_bs]
        rcases sg_cases t (n + k) with ⟨e1, e2⟩ | ⟨d, r', e1, e2⟩
        · rw [e2, vstr]
          refine iff' (by simp) ?_
          refine ⟨rfl, k, k, [], rfl, .cut (brk_nil e1) ?_⟩
          rw [e1] at hb
          exact hb.symm
        · rw [e2, vstr]
          obtain ⟨dlt, dr, _⟩ := Fk.drop_cons e1
          have hd34 : d ≠ 34 := fun z => hq ⟨r', by rw [e1, z]⟩
          refine ifd (fun h92 => ?_) (fun h92 => ?_)
          · have h92' : d = 92 := by simpa using h92
            subst h92'
            refine ⟨dE, es, nE, rfl, DE, rd_sign (k := k + 1) rfl h1 ht (.inr ⟨rfl, _, rfl, fun R h => ⟨_, rfl, _, _, rfl, rfl, by exact_mod_cast h⟩⟩) ?_⟩
            rw [show n + (k + 1) = n + k + 1 by omega]
            refine ⟨_, rfl, ?_⟩
            rw [e1] at hb
            have fin : ∀ (sv : List Nat), Mid3 t n k (k + 1) (k + 1) sv out R0 → ∃ x, ([some (.ref p), some (.ref lo), some (.int (k : Int)), some (.str (S sv)), some (.int (k : Int)), none, none, none] : L2.St)[2]? = some (some x) ∧
                (∃ i j, x = V.int i ∧ V.int 1 = V.int j ∧ (∃ x', ([some (.ref p), some (.ref lo), some (.int (k : Int)), some (.str (S sv)), some (.int (i + j)), none, none, none] : L2.St)[2]? = some (some x') ∧ (∃ i' j', x' = V.int i' ∧ V.int 1 = V.int j' ∧
                  (H1 = H1 ∧ ∃ (k' fa : Nat) (sv' : List Nat), ([some (.ref p), some (.ref lo), some (.int (i' + j')), some (.str (S sv)), some (.int (i + j)), none, none, none] : L2.St) = [some (.ref p), some (.ref lo), some (.int (k' : Int)), some (.str (S sv')), some (.int (fa : Int)), none, none, none] ∧ Mid3 t n k k' fa sv' out R0)))) := fun sv M =>
              ⟨_, rfl, _, _, rfl, rfl, _, rfl, _, _, rfl, rfl, rfl, k + 1, k + 1, sv, by rw [show (k : Int) + 1 = ((k + 1 : Nat) : Int) by omega], M⟩
            rcases sg_cases t (n + k + 1) with ⟨f1, f2⟩ | ⟨d', r'', f1, f2⟩
            · rw [f2]
              refine ⟨_, dE0, .inl ⟨rfl, ?_⟩⟩
              rw [c_nil]
              rw [dr] at f1
              rw [f1, Fk.body_e0] at hb
              exact fin [] (.cut (by rw [show n + (k + 1) = n + k + 1 by omega]; exact brk_nil (dr.trans f1)) hb.symm)
            · rw [f2]
              have f1' := f1
              rw [dr] at f1
              rw [f1, Fk.body_e] at hb
              have fb : brk t (n + (k + 1)) = decide (d' = 10) := by rw [show n + (k + 1) = n + k + 1 by omega]; exact brk_cons f1'
              obtain ⟨d'lt, dr', _⟩ := Fk.drop_cons f1'
              cases hesc : isEsc d' with
              | true =>
                obtain ⟨u, hu, ru⟩ := dE1 d' hesc
                have d10 : d' ≠ 10 := fun z => by rw [z] at hesc; exact absurd hesc (by decide)
                refine ⟨_, hu, .inr ⟨_, _, rfl, ru, ?_⟩⟩
                rw [if_neg d10, if_pos hesc] at hb
                refine fin [esc d'] (.go (by rw [fb]; simp [d10]) _ rfl ?_ (by omega) (by omega))
                rw [show n + (k + 1) + 1 = n + k + 1 + 1 by omega, dr']
                exact hb
              | false =>
                refine ⟨_, dE2 d' hesc, .inl ⟨rfl, ?_⟩⟩
                rw [c_nil]
                by_cases d10 : d' = 10
                · rw [if_pos d10] at hb
                  exact fin [] (.cut (by rw [fb]; simp [d10]) hb.symm)
                · rw [if_neg d10, if_neg (by rw [hesc]; simp)] at hb
                  exact fin [] (.unk (by rw [fb]; simp [d10]) rfl (by omega) hb.symm)
          · have h92' : d ≠ 92 := fun z => h92 (by rw [z])
            rw [e1] at hb
            refine ⟨rfl, k, k, [d], rfl, ?_⟩
            by_cases d10 : d = 10
            · subst d10
              rw [Fk.body_nl] at hb
              exact .cut (by rw [brk_cons e1]; rfl) hb.symm
            · rw [Fk.body_c hd34 h92' d10] at hb
              refine .go (by rw [brk_cons e1]; simp [d10]) d rfl ?_ dlt (Nat.le_refl _)
              rw [dr]
              exact hb
      · -- the tests, and on
        rintro σ' H' ⟨rfl, k', fa, sv, rfl, M⟩
        refine rd_signV (k := fa) rfl rfl h1 ht ⟨(by show 2 ≤ sizeLine; decide), fun a ha => ⟨a, _, rfl, .inr (SqT.of upd_same), rfl, rfl, _, rfl, ?_⟩⟩
        have h2 : (upd H' a (.tup [V.str (Str.ofString ""), V.str (Str.ofString "\n")])) p = some (.ins C dx (flds t n)) := by rw [upd_ne (ne_of_none h1 ha)]; exact h1
        have l2 : (upd H' a (.tup [V.str (Str.ofString ""), V.str (Str.ofString "\n")])) lo = some (.lst (chs out)) := by rw [upd_ne (ne_of_none l1 ha)]; exact l1
        have s2 : Same H' (upd H' a (.tup [V.str (Str.ofString ""), V.str (Str.ofString "\n")])) := Same.new ha
        show if inV (.str (sg t (n + fa))) [V.str (Str.ofString ""), V.str (Str.ofString "\n")] = true then _ else _
        generalize upd H' a (.tup [V.str (Str.ofString ""), V.str (Str.ofString "\n")]) = H2 at h2 l2 s2
        have eb : inV (.str (sg t (n + fa))) [V.str (Str.ofString ""), V.str (Str.ofString "\n")] = brk t (n + fa) := in2 _
        rw [eb]
        rcases M with ⟨hbk, eR⟩ | ⟨hbk, rfl, p1, eR⟩ | ⟨hbk, x, rfl, eB, hl, hm⟩
        · refine ift hbk ?_
          refine rd_ahead (k := fa) rfl h2 (fun R h => ⟨_, rfl, h⟩) fun b hb2 => ?_
          obtain ⟨hc, w1⟩ := flt eR (s2.trans (Same.new hb2))
          refine ⟨b, _, rfl, SqT.of upd_same, rfl, _, _, rfl, _, _, rfl, _, _, rfl, rfl, ?_⟩
          refine ⟨ct.ca.trans hc, _, rfl, _, rfl, _, rfl, ?_⟩
          exact rd_fault w1
        · refine iff' hbk ?_
          refine ⟨_, rfl, rfl, _, rfl, ?_⟩
          rw [c_nil, vstr]
          refine ift (by simp) ?_
          refine rd_ahead (k := fa - 1) rfl h2 (fun R h => ⟨_, rfl, _, _, rfl, rfl, ?_⟩) fun b hb2 => ?_
          · show R (V.int ((fa : Int) - 1)) H2
            rw [show (fa : Int) - 1 = ((fa - 1 : Nat) : Int) by omega]
            exact h
          obtain ⟨hc, w1⟩ := flt eR (s2.trans (Same.new hb2))
          refine ⟨b, _, rfl, SqT.of upd_same, rfl, _, _, rfl, _, _, rfl, _, _, rfl, rfl, ?_⟩
          refine ⟨ct.ca.trans hc, _, rfl, _, rfl, _, rfl, ?_⟩
          exact rd_fault w1
        · refine iff' hbk ?_
          refine ⟨_, rfl, rfl, _, rfl, ?_⟩
          rw [c_nil, vstr]
          refine iff' (by simp) ?_
          refine ⟨_, rfl, .inl ⟨rfl, _, SqL.of l2⟩, _, rfl, lo, _, _, rfl, rfl, l2, (by rw [chs_len]; exact lt_line (by omega)), ?_⟩
          refine ⟨_, rfl, _, _, rfl, rfl, t.length - (n + k' + 1), by omega, k' + 1, out ++ [x], _, _, rfl, ?_, ?_, ?_, by omega, by omega, by simp; omega, ?_, by omega⟩
          · rw [upd_ne npl]; exact h2
          · rw [upd_same, chs_snoc]
          · intro b o e
            rw [upd_ne (ne_of_none e hlo)]
            exact s2 b o (s1 b o e)
          · rw [show n + (k' + 1) = n + k' + 1 by omega]
            exact eB
end
end FkW

namespace FkW
open PySem PySem.Spec PyProof.Rows L2 FkG SX
open Fk (posR posR_zero isWord isDig blen dlen wlen TokV Res isEsc esc)
section
variable {c : Bool} {P : Program} {w : World} {K : PySem.W.Frag} {mg : Str → Option Value} {base : Heap}
/-! ### read_token(reader) -/
def spTok (c : Bool) (C CT : Addr) : L2.Sp := fun vs H Q E => ∃ (p dx : Addr) (t : List Nat) (n : Nat), vs = [.ref p] ∧ H p = some (.ins C dx (flds t n)) ∧ t.length ≤ 8000 ∧ t.drop n ≠ [] ∧ TokP c CT (Fk.readTok kwf (t.drop n)) t n H Q E
theorem scTok : FnScope ["reader"] ["reader"] (defScope sTok) := ⟨rfl, rfl, rfl, by decide +kernel, rfl, by decide +kernel, by decide +kernel⟩
theorem ok_tok {f C CT : Addr} {fd : FuncData} (F : FnP K "read_token" "read_token" sTok f fd) (R : RdC c P w K mg base C) (NM : CalG c P w K mg base 3 "read_name" (spName c C CT) []) (NU : CalG c P w K mg base 3 "read_number" (spNum c C CT) [])
    (TX : CalG c P w K mg base 3 "read_text" (spText c C CT) []) (SG : CalG c P w K mg base 3 "read_sign" (spSgn c C CT) []) : FnG c P w K mg base (CXN P w) 4 f fd ["reader"] (spTok c C CT) := by
  refine okG F scTok (fun vs H Q E h => ?_) (fun cdv A outer s H vs Q E pn ct h => ?_)
  · obtain ⟨p, dx, t, n, rfl, _⟩ := h
    rfl
  · obtain ⟨p, dx, t, n, rfl, hp, ht, hne, q⟩ := h
    refine ⟨_, pss_cons (ps_if (pt_cmpR op_in_sign (pe_m0G R.s0 ct passG (by decide) (pv 0)) (C8.pe_gc rfl R.g.let_) rfl) (pss_one (ps_ret (pe_cG NM ct passG (Nat.le_refl _) rfl (pa_cons (pv 0) pa_nil)))) pss_nil)
      (pss_cons (ps_if (pt_cmpR op_in_sign (pe_m0G R.s0 ct passG (by decide) (pv 0)) (C8.pe_gc rfl R.g.dig) rfl) (pss_one (ps_ret (pe_cG NU ct passG (Nat.le_refl _) rfl (pa_cons (pv 0) pa_nil)))) pss_nil)
      (pss_cons (ps_if (pt_cmpR op_eq (pe_m0G R.s0 ct passG (by decide) (pv 0)) pe_str (nomark _)) (pss_one (ps_ret (pe_cG TX ct passG (Nat.le_refl _) rfl (pa_cons (pv 0) pa_nil)))) pss_nil)
      (pss_one (ps_ret (pe_cG SG ct passG (Nat.le_refl _) rfl (pa_cons (pv 0) pa_nil)))))), ?_⟩
    rcases sg_cases t n with ⟨e1, e2⟩ | ⟨d, r, e1, e2⟩
    · exact absurd e1 hne
    · have q' : TokP c CT (if d ∈ Fk.LET then Fk.readName kwf (t.drop n) else if d ∈ Fk.DIG then Fk.readNum (t.drop n) else if d = 34 then Fk.readText (t.drop n) else Fk.readSign (t.drop n)) t n H Q E := by
        rw [e1] at q ⊢
        exact q
      refine rd_sign0 rfl hp ht ⟨d, _, (by rw [e2]), rfl, _, rfl, ?_⟩
      refine ifd (fun h1 => ?_) (fun h1 => ?_)
      · have h1' : d ∈ Fk.LET := h1
        rw [if_pos h1'] at q'
        exact ⟨_, rfl, p, dx, t, n, rfl, hp, ht, q'⟩
      · have h1' : ¬ d ∈ Fk.LET := h1
        rw [if_neg h1'] at q'
        refine rd_sign0 rfl hp ht ⟨d, _, (by rw [e2]), rfl, _, rfl, ?_⟩
        refine ifd (fun h2 => ?_) (fun h2 => ?_)
        · have h2' : d ∈ Fk.DIG := h2
          rw [if_pos h2'] at q'
          refine ⟨_, rfl, p, dx, t, n, rfl, hp, ht, ?_, q'⟩
          rw [e1]; exact Fk.dlen_pos h2'
        · have h2' : ¬ d ∈ Fk.DIG := h2
          rw [if_neg h2'] at q'
          refine rd_sign0 rfl hp ht ⟨rfl, _, rfl, ?_⟩
          rw [e2, c_q, vstr]
          refine ifd (fun h3 => ?_) (fun h3 => ?_)
          · have h3' : d = 34 := by simpa using h3
            rw [if_pos h3'] at q'
            exact ⟨_, rfl, p, dx, t, n, r, rfl, hp, ht, (by rw [e1, h3']), q'⟩
          · have h3' : ¬ d = 34 := fun z => h3 (by rw [z])
            rw [if_neg h3'] at q'
            exact ⟨_, rfl, p, dx, t, n, rfl, hp, ht, hne, q'⟩

/-! ### tokens(text) -/
/-- the tokens l stand at the addresses rs -/
inductive TkAt (H : Hp) (t : List Nat) : List (TokV × Nat) → List Addr → Prop
  | nil : TkAt H t [] []
  | cons {v : TokV} {n : Nat} {a : Addr} {l : List (TokV × Nat)} {rs : List Addr} (h : H a = some (.tup [kindV v, valT v, .int (lin t n), .int (col t n)])) (r : TkAt H t l rs) : TkAt H t ((v, n) :: l) (a :: rs)
theorem TkAt.snoc {H : Hp} {t : List Nat} {v : TokV} {n : Nat} {a : Addr} (h : H a = some (.tup [kindV v, valT v, .int (lin t n), .int (col t n)])) : ∀ {l : List (TokV × Nat)} {rs : List Addr}, TkAt H t l rs → TkAt H t (l ++ [(v, n)]) (rs ++ [a])
  | _, _, .nil => .cons h .nil
  | _, _, .cons h' r => .cons h' (TkAt.snoc h r)
theorem TkAt.mono {H H' : Hp} {t : List Nat} : ∀ {l : List (TokV × Nat)} {rs : List Addr}, TkAt H t l rs → (∀ b xs, H b = some (.tup xs) → H' b = some (.tup xs)) → TkAt H' t l rs
  | _, _, .nil, _ => .nil
  | _, _, .cons h r, k => .cons (k _ _ h) (TkAt.mono r k)
theorem TkAt.len {H : Hp} {t : List Nat} : ∀ {l : List (TokV × Nat)} {rs : List Addr}, TkAt H t l rs → rs.length = l.length
  | _, _, .nil => rfl
  | _, _, .cons h r => by simp [TkAt.len r]
def spToks (c : Bool) (CT : Addr) : L2.Sp := fun vs H Q E => ∃ t : List Nat, vs = [.str (S t)] ∧ t.length ≤ 8000 ∧
  (match Fk.toks kwf t with
    | .ok l => ∀ (a : Addr) (H' : Hp) (rs : List Addr), Same H H' → H' a = some (.tup (rs.map V.ref)) → TkAt H' t l rs → Q (.ref a) H'
    | .error q => c = true ∧ Wish CT E H (lin t q) (col t q))
theorem scToks : FnScope ["text", "reader", "found", "kind", "value", "count"] ["text"] (defScope sToks) := ⟨rfl, rfl, rfl, by decide +kernel, rfl, by decide +kernel, by decide +kernel⟩
theorem snoc_refs (rs : List Addr) (a : Addr) : rs.map V.ref ++ [V.ref a] = (rs ++ [a]).map V.ref := by simp
theorem ok_toks {f C CT : Addr} {fd : FuncData} (F : FnP K "tokens" "tokens" sToks f fd) (R : RdC c P w K mg base C) (MK : MakG c P w K mg base 1 "Reader" C (spRdInit C)) (SK : CalG c P w K mg base 2 "skip_blanks" (spSkip C) [])
    (TK : CalG c P w K mg base 4 "read_token" (spTok c C CT) []) : FnG c P w K mg base (CXN P w) 5 f fd ["text"] (spToks c CT) := by
  refine okG F scToks (fun vs H Q E h => ?_) (fun cdv A outer s H vs Q E pn ct h => ?_)
  · obtain ⟨t, rfl, _⟩ := h
    rfl
  · obtain ⟨t, rfl, ht, q⟩ := h
    refine ⟨_, pss_cons (ps_if (pt_cmpR op_gt (pe_callB call_len (by rfl) R.g.len PySem.boot_len (pa_cons (pv 0) pa_nil)) (C8.pe_gc rfl R.g.mChar) (nomark _)) (pss_one ps_never) pss_nil)
      (pss_cons (ps_set (i := 1) scToks.nd rfl (.inl rfl) (pe_mkG MK ct passG (by decide) rfl (pa_cons (pv 0) pa_nil)))
      (pss_cons (ps_set (i := 2) scToks.nd rfl (.inl rfl) (pe_lst pa_nil))
      (pss_cons (ps_expr (pe_cG SK ct passG (by decide) rfl (pa_cons (pv 1) pa_nil)))
      (pss_cons (ps_while ownG (pt_cmpR op_ne (pe_m0G R.s0 ct passG (by decide) (pv 1)) pe_str (nomark _))
        (pss_cons (ps_asg (pe_cG TK ct passG (Nat.le_refl _) rfl (pa_cons (pv 1) pa_nil)) (pg_tupG ct (pgs_cons (pg_name (i := 3) scToks.nd rfl (.inl rfl)) (pgs_cons (pg_name (i := 4) scToks.nd rfl (.inl rfl)) (pgs_cons (pg_name (i := 5) scToks.nd rfl (.inl rfl)) pgs_nil)))))
        (pss_cons (ps_expr (pe_bm PySem.F.plainAttrs_list PySem.F.slot_list_append PySem.F.type_list_append mt_append (pv 2) (pa_cons (pe_tup (pa_cons (pv 3) (pa_cons (pv 4) (pa_cons (pe_fld (pv 1) rfl) (pa_cons (pe_fld (pv 1) rfl) pa_nil))))) pa_nil)))
        (pss_cons (ps_expr (pe_mG R.mv ct passG (by decide) (pv 1) (pa_cons (pv 5) pa_nil)))
        (pss_one (ps_expr (pe_cG SK ct passG (by decide) rfl (pa_cons (pv 1) pa_nil))))))))
      (pss_cons (ps_expr (pe_bm PySem.F.plainAttrs_list PySem.F.slot_list_append PySem.F.type_list_append mt_append (pv 2) (pa_cons (pe_tup (pa_cons pe_str (pa_cons pe_str (pa_cons (pe_fld (pv 1) rfl) (pa_cons (pe_fld (pv 1) rfl) pa_nil))))) pa_nil)))
      (pss_one (ps_ret (pe_callTy call_tuple_of (by rfl) R.g.tuple (by decide +kernel) (pa_cons (pv 2) pa_nil))))))))), ?_⟩
    refine ⟨_, rfl, _, t.length, rfl, ⟨(by rw [S_len]; exact le_line (by omega)), (by rw [S_len])⟩, _, _, rfl, rfl, _, rfl, ?_⟩
    refine iff' (decide_eq_false (by omega)) ?_
    refine ⟨_, rfl, fun p dx np ndx nex => ⟨p, dx, t, rfl, upd_same, rfl, ?_⟩⟩
    rw [upd_upd]
    have s0 : Same H (upd (upd H dx (.own p)) p (.ins C dx (flds t 0))) := fun b o e => by
      rw [upd_ne (ne_of_none e np), upd_ne (ne_of_none e ndx)]; exact e
    have p0 : (upd (upd H dx (.own p)) p (.ins C dx (flds t 0))) p = some (.ins C dx (flds t 0)) := upd_same
    generalize upd (upd H dx (.own p)) p (.ins C dx (flds t 0)) = H0 at s0 p0 ⊢
    refine ⟨Nat.zero_le _, fun lo hlo => ?_⟩
    have npl : p ≠ lo := ne_of_none p0 hlo
    have hlo' : H lo = none := s0.free hlo
    have hnp : ∀ {b : Addr} {o : HO}, H b = some o → b ≠ p := fun e => ne_of_none e np
    refine ⟨_, rfl, p, dx, t, 0, rfl, (by rw [upd_ne npl]; exact p0), Nat.zero_le _, ht, fun H1 k1 p1 => ?_⟩
    -- behind the tokens acc
    refine ⟨fun m σ H' => ∃ (n f : Nat) (acc : List (TokV × Nat)) (rs : List Addr) (v3 v4 v5 : Option V), σ = [some (.str (S t)), some (.ref p), some (.ref lo), v3, v4, v5] ∧ H' p = some (.ins C dx (flds t n)) ∧ H' lo = some (.lst (rs.map V.ref)) ∧ TkAt H' t acc rs ∧ Same H H' ∧
      n ≤ t.length ∧ acc.length ≤ n ∧ t.length - n < f ∧ Fk.toks kwf t = (match Fk.scan kwf t f n with
        | .ok l => .ok (acc ++ l)
        | .error e => .error e) ∧ m = t.length - n,
      ⟨_, 0 + blen false (t.drop 0), t.length + 1, [], [], none, none, none, rfl, p1, k1 lo _ (Ne.symm npl) upd_same, .nil, fun b o e => k1 b o (hnp e) (by rw [upd_ne (ne_of_none e hlo')]; exact s0 b o e), ?_, Nat.zero_le _, by omega, ?_, rfl⟩, ?_⟩
    · rw [List.drop_zero, Nat.zero_add]; exact Fk.blen_le false t
    · rw [List.drop_zero, Nat.zero_add]
      unfold Fk.toks
      cases Fk.scan kwf t (t.length + 1) (blen false t) <;> rfl
    rintro m σ H2 ⟨n, fu, acc, rs, v3, v4, v5, rfl, p2, l2, a2, s2, hn, hacc, hfu, htk, rfl⟩
    obtain ⟨fu, rfl⟩ : ∃ g, fu = g + 1 := ⟨fu - 1, by omega⟩
    refine rd_sign0 rfl p2 ht ⟨rfl, _, rfl, ?_⟩
    rw [c_nil]
    have hrl := a2.len
    rcases sg_cases t n with ⟨e1, e2⟩ | ⟨d, r, e1, e2⟩
    · -- the end
      rw [e2, vstr]
      refine iff' (by simp) ?_
      rw [Fk.scan_end e1] at htk
      have en : n = t.length := by
        have := List.drop_eq_nil_iff.mp e1
        omega
      refine ⟨_, rfl, .inl ⟨rfl, _, SqL.of l2⟩, _, rfl, p, C, dx, _, _, rfl, p2, R.t.cl, R.t.nL, fld_line _ _ _ _, _, rfl, p, C, dx, _, _, rfl, p2, R.t.cl, R.t.nC, fld_col _ _ _ _, (by show 4 ≤ sizeLine; decide), fun b hb => ?_⟩
      have l3 : (upd H2 b (.tup [V.str (Str.ofString "end"), V.str (S []), V.int (lin t n), V.int (col t n)])) lo = some (.lst (rs.map V.ref)) := by rw [upd_ne (ne_of_none l2 hb)]; exact l2
      refine ⟨lo, _, _, rfl, rfl, l3, (by rw [List.length_map, hrl]; exact lt_line (by omega)), ?_⟩
      rw [snoc_refs]
      have hblo : b ≠ lo := (ne_of_none l2 hb).symm
      have a3 := (a2.mono (H' := upd (upd H2 b (.tup [V.str (Str.ofString "end"), V.str (S []), V.int (lin t n), V.int (col t n)])) lo (.lst ((rs ++ [b]).map V.ref))) (fun x xs e => by
        rw [upd_ne (ne_of e l2 (by intro z; cases z)), upd_ne (ne_of_none e hb)]; exact e)).snoc (v := .fin) (n := n) (a := b) (by rw [upd_ne hblo, upd_same]; rfl)
      have s3 : Same H (upd (upd H2 b (.tup [V.str (Str.ofString "end"), V.str (S []), V.int (lin t n), V.int (col t n)])) lo (.lst ((rs ++ [b]).map V.ref))) := fun x o e => by
        rw [upd_ne (ne_of_none e hlo'), upd_ne (ne_of_none (s2 x o e) hb)]; exact s2 x o e
      have l4 : (upd (upd H2 b (.tup [V.str (Str.ofString "end"), V.str (S []), V.int (lin t n), V.int (col t n)])) lo (.lst ((rs ++ [b]).map V.ref))) lo = some (.lst ((rs ++ [b]).map V.ref)) := upd_same
      generalize upd (upd H2 b (.tup [V.str (Str.ofString "end"), V.str (S []), V.int (lin t n), V.int (col t n)])) lo (.lst ((rs ++ [b]).map V.ref)) = H3 at a3 s3 l4
      refine ⟨_, rfl, lo, _, rfl, .inl ⟨SqL.of l4, fun a ha => ?_⟩⟩
      rw [htk] at q
      refine q a _ (rs ++ [b]) (s3.trans (Same.new ha)) upd_same (a3.mono fun x xs e => Same.new ha x _ e)
    · -- a token
      rw [e2, vstr]
      refine ift (by simp) ?_
      have hne : t.drop n ≠ [] := by rw [e1]; simp
      obtain ⟨nlt, _, _⟩ := Fk.drop_cons e1
      refine ⟨fun σ' H'' => ∃ m', m' < t.length - n ∧ ∃ (n f : Nat) (acc : List (TokV × Nat)) (rs : List Addr) (v3 v4 v5 : Option V), σ' = [some (.str (S t)), some (.ref p), some (.ref lo), v3, v4, v5] ∧ H'' p = some (.ins C dx (flds t n)) ∧ H'' lo = some (.lst (rs.map V.ref)) ∧ TkAt H'' t acc rs ∧ Same H H'' ∧
        n ≤ t.length ∧ acc.length ≤ n ∧ t.length - n < f ∧ Fk.toks kwf t = (match Fk.scan kwf t f n with
          | .ok l => .ok (acc ++ l)
          | .error e => .error e) ∧ m' = t.length - n, fun _ _ h => h, ?_⟩
      refine ⟨_, rfl, p, dx, t, n, rfl, p2, ht, hne, ?_⟩
      have hdl : (t.drop n).length = t.length - n := List.length_drop
      cases hrt : Fk.readTok kwf (t.drop n) with
      | bad off =>
        have hof := Fk.readTok_bad hrt
        have hfl := Fk.fl_len (t.drop n)
        rw [Fk.scan_bad hne hrt] at htk
        rw [htk] at q
        have ep := Fk.posR_add (t := t) (n := n) (k := off) (by omega) (Fk.fl_take_no hof)
        have q' : c = true ∧ Wish CT E H (lin t n) (col t n + (off : Int)) := by
          have q0 : c = true ∧ Wish CT E H (lin t (n + off)) (col t (n + off)) := q
          have e3 : lin t (n + off) = lin t n := by unfold lin; rw [ep]
          have e4 : col t (n + off) = col t n + (off : Int) := by unfold col; rw [ep]; simp; omega
          rw [e3, e4] at q0
          exact q0
        exact ⟨q'.1, q'.2.same s2⟩
      | ok v k =>
        obtain ⟨k1', k2', k3', k4'⟩ := Fk.readTok_ok hrt
        have hfl := Fk.fl_len (t.drop n)
        rw [Fk.scan_ok hne hrt] at htk
        intro a H3 s3 h3
        have p3 := s3 _ _ p2
        have l3 := s3 _ _ l2
        refine ⟨a, _, rfl, SqT.of h3, rfl, _, _, rfl, _, _, rfl, _, _, rfl, rfl, ?_⟩
        refine ⟨_, rfl, .inl ⟨rfl, _, SqL.of l3⟩, _, rfl, _, rfl, _, rfl, p, C, dx, _, _, rfl, p3, R.t.cl, R.t.nL, fld_line _ _ _ _, _, rfl, p, C, dx, _, _, rfl, p3, R.t.cl, R.t.nC, fld_col _ _ _ _, (by show 4 ≤ sizeLine; decide), fun b hb => ?_⟩
        have l4 : (upd H3 b (.tup [kindV v, valT v, V.int (lin t n), V.int (col t n)])) lo = some (.lst (rs.map V.ref)) := by rw [upd_ne (ne_of_none l3 hb)]; exact l3
        refine ⟨lo, _, _, rfl, rfl, l4, (by rw [List.length_map, hrl]; exact lt_line (by omega)), ?_⟩
        rw [snoc_refs]
        have hblo : b ≠ lo := (ne_of_none l3 hb).symm
        have hbp : b ≠ p := (ne_of_none p3 hb).symm
        have tup_p : ∀ {x : Addr} {xs : List V}, H3 x = some (.tup xs) → x ≠ p := fun e => ne_of e p3 (by intro z; cases z)
        have tup_l : ∀ {x : Addr} {xs : List V}, H3 x = some (.tup xs) → x ≠ lo := fun e => ne_of e l3 (by intro z; cases z)
        have a3 := a2.mono (H' := H3) (fun x xs e => s3 x _ e)
        have a4 : TkAt (upd (upd H3 b (.tup [kindV v, valT v, V.int (lin t n), V.int (col t n)])) lo (.lst ((rs ++ [b]).map V.ref))) t (acc ++ [(v, n)]) (rs ++ [b]) := (a3.mono (fun x xs e => by
          rw [upd_ne (tup_l e), upd_ne (ne_of_none e hb)]; exact e)).snoc (by rw [upd_ne hblo, upd_same])
        have p5 : (upd (upd H3 b (.tup [kindV v, valT v, V.int (lin t n), V.int (col t n)])) lo (.lst ((rs ++ [b]).map V.ref))) p = some (.ins C dx (flds t n)) := by rw [upd_ne npl, upd_ne (Ne.symm hbp)]; exact p3
        have l5 : (upd (upd H3 b (.tup [kindV v, valT v, V.int (lin t n), V.int (col t n)])) lo (.lst ((rs ++ [b]).map V.ref))) lo = some (.lst ((rs ++ [b]).map V.ref)) := upd_same
        have s5 : Same H (upd (upd H3 b (.tup [kindV v, valT v, V.int (lin t n), V.int (col t n)])) lo (.lst ((rs ++ [b]).map V.ref))) := fun x o e => by
          have := s3 x o (s2 x o e)
          rw [upd_ne (ne_of_none e hlo'), upd_ne (ne_of_none this hb)]; exact this
        generalize upd (upd H3 b (.tup [kindV v, valT v, V.int (lin t n), V.int (col t n)])) lo (.lst ((rs ++ [b]).map V.ref)) = H5 at a4 p5 l5 s5
        refine rd_moveV (k := k) rfl rfl p5 (by omega) ht ?_
        refine ⟨_, rfl, p, dx, t, n + k, rfl, upd_same, by omega, ht, fun H6 k6 p6 => ?_⟩
        have kp : KeepBut p H5 H6 := (KeepBut.refl p H5).upd.trans k6
        have tup5 : ∀ {x : Addr} {xs : List V}, H5 x = some (.tup xs) → x ≠ p := fun e => ne_of e p5 (by intro z; cases z)
        have hbl := Fk.blen_le false (t.drop (n + k))
        have hdl2 : (t.drop (n + k)).length = t.length - (n + k) := List.length_drop
        refine ⟨_, ?_, n + k + blen false (t.drop (n + k)), fu, acc ++ [(v, n)], rs ++ [b], _, _, _, rfl, p6, kp lo _ (Ne.symm npl) l5, a4.mono (fun x xs e => kp x _ (tup5 e) e), fun x o e => kp x o (hnp e) (s5 x o e), by omega, by simp; omega, by omega, ?_, rfl⟩
        · omega
        · rw [htk]
          cases Fk.scan kwf t fu (n + k + blen false (t.drop (n + k))) with
          | ok l => simp
          | error e => rfl
end
end FkW

namespace FkW
open PySem PySem.Spec PyProof.Rows L2 FkG SX
open Fk (posR posR_zero isWord isDig blen dlen wlen TokV Res isEsc esc)
abbrev sCell : Stmt := top 25
abbrev sDigits : Stmt := top 26
abbrev sDraw : Stmt := top 27
abbrev sLSign : Stmt := top 28
abbrev sSpelled : Stmt := top 31
abbrev sLText : Stmt := top 36
abbrev sLines : Stmt := top 37
abbrev sBlank : Stmt := top 38
abbrev sFits : Stmt := top 39
abbrev sLen : Stmt := top 40
abbrev sCov : Stmt := top 41
abbrev sLaw : Stmt := top 42
structure LwT (mg : Str → Option Value) : Prop where
  len : mg "len" = none
  int : mg "int" = none
  range : mg "range" = none
  tuple : mg "tuple" = none
  sum : mg "sum" = none
  isi : mg "isinstance" = none
section
variable {P : Program} {w : World} {K : PySem.W.Frag} {mg : Str → Option Value} {base : Heap}
/-! ### _law_cell(script, k): some int -/
def spCell (K : PySem.W.Frag) : L2.Sp := fun vs H Q _ => ∃ (a : Addr) (ns : List Int) (k : Nat), vs = [.ref a, .int (k : Int)] ∧ SqL K H a (ns.map V.int) ∧ ∀ i : Int, Q (.int i) H
theorem scCell : FnScope ["_law_script", "_law_k"] ["_law_script", "_law_k"] (defScope sCell) := ⟨rfl, rfl, rfl, by decide +kernel, rfl, by decide +kernel, by decide +kernel⟩
theorem ok_cell {f : Addr} {fd : FuncData} (F : FnP K "_law_cell" "_law_cell" sCell f fd) (T : LwT mg) : FnG true P w K mg base (CXN P w) 1 f fd ["_law_script", "_law_k"] (spCell K) := by
  refine okG F scCell (fun vs H Q E h => ?_) (fun cdv A outer s H vs Q E pn ct h => ?_)
  · obtain ⟨a, ns, k, rfl, _⟩ := h
    rfl
  · obtain ⟨a, ns, k, rfl, hS, q⟩ := h
    refine ⟨_, pss_cons (ps_if (pt_cmpR op_lt (pv 1) (pe_callB call_len (by rfl) T.len PySem.boot_len (pa_cons (pv 0) pa_nil)) (nomark _)) (pss_one (ps_ret (pe_ix ix_list (pv 0) (pv 1) (fun _ _ => rfl)))) pss_nil)
      (pss_one (ps_ret pe_int)), ?_⟩
    refine ⟨_, rfl, _, rfl, _, (ns.map V.int).length, rfl, .inl ⟨_, hS, rfl⟩, _, _, rfl, rfl, _, rfl, ?_⟩
    refine ifd (fun h1 => ?_) (fun h1 => ?_)
    · have hlt : k < ns.length := by
        have : (k : Int) < ((ns.map V.int).length : Int) := h1
        simp at this; omega
      refine ⟨_, rfl, _, rfl, a, _, _, _, rfl, rfl, hS, atI_nat (j := k) (v := V.int ns[k]) (by simp [hlt]), q _⟩
    · exact q 0

/-! ### _law_digits(script, 0, 63): a new list of ints -/
def spDigits (K : PySem.W.Frag) : L2.Sp := fun vs H Q _ => ∃ (a : Addr) (ns : List Int), vs = [.ref a, .int 0, .int 63] ∧ SqL K H a (ns.map V.int) ∧
  ∀ (H' : Hp) (p : Addr) (ds : List Int), Same H H' → H p = none → H' p = some (.lst (ds.map V.int)) → ds.length ≤ 3780 → Q (.ref p) H'
theorem scDigits : FnScope ["_law_script", "_law_first", "_law_last", "_law_digits_here", "_law_k", "_law_cell_here", "_law_turn", "_law_seed"] ["_law_script", "_law_first", "_law_last"] (defScope sDigits) := ⟨rfl, rfl, rfl, by decide +kernel, rfl, by decide +kernel, by decide +kernel⟩
theorem snoc_int (ds : List Int) (i : Int) : ds.map V.int ++ [V.int i] = (ds ++ [i]).map V.int := by simp
theorem ok_digits {f : Addr} {fd : FuncData} (F : FnP K "_law_digits" "_law_digits" sDigits f fd) (T : LwT mg) (CE : CalG true P w K mg base 1 "_law_cell" (spCell K) []) : FnG true P w K mg base (CXN P w) 2 f fd ["_law_script", "_law_first", "_law_last"] (spDigits K) := by
  refine okG F scDigits (fun vs H Q E h => ?_) (fun cdv A outer s H vs Q E pn ct h => ?_)
  · obtain ⟨a, ns, rfl, _⟩ := h
    rfl
  · obtain ⟨a, ns, rfl, hS, q⟩ := h
    refine ⟨_, pss_cons (ps_set (i := 3) scDigits.nd rfl (.inl rfl) (pe_lst pa_nil))
      (pss_cons (ps_for ownG ct.ca (pi_range2 (by rfl) T.range (pa_cons (pv 1) (pa_cons (pv 2) pa_nil))) (pg_name (i := 4) scDigits.nd rfl (.inl rfl))
        (pss_cons (ps_set (i := 5) scDigits.nd rfl (.inl rfl) (pe_cG CE ct passG (by decide) rfl (pa_cons (pv 0) (pa_cons (pv 4) pa_nil))))
        (C8.pss_cut (ps_if (pt_cmpR op_lt (pv 5) pe_int (nomark _)) (pss_one (ps_set (i := 5) scDigits.nd rfl (.inl rfl) (pe_op op_sub pe_int (pe_op op_mul pe_int (pv 5))))) pss_nil)
        (pss_one (ps_if (pt_cmpR op_ge (pv 5) (pe_op op_pow pe_int pe_int) (nomark _))
          (pss_one (ps_for ownG ct.ca (pi_range1 (by rfl) T.range (pa_cons pe_int pa_nil)) (pg_name (i := 6) scDigits.nd rfl (.inl rfl))
            (pss_one (ps_if (pt_cmpR op_gt (pv 5) pe_int (nomark _))
              (pss_cons (ps_expr (pe_bm PySem.F.plainAttrs_list PySem.F.slot_list_append PySem.F.type_list_append mt_append (pv 3) (pa_cons (pe_op op_mod (pe_callTy call_int1 (by rfl) T.int (by decide +kernel) (pa_cons (pv 5) pa_nil)) pe_int) pa_nil)))
                (pss_one (ps_set (i := 5) scDigits.nd rfl (.inl rfl) (pe_op op_fdiv (pv 5) pe_int)))) pss_nil))))
          (pss_cons (ps_set (i := 7) scDigits.nd rfl (.inl rfl) (pe_op op_mod (pe_callTy call_int1 (by rfl) T.int (by decide +kernel) (pa_cons (pe_op op_add (pe_op op_add (pe_op op_mul (pv 5) pe_int) (pe_op op_mul (pv 4) pe_int)) pe_int) pa_nil)) pe_int))
          (pss_one (ps_for ownG ct.ca (pi_range1 (by rfl) T.range (pa_cons pe_int pa_nil)) (pg_name (i := 6) scDigits.nd rfl (.inl rfl))
            (pss_cons (ps_set (i := 7) scDigits.nd rfl (.inl rfl) (pe_op op_mod (pe_callTy call_int1 (by rfl) T.int (by decide +kernel) (pa_cons (pe_op op_add (pe_op op_add (pe_op op_mul (pv 7) pe_int) (pe_op op_mul pe_int (pv 6))) pe_int) pa_nil)) pe_int))
            (pss_one (ps_expr (pe_bm PySem.F.plainAttrs_list PySem.F.slot_list_append PySem.F.type_list_append mt_append (pv 3) (pa_cons (pe_op op_mod (pe_callTy call_int1 (by rfl) T.int (by decide +kernel) (pa_cons (pe_op op_fdiv (pv 7) pe_int) pa_nil)) pe_int) pa_nil)))))))))))))
      (pss_one (ps_ret (pv 3)))), ?_⟩
    refine ⟨Nat.zero_le _, fun lo hlo => ?_⟩
    refine ⟨_, rfl, _, rfl, 0, 63, rfl, ⟨by decide, by decide, by decide, by decide⟩, for_range (lo := 0) (n := (63 - 0 : Int).toNat)
      (fun i σ H' => ∃ (ds : List Int) (v4 v5 v6 v7 : Option V), σ = [some (.ref a), some (.int 0), some (.int 63), some (.ref lo), v4, v5, v6, v7] ∧ H' lo = some (.lst (ds.map V.int)) ∧ ds.length ≤ 60 * i ∧ Same H H')
      ⟨[], none, none, none, none, rfl, upd_same, Nat.zero_le _, Same.new hlo⟩ ?_ ?_⟩
    · rintro i σ H1 hi ⟨ds, v4, v5, v6, v7, rfl, l1, hds, s1⟩
      have hi' : i < 63 := hi
      refine ⟨_, rfl, _, rfl, a, ns, i, ?_, s1.seq hS, fun ce => ?_⟩
      · show [V.ref a, V.int (0 + (i : Int))] ++ [] = [V.ref a, V.int (i : Int)]
        rw [Int.zero_add]; rfl
      refine ⟨fun σ' H' => H' = H1 ∧ ∃ ce' : Int, σ' = [some (.ref a), some (.int 0), some (.int 63), some (.ref lo), some (.int (0 + (i : Int))), some (.int ce'), v6, v7], ?_, ?_⟩
      · refine ⟨_, rfl, _, _, rfl, rfl, _, rfl, ?_⟩
        refine ifd (fun _ => ?_) (fun _ => ?_)
        · exact ⟨_, rfl, _, _, rfl, rfl, .inl ⟨by decide, by decide⟩, _, _, rfl, rfl, rfl, _, rfl⟩
        · exact ⟨rfl, _, rfl⟩
      · rintro σ' H' ⟨rfl, ce', rfl⟩
        refine ⟨_, rfl, _, _, rfl, rfl, ⟨by decide, by decide, by decide⟩, _, _, rfl, rfl, _, rfl, ?_⟩
        refine ifd (fun _ => ?_) (fun _ => ?_)
        · refine ⟨60, rfl, by decide, by decide, for_range (lo := 0) (n := (60 : Int).toNat)
            (fun j σ H'' => ∃ (ds' : List Int) (ce2 : Int) (v6 : Option V), σ = [some (.ref a), some (.int 0), some (.int 63), some (.ref lo), some (.int (0 + (i : Int))), some (.int ce2), v6, v7] ∧ H'' lo = some (.lst (ds'.map V.int)) ∧ ds'.length ≤ 60 * i + j ∧ Same H H'')
            ⟨ds, ce', v6, rfl, l1, by omega, s1⟩ ?_ ?_⟩
          · rintro j σ H2 hj ⟨ds', ce2, v6', rfl, l2, hds', s2⟩
            have hj' : j < 60 := hj
            refine ⟨_, rfl, _, _, rfl, rfl, _, rfl, ?_⟩
            refine ifd (fun _ => ?_) (fun _ => ?_)
            · refine ⟨_, rfl, .inl ⟨rfl, _, SqL.of l2⟩, _, rfl, .inl ⟨_, rfl, _, _, rfl, rfl, (by show (0 : Int) < 1000; decide), ?_⟩⟩
              refine ⟨lo, _, _, rfl, rfl, l2, (by rw [List.length_map]; exact lt_line (by omega)), ?_⟩
              rw [snoc_int]
              refine ⟨_, rfl, _, _, rfl, rfl, ⟨by decide, by decide⟩, _, _, _, rfl, upd_same, by simp; omega, fun b o e => ?_⟩
              rw [upd_ne (ne_of_none e hlo)]; exact s2 b o e
            · exact ⟨ds', ce2, _, rfl, l2, by omega, s2⟩
          · rintro σ H2 ⟨ds', ce2, v6', rfl, l2, hds', s2⟩
            have e60 : (60 : Int).toNat = 60 := rfl
            rw [e60] at hds'
            exact ⟨ds', _, _, _, _, rfl, l2, by omega, s2⟩
        · refine ⟨_, rfl, _, _, rfl, rfl, .inr ⟨by decide, by decide⟩, _, rfl, _, _, rfl, rfl, .inr ⟨by decide, by decide⟩, _, _, rfl, rfl, _, _, rfl, rfl, .inl ⟨_, rfl, _, _, rfl, rfl, (by show (0 : Int) < 2147483647; decide), ?_⟩⟩
          refine ⟨12, rfl, by decide, by decide, for_range (lo := 0) (n := (12 : Int).toNat)
            (fun j σ H'' => ∃ (ds' : List Int) (se : Int) (v6 : Option V), σ = [some (.ref a), some (.int 0), some (.int 63), some (.ref lo), some (.int (0 + (i : Int))), some (.int ce'), v6, some (.int se)] ∧ H'' lo = some (.lst (ds'.map V.int)) ∧ ds'.length ≤ 60 * i + j ∧ Same H H'')
            ⟨ds, _, v6, rfl, l1, by omega, s1⟩ ?_ ?_⟩
          · rintro j σ H2 hj ⟨ds', se, v6', rfl, l2, hds', s2⟩
            have hj' : j < 12 := hj
            refine ⟨_, rfl, _, _, rfl, rfl, .inr ⟨by decide, by decide⟩, _, rfl, _, _, rfl, rfl, .inl ⟨by decide, by decide⟩, _, _, rfl, rfl, _, _, rfl, rfl, .inl ⟨_, rfl, _, _, rfl, rfl, (by show (0 : Int) < 2147483647; decide), ?_⟩⟩
            refine ⟨_, rfl, .inl ⟨rfl, _, SqL.of l2⟩, _, rfl, _, _, rfl, rfl, ⟨by decide, by decide⟩, .inl ⟨_, rfl, _, _, rfl, rfl, (by show (0 : Int) < 1000; decide), ?_⟩⟩
            refine ⟨lo, _, _, rfl, rfl, l2, (by rw [List.length_map]; exact lt_line (by omega)), ?_⟩
            rw [snoc_int]
            refine ⟨_, _, _, rfl, upd_same, by simp; omega, fun b o e => ?_⟩
            rw [upd_ne (ne_of_none e hlo)]; exact s2 b o e
          · rintro σ H2 ⟨ds', se, v6', rfl, l2, hds', s2⟩
            have e12 : (12 : Int).toNat = 12 := rfl
            rw [e12] at hds'
            exact ⟨ds', _, _, _, _, rfl, l2, by omega, s2⟩
    · rintro σ H1 ⟨ds, v4, v5, v6, v7, rfl, l1, hds, s1⟩
      have e63 : (63 - 0 : Int).toNat = 63 := rfl
      rw [e63] at hds
      exact ⟨_, rfl, q H1 lo ds s1 hlo l1 (by omega)⟩
end
end FkW

namespace FkW
open PySem PySem.Spec PyProof.Rows L2 FkG SX
open Fk (posR posR_zero isWord isDig blen dlen wlen TokV Res isEsc esc)
theorem at_some {z : List Nat} {r : Int} (h0 : 0 ≤ r) (h1 : r < (z.length : Int)) : ∃ c, atI z r = some c := by
  obtain ⟨k, rfl⟩ := Int.eq_ofNat_of_zero_le h0
  have hk : k < z.length := by omega
  exact ⟨z[k], atI_nat (by simp [hk])⟩
/-- x * k, x a text -/
theorem op_mul_str {X : Cx} : OpR X (binaryOp .Mult) (fun x y H Q => ∃ (z : Str) (k : Int), x = .str z ∧ y = .int k ∧ MulOk z k ∧ Q (.str (Txt.mul z k)) H) := by
  intro pins s σ H x y v u Q I rx ry h
  obtain ⟨z, k, rfl, rfl, ok, q⟩ := h
  obtain ⟨t, rfl⟩ := rx
  obtain ⟨t', rfl⟩ := ry
  exact SB.mul ok fun t2 k2 => ⟨.str _, H, I.tok _, ⟨_, rfl⟩, q⟩
theorem mul2_len (z : Str) : (Txt.mul z 2).length ≤ z.length + z.length := by
  unfold Txt.mul
  rw [if_neg (by decide)]
  split
  · omega
  · show ((List.replicate 2 z.cps).foldl (· ++ ·) #[]).size ≤ _
    simp [Str.length, List.replicate]
theorem mulOk2 {z : Str} (h : z.length ≤ 100) : MulOk z 2 := by
  refine ⟨by decide, fun _ _ => ?_, fun _ _ => ?_⟩
  · have : ((2 ^ 63 - 1) / 2 : Int) = 4611686018427387903 := by decide
    omega
  · show Builtin.Str.tooLong (z.length * 2) = false
    have h1 : sizeLine = 16777216 := sizeLine_eq
    unfold Builtin.Str.tooLong
    exact decide_eq_false (by omega)
/-! ### lines -/
theorem pre10 (c : Nat) (r : List Nat) : TL.pre [10] (c :: r) = decide (c = 10) := by
  unfold TL.pre
  by_cases h : c = 10
  · subst h; rfl
  · simp [h]
theorem spl_lns : ∀ (t acc : List Nat), TL.spl [10] 0 acc t = (match Fk.lns t with
    | h :: q => (acc ++ h) :: q
    | [] => [])
  | [], acc => by
    rw [TL.spl_nil]
    simp [Fk.lns]
  | c :: r, acc => by
    by_cases hc : c = 10
    · subst hc
      rw [TL.spl_hit (by rw [pre10]; rfl), Fk.lns_nl]
      have e : TL.spl [10] ([10].length - 1) [] r = TL.spl [10] 0 [] r := rfl
      rw [e, spl_lns r []]
      cases h : Fk.lns r with
      | nil => exact absurd h (Fk.lns_ne r)
      | cons a q => simp
    · rw [TL.spl_miss (by rw [pre10]; simp [hc]), spl_lns r (acc ++ [c])]
      obtain ⟨h, q, e1, e2⟩ := Fk.lns_cons hc r
      rw [e1, e2]
      simp
theorem split_lns (t : List Nat) : Txt.split (S t) (S [10]) = (Fk.lns t).map S := by
  rw [split_S (by simp) (by decide), spl_lns]
  cases h : Fk.lns t with
  | nil => exact absurd h (Fk.lns_ne t)
  | cons a q => simp
def linesV (t : List Nat) : List V := (Fk.lns t).map fun l => V.str (S l)
theorem linesV_eq (t : List Nat) : ((Fk.lns t).map S).map V.str = linesV t := by simp [linesV]

section
variable {P : Program} {w : World} {K : PySem.W.Frag} {mg : Str → Option Value} {base : Heap}
/-! ### _law_draw(box, many) -/
def boxV (d : Addr) (n : Nat) : HO := .lst [.ref d, .int (n : Int)]
def spDraw : L2.Sp := fun vs H Q _ => ∃ (b d : Addr) (ds : List Int) (n : Nat) (many : Int), vs = [.ref b, .int many] ∧ 0 < many ∧ H b = some (boxV d n) ∧ H d = some (.lst (ds.map V.int)) ∧ b ≠ d ∧ ∀ r : Int, 0 ≤ r → r < many → Q (.int r) (upd H b (boxV d (n + 1)))
theorem scDraw : FnScope ["_law_box", "_law_many", "_law_at"] ["_law_box", "_law_many"] (defScope sDraw) := ⟨rfl, rfl, rfl, by decide +kernel, rfl, by decide +kernel, by decide +kernel⟩
theorem ok_draw {f : Addr} {fd : FuncData} (F : FnP K "_law_draw" "_law_draw" sDraw f fd) (T : LwT mg) : FnG true P w K mg base (CXN P w) 1 f fd ["_law_box", "_law_many"] spDraw := by
  refine okG F scDraw (fun vs H Q E h => ?_) (fun cdv A outer s H vs Q E pn ct h => ?_)
  · obtain ⟨b, d, ds, n, many, rfl, _⟩ := h
    rfl
  · obtain ⟨b, d, ds, n, many, rfl, hm, hb, hd, hne, q⟩ := h
    refine ⟨_, pss_cons (ps_set (i := 2) scDraw.nd rfl (.inl rfl) (pe_ix ix_list (pv 0) pe_int (fun _ _ => rfl)))
      (pss_cons (ps_asg (pe_op op_add (pv 2) pe_int) (pg_sub (pv 0) pe_int set_list))
      (pss_cons (ps_if (pt_cmpR op_lt (pv 2) (pe_callB call_len (by rfl) T.len PySem.boot_len (pa_cons (pe_ix ix_list (pv 0) pe_int (fun _ _ => rfl)) pa_nil)) (nomark _))
        (pss_one (ps_ret (pe_op op_mod (pe_callTy call_int1 (by rfl) T.int (by decide +kernel) (pa_cons (pe_ix ix_list (pe_ix ix_list (pv 0) pe_int (fun _ _ => rfl)) (pv 2) (fun _ _ => rfl)) pa_nil)) (pv 1)))) pss_nil)
      (pss_one (ps_ret pe_int)))), ?_⟩
    refine ⟨_, rfl, b, _, _, _, rfl, rfl, SqL.of hb, rfl, ?_⟩
    refine ⟨_, rfl, _, _, rfl, rfl, _, rfl, b, _, _, 1, rfl, rfl, hb, rfl, ?_⟩
    have e1 : (HO.lst (([V.ref d, V.int (n : Int)] : List V).set 1 (V.int ((n : Int) + 1)))) = boxV d (n + 1) := rfl
    rw [e1]
    have hd' : (upd H b (boxV d (n + 1))) d = some (.lst (ds.map V.int)) := by rw [upd_ne (Ne.symm hne)]; exact hd
    refine ⟨_, rfl, _, rfl, b, _, _, _, rfl, rfl, SqL.of upd_same, rfl, _, (ds.map V.int).length, rfl, .inl ⟨_, SqL.of hd', rfl⟩, _, _, rfl, rfl, _, rfl, ?_⟩
    refine ifd (fun h1 => ?_) (fun h1 => ?_)
    · have hlt : n < ds.length := by
        have : (n : Int) < ((ds.map V.int).length : Int) := h1
        simp at this; omega
      refine ⟨_, rfl, b, _, _, _, rfl, rfl, SqL.of upd_same, rfl, _, rfl, d, _, _, _, rfl, rfl, SqL.of hd', atI_nat (j := n) (v := V.int ds[n]) (by simp [hlt]), .inl ⟨_, rfl, _, rfl, _, _, rfl, rfl, hm, ?_⟩⟩
      exact q _ (Int.emod_nonneg _ (by omega)) (Int.emod_lt_of_pos _ hm)
    · exact q 0 (by omega) hm
/-! ### _law_sign(box): some sign -/
def spLSign : L2.Sp := fun vs H Q _ => ∃ (b d : Addr) (ds : List Int) (n : Nat), vs = [.ref b] ∧ H b = some (boxV d n) ∧ H d = some (.lst (ds.map V.int)) ∧ b ≠ d ∧ ∀ x : Nat, Q (.str (S [x])) (upd H b (boxV d (n + 1)))
theorem scLSign : FnScope ["_law_box", "_law_signs"] ["_law_box"] (defScope sLSign) := ⟨rfl, rfl, rfl, by decide +kernel, rfl, by decide +kernel, by decide +kernel⟩
theorem ok_lsign {f : Addr} {fd : FuncData} (F : FnP K "_law_sign" "_law_sign" sLSign f fd) (DR : CalG true P w K mg base 1 "_law_draw" spDraw []) : FnG true P w K mg base (CXN P w) 2 f fd ["_law_box"] spLSign := by
  refine okG F scLSign (fun vs H Q E h => ?_) (fun cdv A outer s H vs Q E pn ct h => ?_)
  · obtain ⟨b, d, ds, n, rfl, _⟩ := h
    rfl
  · obtain ⟨b, d, ds, n, rfl, hb, hd, hne, q⟩ := h
    refine ⟨_, pss_cons (ps_set (i := 1) scLSign.nd rfl (.inl rfl) pe_str)
      (pss_cons (ps_set (i := 1) scLSign.nd rfl (.inl rfl) (pe_op op_add_str (pv 1) pe_str))
      (pss_one (ps_ret (pe_ix ix_str (pv 1) (pe_cG DR ct passG (by decide) rfl (pa_cons (pv 0) (pa_cons pe_int pa_nil))) (fun _ _ => rfl))))), ?_⟩
    refine ⟨_, rfl, _, _, rfl, rfl, (by decide +kernel), _, rfl, _, rfl, b, d, ds, n, 95, rfl, by decide, hb, hd, hne, fun r h0 h1 => ?_⟩
    refine ⟨_, r, (at_some h0 (Int.lt_of_lt_of_le h1 (by decide +kernel))).choose, rfl, rfl, (by decide +kernel), (at_some h0 (Int.lt_of_lt_of_le h1 (by decide +kernel))).choose_spec, ?_⟩
    exact q _
/-! ### _law_text(box): some text -/
def spLText : L2.Sp := fun vs H Q _ => ∃ (b d : Addr) (ds : List Int) (n : Nat), vs = [.ref b] ∧ H b = some (boxV d n) ∧ H d = some (.lst (ds.map V.int)) ∧ b ≠ d ∧ ∀ (t : List Nat) (m : Nat), t.length ≤ 150 → Q (.str (S t)) (upd H b (boxV d m))
theorem scLText : FnScope ["_law_box", "_law_text_here", "_law_k"] ["_law_box"] (defScope sLText) := ⟨rfl, rfl, rfl, by decide +kernel, rfl, by decide +kernel, by decide +kernel⟩
theorem ok_ltext {f : Addr} {fd : FuncData} (F : FnP K "_law_text" "_law_text" sLText f fd) (T : LwT mg) (DR : CalG true P w K mg base 1 "_law_draw" spDraw []) (SG : CalG true P w K mg base 2 "_law_sign" spLSign []) : FnG true P w K mg base (CXN P w) 3 f fd ["_law_box"] spLText := by
  refine okG F scLText (fun vs H Q E h => ?_) (fun cdv A outer s H vs Q E pn ct h => ?_)
  · obtain ⟨b, d, ds, n, rfl, _⟩ := h
    rfl
  · obtain ⟨b, d, ds, n, rfl, hb, hd, hne, q⟩ := h
    refine ⟨_, pss_cons (ps_set (i := 1) scLText.nd rfl (.inl rfl) pe_str)
      (pss_cons (ps_for ownG ct.ca (pi_range1 (by rfl) T.range (pa_cons (pe_cG DR ct passG (by decide) rfl (pa_cons (pv 0) (pa_cons pe_int pa_nil))) pa_nil)) (pg_name (i := 2) scLText.nd rfl (.inl rfl))
        (pss_one (ps_if (pt_cmpR op_eq (pe_cG DR ct passG (by decide) rfl (pa_cons (pv 0) (pa_cons pe_int pa_nil))) pe_int (nomark _))
          (pss_one (ps_set (i := 1) scLText.nd rfl (.inl rfl) (pe_op op_add_str (pv 1) (pe_ix ix_str pe_str (pe_cG DR ct passG (by decide) rfl (pa_cons (pv 0) (pa_cons pe_int pa_nil))) (fun _ _ => rfl)))))
          (pss_one (ps_set (i := 1) scLText.nd rfl (.inl rfl) (pe_op op_add_str (pv 1) (pe_cG SG ct passG (by decide) rfl (pa_cons (pv 0) pa_nil))))))))
      (pss_cons (ps_if (pt_cmpR op_eq (pe_cG DR ct passG (by decide) rfl (pa_cons (pv 0) (pa_cons pe_int pa_nil))) pe_int (nomark _))
        (pss_one (ps_set (i := 1) scLText.nd rfl (.inl rfl) (pe_op op_add_str (pv 1) (pe_op op_mul_str (pe_slice sl_str (pv 1) po_none (po_some pe_int)) pe_int)))) pss_nil)
      (pss_one (ps_ret (pv 1))))), ?_⟩
    have hd2 : ∀ m, (upd H b (boxV d m)) d = some (.lst (ds.map V.int)) := fun m => by rw [upd_ne (Ne.symm hne)]; exact hd
    refine ⟨_, rfl, b, d, ds, n, 120, rfl, by decide, hb, hd, hne, fun r h0 h1 => ?_⟩
    refine ⟨r, rfl, by omega, by omega, for_range (lo := 0) (n := r.toNat)
      (fun i σ H' => ∃ (t : List Nat) (m : Nat) (v2 : Option V), σ = [some (.ref b), some (.str (S t)), v2] ∧ H' = upd H b (boxV d m) ∧ t.length ≤ i)
      ⟨[], n + 1, none, by rw [← c_nil]; rfl, rfl, Nat.le_refl _⟩ ?_ ?_⟩
    · rintro i σ H' hi ⟨t, m, v2, rfl, rfl, ht⟩
      refine ⟨_, rfl, b, d, ds, m, 2, rfl, by decide, upd_same, hd2 m, hne, fun r2 g0 g1 => ?_⟩
      rw [upd_upd]
      refine ⟨rfl, _, rfl, ?_⟩
      refine ifd (fun _ => ?_) (fun _ => ?_)
      · refine ⟨_, rfl, _, rfl, b, d, ds, m + 1, 11, rfl, by decide, upd_same, hd2 _, hne, fun r3 f0 f1 => ?_⟩
        rw [upd_upd]
        refine ⟨_, r3, (at_some f0 (Int.lt_of_lt_of_le f1 (by decide +kernel))).choose, rfl, rfl, (by decide +kernel), (at_some f0 (Int.lt_of_lt_of_le f1 (by decide +kernel))).choose_spec, ?_⟩
        refine ⟨_, _, rfl, rfl, ?_, ?_⟩
        · rw [S_len]; exact le_line (by show t.length + 1 ≤ 100000; omega)
        · exact ⟨t ++ [_], m + 1 + 1, _, by rw [← S_cat]; rfl, rfl, by simp; omega⟩
      · refine ⟨_, rfl, _, rfl, b, d, ds, m + 1, rfl, upd_same, hd2 _, hne, fun x => ?_⟩
        rw [upd_upd]
        refine ⟨_, _, rfl, rfl, ?_, ?_⟩
        · rw [S_len]; exact le_line (by show t.length + 1 ≤ 100000; omega)
        · exact ⟨t ++ [x], m + 1 + 1, _, by rw [← S_cat]; rfl, rfl, by simp; omega⟩
    · rintro σ H' ⟨t, m, v2, rfl, rfl, ht⟩
      have ht' : t.length < 120 := by omega
      refine ⟨_, rfl, b, d, ds, m, 4, rfl, by decide, upd_same, hd2 m, hne, fun r2 g0 g1 => ?_⟩
      rw [upd_upd]
      refine ⟨rfl, _, rfl, ?_⟩
      refine ifd (fun _ => ?_) (fun _ => ?_)
      · refine ⟨_, rfl, _, rfl, _, rfl, _, rfl, (by rw [S_len]; exact le_line (by omega)), ?_⟩
        have hc : (cutS (S t) none (some 15)).length ≤ 15 := by
          show (((S t).cps.toList.drop (HT.sIx (S t).length 0 none)).take (HT.sIx (S t).length (S t).length (some ((15 : Nat) : Int)) - HT.sIx (S t).length 0 none)).toArray.size ≤ 15
          rw [HT.sIx_nat, HT.sIx_none, List.size_toArray, List.length_take]
          omega
        have hm2 := mul2_len (cutS (S t) none (some 15))
        refine ⟨_, 2, rfl, rfl, mulOk2 (by omega), ?_⟩
        refine ⟨_, _, rfl, rfl, ?_, ?_⟩
        · rw [S_len]; exact le_line (by omega)
        · refine ⟨_, rfl, ?_⟩
          have e : S t ++ Txt.mul (cutS (S t) none (some 15)) 2 = S (t ++ (Txt.mul (cutS (S t) none (some 15)) 2).cps.toList) := by
            rw [← S_cat, S_tl]
          rw [e]
          refine q _ _ ?_
          have h3 : (Txt.mul (cutS (S t) none (some 15)) 2).length ≤ 30 := by omega
          have h4 : (Txt.mul (cutS (S t) none (some 15)) 2).cps.toList.length ≤ 30 := by
            rw [Array.length_toList]
            exact h3
          rw [List.length_append]
          omega
      · exact ⟨_, rfl, q t _ (by omega)⟩
/-! ### _law_lines(text) -/
def spLines : L2.Sp := fun vs H Q _ => ∃ t : List Nat, vs = [.str (S t)] ∧ t.length ≤ 8000 ∧ ∀ p, H p = none → Q (.ref p) (upd H p (.lst (linesV t)))
theorem scLines : FnScope ["_law_text_here"] ["_law_text_here"] (defScope sLines) := ⟨rfl, rfl, rfl, by decide +kernel, rfl, by decide +kernel, by decide +kernel⟩
theorem ok_lines {f : Addr} {fd : FuncData} (F : FnP K "_law_lines" "_law_lines" sLines f fd) : FnG true P w K mg base (CXN P w) 1 f fd ["_law_text_here"] spLines := by
  refine okG F scLines (fun vs H Q E h => ?_) (fun cdv A outer s H vs Q E pn ct h => ?_)
  · obtain ⟨t, rfl, _⟩ := h
    rfl
  · obtain ⟨t, rfl, ht, q⟩ := h
    refine ⟨_, pss_one (ps_ret (pe_split (pv 0) pe_str)), ?_⟩
    refine ⟨_, rfl, ⟨_, rfl⟩, _, _, rfl, rfl, (by decide +kernel), (by rw [S_len]; exact le_line (by omega)), fun p hp => ?_⟩
    rw [c_nl, split_lns, linesV_eq]
    exact q p hp
end
end FkW

namespace FkW
open PySem PySem.Spec PyProof.Rows L2 FkG SX
open Fk (posR posR_zero isWord isDig blen dlen wlen TokV Res isEsc esc)
/-! ### strip(" ") -/
theorem goes32 (c : Nat) : (S [32]).cps.contains c = decide (c = 32) := by
  show (#[32] : Array Nat).contains c = decide (c = 32)
  by_cases h : c = 32
  · subst h; simp
  · simp [h]
theorem strip_tl (x y : Str) : (Txt.stripChars x y).cps.toList = (x.cps.toList.drop (PySem.stripLo y.cps.contains true x)).take (PySem.stripHi y.cps.contains true x (PySem.stripLo y.cps.contains true x) - PySem.stripLo y.cps.contains true x) := by
  unfold Txt.stripChars Txt.stripBy
  split
  · rename_i h
    unfold PySem.stripSame at h
    simp only [Bool.and_eq_true, beq_iff_eq] at h
    obtain ⟨h1, h2⟩ := h
    rw [h1] at h2 ⊢
    rw [h2, List.drop_zero, Nat.sub_zero, List.take_of_length_le (by rw [Array.length_toList]; exact Nat.le_refl _)]
  · unfold PySem.stripped
    exact TL.tl_strSub x _ _
theorem tw_all {p : Nat → Bool} : ∀ l : List Nat, (∀ c ∈ l, p c = true) → l.takeWhile p = l
  | [], _ => rfl
  | c :: r, h => by
    rw [List.takeWhile_cons, if_pos (h c (List.mem_cons_self ..)), tw_all r fun x hx => h x (List.mem_cons_of_mem _ hx)]
theorem strip_sp {l : List Nat} (h : Fk.Spc l) : Txt.stripChars (S l) (S [32]) = S [] := by
  refine TL.ext_tl ?_
  show (Txt.stripChars (S l) (S [32])).cps.toList = []
  rw [strip_tl]
  have e : PySem.stripLo (S [32]).cps.contains true (S l) = l.length := by
    unfold PySem.stripLo
    rw [if_pos rfl]
    show (l.takeWhile _).length = l.length
    rw [tw_all l fun c hc => by rw [goes32]; simp [h c hc]]
  rw [e]
  show (l.drop l.length).take _ = []
  simp
theorem tw_rep {p : Nat → Bool} (hp : p 32 = true) (hq : p 35 = false) (x : List Nat) : ∀ k : Nat, ((List.replicate k 32 ++ 35 :: x).takeWhile p).length = k
  | 0 => by simp [hq]
  | k + 1 => by
    have := tw_rep hp hq x k
    rw [List.replicate_succ, List.cons_append, List.takeWhile_cons, if_pos hp, List.length_cons, this]
theorem strip_hash {l x : List Nat} {k : Nat} (h : l = List.replicate k 32 ++ 35 :: x) : ∃ y, Txt.stripChars (S l) (S [32]) = S (35 :: y) := by
  have g32 : (S [32]).cps.contains 32 = true := by rw [goes32]; rfl
  have g35 : (S [32]).cps.contains 35 = false := by rw [goes32]; rfl
  have e : PySem.stripLo (S [32]).cps.contains true (S l) = k := by
    unfold PySem.stripLo
    rw [if_pos rfl]
    show (l.takeWhile _).length = k
    rw [h]
    exact tw_rep g32 g35 x k
  have hd : l.drop k = 35 :: x := by rw [h]; simp
  have hl : l.length = k + 1 + x.length := by rw [h]; simp; omega
  have tl : (Txt.stripChars (S l) (S [32])).cps.toList = (35 :: x).take (PySem.stripHi (S [32]).cps.contains true (S l) k - k) := by
    rw [strip_tl, e]
    show (l.drop k).take _ = _
    rw [hd]
  have hhi : k + 1 ≤ PySem.stripHi (S [32]).cps.contains true (S l) k := by
    unfold PySem.stripHi
    rw [if_pos rfl, S_len]
    show k + 1 ≤ l.length - ((l.drop k).reverse.takeWhile _).length
    rw [hd, List.reverse_cons]
    have : ∀ z : List Nat, ((z ++ [35]).takeWhile (S [32]).cps.contains).length ≤ z.length := by
      intro z
      induction z with
      | nil => simp [g35]
      | cons c z ih =>
        rw [List.cons_append, List.takeWhile_cons]
        split
        · simpa using ih
        · simp
    have := this x.reverse
    rw [List.length_reverse] at this
    omega
  obtain ⟨j, hj⟩ : ∃ j, PySem.stripHi (S [32]).cps.contains true (S l) k - k = j + 1 := ⟨PySem.stripHi (S [32]).cps.contains true (S l) k - k - 1, by omega⟩
  rw [hj, List.take_succ_cons] at tl
  exact ⟨x.take j, TL.ext_tl tl⟩
theorem linesV_get {g : List Nat} {i : Nat} {x : V} (h : (linesV g)[i]? = some x) : ∃ l, l ∈ Fk.lns g ∧ (Fk.lns g)[i]? = some l ∧ x = .str (S l) := by
  unfold linesV at h
  rw [List.getElem?_map] at h
  cases e : (Fk.lns g)[i]? with
  | none => rw [e] at h; cases h
  | some l =>
    rw [e] at h
    exact ⟨l, List.mem_of_getElem? e, rfl, (Option.some.inj h).symm⟩
theorem lns_len : ∀ (g : List Nat) (l : List Nat), l ∈ Fk.lns g → l.length ≤ g.length
  | [], l, h => by simp [Fk.lns] at h; simp [h]
  | c :: r, l, h => by
    by_cases hc : c = 10
    · subst hc
      rw [Fk.lns_nl] at h
      rcases List.mem_cons.mp h with h | h
      · simp [h]
      · have := lns_len r l h; simp; omega
    · obtain ⟨a, q, e1, e2⟩ := Fk.lns_cons hc r
      rw [e2] at h
      rcases List.mem_cons.mp h with h | h
      · have := lns_len r a (by rw [e1]; simp)
        rw [h]; simp; omega
      · have := lns_len r l (by rw [e1]; exact List.mem_cons_of_mem _ h)
        simp; omega
theorem c_bsn : Str.ofString "\\n" = S [92, 110] := by decide +kernel
theorem c_dig : Str.ofString "0123456789" = S Fk.DIG := by decide +kernel
section
variable {P : Program} {w : World} {K : PySem.W.Frag} {mg : Str → Option Value} {base : Heap}
/-! ### _law_blank(text) -/
def spBlank : L2.Sp := fun vs H Q _ => ∃ g : List Nat, vs = [.str (S g)] ∧ g.length ≤ 8000 ∧ (∀ l ∈ Fk.lns g, Fk.LineOk l) ∧ ∀ H', Same H H' → Q (.bl true) H'
theorem scBlank : FnScope ["_law_text_here", "_law_line"] ["_law_text_here"] (defScope sBlank) := ⟨rfl, rfl, rfl, by decide +kernel, rfl, by decide +kernel, by decide +kernel⟩
theorem ok_blank {f : Addr} {fd : FuncData} (F : FnP K "_law_blank" "_law_blank" sBlank f fd) : FnG true P w K mg base (CXN P w) 1 f fd ["_law_text_here"] spBlank := by
  refine okG F scBlank (fun vs H Q E h => ?_) (fun cdv A outer s H vs Q E pn ct h => ?_)
  · obtain ⟨g, rfl, _⟩ := h
    rfl
  · obtain ⟨g, rfl, hg, hl, q⟩ := h
    refine ⟨_, pss_cons (ps_for ownG ct.ca (pi_list (pe_split (pv 0) pe_str)) (pg_name (i := 1) scBlank.nd rfl (.inl rfl))
        (pss_one (ps_if (PW.pt (pw_and (pt_cmpR op_ne (pe_bm PySem.F.plainAttrs_str PySem.F.slot_str_strip PySem.F.type_str_strip mt_stripChars (pv 1) (pa_cons pe_str pa_nil)) pe_str (nomark _))
            (pw_and1 (pt_cmpR op_ne (pe_ix ix_str (pe_bm PySem.F.plainAttrs_str PySem.F.slot_str_strip PySem.F.type_str_strip mt_stripChars (pv 1) (pa_cons pe_str pa_nil)) pe_int (fun _ _ => rfl)) pe_str (nomark _)))))
          (pss_one (ps_ret pe_bl)) pss_nil)))
      (pss_one (ps_ret pe_bl)), ?_⟩
    refine ⟨_, rfl, ⟨_, rfl⟩, _, _, rfl, rfl, (by decide +kernel), (by rw [S_len]; exact le_line (by omega)), fun p hp => ?_⟩
    rw [c_nl, split_lns, linesV_eq]
    refine ⟨p, rfl, ⟨_, SqL.of upd_same⟩, for_list (K := K) (a := p) (xs := linesV g) (fun i σ H' => ∃ v1 : Option V, σ = [some (.str (S g)), v1] ∧ H' = upd H p (.lst (linesV g)))
      ⟨none, rfl, rfl⟩ (fun i σ H' _ ⟨_, _, e⟩ => by rw [e]; exact SqL.of upd_same) ?_ ?_⟩
    · rintro i x σ H' hi ⟨v1, rfl, rfl⟩
      obtain ⟨l, hm, _, rfl⟩ := linesV_get hi
      have hll := lns_len g l hm
      refine ⟨_, rfl, rfl, _, _, rfl, rfl, (by rw [S_len]; exact le_line (by omega)), rfl, _, rfl, ?_⟩
      rw [c_sp, c_nil]
      rcases hl l hm with h | ⟨k, x, h⟩
      · rw [strip_sp h, vstr]
        refine iff' (by simp) (iteF ?_)
        exact ⟨_, rfl, rfl⟩
      · obtain ⟨y, e⟩ := strip_hash h
        have hle : (S (35 :: y)).length ≤ sizeLine := by
          rw [← e]
          have h1 : (Txt.stripChars (S l) (S [32])).cps.toList.length ≤ (S l).cps.toList.length := by
            rw [strip_tl, List.length_take, List.length_drop]; omega
          have h2 : (Txt.stripChars (S l) (S [32])).length ≤ l.length := by
            have : (Txt.stripChars (S l) (S [32])).length = (Txt.stripChars (S l) (S [32])).cps.toList.length := TL.len_tl _
            rw [this]
            exact h1
          exact le_line (by omega)
        rw [e, vstr]
        refine ift (by simp) ?_
        refine ⟨_, rfl, rfl, _, _, rfl, rfl, (by rw [S_len]; exact le_line (by omega)), ?_⟩
        rw [e]
        refine ⟨_, _, 35, rfl, rfl, hle, (by exact atI_nat (j := 0) (v := 35) rfl), rfl, _, rfl, ?_⟩
        have e35 : (!decide (V.str ⟨#[35]⟩ = V.str (Str.ofString "#"))) = false := by
          rw [c_hash]
          exact (congrArg Bool.not (vstr [35] [35])).trans rfl
        refine iff' e35 ?_
        exact ⟨_, rfl, rfl⟩
    · rintro σ H' ⟨v1, rfl, rfl⟩
      exact q _ (Same.new hp)
/-! ### _law_spelled(characters) -/
def spSpelled : L2.Sp := fun vs H Q _ => ∃ l : List Nat, vs = [.str (S l)] ∧ l.length ≤ 8000 ∧ Q (.str (S (Fk.spelled l))) H
theorem scSpelled : FnScope ["_law_characters_here", "_law_text_here", "_law_sign_here"] ["_law_characters_here"] (defScope sSpelled) := ⟨rfl, rfl, rfl, by decide +kernel, rfl, by decide +kernel, by decide +kernel⟩
theorem sp1_len (c : Nat) : (Fk.sp1 c).length ≤ 2 := by
  unfold Fk.sp1
  split
  · simp
  · split <;> simp
theorem spell_len : ∀ l : List Nat, (Fk.spell l).length ≤ 2 * l.length
  | [] => by simp [Fk.spell]
  | c :: r => by
    have := spell_len r
    have h2 := sp1_len c
    have e : Fk.spell (c :: r) = Fk.sp1 c ++ Fk.spell r := by simp [Fk.spell]
    rw [e, List.length_append, List.length_cons]
    omega
theorem ok_spelled {f : Addr} {fd : FuncData} (F : FnP K "_law_spelled" "_law_spelled" sSpelled f fd) : FnG true P w K mg base (CXN P w) 1 f fd ["_law_characters_here"] spSpelled := by
  refine okG F scSpelled (fun vs H Q E h => ?_) (fun cdv A outer s H vs Q E pn ct h => ?_)
  · obtain ⟨l, rfl, _⟩ := h
    rfl
  · obtain ⟨l, rfl, hl, q⟩ := h
    refine ⟨_, pss_cons (ps_set (i := 1) scSpelled.nd rfl (.inl rfl) pe_str)
      (pss_cons (ps_forStrG ct ownG (pv 0) (pg_name (i := 2) scSpelled.nd rfl (.inl rfl))
        (pss_one (ps_if (pt_cmpR op_eq (pv 2) pe_str (nomark _)) (pss_one (ps_set (i := 1) scSpelled.nd rfl (.inl rfl) (pe_op op_add_str (pv 1) pe_str)))
          (pss_one (ps_if (PW.pt (pw_or (pt_cmpR op_eq (pv 2) pe_str (nomark _)) (pw_or1 (pt_cmpR op_eq (pv 2) pe_str (nomark _)))))
            (pss_one (ps_set (i := 1) scSpelled.nd rfl (.inl rfl) (pe_op op_add_str (pe_op op_add_str (pv 1) pe_str) (pv 2))))
            (pss_one (ps_set (i := 1) scSpelled.nd rfl (.inl rfl) (pe_op op_add_str (pv 1) (pv 2)))))))))
      (pss_one (ps_ret (pe_op op_add_str (pe_op op_add_str pe_str (pv 1)) pe_str)))), ?_⟩
    refine ⟨_, rfl, _, rfl, for_str (fun i σ H' => ∃ v2 : Option V, σ = [some (.str (S l)), some (.str (S (Fk.spell (l.take i)))), v2] ∧ H' = H) ⟨none, by rw [c_nil]; rfl, rfl⟩ ?_ ?_⟩
    · rintro i d σ H' hi ⟨v2, rfl, rfl⟩
      have hi' : l[i]? = some d := hi
      have em : Fk.spell (l.take (i + 1)) = Fk.spell (l.take i) ++ Fk.sp1 d := by rw [take_more hi', Fk.spell_snoc]
      have hsl := spell_len (l.take i)
      have htl : (l.take i).length ≤ l.length := by rw [List.length_take]; omega
      have step : ∀ z : List Nat, Fk.sp1 d = z → ∃ v2 : Option V, ([some (.str (S l)), some (.str (S (Fk.spell (l.take i)) ++ S z)), some (.str (S [d]))] : L2.St) = [some (.str (S l)), some (.str (S (Fk.spell (l.take (i + 1))))), v2] ∧ H' = H' := fun z e =>
        ⟨_, by rw [em, e, S_cat], rfl⟩
      refine ⟨_, rfl, rfl, _, rfl, ?_⟩
      have e10 : decide (V.str ⟨#[d]⟩ = V.str (Str.ofString "\n")) = decide (d = 10) := by
        rw [c_nl]
        refine (vstr [d] [10]).trans ?_
        by_cases h : d = 10 <;> simp [h]
      have e34 : decide (V.str ⟨#[d]⟩ = V.str (Str.ofString "\"")) = decide (d = 34) := by
        rw [c_q]
        refine (vstr [d] [34]).trans ?_
        by_cases h : d = 34 <;> simp [h]
      have e92 : decide (V.str ⟨#[d]⟩ = V.str (Str.ofString "\\")) = decide (d = 92) := by
        rw [c_bs]
        refine (vstr [d] [92]).trans ?_
        by_cases h : d = 92 <;> simp [h]
      rw [e10]
      have esc2 : d ≠ 10 → d = 34 ∨ d = 92 → Fk.sp1 d = [92, d] := fun h1 h2 => by simp [Fk.sp1, h1, h2]
      refine ifd (fun h => ?_) (fun h => ?_)
      · refine ⟨_, rfl, _, _, rfl, rfl, ?_, ?_⟩
        · rw [S_len]; refine le_line ?_; rw [c_bsn, S_len]; simp; omega
        · rw [c_bsn]
          exact step [92, 110] (by rw [h]; rfl)
      · have two : (d = 34 ∨ d = 92) → ∃ x, ([some (.str (S l)), some (.str (S (Fk.spell (l.take i)))), some (.str ⟨#[d]⟩)] : L2.St)[1]? = some (some x) ∧ (∃ i' j', x = V.str i' ∧ V.str (Str.ofString "\\") = V.str j' ∧ i'.length + j'.length ≤ sizeLine ∧
            ∃ y, ([some (.str (S l)), some (.str (S (Fk.spell (l.take i)))), some (.str ⟨#[d]⟩)] : L2.St)[2]? = some (some y) ∧ (∃ i2 j2, V.str (i' ++ j') = V.str i2 ∧ y = V.str j2 ∧ i2.length + j2.length ≤ sizeLine ∧
              ∃ v2 : Option V, ([some (.str (S l)), some (V.str (i2 ++ j2)), some (.str ⟨#[d]⟩)] : L2.St) = [some (.str (S l)), some (.str (S (Fk.spell (l.take (i + 1))))), v2] ∧ H' = H')) := fun h2 => by
          refine ⟨_, rfl, _, _, rfl, rfl, ?_, _, rfl, _, _, rfl, rfl, ?_, ?_⟩
          · rw [S_len, c_bs, S_len]; refine le_line ?_; simp; omega
          · rw [c_bs, S_cat, S_len]; refine le_line ?_; show _ + 1 ≤ _; simp; omega
          · rw [c_bs]
            obtain ⟨v2, e, _⟩ := step [92, d] (esc2 h h2)
            refine ⟨v2, ?_, rfl⟩
            rw [← e]
            show [some (V.str (S l)), some (V.str (S (Fk.spell (l.take i)) ++ S [92] ++ S [d])), some (V.str (S [d]))] = [some (V.str (S l)), some (V.str (S (Fk.spell (l.take i)) ++ S [92, d])), some (V.str (S [d]))]
            rw [S_cat (Fk.spell (l.take i)) [92], S_cat (Fk.spell (l.take i) ++ [92]) [d], S_cat (Fk.spell (l.take i)) [92, d], List.append_assoc]
            rfl
        refine ⟨_, rfl, rfl, _, rfl, ?_⟩
        rw [e34]
        refine ifd (fun h2 => ?_) (fun h2 => ?_)
        · refine ift rfl ?_
          exact two (.inl h2)
        · refine ⟨_, rfl, rfl, _, rfl, ?_⟩
          rw [e92]
          refine ifd (fun h3 => ?_) (fun h3 => ?_)
          · exact two (.inr h3)
          · refine ⟨_, rfl, _, rfl, _, _, rfl, rfl, ?_, ?_⟩
            · rw [S_len]; refine le_line ?_; show _ + 1 ≤ _; omega
            · exact step [d] (by simp [Fk.sp1, h, h2, h3])
    · rintro σ H' ⟨v2, rfl, rfl⟩
      have e : l.take ((S l).cps.toList.length) = l := List.take_length
      have hsl := spell_len l
      rw [e]
      refine ⟨_, rfl, _, _, rfl, rfl, ?_, _, _, rfl, rfl, ?_, ?_⟩
      · rw [c_q, S_len, S_len]; refine le_line ?_; simp; omega
      · rw [c_q, S_cat, S_len, S_len]; refine le_line ?_; simp; omega
      · rw [c_q, S_cat, S_cat]
        exact q
end
end FkW

namespace FkW
open PySem PySem.Spec PyProof.Rows L2 FkG SX
open Fk (posR posR_zero isWord isDig blen dlen wlen TokV Res isEsc esc)
/-! ### kinds -/
def isNumT : TokV → Bool
  | .num _ => true
  | _ => false
def isTextT : TokV → Bool
  | .text _ => true
  | _ => false
theorem k_ne {a b : Str} (h : ¬ a = b) : decide (V.str a = V.str b) = false := decide_eq_false fun e => h (V.str.inj e)
theorem kind_num (v : TokV) : decide (kindV v = V.str (Str.ofString "number")) = isNumT v := by
  cases v with
  | num _ => exact decide_eq_true rfl
  | _ => exact k_ne (by decide +kernel)
theorem kind_text (v : TokV) : decide (kindV v = V.str (Str.ofString "text")) = isTextT v := by
  cases v with
  | text _ => exact decide_eq_true rfl
  | _ => exact k_ne (by decide +kernel)
theorem kind_end (v : TokV) : decide (kindV v = V.str (Str.ofString "end")) = Fk.isFin v := by
  cases v with
  | fin => exact decide_eq_true rfl
  | _ => exact k_ne (by decide +kernel)
theorem kind_scal (v : TokV) (z : Str) : scal (kindV v) (.str z) = true := by cases v <;> rfl
theorem dig_isdigit : ∀ c ∈ Fk.DIG, Unicode.isDigit c = true := by decide +kernel
theorem isdigit_of {z : List Nat} (h : ∀ c ∈ z, c ∈ Fk.DIG) (h1 : 1 ≤ z.length) : Txt.isdigit (S z) = true := by
  unfold Txt.isdigit
  rw [S_len, Bool.and_eq_true]
  refine ⟨decide_eq_true (by omega), ?_⟩
  rw [← Array.all_toList]
  exact List.all_eq_true.mpr fun c hc => dig_isdigit c (h c hc)
/-- the spelling z fits the token v -/
def FitOk (z : List Nat) (v : TokV) : Prop :=
  match v with
  | .name l => z = l
  | .word l => z = l
  | .sign l => z = l
  | .num l => z = l ∧ (∀ c ∈ l, c ∈ Fk.DIG) ∧ 1 ≤ l.length ∧ l.length ≤ 60
  | .text l => z = Fk.spelled l ∧ l.length ≤ 8000
  | .fin => z = []
/-- what the law's length asks -/
def LenOk (r : List Nat) (v : TokV) : Prop :=
  match v with
  | .num l => dlen r = l.length
  | .name l => l.length ≤ 8000
  | .word l => l.length ≤ 8000
  | .sign l => l.length ≤ 8000
  | .text l => l.length ≤ 8000
  | .fin => True
section
variable {P : Program} {w : World} {K : PySem.W.Frag} {mg : Str → Option Value} {base : Heap}
/-! ### _law_fits(spelling, token) -/
def spFits : L2.Sp := fun vs H Q _ => ∃ (z : List Nat) (a : Addr) (v : TokV) (x y : V), vs = [.str (S z), .ref a] ∧ H a = some (.tup [kindV v, valT v, x, y]) ∧ FitOk z v ∧ Q (.bl true) H
theorem scFits : FnScope ["_law_spelling", "_law_token_here"] ["_law_spelling", "_law_token_here"] (defScope sFits) := ⟨rfl, rfl, rfl, by decide +kernel, rfl, by decide +kernel, by decide +kernel⟩
theorem ok_fits {f : Addr} {fd : FuncData} (F : FnP K "_law_fits" "_law_fits" sFits f fd) (T : LwT mg) (SP : CalG true P w K mg base 1 "_law_spelled" spSpelled []) : FnG true P w K mg base (CXN P w) 2 f fd ["_law_spelling", "_law_token_here"] spFits := by
  refine okG F scFits (fun vs H Q E h => ?_) (fun cdv A outer s H vs Q E pn ct h => ?_)
  · obtain ⟨z, a, v, x, y, rfl, _⟩ := h
    rfl
  · obtain ⟨z, a, v, x, y, rfl, ha, hf, q⟩ := h
    refine ⟨_, pss_cons (ps_if (pt_cmpR op_eq (pe_ix ix_tup (pv 1) pe_int (fun _ _ => rfl)) pe_str (nomark _))
        (pss_one (ps_ret (pe_and (pe_m0 PySem.F.slot_str_isdigit PySem.F.type_str_isdigit mt_isdigit (pv 0)) (pe_one (pe_cmpR op_eq (pe_callTy call_int_str (by rfl) T.int (by decide +kernel) (pa_cons (pv 0) pa_nil)) (pe_ix ix_tup (pv 1) pe_int (fun _ _ => rfl)) (nomark _)))))) pss_nil)
      (pss_cons (ps_if (pt_cmpR op_eq (pe_ix ix_tup (pv 1) pe_int (fun _ _ => rfl)) pe_str (nomark _))
        (pss_one (ps_ret (pe_cmpR op_eq (pv 0) (pe_cG SP ct passG (by decide) rfl (pa_cons (pe_ix ix_tup (pv 1) pe_int (fun _ _ => rfl)) pa_nil)) (nomark _)))) pss_nil)
      (pss_one (ps_ret (pe_cmpR op_eq (pv 0) (pe_ix ix_tup (pv 1) pe_int (fun _ _ => rfl)) (nomark _))))), ?_⟩
    refine ⟨_, rfl, a, _, _, _, rfl, rfl, SqT.of ha, rfl, kind_scal _ _, _, rfl, ?_⟩
    rw [kind_num]
    have same : ∀ (l : List Nat), z = l → Q (.bl (decide (V.str (S z) = V.str (S l)))) H := fun l e => by
      rw [e, decide_eq_true rfl]; exact q
    cases v with
    | num l =>
      obtain ⟨e, hd, h1, h60⟩ := hf
      subst e
      refine ift rfl ?_
      refine ⟨_, rfl, ⟨_, rfl⟩, _, rfl, rfl, True.intro, _, rfl, ?_⟩
      refine ift (isdigit_of hd h1) ?_
      refine ⟨_, rfl, _, _, rfl, int_S (dig_range hd) (fun e => by rw [e] at h1; simp at h1) (by omega), (by rw [S_len]; omega), _, rfl, a, _, _, _, rfl, rfl, SqT.of ha, rfl, rfl, ?_⟩
      have e : decide (V.int ((NumText.digitsVal z : Nat) : Int) = valT (.num z)) = true := decide_eq_true rfl
      rw [e]
      exact q
    | text l =>
      obtain ⟨e, hl⟩ := hf
      refine iff' rfl ?_
      refine ⟨_, rfl, a, _, _, _, rfl, rfl, SqT.of ha, rfl, kind_scal _ _, _, rfl, ?_⟩
      rw [kind_text]
      refine ift rfl ?_
      exact ⟨_, rfl, _, rfl, a, _, _, _, rfl, rfl, SqT.of ha, rfl, l, rfl, hl, rfl, same _ e⟩
    | name l =>
      refine iff' rfl ?_
      refine ⟨_, rfl, a, _, _, _, rfl, rfl, SqT.of ha, rfl, kind_scal _ _, _, rfl, ?_⟩
      rw [kind_text]
      refine iff' rfl ?_
      exact ⟨_, rfl, _, rfl, a, _, _, _, rfl, rfl, SqT.of ha, rfl, rfl, same _ hf⟩
    | word l =>
      refine iff' rfl ?_
      refine ⟨_, rfl, a, _, _, _, rfl, rfl, SqT.of ha, rfl, kind_scal _ _, _, rfl, ?_⟩
      rw [kind_text]
      refine iff' rfl ?_
      exact ⟨_, rfl, _, rfl, a, _, _, _, rfl, rfl, SqT.of ha, rfl, rfl, same _ hf⟩
    | sign l =>
      refine iff' rfl ?_
      refine ⟨_, rfl, a, _, _, _, rfl, rfl, SqT.of ha, rfl, kind_scal _ _, _, rfl, ?_⟩
      rw [kind_text]
      refine iff' rfl ?_
      exact ⟨_, rfl, _, rfl, a, _, _, _, rfl, rfl, SqT.of ha, rfl, rfl, same _ hf⟩
    | fin =>
      refine iff' rfl ?_
      refine ⟨_, rfl, a, _, _, _, rfl, rfl, SqT.of ha, rfl, kind_scal _ _, _, rfl, ?_⟩
      rw [kind_text]
      refine iff' rfl ?_
      exact ⟨_, rfl, _, rfl, a, _, _, _, rfl, rfl, SqT.of ha, rfl, rfl, same [] hf⟩
/-! ### _law_length(rest, token) -/
def spLen : L2.Sp := fun vs H Q _ => ∃ (r : List Nat) (a : Addr) (v : TokV) (x y : V), vs = [.str (S r), .ref a] ∧ H a = some (.tup [kindV v, valT v, x, y]) ∧ r.length ≤ 8000 ∧ LenOk r v ∧ Q (.int (Fk.size v : Nat)) H
theorem scLen : FnScope ["_law_rest", "_law_token_here", "_law_size"] ["_law_rest", "_law_token_here"] (defScope sLen) := ⟨rfl, rfl, rfl, by decide +kernel, rfl, by decide +kernel, by decide +kernel⟩
theorem ok_len {f : Addr} {fd : FuncData} (F : FnP K "_law_length" "_law_length" sLen f fd) (T : LwT mg) (SP : CalG true P w K mg base 1 "_law_spelled" spSpelled []) : FnG true P w K mg base (CXN P w) 2 f fd ["_law_rest", "_law_token_here"] spLen := by
  refine okG F scLen (fun vs H Q E h => ?_) (fun cdv A outer s H vs Q E pn ct h => ?_)
  · obtain ⟨r, a, v, x, y, rfl, _⟩ := h
    rfl
  · obtain ⟨r, a, v, x, y, rfl, ha, hr, hl, q⟩ := h
    refine ⟨_, pss_cons (ps_if (pt_cmpR op_eq (pe_ix ix_tup (pv 1) pe_int (fun _ _ => rfl)) pe_str (nomark _))
        (pss_cons (ps_set (i := 2) scLen.nd rfl (.inl rfl) pe_int)
        (pss_cons (ps_while ownG (PW.pt (pw_and (pt_cmpR op_lt (pv 2) (pe_callB call_len (by rfl) T.len PySem.boot_len (pa_cons (pv 0) pa_nil)) (nomark _)) (pw_and1 (pt_cmpR op_in_sign (pe_ix ix_str (pv 0) (pv 2) (fun _ _ => rfl)) pe_str rfl))))
          (pss_one (ps_set (i := 2) scLen.nd rfl (.inl rfl) (pe_op op_add (pv 2) pe_int))))
        (pss_one (ps_ret (pv 2))))) pss_nil)
      (pss_cons (ps_if (pt_cmpR op_eq (pe_ix ix_tup (pv 1) pe_int (fun _ _ => rfl)) pe_str (nomark _))
        (pss_one (ps_ret (pe_callB call_len (by rfl) T.len PySem.boot_len (pa_cons (pe_cG SP ct passG (by decide) rfl (pa_cons (pe_ix ix_tup (pv 1) pe_int (fun _ _ => rfl)) pa_nil)) pa_nil)))) pss_nil)
      (pss_one (ps_ret (pe_callB call_len (by rfl) T.len PySem.boot_len (pa_cons (pe_ix ix_tup (pv 1) pe_int (fun _ _ => rfl)) pa_nil))))), ?_⟩
    refine ⟨_, rfl, a, _, _, _, rfl, rfl, SqT.of ha, rfl, kind_scal _ _, _, rfl, ?_⟩
    rw [kind_num]
    cases v with
    | num l =>
      have hl' : dlen r = l.length := hl
      refine ift rfl ?_
      refine ⟨fun m σ H' => ∃ k : Nat, σ = [some (.str (S r)), some (.ref a), some (.int (k : Int))] ∧ H' = H ∧ k ≤ dlen r ∧ m = dlen r - k, ⟨_, 0, rfl, rfl, Nat.zero_le _, rfl⟩, ?_⟩
      rintro m σ H' ⟨k, rfl, rfl, hk, rfl⟩
      have hdl : dlen r ≤ r.length := (List.takeWhile_sublist (l := r) isDig).length_le
      have hat := Fk.tw_at (p := isDig) r k hk
      have fin : ¬ k < dlen r → ∃ x', ([some (.str (S r)), some (.ref a), some (.int (k : Int))] : L2.St)[2]? = some (some x') ∧ Q x' H' := fun h => by
        have e : k = l.length := by omega
        refine ⟨_, rfl, ?_⟩
        rw [e]
        exact q
      refine ⟨_, rfl, _, rfl, _, r.length, rfl, ⟨(by rw [S_len]; exact le_line (by omega)), (by rw [S_len])⟩, _, _, rfl, rfl, _, rfl, ?_⟩
      refine ifd (fun h1 => ?_) (fun h1 => ?_)
      · have h1' : k < r.length := by omega
        obtain ⟨d, hd⟩ : ∃ d, r[k]? = some d := ⟨r[k], by simp [h1']⟩
        refine ⟨_, rfl, _, rfl, _, _, d, rfl, rfl, (by rw [S_len]; exact le_line (by omega)), atI_nat (j := k) hd, d, _, rfl, rfl, _, rfl, ?_⟩
        have hh : (r.drop k).head?.any isDig = decide (d ∈ Fk.DIG) := by
          rw [List.head?_drop, hd]; rfl
        have hat' : decide (k < dlen r) = decide (d ∈ Fk.DIG) := hat.trans hh
        rw [c_dig]
        refine ifd (fun h2 => ?_) (fun h2 => ?_)
        · have h2' : d ∈ Fk.DIG := h2
          have hlt : k < dlen r := by simpa [h2'] using hat'
          refine ⟨fun σ' H'' => ∃ m', m' < dlen r - k ∧ ∃ k : Nat, σ' = [some (.str (S r)), some (.ref a), some (.int (k : Int))] ∧ H'' = H' ∧ k ≤ dlen r ∧ m' = dlen r - k, fun _ _ h => h, ?_⟩
          exact ⟨_, rfl, _, _, rfl, rfl, dlen r - (k + 1), by omega, k + 1, rfl, rfl, hlt, rfl⟩
        · have h2' : ¬ d ∈ Fk.DIG := h2
          exact fin (by simpa [h2'] using hat')
      · refine iteF ?_
        have h1' : ¬ k < r.length := by omega
        exact fin (by omega)
    | text l =>
      have hl' : l.length ≤ 8000 := hl
      refine iff' rfl ?_
      refine ⟨_, rfl, a, _, _, _, rfl, rfl, SqT.of ha, rfl, kind_scal _ _, _, rfl, ?_⟩
      rw [kind_text]
      refine ift rfl ?_
      have h2 := spell_len l
      refine ⟨_, rfl, a, _, _, _, rfl, rfl, SqT.of ha, rfl, l, rfl, hl', _, (Fk.spelled l).length, rfl, ⟨?_, (by rw [S_len])⟩, q⟩
      rw [S_len]
      refine le_line ?_
      unfold Fk.spelled
      simp; omega
    | name l =>
      have hl' : l.length ≤ 8000 := hl
      refine iff' rfl ?_
      refine ⟨_, rfl, a, _, _, _, rfl, rfl, SqT.of ha, rfl, kind_scal _ _, _, rfl, ?_⟩
      rw [kind_text]
      refine iff' rfl ?_
      exact ⟨_, rfl, a, _, _, _, rfl, rfl, SqT.of ha, rfl, _, l.length, rfl, ⟨(by rw [S_len]; exact le_line (by omega)), (by rw [S_len])⟩, q⟩
    | word l =>
      have hl' : l.length ≤ 8000 := hl
      refine iff' rfl ?_
      refine ⟨_, rfl, a, _, _, _, rfl, rfl, SqT.of ha, rfl, kind_scal _ _, _, rfl, ?_⟩
      rw [kind_text]
      refine iff' rfl ?_
      exact ⟨_, rfl, a, _, _, _, rfl, rfl, SqT.of ha, rfl, _, l.length, rfl, ⟨(by rw [S_len]; exact le_line (by omega)), (by rw [S_len])⟩, q⟩
    | sign l =>
      have hl' : l.length ≤ 8000 := hl
      refine iff' rfl ?_
      refine ⟨_, rfl, a, _, _, _, rfl, rfl, SqT.of ha, rfl, kind_scal _ _, _, rfl, ?_⟩
      rw [kind_text]
      refine iff' rfl ?_
      exact ⟨_, rfl, a, _, _, _, rfl, rfl, SqT.of ha, rfl, _, l.length, rfl, ⟨(by rw [S_len]; exact le_line (by omega)), (by rw [S_len])⟩, q⟩
    | fin =>
      refine iff' rfl ?_
      refine ⟨_, rfl, a, _, _, _, rfl, rfl, SqT.of ha, rfl, kind_scal _ _, _, rfl, ?_⟩
      rw [kind_text]
      refine iff' rfl ?_
      exact ⟨_, rfl, a, _, _, _, rfl, rfl, SqT.of ha, rfl, _, 0, rfl, ⟨(by rw [S_len]; exact Nat.zero_le _), (by rw [S_len]; rfl)⟩, q⟩
end
end FkW

namespace FkW
open PySem PySem.Spec PyProof.Rows L2 FkG SX
open Fk (posR posR_zero isWord isDig blen dlen wlen TokV Res isEsc esc)
theorem TkAt.get {H : Hp} {t : List Nat} : ∀ {l : List (TokV × Nat)} {rs : List Addr} {i : Nat} {b : Addr}, TkAt H t l rs → rs[i]? = some b →
    ∃ v n, l.drop i = (v, n) :: l.drop (i + 1) ∧ H b = some (.tup [kindV v, valT v, .int (lin t n), .int (col t n)])
  | _, _, i, b, .nil, h => by simp at h
  | _, _, 0, b, .cons (v := v) (n := n) h' r, h => by
    have e : _ = b := Option.some.inj (by simpa using h)
    subst e
    exact ⟨v, n, rfl, h'⟩
  | _, _, i + 1, b, .cons h' r, h => by
    obtain ⟨v, n, e1, e2⟩ := TkAt.get r (i := i) (b := b) (by simpa using h)
    exact ⟨v, n, e1, e2⟩
theorem TkAt.last {H : Hp} {t : List Nat} {v : TokV} {n : Nat} : ∀ {l : List (TokV × Nat)} {rs : List Addr}, TkAt H t (l ++ [(v, n)]) rs → ∃ rs' b, rs = rs' ++ [b] ∧ H b = some (.tup [kindV v, valT v, .int (lin t n), .int (col t n)])
  | [], _, .cons h .nil => ⟨[], _, rfl, h⟩
  | _ :: l, _, .cons h r => by
    obtain ⟨rs', b, e, hb⟩ := TkAt.last (l := l) r
    exact ⟨_ :: rs', b, by rw [e]; rfl, hb⟩
theorem refs_get {rs : List Addr} {i : Nat} {x : V} (h : (rs.map V.ref)[i]? = some x) : ∃ b, rs[i]? = some b ∧ x = .ref b := by
  rw [List.getElem?_map] at h
  cases e : rs[i]? with
  | none => rw [e] at h; cases h
  | some b =>
    rw [e] at h
    exact ⟨b, rfl, (Option.some.inj h).symm⟩
theorem cut_from (t : List Nat) (n : Nat) (h : n ≤ t.length) : cutS (S t) (some (n : Int)) none = S (t.drop n) := by
  refine TL.ext_tl ?_
  show ((S t).cps.toList.drop (HT.sIx (S t).length 0 (some (n : Int)))).take (HT.sIx (S t).length (S t).length none - HT.sIx (S t).length 0 (some (n : Int))) = t.drop n
  rw [sIx_nat', HT.sIx_none, S_len, Nat.min_eq_left h]
  exact List.take_of_length_le (by rw [List.length_drop]; exact Nat.le_refl _)
theorem cut_slc (t : List Nat) (a b : Nat) : cutS (S t) (some (a : Int)) (some (b : Int)) = S (Fk.slc t a b) := cut_nat t a b
theorem slc_len (t : List Nat) (a b : Nat) : (Fk.slc t a b).length ≤ t.length := by
  unfold Fk.slc
  rw [List.length_take, List.length_drop]
  omega
theorem cutV_to (xs : List V) (k : Nat) : cutV xs none (some (k : Int)) = xs.take k := by
  unfold cutV
  rw [HT.sIx_none, HT.sIx_nat, List.drop_zero, Nat.sub_zero]
  by_cases h : k ≤ xs.length
  · rw [Nat.min_eq_left h]
  · rw [Nat.min_eq_right (by omega), List.take_of_length_le (Nat.le_refl _), List.take_of_length_le (by omega)]
def lensI (ls : List (List Nat)) : List Int := ls.map fun l => (l.length : Int) + 1
theorem lensI_sum : ∀ ls : List (List Nat), (lensI ls).sum = (Fk.sumL ls : Int)
  | [] => rfl
  | l :: r => by
    have ih := lensI_sum r
    show ((l.length : Int) + 1) + (lensI r).sum = (((l.length + 1) + Fk.sumL r : Nat) : Int)
    rw [ih]
    simp
theorem lensI_snoc {ls : List (List Nat)} {i : Nat} {l : List Nat} (h : ls[i]? = some l) : (lensI (ls.take i)).map V.int ++ [V.int ((l.length : Int) + 1)] = (lensI (ls.take (i + 1))).map V.int := by
  rw [List.take_add_one, h]
  simp [lensI]
theorem spell_ge : ∀ l : List Nat, l.length ≤ (Fk.spell l).length
  | [] => Nat.zero_le _
  | c :: r => by
    have ih := spell_ge r
    have h1 : 1 ≤ (Fk.sp1 c).length := by
      unfold Fk.sp1
      split
      · simp
      · split <;> simp
    have e : Fk.spell (c :: r) = Fk.sp1 c ++ Fk.spell r := by simp [Fk.spell]
    rw [e, List.length_append, List.length_cons]
    omega
theorem lns_count : ∀ t : List Nat, (Fk.lns t).length ≤ t.length + 1
  | [] => by simp [Fk.lns]
  | c :: r => by
    have ih := lns_count r
    by_cases hc : c = 10
    · subst hc
      rw [Fk.lns_nl]
      simp; omega
    · obtain ⟨h, q, e1, e2⟩ := Fk.lns_cons hc r
      rw [e2]
      rw [e1] at ih
      simp at ih ⊢
      omega
theorem at_fit {t : List Nat} {v : TokV} {n : Nat} (ht : t.length ≤ 8000) (h : Fk.At t v n) : FitOk (Fk.slc t n (n + Fk.size v)) v ∧ LenOk (t.drop n) v := by
  obtain ⟨hl, h⟩ := h
  cases v with
  | name l => exact ⟨h, by show l.length ≤ 8000; have : n + l.length ≤ t.length := hl; omega⟩
  | word l => exact ⟨h, by show l.length ≤ 8000; have : n + l.length ≤ t.length := hl; omega⟩
  | sign l => exact ⟨h, by show l.length ≤ 8000; have : n + l.length ≤ t.length := hl; omega⟩
  | num l =>
    obtain ⟨e1, e2, e3, e4⟩ := h
    refine ⟨⟨e1, ?_, e3, e4⟩, e2⟩
    have hs : Fk.size (.num l) = dlen (t.drop n) := e2.symm
    rw [Fk.slc_add, hs] at e1
    intro c hc
    exact Fk.dig_all (t.drop n) c (by rw [e1]; exact hc)
  | text l =>
    have h2 : n + (Fk.spelled l).length ≤ t.length := hl
    have h3 := spell_ge l
    have h4 : (Fk.spelled l).length = (Fk.spell l).length + 2 := by unfold Fk.spelled; simp
    exact ⟨⟨h, by omega⟩, by show l.length ≤ 8000; omega⟩
  | fin =>
    refine ⟨?_, True.intro⟩
    show Fk.slc t n (n + 0) = []
    rw [Fk.slc_add]; simp
section
variable {P : Program} {w : World} {K : PySem.W.Frag} {mg : Str → Option Value} {base : Heap}
def spCov : L2.Sp := fun vs H Q _ => ∃ (t : List Nat) (a : Addr) (l : List (TokV × Nat)) (rs : List Addr), vs = [.str (S t), .ref a] ∧ t.length ≤ 8000 ∧ H a = some (.tup (rs.map V.ref)) ∧ TkAt H t l rs ∧ Fk.Cov t 0 l ∧ (∃ r, l = r ++ [(.fin, t.length)]) ∧ ∀ H', Q (.bl true) H'
def nCov : List Str := ["_law_text_here", "_law_found", "_law_lines_here", "_law_start", "_law_token_here", "_law_place", "_law_size", "_law_line"]
theorem scCov : FnScope ["_law_text_here", "_law_found", "_law_lines_here", "_law_start", "_law_token_here", "_law_place", "_law_size", "_law_line"] ["_law_text_here", "_law_found"] (defScope sCov) := ⟨rfl, rfl, rfl, by decide +kernel, rfl, by decide +kernel, by decide +kernel⟩
theorem ok_cov {f : Addr} {fd : FuncData} (F : FnP K "_law_covered" "_law_covered" sCov f fd) (T : LwT mg) (LI : CalG true P w K mg base 1 "_law_lines" spLines []) (BL : CalG true P w K mg base 1 "_law_blank" spBlank [])
    (LE : CalG true P w K mg base 2 "_law_length" spLen []) (FI : CalG true P w K mg base 2 "_law_fits" spFits []) : FnG true P w K mg base (CXN P w) 3 f fd ["_law_text_here", "_law_found"] spCov := by
  refine okG F scCov (fun vs H Q E h => ?_) (fun cdv A outer s H vs Q E pn ct h => ?_)
  · obtain ⟨t, a, l, rs, rfl, _⟩ := h
    rfl
  · obtain ⟨t, a, l, rs, rfl, ht, ha, hat, hcov, ⟨lr, hlast⟩, q⟩ := h
    refine ⟨_, pss_cons (ps_set (i := 2) scCov.nd rfl (.inl rfl) (pe_cG LI ct passG (by decide) rfl (pa_cons (pv 0) pa_nil)))
      (pss_cons (ps_set (i := 3) scCov.nd rfl (.inl rfl) pe_int)
      (pss_cons (ps_for ownG ct.ca (pi_tup (pv 1)) (pg_name (i := 4) scCov.nd rfl (.inl rfl))
        (pss_cons (ps_if (PW.pt (pw_or (pt_not (pt_chain op_le op_le pe_int (pe_ix ix_tup (pv 4) pe_int (fun _ _ => rfl)) (pe_callB call_len (by rfl) T.len PySem.boot_len (pa_cons (pv 2) pa_nil))))
            (pw_or1 (pt_not (pt_chain op_le op_le pe_int (pe_ix ix_tup (pv 4) pe_int (fun _ _ => rfl)) (pe_op op_add (pe_callB call_len (by rfl) T.len PySem.boot_len (pa_cons (pe_ix ix_list (pv 2) (pe_op op_sub (pe_ix ix_tup (pv 4) pe_int (fun _ _ => rfl)) pe_int) (fun _ _ => rfl)) pa_nil)) pe_int))))))
          (pss_one (ps_ret pe_bl)) pss_nil)
        (pss_cons (ps_set (i := 5) scCov.nd rfl (.inl rfl) (pe_op op_sub (pe_op op_add (pe_callB (cr_sum ct.ca) (by rfl) T.sum (by decide +kernel) (pa_cons
            (pe_lc (own := [("_law_line", 7)]) (g := gName 7) (tt := tYes) ct.ca scCov.nd (pi_list (pe_slice sl_list (pv 2) po_none (po_some (pe_op op_sub (pe_ix ix_tup (pv 4) pe_int (fun _ _ => rfl)) pe_int))))
              (blkOk_by (own := [("_law_line", 7)]) (N := nCov) (sc := defScope sCov) (by decide +kernel)) (fun _ _ _ _ _ => pg_name (i := 7) scCov.nd rfl (Or.inl rfl)) (fun _ _ _ _ _ => pts_nil)
              (fun _ _ _ _ _ => pe_op op_add (pe_callB (r := fun xs H Q => ∃ x n, xs = [x] ∧ LenV K x H n ∧ Q (V.int ↑n) H) call_len (by rfl) T.len PySem.boot_len (pa_cons (pv 7) pa_nil)) pe_int)) pa_nil)) (pe_ix ix_tup (pv 4) pe_int (fun _ _ => rfl))) pe_int))
        (pss_cons (ps_if (PW.pt (pw_or (pt_cmpR op_lt (pv 5) (pv 3) (nomark _)) (pw_or1 (pt_not (pt_val (pe_cG BL ct passG (by decide) rfl (pa_cons (pe_slice sl_str (pv 0) (po_some (pv 3)) (po_some (pv 5))) pa_nil)))))))
          (pss_one (ps_ret pe_bl)) pss_nil)
        (pss_cons (ps_if (PW.pt (pw_and (pt_cmpR op_ne (pe_ix ix_tup (pv 4) pe_int (fun _ _ => rfl)) pe_str (nomark _))
            (pw_and1 (pt_cmpR op_ne (pe_bm PySem.F.plainAttrs_str PySem.F.slot_str_strip PySem.F.type_str_strip mt_stripChars (pe_ix ix_list (pe_split (pe_slice sl_str (pv 0) (po_some (pv 3)) (po_some (pv 5))) pe_str) (pe_un un_neg pe_int) (fun _ _ => rfl)) (pa_cons pe_str pa_nil)) pe_str (nomark _)))))
          (pss_one (ps_ret pe_bl)) pss_nil)
        (pss_cons (ps_set (i := 6) scCov.nd rfl (.inl rfl) (pe_cG LE ct passG (by decide) rfl (pa_cons (pe_slice sl_str (pv 0) (po_some (pv 5)) po_none) (pa_cons (pv 4) pa_nil))))
        (pss_cons (ps_if (pt_not (pt_val (pe_cG FI ct passG (by decide) rfl (pa_cons (pe_slice sl_str (pv 0) (po_some (pv 5)) (po_some (pe_op op_add (pv 5) (pv 6)))) (pa_cons (pv 4) pa_nil)))))
          (pss_one (ps_ret pe_bl)) pss_nil)
        (pss_one (ps_set (i := 3) scCov.nd rfl (.inl rfl) (pe_op op_add (pv 5) (pv 6)))))))))))
      (pss_one (ps_ret (pe_and (pe_cmpR op_eq (pv 3) (pe_callB call_len (by rfl) T.len PySem.boot_len (pa_cons (pv 0) pa_nil)) (nomark _))
        (pe_and (pe_cmpR op_gt (pe_callB call_len (by rfl) T.len PySem.boot_len (pa_cons (pv 1) pa_nil)) pe_int (nomark _))
        (pe_one (pe_cmpR op_eq (pe_ix ix_tup (pe_ix ix_tup (pv 1) (pe_un un_neg pe_int) (fun _ _ => rfl)) pe_int (fun _ _ => rfl)) pe_str (nomark _))))))))), ?_⟩
    refine ⟨_, rfl, t, rfl, ht, fun pl hpl => ?_⟩
    have same : ∀ {H' : Hp}, Same (upd H pl (.lst (linesV t))) H' → Same H H' := fun s => fun b o e => s b o (Same.new hpl b o e)
    refine ⟨_, rfl, a, rfl, ⟨_, SqT.of (Same.new hpl a _ ha)⟩, for_tup (a := a) (xs := rs.map V.ref) (fun i σ H' => ∃ (start : Nat) (v4 v5 v6 : Option V), σ = [some (.str (S t)), some (.ref a), some (.ref pl), some (.int (start : Int)), v4, v5, v6, none] ∧ Same (upd H pl (.lst (linesV t))) H' ∧ start ≤ t.length ∧ Fk.Cov t start (l.drop i))
      ⟨0, none, none, none, rfl, fun _ _ e => e, Nat.zero_le _, hcov⟩ ?_ ?_ ?_⟩
    · rintro i σ H' hi ⟨start, v4, v5, v6, rfl, hs, _, _⟩
      exact SqT.of (same hs a _ ha)
    · rintro i x σ H' hx ⟨start, v4, v5, v6, rfl, hs, hst, hc⟩
      obtain ⟨b, hb, rfl⟩ := refs_get hx
      obtain ⟨v, n, ed, hbt⟩ := TkAt.get hat hb
      rw [ed] at hc
      obtain ⟨hsn, hatv, hgap, hc⟩ := hc
      have hn : n + Fk.size v ≤ t.length := hatv.1
      have hn0 : n ≤ t.length := by omega
      have hbt' := same hs b _ hbt
      have hpl' : H' pl = some (.lst (linesV t)) := hs pl _ upd_same
      obtain ⟨ln, hln, hlc, hsum⟩ := Fk.pos_lines t n hn0
      have hlt := Fk.posR_le t n hn0
      obtain ⟨fit, lenok⟩ := at_fit ht hatv
      have hLlen : (linesV t).length = (Fk.lns t).length := by simp [linesV]
      have hlenS : ∀ z : List Nat, z.length ≤ t.length → (S z).length ≤ sizeLine := fun z hz => by rw [S_len]; exact le_line (by omega)
      -- the lines
      have hlin : (1 : Int) ≤ lin t n := by unfold lin; omega
      have hlin2 : lin t n ≤ ((linesV t).length : Int) := by rw [hLlen]; unfold lin; omega
      have hlnm : ln ∈ Fk.lns t := List.mem_of_getElem? hln
      have hlnl := lns_len t ln hlnm
      have hlnV : atI (linesV t) (lin t n - 1) = some (.str (S ln)) := by
        have e : lin t n - 1 = ((posR t n).1 : Int) := by unfold lin; omega
        rw [e]
        refine atI_nat ?_
        unfold linesV
        rw [List.getElem?_map, hln]
        rfl
      refine ⟨_, rfl, b, _, _, _, rfl, rfl, SqT.of hbt', rfl, _, _, rfl, rfl, _, rfl, ?_⟩
      refine ift (decide_eq_true hlin) ?_
      refine ⟨_, rfl, _, _, rfl, .inl ⟨_, SqL.of hpl', rfl⟩, _, _, rfl, rfl, _, rfl, ?_⟩
      refine iff' (by rw [decide_eq_true hlin2]; rfl) ?_
      refine ⟨_, rfl, b, _, _, _, rfl, rfl, SqT.of hbt', rfl, _, _, rfl, rfl, _, rfl, ?_⟩
      refine ift (decide_eq_true (by unfold col; omega)) ?_
      refine ⟨_, rfl, _, rfl, b, _, _, _, rfl, rfl, SqT.of hbt', rfl, _, _, rfl, rfl, pl, _, _, _, rfl, rfl, SqL.of hpl', hlnV, _, ln.length, rfl, ⟨hlenS ln hlnl, (by rw [S_len])⟩, _, _, rfl, rfl, _, _, rfl, rfl, _, rfl, ?_⟩
      refine iff' (by rw [decide_eq_true (by unfold col; omega)]; rfl) ?_
      -- the place
      have elin : lin t n - 1 = ((posR t n).1 : Int) := by unfold lin; omega
      refine ⟨_, rfl, _, rfl, b, _, _, _, rfl, rfl, SqT.of hbt', rfl, _, _, rfl, rfl, _, rfl, pl, _, rfl, SqL.of hpl', fun p2 hp2 => ?_⟩
      rw [elin, cutV_to]
      refine ⟨p2, rfl, ⟨_, SqL.of upd_same⟩, fun D hD => ?_⟩
      have hp2D : p2 ≠ D := ne_of_none upd_same hD
      have hs3 : Same H' (upd (upd H' p2 (.lst ((linesV t).take (posR t n).1))) D (.lst [])) := fun u o e => Same.new hD u o (Same.new hp2 u o e)
      have etk : (linesV t).take (posR t n).1 = ((Fk.lns t).take (posR t n).1).map fun l => V.str (S l) := by unfold linesV; rw [List.map_take]
      have hsub : ∀ z ∈ (Fk.lns t).take (posR t n).1, z.length ≤ t.length := fun z hz => lns_len t z (List.mem_of_mem_take hz)
      refine lc_list (K := K) (a := p2) (xs := (linesV t).take (posR t n).1) (fun i Hc => Hc = upd (upd H' p2 (.lst ((linesV t).take (posR t n).1))) D (.lst ((lensI (((Fk.lns t).take (posR t n).1).take i)).map V.int))) rfl ?_ ?_ ?_
      · rintro j Hc _ rfl
        exact SqL.of (by rw [upd_ne hp2D]; exact upd_same)
      · rintro j x Hc hx rfl
        rw [etk, List.getElem?_map] at hx
        cases ez : ((Fk.lns t).take (posR t n).1)[j]? with
        | none => rw [ez] at hx; cases hx
        | some z =>
          rw [ez] at hx
          obtain rfl : V.str (S z) = x := Option.some.inj hx
          have hz := hsub z (List.mem_of_getElem? ez)
          have hcnt := lns_count t
          refine ⟨rfl, ?_⟩
          refine ⟨_, rfl, _, z.length, rfl, ⟨hlenS z hz, (by rw [S_len])⟩, _, _, rfl, rfl, _, upd_same, ?_, ?_⟩
          · refine Nat.lt_of_lt_of_le ?_ (le_line (Nat.le_refl 100000))
            unfold lensI
            simp only [List.length_map, List.length_take]
            omega
          · show upd (upd _ D _) D _ = _
            rw [upd_upd, lensI_snoc ez]
      · rintro Hc rfl
        have hlen : ((linesV t).take (posR t n).1).length = ((Fk.lns t).take (posR t n).1).length := by rw [etk, List.length_map]
        rw [hlen, List.take_length]
        have ev : (lensI ((Fk.lns t).take (posR t n).1)).sum + col t n - 1 = (n : Int) := by
          rw [lensI_sum]; unfold col; omega
        obtain ⟨H4, e4⟩ : ∃ H4, H4 = upd (upd H' p2 (HO.lst (List.take (posR t n).fst (linesV t)))) D (HO.lst (List.map V.int (lensI (List.take (posR t n).fst (Fk.lns t))))) := ⟨_, rfl⟩
        have hs4 : Same H' H4 := fun u o e => by rw [e4]; exact Same.new hD u o (Same.new hp2 u o e)
        refine ⟨D, _, rfl, SqL.of upd_same, ?_⟩
        rw [← e4]
        refine ⟨_, rfl, b, _, _, _, rfl, rfl, SqT.of (hs4 b _ hbt'), rfl, _, _, rfl, rfl, _, _, rfl, rfl, ?_⟩
        dsimp only
        rw [ev]
        -- blank
        refine ⟨_, rfl, _, rfl, _, _, rfl, rfl, _, rfl, ?_⟩
        refine iff' (decide_eq_false (by omega)) ?_
        refine ⟨_, rfl, _, rfl, _, rfl, _, rfl, _, rfl, _, rfl, hlenS t (Nat.le_refl _), Fk.slc t start n, (by rw [cut_slc]; rfl), Nat.le_trans (slc_len t start n) ht, hgap.lines, fun H5 hs5 => ?_⟩
        refine ⟨_, rfl, ?_⟩
        refine iff' rfl ?_
        have hb5 := hs5 b _ (hs4 b _ hbt')
        refine ⟨_, rfl, b, _, _, _, rfl, rfl, SqT.of hb5, rfl, kind_scal _ _, _, rfl, ?_⟩
        rw [kind_end]
        cases hfin : Fk.isFin v
        case' false =>
          refine ift rfl ?_
          refine ⟨_, rfl, _, rfl, _, rfl, _, rfl, _, rfl, _, rfl, hlenS t (Nat.le_refl _), ⟨_, rfl⟩, _, _, rfl, rfl, (by decide +kernel), ?_, fun p3 hp3 => ?_⟩
          rw [cut_slc, S_len]
          exact le_line (by have := slc_len t start n; omega)
          rw [cut_slc, c_nl, split_lns, linesV_eq]
          obtain ⟨init, lst, el⟩ : ∃ init lst, Fk.lns (Fk.slc t start n) = init ++ [lst] := ⟨_, _, (List.dropLast_concat_getLast (Fk.lns_ne _)).symm⟩
          have hlst : Fk.Spc lst := hgap.last (by rw [hfin]; rfl) lst (by rw [el]; simp)
          have eat : atI (linesV (Fk.slc t start n)) (-1) = some (V.str (S lst)) := by
            unfold linesV
            rw [el, List.map_append]
            exact atI_last _ _
          have hll := lns_len (Fk.slc t start n) lst (by rw [el]; simp)
          have hsl := slc_len t start n
          refine ⟨_, rfl, p3, _, _, _, rfl, rfl, SqL.of upd_same, eat, rfl, _, _, rfl, rfl, (by rw [S_len]; exact le_line (by omega)), rfl, _, rfl, ?_⟩
          rw [c_sp, c_nil, strip_sp hlst, vstr]
          refine iff' (by simp) ?_
          obtain ⟨H6, e6⟩ : ∃ H6, H6 = upd H5 p3 (HO.lst (linesV (Fk.slc t start n))) := ⟨_, rfl⟩
          have hs6 : Same H5 H6 := fun u o e => by rw [e6]; exact Same.new hp3 u o e
          rw [← e6]
        case' true =>
          refine iff' rfl ?_
          refine iff' rfl ?_
          obtain ⟨H6, e6⟩ : ∃ H6, H6 = H5 := ⟨_, rfl⟩
          have hs6 : Same H5 H6 := fun u o e => by rw [e6]; exact e
          rw [← e6]
        all_goals
          have hb6 := hs6 b _ hb5
          have hs7 : Same (upd H pl (.lst (linesV t))) H6 := fun u o e => hs6 u o (hs5 u o (hs4 u o (hs u o e)))
          have hsz : (n : Int) + ((Fk.size v : Nat) : Int) = ((n + Fk.size v : Nat) : Int) := by simp
          refine ⟨_, rfl, _, rfl, _, rfl, _, rfl, hlenS t (Nat.le_refl _), _, rfl, t.drop n, b, v, _, _, (by rw [cut_from t n hn0]; rfl), hb6, (by rw [List.length_drop]; omega), lenok, ?_⟩
          refine ⟨_, rfl, _, rfl, _, rfl, _, rfl, _, rfl, _, _, rfl, rfl, _, rfl, _, rfl, hlenS t (Nat.le_refl _), _, rfl, Fk.slc t n (n + Fk.size v), b, v, _, _, (by rw [hsz, cut_slc]; rfl), hb6, fit, ?_⟩
          refine ⟨_, rfl, ?_⟩
          refine iff' rfl ?_
          refine ⟨_, rfl, _, rfl, _, _, rfl, rfl, ?_⟩
          dsimp only
          rw [hsz]
          exact ⟨n + Fk.size v, _, _, _, rfl, hs7, hn, hc⟩
    · rintro σ H' ⟨start, v4, v5, v6, rfl, hs, hst, hc⟩
      have hlen : (rs.map V.ref).length = l.length := by rw [List.length_map, hat.len]
      rw [hlen, List.drop_length] at hc
      have hc' : start = t.length := hc
      subst hc'
      have ha' := same hs a _ ha
      rw [hlast] at hat
      obtain ⟨rs', b, ers, hbt⟩ := TkAt.last hat
      have hbt' := same hs b _ hbt
      refine ⟨_, rfl, _, rfl, _, t.length, rfl, ⟨(by rw [S_len]; exact le_line (by omega)), (by rw [S_len])⟩, rfl, _, rfl, ?_⟩
      refine ift (decide_eq_true rfl) ?_
      refine ⟨_, rfl, _, rs.length, rfl, .inr ⟨_, SqT.of ha', by rw [List.length_map]⟩, _, _, rfl, rfl, _, rfl, ?_⟩
      refine ift (decide_eq_true (by rw [ers]; simp)) ?_
      refine ⟨_, rfl, _, rfl, a, _, _, _, rfl, rfl, SqT.of ha', (by rw [ers, List.map_append]; exact atI_last _ _), b, _, _, _, rfl, rfl, SqT.of hbt', rfl, kind_scal _ _, ?_⟩
      rw [kind_end]
      exact q _
end
end FkW

namespace FkW
open PySem PySem.Spec PyProof.Rows L2 FkG SX
open Fk (posR posR_zero isWord isDig blen dlen wlen TokV Res isEsc esc)
/-! ### law(script) -/
structure XfT (K : PySem.W.Frag) (mg : Str → Option Value) (CT : Addr) : Prop where
  mgT : mg "TextFault" = some (.ref CT)
  xf : XfC K CT
  nL : PySem.W.findIn K (.ref CT) "line" = some none
  nC : PySem.W.findIn K (.ref CT) "column" = some none
  te : PySem.W.exmOne K (.ref CT) (.ref CT) = some true
theorem tl_S (l : List Nat) : TL.tl (S l) = l := rfl
theorem joinL_N : ∀ ls : List (List Nat), TL.joinL [10] ls = Fk.joinN ls
  | [] => rfl
  | [_] => rfl
  | p :: q :: r => by
    show p ++ ([10] ++ TL.joinL [10] (q :: r)) = p ++ (10 :: Fk.joinN (q :: r))
    rw [joinL_N (q :: r)]
    rfl
theorem join_lns (ls : List (List Nat)) : Txt.join (S [10]) (ls.map S) = S (Fk.joinN ls) := by
  refine TL.ext_tl ?_
  rw [TL.join_eq, TL.tl_join, List.map_map]
  show TL.joinL [10] (ls.map fun l => l) = Fk.joinN ls
  rw [List.map_id', joinL_N]
theorem joinN_le (t : List Nat) (n : Nat) (h : n ≤ t.length) : (Fk.joinN ((Fk.lns t).take (posR t n).1)).length ≤ t.length := by
  by_cases h0 : 0 < (posR t n).1
  · obtain ⟨s, _, h2⟩ := Fk.before_line t n h h0
    omega
  · have e : (posR t n).1 = 0 := by omega
    rw [e]
    simp [Fk.joinN]
theorem sum_len (ls : List (List Nat)) : ((ls.map S).map (·.length)).sum + (ls.map S).length * (S [10]).length = Fk.sumL ls := by
  induction ls with
  | nil => rfl
  | cons l r ih =>
    have e : (S [10]).length = 1 := rfl
    have e1 : Fk.sumL (l :: r) = (l.length + 1) + Fk.sumL r := rfl
    rw [e] at ih ⊢
    rw [e1]
    simp only [List.map_cons, List.sum_cons, List.length_cons, S_len] at ih ⊢
    omega
def E0' : XK := fun _ _ _ => False
theorem passE0 {X : Cx} : Passes (CXN X.prog X.w) X E0' := fun _ _ _ _ _ _ _ h => by
  obtain ⟨_, _, _, _, _, _, _, _, _, _, _, _, z⟩ := h
  exact z.elim
def rLen (K : PySem.W.Frag) : List V → Hp → VK → Prop := fun xs H Q => ∃ x n, xs = [x] ∧ LenV K x H n ∧ Q (V.int (n : Nat)) H
def rLe : R2 := rI0 fun i j => .bl (decide (i ≤ j))
def rGe : R2 := rI0 fun i j => .bl (decide (j ≤ i))
def rAdd : R2 := rI0 fun i j => .int (i + j)
def rSub : R2 := rI0 fun i j => .int (i - j)
def rJoin (K : PySem.W.Frag) : V → List V → Hp → VK → Prop := fun x xs H Q => ∃ a p, ∃ ys : List Str, x = .str a ∧ xs = [.ref p] ∧ (SqL K H p (ys.map V.str) ∨ SqT K H p (ys.map V.str)) ∧
      (ys.map (·.length)).sum + ys.length * a.length ≤ 16777216 ∧ Q (.str (Txt.join a ys)) H
def t_suite (K : PySem.W.Frag) (CT : Addr) : Addr → Value → Option Addr → TS := fun a cls d =>
  tSeq (tIfS (tOr (tNot (tTest (tChain rLe rLe (tC (.int 1)) (tXf a cls d CT "line" (tVar 5)) (tCB (rLen K) (tCons (tVar 3) tNil)))))
      (tNot (tTest (tChain rLe rLe (tC (.int 1)) (tXf a cls d CT "column" (tVar 5)) (tOp rAdd (tCB (rLen K) (tCons (tOp (rIxL K) (tVar 3) (tOp rSub (tXf a cls d CT "line" (tVar 5)) (tC (.int 1)))) tNil)) (tC (.int 1)))))))
    (tRet (tC (.bl false))) tNext)
  (tSeq (tAsg (tM1 (rJoin K) (tC (.str "\n")) (tSl (rSlL K) (tVar 3) tNoPart (tPart (tOp rSub (tXf a cls d CT "line" (tVar 5)) (tC (.int 1)))))) (gName 6))
    (tRet (tOp rGe (tCB (rLen K) (tCons (tCall (spToks false CT) [] E0' (tCons (tVar 6) tNil)) tNil)) (tC (.int 1)))))
section
variable {P : Program} {w : World} {K : PySem.W.Frag} {mg : Str → Option Value} {base : Heap}
def spLaw (K : PySem.W.Frag) : L2.Sp := fun vs H Q _ => ∃ (a : Addr) (ns : List Int), vs = [.ref a] ∧ SqL K H a (ns.map V.int) ∧ ∀ H', Q (.bl true) H'
theorem scLaw : FnScope ["_law_script", "_law_box", "_law_text_here", "_law_lines_here", "_law_found", "e", "_law_before"] ["_law_script"] (defScope sLaw) := ⟨rfl, rfl, rfl, by decide +kernel, rfl, by decide +kernel, by decide +kernel⟩
theorem ok_law {f CT : Addr} {fd : FuncData} (F : FnP K "law" "law" sLaw f fd) (T : LwT mg) (XT : XfT K mg CT) (DG : CalG true P w K mg base 2 "_law_digits" (spDigits K) []) (TX : CalG true P w K mg base 3 "_law_text" spLText []) (LI : CalG true P w K mg base 1 "_law_lines" spLines [])
    (TK : CalG true P w K mg base 5 "tokens" (spToks true CT) []) (TF : CalG false P w K mg base 5 "tokens" (spToks false CT) []) (CV : CalG true P w K mg base 3 "_law_covered" spCov []) : FnG true P w K mg base (CXN P w) 6 f fd ["_law_script"] (spLaw K) := by
  refine okG F scLaw (fun vs H Q E h => ?_) (fun cdv A outer s H vs Q E pn ct h => ?_)
  · obtain ⟨a, ns, rfl, _⟩ := h
    rfl
  · obtain ⟨a, ns, rfl, hS, q⟩ := h
    obtain ⟨fT, fdT, psT, dsT, FT, hmT, kpT, bT, dT⟩ := TK.ex
    cases dT
    refine ⟨_, pss_cons (ps_set (i := 1) scLaw.nd rfl (.inl rfl) (pe_lst (pa_cons (pe_cG DG ct passG (by decide) rfl (pa_cons (pv 0) (pa_cons pe_int (pa_cons pe_int pa_nil)))) (pa_cons pe_int pa_nil))))
      (pss_cons (ps_set (i := 2) scLaw.nd rfl (.inl rfl) (pe_cG TX ct passG (by decide) rfl (pa_cons (pv 1) pa_nil)))
      (pss_cons (ps_set (i := 3) scLaw.nd rfl (.inl rfl) (pe_cG LI ct passG (by decide) rfl (pa_cons (pv 2) pa_nil)))
      (pss_cons (L2N.ps_try_as (i := 5) (tb := fun W => tAsg (tCallS (spToks true CT) (WE W) (tCons (tVar 2) tNil)) (gName 4)) (ts := t_suite K CT) (Wout := fun cls d _ H => E cls d H) rfl rfl scLaw.nd rfl rfl ⟨rfl, by decide, .inl XT.mgT⟩ takesG
          (fun W pn' xe tk _ => pss_one (ps_set (i := 4) scLaw.nd rfl (.inl rfl) (by exact (pe_callS (FT.ok rfl) (ct.rm rfl) rfl hmT kpT bT (fun σ => L2N.passAt tk σ) (by exact (pa_cons (pv 2) pa_nil))))))
          (fun a oe cls d pn' hz hf => pss_cons (ps_if (PW.pt (pw_or (pt_not (pt_chain op_le op_le pe_int (pe_xf XT.xf XT.nL hz.zc hf (pv 5)) (pe_callB call_len (by rfl) T.len PySem.boot_len (pa_cons (pv 3) pa_nil))))
              (pw_or1 (pt_not (pt_chain op_le op_le pe_int (pe_xf XT.xf XT.nC hz.zc hf (pv 5)) (pe_op op_add (pe_callB call_len (by rfl) T.len PySem.boot_len (pa_cons (pe_ix ix_list (pv 3) (pe_op op_sub (pe_xf XT.xf XT.nL hz.zc hf (pv 5)) pe_int) (fun _ _ => rfl)) pa_nil)) pe_int))))))
            (pss_one (ps_ret pe_bl)) pss_nil)
          (pss_cons (ps_set (i := 6) scLaw.nd rfl (.inl rfl) (pe_join pe_str (pe_slice sl_list (pv 3) po_none (po_some (pe_op op_sub (pe_xf XT.xf XT.nL hz.zc hf (pv 5)) pe_int)))))
          (pss_one (ps_ret (pe_cmpR op_ge (pe_callB call_len (by rfl) T.len PySem.boot_len (pa_cons (pe_cG TF (CtG.mk rfl (fun z => Bool.noConfusion z) (fun _ => ⟨L2H.roomH_mark (ct.rm rfl) _, (a, oe), ⟨rfl, hf.choose, hf.choose_spec, hz.2.2 _ hf.choose_spec⟩, List.mem_cons_self⟩)) passE0 (by decide) rfl (pa_cons (pv 6) pa_nil)) pa_nil)) pe_int (nomark _)))))))
      (pss_one (ps_ret (pe_and (pe_callB call_isi (by rfl) T.isi (by decide +kernel) (pa_cons (pv 4) (pa_cons (pe_bltn (v := .ty "tuple") (u := .type "tuple") (by rfl) T.tuple (by decide +kernel) rfl) pa_nil))) (pe_one (pe_cG CV ct passG (by decide) rfl (pa_cons (pv 2) (pa_cons (pv 4) pa_nil)))))))))), ?_⟩
    -- box, text, lines
    refine ⟨_, rfl, a, ns, rfl, hS, fun H1 dp ds s1 hd1 hd2 hlen => ?_⟩
    refine ⟨(by show 2 ≤ sizeLine; decide), fun b hb => ?_⟩
    have hbd : b ≠ dp := (ne_of_none hd2 hb).symm
    refine ⟨_, rfl, b, dp, ds, 0, rfl, upd_same, (by rw [upd_ne (Ne.symm hbd)]; exact hd2), hbd, fun t m ht => ?_⟩
    have ht8 : t.length ≤ 8000 := by omega
    refine ⟨_, rfl, t, rfl, ht8, fun pl hpl => ?_⟩
    generalize upd (upd H1 b (HO.lst [V.ref dp, V.int 0])) b (boxV dp m) = H3 at hpl ⊢
    have hlenS : ∀ z : List Nat, z.length ≤ t.length → (S z).length ≤ sizeLine := fun z hz => by rw [S_len]; exact le_line (by omega)
    have hpl4 : (upd H3 pl (.lst (linesV t))) pl = some (.lst (linesV t)) := upd_same
    generalize upd H3 pl (.lst (linesV t)) = H4 at hpl4 ⊢
    refine ⟨_, rfl, t, rfl, ht8, ?_⟩
    cases hk : Fk.toks kwf t with
    | ok l =>
      intro a1 H5 rs s5 ha1 hat
      obtain ⟨hcov, hlast⟩ := Fk.toks_cov hk
      refine ⟨_, rfl, _, _, _, _, true, rfl, .ty "tuple", .base (.tup ha1), ?_, _, rfl, ?_⟩
      · unfold PySem.W.kitOne
        rw [if_pos (beq_self_eq_true _)]
      · refine ift rfl ?_
        exact ⟨_, rfl, _, rfl, t, a1, l, rs, rfl, ht8, ha1, hat, hcov, hlast, q⟩
    | error n =>
      have hn := Fk.toks_le hk
      obtain ⟨lb, hbf⟩ := Fk.toks_before hk
      refine ⟨rfl, fun d H5 r s5 hd => ?_⟩
      refine ⟨true, XT.te, fun _ a5 na => ?_, fun z => Bool.noConfusion z⟩
      have hpl5 := s5 pl _ hpl4
      have lk_l : (tfs (lin t n) (col t n) r).lookup ("line" : Str) = some (.int (lin t n)) := by
        unfold tfs
        exact (lk_miss (by decide +kernel)).trans ((lk_miss (by decide +kernel)).trans lk_hit)
      have lk_c : (tfs (lin t n) (col t n) r).lookup ("column" : Str) = some (.int (col t n)) := by
        unfold tfs
        exact (lk_miss (by decide +kernel)).trans lk_hit
      obtain ⟨ln, hln, hlc, hsum⟩ := Fk.pos_lines t n hn
      have hlt := Fk.posR_le t n hn
      have hLlen : (linesV t).length = (Fk.lns t).length := by simp [linesV]
      have hlin : (1 : Int) ≤ lin t n := by unfold lin; omega
      have hlin2 : lin t n ≤ ((linesV t).length : Int) := by rw [hLlen]; unfold lin; omega
      have hlnl := lns_len t ln (List.mem_of_getElem? hln)
      have elin : lin t n - 1 = ((posR t n).1 : Int) := by unfold lin; omega
      have hlnV : atI (linesV t) (lin t n - 1) = some (.str (S ln)) := by
        rw [elin]
        refine atI_nat ?_
        unfold linesV
        rw [List.getElem?_map, hln]
        rfl
      refine ⟨_, rfl, rfl, rfl, d, _, _, rfl, hd, lk_l, _, _, rfl, rfl, _, rfl, ?_⟩
      refine ift (decide_eq_true hlin) ?_
      refine ⟨_, rfl, _, _, rfl, .inl ⟨_, SqL.of hpl5, rfl⟩, _, _, rfl, rfl, _, rfl, ?_⟩
      refine iff' (by rw [decide_eq_true hlin2]; rfl) ?_
      refine ⟨_, rfl, rfl, rfl, d, _, _, rfl, hd, lk_c, _, _, rfl, rfl, _, rfl, ?_⟩
      refine ift (decide_eq_true (by unfold col; omega)) ?_
      refine ⟨_, rfl, _, rfl, rfl, rfl, d, _, _, rfl, hd, lk_l, _, _, rfl, rfl, pl, _, _, _, rfl, rfl, SqL.of hpl5, hlnV, _, ln.length, rfl, ⟨hlenS ln hlnl, (by rw [S_len])⟩, _, _, rfl, rfl, _, _, rfl, rfl, _, rfl, ?_⟩
      refine iff' (by rw [decide_eq_true (by unfold col; omega)]; rfl) ?_
      -- before
      refine ⟨⟨_, rfl⟩, _, rfl, _, rfl, rfl, rfl, d, _, _, rfl, hd, lk_l, _, _, rfl, rfl, _, rfl, pl, _, rfl, SqL.of hpl5, fun p2 hp2 => ?_⟩
      rw [elin, cutV_to]
      have etk : (linesV t).take (posR t n).1 = (((Fk.lns t).take (posR t n).1).map S).map V.str := by unfold linesV; rw [← List.map_take, List.map_map]; rfl
      rw [c_nl, etk]
      refine ⟨_, p2, ((Fk.lns t).take (posR t n).1).map S, rfl, rfl, .inl (SqL.of upd_same), ?_, ?_⟩
      · rw [sum_len]
        omega
      · rw [join_lns]
        have hjl := joinN_le t n hn
        refine ⟨_, rfl, Fk.joinN ((Fk.lns t).take (posR t n).1), rfl, by omega, ?_⟩
        rw [hbf]
        intro a6 H6 rs6 s6 ha6 hat6
        have hne : 1 ≤ rs6.length := by
          obtain ⟨_, lr, el⟩ := Fk.toks_cov hbf
          rw [hat6.len, el]
          simp
        refine ⟨_, rs6.length, rfl, .inr ⟨_, SqT.of ha6, by rw [List.length_map]⟩, _, _, rfl, rfl, ?_⟩
        have e1 : decide ((1 : Int) ≤ (rs6.length : Int)) = true := decide_eq_true (by omega)
        have q' : Q (.bl (decide ((1 : Int) ≤ (rs6.length : Int)))) H6 := by rw [e1]; exact q _
        exact q'
end
end FkW

namespace FkW
open PySem PySem.Spec PyProof.Rows L2 FkG SX
open Fk (posR posR_zero isWord isDig blen dlen wlen TokV Res isEsc esc)
section
variable {P : Program} {w : World} {K : PySem.W.Frag} {mg : Str → Option Value} {base : Heap}
theorem str_is (a b : List Nat) (t : Tok) : (Value.str (S a) t).isStr (S b) = decide (a = b) := by
  show (S a == S b) = _
  by_cases h : a = b
  · subst h; simp
  · have : ¬ S a = S b := fun e => h (S_inj e)
    simp [h, this]
theorem esc_mk {D : Addr} {n : Nat} {t1 t2 t3 u1 u2 u3 : Tok} (hm : mg "ESCAPES" = some (.ref D)) (hlo : (D == sysModules) = false)
    (hl : K.lookup D = some ⟨.type "dict", none, .dict #[⟨PyData.keyHash w.params ("\"" : Str), .str ("\"" : Str) t1, .str ("\"" : Str) u1⟩, ⟨PyData.keyHash w.params ("\\" : Str), .str ("\\" : Str) t2, .str ("\\" : Str) u2⟩, ⟨PyData.keyHash w.params ("n" : Str), .str ("n" : Str) t3, .str ("\n" : Str) u3⟩] n, #[]⟩) : EscT K w mg := by
  have en : ("n" : Str) = S [110] := by decide +kernel
  have hz : ∀ z : List Nat, PySem.W.nsIn K D (S z) = if [34] = z then some (some (Value.str (S [34]) u1)) else if [92] = z then some (some (Value.str (S [92]) u2)) else if [110] = z then some (some (Value.str (S [10]) u3)) else some none := by
    intro z
    rw [c_q, c_bs, en, c_nl] at hl
    have e : PySem.W.nsIn K D (S z) = (match ([⟨PyData.keyHash w.params (S [34]), .str (S [34]) t1, .str (S [34]) u1⟩, ⟨PyData.keyHash w.params (S [92]), .str (S [92]) t2, .str (S [92]) u2⟩, ⟨PyData.keyHash w.params (S [110]), .str (S [110]) t3, .str (S [10]) u3⟩] : List DictEntry).find? (·.key.isStr (S z)) with
      | some e => some (some e.val)
      | none => some none) := by
      unfold PySem.W.nsIn
      rw [hl]
      rfl
    rw [e]
    by_cases h1 : [34] = z
    · rw [if_pos h1]
      simp [List.find?, str_is, h1]
    · rw [if_neg h1]
      by_cases h2 : [92] = z
      · rw [if_pos h2]
        simp [List.find?, str_is, h1, h2]
      · rw [if_neg h2]
        by_cases h3 : [110] = z
        · rw [if_pos h3]
          simp [List.find?, str_is, h1, h2, h3]
        · rw [if_neg h3]
          simp [List.find?, str_is, h1, h2, h3]
  refine ⟨D, _, n, hm, ⟨hl, ⟨⟨_, _, rfl, rfl⟩, ⟨_, _, rfl, rfl⟩, ⟨_, _, rfl, rfl⟩, True.intro⟩, hlo⟩, ?_, ?_, ?_⟩
  · rw [hz]; rfl
  · intro x hx
    rw [hz]
    unfold isEsc at hx
    by_cases h1 : x = 34
    · subst h1; exact ⟨_, rfl, _, rfl⟩
    · by_cases h2 : x = 92
      · subst h2; exact ⟨_, rfl, _, rfl⟩
      · have h3 : x = 110 := by simpa [h1, h2] using hx
        subst h3; exact ⟨_, rfl, _, rfl⟩
  · intro x hx
    rw [hz]
    unfold isEsc at hx
    simp only [Bool.or_eq_false_iff, decide_eq_false_iff_not] at hx
    rw [if_neg (by simp; omega), if_neg (by simp; omega), if_neg (by simp; omega)]
end
end FkW

namespace FkW
open PySem PySem.Spec PyProof.Rows L2 FkG SX
open Fk (posR posR_zero isWord isDig blen dlen wlen TokV Res isEsc esc)
/-! ### what the top has written, and all promises -/
structure DfT (K : PySem.W.Frag) (mg : Str → Option Value) (x : Str) (st : Stmt) : Prop where
  ex : ∃ (f : Addr) (fd : FuncData), mg x = some (.ref f) ∧ FnP K x x st f fd
structure MdT (K : PySem.W.Frag) (C : Addr) (m qual : Str) (st : Stmt) : Prop where
  ex : ∃ (f : Addr) (fd : FuncData), Meth K C m f ∧ FnP K m qual st f fd
section
variable {c : Bool} {P : Program} {w : World} {K : PySem.W.Frag} {mg : Str → Option Value} {base : Heap}
theorem fd_mk {x qual : Str} {st : Stmt} {f : Addr} {oc : Value} {od an : Option Addr} {osl : Array (Option Value)} {kV doc pm cdv ct : Value} (l : K.lookup f = some ⟨oc, od, .func (PySem.W.fnOf x qual (defArgs st) (defBody st) (defScope st) .none kV doc pm an cdv ct), osl⟩)
    (hc : PySem.W.codeIn K cdv qual = true) (k : PySem.W.keepIn K (.ref f) = true) : FnP K x qual st f (PySem.W.fnOf x qual (defArgs st) (defBody st) (defScope st) .none kV doc pm an cdv ct) :=
  ⟨⟨oc, od, .none, kV, doc, pm, an, cdv, ct, osl, rfl, l, hc, .inl ⟨rfl, rfl⟩, .inl rfl⟩, k⟩
theorem df_mk {h : Heap} {x : Str} {st : Stmt} {f : Addr} {oc : Value} {od an : Option Addr} {osl : Array (Option Value)} {kV doc pm cdv ct : Value} (X : K.In h) (G : h.Ns mainGlobals mg) (a : PySem.W.nsIn K mainGlobals x = some (some (.ref f)))
    (l : K.lookup f = some ⟨oc, od, .func (PySem.W.fnOf x x (defArgs st) (defBody st) (defScope st) .none kV doc pm an cdv ct), osl⟩) (hc : PySem.W.codeIn K cdv x = true) (k : PySem.W.keepIn K (.ref f) = true) : DfT K mg x st :=
  ⟨f, _, PySem.W.mg_of X G a, fd_mk l hc k⟩
theorem md_mk {C : Addr} {x qual : Str} {st : Stmt} {f : Addr} {oc : Value} {od an : Option Addr} {osl : Array (Option Value)} {kV doc pm cdv ct : Value} (a : PySem.W.findIn K (.ref C) x = some (some (.ref f))) (i : PySem.W.isFn K (.ref f) = true)
    (l : K.lookup f = some ⟨oc, od, .func (PySem.W.fnOf x qual (defArgs st) (defBody st) (defScope st) .none kV doc pm an cdv ct), osl⟩) (hc : PySem.W.codeIn K cdv qual = true) (k : PySem.W.keepIn K (.ref f) = true) : MdT K C x qual st :=
  ⟨f, _, ⟨a, i, k⟩, fd_mk l hc k⟩
theorem cal_of {k : Nat} {x : Str} {st : Stmt} {ps : List Str} {sp : L2.Sp} (d : DfT K mg x st) (ok : ∀ f fd, FnP K x x st f fd → FnG c P w K mg base (CXN P w) k f fd ps sp)
    (b : ∀ (kV doc pm : Value) (an : Option Addr) (cdv ct : Value) (us : List Value), us.length = ps.length → bindArgs (PySem.W.fnOf x x (defArgs st) (defBody st) (defScope st) .none kV doc pm an cdv ct) ⟨us, []⟩ = pure (ps.zip us)) : CalG c P w K mg base k x sp [] := by
  obtain ⟨f, fd, hm, F⟩ := d.ex
  exact ⟨f, fd, ps, [], ok f fd F, hm, F.kp, F.bindsN b, .nil⟩
theorem met_of {k : Nat} {C : Addr} {x qual : Str} {st : Stmt} {ps : List Str} {sp : L2.Sp} (cl : Cls K C) (d : MdT K C x qual st) (ok : ∀ f fd, FnP K x qual st f fd → FnG c P w K mg base (CXN P w) k f fd ps sp)
    (b : ∀ (kV doc pm : Value) (an : Option Addr) (cdv ct : Value) (us : List Value), us.length = ps.length → bindArgs (PySem.W.fnOf x qual (defArgs st) (defBody st) (defScope st) .none kV doc pm an cdv ct) ⟨us, []⟩ = pure (ps.zip us)) : MetG c P w K mg base k C x sp [] := by
  obtain ⟨f, fd, hm, F⟩ := d.ex
  exact ⟨f, fd, ps, [], cl, hm, ok f fd F, F.bindsN b, .nil⟩
structure AllT (K : PySem.W.Frag) (w : World) (mg : Str → Option Value) (C CT CE fI fS : Addr) : Prop where
  rd : RdT K mg C
  gl : GlT mg
  es : EscT K w mg
  tu : TupT K mg
  ft : FtT K mg CT CE fI
  xf : XfT K mg CT
  lw : LwT mg
  mkC : PySem.W.makesIn K C = true
  kpC : PySem.W.keepIn K (.ref C) = true
  mI : MdT K C "__init__" "Reader.__init__" sRdInit
  mS : Meth K C "sign" fS
  dS : ∃ fd : FuncData, FnS K fS fd
  mM : MdT K C "move" "Reader.move" sMove
  mA : MdT K C "fault_ahead" "Reader.fault_ahead" sAhead
  dF : ∃ fd : FuncData, FnP K "__init__" "TextFault.__init__" sTFinit fI fd
  d0 : DfT K mg "is_word_sign" sIsWord
  d1 : DfT K mg "row_length" sRow
  d2 : DfT K mg "skip_blanks" sSkip
  d3 : DfT K mg "read_name" sName
  d4 : DfT K mg "read_number" sNum
  d5 : DfT K mg "read_text" sText
  d6 : DfT K mg "read_sign" sSgn
  d7 : DfT K mg "read_token" sTok
  d8 : DfT K mg "tokens" sToks
  d9 : DfT K mg "_law_cell" sCell
  d10 : DfT K mg "_law_digits" sDigits
  d11 : DfT K mg "_law_draw" sDraw
  d12 : DfT K mg "_law_sign" sLSign
  d13 : DfT K mg "_law_spelled" sSpelled
  d14 : DfT K mg "_law_text" sLText
  d15 : DfT K mg "_law_lines" sLines
  d16 : DfT K mg "_law_blank" sBlank
  d17 : DfT K mg "_law_fits" sFits
  d18 : DfT K mg "_law_length" sLen
  d19 : DfT K mg "_law_covered" sCov
variable {C CT CE fI fS : Addr}
theorem AllT.ftc (T : AllT K w mg C CT CE fI fS) : FtC P w K mg base CT := by
  obtain ⟨fd, F⟩ := T.dF
  exact ⟨CE, fI, fd, _, T.ft, ok_tf F T.ft, F.bindsN fun _ _ _ _ _ _ us hl => match us, hl with | [_, _, _, _], _ => rfl⟩
theorem AllT.rdc (T : AllT K w mg C CT CE fI fS) : RdC c P w K mg base C := by
  obtain ⟨fd, F⟩ := T.dS
  obtain ⟨ds, v, b⟩ := binds_sign0 F
  exact ⟨T.rd, T.gl, ⟨fS, fd, _, ds, T.rd.cl, T.mS, ok_sign F T.rd, b, v⟩, ⟨fS, fd, _, [], T.rd.cl, T.mS, ok_sign F T.rd, binds_sign1 F, .nil⟩,
    met_of T.rd.cl T.mM (fun f fd F => ok_move F T.rd) fun _ _ _ _ _ _ us hl => match us, hl with | [_, _], _ => rfl,
    met_of T.rd.cl T.mA (fun f fd F => ok_ahead F T.rd) fun _ _ _ _ _ _ us hl => match us, hl with | [_, _, _], _ => rfl⟩
theorem AllT.mak (T : AllT K w mg C CT CE fI fS) : MakG c P w K mg base 1 "Reader" C (spRdInit C) := by
  obtain ⟨f, fd, hm, F⟩ := T.mI.ex
  exact ⟨f, fd, _, ⟨T.mkC, hm.at_, hm.fn, T.kpC⟩, ok_rdInit F T.rd, T.rd.mgC, F.bindsN fun _ _ _ _ _ _ us hl => match us, hl with | [_, _], _ => rfl⟩
theorem AllT.toks (T : AllT K w mg C CT CE fI fS) : CalG c P w K mg base 5 "tokens" (spToks c CT) [] := by
  have R : RdC c P w K mg base C := T.rdc
  have M : MakG c P w K mg base 1 "Reader" C (spRdInit C) := T.mak
  have FT : FtC P w K mg base CT := T.ftc
  have IW : CalG c P w K mg base 1 "is_word_sign" spIsWord [] := cal_of T.d0 (fun f fd F => ok_isWord F T.gl) fun _ _ _ _ _ _ us hl => match us, hl with | [_], _ => rfl
  have RW : CalG c P w K mg base 2 "row_length" (spRow C) [] := cal_of T.d1 (fun f fd F => ok_row F R) fun _ _ _ _ _ _ us hl => match us, hl with | [_, _], _ => rfl
  have SK : CalG c P w K mg base 2 "skip_blanks" (spSkip C) [] := cal_of T.d2 (fun f fd F => ok_skip F R) fun _ _ _ _ _ _ us hl => match us, hl with | [_], _ => rfl
  have NM : CalG c P w K mg base 3 "read_name" (spName c C CT) [] := cal_of T.d3 (fun f fd F => ok_name F R IW FT T.tu) fun _ _ _ _ _ _ us hl => match us, hl with | [_], _ => rfl
  have NU : CalG c P w K mg base 3 "read_number" (spNum c C CT) [] := cal_of T.d4 (fun f fd F => ok_num F R IW RW FT) fun _ _ _ _ _ _ us hl => match us, hl with | [_], _ => rfl
  have TX : CalG c P w K mg base 3 "read_text" (spText c C CT) [] := cal_of T.d5 (fun f fd F => ok_text F R FT T.es) fun _ _ _ _ _ _ us hl => match us, hl with | [_], _ => rfl
  have SG : CalG c P w K mg base 3 "read_sign" (spSgn c C CT) [] := cal_of T.d6 (fun f fd F => ok_sgn F R FT T.tu) fun _ _ _ _ _ _ us hl => match us, hl with | [_], _ => rfl
  have TK : CalG c P w K mg base 4 "read_token" (spTok c C CT) [] := cal_of T.d7 (fun f fd F => ok_tok F R NM NU TX SG) fun _ _ _ _ _ _ us hl => match us, hl with | [_], _ => rfl
  exact cal_of T.d8 (fun f fd F => ok_toks F R M SK TK) fun _ _ _ _ _ _ us hl => match us, hl with | [_], _ => rfl
theorem AllT.law (T : AllT K w mg C CT CE fI fS) {fa : Addr} {fd : FuncData} (F : FnP K "law" "law" sLaw fa fd) : FnG true P w K mg base (CXN P w) 6 fa fd ["_law_script"] (spLaw K) := by
  have CEL : CalG true P w K mg base 1 "_law_cell" (spCell K) [] := cal_of T.d9 (fun f fd F => ok_cell F T.lw) fun _ _ _ _ _ _ us hl => match us, hl with | [_, _], _ => rfl
  have DG : CalG true P w K mg base 2 "_law_digits" (spDigits K) [] := cal_of T.d10 (fun f fd F => ok_digits F T.lw CEL) fun _ _ _ _ _ _ us hl => match us, hl with | [_, _, _], _ => rfl
  have DR : CalG true P w K mg base 1 "_law_draw" spDraw [] := cal_of T.d11 (fun f fd F => ok_draw F T.lw) fun _ _ _ _ _ _ us hl => match us, hl with | [_, _], _ => rfl
  have SG : CalG true P w K mg base 2 "_law_sign" spLSign [] := cal_of T.d12 (fun f fd F => ok_lsign F DR) fun _ _ _ _ _ _ us hl => match us, hl with | [_], _ => rfl
  have SP : CalG true P w K mg base 1 "_law_spelled" spSpelled [] := cal_of T.d13 (fun f fd F => ok_spelled F) fun _ _ _ _ _ _ us hl => match us, hl with | [_], _ => rfl
  have TX : CalG true P w K mg base 3 "_law_text" spLText [] := cal_of T.d14 (fun f fd F => ok_ltext F T.lw DR SG) fun _ _ _ _ _ _ us hl => match us, hl with | [_], _ => rfl
  have LI : CalG true P w K mg base 1 "_law_lines" spLines [] := cal_of T.d15 (fun f fd F => ok_lines F) fun _ _ _ _ _ _ us hl => match us, hl with | [_], _ => rfl
  have BL : CalG true P w K mg base 1 "_law_blank" spBlank [] := cal_of T.d16 (fun f fd F => ok_blank F) fun _ _ _ _ _ _ us hl => match us, hl with | [_], _ => rfl
  have FI : CalG true P w K mg base 2 "_law_fits" spFits [] := cal_of T.d17 (fun f fd F => ok_fits F T.lw SP) fun _ _ _ _ _ _ us hl => match us, hl with | [_, _], _ => rfl
  have LE : CalG true P w K mg base 2 "_law_length" spLen [] := cal_of T.d18 (fun f fd F => ok_len F T.lw SP) fun _ _ _ _ _ _ us hl => match us, hl with | [_, _], _ => rfl
  have CV : CalG true P w K mg base 3 "_law_covered" spCov [] := cal_of T.d19 (fun f fd F => ok_cov F T.lw LI BL LE FI) fun _ _ _ _ _ _ us hl => match us, hl with | [_, _], _ => rfl
  exact ok_law F T.lw T.xf DG TX LI T.toks T.toks CV
end
end FkW

namespace FkW
open PySem PySem.Spec PyProof.Rows L2 FkG SX
theorem exm_own {K : PySem.W.Frag} {S : Addr} (h1 : PySem.W.subIn K (.ref S) (.type "BaseException") = some true) (h2 : PySem.W.isClsIn K S = true) (h3 : PySem.W.typeIn K (.ref S) = some (.type "type")) (h4 : PySem.W.subIn K (.ref S) (.ref S) = some true) :
    PySem.W.exmOne K (.ref S) (.ref S) = some true := by
  have e1 : (PySem.W.subIn K (.ref S) (.type "BaseException") == some true) = true := by rw [h1] <;> rfl
  have h2' : (PySem.W.clsIn K S).isSome = true := h2
  have e2 : ((PySem.W.clsIn K S).isSome && PySem.W.typeIn K (.ref S) == some (.type "type")) = true := by rw [h2', h3] <;> rfl
  unfold PySem.W.exmOne
  first
    | (rw [if_pos e1, if_pos e2]; exact h4)
    | (show (if (PySem.W.subIn K (.ref S) (.type "BaseException") == some true) = true then (if ((PySem.W.clsIn K S).isSome && PySem.W.typeIn K (.ref S) == some (.type "type")) = true then PySem.W.subIn K (.ref S) (.ref S) else none) else none) = some true
       rw [if_pos e1, if_pos e2]; exact h4)
theorem c_let : ("ABCDEFGHIJKLMNOPQRSTUVWXYZabcdefghijklmnopqrstuvwxyz" : Str) = S Fk.LET := by decide +kernel
theorem c_short : ("(){}[],;.=+-*/&<>" : Str) = S Fk.SHORT := by decide +kernel
theorem c_long : (["<=", ">=", "==", "!="] : List Str) = Fk.LONG.map S := by decide +kernel
theorem all_mk {l : PySem.W.OpenLaw} {w : World} {K : PySem.W.Frag} {h : Heap} {mg : Str → Option Value} {fa : Addr} (X : K.In h) (G : h.Ns mainGlobals mg) (hfa : mg "law" = some (.ref fa))
    {C CT CE D KT LT TD : Addr}
    {fI : Addr} {ocI kVI dcI pmI cdI ctI : Value} {odI anI : Option Addr} {slI : Array (Option Value)}
    {fM : Addr} {ocM kVM dcM pmM cdM ctM : Value} {odM anM : Option Addr} {slM : Array (Option Value)}
    {fA : Addr} {ocA kVA dcA pmA cdA ctA : Value} {odA anA : Option Addr} {slA : Array (Option Value)}
    {fS : Addr} {ocS kVS dcS pmS cdS ctS : Value} {odS anS : Option Addr} {slS : Array (Option Value)}
    {ocD : Value} {odD : Option Addr} {t0 : Tok} {nD : Nat} {slD : Array (Option Value)}
    {nm qq : Str} {NN : Addr} {bs bm : List Value} {sn : List Str} {sub : List Value} {ab : Bool} {col : Option Bool} {dd : Option Addr} {m0 m1 m2 m3 m5 : Option Value}
    {fF : Addr} {ocF kVF dcF pmF cdF ctF : Value} {odF anF : Option Addr} {slF : Array (Option Value)}
    {tL tG tS tm1 tm2 tm3 tm4 t1 t2 t3 u1 u2 u3 : Tok} {nEs : Nat}
    {ddK ddL : Option Addr} {itsK itsL : Array Value} {nK nLo : Nat} {slK slL : Array (Option Value)}
    {f0 : Addr} {oc0 kV0 dc0 pm0 cd0 ct0 : Value} {od0 an0 : Option Addr} {sl0 : Array (Option Value)}
    {f1 : Addr} {oc1 kV1 dc1 pm1 cd1 ct1 : Value} {od1 an1 : Option Addr} {sl1 : Array (Option Value)}
    {f2 : Addr} {oc2 kV2 dc2 pm2 cd2 ct2 : Value} {od2 an2 : Option Addr} {sl2 : Array (Option Value)}
    {f3 : Addr} {oc3 kV3 dc3 pm3 cd3 ct3 : Value} {od3 an3 : Option Addr} {sl3 : Array (Option Value)}
    {f4 : Addr} {oc4 kV4 dc4 pm4 cd4 ct4 : Value} {od4 an4 : Option Addr} {sl4 : Array (Option Value)}
    {f5 : Addr} {oc5 kV5 dc5 pm5 cd5 ct5 : Value} {od5 an5 : Option Addr} {sl5 : Array (Option Value)}
    {f6 : Addr} {oc6 kV6 dc6 pm6 cd6 ct6 : Value} {od6 an6 : Option Addr} {sl6 : Array (Option Value)}
    {f7 : Addr} {oc7 kV7 dc7 pm7 cd7 ct7 : Value} {od7 an7 : Option Addr} {sl7 : Array (Option Value)}
    {f8 : Addr} {oc8 kV8 dc8 pm8 cd8 ct8 : Value} {od8 an8 : Option Addr} {sl8 : Array (Option Value)}
    {f9 : Addr} {oc9 kV9 dc9 pm9 cd9 ct9 : Value} {od9 an9 : Option Addr} {sl9 : Array (Option Value)}
    {f10 : Addr} {oc10 kV10 dc10 pm10 cd10 ct10 : Value} {od10 an10 : Option Addr} {sl10 : Array (Option Value)}
    {f11 : Addr} {oc11 kV11 dc11 pm11 cd11 ct11 : Value} {od11 an11 : Option Addr} {sl11 : Array (Option Value)}
    {f12 : Addr} {oc12 kV12 dc12 pm12 cd12 ct12 : Value} {od12 an12 : Option Addr} {sl12 : Array (Option Value)}
    {f13 : Addr} {oc13 kV13 dc13 pm13 cd13 ct13 : Value} {od13 an13 : Option Addr} {sl13 : Array (Option Value)}
    {f14 : Addr} {oc14 kV14 dc14 pm14 cd14 ct14 : Value} {od14 an14 : Option Addr} {sl14 : Array (Option Value)}
    {f15 : Addr} {oc15 kV15 dc15 pm15 cd15 ct15 : Value} {od15 an15 : Option Addr} {sl15 : Array (Option Value)}
    {f16 : Addr} {oc16 kV16 dc16 pm16 cd16 ct16 : Value} {od16 an16 : Option Addr} {sl16 : Array (Option Value)}
    {f17 : Addr} {oc17 kV17 dc17 pm17 cd17 ct17 : Value} {od17 an17 : Option Addr} {sl17 : Array (Option Value)}
    {f18 : Addr} {oc18 kV18 dc18 pm18 cd18 ct18 : Value} {od18 an18 : Option Addr} {sl18 : Array (Option Value)}
    {f19 : Addr} {oc19 kV19 dc19 pm19 cd19 ct19 : Value} {od19 an19 : Option Addr} {sl19 : Array (Option Value)}
    {f20 : Addr} {oc20 kV20 dc20 pm20 cd20 ct20 : Value} {od20 an20 : Option Addr} {sl20 : Array (Option Value)}
    (aC : PySem.W.nsIn K mainGlobals "Reader" = some (some (.ref C)))
    (pg : PySem.W.plainGet K C Str.empty = true)
    (hd : PySem.W.hasDictIn K C = true)
    (po : PySem.W.plainOver K C = true)
    (sa : PySem.W.findIn K (.ref C) "__setattr__" = some (some (.builtin "object.__setattr__")))
    (nT : PySem.W.findIn K (.ref C) "text" = some none)
    (nA : PySem.W.findIn K (.ref C) "at" = some none)
    (nL : PySem.W.findIn K (.ref C) "line" = some none)
    (nC : PySem.W.findIn K (.ref C) "column" = some none)
    (mkC : PySem.W.makesIn K C = true)
    (kpC : PySem.W.keepIn K (.ref C) = true)
    (aI : PySem.W.findIn K (.ref C) "__init__" = some (some (.ref fI)))
    (iI : PySem.W.isFn K (.ref fI) = true)
    (lI : K.lookup fI = some ⟨ocI, odI, .func (PySem.W.fnOf "__init__" "Reader.__init__" (defArgs sRdInit) (defBody sRdInit) (defScope sRdInit) .none kVI dcI pmI anI cdI ctI), slI⟩)
    (cI : PySem.W.codeIn K cdI "Reader.__init__" = true)
    (kI : PySem.W.keepIn K (.ref fI) = true)
    (aM : PySem.W.findIn K (.ref C) "move" = some (some (.ref fM)))
    (iM : PySem.W.isFn K (.ref fM) = true)
    (lM : K.lookup fM = some ⟨ocM, odM, .func (PySem.W.fnOf "move" "Reader.move" (defArgs sMove) (defBody sMove) (defScope sMove) .none kVM dcM pmM anM cdM ctM), slM⟩)
    (cM : PySem.W.codeIn K cdM "Reader.move" = true)
    (kM : PySem.W.keepIn K (.ref fM) = true)
    (aA : PySem.W.findIn K (.ref C) "fault_ahead" = some (some (.ref fA)))
    (iA : PySem.W.isFn K (.ref fA) = true)
    (lA : K.lookup fA = some ⟨ocA, odA, .func (PySem.W.fnOf "fault_ahead" "Reader.fault_ahead" (defArgs sAhead) (defBody sAhead) (defScope sAhead) .none kVA dcA pmA anA cdA ctA), slA⟩)
    (cA : PySem.W.codeIn K cdA "Reader.fault_ahead" = true)
    (kA : PySem.W.keepIn K (.ref fA) = true)
    (aS : PySem.W.findIn K (.ref C) "sign" = some (some (.ref fS)))
    (iS : PySem.W.isFn K (.ref fS) = true)
    (lS : K.lookup fS = some ⟨ocS, odS, .func (PySem.W.fnOf "sign" "Reader.sign" (defArgs sSign) (defBody sSign) (defScope sSign) (.ref TD) kVS dcS pmS anS cdS ctS), slS⟩)
    (cS : PySem.W.codeIn K cdS "Reader.sign" = true)
    (kS : PySem.W.keepIn K (.ref fS) = true)
    (lTD : K.lookup TD = some ⟨ocD, odD, .seq #[.int 0 t0] nD, slD⟩)
    (aT : PySem.W.nsIn K mainGlobals "TextFault" = some (some (.ref CT)))
    (aE : PySem.W.nsIn K mainGlobals "ForetaskError" = some (some (.ref CE)))
    (xL : K.lookup CT = some (excClassObj nm qq CT NN bs bm true sn sub ab col dd m0 m1 m2 m3 m5 "ValueError.__new__"))
    (vb : PySem.HandSPX.refsVE bm = true)
    (saT : PySem.W.findIn K (.ref CT) "__setattr__" = some (some (.builtin "object.__setattr__")))
    (eT : PySem.W.subIn K (.ref CT) (.type "BaseException") = some true)
    (tT : PySem.W.typeIn K (.ref CT) = some (.type "type"))
    (kT : PySem.W.keepIn K (.ref CT) = true)
    (iT : PySem.W.findIn K (.ref CT) "__init__" = some (some (.ref fF)))
    (tF : PySem.W.typeIn K (.ref fF) = some (.type "function"))
    (lF : K.lookup fF = some ⟨ocF, odF, .func (PySem.W.fnOf "__init__" "TextFault.__init__" (defArgs sTFinit) (defBody sTFinit) (defScope sTFinit) .none kVF dcF pmF anF cdF ctF), slF⟩)
    (cF : PySem.W.codeIn K cdF "TextFault.__init__" = true)
    (kF : PySem.W.keepIn K (.ref fF) = true)
    (nTL : PySem.W.findIn K (.ref CT) "line" = some none)
    (nTC : PySem.W.findIn K (.ref CT) "column" = some none)
    (nTR : PySem.W.findIn K (.ref CT) "reason" = some none)
    (rE : PySem.W.readsIn K CE (.type "type") = true)
    (gE : PySem.W.specialIn K (.ref CE) "__getattribute__" = some (some (.builtin "type.__getattribute__")))
    (vE : PySem.W.findCls K (.ref CE) (.type "type") "__init__" = some (.val (.builtin "ValueError.__init__")))
    (gaT : PySem.W.findIn K (.ref CT) "__getattribute__" = some (some (.builtin "BaseException.__getattribute__")))
    (ggT : PySem.W.findIn K (.ref CT) "__getattr__" = some none)
    (hdT : PySem.W.hasDictIn K CT = true)
    (icT : PySem.W.isClsIn K CT = true)
    (ssT : PySem.W.subIn K (.ref CT) (.ref CT) = some true)
    (gLet : PySem.W.nsIn K mainGlobals "LETTERS" = some (some (.str "ABCDEFGHIJKLMNOPQRSTUVWXYZabcdefghijklmnopqrstuvwxyz" tL)))
    (gDig : PySem.W.nsIn K mainGlobals "DIGITS" = some (some (.str "0123456789" tG)))
    (gSho : PySem.W.nsIn K mainGlobals "SHORT_SIGNS" = some (some (.str "(){}[],;.=+-*/&<>" tS)))
    (gm1 : PySem.W.nsIn K mainGlobals "MOST_CHARACTERS" = some (some (.int 8000 tm1)))
    (gm2 : PySem.W.nsIn K mainGlobals "MOST_NAME" = some (some (.int 20 tm2)))
    (gm3 : PySem.W.nsIn K mainGlobals "MOST_DIGITS" = some (some (.int 60 tm3)))
    (gm4 : PySem.W.nsIn K mainGlobals "MOST_LITERAL" = some (some (.int 100 tm4)))
    (z1 : PySem.W.nsIn K mainGlobals "len" = some none)
    (z2 : PySem.W.nsIn K mainGlobals "int" = some none)
    (z3 : PySem.W.nsIn K mainGlobals "range" = some none)
    (z4 : PySem.W.nsIn K mainGlobals "tuple" = some none)
    (z5 : PySem.W.nsIn K mainGlobals "sum" = some none)
    (z6 : PySem.W.nsIn K mainGlobals "isinstance" = some none)
    (aD : PySem.W.nsIn K mainGlobals "ESCAPES" = some (some (.ref D)))
    (lD : K.lookup D = some ⟨.type "dict", none, .dict #[⟨PyData.keyHash w.params ("\"" : Str), .str ("\"" : Str) t1, .str ("\"" : Str) u1⟩, ⟨PyData.keyHash w.params ("\\" : Str), .str ("\\" : Str) t2, .str ("\\" : Str) u2⟩, ⟨PyData.keyHash w.params ("n" : Str), .str ("n" : Str) t3, .str ("\n" : Str) u3⟩] nEs, #[]⟩)
    (loD : (D == sysModules) = false)
    (aK : PySem.W.nsIn K mainGlobals "KEYWORDS" = some (some (.ref KT)))
    (lK : K.lookup KT = some ⟨.type "tuple", ddK, .seq itsK nK, slK⟩)
    (vK : Vals (KWS.map V.str) itsK.toList)
    (zK : itsK.size ≤ sizeLine)
    (aLo : PySem.W.nsIn K mainGlobals "LONG_SIGNS" = some (some (.ref LT)))
    (lLo : K.lookup LT = some ⟨.type "tuple", ddL, .seq itsL nLo, slL⟩)
    (vLo : Vals ((["<=", ">=", "==", "!="] : List Str).map V.str) itsL.toList)
    (zLo : itsL.size ≤ sizeLine)
    (a0 : PySem.W.nsIn K mainGlobals "is_word_sign" = some (some (.ref f0)))
    (l0 : K.lookup f0 = some ⟨oc0, od0, .func (PySem.W.fnOf "is_word_sign" "is_word_sign" (defArgs sIsWord) (defBody sIsWord) (defScope sIsWord) .none kV0 dc0 pm0 an0 cd0 ct0), sl0⟩)
    (c0 : PySem.W.codeIn K cd0 "is_word_sign" = true)
    (k0 : PySem.W.keepIn K (.ref f0) = true)
    (a1 : PySem.W.nsIn K mainGlobals "row_length" = some (some (.ref f1)))
    (l1 : K.lookup f1 = some ⟨oc1, od1, .func (PySem.W.fnOf "row_length" "row_length" (defArgs sRow) (defBody sRow) (defScope sRow) .none kV1 dc1 pm1 an1 cd1 ct1), sl1⟩)
    (c1 : PySem.W.codeIn K cd1 "row_length" = true)
    (k1 : PySem.W.keepIn K (.ref f1) = true)
    (a2 : PySem.W.nsIn K mainGlobals "skip_blanks" = some (some (.ref f2)))
    (l2 : K.lookup f2 = some ⟨oc2, od2, .func (PySem.W.fnOf "skip_blanks" "skip_blanks" (defArgs sSkip) (defBody sSkip) (defScope sSkip) .none kV2 dc2 pm2 an2 cd2 ct2), sl2⟩)
    (c2 : PySem.W.codeIn K cd2 "skip_blanks" = true)
    (k2 : PySem.W.keepIn K (.ref f2) = true)
    (a3 : PySem.W.nsIn K mainGlobals "read_name" = some (some (.ref f3)))
    (l3 : K.lookup f3 = some ⟨oc3, od3, .func (PySem.W.fnOf "read_name" "read_name" (defArgs sName) (defBody sName) (defScope sName) .none kV3 dc3 pm3 an3 cd3 ct3), sl3⟩)
    (c3 : PySem.W.codeIn K cd3 "read_name" = true)
    (k3 : PySem.W.keepIn K (.ref f3) = true)
    (a4 : PySem.W.nsIn K mainGlobals "read_number" = some (some (.ref f4)))
    (l4 : K.lookup f4 = some ⟨oc4, od4, .func (PySem.W.fnOf "read_number" "read_number" (defArgs sNum) (defBody sNum) (defScope sNum) .none kV4 dc4 pm4 an4 cd4 ct4), sl4⟩)
    (c4 : PySem.W.codeIn K cd4 "read_number" = true)
    (k4 : PySem.W.keepIn K (.ref f4) = true)
    (a5 : PySem.W.nsIn K mainGlobals "read_text" = some (some (.ref f5)))
    (l5 : K.lookup f5 = some ⟨oc5, od5, .func (PySem.W.fnOf "read_text" "read_text" (defArgs sText) (defBody sText) (defScope sText) .none kV5 dc5 pm5 an5 cd5 ct5), sl5⟩)
    (c5 : PySem.W.codeIn K cd5 "read_text" = true)
    (k5 : PySem.W.keepIn K (.ref f5) = true)
    (a6 : PySem.W.nsIn K mainGlobals "read_sign" = some (some (.ref f6)))
    (l6 : K.lookup f6 = some ⟨oc6, od6, .func (PySem.W.fnOf "read_sign" "read_sign" (defArgs sSgn) (defBody sSgn) (defScope sSgn) .none kV6 dc6 pm6 an6 cd6 ct6), sl6⟩)
    (c6 : PySem.W.codeIn K cd6 "read_sign" = true)
    (k6 : PySem.W.keepIn K (.ref f6) = true)
    (a7 : PySem.W.nsIn K mainGlobals "read_token" = some (some (.ref f7)))
    (l7 : K.lookup f7 = some ⟨oc7, od7, .func (PySem.W.fnOf "read_token" "read_token" (defArgs sTok) (defBody sTok) (defScope sTok) .none kV7 dc7 pm7 an7 cd7 ct7), sl7⟩)
    (c7 : PySem.W.codeIn K cd7 "read_token" = true)
    (k7 : PySem.W.keepIn K (.ref f7) = true)
    (a8 : PySem.W.nsIn K mainGlobals "tokens" = some (some (.ref f8)))
    (l8 : K.lookup f8 = some ⟨oc8, od8, .func (PySem.W.fnOf "tokens" "tokens" (defArgs sToks) (defBody sToks) (defScope sToks) .none kV8 dc8 pm8 an8 cd8 ct8), sl8⟩)
    (c8 : PySem.W.codeIn K cd8 "tokens" = true)
    (k8 : PySem.W.keepIn K (.ref f8) = true)
    (a9 : PySem.W.nsIn K mainGlobals "_law_cell" = some (some (.ref f9)))
    (l9 : K.lookup f9 = some ⟨oc9, od9, .func (PySem.W.fnOf "_law_cell" "_law_cell" (defArgs sCell) (defBody sCell) (defScope sCell) .none kV9 dc9 pm9 an9 cd9 ct9), sl9⟩)
    (c9 : PySem.W.codeIn K cd9 "_law_cell" = true)
    (k9 : PySem.W.keepIn K (.ref f9) = true)
    (a10 : PySem.W.nsIn K mainGlobals "_law_digits" = some (some (.ref f10)))
    (l10 : K.lookup f10 = some ⟨oc10, od10, .func (PySem.W.fnOf "_law_digits" "_law_digits" (defArgs sDigits) (defBody sDigits) (defScope sDigits) .none kV10 dc10 pm10 an10 cd10 ct10), sl10⟩)
    (c10 : PySem.W.codeIn K cd10 "_law_digits" = true)
    (k10 : PySem.W.keepIn K (.ref f10) = true)
    (a11 : PySem.W.nsIn K mainGlobals "_law_draw" = some (some (.ref f11)))
    (l11 : K.lookup f11 = some ⟨oc11, od11, .func (PySem.W.fnOf "_law_draw" "_law_draw" (defArgs sDraw) (defBody sDraw) (defScope sDraw) .none kV11 dc11 pm11 an11 cd11 ct11), sl11⟩)
    (c11 : PySem.W.codeIn K cd11 "_law_draw" = true)
    (k11 : PySem.W.keepIn K (.ref f11) = true)
    (a12 : PySem.W.nsIn K mainGlobals "_law_sign" = some (some (.ref f12)))
    (l12 : K.lookup f12 = some ⟨oc12, od12, .func (PySem.W.fnOf "_law_sign" "_law_sign" (defArgs sLSign) (defBody sLSign) (defScope sLSign) .none kV12 dc12 pm12 an12 cd12 ct12), sl12⟩)
    (c12 : PySem.W.codeIn K cd12 "_law_sign" = true)
    (k12 : PySem.W.keepIn K (.ref f12) = true)
    (a13 : PySem.W.nsIn K mainGlobals "_law_spelled" = some (some (.ref f13)))
    (l13 : K.lookup f13 = some ⟨oc13, od13, .func (PySem.W.fnOf "_law_spelled" "_law_spelled" (defArgs sSpelled) (defBody sSpelled) (defScope sSpelled) .none kV13 dc13 pm13 an13 cd13 ct13), sl13⟩)
    (c13 : PySem.W.codeIn K cd13 "_law_spelled" = true)
    (k13 : PySem.W.keepIn K (.ref f13) = true)
    (a14 : PySem.W.nsIn K mainGlobals "_law_text" = some (some (.ref f14)))
    (l14 : K.lookup f14 = some ⟨oc14, od14, .func (PySem.W.fnOf "_law_text" "_law_text" (defArgs sLText) (defBody sLText) (defScope sLText) .none kV14 dc14 pm14 an14 cd14 ct14), sl14⟩)
    (c14 : PySem.W.codeIn K cd14 "_law_text" = true)
    (k14 : PySem.W.keepIn K (.ref f14) = true)
    (a15 : PySem.W.nsIn K mainGlobals "_law_lines" = some (some (.ref f15)))
    (l15 : K.lookup f15 = some ⟨oc15, od15, .func (PySem.W.fnOf "_law_lines" "_law_lines" (defArgs sLines) (defBody sLines) (defScope sLines) .none kV15 dc15 pm15 an15 cd15 ct15), sl15⟩)
    (c15 : PySem.W.codeIn K cd15 "_law_lines" = true)
    (k15 : PySem.W.keepIn K (.ref f15) = true)
    (a16 : PySem.W.nsIn K mainGlobals "_law_blank" = some (some (.ref f16)))
    (l16 : K.lookup f16 = some ⟨oc16, od16, .func (PySem.W.fnOf "_law_blank" "_law_blank" (defArgs sBlank) (defBody sBlank) (defScope sBlank) .none kV16 dc16 pm16 an16 cd16 ct16), sl16⟩)
    (c16 : PySem.W.codeIn K cd16 "_law_blank" = true)
    (k16 : PySem.W.keepIn K (.ref f16) = true)
    (a17 : PySem.W.nsIn K mainGlobals "_law_fits" = some (some (.ref f17)))
    (l17 : K.lookup f17 = some ⟨oc17, od17, .func (PySem.W.fnOf "_law_fits" "_law_fits" (defArgs sFits) (defBody sFits) (defScope sFits) .none kV17 dc17 pm17 an17 cd17 ct17), sl17⟩)
    (c17 : PySem.W.codeIn K cd17 "_law_fits" = true)
    (k17 : PySem.W.keepIn K (.ref f17) = true)
    (a18 : PySem.W.nsIn K mainGlobals "_law_length" = some (some (.ref f18)))
    (l18 : K.lookup f18 = some ⟨oc18, od18, .func (PySem.W.fnOf "_law_length" "_law_length" (defArgs sLen) (defBody sLen) (defScope sLen) .none kV18 dc18 pm18 an18 cd18 ct18), sl18⟩)
    (c18 : PySem.W.codeIn K cd18 "_law_length" = true)
    (k18 : PySem.W.keepIn K (.ref f18) = true)
    (a19 : PySem.W.nsIn K mainGlobals "_law_covered" = some (some (.ref f19)))
    (l19 : K.lookup f19 = some ⟨oc19, od19, .func (PySem.W.fnOf "_law_covered" "_law_covered" (defArgs sCov) (defBody sCov) (defScope sCov) .none kV19 dc19 pm19 an19 cd19 ct19), sl19⟩)
    (c19 : PySem.W.codeIn K cd19 "_law_covered" = true)
    (k19 : PySem.W.keepIn K (.ref f19) = true)
    (a20 : PySem.W.nsIn K mainGlobals "law" = some (some (.ref f20)))
    (l20 : K.lookup f20 = some ⟨oc20, od20, .func (PySem.W.fnOf "law" "law" (defArgs sLaw) (defBody sLaw) (defScope sLaw) .none kV20 dc20 pm20 an20 cd20 ct20), sl20⟩)
    (c20 : PySem.W.codeIn K cd20 "law" = true)
    (k20 : PySem.W.keepIn K (.ref f20) = true)
    : ∃ fd : FuncData, (∀ (s : Shared) (v : Value), BindsTo s fd ⟨[v], []⟩ [("_law_script", v)]) ∧ ∀ base : Heap, K.In base → base.Ns mainGlobals mg → FnOk l.prog w K mg base (L2N.CX l.prog w) 6 fa fd ["_law_script"] (spLaw K) := by
  have e := hfa.symm.trans (PySem.W.mg_of X G a20)
  cases e
  have T : AllT K w mg C CT CE fF fS :=
    { rd := ⟨⟨pg, hd, po, sa⟩, nT, nA, nL, nC, PySem.W.mg_of X G aC⟩
      gl := ⟨⟨_, PySem.W.mg_of X G gLet, by rw [c_let]; exact ⟨_, rfl⟩⟩, ⟨_, PySem.W.mg_of X G gDig, by rw [c_dig]; exact ⟨_, rfl⟩⟩, ⟨_, PySem.W.mg_of X G gSho, by rw [c_short]; exact ⟨_, rfl⟩⟩, ⟨_, PySem.W.mg_of X G gm1, _, rfl⟩, ⟨_, PySem.W.mg_of X G gm2, _, rfl⟩, ⟨_, PySem.W.mg_of X G gm3, _, rfl⟩, ⟨_, PySem.W.mg_of X G gm4, _, rfl⟩,
        PySem.W.mg_none_of X G z1, PySem.W.mg_none_of X G z2, PySem.W.mg_none_of X G z4⟩
      es := esc_mk (PySem.W.mg_of X G aD) loD lD
      tu := ⟨⟨KT, PySem.W.mg_of X G aK, fun _ => .inr ⟨_, itsK, nK, lK, rfl, rfl, zK, vK⟩⟩, ⟨LT, PySem.W.mg_of X G aLo, fun _ => .inr ⟨_, itsL, nLo, lLo, rfl, rfl, zLo, by rw [c_long, List.map_map] at vLo; exact vLo⟩⟩⟩
      ft := ⟨PySem.W.mg_of X G aT, PySem.W.mg_of X G aE, ⟨⟨nm, qq, NN, bs, bm, sn, sub, ab, col, dd, m0, m1, m2, m3, m5, xL, vb⟩, saT, eT, tT, kT⟩, iT, tF, nTL, nTC, nTR, rE, gE, vE⟩
      xf := ⟨PySem.W.mg_of X G aT, ⟨gaT, ggT, eT, hdT⟩, nTL, nTC, exm_own eT icT tT ssT⟩
      lw := ⟨PySem.W.mg_none_of X G z1, PySem.W.mg_none_of X G z2, PySem.W.mg_none_of X G z3, PySem.W.mg_none_of X G z4, PySem.W.mg_none_of X G z5, PySem.W.mg_none_of X G z6⟩
      mkC := mkC
      kpC := kpC
      mI := md_mk aI iI lI cI kI
      mS := ⟨aS, iS, kS⟩
      dS := ⟨_, ⟨⟨ocS, odS, _, kVS, dcS, pmS, anS, cdS, ctS, slS, rfl, lS, cS, .inr ⟨by simp, TD, _, [.int 0 t0], nD, rfl, lTD, rfl, .cons ⟨_, rfl⟩ .nil⟩, .inl rfl⟩, kS⟩⟩
      mM := md_mk aM iM lM cM kM
      mA := md_mk aA iA lA cA kA
      dF := ⟨_, fd_mk lF cF kF⟩
      d0 := df_mk X G a0 l0 c0 k0
      d1 := df_mk X G a1 l1 c1 k1
      d2 := df_mk X G a2 l2 c2 k2
      d3 := df_mk X G a3 l3 c3 k3
      d4 := df_mk X G a4 l4 c4 k4
      d5 := df_mk X G a5 l5 c5 k5
      d6 := df_mk X G a6 l6 c6 k6
      d7 := df_mk X G a7 l7 c7 k7
      d8 := df_mk X G a8 l8 c8 k8
      d9 := df_mk X G a9 l9 c9 k9
      d10 := df_mk X G a10 l10 c10 k10
      d11 := df_mk X G a11 l11 c11 k11
      d12 := df_mk X G a12 l12 c12 k12
      d13 := df_mk X G a13 l13 c13 k13
      d14 := df_mk X G a14 l14 c14 k14
      d15 := df_mk X G a15 l15 c15 k15
      d16 := df_mk X G a16 l16 c16 k16
      d17 := df_mk X G a17 l17 c17 k17
      d18 := df_mk X G a18 l18 c18 k18
      d19 := df_mk X G a19 l19 c19 k19
    }
  have FL := fd_mk (st := sLaw) l20 c20 k20
  exact ⟨_, fun s v => FL.bindsA (ps := ["_law_script"]) (fun _ _ _ _ _ _ us hl => match us, hl with | [_], _ => rfl) s [v] rfl, fun base _ _ => (T.law FL).ok rfl⟩
theorem walk {l : PySem.W.OpenLaw} {q : Program} {loose : List Str} {XP : (Str → Option Value) → Heap → Prop} {YP : World → Heap → Prop} {d : DefRec} {K : Params → PySem.W.Frag} (hn : l.most = some 63) (hdf : d.params.defaults = [])
    (hY : ∀ (w : World) (h : Heap), YP w h → (K w.params).In h)
    (F : ∀ (w : World) (mg : Str → Option Value) (fa : Addr) (h : Heap), (K w.params).In h → h.Ns mainGlobals mg → mg d.name = some (.ref fa) →
      ∃ fd : FuncData, (∀ (s : Shared) (u : Value), BindsTo s fd ⟨[u], []⟩ [("_law_script", u)]) ∧ ∀ base : Heap, (K w.params).In base → base.Ns mainGlobals mg → FnOk l.prog w (K w.params) mg base (L2N.CX l.prog w) 6 fa fd ["_law_script"] (spLaw (K w.params))) :
    PySem.W.WalkO q loose XP YP l.row.toRowW d [] (fun f vs => PySem.call f vs) :=
  L2.walk_of (n := 63) (k := 6) (x := "_law_script") (CX := fun w => L2N.CX l.prog w) (sp := fun w => spLaw (K w.params)) hn (by decide) hdf ⟨rfl, by decide, by decide⟩ hY F (fun _ _ a ns _ _ hS => ⟨a, ns, rfl, hS, fun _ => rfl⟩) fun _ _ _ _ _ z => by
    obtain ⟨_, _, _, _, _, _, _, _, _, _, _, _, z⟩ := z
    exact z
end FkW

open PySem PySem.W PyProof.Rows
set_option maxRecDepth 100000 in
set_option maxHeartbeats 0 in
open_top fk_head for PySem.Challenge.rw_foretask_k03_whole_texts_are_covered

open PySem PySem.W PyProof.Rows
set_option maxRecDepth 100000 in
set_option maxHeartbeats 0 in
theorem PySem.Challenge.cw_foretask_k03_whole_texts_are_covered_holds : PySem.Challenge.rw_foretask_k03_whole_texts_are_covered.Holds := by
  refine fk_head ?_
  k_fill
  refine FkW.walk (l := PySem.Challenge.rw_foretask_k03_whole_texts_are_covered) rfl rfl (fun w h Y => PySem.W.kIn_of Y) ?F
  case F =>
    intro w mg fa h KX G hmg
    refine' FkW.all_mk KX G hmg ?aC ?pg ?hd ?po ?sa ?nT ?nA ?nL ?nC ?mkC ?kpC ?aI ?iI ?lI ?cI ?kI ?aM ?iM ?lM ?cM ?kM ?aA ?iA ?lA ?cA ?kA ?aS ?iS ?lS ?cS ?kS ?lTD ?aT ?aE ?xL ?vb ?saT ?eT ?tT ?kT ?iT ?tF ?lF ?cF ?kF ?nTL ?nTC ?nTR ?rE ?gE ?vE ?gaT ?ggT ?hdT ?icT ?ssT ?gLet ?gDig ?gSho ?gm1 ?gm2 ?gm3 ?gm4 ?z1 ?z2 ?z3 ?z4 ?z5 ?z6 ?aD ?lD ?loD ?aK ?lK ?vK ?zK ?aLo ?lLo ?vLo ?zLo ?a0 ?l0 ?c0 ?k0 ?a1 ?l1 ?c1 ?k1 ?a2 ?l2 ?c2 ?k2 ?a3 ?l3 ?c3 ?k3 ?a4 ?l4 ?c4 ?k4 ?a5 ?l5 ?c5 ?k5 ?a6 ?l6 ?c6 ?k6 ?a7 ?l7 ?c7 ?k7 ?a8 ?l8 ?c8 ?k8 ?a9 ?l9 ?c9 ?k9 ?a10 ?l10 ?c10 ?k10 ?a11 ?l11 ?c11 ?k11 ?a12 ?l12 ?c12 ?k12 ?a13 ?l13 ?c13 ?k13 ?a14 ?l14 ?c14 ?k14 ?a15 ?l15 ?c15 ?k15 ?a16 ?l16 ?c16 ?k16 ?a17 ?l17 ?c17 ?k17 ?a18 ?l18 ?c18 ?k18 ?a19 ?l19 ?c19 ?k19 ?a20 ?l20 ?c20 ?k20
    (case aC => k_is)
    (case pg => k_is)
    (case hd => k_is)
    (case po => k_is)
    (case sa => k_is)
    (case nT => k_is)
    (case nA => k_is)
    (case nL => k_is)
    (case nC => k_is)
    (case mkC => k_is)
    (case kpC => k_is)
    (case aI => k_is)
    (case iI => k_is)
    (case lI => k_is)
    (case cI => k_is)
    (case kI => k_is)
    (case aM => k_is)
    (case iM => k_is)
    (case lM => k_is)
    (case cM => k_is)
    (case kM => k_is)
    (case aA => k_is)
    (case iA => k_is)
    (case lA => k_is)
    (case cA => k_is)
    (case kA => k_is)
    (case aS => k_is)
    (case iS => k_is)
    (case lS => k_is)
    (case cS => k_is)
    (case kS => k_is)
    (case lTD => k_is)
    (case aT => k_is)
    (case aE => k_is)
    (case xL => k_is)
    (case vb => first | rfl | decide | decide +kernel)
    (case saT => k_is)
    (case eT => k_is)
    (case tT => k_is)
    (case kT => k_is)
    (case iT => k_is)
    (case tF => k_is)
    (case lF => k_is)
    (case cF => k_is)
    (case kF => k_is)
    (case nTL => k_is)
    (case nTC => k_is)
    (case nTR => k_is)
    (case rE => k_is)
    (case gE => k_is)
    (case vE => k_is)
    (case gaT => k_is)
    (case ggT => k_is)
    (case hdT => k_is)
    (case icT => k_is)
    (case ssT => first | rfl | k_is)
    (case gLet => k_is)
    (case gDig => k_is)
    (case gSho => k_is)
    (case gm1 => k_is)
    (case gm2 => k_is)
    (case gm3 => k_is)
    (case gm4 => k_is)
    (case z1 => k_is)
    (case z2 => k_is)
    (case z3 => k_is)
    (case z4 => k_is)
    (case z5 => k_is)
    (case z6 => k_is)
    (case aD => k_is)
    (case lD => k_is)
    (case loD => first | rfl | decide)
    (case aK => k_is)
    (case lK => k_is)
    (case vK => repeat first | exact Paired.nil | refine Paired.cons ⟨_, rfl⟩ ?_)
    (case zK => decide)
    (case aLo => k_is)
    (case lLo => k_is)
    (case vLo => repeat first | exact Paired.nil | refine Paired.cons ⟨_, rfl⟩ ?_)
    (case zLo => decide)
    (case a0 => k_is)
    (case l0 => k_is)
    (case c0 => k_is)
    (case k0 => k_is)
    (case a1 => k_is)
    (case l1 => k_is)
    (case c1 => k_is)
    (case k1 => k_is)
    (case a2 => k_is)
    (case l2 => k_is)
    (case c2 => k_is)
    (case k2 => k_is)
    (case a3 => k_is)
    (case l3 => k_is)
    (case c3 => k_is)
    (case k3 => k_is)
    (case a4 => k_is)
    (case l4 => k_is)
    (case c4 => k_is)
    (case k4 => k_is)
    (case a5 => k_is)
    (case l5 => k_is)
    (case c5 => k_is)
    (case k5 => k_is)
    (case a6 => k_is)
    (case l6 => k_is)
    (case c6 => k_is)
    (case k6 => k_is)
    (case a7 => k_is)
    (case l7 => k_is)
    (case c7 => k_is)
    (case k7 => k_is)
    (case a8 => k_is)
    (case l8 => k_is)
    (case c8 => k_is)
    (case k8 => k_is)
    (case a9 => k_is)
    (case l9 => k_is)
    (case c9 => k_is)
    (case k9 => k_is)
    (case a10 => k_is)
    (case l10 => k_is)
    (case c10 => k_is)
    (case k10 => k_is)
    (case a11 => k_is)
    (case l11 => k_is)
    (case c11 => k_is)
    (case k11 => k_is)
    (case a12 => k_is)
    (case l12 => k_is)
    (case c12 => k_is)
    (case k12 => k_is)
    (case a13 => k_is)
    (case l13 => k_is)
    (case c13 => k_is)
    (case k13 => k_is)
    (case a14 => k_is)
    (case l14 => k_is)
    (case c14 => k_is)
    (case k14 => k_is)
    (case a15 => k_is)
    (case l15 => k_is)
    (case c15 => k_is)
    (case k15 => k_is)
    (case a16 => k_is)
    (case l16 => k_is)
    (case c16 => k_is)
    (case k16 => k_is)
    (case a17 => k_is)
    (case l17 => k_is)
    (case c17 => k_is)
    (case k17 => k_is)
    (case a18 => k_is)
    (case l18 => k_is)
    (case c18 => k_is)
    (case k18 => k_is)
    (case a19 => k_is)
    (case l19 => k_is)
    (case c19 => k_is)
    (case k19 => k_is)
    (case a20 => k_is)
    (case l20 => k_is)
    (case c20 => k_is)
    (case k20 => k_is)
