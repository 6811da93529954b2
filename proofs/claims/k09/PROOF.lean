import PyProof.Rows.All
import Wide.All
import OpenK.AllK
import Wide.FinOn
import PySem.Challenge.RW_kindredbush_k09_whole_wrong_places_of_te
import HandS.ForMost
import HandS.ForExc
import HandS.Codes
import HandS.Steps
import HandS.Evl
import HandS.IsInst
import HandS.ExcField
import HandS.ExcInit
import HandS.StrMore
import HandS.Sort
import HandS.Deep
import HandS.DictComp
import HandS.CallLocal
import HandS.Style
import HandS.Conv
import HandS.Zip
import HandS.Walk
import KE.KExcSuper
import HandS.Ends
import HandS.TryMany
import HandS.ExcIs
set_option Elab.async false
set_option linter.all false
set_option maxRecDepth 100000
set_option maxHeartbeats 4000000
/-! plain mathematics of lexemes and of the form of tables; no program here -/
namespace Kin
abbrev L := List Nat
def cBl : L := [32, 10]
def cSg : L := [40, 41, 123, 125, 44, 59]
def cFg : L := [48, 49, 50, 51, 52, 53, 54, 55, 56, 57]
def cLt : L := [97, 98, 99, 100, 101, 102, 103, 104, 105, 106, 107, 108, 109, 110, 111, 112, 113, 114, 115, 116, 117, 118, 119, 120, 121, 122]
def cAl : L := cLt ++ cFg
/-- the run of some signs at the head -/
def run (sg s : L) : L := s.takeWhile fun c => decide (c ∈ sg)
inductive Kd where
  | fin | bad | num | word | sign
  deriving DecidableEq
structure Lex where
  kd : Kd
  tx : L
  pl : Nat
  deriving DecidableEq
def Lex.live (t : Lex) : Bool := match t.kd with
  | .fin => false
  | .bad => false
  | _ => true
def Lex.nx (t : Lex) : Nat := t.pl + t.tx.length
def headLex (s : L) (p : Nat) : Lex := match s with
  | [] => ⟨.fin, [], p⟩
  | c :: r => if c ∈ cSg then ⟨.sign, [c], p⟩ else if c ∈ cFg then ⟨.num, if c = 48 then [48] else run cFg (c :: r), p⟩
    else if 1 ≤ (run cAl (c :: r)).length ∧ (run cAl (c :: r)).length ≤ 12 then ⟨.word, run cAl (c :: r), p⟩ else ⟨.bad, [], p⟩
def lexS (s : L) (p : Nat) : Lex := headLex (s.drop (run cBl s).length) (p + (run cBl s).length)
def toksF : Nat → L → Nat → List Lex
  | 0, _, p => [⟨.fin, [], p⟩]
  | n + 1, s, p => if (lexS s p).live = true then lexS s p :: toksF n (s.drop ((lexS s p).nx - p)) (lexS s p).nx else [lexS s p]
def toks (s : L) (p : Nat) : List Lex := toksF (s.length + 1) s p
def tkAt (l : L) (p : Nat) : List Lex := toks (l.drop p) p

theorem lt_bounds : ∀ c ∈ cLt, 97 ≤ c ∧ c ≤ 122 := by decide
theorem one_lt {a b : Nat} : ([a] < [b]) ↔ a < b := by
  constructor
  · intro h
    cases h with
    | rel h => exact h
    | cons h => cases h
  · intro h
    exact List.Lex.rel h

/-! ### lexemes -/
theorem run_le (sg s : L) : (run sg s).length ≤ s.length := by
  induction s with
  | nil => exact Nat.le_refl _
  | cons c s ih =>
    unfold run
    rw [List.takeWhile_cons]
    split
    · exact Nat.succ_le_succ ih
    · exact Nat.zero_le _
theorem run_mem {sg s : L} {c : Nat} (h : c ∈ run sg s) : c ∈ sg := by
  induction s with
  | nil => cases h
  | cons d s ih =>
    unfold run at h
    rw [List.takeWhile_cons] at h
    split at h
    · rename_i hd
      rcases List.mem_cons.mp h with e | h
      · rw [e]
        exact of_decide_eq_true hd
      · exact ih h
    · cases h
theorem run_take (sg s : L) : s.take (run sg s).length = run sg s := by
  induction s with
  | nil => rfl
  | cons c s ih =>
    unfold run
    rw [List.takeWhile_cons]
    split
    · show c :: s.take (run sg s).length = c :: run sg s
      rw [ih]
    · rfl
theorem run_cons_in {sg s : L} {c : Nat} (h : c ∈ sg) : run sg (c :: s) = c :: run sg s := by
  unfold run
  rw [List.takeWhile_cons, if_pos (decide_eq_true h)]
theorem run_cons_out {sg s : L} {c : Nat} (h : ¬ c ∈ sg) : run sg (c :: s) = [] := by
  unfold run
  rw [List.takeWhile_cons, if_neg (by rw [decide_eq_false h]; decide)]
/-- what a lexeme is made of -/
structure Wf (t : Lex) : Prop where
  dead : t.live = false → t.tx = []
  sign : t.kd = .sign → ∃ c, c ∈ cSg ∧ t.tx = [c]
  num : t.kd = .num → t.tx ≠ [] ∧ ∀ c ∈ t.tx, c ∈ cFg
  word : t.kd = .word → t.tx ≠ [] ∧ t.tx.length ≤ 12 ∧ ∀ c ∈ t.tx, c ∈ cAl
theorem headLex_wf (s : L) (p : Nat) : Wf (headLex s p) := by
  cases s with
  | nil => exact ⟨fun _ => rfl, (fun h => by cases h), (fun h => by cases h), fun h => by cases h⟩
  | cons c r =>
    unfold headLex
    dsimp only
    split
    · rename_i h
      exact ⟨(fun h => by cases h), fun _ => ⟨c, h, rfl⟩, (fun h => by cases h), fun h => by cases h⟩
    · split
      · rename_i h
        refine ⟨(fun h => by cases h), (fun h => by cases h), fun _ => ?_, fun h => by cases h⟩
        dsimp only
        split
        · exact ⟨by simp, fun d hd => by rw [List.mem_singleton.mp hd]; decide⟩
        · rw [run_cons_in h]
          refine ⟨by simp, fun d hd => ?_⟩
          rw [← run_cons_in h] at hd
          exact run_mem hd
      · split
        · rename_i h
          refine ⟨(fun h => by cases h), (fun h => by cases h), (fun h => by cases h), fun _ => ⟨?_, h.2, fun d hd => run_mem hd⟩⟩
          dsimp only
          intro e
          rw [e] at h
          exact absurd h.1 (by decide)
        · exact ⟨fun _ => rfl, (fun h => by cases h), (fun h => by cases h), fun h => by cases h⟩
theorem headLex_pl (s : L) (p : Nat) : (headLex s p).pl = p := by
  cases s with
  | nil => rfl
  | cons c r =>
    unfold headLex
    dsimp only
    split
    · rfl
    · split
      · rfl
      · split <;> rfl
theorem headLex_len (s : L) (p : Nat) : (headLex s p).tx.length ≤ s.length := by
  cases s with
  | nil => exact Nat.le_refl _
  | cons c r =>
    unfold headLex
    dsimp only
    split
    · show 1 ≤ r.length + 1
      omega
    · split
      · dsimp only
        split
        · show 1 ≤ r.length + 1
          omega
        · exact run_le _ _
      · split
        · exact run_le _ _
        · exact Nat.zero_le _
theorem lexS_wf (s : L) (p : Nat) : Wf (lexS s p) := headLex_wf _ _
theorem lexS_pl (s : L) (p : Nat) : (lexS s p).pl = p + (run cBl s).length := headLex_pl _ _
theorem lexS_nx (s : L) (p : Nat) : p ≤ (lexS s p).nx ∧ (lexS s p).nx ≤ p + s.length := by
  have h1 := headLex_len (s.drop (run cBl s).length) (p + (run cBl s).length)
  have h2 := run_le cBl s
  rw [List.length_drop] at h1
  unfold Lex.nx
  rw [lexS_pl]
  have h3 : (lexS s p).tx.length ≤ s.length - (run cBl s).length := h1
  omega
theorem Wf.pos {t : Lex} (w : Wf t) (h : t.live = true) : 0 < t.tx.length := by
  obtain ⟨kd, tx, pl⟩ := t
  cases kd with
  | fin => cases h
  | bad => cases h
  | num => exact List.length_pos_iff.mpr (w.num rfl).1
  | word => exact List.length_pos_iff.mpr (w.word rfl).1
  | sign =>
    obtain ⟨c, _, e⟩ := w.sign rfl
    have e' : tx = [c] := e
    subst e'
    exact Nat.one_pos
theorem lexS_live {s : L} {p : Nat} (h : (lexS s p).live = true) : p < (lexS s p).nx := by
  have h1 := (lexS_wf s p).pos h
  have h2 := lexS_pl s p
  unfold Lex.nx
  omega
theorem toksF_fuel : ∀ (n m : Nat) (s : L) (p : Nat), s.length < n → s.length < m → toksF n s p = toksF m s p := by
  intro n
  induction n with
  | zero => intro m s p h; omega
  | succ n ih =>
    intro m s p h1 h2
    cases m with
    | zero => omega
    | succ m =>
      unfold toksF
      by_cases hl : (lexS s p).live = true
      · rw [if_pos hl, if_pos hl]
        have a := lexS_live hl
        have b := lexS_nx s p
        congr 1
        refine ih m _ _ ?_ ?_
        · rw [List.length_drop]; omega
        · rw [List.length_drop]; omega
      · rw [if_neg hl, if_neg hl]
theorem toks_eq (s : L) (p : Nat) : toks s p = if (lexS s p).live = true then lexS s p :: toks (s.drop ((lexS s p).nx - p)) (lexS s p).nx else [lexS s p] := by
  unfold toks
  show (if (lexS s p).live = true then lexS s p :: toksF s.length (s.drop ((lexS s p).nx - p)) (lexS s p).nx else [lexS s p]) = _
  by_cases hl : (lexS s p).live = true
  · rw [if_pos hl, if_pos hl]
    have a := lexS_live hl
    have b := lexS_nx s p
    congr 1
    refine toksF_fuel _ _ _ _ ?_ ?_
    · rw [List.length_drop]; omega
    · omega
  · rw [if_neg hl, if_neg hl]
theorem tkAt_eq (l : L) (p : Nat) : tkAt l p = if (lexS (l.drop p) p).live = true then lexS (l.drop p) p :: tkAt l (lexS (l.drop p) p).nx else [lexS (l.drop p) p] := by
  unfold tkAt
  rw [toks_eq (l.drop p) p]
  by_cases hl : (lexS (l.drop p) p).live = true
  · rw [if_pos hl, if_pos hl]
    have a := lexS_live hl
    rw [List.drop_drop]
    congr 3
    omega
  · rw [if_neg hl, if_neg hl]
theorem toks_len : ∀ (n : Nat) (s : L) (p : Nat), s.length ≤ n → (toks s p).length ≤ s.length + 1 := by
  intro n
  induction n with
  | zero =>
    intro s p h
    rw [toks_eq]
    split
    · rename_i hl
      have a := lexS_live hl
      have b := lexS_nx s p
      omega
    · exact Nat.succ_le_succ (Nat.zero_le _)
  | succ n ih =>
    intro s p h
    rw [toks_eq]
    split
    · rename_i hl
      have a := lexS_live hl
      have b := lexS_nx s p
      have c := ih (s.drop ((lexS s p).nx - p)) (lexS s p).nx (by rw [List.length_drop]; omega)
      rw [List.length_drop] at c
      rw [List.length_cons]
      omega
    · exact Nat.succ_le_succ (Nat.zero_le _)
theorem tkAt_len (l : L) (p : Nat) : (tkAt l p).length ≤ l.length + 1 := by
  have h := toks_len _ (l.drop p) p (Nat.le_refl _)
  rw [List.length_drop] at h
  unfold tkAt
  omega
/-- ts: the lexemes of l from p on -/
theorem tkAt_ne (l : L) (p : Nat) : ∃ r, tkAt l p = lexS (l.drop p) p :: r := by
  rw [tkAt_eq]
  split
  · exact ⟨_, rfl⟩
  · exact ⟨_, rfl⟩
theorem tkAt_live {l : L} {p : Nat} {t : Lex} {r : List Lex} (h : tkAt l p = t :: r) (hl : t.live = true) : t = lexS (l.drop p) p ∧ r = tkAt l t.nx := by
  rw [tkAt_eq] at h
  split at h
  · injection h with h1 h2
    subst h1
    exact ⟨rfl, h2.symm⟩
  · rename_i hn
    injection h with h1 h2
    subst h1
    exact absurd hl hn
theorem tkAt_dead {l : L} {p : Nat} {t : Lex} {r : List Lex} (h : tkAt l p = t :: r) (hl : t.live = false) : t = lexS (l.drop p) p ∧ r = [] := by
  rw [tkAt_eq] at h
  split at h
  · rename_i hn
    injection h with h1 h2
    subst h1
    rw [hn] at hl
    cases hl
  · injection h with h1 h2
    exact ⟨h1.symm, h2.symm⟩
theorem tkAt_head {l : L} {p : Nat} {t : Lex} {r : List Lex} (h : tkAt l p = t :: r) : t = lexS (l.drop p) p := by
  cases hl : t.live with
  | true => exact (tkAt_live h hl).1
  | false => exact (tkAt_dead h hl).1
/-- all lexemes of a row are well made -/
theorem toks_all {P : Lex → Prop} (hP : ∀ s p, P (lexS s p)) : ∀ (n : Nat) (s : L) (p : Nat), s.length ≤ n → ∀ t ∈ toks s p, P t := by
  intro n
  induction n with
  | zero =>
    intro s p h t ht
    rw [toks_eq] at ht
    split at ht
    · rename_i hl
      have a := lexS_live hl
      have b := lexS_nx s p
      omega
    · rw [List.mem_singleton.mp ht]
      exact hP _ _
  | succ n ih =>
    intro s p h t ht
    rw [toks_eq] at ht
    split at ht
    · rename_i hl
      have a := lexS_live hl
      have b := lexS_nx s p
      rcases List.mem_cons.mp ht with e | ht
      · rw [e]
        exact hP _ _
      · exact ih _ _ (by rw [List.length_drop]; omega) t ht
    · rw [List.mem_singleton.mp ht]
      exact hP _ _
theorem tkAt_wf (l : L) (p : Nat) : ∀ t ∈ tkAt l p, Wf t := toks_all lexS_wf _ _ _ (Nat.le_refl _)

/-! ### the lexemes told: those ahead of the end, or the first place that begins none -/
def told : List Lex → List Lex → Nat ⊕ List Lex
  | acc, [] => .inr acc
  | acc, t :: r => if t.kd = .fin then .inr acc else if t.kd = .bad then .inl t.pl else told (acc ++ [t]) r

/-! ### reading, as the program reads -/
abbrev R (α : Type) := Nat ⊕ (α × List Lex)
def pTake (w : L) : List Lex → R Unit
  | [] => .inl 0
  | t :: r => if t.tx = w then .inr ((), r) else .inl t.pl
def pWord : List Lex → R L
  | [] => .inl 0
  | t :: r => if t.kd = .word then .inr (t.tx, r) else .inl t.pl
def pFin : List Lex → R Unit
  | [] => .inl 0
  | t :: r => if t.kd = .fin then .inr ((), r) else .inl t.pl
/-- , word , word .. behind what is read so far -/
def pMore (acc : List L) : List Lex → R (List L)
  | [] => .inl 0
  | t :: r => if t.tx = [44] then (match r with
      | [] => .inl 0
      | u :: q => if u.kd = .word then pMore (acc ++ [u.tx]) q else .inl u.pl)
    else .inr (acc, t :: r)
def pWords (ts : List Lex) : R (List L) := match ts with
  | [] => .inl 0
  | t :: r => if t.tx = [41] then .inr ([], t :: r) else if t.kd = .word then pMore [t.tx] r else .inl t.pl
def bnd {α β : Type} (x : R α) (f : α → List Lex → R β) : R β := match x with
  | .inl e => .inl e
  | .inr (a, ts) => f a ts
def pList (ts : List Lex) : R (List L) := bnd (pTake [40] ts) fun _ t1 => bnd (pWords t1) fun ws t2 => bnd (pTake [41] t2) fun _ t3 => .inr (ws, t3)
/-- word word ; .. up to } -/
def pFits (acc : List (L × L)) : List Lex → R (List (L × L))
  | [] => .inl 0
  | t :: r => if t.tx = [125] then .inr (acc, t :: r) else if t.kd = .word then (match r with
      | [] => .inl 0
      | u :: q => if u.kd = .word then (match q with
          | [] => .inl 0
          | v :: z => if v.tx = [59] then pFits (acc ++ [(t.tx, u.tx)]) z else .inl v.pl)
        else .inl u.pl)
    else .inl t.pl
def pBlock (ts : List Lex) : R (List (L × L)) := bnd (pTake [123] ts) fun _ t1 => bnd (pFits [] t1) fun fs t2 => bnd (pTake [125] t2) fun _ t3 => bnd (pFin t3) fun _ t4 => .inr (fs, t4)
def cTab : L := [116, 97, 98, 108, 101]
def pTable (ts : List Lex) : R (List L × List L × List (L × L)) := bnd (pTake cTab ts) fun _ t1 => bnd (pList t1) fun st t2 => bnd (pList t2) fun pl t3 => bnd (pBlock t3) fun fs t4 => .inr ((st, pl, fs), t4)

/-! ### the law's stack of symbols -/
def yTABLE : L := [84, 65, 66, 76, 69]
def yLIST : L := [76, 73, 83, 84]
def yWORDS : L := [87, 79, 82, 68, 83]
def yMORE : L := [77, 79, 82, 69]
def yFITS : L := [70, 73, 84, 83]
def yW : L := [87]
def yEND : L := [69, 78, 68]
def yN : L := [78]
def yNone : L := [110, 111, 110, 101]
/-- the sort that the law gives a lexeme -/
def sortL (t : Lex) : L := match t.kd with
  | .fin => yEND
  | .bad => yNone
  | .num => yN
  | .word => yW
  | .sign => t.tx
abbrev Row := Option (List L) × List L
def rules : List (L × List Row) :=
  [(yTABLE, [(none, [cTab, yLIST, yLIST, [123], yFITS, [125], yEND])]),
   (yLIST, [(none, [[40], yWORDS, [41]])]),
   (yWORDS, [(some [[41]], []), (none, [yW, yMORE])]),
   (yMORE, [(some [[44]], [[44], yW, yMORE]), (none, [])]),
   (yFITS, [(some [[125]], []), (none, [yW, yW, [59], yFITS])])]
def rowFits (tx : L) (r : Row) : Bool := match r.1 with
  | none => true
  | some fs => fs.any fun f => decide (f = tx)
def mt (X : L) (t : Lex) : Bool := decide (sortL t = X) || (decide (sortL t = yW) && decide (t.tx = X))
/-- what one symbol reads -/
def mtR (X : L) : List Lex → R Unit
  | [] => .inl 0
  | t :: r => if mt X t = true then .inr ((), r) else .inl t.pl
def pSym (X : L) (ts : List Lex) : R Unit :=
  if X = yTABLE then bnd (pTable ts) fun _ t => .inr ((), t)
  else if X = yLIST then bnd (pList ts) fun _ t => .inr ((), t)
  else if X = yWORDS then bnd (pWords ts) fun _ t => .inr ((), t)
  else if X = yMORE then bnd (pMore [] ts) fun _ t => .inr ((), t)
  else if X = yFITS then bnd (pFits [] ts) fun _ t => .inr ((), t)
  else mtR X ts
/-- the wrong place of a stack of symbols -/
def G : List L → List Lex → Option Nat
  | [], _ => none
  | X :: S, ts => match pSym X ts with
    | .inl e => some e
    | .inr (_, t) => G S t
/-- what is left of a result when what was read is forgotten -/
def err {α : Type} : R α → Option Nat
  | .inl e => some e
  | .inr _ => none
theorem G_table (ts : List Lex) : G [yTABLE] ts = err (pTable ts) := by
  unfold G pSym
  rw [if_pos rfl]
  cases h : pTable ts with
  | inl e => rfl
  | inr a => rfl
theorem bnd_inr {α β : Type} (a : α) (t : List Lex) (f : α → List Lex → R β) : bnd (.inr (a, t)) f = f a t := rfl
theorem bnd_inl {α β : Type} (e : Nat) (f : α → List Lex → R β) : bnd (.inl e) f = .inl e := rfl
theorem bnd_bnd {α β γ : Type} (x : R α) (f : α → List Lex → R β) (g : β → List Lex → R γ) : bnd (bnd x f) g = bnd x fun a t => bnd (f a t) g := by
  cases x with
  | inl e => rfl
  | inr a => rfl
/-- G of a symbol, a reading that goes on -/
def thenG (S : List L) : R Unit → Option Nat
  | .inl e => some e
  | .inr (_, t) => G S t
theorem G_cons (X : L) (S : List L) (ts : List Lex) : G (X :: S) ts = thenG S (pSym X ts) := rfl
theorem thenG_bnd {α : Type} (X : L) (S : List L) (x : R α) : thenG (X :: S) (bnd x fun _ t => .inr ((), t)) = thenG S (bnd x fun _ t => pSym X t) := by
  cases x with
  | inl e => rfl
  | inr a => rfl

/-! ### the symbols against the program's own tests -/
theorem sy_fin {t : Lex} (w : Wf t) : mt yEND t = decide (t.kd = .fin) := by
  obtain ⟨kd, tx, pl⟩ := t
  cases kd with
  | fin => rfl
  | bad => rfl
  | num => rfl
  | word =>
    unfold mt
    show (decide (yW = yEND) || (decide (yW = yW) && decide (tx = yEND))) = false
    have h : ¬ tx = yEND := fun e => by
      have q := (w.word rfl).2.2 69 (by show 69 ∈ tx; rw [e]; decide)
      exact absurd q (by decide)
    rw [decide_eq_false h]
    decide
  | sign =>
    obtain ⟨c, hc, e⟩ := w.sign rfl
    have e' : tx = [c] := e
    subst e'
    unfold mt
    show (decide ([c] = yEND) || (decide ([c] = yW) && decide ([c] = yEND))) = false
    have h : ¬ [c] = yEND := fun e => by
      have z := congrArg List.length e
      have z' : 1 = 3 := z
      cases z'
    rw [decide_eq_false h, Bool.and_false]
    rfl
theorem sy_word {t : Lex} (w : Wf t) : mt yW t = decide (t.kd = .word) := by
  obtain ⟨kd, tx, pl⟩ := t
  cases kd with
  | fin => rfl
  | bad => rfl
  | num => rfl
  | word => rfl
  | sign =>
    obtain ⟨c, hc, e⟩ := w.sign rfl
    have e' : tx = [c] := e
    subst e'
    unfold mt
    show (decide ([c] = yW) || (decide ([c] = yW) && decide ([c] = yW))) = false
    have h : ¬ [c] = yW := fun e => by
      have z : c = 87 := (List.cons.inj e).1
      subst z
      exact absurd hc (by decide)
    rw [decide_eq_false h]
    rfl
theorem no_sf : ∀ c ∈ cFg, ¬ c ∈ cSg := by decide
theorem no_lf : ∀ c ∈ cFg, ¬ c ∈ cLt := by decide
/-- a text of letters, or one sign -/
theorem sy_text {t : Lex} (w : Wf t) {x : L} (h0 : x ≠ []) (h1 : (∃ c, c ∈ cSg ∧ x = [c]) ∨ (∃ c ∈ x, c ∈ cLt)) (h2 : x ≠ yEND ∧ x ≠ yNone ∧ x ≠ yN ∧ x ≠ yW) : mt x t = decide (t.tx = x) := by
  obtain ⟨kd, tx, pl⟩ := t
  obtain ⟨n1, n2, n3, n4⟩ := h2
  cases kd with
  | fin =>
    have e : tx = [] := w.dead rfl
    subst e
    unfold mt
    show (decide (yEND = x) || (decide (yEND = yW) && decide ([] = x))) = decide ([] = x)
    rw [decide_eq_false (Ne.symm n1), decide_eq_false (Ne.symm h0)]
    rfl
  | bad =>
    have e : tx = [] := w.dead rfl
    subst e
    unfold mt
    show (decide (yNone = x) || (decide (yNone = yW) && decide ([] = x))) = decide ([] = x)
    rw [decide_eq_false (Ne.symm n2), decide_eq_false (Ne.symm h0)]
    rfl
  | num =>
    unfold mt
    show (decide (yN = x) || (decide (yN = yW) && decide (tx = x))) = decide (tx = x)
    have h : ¬ tx = x := fun e => by
      have q : ∀ c ∈ tx, c ∈ cFg := (w.num rfl).2
      rcases h1 with ⟨c, hc, ex⟩ | ⟨c, hx, hc⟩
      · have z := q c (by rw [e, ex]; exact List.mem_singleton.mpr rfl)
        exact (no_sf c z) hc
      · have z := q c (by rw [e]; exact hx)
        exact (no_lf c z) hc
    rw [decide_eq_false (Ne.symm n3), decide_eq_false h]
    rfl
  | word =>
    unfold mt
    show (decide (yW = x) || (decide (yW = yW) && decide (tx = x))) = decide (tx = x)
    rw [decide_eq_false (Ne.symm n4)]
    rfl
  | sign =>
    obtain ⟨c, hc, e⟩ := w.sign rfl
    have e' : tx = [c] := e
    subst e'
    unfold mt
    show (decide ([c] = x) || (decide ([c] = yW) && decide ([c] = x))) = decide ([c] = x)
    cases decide ([c] = x) with
    | true => rfl
    | false => rw [Bool.and_false]; rfl
end Kin
namespace Kin
theorem told_go {acc r : List Lex} {t : Lex} (h1 : t.kd ≠ .fin) (h2 : t.kd ≠ .bad) : told acc (t :: r) = told (acc ++ [t]) r := by
  show (if t.kd = .fin then _ else if t.kd = .bad then _ else _) = _
  rw [if_neg h1, if_neg h2]
theorem told_fin {acc r : List Lex} {t : Lex} (h1 : t.kd = .fin) : told acc (t :: r) = .inr acc := by
  show (if t.kd = .fin then _ else if t.kd = .bad then _ else _) = _
  rw [if_pos h1]
theorem told_bad {acc r : List Lex} {t : Lex} (h2 : t.kd = .bad) : told acc (t :: r) = .inl t.pl := by
  show (if t.kd = .fin then _ else if t.kd = .bad then _ else _) = _
  rw [if_neg (by rw [h2]; decide), if_pos h2]
theorem live_of {t : Lex} (h1 : t.kd ≠ .fin) (h2 : t.kd ≠ .bad) : t.live = true := by
  obtain ⟨kd, tx, pl⟩ := t
  cases kd with
  | fin => exact absurd rfl h1
  | bad => exact absurd rfl h2
  | num => rfl
  | word => rfl
  | sign => rfl
theorem lexS_in {l : L} {p : Nat} (hp : p ≤ l.length) : (lexS (l.drop p) p).nx ≤ l.length := by
  have h := (lexS_nx (l.drop p) p).2
  rw [List.length_drop] at h
  omega
/-- the next lexemes -/
theorem tk_next {l : L} {p : Nat} {t : Lex} {r : List Lex} (hp : p ≤ l.length) (h : tkAt l p = t :: r) (hl : t.live = true) : t.nx ≤ l.length ∧ ∃ u r', r = u :: r' ∧ tkAt l t.nx = u :: r' ∧ u = lexS (l.drop t.nx) t.nx := by
  obtain ⟨e1, e2⟩ := tkAt_live h hl
  refine ⟨?_, ?_⟩
  · rw [e1]
    exact lexS_in hp
  · obtain ⟨r', h2⟩ := tkAt_ne l t.nx
    exact ⟨_, r', by rw [e2, h2], h2, rfl⟩
end Kin
namespace Kin
theorem sort_end {t : Lex} (w : Wf t) : decide (sortL t = yEND) = decide (t.kd = .fin) := by
  obtain ⟨kd, tx, pl⟩ := t
  cases kd with
  | fin => rfl
  | bad => rfl
  | num => rfl
  | word => rfl
  | sign =>
    obtain ⟨c, hc, e⟩ := w.sign rfl
    have e' : tx = [c] := e
    subst e'
    exact decide_eq_false fun e => by cases (List.cons.inj e).2
theorem sort_none {t : Lex} (w : Wf t) : decide (sortL t = yNone) = decide (t.kd = .bad) := by
  obtain ⟨kd, tx, pl⟩ := t
  cases kd with
  | fin => rfl
  | bad => rfl
  | num => rfl
  | word => rfl
  | sign =>
    obtain ⟨c, hc, e⟩ := w.sign rfl
    have e' : tx = [c] := e
    subst e'
    exact decide_eq_false fun e => by cases (List.cons.inj e).2
theorem sort_sign {t : Lex} (w : Wf t) (h : t.kd = .sign) : ∃ c ∈ cSg, sortL t = [c] := by
  obtain ⟨c, hc, e⟩ := w.sign h
  refine ⟨c, hc, ?_⟩
  unfold sortL
  rw [h]
  exact e
end Kin
namespace Kin
/-- where the words of a result come from, how many they are, what is left -/
structure From {α : Type} (ts : List Lex) (n : Nat) (len : α → Nat) (x : R α) : Prop where
  le : ∀ a r, x = .inr (a, r) → len a ≤ n + ts.length ∧ r.length ≤ ts.length
theorem pTake_len {w : L} {ts r : List Lex} {u : Unit} (h : pTake w ts = .inr (u, r)) : r.length < ts.length := by
  cases ts with
  | nil => cases h
  | cons t q =>
    have h' : (if t.tx = w then (.inr ((), q) : R Unit) else .inl t.pl) = .inr (u, r) := h
    split at h'
    · cases h'
      exact Nat.lt_succ_self _
    · cases h'
theorem pWord_ok {w : L} {ts r : List Lex} (h : pWord ts = .inr (w, r)) : ∃ t, ts = t :: r ∧ t.kd = .word ∧ w = t.tx := by
  cases ts with
  | nil => cases h
  | cons t q =>
    have h' : (if t.kd = .word then (.inr (t.tx, q) : R L) else .inl t.pl) = .inr (w, r) := h
    split at h'
    · rename_i hk
      cases h'
      exact ⟨t, rfl, hk, rfl⟩
    · cases h'
theorem pMore_ok {P : L → Prop} : ∀ (n : Nat) (ts : List Lex), ts.length ≤ n → ∀ (acc ws : List L) (r : List Lex), (∀ t ∈ ts, t.kd = .word → P t.tx) → (∀ w ∈ acc, P w) → pMore acc ts = .inr (ws, r) →
    (∀ w ∈ ws, P w) ∧ ws.length + r.length ≤ acc.length + ts.length ∧ ∀ t ∈ r, t ∈ ts := by
  intro n
  induction n with
  | zero =>
    intro ts h acc ws r _ _ e
    have : ts = [] := List.length_eq_zero_iff.mp (by omega)
    subst this
    cases e
  | succ n ih =>
    intro ts h acc ws r hP ha e
    cases ts with
    | nil => cases e
    | cons t q =>
      unfold pMore at e
      split at e
      · cases q with
        | nil => cases e
        | cons u z =>
          dsimp only at e
          split at e
          · rename_i hu
            obtain ⟨i1, i2, i3⟩ := ih z (by simp only [List.length_cons] at h; omega) _ ws r (fun t ht hk => hP t (List.mem_cons_of_mem _ (List.mem_cons_of_mem _ ht)) hk) (fun w hw => by
              rcases List.mem_append.mp hw with hw | hw
              · exact ha w hw
              · rw [List.mem_singleton.mp hw]
                exact hP u (List.mem_cons_of_mem _ List.mem_cons_self) hu) e
            refine ⟨i1, ?_, fun t ht => List.mem_cons_of_mem _ (List.mem_cons_of_mem _ (i3 t ht))⟩
            rw [List.length_append] at i2
            simp only [List.length_cons, List.length_nil] at i2 ⊢
            omega
          · cases e
      · cases e
        exact ⟨ha, Nat.le_refl _, fun t ht => ht⟩
theorem pWords_ok {P : L → Prop} {ts r : List Lex} {ws : List L} (hP : ∀ t ∈ ts, t.kd = .word → P t.tx) (e : pWords ts = .inr (ws, r)) : (∀ w ∈ ws, P w) ∧ ws.length + r.length ≤ ts.length ∧ ∀ t ∈ r, t ∈ ts := by
  cases ts with
  | nil => cases e
  | cons t q =>
    unfold pWords at e
    dsimp only at e
    split at e
    · cases e
      exact ⟨(fun w hw => by cases hw), by simp, fun t ht => ht⟩
    · split at e
      · rename_i hk
        obtain ⟨i1, i2, i3⟩ := pMore_ok q.length q (Nat.le_refl _) [t.tx] ws r (fun t ht h => hP t (List.mem_cons_of_mem _ ht) h) (fun w hw => by rw [List.mem_singleton.mp hw]; exact hP t List.mem_cons_self hk) e
        refine ⟨i1, ?_, fun t ht => List.mem_cons_of_mem _ (i3 t ht)⟩
        simp only [List.length_cons, List.length_nil] at i2 ⊢
        omega
      · cases e
theorem bnd_ok {α β : Type} {x : R α} {f : α → List Lex → R β} {b : β} {r : List Lex} (e : bnd x f = .inr (b, r)) : ∃ a t, x = .inr (a, t) ∧ f a t = .inr (b, r) := by
  cases x with
  | inl e' => cases e
  | inr p => exact ⟨p.1, p.2, rfl, e⟩
theorem pTake_ok {w : L} {ts r : List Lex} {u : Unit} (h : pTake w ts = .inr (u, r)) : ∃ t, ts = t :: r ∧ t.tx = w := by
  cases ts with
  | nil => cases h
  | cons t q =>
    have h' : (if t.tx = w then (.inr ((), q) : R Unit) else .inl t.pl) = .inr (u, r) := h
    split at h'
    · rename_i hk
      cases h'
      exact ⟨t, rfl, hk⟩
    · cases h'
theorem pList_ok {P : L → Prop} {ts r : List Lex} {ws : List L} (hP : ∀ t ∈ ts, t.kd = .word → P t.tx) (e : pList ts = .inr (ws, r)) : (∀ w ∈ ws, P w) ∧ ws.length + r.length ≤ ts.length ∧ ∀ t ∈ r, t ∈ ts := by
  obtain ⟨u1, t1, e1, e⟩ := bnd_ok e
  obtain ⟨ws', t2, e2, e⟩ := bnd_ok e
  obtain ⟨u3, t3, e3, e⟩ := bnd_ok e
  cases e
  obtain ⟨a1, rfl, _⟩ := pTake_ok e1
  obtain ⟨i1, i2, i3⟩ := pWords_ok (fun t ht h => hP t (List.mem_cons_of_mem _ ht) h) e2
  obtain ⟨a3, rfl, _⟩ := pTake_ok e3
  refine ⟨i1, ?_, fun t ht => List.mem_cons_of_mem _ (i3 t (List.mem_cons_of_mem _ ht))⟩
  simp only [List.length_cons] at i2 ⊢
  omega
end Kin
namespace Kin
theorem pFits_ok {P : L → Prop} : ∀ (n : Nat) (ts : List Lex), ts.length ≤ n → ∀ (acc fs : List (L × L)) (r : List Lex), (∀ t ∈ ts, t.kd = .word → P t.tx) → (∀ f ∈ acc, P f.1 ∧ P f.2) → pFits acc ts = .inr (fs, r) →
    (∀ f ∈ fs, P f.1 ∧ P f.2) ∧ fs.length + r.length ≤ acc.length + ts.length := by
  intro n
  induction n with
  | zero =>
    intro ts h acc ws r _ _ e
    have : ts = [] := List.length_eq_zero_iff.mp (by omega)
    subst this
    cases e
  | succ n ih =>
    intro ts h acc ws r hP ha e
    cases ts with
    | nil => cases e
    | cons t q =>
      unfold pFits at e
      split at e
      · cases e
        exact ⟨ha, Nat.le_refl _⟩
      · split at e
        · rename_i ht
          cases q with
          | nil => cases e
          | cons u z =>
            dsimp only at e
            split at e
            · rename_i hu
              cases z with
              | nil => cases e
              | cons v y =>
                dsimp only at e
                split at e
                · obtain ⟨i1, i2⟩ := ih y (by simp only [List.length_cons] at h; omega) _ ws r (fun t ht hk => hP t (List.mem_cons_of_mem _ (List.mem_cons_of_mem _ (List.mem_cons_of_mem _ ht))) hk) (fun f hf => by
                    rcases List.mem_append.mp hf with hf | hf
                    · exact ha f hf
                    · rw [List.mem_singleton.mp hf]
                      exact ⟨hP t List.mem_cons_self ht, hP u (List.mem_cons_of_mem _ List.mem_cons_self) hu⟩) e
                  refine ⟨i1, ?_⟩
                  rw [List.length_append] at i2
                  simp only [List.length_cons, List.length_nil] at i2 ⊢
                  omega
                · cases e
            · cases e
        · cases e
theorem pBlock_ok {P : L → Prop} {ts r : List Lex} {fs : List (L × L)} (hP : ∀ t ∈ ts, t.kd = .word → P t.tx) (e : pBlock ts = .inr (fs, r)) : (∀ f ∈ fs, P f.1 ∧ P f.2) ∧ fs.length ≤ ts.length := by
  obtain ⟨u1, t1, e1, e⟩ := bnd_ok e
  obtain ⟨fs', t2, e2, e⟩ := bnd_ok e
  obtain ⟨u3, t3, e3, e⟩ := bnd_ok e
  obtain ⟨u4, t4, e4, e⟩ := bnd_ok e
  cases e
  obtain ⟨a1, rfl, _⟩ := pTake_ok e1
  obtain ⟨i1, i2⟩ := pFits_ok t1.length t1 (Nat.le_refl _) [] fs t2 (fun t ht h => hP t (List.mem_cons_of_mem _ ht) h) (fun f hf => by cases hf) e2
  refine ⟨i1, ?_⟩
  simp only [List.length_cons, List.length_nil] at i2 ⊢
  omega
end Kin
namespace Kin
theorem pFits_0 {acc : List (L × L)} {u : Lex} {r : List Lex} (h : u.tx = [125]) : pFits acc (u :: r) = .inr (acc, u :: r) := by
  unfold pFits
  rw [if_pos h]
theorem pFits_1 {acc : List (L × L)} {u : Lex} {r : List Lex} (h : ¬ u.tx = [125]) (k : ¬ u.kd = .word) : pFits acc (u :: r) = .inl u.pl := by
  unfold pFits
  rw [if_neg h, if_neg k]
theorem pFits_2 {acc : List (L × L)} {u v : Lex} {r : List Lex} (h : ¬ u.tx = [125]) (k : u.kd = .word) (k2 : ¬ v.kd = .word) : pFits acc (u :: v :: r) = .inl v.pl := by
  unfold pFits
  rw [if_neg h, if_pos k]
  dsimp only
  rw [if_neg k2]
theorem pFits_3 {acc : List (L × L)} {u v y : Lex} {r : List Lex} (h : ¬ u.tx = [125]) (k : u.kd = .word) (k2 : v.kd = .word) (k3 : ¬ y.tx = [59]) : pFits acc (u :: v :: y :: r) = .inl y.pl := by
  conv => lhs; unfold pFits
  rw [if_neg h, if_pos k]
  dsimp only
  rw [if_pos k2, if_neg k3]
theorem pFits_4 {acc : List (L × L)} {u v y : Lex} {r : List Lex} (h : ¬ u.tx = [125]) (k : u.kd = .word) (k2 : v.kd = .word) (k3 : y.tx = [59]) : pFits acc (u :: v :: y :: r) = pFits (acc ++ [(u.tx, v.tx)]) r := by
  conv => lhs; unfold pFits
  rw [if_neg h, if_pos k]
  dsimp only
  rw [if_pos k2, if_pos k3]
end Kin
/-! the text by places, what the top has written, small facts -/
namespace Kin
open PySem L2 SX Evl
def topS (i : Nat) : Stmt := PySem.Challenge.pw_kindredbush_k09_whole_wrong_places_of_te.main.body.getD i (.Pass ⟨0, 0, 0, 0⟩)
abbrev sIsWord : Stmt := topS 8
abbrev sIsList : Stmt := topS 9
abbrev sIsRow : Stmt := topS 10
abbrev sEndOf : Stmt := topS 14
abbrev sLexAt : Stmt := topS 15
abbrev sLexemes : Stmt := topS 16
abbrev sXInit : Stmt := inClass (topS 17) 0
abbrev sXIsNext : Stmt := inClass (topS 17) 1
abbrev sXGo : Stmt := inClass (topS 17) 2
abbrev sXTake : Stmt := inClass (topS 17) 3
abbrev sXWord : Stmt := inClass (topS 17) 4
abbrev sXFinish : Stmt := inClass (topS 17) 6
abbrev sWrongColour : Stmt := topS 19
abbrev sWrongFit : Stmt := topS 20
abbrev sFirstWrong : Stmt := topS 21
abbrev sTInit : Stmt := inClass (topS 22) 0
abbrev sReadListed : Stmt := topS 24
abbrev sReadBlock : Stmt := topS 25
abbrev sReadFit : Stmt := topS 26
abbrev sReadTable : Stmt := topS 27
abbrev sSource : Stmt := topS 29
abbrev sPick : Stmt := topS 30
abbrev sOf : Stmt := topS 31
abbrev sSpaced : Stmt := topS 32
abbrev sRun : Stmt := topS 33
abbrev sLIsWord : Stmt := topS 34
abbrev sLLexeme : Stmt := topS 35
abbrev sRules : Stmt := topS 36
abbrev sWrongPlace : Stmt := topS 37
abbrev sDrawn : Stmt := topS 38
abbrev sSpoilt : Stmt := topS 39
abbrev sDue : Stmt := topS 40
abbrev sTold : Stmt := topS 41
abbrev sLexTold : Stmt := topS 42
abbrev sTextRight : Stmt := topS 43
abbrev sHandRight : Stmt := topS 44
abbrev sLongRight : Stmt := topS 45
abbrev sLaw : Stmt := topS 46

/-- the built-ins and constants of the module -/
structure Glob (mg : Str → Option Value) : Prop where
  len : mg "len" = none
  range : mg "range" = none
  all : mg "all" = none
  isinstance : mg "isinstance" = none
  enumerate : mg "enumerate" = none
  tuple : mg "tuple" = none
  list : mg "list" = none
  str : mg "str" = none
  int : mg "int" = none
  max : mg "max" = none
  abs : mg "abs" = none
  repr : mg "repr" = none
  letters : ∃ t, mg "LETTERS" = some (.str "abcdefghijklmnopqrstuvwxyz" t)
  figures : ∃ t, mg "FIGURES" = some (.str "0123456789" t)
  blanks : ∃ t, mg "BLANKS" = some (.str " \n" t)
  signs : ∃ t, mg "SIGNS" = some (.str "(){},;" t)

theorem lit_letters : ("abcdefghijklmnopqrstuvwxyz" : Str) = S cLt := by decide +kernel
theorem lit_figures : ("0123456789" : Str) = S cFg := by decide +kernel
theorem lit_blanks : (" \n" : Str) = S cBl := by decide +kernel
theorem lit_signs : ("(){},;" : Str) = S cSg := by decide +kernel
theorem S_size {l : L} (h : l.length ≤ 100000) : (S l).length ≤ sizeLine := by
  rw [S_len]
  exact Nat.le_trans h (by decide)
theorem atI_S {l : L} {p c : Nat} (h : l[p]? = some c) : atI (S l).cps.toList (p : Int) = some c := atI_nat h
theorem drop_cons {l : L} {p : Nat} (h : p < l.length) : ∃ c, l[p]? = some c ∧ l.drop p = c :: l.drop (p + 1) := ⟨l[p], by simp [h], List.drop_eq_getElem_cons h⟩
end Kin
namespace Kin
open PySem L2 SX Evl
theorem rel_str (x : Str) (t : PySem.Tok) : RelV (.str x) (.str x t) := ⟨_, rfl⟩
theorem rel_ty (n : String) : RelV (.ty n) (.type n) := rfl
theorem kit_str {K : PySem.W.Frag} : PySem.W.kitOne K (.type "str") (.type "str") = some true := kit_ty (by decide +kernel)
theorem kit_tup {K : PySem.W.Frag} : PySem.W.kitOne K (.type "tuple") (.type "tuple") = some true := kit_ty (by decide +kernel)
theorem kit_tl {K : PySem.W.Frag} : PySem.W.kitOne K (.type "tuple") (.type "list") = some false := kit_ty (by decide +kernel)
theorem kit_ll {K : PySem.W.Frag} : PySem.W.kitOne K (.type "list") (.type "list") = some true := kit_ty (by decide +kernel)
theorem lit_nil : ("" : Str) = S [] := by decide +kernel
theorem lit_zero : ("0" : Str) = S [48] := by decide +kernel
/-- a slice within a text -/
theorem slice_S {l : L} {i j : Nat} (h : i ≤ j) (hj : j ≤ l.length) : Txt.slice (S l) (some (i : Int)) (some (j : Int)) = S ((l.drop i).take (j - i)) := by
  have e := beq_iff_eq.mp (PyProof.Rows.slice_closesL (x := S l) (i := (i : Int)) (j := (j : Int)) (by omega) (by omega) (by rw [S_len]; omega))
  rw [e]
  show S ((l.drop (i : Int).toNat).take ((j : Int) - (i : Int)).toNat) = _
  rw [Int.toNat_natCast, show ((j : Int) - (i : Int)).toNat = j - i by omega]
theorem dec_str {a b : L} : decide (V.str (S a) = V.str (S b)) = decide (a = b) := by
  by_cases h : a = b
  · rw [decide_eq_true h, h]
    exact decide_eq_true rfl
  · rw [decide_eq_false h]
    exact decide_eq_false fun e => h (S_inj (V.str.inj e))
theorem dec_int {i j : Int} : decide (V.int i = V.int j) = decide (i = j) := by
  by_cases h : i = j
  · rw [decide_eq_true h, h]
    exact decide_eq_true rfl
  · rw [decide_eq_false h]
    exact decide_eq_false fun e => h (V.int.inj e)
/-- a test that is known -/
theorem iteB {b c : Bool} {A B : Prop} (e : b = c) (h1 : c = true → A) (h2 : c = false → B) : if b = true then A else B := by
  subst e
  cases b with
  | true => exact iteT (h1 rfl)
  | false => exact iteF (h2 rfl)
theorem lit_END : ("END" : Str) = S yEND := by decide +kernel
theorem lit_N : ("N" : Str) = S yN := by decide +kernel
theorem lit_W : ("W" : Str) = S yW := by decide +kernel
theorem lit_none : ("none" : Str) = S yNone := by decide +kernel
theorem lit_al : ("abcdefghijklmnopqrstuvwxyz0123456789" : Str) = S cAl := by decide +kernel
theorem lit_a : ("a" : Str) = S [97] := by decide +kernel
theorem lit_z : ("z" : Str) = S [122] := by decide +kernel
/-- a lexeme as the law tells it -/
def encL (t : Lex) : List V := [.str (S (sortL t)), .str (S t.tx), .int (t.pl : Int)]
/-- a lexeme as the program tells it -/
def kindK : Kd → V
  | .fin => .non
  | .bad => .str "none"
  | .num => .str "number"
  | .word => .str "word"
  | .sign => .str "sign"
abbrev kindP (t : Lex) : V := kindK t.kd
theorem kind_none (k : Kd) : decide (kindK k = .non) = decide (k = .fin) := by cases k <;> rfl
theorem kind_bad (k : Kd) : decide (kindK k = .str "none") = decide (k = .bad) := by cases k <;> decide +kernel
theorem kind_word (k : Kd) : decide (kindK k = .str "word") = decide (k = .word) := by cases k <;> decide +kernel
theorem kind_scal (k : Kd) (z : Str) : scal (kindK k) (.str z) = true := by cases k <;> rfl
theorem not_dec {p : Prop} [Decidable p] (h : (!decide p) = true) : ¬ p := fun z => by rw [decide_eq_true z] at h; cases h
theorem not_dec' {p : Prop} [Decidable p] (h : (!decide p) = false) : p := by
  by_cases z : p
  · exact z
  · rw [decide_eq_false z] at h
    cases h
def encP (t : Lex) : List V := [kindP t, .str (S t.tx), .int (t.pl : Int)]
/-- the lexeme of a text from a place on -/
def spLexAt : Sp := fun vs H Q _ => ∃ (l : L) (p : Nat), vs = [.str (S l), .int (p : Int)] ∧ l.length ≤ 50000 ∧ p ≤ l.length ∧ ∀ a H', H a = none → Ex H H' → H' a = some (.tup (encP (lexS (l.drop p) p))) → Q (.ref a) H'
/-- the law's lexeme -/
def spLLex : Sp := fun vs H Q _ => ∃ (l : L) (p : Nat), vs = [.str (S l), .int (p : Int)] ∧ l.length ≤ 50000 ∧ p ≤ l.length ∧ ∀ a H', H a = none → Ex H H' → H' a = some (.lst (encL (lexS (l.drop p) p))) → Q (.ref a) H'
/-- the law's look at a word that is a run of letters and digits -/
def spLWord : Sp := fun vs H Q _ => ∃ r : L, vs = [.str (S r)] ∧ r.length ≤ 50000 ∧ (∀ c ∈ r, c ∈ cAl) ∧ (∀ c, r[0]? = some c → ¬ c ∈ cFg) ∧ ∀ H', Ex H H' → Q (.bl (decide (1 ≤ r.length ∧ r.length ≤ 12))) H'
end Kin
namespace Kin
open PySem L2 SX Evl
theorem atL0 (t : Lex) : atI (encL t) (0 : Int) = some (.str (S (sortL t))) := atI_nat (j := 0) rfl
theorem atL1 (t : Lex) : atI (encL t) (1 : Int) = some (.str (S t.tx)) := atI_nat (j := 1) rfl
theorem atL2 (t : Lex) : atI (encL t) (2 : Int) = some (.int (t.pl : Int)) := atI_nat (j := 2) rfl
theorem atP0 (t : Lex) : atI (encP t) (0 : Int) = some (kindP t) := atI_nat (j := 0) rfl
theorem atP1 (t : Lex) : atI (encP t) (1 : Int) = some (.str (S t.tx)) := atI_nat (j := 1) rfl
theorem atP2 (t : Lex) : atI (encP t) (2 : Int) = some (.int (t.pl : Int)) := atI_nat (j := 2) rfl
/-- the law's table of sorts -/
def sortD : List (Key × V) := [(Sum.inr "W", .str "word"), (Sum.inr "N", .str "number")]
theorem sortD_sign : ∀ c ∈ cSg, (valV (mergeK [] sortD) (Sum.inr (S [c]))).getD (.str "sign") = .str "sign" := by decide +kernel
theorem sortD_word : (valV (mergeK [] sortD) (Sum.inr (S yW))).getD (.str "sign") = .str "word" := by decide +kernel
theorem sortD_num : (valV (mergeK [] sortD) (Sum.inr (S yN))).getD (.str "sign") = .str "number" := by decide +kernel
theorem sortD_get {t : Lex} (w : Wf t) (h1 : t.kd ≠ .fin) (h2 : t.kd ≠ .bad) : (valV (mergeK [] sortD) (Sum.inr (S (sortL t)))).getD (.str "sign") = kindP t := by
  cases h : t.kd with
  | fin => exact absurd h h1
  | bad => exact absurd h h2
  | num =>
    have e : sortL t = yN := by unfold sortL; rw [h]
    rw [e, sortD_num]
    unfold kindP
    rw [h]
    rfl
  | word =>
    have e : sortL t = yW := by unfold sortL; rw [h]
    rw [e, sortD_word]
    unfold kindP
    rw [h]
    rfl
  | sign =>
    obtain ⟨c, hc, e⟩ := sort_sign w h
    rw [e, sortD_sign c hc]
    unfold kindP
    rw [h]
    rfl
/-- the lexemes stand as tuples -/
def Tups (H : Hp) (as : List Addr) (ts : List Lex) : Prop := Paired (fun a t => H a = some (.tup (encP t))) as ts
theorem Paired.mapQ {α β : Type} {F G : α → β → Prop} : ∀ {l : List α} {m : List β}, Paired F l m → (∀ a b, F a b → G a b) → Paired G l m
  | _, _, .nil, _ => .nil
  | _, _, .cons h t, k => .cons (k _ _ h) (Paired.mapQ t k)
theorem Tups.ex {H H' : Hp} {as : List Addr} {ts : List Lex} (h : Tups H as ts) (x : Ex H H') : Tups H' as ts := Paired.mapQ h fun a t e => x a _ e
theorem Tups.upd {H : Hp} {as : List Addr} {ts : List Lex} {f : Addr} {o u : HO} (h : Tups H as ts) (hf : H f = some o) (hn : ∀ xs, o ≠ .tup xs) : Tups (upd H f u) as ts :=
  Paired.mapQ h fun c s e => by rw [upd_ne (ne_of e hf fun z => hn _ z.symm)]; exact e
/-- the law's row of lexemes -/
def spDue : Sp := fun vs H Q _ => ∃ l : L, vs = [.str (S l)] ∧ l.length ≤ 50000 ∧ match told [] (tkAt l 0) with
  | .inl p => ∀ a H', H a = none → Ex H H' → H' a = some (.lst [.str "refused", .int (p : Int)]) → Q (.ref a) H'
  | .inr ts => ∀ a fa as H', H a = none → Ex H H' → H' a = some (.lst [.str "told", .ref fa]) → H' fa = some (.lst (as.map V.ref)) → Tups H' as ts → Q (.ref a) H'
end Kin
namespace Kin
open PySem L2 SX Evl
/-- the run of some signs of a text from a place on -/
def spEnd : Sp := fun vs H Q _ => ∃ (l sg : L) (p : Nat), vs = [.str (S l), .int (p : Int), .str (S sg)] ∧ l.length ≤ 100000 ∧ p ≤ l.length ∧ Q (.int ((p + (run sg (l.drop p)).length : Nat) : Int)) H
section
variable {P : Program} {w : World} {K : PySem.W.Frag} {mg : Str → Option Value} {base : Heap}
theorem end_reading {vs : List V} {H : Hp} {Q : VK} {E : XK} (h : spEnd vs H Q E) :
    (tSeq (tWhile (tAnd (tTest (tOp (rI0 fun i j => .bl (decide (i < j))) (tVar 1) (tCB (fun xs H Q => ∃ z, xs = [.str z] ∧ z.length ≤ sizeLine ∧ Q (.int z.length) H) (tCons (tVar 0) tNil)))) (tTest (tOp rInS (tOp rIxS (tVar 0) (tVar 1)) (tVar 2))))
      (tAsg (tOp (rI0 fun i j => .int (i + j)) (tVar 1) (tC (.int 1))) (gName 1))) (tRet (tVar 1))) { nx := fun _ H' => Q .non H', rt := Q } (start ["text", "place", "signs"] vs) H := by
  obtain ⟨l, sg, p, rfl, hl, hp, q⟩ := h
  refine ⟨fun m σ' H' => H' = H ∧ ∃ n : Nat, σ' = [some (.str (S l)), some (.int (n : Int)), some (.str (S sg))] ∧ n ≤ l.length ∧ n + (run sg (l.drop n)).length = p + (run sg (l.drop p)).length ∧ m = l.length - n,
    ⟨_, rfl, p, rfl, hp, rfl, rfl⟩, ?_⟩
  rintro m σ' H' ⟨rfl, n, rfl, hn, e, rfl⟩
  refine ⟨_, rfl, _, rfl, _, rfl, S_size hl, _, _, rfl, rfl, _, rfl, ?_⟩
  by_cases hlt : n < l.length
  · obtain ⟨c, hc, hd⟩ := drop_cons hlt
    rw [decide_eq_true (show (n : Int) < ((S l).length : Int) by rw [S_len]; omega)]
    refine iteT ?_
    refine ⟨_, rfl, _, rfl, _, _, _, rfl, rfl, S_size hl, atI_S hc, _, rfl, _, _, rfl, rfl, _, rfl, ?_⟩
    by_cases hm : c ∈ sg
    · rw [decide_eq_true (show c ∈ (S sg).cps.toList from hm)]
      refine iteT ⟨_, fun _ _ h => h, ?_⟩
      refine ⟨_, rfl, _, _, rfl, rfl, l.length - (n + 1), by omega, rfl, n + 1, rfl, hlt, ?_, rfl⟩
      rw [← e, hd, run_cons_in hm, List.length_cons]
      omega
    · rw [decide_eq_false (show ¬ c ∈ (S sg).cps.toList from hm)]
      refine iteF ⟨_, rfl, ?_⟩
      rw [hd, run_cons_out hm] at e
      have e' : n = p + (run sg (l.drop p)).length := by
        rw [← e]
        rfl
      rw [← e'] at q
      exact q
  · rw [decide_eq_false (show ¬ (n : Int) < ((S l).length : Int) by rw [S_len]; omega)]
    refine iteF (iteF ⟨_, rfl, ?_⟩)
    have e' : n = p + (run sg (l.drop p)).length := by
      rw [← e, List.drop_eq_nil_of_le (by omega)]
      rfl
    rw [← e'] at q
    exact q
theorem scEndOf : FnScope ["text", "place", "signs"] ["text", "place", "signs"] (C8.fnScope sEndOf) := C8.fnScope_by (by decide +kernel)
theorem ok_endOf {f : Addr} {fd : FuncData} (T : Glob mg) (F : C8.Def K mg "end_of" sEndOf f fd) (b : Binds K fd ["text", "place", "signs"] []) : C8.Cal P w K mg base 1 "end_of" spEnd [] := by
  refine C8.cal0 F b .nil scEndOf (fun vs H Q E h => ?_) (fun cdv A outer s H vs Q E hr h => ?_)
  · obtain ⟨l, sg, p, rfl, _⟩ := h
    rfl
  · refine ⟨_, pss_cons (ps_while PassesOwn.never (PW.pt (pw_and (pt_cmpR op_lt (pv 1) (pe_callB call_len_str (by rfl) T.len PySem.boot_len (pa_cons (pv 0) pa_nil)) (nomark _)) (pw_and1 (pt_cmpR op_inS (pe_ix ix_str (pv 0) (pv 1) (fun _ _ => rfl)) (pv 2) rfl))))
      (pss_one (ps_set (i := 1) scEndOf.nd rfl (Or.inl rfl) (pe_op op_add (pv 1) pe_int)))) (pss_one (ps_ret (pv 1))), end_reading h⟩
end
end Kin
/-! rules that the layer lacks -/
namespace Kin
open PySem PySem.Spec PyProof.Rows L2 SX Evl
section
variable {X : Cx}
/-- i not in range(..) -/
theorem op_nirng : OpR X (compareOp .NotIn) (fun x y H Q => ∃ i a lo hi, x = V.int i ∧ y = V.ref a ∧ H a = some (.rng lo hi) ∧ Q (.bl (!decide (lo ≤ i ∧ i < hi))) H) := by
  intro pins s σ H x y v u Q I rx ry h
  obtain ⟨i, a, lo, hi, rfl, rfl, ha, q⟩ := h
  obtain ⟨k, rfl⟩ := rx
  obtain rfl : u = Value.ref a := ry
  obtain ⟨t1, t2, t3, ho⟩ := I.hok a _ ha
  show wpAny _ _ (do return Value.bool (!(← contains (Value.ref a) (Value.int i k)))) _ _ s
  have hT : s.TypeIs (Value.ref a) "range" := ⟨_, ho, rfl⟩
  refine wpAny_bind (wpAny_contains_slot hT F.slot_range_contains ?_)
  refine call_meets F.slot_range_contains hT F.entry_range_contains (F.args_range_contains_2 _ _) (q_contains a lo hi i t1 t2 t3 k) ⟨ho, ?_⟩
  refine wpAny_truthy_bool (wpAny_pure ⟨.bl _, H, I, rfl, ?_⟩)
  rw [place1]
  exact q
/-- text * int -/
theorem op_smul : OpR X (binaryOp .Mult) (fun x y H Q => ∃ a n, x = .str a ∧ y = .int n ∧ MulOk a n ∧ Q (.str (Txt.mul a n)) H) := by
  intro pins s σ H x y v u Q I rx ry h
  obtain ⟨a, n, rfl, rfl, hm, q⟩ := h
  obtain ⟨t, rfl⟩ := rx
  obtain ⟨t', rfl⟩ := ry
  exact SB.mul hm fun t2 k => ⟨.str _, H, I.tok _, ⟨_, rfl⟩, q⟩
/-- repr of data, where no repr is under way -/
theorem call_reprD (hg : X.A.guards = some []) (hu : X.A.units + 64 < cLine) : CallR X (.builtin "repr") (fun xs H Q => ∃ a d, xs = [.ref a] ∧ Dp X.K H (.ref a) d ∧ d.showable = true ∧ d.hasDict = false ∧ d.depth ≤ 8 ∧ d.shown.length ≤ sizeLine ∧ Q (.str d.shown) H) := by
  intro pins s σ H xs us Q I r h
  obtain ⟨a, d, rfl, hd, h1, h2, h3, h4, q⟩ := h
  obtain ⟨u, rfl, ru⟩ := vals1 r
  obtain rfl : u = Value.ref a := ru
  obtain ⟨as, rd⟩ := Dp.reads I d _ _ hd rfl
  exact repr_of_reads' rd h1 (PyData.noDict_hsm h2) hg (by omega) (fun _ _ e => e) (fun h' u tk hk => ⟨.str _, H, I.kept hk, ⟨_, rfl⟩, q⟩) h4
end
theorem deeper_guards {A : Around} {e : Env} (h : A.guards = some []) : (A.deeper e).guards = some [] := h
theorem caller_guards : callerA.guards = some [] := rfl
end Kin
namespace Kin
open PySem L2 SX Evl
section
variable {P : Program} {w : World} {K : PySem.W.Frag} {mg : Str → Option Value} {base : Heap}
theorem scLexAt : FnScope ["text", "place", "sign", "run"] ["text", "place"] (C8.fnScope sLexAt) := C8.fnScope_by (by decide +kernel)
theorem ok_lexAt {f : Addr} {fd : FuncData} (T : Glob mg) (F : C8.Def K mg "lexeme_at" sLexAt f fd) (b : Binds K fd ["text", "place"] []) (cE : C8.Cal P w K mg base 1 "end_of" spEnd []) : C8.Cal P w K mg base 2 "lexeme_at" spLexAt [] := by
  refine C8.cal0 F b .nil scLexAt (fun vs H Q E h => ?_) (fun cdv A outer s H vs Q E hr h => ?_)
  · obtain ⟨l, p, rfl, _⟩ := h
    rfl
  · obtain ⟨l, p, rfl, hl, hp, q⟩ := h
    obtain ⟨tb, hb⟩ := T.blanks
    obtain ⟨ts, hs⟩ := T.signs
    obtain ⟨tf, hf⟩ := T.figures
    obtain ⟨tl, hlt⟩ := T.letters
    rw [lit_blanks] at hb
    rw [lit_signs] at hs
    rw [lit_figures] at hf
    rw [lit_letters] at hlt
    refine ⟨_, pss_cons (ps_set (i := 1) scLexAt.nd rfl (Or.inl rfl) (C8.pe_c cE hr (by decide) (by rfl) (pa_cons (pv 0) (pa_cons (pv 1) (pa_cons (pe_glob (by rfl) hb (rel_str _ _)) pa_nil)))))
      (pss_cons (ps_if (pt_cmpR op_eq (pv 1) (pe_callB call_len_str (by rfl) T.len PySem.boot_len (pa_cons (pv 0) pa_nil)) (nomark _)) (pss_one (ps_ret (pe_tup (pa_cons (pe_non) (pa_cons (pe_str) (pa_cons (pv 1) pa_nil)))))) pss_nil)
      (pss_cons (ps_set (i := 2) scLexAt.nd rfl (Or.inl rfl) (pe_ix ix_str (pv 0) (pv 1) (fun _ _ => rfl)))
      (pss_cons (ps_if (pt_cmpR op_inS (pv 2) (pe_glob (by rfl) hs (rel_str _ _)) (by rfl)) (pss_one (ps_ret (pe_tup (pa_cons (pe_str) (pa_cons (pv 2) (pa_cons (pv 1) pa_nil)))))) pss_nil)
      (pss_cons (ps_if (pt_cmpR op_inS (pv 2) (pe_glob (by rfl) hf (rel_str _ _)) (by rfl)) (pss_one (ps_ret (pe_tup (pa_cons (pe_str) (pa_cons (pe_ifExp (pt_cmpR op_eq (pv 2) (pe_str) (nomark _)) (pv 2) (pe_slice C8.sl_txt (pv 0) (po_some (pv 1)) (po_some (C8.pe_c cE hr (by decide) (by rfl) (pa_cons (pv 0) (pa_cons (pv 1) (pa_cons (pe_glob (by rfl) hf (rel_str _ _)) pa_nil))))))) (pa_cons (pv 1) pa_nil)))))) pss_nil)
      (pss_cons (ps_set (i := 3) scLexAt.nd rfl (Or.inl rfl) (pe_slice C8.sl_txt (pv 0) (po_some (pv 1)) (po_some (C8.pe_c cE hr (by decide) (by rfl) (pa_cons (pv 0) (pa_cons (pv 1) (pa_cons (pe_op op_add_str (pe_glob (by rfl) hlt (rel_str _ _)) (pe_glob (by rfl) hf (rel_str _ _))) pa_nil)))))))
      (pss_cons (ps_if (pt_cmpR op_nirng (pe_callB call_len_str (by rfl) T.len PySem.boot_len (pa_cons (pv 3) pa_nil)) (pe_callTy cr_range2 (by rfl) T.range (by decide +kernel) (pa_cons (pe_int) (pa_cons (pe_int) pa_nil))) (by rfl)) (pss_one (ps_ret (pe_tup (pa_cons (pe_str) (pa_cons (pe_str) (pa_cons (pv 1) pa_nil)))))) pss_nil)
      (pss_one (ps_ret (pe_tup (pa_cons (pe_str) (pa_cons (pv 3) (pa_cons (pv 1) pa_nil)))))))))))), ?_⟩
    have three : ∀ (x y z : V), [x, y, z].length ≤ sizeLine := fun _ _ _ => by show 3 ≤ sizeLine; decide
    -- place = end_of(..)
    refine ⟨_, rfl, _, rfl, l, cBl, p, rfl, by omega, hp, ?_⟩
    generalize hn : p + (run cBl (l.drop p)).length = n
    have hlex : lexS (l.drop p) p = headLex (l.drop n) n := by
      unfold lexS
      rw [List.drop_drop, hn]
    have hnl : n ≤ l.length := by
      have h1 := run_le cBl (l.drop p)
      rw [List.length_drop] at h1
      omega
    rw [hlex] at q
    -- if place == len(text)
    refine ⟨_, rfl, _, rfl, _, rfl, S_size (by omega), rfl, _, rfl, ?_⟩
    refine iteB (c := decide (n = l.length)) (by rw [dec_int, S_len]; exact decide_eq_decide.mpr (by omega)) (fun h => ?_) (fun h => ?_)
    · have e := of_decide_eq_true h
      refine ⟨_, rfl, three _ _ _, fun a ha => q a _ ha (Ex.new ha) ?_⟩
      rw [upd_same, e, List.drop_length, lit_nil]
      rfl
    have hlt2 : n < l.length := by
      have := of_decide_eq_false h
      omega
    obtain ⟨c, hc, hd⟩ := drop_cons hlt2
    rw [hd] at q
    -- sign = text[place]
    refine ⟨_, rfl, _, rfl, _, _, _, rfl, rfl, S_size (by omega), atI_S hc, ?_⟩
    -- if sign in SIGNS
    refine ⟨_, rfl, _, _, rfl, rfl, _, rfl, ?_⟩
    refine iteB rfl (fun h => ?_) (fun h => ?_)
    · have e : c ∈ cSg := of_decide_eq_true h
      refine ⟨_, rfl, _, rfl, three _ _ _, fun a ha => q a _ ha (Ex.new ha) ?_⟩
      rw [upd_same]
      unfold headLex
      dsimp only
      rw [if_pos e]
      rfl
    have h1 : ¬ c ∈ cSg := of_decide_eq_false h
    -- if sign in FIGURES
    refine ⟨_, rfl, _, _, rfl, rfl, _, rfl, ?_⟩
    refine iteB rfl (fun h => ?_) (fun h => ?_)
    · have e : c ∈ cFg := of_decide_eq_true h
      refine ⟨_, rfl, rfl, _, rfl, ?_⟩
      rw [lit_zero]
      refine iteB (c := decide (c = 48)) ((dec_str (a := [c]) (b := [48])).trans (decide_eq_decide.mpr ⟨fun z => (List.cons.inj z).1, fun z => by rw [z]⟩)) (fun h => ?_) (fun h => ?_)
      · have ec := of_decide_eq_true h
        refine ⟨_, rfl, _, rfl, three _ _ _, fun a ha => q a _ ha (Ex.new ha) ?_⟩
        rw [upd_same]
        unfold headLex
        dsimp only
        rw [if_neg h1, if_pos e, if_pos ec, ec]
        rfl
      · have ec := of_decide_eq_false h
        refine ⟨_, rfl, _, rfl, _, rfl, _, rfl, _, rfl, l, cFg, n, rfl, by omega, by omega, _, rfl, _, rfl, S_size (by omega), ?_⟩
        have hr1 := run_le cFg (l.drop n)
        rw [List.length_drop] at hr1
        refine ⟨_, rfl, three _ _ _, fun a ha => q a _ ha (Ex.new ha) ?_⟩
        rw [upd_same, slice_S (by omega) (by omega), show n + (run cFg (l.drop n)).length - n = (run cFg (l.drop n)).length by omega, run_take, hd]
        unfold headLex
        dsimp only
        rw [if_neg h1, if_pos e, if_neg ec]
        rfl
    have h2 : ¬ c ∈ cFg := of_decide_eq_false h
    -- run = ..
    refine ⟨_, rfl, _, rfl, _, rfl, _, rfl, _, rfl, _, _, rfl, rfl, (by rw [S_len, S_len]; decide), l, cAl, n, (by rw [S_cat]; rfl), by omega, by omega, _, rfl, _, rfl, S_size (by omega), ?_⟩
    have hr1 := run_le cAl (l.drop n)
    rw [List.length_drop] at hr1
    have hsl : Txt.slice (S l) (some (n : Int)) (some ((n + (run cAl (l.drop n)).length : Nat) : Int)) = S (run cAl (c :: l.drop (n + 1))) := by
      rw [slice_S (by omega) (by omega), show n + (run cAl (l.drop n)).length - n = (run cAl (l.drop n)).length by omega, run_take, hd]
    rw [hsl]
    generalize hrun : run cAl (c :: l.drop (n + 1)) = r
    have hrl : r.length ≤ l.length := by
      rw [← hrun, ← hd]
      omega
    -- if len(run) not in range(1, 13)
    refine ⟨_, rfl, _, rfl, S_size (by omega), _, _, rfl, fun g hg => ?_⟩
    refine ⟨_, _, _, _, rfl, rfl, upd_same, _, rfl, ?_⟩
    refine iteB (c := !decide (1 ≤ r.length ∧ r.length ≤ 12)) (by rw [S_len]; exact congrArg Bool.not (decide_eq_decide.mpr (by omega))) (fun h => ?_) (fun h => ?_)
    · have e : ¬ (1 ≤ r.length ∧ r.length ≤ 12) := fun z => by rw [decide_eq_true z] at h; cases h
      refine ⟨_, rfl, three _ _ _, fun a ha => q a _ (fresh_back (Ex.new hg) ha) ((Ex.new hg).trans (Ex.new ha)) ?_⟩
      rw [upd_same, lit_nil]
      unfold headLex
      dsimp only
      rw [if_neg h1, if_neg h2, hrun, if_neg e]
      rfl
    · have e : 1 ≤ r.length ∧ r.length ≤ 12 := by
        by_cases z : 1 ≤ r.length ∧ r.length ≤ 12
        · exact z
        · rw [decide_eq_false z] at h
          cases h
      refine ⟨_, rfl, _, rfl, three _ _ _, fun a ha => q a _ (fresh_back (Ex.new hg) ha) ((Ex.new hg).trans (Ex.new ha)) ?_⟩
      rw [upd_same]
      unfold headLex
      dsimp only
      rw [if_neg h1, if_neg h2, hrun, if_pos e]
      rfl
end
end Kin
namespace Kin
open PySem L2 SX Evl
section
variable {P : Program} {w : World} {K : PySem.W.Frag} {mg : Str → Option Value} {base : Heap}
theorem scRun : FnScope ["_law_text", "_law_place", "_law_signs"] ["_law_text", "_law_place", "_law_signs"] (C8.fnScope sRun) := C8.fnScope_by (by decide +kernel)
theorem ok_lawRun {f : Addr} {fd : FuncData} (T : Glob mg) (F : C8.Def K mg "_law_run" sRun f fd) (b : Binds K fd ["_law_text", "_law_place", "_law_signs"] []) : C8.Cal P w K mg base 1 "_law_run" spEnd [] := by
  refine C8.cal0 F b .nil scRun (fun vs H Q E h => ?_) (fun cdv A outer s H vs Q E hr h => ?_)
  · obtain ⟨l, sg, p, rfl, _⟩ := h
    rfl
  · refine ⟨_, pss_cons (ps_while PassesOwn.never (PW.pt (pw_and (pt_cmpR op_lt (pv 1) (pe_callB call_len_str (by rfl) T.len PySem.boot_len (pa_cons (pv 0) pa_nil)) (nomark _)) (pw_and1 (pt_cmpR op_inS (pe_ix ix_str (pv 0) (pv 1) (fun _ _ => rfl)) (pv 2) (by rfl))))) (pss_one (ps_set (i := 1) scRun.nd rfl (Or.inl rfl) (pe_op op_add (pv 1) (pe_int)))))
      (pss_one (ps_ret (pv 1))), ?_⟩
    exact end_reading h
theorem scLIsWord : FnScope ["_law_value", "_law_sign"] ["_law_value"] (C8.fnScope sLIsWord) := C8.fnScope_by (by decide +kernel)
theorem ok_lawIsWord {f : Addr} {fd : FuncData} (T : Glob mg) (F : C8.Def K mg "_law_is_word" sLIsWord f fd) (b : Binds K fd ["_law_value"] []) : C8.Cal P w K mg base 1 "_law_is_word" spLWord [] := by
  refine C8.cal0 F b .nil scLIsWord (fun vs H Q E h => ?_) (fun cdv A outer s H vs Q E hr h => ?_)
  · obtain ⟨r, rfl, _⟩ := h
    rfl
  · obtain ⟨r, rfl, hl, hal, hfg, q⟩ := h
    refine ⟨_, pss_cons (ps_if (PW.pt (pw_or (pt_not (pt_val (pe_callB call_isi (by rfl) T.isinstance (by decide +kernel) (pa_cons (pv 0) (pa_cons (pe_bltn (u := .type "str") (by rfl) T.str (by decide +kernel) (rel_ty _)) pa_nil))))) (pw_or (pt_not (pt_chain op_le op_le (pe_int) (pe_callB call_len_str (by rfl) T.len PySem.boot_len (pa_cons (pv 0) pa_nil)) (pe_int))) (pw_or1 (pt_not (pt_chain op_le_str op_le_str (pe_str) (pe_ix ix_str (pv 0) (pe_int) (fun _ _ => rfl)) (pe_str))))))) (pss_one (ps_ret (pe_bl))) pss_nil)
      (pss_one (ps_ret (pe_cmpR (op_eqD hr.units) (pe_lc (own := [("_law_sign", 1)]) (by rfl) scLIsWord.nd (pi_str (pv 0)) (blkOk_by (own := [("_law_sign", 1)]) (N := ["_law_value", "_law_sign"]) (sc := C8.fnScope sLIsWord) (by decide +kernel)) (fun _ _ _ _ _ => (pg_name (i := 1) scLIsWord.nd rfl (Or.inl rfl))) (fun _ _ _ _ _ => (pts_one (pt_cmpR op_notInS (pv 1) (pe_str) (by rfl)))) (fun _ _ _ _ _ => (pe_int))) (pe_lst pa_nil) (nomark _)))), ?_⟩
    have fin : ∀ {b : Bool}, b = decide (1 ≤ r.length ∧ r.length ≤ 12) → ∀ H', Ex H H' → Q (.bl b) H' := fun e H' x => by rw [e]; exact q H' x
    -- isinstance(value, str)
    refine ⟨_, rfl, _, _, _, _, _, rfl, .ty "str", .base (.str _), kit_str, _, rfl, iteF ?_⟩
    -- 1 <= len(value) <= 12
    refine ⟨_, rfl, _, rfl, S_size (by omega), _, _, rfl, rfl, _, rfl, ?_⟩
    rw [S_len]
    refine iteB (c := decide (1 ≤ r.length)) (decide_eq_decide.mpr (by omega)) (fun h1 => ?_) (fun h1 => ?_)
    rotate_left
    · have n1 := of_decide_eq_false h1
      refine ⟨_, rfl, iteT (iteT ?_)⟩
      exact fin (decide_eq_false (by omega)).symm _ (Ex.refl _)
    have n1 := of_decide_eq_true h1
    refine ⟨_, _, rfl, rfl, _, rfl, ?_⟩
    refine iteB (c := !decide (r.length ≤ 12)) (congrArg Bool.not (decide_eq_decide.mpr (by omega))) (fun h2 => ?_) (fun h2 => ?_)
    · refine fin ?_ _ (Ex.refl _)
      have n2 : ¬ r.length ≤ 12 := fun z => by rw [decide_eq_true z] at h2; cases h2
      exact (decide_eq_false (by omega)).symm
    have n2 : r.length ≤ 12 := by
      by_cases z : r.length ≤ 12
      · exact z
      · rw [decide_eq_false z] at h2
        cases h2
    -- 'a' <= value[0] <= 'z'
    obtain ⟨c, hc, hd⟩ := drop_cons (l := r) (p := 0) (by omega)
    have hcl : c ∈ cLt := by
      have h3 : c ∈ cLt ++ cFg := hal c (List.mem_of_getElem? hc)
      rcases List.mem_append.mp h3 with z | z
      · exact z
      · exact absurd z (hfg c hc)
    have hcb : 97 ≤ c ∧ c ≤ 122 := lt_bounds c hcl
    refine ⟨_, rfl, _, _, _, rfl, rfl, S_size (by omega), atI_S (p := 0) hc, _, _, rfl, rfl, _, rfl, ?_⟩
    rw [lit_a, lit_z]
    refine iteB (c := true) ?_ (fun _ => ?_) (fun h => by cases h)
    · show (!decide ([c] < [97])) = true
      rw [decide_eq_false (by rw [one_lt]; omega)]
      rfl
    refine ⟨_, _, rfl, rfl, _, rfl, ?_⟩
    refine iteB (c := false) ?_ (fun h => by cases h) (fun _ => ?_)
    · show (!(!decide ([122] < [c]))) = false
      rw [decide_eq_false (by rw [one_lt]; omega)]
      rfl
    -- the signs that are none of the alphabet
    refine ⟨_, rfl, _, rfl, fun D hD => ?_⟩
    refine lc_it (walk_str (z := S r)) (fun i H' => Ex H H' ∧ H' D = some (.lst [])) ⟨Ex.new hD, upd_same⟩ (fun _ _ _ _ => True.intro) ?_ ?_
    · rintro i x H1 H2 hi ⟨x1, hd1⟩ ⟨rfl, d, hdd, rfl⟩
      have hm : d ∈ cAl := hal d (List.mem_of_getElem? (show r[i]? = some d by simpa using hdd))
      refine ⟨rfl, _, rfl, ?_⟩
      rw [lit_al]
      refine ⟨_, _, rfl, rfl, _, rfl, ?_⟩
      rw [decide_eq_true (show d ∈ (S cAl).cps.toList from hm)]
      exact iteF ⟨x1, hd1⟩
    · rintro H1 ⟨x1, hd1⟩
      refine ⟨by decide, fun e he => ?_⟩
      have hde : D ≠ e := ne_of_none hd1 he
      refine ⟨_, _, .lst (SqL.of (by rw [upd_ne hde]; exact hd1)) .nil, .lst (SqL.of upd_same) .nil, rfl, rfl, ?_⟩
      refine fin ?_ _ (x1.trans (Ex.new he))
      rw [decide_eq_true ⟨n1, n2⟩]
      rfl
end
end Kin
namespace Kin
open PySem L2 SX Evl
section
variable {P : Program} {w : World} {K : PySem.W.Frag} {mg : Str → Option Value} {base : Heap}
theorem scLLexeme : FnScope ["_law_text", "_law_place", "_law_figures", "_law_end", "_law_word"] ["_law_text", "_law_place"] (C8.fnScope sLLexeme) := C8.fnScope_by (by decide +kernel)
theorem ok_lawLexeme {f : Addr} {fd : FuncData} (T : Glob mg) (F : C8.Def K mg "_law_lexeme" sLLexeme f fd) (b : Binds K fd ["_law_text", "_law_place"] []) (cR : C8.Cal P w K mg base 1 "_law_run" spEnd []) (cW : C8.Cal P w K mg base 1 "_law_is_word" spLWord []) :
    C8.Cal P w K mg base 2 "_law_lexeme" spLLex [] := by
  refine C8.cal0 F b .nil scLLexeme (fun vs H Q E h => ?_) (fun cdv A outer s H vs Q E hr h => ?_)
  · obtain ⟨l, p, rfl, _⟩ := h
    rfl
  · obtain ⟨l, p, rfl, hl, hp, q⟩ := h
    refine ⟨_, pss_cons (ps_set (i := 2) scLLexeme.nd rfl (Or.inl rfl) (pe_str))
      (pss_cons (ps_set (i := 1) scLLexeme.nd rfl (Or.inl rfl) (C8.pe_c cR hr (by decide) (by rfl) (pa_cons (pv 0) (pa_cons (pv 1) (pa_cons (pe_str) pa_nil)))))
      (pss_cons (ps_if (pt_cmpR op_eq (pv 1) (pe_callB call_len_str (by rfl) T.len PySem.boot_len (pa_cons (pv 0) pa_nil)) (nomark _)) (pss_one (ps_ret (pe_lst (pa_cons (pe_str) (pa_cons (pe_str) (pa_cons (pv 1) pa_nil)))))) pss_nil)
      (pss_cons (ps_if (pt_cmpR op_inS (pe_ix ix_str (pv 0) (pv 1) (fun _ _ => rfl)) (pe_str) (by rfl)) (pss_one (ps_ret (pe_lst (pa_cons (pe_ix ix_str (pv 0) (pv 1) (fun _ _ => rfl)) (pa_cons (pe_ix ix_str (pv 0) (pv 1) (fun _ _ => rfl)) (pa_cons (pv 1) pa_nil)))))) pss_nil)
      (pss_cons (ps_if (pt_cmpR op_inS (pe_ix ix_str (pv 0) (pv 1) (fun _ _ => rfl)) (pv 2) (by rfl)) (pss_cons (ps_set (i := 3) scLLexeme.nd rfl (Or.inl rfl) (pe_ifExp (pt_cmpR op_eq (pe_ix ix_str (pv 0) (pv 1) (fun _ _ => rfl)) (pe_str) (nomark _)) (pe_op op_add (pv 1) (pe_int)) (C8.pe_c cR hr (by decide) (by rfl) (pa_cons (pv 0) (pa_cons (pv 1) (pa_cons (pv 2) pa_nil))))))
      (pss_one (ps_ret (pe_lst (pa_cons (pe_str) (pa_cons (pe_slice C8.sl_txt (pv 0) (po_some (pv 1)) (po_some (pv 3))) (pa_cons (pv 1) pa_nil))))))) pss_nil)
      (pss_cons (ps_set (i := 4) scLLexeme.nd rfl (Or.inl rfl) (pe_slice C8.sl_txt (pv 0) (po_some (pv 1)) (po_some (C8.pe_c cR hr (by decide) (by rfl) (pa_cons (pv 0) (pa_cons (pv 1) (pa_cons (pe_op op_add_str (pe_str) (pv 2)) pa_nil)))))))
      (pss_one (ps_ret (pe_ifExp (pt_val (C8.pe_c cW hr (by decide) (by rfl) (pa_cons (pv 4) pa_nil))) (pe_lst (pa_cons (pe_str) (pa_cons (pv 4) (pa_cons (pv 1) pa_nil)))) (pe_lst (pa_cons (pe_str) (pa_cons (pe_str) (pa_cons (pv 1) pa_nil)))))))))))), ?_⟩
    have three : ∀ (x y z : V), [x, y, z].length ≤ sizeLine := fun _ _ _ => by show 3 ≤ sizeLine; decide
    -- place = run(..)
    refine ⟨_, rfl, _, rfl, l, cBl, p, (by rw [lit_blanks]; rfl), by omega, hp, ?_⟩
    generalize hn : p + (run cBl (l.drop p)).length = n
    have hlex : lexS (l.drop p) p = headLex (l.drop n) n := by
      unfold lexS
      rw [List.drop_drop, hn]
    have hnl : n ≤ l.length := by
      have h1 := run_le cBl (l.drop p)
      rw [List.length_drop] at h1
      omega
    rw [hlex] at q
    -- if place == len(text)
    refine ⟨_, rfl, _, rfl, _, rfl, S_size (by omega), rfl, _, rfl, ?_⟩
    refine iteB (c := decide (n = l.length)) (by rw [dec_int, S_len]; exact decide_eq_decide.mpr (by omega)) (fun h => ?_) (fun h => ?_)
    · have e := of_decide_eq_true h
      refine ⟨_, rfl, three _ _ _, fun a ha => q a _ ha (Ex.new ha) ?_⟩
      rw [upd_same, e, List.drop_length, lit_nil, lit_END]
      rfl
    have hlt2 : n < l.length := by
      have := of_decide_eq_false h
      omega
    obtain ⟨c, hc, hd⟩ := drop_cons hlt2
    rw [hd] at q
    -- if text[place] in ..
    refine ⟨_, rfl, _, rfl, _, _, _, rfl, rfl, S_size (by omega), atI_S hc, ?_⟩
    rw [lit_signs]
    refine ⟨_, _, rfl, rfl, _, rfl, ?_⟩
    refine iteB rfl (fun h => ?_) (fun h => ?_)
    · have e : c ∈ cSg := of_decide_eq_true h
      refine ⟨_, rfl, _, rfl, _, _, _, rfl, rfl, S_size (by omega), atI_S hc, _, rfl, _, rfl, _, _, _, rfl, rfl, S_size (by omega), atI_S hc, _, rfl, three _ _ _, fun a ha => q a _ ha (Ex.new ha) ?_⟩
      rw [upd_same]
      unfold headLex
      dsimp only
      rw [if_pos e]
      rfl
    have h1 : ¬ c ∈ cSg := of_decide_eq_false h
    -- if text[place] in figures
    refine ⟨_, rfl, _, rfl, _, _, _, rfl, rfl, S_size (by omega), atI_S hc, _, rfl, ?_⟩
    rw [lit_figures]
    refine ⟨_, _, rfl, rfl, _, rfl, ?_⟩
    refine iteB rfl (fun h => ?_) (fun h => ?_)
    · have e : c ∈ cFg := of_decide_eq_true h
      -- end = ..
      have hend : ∀ (m : Nat), m = n + (if c = 48 then [48] else run cFg (c :: l.drop (n + 1))).length → (∀ (a : Addr), H a = none → Q (.ref a) (upd H a (.lst [.str "N", .str (Txt.slice (S l) (some (n : Int)) (some (m : Int))), .int (n : Int)]))) := by
        intro m hm a ha
        have hlen : (if c = 48 then [48] else run cFg (c :: l.drop (n + 1))).length ≤ l.length - n := by
          split
          · show 1 ≤ _
            omega
          · rw [← hd]
            have := run_le cFg (l.drop n)
            rw [List.length_drop] at this
            exact this
        refine q a _ ha (Ex.new ha) ?_
        rw [upd_same, slice_S (by omega) (by omega), hm, Nat.add_sub_cancel_left, lit_N, hd]
        unfold headLex
        dsimp only
        rw [if_neg h1, if_pos e]
        congr 4
        split
        · rename_i ec
          rw [ec]
          rfl
        · rw [run_take]
      refine ⟨_, rfl, _, rfl, _, _, _, rfl, rfl, S_size (by omega), atI_S hc, ?_⟩
      rw [lit_zero]
      refine ⟨rfl, _, rfl, ?_⟩
      refine iteB (c := decide (c = 48)) ((dec_str (a := [c]) (b := [48])).trans (decide_eq_decide.mpr ⟨fun z => (List.cons.inj z).1, fun z => by rw [z]⟩)) (fun h => ?_) (fun h => ?_)
      · have ec := of_decide_eq_true h
        refine ⟨_, rfl, _, _, rfl, rfl, _, rfl, _, rfl, _, rfl, _, rfl, _, rfl, _, rfl, S_size (by omega), _, rfl, three _ _ _, fun a ha => ?_⟩
        exact hend (n + 1) (by rw [if_pos ec]; rfl) a ha
      · have ec := of_decide_eq_false h
        refine ⟨_, rfl, _, rfl, _, rfl, l, cFg, n, rfl, by omega, by omega, _, rfl, _, rfl, _, rfl, _, rfl, _, rfl, _, rfl, S_size (by omega), _, rfl, three _ _ _, fun a ha => ?_⟩
        exact hend _ (by rw [if_neg ec, hd]) a ha
    have h2 : ¬ c ∈ cFg := of_decide_eq_false h
    -- word = ..
    refine ⟨_, rfl, _, rfl, _, rfl, _, rfl, _, rfl, _, rfl, _, _, rfl, rfl, (by rw [lit_letters, S_len, S_len]; decide), l, cAl, n, (by rw [lit_letters, S_cat]; rfl), by omega, by omega, _, rfl, _, rfl, S_size (by omega), ?_⟩
    have hr1 := run_le cAl (l.drop n)
    rw [List.length_drop] at hr1
    have hsl : Txt.slice (S l) (some (n : Int)) (some ((n + (run cAl (l.drop n)).length : Nat) : Int)) = S (run cAl (c :: l.drop (n + 1))) := by
      rw [slice_S (by omega) (by omega), show n + (run cAl (l.drop n)).length - n = (run cAl (l.drop n)).length by omega, run_take, hd]
    rw [hsl]
    have hw : (∀ d ∈ run cAl (c :: l.drop (n + 1)), d ∈ cAl) ∧ (∀ d, (run cAl (c :: l.drop (n + 1)))[0]? = some d → ¬ d ∈ cFg) := by
      refine ⟨fun d hd => run_mem hd, fun d hd => ?_⟩
      by_cases ha : c ∈ cAl
      · rw [run_cons_in ha] at hd
        have : c = d := by simpa using hd
        rw [← this]
        exact h2
      · rw [run_cons_out ha] at hd
        cases hd
    generalize hrun : run cAl (c :: l.drop (n + 1)) = r at hw ⊢
    have hrl : r.length ≤ l.length := by
      rw [← hrun, ← hd]
      omega
    refine ⟨_, rfl, r, rfl, by omega, hw.1, hw.2, fun H1 x1 => ?_⟩
    refine ⟨_, rfl, ?_⟩
    refine iteB rfl (fun h => ?_) (fun h => ?_)
    · have e := of_decide_eq_true h
      refine ⟨_, rfl, _, rfl, three _ _ _, fun a ha => q a _ (fresh_back x1 ha) (x1.trans (Ex.new ha)) ?_⟩
      rw [upd_same, lit_W]
      unfold headLex
      dsimp only
      rw [if_neg h1, if_neg h2, hrun, if_pos e]
      rfl
    · have e := of_decide_eq_false h
      refine ⟨_, rfl, three _ _ _, fun a ha => q a _ (fresh_back x1 ha) (x1.trans (Ex.new ha)) ?_⟩
      rw [upd_same, lit_nil, lit_none]
      unfold headLex
      dsimp only
      rw [if_neg h1, if_neg h2, hrun, if_neg e]
      rfl
end
end Kin
/-! own exceptions whose __init__ says super().__init__('..') and then stores one field -/
namespace Kin
open PySem PySem.W PySem.Calls PyProof.Rows PySem.HandSPX

/-- the first statement of such an __init__ -/
def supS (m : Str) (p0 p1 p2 p3 p4 : Pos) : Stmt := .Expr (.Call (.Attribute (.Call (.Name "super" p0) [] [] p1) "__init__" p2) [.Constant (.str m) 0 p3] [] p4) p4
/-- what the written part says of the class at C, of its __init__ at fI, of the cell of __class__ at cc and of the code at cda -/
structure ExcT (K : Frag) (mg : Str → Option Value) (x f : Str) (C fI cc cda : Addr) (st : Stmt) : Prop where
  gC : mg x = some (.ref C)
  cls : ∃ nm q N bs bm sn sub ab col dd k0 k1 k2 k3 k5, K.lookup C = some (excClassObj nm q C N bs bm true sn sub ab col dd k0 k1 k2 k3 k5 "ValueError.__new__") ∧ refsVE bm = true
  sa : findIn K (.ref C) "__setattr__" = some (some (.builtin "object.__setattr__"))
  noF : findIn K (.ref C) f = some none
  iC : findIn K (.ref C) "__init__" = some (some (.ref fI))
  tI : typeIn K (.ref fI) = some (.type "function")
  kC : keepIn K (.ref C) = true
  exC : subIn K (.ref C) (.type "BaseException") = some true
  tyC : typeIn K (.ref C) = some (.type "type")
  fn : ∃ (oc : Value) (od : Option Addr) (doc pm : Value) (an : Option Addr) (ct : Value) (osl : Array (Option Value)) (kV : Value) (qual : Str),
    K.lookup fI = some ⟨oc, od, .func (ksFn "__init__" qual (L2.defArgs st) (L2.defBody st) (L2.defScope st) .none kV doc pm an (.ref cda) ct cc), osl⟩ ∧ codeIn K (.ref cda) qual = true
  cell : ∃ cl cld csl, K.lookup cc = some ⟨cl, cld, .cell (some (.ref C)), csl⟩
  code : ∃ (ccl : Value) (cdd : Option Addr) (vs : Array Value) (ccs : Array (Option Value)) (file : Str) (tf : PySem.Tok), K.lookup cda = some ⟨ccl, cdd, .fields vs, ccs⟩ ∧ vs[2]? = some (.str file tf) ∧ (PySem.Challenge.pw_kindredbush_k09_whole_wrong_places_of_te.main.file == file) = true
  sup : ks_superIn K C C "__init__" = some (some (.builtin "ValueError.__init__"))
  gsup : mg "super" = none
  subV : subIn K (.ref C) (.type "ValueError") = some true
  subC : mroIn K C (.ref C) = some true
  opq : nsIn K cStatics "thirdparty.any" = some none

/-- what __init__ leaves of a fresh exception at x -/
structure InitE (h h' : Heap) (x C dx t1 : Addr) (f : Str) (v : Value) : Prop where
  keep : ∀ b o, b ≠ x → h.get? b = some o → h'.get? b = some o
  obj : h'.get? x = some { cls := .ref C, dict := some dx, data := .fields #[.ref t1, .none, .none, .none, .bool false, .none] }
  dbig : h.objs.size ≤ dx
  dne : dx ≠ x
  ns : h'.Ns1 dx (fun y => if y = f then some v else none)
/-- a made exception -/
structure MadeE (h h' : Heap) (e C d : Addr) (f : Str) (v : Value) : Prop where
  keep : ∀ b o, h.get? b = some o → h'.get? b = some o
  new : h.objs.size ≤ e
  obj : ∃ oe vs, h'.get? e = some oe ∧ oe.cls = .ref C ∧ oe.dict = some d ∧ oe.data = .fields vs ∧ vs[1]? = some .none
  dbig : h.objs.size ≤ d
  dne : d ≠ e
  ns : h'.Ns1 d (fun y => if y = f then some v else none)

/-- the names' tables that a look asks -/
structure Tabs (mg : Str → Option Value) (h : Heap) : Prop where
  g : h.Ns mainGlobals mg
  b : ∃ mb, h.Ns builtinsNs mb ∧ ∀ x : Str, x ≠ "__name__" → mb x = bootBuiltins x
theorem Tabs.keeps {mg : Str → Option Value} {h h' : Heap} (T : Tabs mg h) (k : ∀ b o, h.get? b = some o → h'.get? b = some o) : Tabs mg h' := by
  obtain ⟨mb, b1, b2⟩ := T.b
  exact ⟨T.g.keeps k, mb, b1.keeps k, b2⟩
section
variable {w : World} {A : Around} {E : Value → Shared → Prop} {R : Result → Shared → Prop} {s : Shared} {K : Frag} {mg : Str → Option Value} {x f : Str} {C fI cc cda : Addr} {st : Stmt}
abbrev prg : Program := PySem.Challenge.pw_kindredbush_k09_whole_wrong_places_of_te
/-- the bound wrapper called: the args of the exception are laid anew -/
theorem mw_call {u e t0 : Addr} {nm q : Str} {N : Addr} {bs bm : List Value} {hdct : Bool} {sn : List Str} {sub : List Value} {ab : Bool} {col : Option Bool} {dd : Option Addr} {k0 k1 k2 k3 k5 : Option Value} {rest : List Value} {h : Heap} {g : Array GenState} {d : Drawn} {t : Nat} {os : OsState} {Q : Value → Shared → Prop}
    (hC : h.get? C = some (excClassObj nm q C N bs bm hdct sn sub ab col dd k0 k1 k2 k3 k5 "ValueError.__new__")) (he : h.get? e = some (excO C t0)) (hu : h.get? u = some (kxs_mw "ValueError.__init__" e)) (hz : rest.length ≤ sizeLine)
    (hq : ∀ h' t1, (∀ b o, b ≠ e → h.get? b = some o → h'.get? b = some o) → h'.get? e = some (excO C t1) → Q .none ⟨h', g, d, t, os⟩) : wpAny (model prg w) A (call (.ref u) rest) Q E ⟨h, g, d, t, os⟩ := by
  have FB := F.excBase_ValueError
  refine wpAny_call (codeAny_of_tree ?_)
  show wpAny _ A.in1 (callAny (.ref u) ⟨rest, []⟩) _ _ _
  simp only [callAny]
  refine wpAny_bind (wpAny_load hu ?_)
  simp only [kxs_mw, show (Value.type "method-wrapper" == Value.type "method" || Value.type "method-wrapper" == Value.type "builtin_function_or_method" || Value.type "method-wrapper" == Value.type "method-wrapper") = true by decide, if_true]
  refine KFB.if_so (by decide) ?_
  refine wpAny_bind (check_bound_init FB.toExcCallFacts hC he rfl ?_)
  refine wpAny_bind (wpAny_pure (wpAny_pure ?_))
  refine ⟨plainId_quiet FB.init.plain _, codeAny_builtin FB.initEntry ?_⟩
  exact exc_init_tree (cls := .ref C) (t0 := t0) (dv := none) (c2 := .none) (c3 := .none) (b4 := .bool false) he hz fun h' k hx _ => hq h' _ k hx
/-- super().__init__('..') -/
theorem sup_stmt (T : ExcT K mg x f C fI cc cda st) {body : List Stmt} {q : Str} {scope : Scope} {L y t0 : Addr} {m : Str} {mf : Str → Option Value} {p0 p1 p2 p3 p4 : Pos} {ar : Arg} {rest : List Arg} {h : Heap} {g : Array GenState} {d : Drawn} {t : Nat} {os : OsState} {Q : Flow → Shared → Prop}
    (hps : (L2.defArgs st).posonlyargs ++ (L2.defArgs st).args = ar :: rest) (hn : h.Ns L mf) (hv : mf ar.arg = some (.ref y)) (X : K.In h) (tb : Tabs mg h) (hy : h.get? y = some (excO C t0)) (hyC : y ≠ C) (hyL : y ≠ L)
    (hks : scope.names.lookup ("super" : Str) = some .globalImplicit) (hkc : scope.names.lookup ("__class__" : Str) = some .free) (hka : scope.names.lookup ar.arg = some .local) (hk : scope.kind = .function)
    (hi : interactive (ksEnv q scope L fI (.ref cda) cc) = false) (hsw : swapsWith (.Call (.Attribute (.Call (.Name "super" p0) [] [] p1) "__init__" p2) [.Constant (.str m) 0 p3] [] p4) none p4.line (ksEnv q scope L fI (.ref cda) cc) = pure false)
    {pl : Sem Bool} (he : eval (.Call (.Attribute (.Call (.Name "super" p0) [] [] p1) "__init__" p2) [.Constant (.str m) 0 p3] [] p4) (ksEnv q scope L fI (.ref cda) cc) = (do
      let ov ← attributeBase (.Call (.Name "super" p0) [] [] p1) "__init__" (ksEnv q scope L fI (.ref cda) cc) (eval (.Call (.Name "super" p0) [] [] p1) (ksEnv q scope L fI (.ref cda) cc))
      standAt p2.atName
      let (f, first) ← holding [ov] (getMethod ov "__init__" pl)
      callWith p4 f first (backTo p4 (starEach [.Constant (.str m) 0 p3] (ksEnv q scope L fI (.ref cda) cc))) []))
    (hst : starEach [(Expr.Constant (.str m) 0 p3)] (ksEnv q scope L fI (.ref cda) cc) = [(false, eval (Expr.Constant (.str m) 0 p3) (ksEnv q scope L fI (.ref cda) cc))])
    (hq : ∀ h' t1 tk, (∀ b o, b ≠ y → h.get? b = some o → h'.get? b = some o) → h'.get? y = some (excO C t1) → Q .next ⟨h', g, d, tk, os⟩) :
    _root_.PySem.wpAt (model prg w) A (.func body (ksEnv q scope L fI (.ref cda) cc)) (exec (supS m p0 p1 p2 p3 p4) (ksEnv q scope L fI (.ref cda) cc)) Q E ⟨h, g, d, t, os⟩ := by
  obtain ⟨oc, od, doc, pm, an, ct, osl, kV, qual, ho, hcd⟩ := T.fn
  obtain ⟨cl, cld, csl, hcell⟩ := T.cell
  obtain ⟨ccl, cdd, vs, ccs, file, tf, hcode, hvs, hfile⟩ := T.code
  obtain ⟨nm, qn, N, bs, bm, sn, sub, ab, col, dd, k0, k1, k2, k3, k5, hC, hbm⟩ := T.cls
  have hCd : h.get? C = some (excClassObj nm qn C N bs bm true sn sub ab col dd k0 k1 k2 k3 k5 "ValueError.__new__") := X _ _ hC
  obtain ⟨mb, b1, b2⟩ := tb.b
  refine ks_wpAt_Expr_any ?_ hi hsw
  refine ks_wpAt_MethodCall (pl := pl) ?_ he
  refine ks_wpAt_super_base (env := ksEnv q scope L fI (.ref cda) cc) hks hkc (by decide) rfl (X _ _ ho) rfl (ar := ar) (by show ((L2.defArgs st).posonlyargs ++ (L2.defArgs st).args).head? = some ar; rw [hps]; rfl) rfl (X _ _ hcode) rfl hvs hfile (by decide +kernel) ?_
  refine ks_loadName_global hk hks (loadGlobal_builtin (env := ksEnv q scope L fI (.ref cda) cc) tb.g T.gsup b1 ((b2 _ (by decide +kernel)).trans (by decide +kernel)) ⟨rfl, ?_⟩)
  refine wpAny_loadName_free hk hkc rfl ⟨_, X _ _ hcell, rfl⟩ ?_
  refine wpAny_loadName_local hk hka hn hv ?_
  refine ks_wpAny_isType_cls hCd rfl ⟨rfl, ?_⟩
  refine ks_wpAny_call_super hCd rfl hy rfl (fun c e => by cases e) (looks_mroIn X T.subC) (fun h1 e1 k1 => ?_)
  have X1 : K.In h1 := X.keeps k1
  have hy1 := k1 _ _ hy
  have I1 : InstAt h1 y (excO C t0) C none := ⟨hy1, rfl, rfl, trivial⟩
  have hm : ∃ cd, clsIn K C = some cd ∧ alongIn K "__init__" ((cd.mro.dropWhile (· != .ref C)).drop 1) = some (some (.builtin "ValueError.__init__")) := by
    have z := T.sup
    unfold ks_superIn at z
    cases hc : clsIn K C with
    | none =>
      rw [hc] at z
      cases z
    | some cd =>
      rw [hc] at z
      exact ⟨cd, rfl, z⟩
  obtain ⟨cd, hcd1, hal⟩ := hm
  refine kxs_getMethod kxs_ValueError e1 (looks_opaque X1 T.opq) (l₀ := cd.mro) (fun A Q E s k q => wpAny_bind ((looks_clsIn X1 hcd1) A _ E s k (wpAny_pure q))) rfl X1 hal (I1.type.andThen (looks_subIn X1 T.subV)) hyC (by decide) ?_
  have hlen : ∀ v : Value, [v].length ≤ sizeLine := fun _ => by show 1 ≤ sizeLine; decide
  show wpAny _ _ (callWith p4 (.ref h1.objs.size) [] (backTo p4 (starEach [.Constant (.str m) 0 p3] (ksEnv q scope L fI (.ref cda) cc))) []) _ _ _
  rw [hst]
  have up : ∀ b o, h1.get? b = some o → (h1.push (kxs_mw "ValueError.__init__" y)).get? b = some o := fun b o e => Heap.get?_push_of_some _ e
  have hu : (h1.push (kxs_mw "ValueError.__init__" y)).get? h1.objs.size = some (kxs_mw "ValueError.__init__" y) := Heap.get?_push_at rfl rfl
  refine kxs_callWith (i := "ValueError.__init__") (x := y) rfl (evalArgs_plain ?_)
  refine Calls.spliced_cons (Calls.Constant_str (k := 0) (pos := p3) (Calls.spliced_nil ⟨hu, ?_⟩))
  refine mw_call (nm := nm) (up _ _ (X1 _ _ hC)) (up _ _ hy1) hu (hlen _) (fun h' t1 k hx => hq h' t1 _ (fun b o hb e => k b o hb (up b o (k1 b o e))) hx)
/-- a fresh exception's first field -/
theorem fld_stmt (T : ExcT K mg x f C fI cc cda st) {y t1 : Addr} {v : Value} {h : Heap} {g : Array GenState} {d : Drawn} {t : Nat} {os : OsState} {Q : Unit → Shared → Prop} {A : Around} {E : Value → Shared → Prop} (X : K.In h) (hy : h.get? y = some (excO C t1))
    (hq : ∀ h' tk dx, InitE h h' y C dx t1 f v → Q () ⟨h', g, d, tk, os⟩) : wpAny (model prg w) A (setAttr (.ref y) f v) Q E ⟨h, g, d, t, os⟩ := by
  obtain ⟨nm, qn, N, bs, bm, sn, sub, ab, col, dd, k0, k1, k2, k3, k5, hC, hbm⟩ := T.cls
  have hcl : clsIn K C = some { name := nm, bases := bs, mro := .ref C :: bm, ns := N, qualname := qn, hasDict := true, slotNames := sn, subclasses := sub, abstract := ab, collection := col, hasDel := false } := by
    unfold clsIn
    rw [hC]
    all_goals rfl
  refine set_plain X (ox := excO C t1) (od := none) ⟨hy, rfl, rfl, trivial⟩ T.sa ?_
  exact exc_osa X hy hcl (show refsVE (.ref C :: bm) = true from hbm) rfl T.noF (fun h3 tk3 dx k3 dn dne hx3 hn3 => hq h3 tk3 dx ⟨k3, hx3, dn, dne, hn3⟩)
/-- C(v), by the class's own __init__ -/
theorem exc_made (T : ExcT K mg x f C fI cc cda st) {v : Value} {h : Heap} {g : Array GenState} {d : Drawn} {t : Nat} {os : OsState} {A : Around} {R : Result → Shared → Prop} (X : K.In h)
    (init : ∀ (h1 : Heap) (e t0 : Addr) (A1 : Around) (R1 : Result → Shared → Prop), A1.depth = A.depth + 1 → (∀ b o, h.get? b = some o → h1.get? b = some o) → h1.get? e = some (excO C t0) → K.lookup e = none →
      (∀ h' tk dx t1, InitE h1 h' e C dx t1 f v → R1 (.ok (.ret .none)) ⟨h', g, d, tk, os⟩) → codeAny (model prg w) A1 (.call (.ref fI) ⟨[.ref e, v], []⟩) R1 ⟨h1, g, d, t, os⟩)
    (hq : ∀ h' tk e dd, MadeE h h' e C dd f v → R (.ok (.ret (.ref e))) ⟨h', g, d, tk, os⟩) :
    codeAny (model prg w) A (.call (.ref C) ⟨[v], []⟩) R ⟨h, g, d, t, os⟩ := by
  obtain ⟨nm, qn, N, bs, bm, sn, sub, ab, col, dd, k0, k1, k2, k3, k5, hC, hbm⟩ := T.cls
  have k : ∀ b o, h.get? b = some o → ((h.push (kdv_tup [v])).push (excO C h.objs.size)).get? b = some o := fun b o e => Heap.get?_push_of_some _ (Heap.get?_push_of_some _ e)
  have hget : ((h.push (kdv_tup [v])).push (excO C h.objs.size)).get? (h.objs.size + 1) = some (excO C h.objs.size) := by heap_get
  have hnx : K.lookup (h.objs.size + 1) = none := by
    cases e : K.lookup (h.objs.size + 1) with
    | none => rfl
    | some o =>
      have z : h.get? (h.objs.size + 1) = some o := X _ _ e
      exact absurd (Nat.lt_of_succ_lt (Heap.lt_size z)) (Nat.lt_irrefl _)
  refine call_own F.excBase_ValueError (fun Z => refsVE_contains Z bm hbm) (X _ _ hC) (looks_findIn X T.iC) (fun self => bind_fn X self T.tI) (by show 1 ≤ sizeLine; decide) ?_
  refine init _ _ _ _ _ rfl k hget hnx fun h' tk' dx t1 J => ?_
  have old : ∀ b o, h.get? b = some o → h'.get? b = some o := fun b o e => J.keep b o (Nat.ne_of_lt (Nat.lt_succ_of_lt (Heap.lt_size e))) (k b o e)
  have z : h.objs.size + 1 + 1 ≤ dx := by
    have q := J.dbig
    rw [Heap.size_push, Heap.size_push] at q
    exact q
  exact ⟨rfl, hq h' tk' (h.objs.size + 1) dx ⟨old, Nat.le_succ _, ⟨_, _, J.obj, rfl, rfl, rfl, rfl⟩, by omega, J.dne, J.ns⟩⟩
end
/-! ### the two classes of the text -/
abbrev sBadFits : Stmt := L2.inClass (topS 3) 0
abbrev sBadText : Stmt := L2.inClass (topS 4) 0
section
variable {w : World} {A : Around} {E : Value → Shared → Prop} {R : Result → Shared → Prop} {K : Frag} {mg : Str → Option Value} {C fI cc cda : Addr}
theorem nm_pl : ¬ (("place" : Str) = "self") := by decide +kernel
theorem init_badText (T : ExcT K mg "BadText" "place" C fI cc cda sBadText) {e t0 : Addr} {v : Value} {h : Heap} {g : Array GenState} {d : Drawn} {t : Nat} {os : OsState} (X : K.In h) (lim : h.NoLimit) (tb : Tabs mg h) (he : h.get? e = some (excO C t0)) (hne : K.lookup e = none) (hroom : A.depth < recursionLimit)
    (hq : ∀ h' tk dx t1, InitE h h' e C dx t1 "place" v → R (.ok (.ret .none)) ⟨h', g, d, tk, os⟩) : codeAny (model prg w) A (.call (.ref fI) ⟨[.ref e, v], []⟩) R ⟨h, g, d, t, os⟩ := by
  obtain ⟨oc, od, doc, pm, an, ct, osl, kV, qual, ho, hcd⟩ := id T.fn
  have heC : e ≠ C := fun z => by
    obtain ⟨_, _, _, _, _, _, _, _, _, _, _, _, _, _, _, hC, _⟩ := T.cls
    rw [z, hC] at hne
    cases hne
  refine ks_codeAny_call_defAt (fd := ksFn "__init__" qual (L2.defArgs sBadText) (L2.defBody sBadText) (L2.defScope sBadText) .none kV doc pm an (.ref cda) ct cc) (body := L2.defBody sBadText) (binds := [("self", .ref e), ("place", v)]) hroom (X _ _ ho) rfl lim (codeRec_of X hcd) rfl
    (BindsTo.of_eq (by first | rfl | with_unfolding_all rfl)) (show ∀ y ∈ (L2.defScope sBadText).names, y.2 ≠ .cell by decide +kernel) (locs rfl) (fun h1 hns k1 => ?_)
  have heL : e ≠ h.objs.size := Nat.ne_of_lt (Heap.lt_size he)
  refine ks_wpAt_execs_cons ?_
  refine sup_stmt (p0 := ⟨15, 8, 15, 13⟩) (p1 := ⟨15, 8, 15, 15⟩) (p2 := ⟨15, 8, 15, 24⟩) (p3 := ⟨15, 25, 15, 69⟩) (p4 := ⟨15, 8, 15, 70⟩) T (ar := ⟨"self", none, ⟨14, 17, 14, 21⟩⟩) rfl hns (by first | rfl | decide | kernel_rfl) (X.keeps k1) (tb.keeps k1) (k1 _ _ he) heC heL rfl rfl rfl rfl rfl rfl rfl rfl ?_
  intro h2 t1 tk k2 hx2
  have hns2 : h2.Ns h.objs.size (fun y => ([("self", Value.ref e), ("place", v)] : List (Str × Value)).reverse.lookup y) := hns.at fun o q => k2 _ o heL.symm q
  have X2 : K.In h2 := fun a o z => k2 a o (fun y => by rw [y, hne] at z; cases z) (k1 a o (X a o z))
  refine wpAt_of_wpAny ?_
  refine wpAny_execs_cons (plainObj_wpAny_Assign_Attribute ?_)
  refine wpAny_Name (wpAny_loadName_local (v := v) rfl rfl hns2 (by first | rfl | decide | kernel_rfl) ?_) (by decide)
  refine wpAny_Name (wpAny_loadName_local (v := .ref e) rfl rfl hns2 (by first | rfl | decide | kernel_rfl) ?_) (by decide)
  refine fld_stmt T X2 hx2 fun h3 tk3 dx J => ?_
  refine wpAny_execs_nil (hq h3 tk3 dx t1 ⟨fun b o hb z => J.keep b o hb (k2 b o hb (k1 b o z)), J.obj, ?_, J.dne, J.ns⟩)
  exact Nat.le_trans (Nat.le_of_lt (show h.objs.size < h2.objs.size from hns2.lt)) J.dbig
theorem init_badFits (T : ExcT K mg "BadFits" "path" C fI cc cda sBadFits) (gt : mg "tuple" = none) {e t0 a : Addr} {items : Array Value} {h : Heap} {g : Array GenState} {d : Drawn} {t : Nat} {os : OsState} (X : K.In h) (lim : h.NoLimit) (tb : Tabs mg h) (he : h.get? e = some (excO C t0)) (hne : K.lookup e = none) (hroom : A.depth < recursionLimit)
    (ha : h.IsTuple a items) (hq : ∀ h' tk dx t1, InitE h h' e C dx t1 "path" (.ref a) → R (.ok (.ret .none)) ⟨h', g, d, tk, os⟩) : codeAny (model prg w) A (.call (.ref fI) ⟨[.ref e, .ref a], []⟩) R ⟨h, g, d, t, os⟩ := by
  obtain ⟨oc, od, doc, pm, an, ct, osl, kV, qual, ho, hcd⟩ := id T.fn
  have heC : e ≠ C := fun z => by
    obtain ⟨_, _, _, _, _, _, _, _, _, _, _, _, _, _, _, hC, _⟩ := T.cls
    rw [z, hC] at hne
    cases hne
  have hea : a ≠ e := fun z => by
    obtain ⟨o, h1, h2, _⟩ := ha
    rw [z, he] at h1
    cases h1
    cases h2
  refine ks_codeAny_call_defAt (fd := ksFn "__init__" qual (L2.defArgs sBadFits) (L2.defBody sBadFits) (L2.defScope sBadFits) .none kV doc pm an (.ref cda) ct cc) (body := L2.defBody sBadFits) (binds := [("self", .ref e), ("path", .ref a)]) hroom (X _ _ ho) rfl lim (codeRec_of X hcd) rfl
    (BindsTo.of_eq (by first | rfl | with_unfolding_all rfl)) (show ∀ y ∈ (L2.defScope sBadFits).names, y.2 ≠ .cell by decide +kernel) (locs rfl) (fun h1 hns k1 => ?_)
  have heL : e ≠ h.objs.size := Nat.ne_of_lt (Heap.lt_size he)
  refine ks_wpAt_execs_cons ?_
  refine sup_stmt (p0 := ⟨10, 8, 10, 13⟩) (p1 := ⟨10, 8, 10, 15⟩) (p2 := ⟨10, 8, 10, 24⟩) (p3 := ⟨10, 25, 10, 46⟩) (p4 := ⟨10, 8, 10, 47⟩) T (ar := ⟨"self", none, ⟨9, 17, 9, 21⟩⟩) rfl hns (by first | rfl | decide | kernel_rfl) (X.keeps k1) (tb.keeps k1) (k1 _ _ he) heC heL rfl rfl rfl rfl rfl rfl rfl rfl ?_
  intro h2 t1 tk k2 hx2
  have hns2 : h2.Ns h.objs.size (fun y => ([("self", Value.ref e), ("path", .ref a)] : List (Str × Value)).reverse.lookup y) := hns.at fun o q => k2 _ o heL.symm q
  have X2 : K.In h2 := fun a o z => k2 a o (fun y => by rw [y, hne] at z; cases z) (k1 a o (X a o z))
  have ne : ∀ {b m}, h.Ns b m → b ≠ e := fun {b m} z y => by
    obtain ⟨o, es, ep, z1, z2, _⟩ := z
    rw [y, he] at z1
    cases z1
    cases z2
  obtain ⟨mb, b1, b2⟩ := tb.b
  have g2 : h2.Ns mainGlobals mg := (tb.g.keeps k1).at fun o q => k2 _ o (ne tb.g) q
  have b3 : h2.Ns builtinsNs mb := (b1.keeps k1).at fun o q => k2 _ o (ne b1) q
  have ha2 : h2.IsTuple a items := by
    obtain ⟨o, z1, z2⟩ := ha
    exact ⟨o, k2 _ _ hea (k1 _ _ z1), z2⟩
  refine wpAt_of_wpAny ?_
  refine wpAny_execs_cons (plainObj_wpAny_Assign_Attribute ?_)
  refine wpAny_Call_Name_kw (Name_function_global rfl rfl (loadGlobal_builtin (v := .type "tuple") g2 gt b3 ((b2 _ (by decide +kernel)).trans (by decide +kernel)) ?_) (by decide))
  refine callWith_type1 (Calls.spliced_cons (wpAny_Name (wpAny_loadName_local (v := .ref a) rfl rfl hns2 (by first | rfl | decide | kernel_rfl) (Calls.spliced_nil ?_)) (by decide))) rfl rfl
  refine call_tuple_same ha2 ?_
  refine wpAny_Name (wpAny_loadName_local (v := .ref e) rfl rfl hns2 (by first | rfl | decide | kernel_rfl) ?_) (by decide)
  refine fld_stmt T X2 hx2 fun h3 tk3 dx J => ?_
  refine wpAny_execs_nil (hq h3 tk3 dx t1 ⟨fun b o hb z => J.keep b o hb (k2 b o hb (k1 b o z)), J.obj, ?_, J.dne, J.ns⟩)
  exact Nat.le_trans (Nat.le_of_lt (show h.objs.size < h2.objs.size from hns2.lt)) J.dbig
end
end Kin
namespace Kin
open PySem PySem.Spec PyProof.Rows L2 SX Evl
section
variable {X : Cx} {x f : Str} {C fI cc cda : Addr} {st : Stmt}
theorem relO_one {v : V} {v' : Value} (r : RelV v v') (g : Str) : RelO (List.lookup g [(f, v)]) (if g = f then some v' else none) := relO_put (fs := []) (mA := fun _ => none) r (fun _ => True.intro) g
/-- a made exception in the layer's own words -/
theorem mk_made (T : ExcT X.K X.mg x f C fI cc cda st) {pins : List (Addr × Obj)} {σ : L2.St} {H : Hp} {Q : XK} {hp h' : Heap} {g : Array GenState} {dr : Drawn} {tk tk' : Nat} {os : OsState} {e d : Addr} {v : V} {v' : Value}
    (I1 : Inv X pins σ H ⟨hp, g, dr, tk, os⟩) (rv : RelV v v') (M : MadeE hp h' e C d f v') (q : ∀ d, H d = none → Q (.ref C) (some d) (upd H d (.xd [(f, v)]))) : MkP X pins σ Q (.ref e) ⟨h', g, dr, tk', os⟩ := by
  obtain ⟨oe, fv, hoe, hc, hd, hdat, h1⟩ := M.obj
  have hns := M.ns
  obtain ⟨G', g1, g2⟩ := restrict h' fun b => decide (b ≠ e)
  have gk : ∀ b, b ≠ e → G'.get? b = h'.get? b := fun b hb => g1 b (decide_eq_true hb)
  have ge : G'.get? e = none := g2 e (by simp)
  have old : ∀ b o, hp.get? b = some o → G'.get? b = some o := fun b o z => (gk b (Nat.ne_of_lt (Nat.lt_of_lt_of_le (Heap.lt_size z) M.new))).trans (M.keep b o z)
  have ob : ObjOk X.prog X.w (upd H d (.xd [(f, v)])) G' d (.xd [(f, v)]) := ⟨_, hns.at (fun o z => (gk d M.dne).trans z), fun g => relO_one rv g⟩
  have J : Inv X pins σ (upd H d (.xd [(f, v)])) ⟨G', g, dr, tk', os⟩ := I1.laid (t' := tk') old M.dbig ob
  refine ⟨e, oe, fv, ⟨G', g, dr, tk', os⟩, _, .ref C, some d, rfl, J, fun b o z => ?_, ge, hoe, ⟨hc, hd⟩, hdat, h1, ?_, rfl, I1.bare, raises_own T.exC T.tyC, q d (I1.hok.fresh M.dbig)⟩
  · by_cases hb : b = e
    · have z' : G'.get? b = some o := z
      rw [hb, ge] at z'
      cases z'
    · exact (gk b hb).symm.trans z
  · rw [upd_ne (Ne.symm M.dne)]
    exact I1.hok.fresh M.new
/-- C(e): the value, then a new exception of the class with the field -/
def tMkE (C : Addr) (f : Str) (ok : V → Hp → Prop) (ta : TA) : L2.St → Hp → XK → Prop := fun σ H Q => ta σ H fun vs H1 => ∃ v, vs = [v] ∧ ok v H1 ∧ ∀ d, H1 d = none → Q (.ref C) (some d) (upd H1 d (.xd [(f, v)]))
theorem tabs_of {pins : List (Addr × Obj)} {σ : L2.St} {H : Hp} {s : Shared} (I : Inv X pins σ H s) : Tabs X.mg s.heap := by
  obtain ⟨mb, b1, b2⟩ := I.ok.mod.blt
  exact ⟨I.ok.mod.glob.keeps I.bk, mb, b1.keeps I.bk, b2⟩
/-- BadText(e) -/
theorem pmk_badText (hP : X.prog = prg) {a : Expr} {ta : TA} {p pos : Pos} {k : Nat} (T : ExcT X.K X.mg "BadText" "place" C fI cc cda sBadText) (hr : Room k X.A) (ha : PA X [a] ta) (hg : Gl X "BadText" := by rfl)
    (he : starEach (a :: []) X.env = (false, eval a X.env) :: starEach [] X.env := by rfl) (hpl : (backTo pos (starEach [] X.env)).any (·.1) = false := by rfl) :
    PMk X (.Call (.Name "BadText" p) [a] [] pos) (tMkE C "place" (fun _ _ => True) ta) := by
  intro pins s σ H Q I h
  refine wpAny_Call_Name_kw (ld_glob I hg T.gC ?_)
  refine PySem.W.callWith_K (h₀ := X.base) I.ok.mod.kin T.kC (thn (ha.run pos pins s σ H _ I h) fun us s1 ⟨vs, H1, I1, r1, v, ev, _, q1⟩ => ⟨I1.kIn, ?_⟩) he hpl
  subst ev
  obtain ⟨v', rfl, rv⟩ := vals1 r1
  show wpAny _ _ (call (.ref C) [v']) _ _ _
  have hlim := I1.nolimit
  have tb := tabs_of I1
  obtain ⟨hp, g, dr, tk, os⟩ := s1
  rw [hP]
  refine wpAny_call (exc_made T I1.kIn (fun h1 e t0 A1 R1 hA k1 hx hnx hR => init_badText T (I1.kIn.keeps k1) (hlim.keeps k1) (tb.keeps k1) hx hnx (by rw [hA]; have := hr.dp; omega) hR) fun h' tk' e d M => ?_)
  exact mk_made T I1 rv M q1
/-- BadFits(e), e a tuple -/
theorem pmk_badFits (hP : X.prog = prg) (gt : X.mg "tuple" = none) {a : Expr} {ta : TA} {p pos : Pos} {k : Nat} (T : ExcT X.K X.mg "BadFits" "path" C fI cc cda sBadFits) (hr : Room k X.A) (ha : PA X [a] ta) (hg : Gl X "BadFits" := by rfl)
    (he : starEach (a :: []) X.env = (false, eval a X.env) :: starEach [] X.env := by rfl) (hpl : (backTo pos (starEach [] X.env)).any (·.1) = false := by rfl) :
    PMk X (.Call (.Name "BadFits" p) [a] [] pos) (tMkE C "path" (fun v H => ∃ b xs, v = .ref b ∧ SqT X.K H b xs) ta) := by
  intro pins s σ H Q I h
  refine wpAny_Call_Name_kw (ld_glob I hg T.gC ?_)
  refine PySem.W.callWith_K (h₀ := X.base) I.ok.mod.kin T.kC (thn (ha.run pos pins s σ H _ I h) fun us s1 ⟨vs, H1, I1, r1, v, ev, ⟨b, xs, eb, hb⟩, q1⟩ => ⟨I1.kIn, ?_⟩) he hpl
  subst ev
  subst eb
  obtain ⟨v', rfl, rv⟩ := vals1 r1
  obtain rfl : v' = Value.ref b := rv
  obtain ⟨its, _, p1, _⟩ := I1.tuple hb
  show wpAny _ _ (call (.ref C) [.ref b]) _ _ _
  have hlim := I1.nolimit
  have tb := tabs_of I1
  obtain ⟨hp, g, dr, tk, os⟩ := s1
  have p2 : hp.IsTuple b its.toArray := p1
  rw [hP]
  refine wpAny_call (exc_made T I1.kIn (fun h1 e t0 A1 R1 hA k1 hx hnx hR => init_badFits T gt (items := its.toArray) (I1.kIn.keeps k1) (hlim.keeps k1) (tb.keeps k1) hx hnx (by rw [hA]; have := hr.dp; omega) (by obtain ⟨o, z1, z2⟩ := p2; exact ⟨o, k1 _ _ z1, z2⟩) hR) fun h' tk' e d M => ?_)
  exact mk_made T I1 (v := .ref b) rfl M q1
/-- raise C(..) -/
def tRaiseE (W : WX) (t : L2.St → Hp → XK → Prop) : TS := fun _ σ H => t σ H fun cls d H' => W cls d σ H'
theorem ps_raiseE {e : Expr} {W : WX} {t : L2.St → Hp → XK → Prop} {pos : Pos} (hc : X.calm = true) (tk : Takes X W) (he : PMk X e t) : PS X (.Raise (some e) none pos) (tRaiseE W t) := ps_raise hc tk he
end
end Kin
/-! defs that raise, by their names -/
namespace Kin
open PySem PySem.Spec PyProof.Rows L2 SX Evl
/-- a def that may raise -/
structure CalX (P : Program) (w : World) (K : PySem.W.Frag) (mg : Str → Option Value) (base : Heap) (k : Nat) (x : Str) (sp : Sp) : Prop where
  ex : ∃ (f : Addr) (fd : FuncData) (ps : List Str), FnOk P w K mg base (L2.CX P w) k f fd ps sp ∧ mg x = some (.ref f) ∧ PySem.W.keepIn K (.ref f) = true ∧ Binds K fd ps []
/-- .. a method -/
structure MetX (P : Program) (w : World) (K : PySem.W.Frag) (mg : Str → Option Value) (base : Heap) (k : Nat) (C : Addr) (m : Str) (sp : Sp) : Prop where
  ex : ∃ (f : Addr) (fd : FuncData) (ps : List Str), Cls K C ∧ Meth K C m f ∧ FnOk P w K mg base (L2.CX P w) k f fd ps sp ∧ Binds K fd ps []
/-- .. a class that may be made -/
structure MakX (P : Program) (w : World) (K : PySem.W.Frag) (mg : Str → Option Value) (base : Heap) (k : Nat) (x : Str) (C : Addr) (sp : Sp) : Prop where
  ex : ∃ (f : Addr) (fd : FuncData) (ps : List Str), Mk K C f ∧ FnOk P w K mg base (L2.CX P w) k f fd ps sp ∧ mg x = some (.ref C) ∧ Binds K fd ps []
section
variable {P : Program} {w : World} {K : PySem.W.Frag} {mg : Str → Option Value} {base : Heap}
theorem fnX0 {x qual : Str} {st : Stmt} {f : Addr} {fd : FuncData} {N ps : List Str} {k : Nat} {sp : Sp} (F : C8.Fun K x qual st f fd) (S : FnScope N ps (C8.fnScope st)) (len : ∀ vs H Q E, sp vs H Q E → vs.length = ps.length)
    (hbody : ∀ (cdv : Value) (A : Around) (outer : List Env) (s : Shared) (H : Hp) (vs : List V) (Q : VK) (E : XK), Room k (A.deeper (envOfC qual (C8.fnScope st) s.heap.objs.size f cdv)) → sp vs H Q E →
      ∃ t, PSs (cxOf (L2.CX P w) P w K mg base N qual (C8.fnScope st) f cdv A outer s H E) (C8.fnBody st) t ∧ t { nx := fun _ H' => Q .non H', rt := Q } (start N vs) H) : FnOk P w K mg base (L2.CX P w) (k + 1) f fd ps sp := by
  obtain ⟨oc, od, dV, kV, doc, pm, an, cdv, ct, osl, rfl, lk, hcd⟩ := F.ex
  exact fn_of lk hcd S len fun A outer s H vs Q E hr hsp => hbody cdv A outer s H vs Q E hr hsp
theorem calX0 {x : Str} {st : Stmt} {f : Addr} {fd : FuncData} {N ps : List Str} {k : Nat} {sp : Sp} (F : C8.Def K mg x st f fd) (b : Binds K fd ps []) (S : FnScope N ps (C8.fnScope st)) (len : ∀ vs H Q E, sp vs H Q E → vs.length = ps.length)
    (hbody : ∀ (cdv : Value) (A : Around) (outer : List Env) (s : Shared) (H : Hp) (vs : List V) (Q : VK) (E : XK), Room k (A.deeper (envOfC x (C8.fnScope st) s.heap.objs.size f cdv)) → sp vs H Q E →
      ∃ t, PSs (cxOf (L2.CX P w) P w K mg base N x (C8.fnScope st) f cdv A outer s H E) (C8.fnBody st) t ∧ t { nx := fun _ H' => Q .non H', rt := Q } (start N vs) H) : CalX P w K mg base (k + 1) x sp :=
  ⟨f, fd, ps, fnX0 F.fn S len hbody, F.mgf, F.kp, b⟩
theorem metX0 {m qual : Str} {C : Addr} {st : Stmt} {f : Addr} {fd : FuncData} {N ps : List Str} {k : Nat} {sp : Sp} (c : Cls K C) (me : Meth K C m f) (F : C8.Fun K m qual st f fd) (b : Binds K fd ps []) (S : FnScope N ps (C8.fnScope st)) (len : ∀ vs H Q E, sp vs H Q E → vs.length = ps.length)
    (hbody : ∀ (cdv : Value) (A : Around) (outer : List Env) (s : Shared) (H : Hp) (vs : List V) (Q : VK) (E : XK), Room k (A.deeper (envOfC qual (C8.fnScope st) s.heap.objs.size f cdv)) → sp vs H Q E →
      ∃ t, PSs (cxOf (L2.CX P w) P w K mg base N qual (C8.fnScope st) f cdv A outer s H E) (C8.fnBody st) t ∧ t { nx := fun _ H' => Q .non H', rt := Q } (start N vs) H) : MetX P w K mg base (k + 1) C m sp :=
  ⟨f, fd, ps, c, me, fnX0 F S len hbody, b⟩
theorem makX0 {x qual : Str} {C : Addr} {st : Stmt} {f : Addr} {fd : FuncData} {N ps : List Str} {k : Nat} {sp : Sp} (M : Mk K C f) (hm : mg x = some (.ref C)) (F : C8.Fun K "__init__" qual st f fd) (b : Binds K fd ps []) (S : FnScope N ps (C8.fnScope st)) (len : ∀ vs H Q E, sp vs H Q E → vs.length = ps.length)
    (hbody : ∀ (cdv : Value) (A : Around) (outer : List Env) (s : Shared) (H : Hp) (vs : List V) (Q : VK) (E : XK), Room k (A.deeper (envOfC qual (C8.fnScope st) s.heap.objs.size f cdv)) → sp vs H Q E →
      ∃ t, PSs (cxOf (L2.CX P w) P w K mg base N qual (C8.fnScope st) f cdv A outer s H E) (C8.fnBody st) t ∧ t { nx := fun _ H' => Q .non H', rt := Q } (start N vs) H) : MakX P w K mg base (k + 1) x C sp :=
  ⟨f, fd, ps, M, fnX0 F S len hbody, hm, b⟩
end
section
variable {X : Cx} {k j : Nat} {C : Addr} {x m : Str} {sp : Sp} {p pos apos : Pos} {e o : Expr} {es : List Expr} {ta : TE} {t : TA} {W : WX} {E : XK}
/-- f(..), what it raises is wished for at the slots as they stand -/
theorem pe_cx (c : CalX X.prog X.w X.K X.mg X.base k x sp) (tk : Takes X W) (hr : Room j X.A) (hk : k ≤ j) (hg : Gl X x) (ha : PA X (e :: es) t)
    (hdb : (x == ("__debug__" : Str)) = false := by decide) (he : starEach (e :: es) X.env = (false, eval e X.env) :: starEach es X.env := by rfl) (hpl : (backTo pos (starEach es X.env)).any (·.1) = false := by rfl) :
    PE X (.Call (.Name x p) (e :: es) [] pos) (tCallS sp (WE W) t) := by
  obtain ⟨f, fd, ps, F, hm, kp, b⟩ := c.ex
  exact pe_callS F (hr.mono hk) hg hm kp b (fun σ => passAt tk σ) ha hdb he hpl
/-- o.m(..), what it raises leaves this def -/
theorem pe_mx {pl : Sem Bool} (c : MetX X.prog X.w X.K X.mg X.base k C m sp) (hx : Passes (L2.CX X.prog X.w) X E) (hr : Room j X.A) (hk : k ≤ j) (he : PE X o ta) (ha : PA X (e :: es) t)
    (hst : starEach (e :: es) X.env = (false, eval e X.env) :: starEach es X.env := by rfl) (hpl : (backTo pos (starEach es X.env)).any (·.1) = false := by rfl)
    (ht : eval (.Call (.Attribute o m apos) (e :: es) [] pos) X.env = (do
      let ov ← eval o X.env
      standAt apos.atName
      let (f, first) ← holding [ov] (getMethod ov m pl)
      callWith pos f first (backTo pos (starEach (e :: es) X.env)) (backToKw pos (keywordEach [] X.env))) := by rfl) :
    PE X (.Call (.Attribute o m apos) (e :: es) [] pos) (tMeth C m sp [] E ta t) := by
  obtain ⟨f, fd, ps, hc, hm, F, b⟩ := c.ex
  exact pe_meth (pl := pl) he hc hm F (hr.mono hk) b .nil hx ha hst hpl ht
theorem pe_mx0 {pl : Sem Bool} (c : MetX X.prog X.w X.K X.mg X.base k C m sp) (hx : Passes (L2.CX X.prog X.w) X E) (hr : Room j X.A) (hk : k ≤ j) (he : PE X o ta)
    (ht : eval (.Call (.Attribute o m apos) [] [] pos) X.env = (do
      let ov ← eval o X.env
      standAt apos.atName
      let (f, first) ← holding [ov] (getMethod ov m pl)
      callWith pos f first (backTo pos (starEach [] X.env)) (backToKw pos (keywordEach [] X.env))) := by rfl) :
    PE X (.Call (.Attribute o m apos) [] [] pos) (tMeth C m sp [] E ta tNil) := by
  obtain ⟨f, fd, ps, hc, hm, F, b⟩ := c.ex
  exact pe_meth0 (pl := pl) he hc hm F (hr.mono hk) b .nil hx ht
theorem pe_mkx (c : MakX X.prog X.w X.K X.mg X.base k x C sp) (hx : Passes (L2.CX X.prog X.w) X E) (hr : Room j X.A) (hk : k + 1 ≤ j) (hg : Gl X x) (ha : PA X (e :: es) t)
    (hdb : (x == ("__debug__" : Str)) = false := by decide) (he : starEach (e :: es) X.env = (false, eval e X.env) :: starEach es X.env := by rfl) (hpl : (backTo pos (starEach es X.env)).any (·.1) = false := by rfl) :
    PE X (.Call (.Name x p) (e :: es) [] pos) (tMake C sp [] E t) := by
  obtain ⟨f, fd, ps, M, F, hm, b⟩ := c.ex
  exact pe_make M F (hr.mono hk) hg hm b .nil hx ha hdb he hpl
end
/-- BadText with a place -/
def RaisesAt (C : Addr) (H : Hp) (E : XK) (p : Nat) : Prop := ∀ d H', H d = none → Ex H H' → H' d = some (.xd [("place", .int (p : Int))]) → E (.ref C) (some d) H'
def spLexemes (C : Addr) : Sp := fun vs H Q E => ∃ l : L, vs = [.str (S l)] ∧ l.length ≤ 50000 ∧ match told [] (tkAt l 0) with
  | .inl p => RaisesAt C H E p
  | .inr ts => ∀ a as H', H a = none → Ex H H' → H' a = some (.lst (as.map V.ref)) → Tups H' as ts → Q (.ref a) H'
end Kin
namespace Kin
open PySem L2 SX Evl
section
variable {w : World} {K : PySem.W.Frag} {mg : Str → Option Value} {base : Heap}
theorem scLexemes : FnScope ["text", "found", "one"] ["text"] (C8.fnScope sLexemes) := C8.fnScope_by (by decide +kernel)
theorem ok_lexemes {f C fI cc cda : Addr} {fd : FuncData} (T : Glob mg) (T5 : ExcT K mg "BadText" "place" C fI cc cda sBadText) (F : C8.Def K mg "lexemes" sLexemes f fd) (b : Binds K fd ["text"] []) (cL : C8.Cal prg w K mg base 2 "lexeme_at" spLexAt []) : CalX prg w K mg base 3 "lexemes" (spLexemes C) := by
  refine calX0 F b scLexemes (fun vs H Q E h => ?_) (fun cdv A outer s H vs Q E hr h => ?_)
  · obtain ⟨l, rfl, _⟩ := h
    rfl
  · obtain ⟨l, rfl, hl, q⟩ := h
    have tk := takes_of (X := cxOf (L2.CX prg w) prg w K mg base ["text", "found", "one"] "lexemes" (C8.fnScope sLexemes) f cdv A outer s H E) (E := E) rfl rfl rfl rfl
    refine ⟨_, pss_cons (ps_par (i := 1) (j := 2) (by rfl) scLexemes.nd rfl rfl (by decide) rfl rfl (pa_cons (pe_lst pa_nil) (pa_cons (C8.pe_c cL hr (by decide) (by rfl) (pa_cons (pv 0) (pa_cons (pe_int) pa_nil))) pa_nil)) (by rfl))
      (pss_cons (ps_while (passes_of rfl) (pt_cmpR op_notN (pe_ix ix_tup (pv 2) (pe_int) (fun _ _ => rfl)) (pe_non) (nomark _)) (pss_cons (ps_if (pt_cmpR op_eq (pe_ix ix_tup (pv 2) (pe_int) (fun _ _ => rfl)) (pe_str) (nomark _)) (pss_one (ps_raiseE rfl tk (pmk_badText rfl T5 hr (pa_cons (pe_ix ix_tup (pv 2) pe_int (fun _ _ => rfl)) pa_nil)))) pss_nil)
      (pss_cons (ps_expr (pe_bm PySem.F.plainAttrs_list PySem.F.slot_list_append PySem.F.type_list_append mt_append (pv 1) (pa_cons (pv 2) pa_nil)))
      (pss_one (ps_set (i := 2) scLexemes.nd rfl (Or.inl rfl) (C8.pe_c cL hr (by decide) (by rfl) (pa_cons (pv 0) (pa_cons (pe_op op_add (pe_ix ix_tup (pv 2) (pe_int) (fun _ _ => rfl)) (pe_callB call_len_str (by rfl) T.len PySem.boot_len (pa_cons (pe_ix ix_tup (pv 2) (pe_int) (fun _ _ => rfl)) pa_nil))) pa_nil))))))))
      (pss_one (ps_ret (pv 1)))), ?_⟩
    -- found, one = [], lexeme_at(text, 0)
    refine ⟨by decide, fun fa hfa => ?_⟩
    refine ⟨_, rfl, l, 0, rfl, hl, Nat.zero_le _, fun a0 H1 ha0 x1 h1 => ⟨_, _, rfl, ?_⟩⟩
    obtain ⟨r0, hr0⟩ := tkAt_ne l 0
    have hlen0 := tkAt_len l 0
    rw [hr0] at hlen0
    refine ⟨fun m σ' H' => ∃ (as : List Addr) (done : List Lex) (t : Lex) (r : List Lex) (p : Nat) (a : Addr), σ' = [some (.str (S l)), some (.ref fa), some (.ref a)] ∧ Ex H H' ∧ H' fa = some (.lst (as.map V.ref)) ∧ Tups H' as done ∧ H' a = some (.tup (encP t)) ∧ p ≤ l.length ∧
      tkAt l p = t :: r ∧ told done (t :: r) = told [] (tkAt l 0) ∧ done.length + (t :: r).length ≤ l.length + 1 ∧ m = r.length, ⟨_, [], [], _, r0, 0, a0, rfl, (Ex.new hfa).trans x1, x1 _ _ upd_same, .nil, h1, Nat.zero_le _, hr0, by rw [hr0], by simpa using hlen0, rfl⟩, ?_⟩
    rintro m σ' H' ⟨as, done, t, r, p, a, rfl, x, hf, ht, ha, hp, htk, htold, hlen, rfl⟩
    have t0 : atI (encP t) (0 : Int) = some (kindP t) := atI_nat (j := 0) rfl
    have t1 : atI (encP t) (1 : Int) = some (.str (S t.tx)) := atI_nat (j := 1) rfl
    have t2 : atI (encP t) (2 : Int) = some (.int (t.pl : Int)) := atI_nat (j := 2) rfl
    have hlas : as.length = done.length := Paired.length ht
    -- while one[0] is not None
    refine ⟨_, rfl, _, _, _, _, rfl, rfl, SqT.of ha, t0, rfl, _, rfl, ?_⟩
    refine iteB (c := !decide (t.kd = .fin)) (congrArg Bool.not (kind_none _)) (fun hk => ?_) (fun hk => ?_)
    rotate_left
    · -- return found
      have e := told_fin (acc := done) (r := r) (not_dec' hk)
      rw [htold] at e
      rw [e] at q
      exact ⟨_, rfl, q fa as H' hfa x hf ht⟩
    have hnf := not_dec hk
    refine ⟨_, fun _ _ z => z, ?_⟩
    -- if one[0] == 'none'
    refine ⟨_, rfl, _, _, _, _, rfl, rfl, SqT.of ha, t0, kind_scal _ _, _, rfl, ?_⟩
    refine iteB (c := decide (t.kd = .bad)) (kind_bad _) (fun hb => ?_) (fun hb => ?_)
    · have e := told_bad (acc := done) (r := r) (of_decide_eq_true hb)
      rw [htold] at e
      rw [e] at q
      refine ⟨_, rfl, _, _, _, _, rfl, rfl, SqT.of ha, t2, _, rfl, True.intro, fun d hd => ?_⟩
      exact q d _ (fresh_back x hd) (x.trans (Ex.new hd)) upd_same
    have hnb := of_decide_eq_false hb
    obtain ⟨hnx, u, r', hr', htk', hu⟩ := tk_next hp htk (live_of hnf hnb)
    -- found.append(one)
    have haf : a ≠ fa := ne_of ha hf (by intro z; cases z)
    refine ⟨_, rfl, .inl ⟨rfl, _, SqL.of hf⟩, _, rfl, _, _, _, rfl, rfl, hf, ?_, ?_⟩
    · rw [List.length_map]
      refine sz_lt ?_
      rw [List.length_cons] at hlen
      omega
    -- one = lexeme_at(..)
    have ha2 : upd H' fa (.lst (as.map V.ref ++ [.ref a])) a = some (.tup (encP t)) := by rw [upd_ne haf]; exact ha
    refine ⟨_, rfl, _, rfl, _, _, _, _, rfl, rfl, SqT.of ha2, t2, _, rfl, _, _, _, _, rfl, rfl, SqT.of ha2, t1, _, rfl, ?_, _, _, rfl, rfl, l, t.nx, ?_, hl, hnx, fun a2 H3 hn2 x3 h3 => ?_⟩
    · refine S_size ?_
      unfold Lex.nx at hnx
      omega
    · rw [S_len]
      rfl
    have hfaH : H fa = none := hfa
    have x4 : Ex H (upd H' fa (.lst (as.map V.ref ++ [.ref a]))) := x.mut hfaH
    refine ⟨r'.length, by rw [hr']; exact Nat.lt_succ_self _, as ++ [a], done ++ [t], u, r', t.nx, a2, rfl, x4.trans x3, ?_, ?_, by rw [hu]; exact h3, hnx, htk', ?_, ?_, rfl⟩
    · rw [x3 _ _ upd_same, List.map_append]
      rfl
    · refine Paired.snoc (Tups.ex ?_ x3) (x3 _ _ ha2)
      exact Paired.mapQ ht fun c s e => by rw [upd_ne (ne_of e hf (by intro z; cases z))]; exact e
    · rw [← htold, hr', told_go hnf hnb]
    · rw [hr'] at hlen
      rw [List.length_append]
      simp only [List.length_cons, List.length_nil] at hlen ⊢
      omega
end
end Kin
namespace Kin
open PySem L2 SX Evl
section
variable {P : Program} {w : World} {K : PySem.W.Frag} {mg : Str → Option Value} {base : Heap}
theorem scDue : FnScope ["_law_text", "_law_found", "_law_lexeme_here", "_law_sort"] ["_law_text"] (C8.fnScope sDue) := C8.fnScope_by (by decide +kernel)
theorem ok_due {f : Addr} {fd : FuncData} (T : Glob mg) (F : C8.Def K mg "_law_lexemes_due" sDue f fd) (b : Binds K fd ["_law_text"] []) (cL : C8.Cal P w K mg base 2 "_law_lexeme" spLLex []) : C8.Cal P w K mg base 3 "_law_lexemes_due" spDue [] := by
  refine C8.cal0 F b .nil scDue (fun vs H Q E h => ?_) (fun cdv A outer s H vs Q E hr h => ?_)
  · obtain ⟨l, rfl, _⟩ := h
    rfl
  · obtain ⟨l, rfl, hl, q⟩ := h
    have hu := hu_of hr
    refine ⟨_, pss_cons (ps_par (i := 1) (j := 2) (by rfl) scDue.nd rfl rfl (by decide) rfl rfl (pa_cons (pe_lst pa_nil) (pa_cons (C8.pe_c cL hr (by decide) (by rfl) (pa_cons (pv 0) (pa_cons (pe_int) pa_nil))) pa_nil)) (by rfl))
      (pss_cons (ps_while PassesOwn.never (pt_cmpR op_ne (pe_ix ix_list (pv 2) (pe_int) (fun _ _ => rfl)) (pe_str) (nomark _)) (pss_cons (ps_if (pt_cmpR op_eq (pe_ix ix_list (pv 2) (pe_int) (fun _ _ => rfl)) (pe_str) (nomark _)) (pss_one (ps_ret (pe_lst (pa_cons (pe_str) (pa_cons (pe_ix ix_list (pv 2) (pe_int) (fun _ _ => rfl)) pa_nil))))) pss_nil)
      (pss_cons (ps_set (i := 3) scDue.nd rfl (Or.inl rfl) (pe_dget2 hu (pe_disp (pps_cons (pe_str) (pe_str) (pps_cons (pe_str) (pe_str) pps_nil)) (by rfl) (by rfl) (fun z => by cases z) (by decide)) (pe_ix ix_list (pv 2) (pe_int) (fun _ _ => rfl)) (pe_str) ⟨by rfl, by rfl, by rfl, by rfl⟩))
      (pss_cons (ps_expr (pe_bm PySem.F.plainAttrs_list PySem.F.slot_list_append PySem.F.type_list_append mt_append (pv 1) (pa_cons (pe_tup (pa_cons (pv 3) (pa_cons (pe_ix ix_list (pv 2) (pe_int) (fun _ _ => rfl)) (pa_cons (pe_ix ix_list (pv 2) (pe_int) (fun _ _ => rfl)) pa_nil)))) pa_nil)))
      (pss_one (ps_set (i := 2) scDue.nd rfl (Or.inl rfl) (C8.pe_c cL hr (by decide) (by rfl) (pa_cons (pv 0) (pa_cons (pe_op op_add (pe_ix ix_list (pv 2) (pe_int) (fun _ _ => rfl)) (pe_callB call_len_str (by rfl) T.len PySem.boot_len (pa_cons (pe_ix ix_list (pv 2) (pe_int) (fun _ _ => rfl)) pa_nil))) pa_nil)))))))))
      (pss_one (ps_ret (pe_lst (pa_cons (pe_str) (pa_cons (pv 1) pa_nil)))))), ?_⟩
    refine ⟨by decide, fun fa hfa => ?_⟩
    refine ⟨_, rfl, l, 0, rfl, hl, Nat.zero_le _, fun a0 H1 ha0 x1 h1 => ⟨_, _, rfl, ?_⟩⟩
    obtain ⟨r0, hr0⟩ := tkAt_ne l 0
    have hlen0 := tkAt_len l 0
    rw [hr0] at hlen0
    refine ⟨fun m σ' H' => ∃ (as : List Addr) (done : List Lex) (t : Lex) (r : List Lex) (p : Nat) (a : Addr) (so : Option V), σ' = [some (.str (S l)), some (.ref fa), some (.ref a), so] ∧ Ex H H' ∧ H' fa = some (.lst (as.map V.ref)) ∧ Tups H' as done ∧ H' a = some (.lst (encL t)) ∧ a ≠ fa ∧ p ≤ l.length ∧
      Wf t ∧ tkAt l p = t :: r ∧ told done (t :: r) = told [] (tkAt l 0) ∧ done.length + (t :: r).length ≤ l.length + 1 ∧ m = r.length,
      ⟨_, [], [], _, r0, 0, a0, none, rfl, (Ex.new hfa).trans x1, x1 _ _ upd_same, .nil, h1, (fun z => by rw [z, upd_same] at ha0; cases ha0), Nat.zero_le _, lexS_wf _ _, hr0, by rw [hr0], by simpa using hlen0, rfl⟩, ?_⟩
    rintro m σ' H' ⟨as, done, t, r, p, a, so, rfl, x, hf, ht, ha, haf, hp, hw, htk, htold, hlen, rfl⟩
    have hlas : as.length = done.length := Paired.length ht
    -- while lex[0] != 'END'
    refine ⟨_, rfl, _, _, _, _, rfl, rfl, SqL.of ha, atL0 t, rfl, _, rfl, ?_⟩
    refine iteB (c := !decide (t.kd = .fin)) (congrArg Bool.not (by rw [lit_END, dec_str, sort_end hw])) (fun hk => ?_) (fun hk => ?_)
    rotate_left
    · have e := told_fin (acc := done) (r := r) (not_dec' hk)
      rw [htold] at e
      rw [e] at q
      refine ⟨_, rfl, (by show 2 ≤ sizeLine; decide), fun b hb => ?_⟩
      have hbf : fa ≠ b := ne_of_none hf hb
      exact q b fa as _ (fresh_back x hb) (x.trans (Ex.new hb)) upd_same (by rw [upd_ne hbf]; exact hf) (ht.ex (Ex.new hb))
    have hnf := not_dec hk
    refine ⟨_, fun _ _ z => z, ?_⟩
    -- if lex[0] == 'none'
    refine ⟨_, rfl, _, _, _, _, rfl, rfl, SqL.of ha, atL0 t, rfl, _, rfl, ?_⟩
    refine iteB (c := decide (t.kd = .bad)) (by rw [lit_none, dec_str, sort_none hw]) (fun hb => ?_) (fun hb => ?_)
    · have e := told_bad (acc := done) (r := r) (of_decide_eq_true hb)
      rw [htold] at e
      rw [e] at q
      refine ⟨_, rfl, _, _, _, _, rfl, rfl, SqL.of ha, atL2 t, (by show 2 ≤ sizeLine; decide), fun c hc => ?_⟩
      exact q c _ (fresh_back x hc) (x.trans (Ex.new hc)) upd_same
    have hnb := of_decide_eq_false hb
    obtain ⟨hnx, u, r', hr', htk', hu'⟩ := tk_next hp htk (live_of hnf hnb)
    -- sort = {..}.get(..)
    refine fun dp hdp => ⟨upd_same, sortD, rfl, by decide, _, rfl, .inl ⟨_, .inl upd_same⟩, ?_⟩
    rw [upd_upd]
    have xd : Ex H' (upd H' dp (.dK (mergeK [] sortD))) := Ex.new hdp
    have ha1 := xd _ _ ha
    have hf1 := xd _ _ hf
    refine ⟨_, rfl, _, _, _, _, rfl, rfl, SqL.of ha1, atL0 t, _, DGet.k (k := Sum.inr (S (sortL t))) upd_same, ?_⟩
    rw [sortD_get hw hnf hnb]
    generalize upd H' dp (.dK (mergeK [] sortD)) = H2 at xd ha1 hf1 ⊢
    -- found.append((..))
    refine ⟨_, rfl, .inl ⟨rfl, _, SqL.of hf1⟩, ?_⟩
    refine ⟨_, rfl, _, rfl, _, _, _, _, rfl, rfl, SqL.of ha1, atL1 t, _, rfl, _, _, _, _, rfl, rfl, SqL.of ha1, atL2 t, (by show 3 ≤ sizeLine; decide), fun tp htp => ?_⟩
    have xt : Ex H2 (upd H2 tp (.tup [kindP t, .str (S t.tx), .int (t.pl : Int)])) := Ex.new htp
    have hf2 := xt _ _ hf1
    have ha2 := xt _ _ ha1
    have htp2 : upd H2 tp (.tup [kindP t, .str (S t.tx), .int (t.pl : Int)]) tp = some (.tup (encP t)) := upd_same
    generalize upd H2 tp (.tup [kindP t, .str (S t.tx), .int (t.pl : Int)]) = H3 at xt hf2 ha2 htp2 ⊢
    refine ⟨_, _, _, rfl, rfl, hf2, ?_, ?_⟩
    · rw [List.length_map]
      refine sz_lt ?_
      rw [List.length_cons] at hlen
      omega
    have ht3 : Tups H3 as done := ht.ex (xd.trans xt)
    have ht4 : Tups (upd H3 fa (.lst (as.map V.ref ++ [.ref tp]))) as done := ht3.upd hf2 (by intro xs z; cases z)
    have hfaH : H fa = none := hfa
    have x4 : Ex H (upd H3 fa (.lst (as.map V.ref ++ [.ref tp]))) := ((x.trans xd).trans xt).mut hfaH
    have ha4 : upd H3 fa (.lst (as.map V.ref ++ [.ref tp])) a = some (.lst (encL t)) := by rw [upd_ne haf]; exact ha2
    have htp4 : upd H3 fa (.lst (as.map V.ref ++ [.ref tp])) tp = some (.tup (encP t)) := by rw [upd_ne (ne_of htp2 hf2 (by intro z; cases z))]; exact htp2
    have hf4 : upd H3 fa (.lst (as.map V.ref ++ [.ref tp])) fa = some (.lst (as.map V.ref ++ [.ref tp])) := upd_same
    generalize upd H3 fa (.lst (as.map V.ref ++ [.ref tp])) = H4 at ht4 x4 ha4 htp4 hf4 ⊢
    -- lex = _law_lexeme(..)
    refine ⟨_, rfl, _, rfl, _, _, _, _, rfl, rfl, SqL.of ha4, atL2 t, _, rfl, _, _, _, _, rfl, rfl, SqL.of ha4, atL1 t, _, rfl, ?_, _, _, rfl, rfl, l, t.nx, ?_, hl, hnx, fun a2 H5 hn2 x5 h5 => ?_⟩
    · refine S_size ?_
      unfold Lex.nx at hnx
      omega
    · rw [S_len]
      rfl
    refine ⟨r'.length, by rw [hr']; exact Nat.lt_succ_self _, as ++ [tp], done ++ [t], u, r', t.nx, a2, _, rfl, x4.trans x5, ?_, ?_, by rw [hu']; exact h5, ?_, hnx, by rw [hu']; exact lexS_wf _ _, htk', ?_, ?_, rfl⟩
    · rw [x5 _ _ hf4, List.map_append]
      rfl
    · exact Paired.snoc (ht4.ex x5) (x5 _ _ htp4)
    · exact fun z => by rw [z, hf4] at hn2; cases hn2
    · rw [← htold, hr', told_go hnf hnb]
    · rw [hr'] at hlen
      rw [List.length_append]
      simp only [List.length_cons, List.length_nil] at hlen ⊢
      omega
end
end Kin
namespace Kin
open PySem L2 SX Evl
/-- all but the object at x stands as it did -/
def ExB (x : Addr) (H H' : Hp) : Prop := ∀ b o, b ≠ x → H b = some o → H' b = some o
theorem ExB.of {x : Addr} {H H' : Hp} (e : Ex H H') : ExB x H H' := fun b o _ h => e b o h
theorem ExB.refl (x : Addr) (H : Hp) : ExB x H H := fun _ _ _ h => h
theorem ExB.trans {x : Addr} {H H1 H2 : Hp} (a : ExB x H H1) (b : ExB x H1 H2) : ExB x H H2 := fun c o n h => b c o n (a c o n h)
theorem ExB.put (x : Addr) (H : Hp) (o : HO) : ExB x H (upd H x o) := fun b u n h => by rw [upd_ne n]; exact h
/-- the fields of a Lexer -/
def lfs (z : Str) (a : Addr) : List (Str × V) := putF "now" (.ref a) (putF "text" (.str z) [])
theorem nt : ¬ (("text" : Str) = "now") := by decide +kernel
theorem lfs_eq (z : Str) (a : Addr) : lfs z a = ([("text", V.str z), ("now", V.ref a)] : List (Str × V)) := by
  show (if ("text" : Str) = "now" then [(("text" : Str), V.ref a)] else (("text" : Str), V.str z) :: putF "now" (V.ref a) []) = ([("text", V.str z), ("now", V.ref a)] : List (Str × V))
  rw [if_neg nt]
  all_goals rfl
theorem lfs_text (z : Str) (a : Addr) : (lfs z a).lookup ("text" : Str) = some (.str z) := by
  unfold lfs
  rw [lookup_putF, if_neg nt, lookup_putF, if_pos rfl]
theorem lfs_now (z : Str) (a : Addr) : (lfs z a).lookup ("now" : Str) = some (.ref a) := by
  unfold lfs
  rw [lookup_putF, if_pos rfl]
theorem lfs_no (z : Str) (a : Addr) {m : Str} (h1 : ¬ m = "now") (h2 : ¬ m = "text") : (lfs z a).lookup m = none := by
  unfold lfs
  rw [lookup_putF, if_neg h1, lookup_putF, if_neg h2]
  all_goals rfl
theorem lfs_put (z : Str) (a b : Addr) : putF "now" (.ref b) (lfs z a) = lfs z b := by
  rw [lfs_eq, lfs_eq]
  show (if ("text" : Str) = "now" then (("text" : Str), V.ref b) :: [(("now" : Str), V.ref a)] else (("text" : Str), V.str z) :: (if ("now" : Str) = "now" then [(("now" : Str), V.ref b)] else (("now" : Str), V.ref a) :: putF "now" (V.ref b) [])) = ([("text", V.str z), ("now", V.ref b)] : List (Str × V))
  rw [if_neg nt, if_pos rfl]
/-- a Lexer of the text l that stands ahead of the lexemes ts -/
structure LxAt (C : Addr) (H : Hp) (x : Addr) (l : L) (ts : List Lex) : Prop where
  small : l.length ≤ 50000
  ex : ∃ (dx a : Addr) (t : Lex) (r : List Lex) (p : Nat), H x = some (.ins C dx (lfs (S l) a)) ∧ H a = some (.tup (encP t)) ∧ ts = t :: r ∧ p ≤ l.length ∧ tkAt l p = ts
theorem LxAt.keep {C : Addr} {H H' : Hp} {x : Addr} {l : L} {ts : List Lex} (h : LxAt C H x l ts) (e : Ex H H') : LxAt C H' x l ts := by
  obtain ⟨dx, a, t, r, p, h1, h2, h3⟩ := h.ex
  exact ⟨h.small, dx, a, t, r, p, e _ _ h1, e _ _ h2, h3⟩
structure LexerT (K : PySem.W.Frag) (mg : Str → Option Value) (C : Addr) : Prop where
  cl : Cls K C
  nT : NoAttr K C "text"
  nN : NoAttr K C "now"
  mgC : mg "Lexer" = some (.ref C)
/-- BadText with a place; the object at x may have changed -/
def RaisesX (C x : Addr) (H : Hp) (E : XK) (p : Nat) : Prop := ∀ d H', H d = none → ExB x H H' → H' d = some (.xd [("place", .int (p : Int))]) → E (.ref C) (some d) H'
theorem RaisesX.keep {C x : Addr} {H H1 : Hp} {E : XK} {p : Nat} (h : RaisesX C x H E p) (hx : H x ≠ none) (e : ExB x H H1) (hx1 : H1 x ≠ none) : RaisesX C x H1 E p := fun d H' hd e' h' => h d H' (by
  cases q : H d with
  | none => rfl
  | some o =>
    have n : d ≠ x := fun z => by rw [z] at hd; exact hx1 hd
    rw [e d o n q] at hd
    cases hd) (e.trans e') h'
def spXInit (C : Addr) : Sp := fun vs H Q _ => ∃ (x dx : Addr) (l : L), vs = [.ref x, .str (S l)] ∧ H x = some (.ins C dx []) ∧ l.length ≤ 50000 ∧ ∀ H', ExB x H H' → LxAt C H' x l (tkAt l 0) → Q .non H'
def spIsNext (C : Addr) : Sp := fun vs H Q _ => ∃ (x : Addr) (l wd : L) (t : Lex) (r : List Lex), vs = [.ref x, .str (S wd)] ∧ LxAt C H x l (t :: r) ∧ Q (.bl (decide (t.tx = wd))) H
def spGo (C : Addr) : Sp := fun vs H Q _ => ∃ (x : Addr) (l : L) (t : Lex) (r : List Lex), vs = [.ref x] ∧ LxAt C H x l (t :: r) ∧ t.live = true ∧ ∀ H', ExB x H H' → LxAt C H' x l r → Q (.str (S t.tx)) H'
def spTake (B C : Addr) : Sp := fun vs H Q E => ∃ (x : Addr) (l wd : L) (ts : List Lex), vs = [.ref x, .str (S wd)] ∧ wd ≠ [] ∧ LxAt C H x l ts ∧ match pTake wd ts with
  | .inl e => RaisesX B x H E e
  | .inr (_, r) => ∀ H', ExB x H H' → LxAt C H' x l r → Q .non H'
def spWord (B C : Addr) : Sp := fun vs H Q E => ∃ (x : Addr) (l : L) (ts : List Lex), vs = [.ref x] ∧ LxAt C H x l ts ∧ match pWord ts with
  | .inl e => RaisesX B x H E e
  | .inr (wd, r) => ∀ H', ExB x H H' → LxAt C H' x l r → Q (.str (S wd)) H'
def spFinish (B C : Addr) : Sp := fun vs H Q E => ∃ (x : Addr) (l : L) (ts : List Lex), vs = [.ref x] ∧ LxAt C H x l ts ∧ match pFin ts with
  | .inl e => RaisesX B x H E e
  | .inr _ => Q .non H
section
variable {w : World} {K : PySem.W.Frag} {mg : Str → Option Value} {base : Heap} {C : Addr}
theorem scXInit : FnScope ["self", "text"] ["self", "text"] (C8.fnScope sXInit) := C8.fnScope_by (by decide +kernel)
theorem ok_xInit {f : Addr} {fd : FuncData} (LT : LexerT K mg C) (M : Mk K C f) (F : C8.Fun K "__init__" "Lexer.__init__" sXInit f fd) (b : Binds K fd ["self", "text"] []) (cL : C8.Cal prg w K mg base 2 "lexeme_at" spLexAt []) : C8.Mak prg w K mg base 3 "Lexer" C (spXInit C) [] := by
  refine C8.mak0 M LT.mgC F b .nil scXInit (fun vs H Q E h => ?_) (fun cdv A outer s H vs Q E hr h => ?_)
  · obtain ⟨x, dx, l, rfl, _⟩ := h
    rfl
  · obtain ⟨x, dx, l, rfl, hx, hl, q⟩ := h
    refine ⟨_, pss_cons (ps_fld (pv 0) (pv 1) rfl)
      (pss_one (ps_fld (pv 0) (C8.pe_c cL hr (by decide) (by rfl) (pa_cons (pv 1) (pa_cons (pe_int) pa_nil))) rfl)), ?_⟩
    refine ⟨_, rfl, _, rfl, x, C, dx, [], rfl, hx, LT.cl, LT.nT, (by show 0 < 1000; decide), ?_⟩
    refine ⟨_, rfl, l, 0, rfl, hl, Nat.zero_le _, fun a H1 ha x1 h1 => ?_⟩
    have hx1 := x1 _ _ upd_same
    refine ⟨_, rfl, x, C, dx, _, rfl, hx1, LT.cl, LT.nN, (by show 1 < 1000; decide), ?_⟩
    have hax : a ≠ x := ne_of h1 hx1 (by intro z; cases z)
    obtain ⟨r, hr0⟩ := tkAt_ne l 0
    refine q _ (((ExB.put x H _).trans (ExB.of x1)).trans (ExB.put x H1 _)) ⟨hl, dx, a, _, r, 0, upd_same, by rw [upd_ne hax]; exact h1, hr0, Nat.zero_le _, rfl⟩
theorem scXIsNext : FnScope ["self", "lexeme"] ["self", "lexeme"] (C8.fnScope sXIsNext) := C8.fnScope_by (by decide +kernel)
theorem ok_xIsNext {f : Addr} {fd : FuncData} (LT : LexerT K mg C) (M : Meth K C "is_next" f) (F : C8.Fun K "is_next" "Lexer.is_next" sXIsNext f fd) (b : Binds K fd ["self", "lexeme"] []) : C8.Met prg w K mg base 1 C "is_next" (spIsNext C) [] := by
  refine C8.met0 LT.cl M F b scXIsNext (fun vs H Q E h => ?_) (fun cdv A outer s H vs Q E hr h => ?_)
  · obtain ⟨x, l, wd, t, r, rfl, _⟩ := h
    rfl
  · obtain ⟨x, l, wd, t, r, rfl, hx, q⟩ := h
    obtain ⟨dx, a, t', r', p, h1, h2, h3, hp, htk⟩ := hx.ex
    injection h3 with e1 e2
    subst e1
    refine ⟨_, pss_one (ps_ret (pe_cmpR op_eq (pe_ix ix_tup (pe_fld (pv 0) rfl) (pe_int) (fun _ _ => rfl)) (pv 1) (nomark _))), ?_⟩
    refine ⟨_, rfl, x, C, dx, _, _, rfl, h1, LT.cl, LT.nN, lfs_now _ _, _, _, _, _, rfl, rfl, SqT.of h2, atP1 t, _, rfl, rfl, ?_⟩
    rw [dec_str]
    exact q
theorem scXGo : FnScope ["self", "lexeme"] ["self"] (C8.fnScope sXGo) := C8.fnScope_by (by decide +kernel)
theorem ok_xGo {f : Addr} {fd : FuncData} (T : Glob mg) (LT : LexerT K mg C) (M : Meth K C "go" f) (F : C8.Fun K "go" "Lexer.go" sXGo f fd) (b : Binds K fd ["self"] []) (cL : C8.Cal prg w K mg base 2 "lexeme_at" spLexAt []) : C8.Met prg w K mg base 3 C "go" (spGo C) [] := by
  refine C8.met0 LT.cl M F b scXGo (fun vs H Q E h => ?_) (fun cdv A outer s H vs Q E hr h => ?_)
  · obtain ⟨x, l, t, r, rfl, _⟩ := h
    rfl
  · obtain ⟨x, l, t, r, rfl, hx, hlive, q⟩ := h
    obtain ⟨dx, a, t', r', p, h1, h2, h3, hp, htk⟩ := hx.ex
    injection h3 with e1 e2
    subst e1
    subst e2
    have hl := hx.small
    obtain ⟨hnx, u, r', hr', htk', hu⟩ := tk_next hp htk hlive
    refine ⟨_, pss_cons (ps_set (i := 1) scXGo.nd rfl (Or.inl rfl) (pe_ix ix_tup (pe_fld (pv 0) rfl) (pe_int) (fun _ _ => rfl)))
      (pss_cons (ps_fld (pv 0) (C8.pe_c cL hr (by decide) (by rfl) (pa_cons (pe_fld (pv 0) rfl) (pa_cons (pe_op op_add (pe_ix ix_tup (pe_fld (pv 0) rfl) (pe_int) (fun _ _ => rfl)) (pe_callB call_len_str (by rfl) T.len PySem.boot_len (pa_cons (pv 1) pa_nil))) pa_nil))) rfl)
      (pss_one (ps_ret (pv 1)))), ?_⟩
    refine ⟨_, rfl, x, C, dx, _, _, rfl, h1, LT.cl, LT.nN, lfs_now _ _, _, _, _, _, rfl, rfl, SqT.of h2, atP1 t, ?_⟩
    refine ⟨_, rfl, x, C, dx, _, _, rfl, h1, LT.cl, LT.nT, lfs_text _ _, _, rfl, x, C, dx, _, _, rfl, h1, LT.cl, LT.nN, lfs_now _ _, _, _, _, _, rfl, rfl, SqT.of h2, atP2 t, _, rfl, _, rfl, ?_, _, _, rfl, rfl,
      l, t.nx, ?_, hl, hnx, fun b H1 hb x1 hb1 => ?_⟩
    · refine S_size ?_
      unfold Lex.nx at hnx
      omega
    · rw [S_len]
      rfl
    have hx1 := x1 _ _ h1
    have hbx : b ≠ x := ne_of hb1 hx1 (by intro z; cases z)
    refine ⟨_, rfl, x, C, dx, _, rfl, hx1, LT.cl, LT.nN, (by rw [lfs_eq]; show 2 < 1000; decide), _, rfl, ?_⟩
    rw [lfs_put]
    refine q _ ((ExB.of x1).trans (ExB.put x H1 _)) ⟨hl, dx, b, u, r', t.nx, upd_same, by rw [upd_ne hbx, hu]; exact hb1, hr', hnx, by rw [htk', hr']⟩
theorem scXTake : FnScope ["self", "lexeme"] ["self", "lexeme"] (C8.fnScope sXTake) := C8.fnScope_by (by decide +kernel)
theorem ok_xTake {f B fI cc cda : Addr} {fd : FuncData} (LT : LexerT K mg C) (T5 : ExcT K mg "BadText" "place" B fI cc cda sBadText) (M : Meth K C "take" f) (F : C8.Fun K "take" "Lexer.take" sXTake f fd) (b : Binds K fd ["self", "lexeme"] [])
    (cI : C8.Met prg w K mg base 1 C "is_next" (spIsNext C) []) (cG : C8.Met prg w K mg base 3 C "go" (spGo C) []) : MetX prg w K mg base 4 C "take" (spTake B C) := by
  refine metX0 LT.cl M F b scXTake (fun vs H Q E h => ?_) (fun cdv A outer s H vs Q E hr h => ?_)
  · obtain ⟨x, l, wd, ts, rfl, _⟩ := h
    rfl
  · obtain ⟨x, l, wd, ts, rfl, hwd, hx, q⟩ := h
    obtain ⟨dx, a, t, r, p, h1, h2, h3, hp, htk⟩ := id hx.ex
    subst h3
    have tk := takes_of (X := cxOf (L2.CX prg w) prg w K mg base ["self", "lexeme"] "Lexer.take" (C8.fnScope sXTake) f cdv A outer s H E) (E := E) rfl rfl rfl rfl
    refine ⟨_, pss_cons (ps_if (pt_not (pt_val (C8.pe_mt cI hr (by decide) (pv 0) (pa_cons (pv 1) pa_nil)))) (pss_one (ps_raiseE rfl tk (pmk_badText rfl T5 hr (pa_cons (pe_ix ix_tup (pe_fld (pv 0) rfl) pe_int (fun _ _ => rfl)) pa_nil)))) pss_nil)
      (pss_one (ps_expr (C8.pe_mt0 cG hr (by decide) (pv 0)))), ?_⟩
    refine ⟨_, rfl, x, dx, _, rfl, h1, lfs_no _ _ (by decide +kernel) (by decide +kernel), _, rfl, x, l, wd, t, r, rfl, hx, _, rfl, ?_⟩
    have hq : pTake wd (t :: r) = if t.tx = wd then .inr ((), r) else .inl t.pl := rfl
    rw [hq] at q
    refine iteB (c := !decide (t.tx = wd)) rfl (fun hk => ?_) (fun hk => ?_)
    · rw [if_neg (not_dec hk)] at q
      refine ⟨_, rfl, x, C, dx, _, _, rfl, h1, LT.cl, LT.nN, lfs_now _ _, _, _, _, _, rfl, rfl, SqT.of h2, atP2 t, _, rfl, True.intro, fun d hd => ?_⟩
      exact q d _ hd (ExB.of (Ex.new hd)) upd_same
    · have e := not_dec' hk
      rw [if_pos e] at q
      have hlive : t.live = true := by
        cases z : t.live with
        | true => rfl
        | false =>
          have w0 : Wf t := by
            rw [tkAt_head htk]
            exact lexS_wf _ _
          exact absurd ((w0.dead z).symm.trans e).symm hwd
      refine ⟨_, rfl, x, dx, _, rfl, h1, lfs_no _ _ (by decide +kernel) (by decide +kernel), x, l, t, r, rfl, hx, hlive, fun H1 x1 hx1 => ?_⟩
      exact q H1 x1 hx1
theorem scXWord : FnScope ["self"] ["self"] (C8.fnScope sXWord) := C8.fnScope_by (by decide +kernel)
theorem ok_xWord {f B fI cc cda : Addr} {fd : FuncData} (LT : LexerT K mg C) (T5 : ExcT K mg "BadText" "place" B fI cc cda sBadText) (M : Meth K C "word" f) (F : C8.Fun K "word" "Lexer.word" sXWord f fd) (b : Binds K fd ["self"] [])
    (cG : C8.Met prg w K mg base 3 C "go" (spGo C) []) : MetX prg w K mg base 4 C "word" (spWord B C) := by
  refine metX0 LT.cl M F b scXWord (fun vs H Q E h => ?_) (fun cdv A outer s H vs Q E hr h => ?_)
  · obtain ⟨x, l, ts, rfl, _⟩ := h
    rfl
  · obtain ⟨x, l, ts, rfl, hx, q⟩ := h
    obtain ⟨dx, a, t, r, p, h1, h2, h3, hp, htk⟩ := id hx.ex
    subst h3
    have tk := takes_of (X := cxOf (L2.CX prg w) prg w K mg base ["self"] "Lexer.word" (C8.fnScope sXWord) f cdv A outer s H E) (E := E) rfl rfl rfl rfl
    refine ⟨_, pss_cons (ps_if (pt_cmpR op_ne (pe_ix ix_tup (pe_fld (pv 0) rfl) (pe_int) (fun _ _ => rfl)) (pe_str) (nomark _)) (pss_one (ps_raiseE rfl tk (pmk_badText rfl T5 hr (pa_cons (pe_ix ix_tup (pe_fld (pv 0) rfl) pe_int (fun _ _ => rfl)) pa_nil)))) pss_nil)
      (pss_one (ps_ret (C8.pe_mt0 cG hr (by decide) (pv 0)))), ?_⟩
    refine ⟨_, rfl, x, C, dx, _, _, rfl, h1, LT.cl, LT.nN, lfs_now _ _, _, _, _, _, rfl, rfl, SqT.of h2, atP0 t, kind_scal _ _, _, rfl, ?_⟩
    have hq : pWord (t :: r) = if t.kd = .word then .inr (t.tx, r) else .inl t.pl := rfl
    rw [hq] at q
    refine iteB (c := !decide (t.kd = .word)) (congrArg Bool.not (kind_word _)) (fun hk => ?_) (fun hk => ?_)
    · rw [if_neg (not_dec hk)] at q
      refine ⟨_, rfl, x, C, dx, _, _, rfl, h1, LT.cl, LT.nN, lfs_now _ _, _, _, _, _, rfl, rfl, SqT.of h2, atP2 t, _, rfl, True.intro, fun d hd => ?_⟩
      exact q d _ hd (ExB.of (Ex.new hd)) upd_same
    · have e := not_dec' hk
      rw [if_pos e] at q
      have hlive : t.live = true := live_of (by rw [e]; decide) (by rw [e]; decide)
      refine ⟨_, rfl, x, dx, _, rfl, h1, lfs_no _ _ (by decide +kernel) (by decide +kernel), x, l, t, r, rfl, hx, hlive, fun H1 x1 hx1 => ?_⟩
      exact q H1 x1 hx1
theorem scXFinish : FnScope ["self"] ["self"] (C8.fnScope sXFinish) := C8.fnScope_by (by decide +kernel)
theorem ok_xFinish {f B fI cc cda : Addr} {fd : FuncData} (LT : LexerT K mg C) (T5 : ExcT K mg "BadText" "place" B fI cc cda sBadText) (M : Meth K C "finish" f) (F : C8.Fun K "finish" "Lexer.finish" sXFinish f fd) (b : Binds K fd ["self"] []) :
    MetX prg w K mg base 1 C "finish" (spFinish B C) := by
  refine metX0 LT.cl M F b scXFinish (fun vs H Q E h => ?_) (fun cdv A outer s H vs Q E hr h => ?_)
  · obtain ⟨x, l, ts, rfl, _⟩ := h
    rfl
  · obtain ⟨x, l, ts, rfl, hx, q⟩ := h
    obtain ⟨dx, a, t, r, p, h1, h2, h3, hp, htk⟩ := id hx.ex
    subst h3
    have tk := takes_of (X := cxOf (L2.CX prg w) prg w K mg base ["self"] "Lexer.finish" (C8.fnScope sXFinish) f cdv A outer s H E) (E := E) rfl rfl rfl rfl
    refine ⟨_, pss_one (ps_if (pt_cmpR op_notN (pe_ix ix_tup (pe_fld (pv 0) rfl) (pe_int) (fun _ _ => rfl)) (pe_non) (nomark _)) (pss_one (ps_raiseE rfl tk (pmk_badText rfl T5 hr (pa_cons (pe_ix ix_tup (pe_fld (pv 0) rfl) pe_int (fun _ _ => rfl)) pa_nil)))) pss_nil), ?_⟩
    refine ⟨_, rfl, x, C, dx, _, _, rfl, h1, LT.cl, LT.nN, lfs_now _ _, _, _, _, _, rfl, rfl, SqT.of h2, atP0 t, rfl, _, rfl, ?_⟩
    have hq : pFin (t :: r) = if t.kd = .fin then .inr ((), r) else .inl t.pl := rfl
    rw [hq] at q
    refine iteB (c := !decide (t.kd = .fin)) (congrArg Bool.not (kind_none _)) (fun hk => ?_) (fun hk => ?_)
    · rw [if_neg (not_dec hk)] at q
      refine ⟨_, rfl, x, C, dx, _, _, rfl, h1, LT.cl, LT.nN, lfs_now _ _, _, _, _, _, rfl, rfl, SqT.of h2, atP2 t, _, rfl, True.intro, fun d hd => ?_⟩
      exact q d _ hd (ExB.of (Ex.new hd)) upd_same
    · rw [if_pos (not_dec' hk)] at q
      exact q
end
end Kin
namespace Kin
open PySem L2 SX Evl
theorem lit_lp : ("(" : Str) = S [40] := by decide +kernel
theorem lit_rp : (")" : Str) = S [41] := by decide +kernel
theorem lit_lb : ("{" : Str) = S [123] := by decide +kernel
theorem lit_rb : ("}" : Str) = S [125] := by decide +kernel
theorem lit_cm : ("," : Str) = S [44] := by decide +kernel
theorem lit_sc : (";" : Str) = S [59] := by decide +kernel
theorem lit_tab : ("table" : Str) = S cTab := by decide +kernel
theorem LxAt.some {C : Addr} {H : Hp} {x : Addr} {l : L} {ts : List Lex} (h : LxAt C H x l ts) : H x ≠ none := by
  obtain ⟨dx, a, t, r, p, h1, _⟩ := h.ex
  rw [h1]
  intro z
  cases z
theorem LxAt.len {C : Addr} {H : Hp} {x : Addr} {l : L} {ts : List Lex} (h : LxAt C H x l ts) : ts.length ≤ l.length + 1 := by
  obtain ⟨dx, a, t, r, p, _, _, _, _, htk⟩ := h.ex
  rw [← htk]
  exact tkAt_len l p
theorem LxAt.wf {C : Addr} {H : Hp} {x : Addr} {l : L} {ts : List Lex} (h : LxAt C H x l ts) : ∀ t ∈ ts, Wf t := by
  obtain ⟨dx, a, t, r, p, _, _, _, _, htk⟩ := h.ex
  rw [← htk]
  exact tkAt_wf l p
/-- the words as values -/
abbrev wV (ws : List L) : List V := ws.map fun x => V.str (S x)
theorem wV_snoc (ws : List L) (a : L) : wV (ws ++ [a]) = wV ws ++ [V.str (S a)] := by simp
def spReadListed (B C : Addr) : Sp := fun vs H Q E => ∃ (x : Addr) (l : L) (ts : List Lex), vs = [.ref x] ∧ LxAt C H x l ts ∧ match pList ts with
  | .inl e => RaisesX B x H E e
  | .inr (ws, r) => ∀ a H', H a = none → ExB x H H' → H' a = some (.lst (wV ws)) → LxAt C H' x l r → Q (.ref a) H'
def spReadFit (B C : Addr) : Sp := fun vs H Q E => ∃ (x : Addr) (l : L) (ts : List Lex), vs = [.ref x] ∧ LxAt C H x l ts ∧ match bnd (pWord ts) (fun a t1 => bnd (pWord t1) fun b t2 => .inr ((a, b), t2)) with
  | .inl e => RaisesX B x H E e
  | .inr ((a, b), r) => ∀ p H', H p = none → ExB x H H' → H' p = some (.tup [.str (S a), .str (S b)]) → LxAt C H' x l r → Q (.ref p) H'
/-- fresh ahead is fresh before -/
theorem ExB.back {x : Addr} {H H' : Hp} {p : Addr} (e : ExB x H H') (hx : H' x ≠ none) (h : H' p = none) : H p = none := by
  cases q : H p with
  | none => rfl
  | some o =>
    have n : p ≠ x := fun z => by rw [z] at h; exact hx h
    rw [e p o n q] at h
    cases h
section
variable {w : World} {K : PySem.W.Frag} {mg : Str → Option Value} {base : Heap} {B C : Addr}
theorem scReadListed : FnScope ["lexer", "found"] ["lexer"] (C8.fnScope sReadListed) := C8.fnScope_by (by decide +kernel)
theorem ok_readListed {f : Addr} {fd : FuncData} (F : C8.Def K mg "read_listed" sReadListed f fd) (b : Binds K fd ["lexer"] []) (cI : C8.Met prg w K mg base 1 C "is_next" (spIsNext C) []) (cG : C8.Met prg w K mg base 3 C "go" (spGo C) [])
    (cT : MetX prg w K mg base 4 C "take" (spTake B C)) (cW : MetX prg w K mg base 4 C "word" (spWord B C)) : CalX prg w K mg base 5 "read_listed" (spReadListed B C) := by
  refine calX0 F b scReadListed (fun vs H Q E h => ?_) (fun cdv A outer s H vs Q E hr h => ?_)
  · obtain ⟨x, l, ts, rfl, _⟩ := h
    rfl
  · obtain ⟨x, l, ts, rfl, h0, q⟩ := h
    have tk := takes_of (X := cxOf (L2.CX prg w) prg w K mg base ["lexer", "found"] "read_listed" (C8.fnScope sReadListed) f cdv A outer s H E) (E := E) rfl rfl rfl rfl
    have hx : Passes (L2.CX prg w) (cxOf (L2.CX prg w) prg w K mg base ["lexer", "found"] "read_listed" (C8.fnScope sReadListed) f cdv A outer s H E) E := passes_call tk fun _ _ _ _ h => h
    have no1 : ∀ {z : Str} {a : Addr}, (lfs z a).lookup ("take" : Str) = none := fun {z a} => lfs_no z a (by decide +kernel) (by decide +kernel)
    have no2 : ∀ {z : Str} {a : Addr}, (lfs z a).lookup ("is_next" : Str) = none := fun {z a} => lfs_no z a (by decide +kernel) (by decide +kernel)
    have no3 : ∀ {z : Str} {a : Addr}, (lfs z a).lookup ("word" : Str) = none := fun {z a} => lfs_no z a (by decide +kernel) (by decide +kernel)
    have no4 : ∀ {z : Str} {a : Addr}, (lfs z a).lookup ("go" : Str) = none := fun {z a} => lfs_no z a (by decide +kernel) (by decide +kernel)
    refine ⟨_, pss_cons (ps_expr (pe_mx cT hx hr (by decide) (pv 0) (pa_cons (pe_str) pa_nil)))
      (pss_cons (ps_set (i := 1) scReadListed.nd rfl (Or.inl rfl) (pe_lst pa_nil))
      (pss_cons (ps_if (pt_not (pt_val (C8.pe_mt cI hr (by decide) (pv 0) (pa_cons (pe_str) pa_nil)))) (pss_cons (ps_expr (pe_bm PySem.F.plainAttrs_list PySem.F.slot_list_append PySem.F.type_list_append mt_append (pv 1) (pa_cons (pe_mx0 cW hx hr (by decide) (pv 0)) pa_nil)))
      (pss_one (ps_while (passes_of rfl) (pt_val (C8.pe_mt cI hr (by decide) (pv 0) (pa_cons (pe_str) pa_nil))) (pss_cons (ps_expr (C8.pe_mt0 cG hr (by decide) (pv 0)))
      (pss_one (ps_expr (pe_bm PySem.F.plainAttrs_list PySem.F.slot_list_append PySem.F.type_list_append mt_append (pv 1) (pa_cons (pe_mx0 cW hx hr (by decide) (pv 0)) pa_nil)))))))) pss_nil)
      (pss_cons (ps_expr (pe_mx cT hx hr (by decide) (pv 0) (pa_cons (pe_str) pa_nil)))
      (pss_one (ps_ret (pv 1)))))), ?_⟩
    have s0 := h0.some
    have len0 := h0.len
    have sm := h0.small
    have hP : pList ts = bnd (pTake [40] ts) fun _ t1 => bnd (pWords t1) fun ws t2 => bnd (pTake [41] t2) fun _ t3 => .inr (ws, t3) := rfl
    rw [hP] at q
    -- lexer.take('(')
    obtain ⟨dx, a, t, r, p, hob, _⟩ := id h0.ex
    refine ⟨_, rfl, x, dx, _, rfl, hob, no1, x, l, [40], ts, (by rw [lit_lp]; rfl), by decide, h0, ?_⟩
    cases e1 : pTake [40] ts with
    | inl e =>
      rw [e1] at q
      exact q
    | inr p1 =>
      obtain ⟨u1, t1⟩ := p1
      rw [e1] at q
      obtain ⟨tt1, ets, _⟩ := pTake_ok e1
      refine fun H1 x1 h1 => ?_
      rw [bnd_inr] at q
      -- found = []
      refine ⟨by decide, fun fa hfa1 => ?_⟩
      have hfa := x1.back h1.some hfa1
      have hfx : fa ≠ x := fun z => by rw [z] at hfa; exact s0 hfa
      have h2 : LxAt C (upd H1 fa (.lst [])) x l t1 := h1.keep (Ex.new hfa1)
      have x2 : ExB x H (upd H1 fa (.lst [])) := x1.trans (ExB.of (Ex.new hfa1))
      have hf2 : upd H1 fa (.lst []) fa = some (.lst (wV [])) := upd_same
      generalize upd H1 fa (.lst []) = H2 at h2 x2 hf2 ⊢
      -- the end: lexer.take(')'), return found
      have fin : ∀ (ws : List L) (t2 : List Lex) (σ : L2.St) (H' : Hp), pWords t1 = .inr (ws, t2) → σ = [some (.ref x), some (.ref fa)] → ExB x H H' → H' fa = some (.lst (wV ws)) → LxAt C H' x l t2 →
          (tSeq (tDrop (tMeth C "take" (spTake B C) [] E (tVar 0) (tCons (tC (.str ")")) tNil))) (tRet (tVar 1))) { nx := fun _ H' => Q .non H', rt := Q } σ H' := by
        rintro ws t2 σ H' ew rfl x3 hf3 h3
        rw [ew, bnd_inr] at q
        obtain ⟨dx, a, t, r, p, hob, _⟩ := id h3.ex
        refine ⟨_, rfl, x, dx, _, rfl, hob, no1, x, l, [41], t2, (by rw [lit_rp]; rfl), by decide, h3, ?_⟩
        cases e3 : pTake [41] t2 with
        | inl e =>
          rw [e3] at q
          exact RaisesX.keep q s0 x3 h3.some
        | inr p3 =>
          obtain ⟨u3, t3⟩ := p3
          rw [e3] at q
          refine fun H4 x4 h4 => ?_
          refine ⟨_, rfl, q fa H4 hfa (x3.trans x4) ?_ h4⟩
          exact x4 fa _ hfx hf3
      -- if not lexer.is_next(')')
      obtain ⟨dx, a, t, r, p, hob, _, er, hp, htk⟩ := id h2.ex
      subst er
      refine ⟨_, rfl, x, dx, _, rfl, hob, no2, x, l, [41], t, r, (by rw [lit_rp]; rfl), h2, _, rfl, ?_⟩
      have hW : pWords (t :: r) = if t.tx = [41] then .inr ([], t :: r) else if t.kd = .word then pMore [t.tx] r else .inl t.pl := rfl
      refine iteB (c := !decide (t.tx = [41])) rfl (fun hk => ?_) (fun hk => ?_)
      rotate_left
      · exact fin [] (t :: r) _ _ (by rw [hW, if_pos (not_dec' hk)]) rfl x2 hf2 h2
      rw [if_neg (not_dec hk)] at hW
      -- found.append(lexer.word())
      refine ⟨_, rfl, .inl ⟨rfl, _, SqL.of hf2⟩, _, rfl, x, dx, _, rfl, hob, no3, x, l, t :: r, rfl, h2, ?_⟩
      have hPW : pWord (t :: r) = if t.kd = .word then .inr (t.tx, r) else .inl t.pl := rfl
      rw [hPW]
      by_cases hkd : t.kd = .word
      rotate_left
      · rw [if_neg hkd]
        rw [if_neg hkd] at hW
        rw [hW, bnd_inl] at q
        exact RaisesX.keep q s0 x2 h2.some
      rw [if_pos hkd]
      rw [if_pos hkd] at hW
      refine fun H3 x3 h3 => ?_
      have hf3 := x3 fa _ hfx hf2
      refine ⟨_, _, _, rfl, rfl, hf3, by decide, ?_⟩
      have h4 : LxAt C (upd H3 fa (.lst (wV [] ++ [.str (S t.tx)]))) x l r := by
        obtain ⟨dx, a, t', r', p, g1, g2, g3⟩ := h3.ex
        exact ⟨h3.small, dx, a, t', r', p, by rw [upd_ne (Ne.symm hfx)]; exact g1, by rw [upd_ne (ne_of g2 hf3 (by intro z; cases z))]; exact g2, g3⟩
      have x4 : ExB x H (upd H3 fa (.lst (wV [] ++ [.str (S t.tx)]))) := fun b o n hb => by
        rw [upd_ne (ne_of_none hb hfa)]
        exact (x2.trans x3) b o n hb
      have hf4 : upd H3 fa (.lst (wV [] ++ [.str (S t.tx)])) fa = some (.lst (wV [t.tx])) := upd_same
      generalize upd H3 fa (.lst (wV [] ++ [.str (S t.tx)])) = H4 at h4 x4 hf4 ⊢
      -- while lexer.is_next(',')
      refine ⟨fun m σ' H' => ∃ (acc : List L) (ts' : List Lex), σ' = [some (.ref x), some (.ref fa)] ∧ ExB x H H' ∧ H' fa = some (.lst (wV acc)) ∧ LxAt C H' x l ts' ∧ pMore acc ts' = pMore [t.tx] r ∧ acc.length + ts'.length ≤ 60000 ∧ m = ts'.length,
        ⟨_, [t.tx], r, rfl, x4, hf4, h4, rfl, ?_, rfl⟩, ?_⟩
      · have := h4.len
        simp only [List.length_cons, List.length_nil]
        omega
      rintro m σ' H' ⟨acc, ts', rfl, x5, hf5, h5, eM, hlen, rfl⟩
      obtain ⟨dx, a, u, r', p, hob, _, er, hp, htk⟩ := id h5.ex
      subst er
      refine ⟨_, rfl, x, dx, _, rfl, hob, no2, x, l, [44], u, r', (by rw [lit_cm]; rfl), h5, _, rfl, ?_⟩
      refine iteB (c := decide (u.tx = [44])) rfl (fun hk => ?_) (fun hk => ?_)
      rotate_left
      · refine fin acc (u :: r') _ _ ?_ rfl x5 hf5 h5
        rw [hW, ← eM]
        unfold pMore
        rw [if_neg (of_decide_eq_false hk)]
      have hu := of_decide_eq_true hk
      refine ⟨_, fun _ _ z => z, ?_⟩
      -- lexer.go()
      have hlive : u.live = true := by
        cases z : u.live with
        | true => rfl
        | false =>
          have w0 := h5.wf u List.mem_cons_self
          rw [w0.dead z] at hu
          cases hu
      refine ⟨_, rfl, x, dx, _, rfl, hob, no4, x, l, u, r', rfl, h5, hlive, fun H6 x6 h6 => ?_⟩
      have hf6 := x6 fa _ hfx hf5
      -- found.append(lexer.word())
      obtain ⟨dx, a, v, r'', p, hob, _, er, hp, htk⟩ := id h6.ex
      subst er
      refine ⟨_, rfl, .inl ⟨rfl, _, SqL.of hf6⟩, _, rfl, x, dx, _, rfl, hob, no3, x, l, v :: r'', rfl, h6, ?_⟩
      have hPW : pWord (v :: r'') = if v.kd = .word then .inr (v.tx, r'') else .inl v.pl := rfl
      rw [hPW]
      have hM : pMore acc (u :: v :: r'') = if v.kd = .word then pMore (acc ++ [v.tx]) r'' else .inl v.pl := by
        conv => lhs; unfold pMore
        rw [if_pos hu]
      rw [hM] at eM
      by_cases hkd : v.kd = .word
      rotate_left
      · rw [if_neg hkd]
        rw [if_neg hkd] at eM
        rw [hW, ← eM, bnd_inl] at q
        exact RaisesX.keep q s0 (x5.trans x6) h6.some
      rw [if_pos hkd]
      rw [if_pos hkd] at eM
      refine fun H7 x7 h7 => ?_
      have hf7 := x7 fa _ hfx hf6
      refine ⟨_, _, _, rfl, rfl, hf7, ?_, ?_⟩
      · rw [List.length_map]
        simp only [List.length_cons] at hlen
        exact sz_lt (by omega)
      refine ⟨r''.length, by simp only [List.length_cons]; omega, acc ++ [v.tx], r'', rfl, ?_, ?_, ?_, eM, ?_, rfl⟩
      · exact fun b o n hb => by
          rw [upd_ne (ne_of_none hb hfa)]
          exact ((x5.trans x6).trans x7) b o n hb
      · rw [upd_same, wV_snoc]
      · obtain ⟨dx, a, t', r', p, g1, g2, g3⟩ := h7.ex
        exact ⟨h7.small, dx, a, t', r', p, by rw [upd_ne (Ne.symm hfx)]; exact g1, by rw [upd_ne (ne_of g2 hf7 (by intro z; cases z))]; exact g2, g3⟩
      · rw [List.length_append]
        simp only [List.length_cons, List.length_nil] at hlen ⊢
        omega
end
end Kin
namespace Kin
open PySem L2 SX Evl
/-- the fits as tuples -/
def FitsAt (H : Hp) (as : List Addr) (fs : List (L × L)) : Prop := Paired (fun a f => H a = some (.tup [.str (S f.1), .str (S f.2)])) as fs
theorem FitsAt.exB {H H' : Hp} {x : Addr} {as : List Addr} {fs : List (L × L)} (h : FitsAt H as fs) (hx : ∀ xs, H x ≠ some (.tup xs)) (e : ExB x H H') : FitsAt H' as fs := Paired.mapQ h fun a f z => e a _ (fun y => by rw [y] at z; exact hx _ z) z
theorem FitsAt.ex {H H' : Hp} {as : List Addr} {fs : List (L × L)} (h : FitsAt H as fs) (e : Ex H H') : FitsAt H' as fs := Paired.mapQ h fun a f z => e a _ z
theorem FitsAt.upd {H : Hp} {as : List Addr} {fs : List (L × L)} {f : Addr} {xs ys : List V} (h : FitsAt H as fs) (hf : H f = some (.lst xs)) : FitsAt (upd H f (.lst ys)) as fs :=
  Paired.mapQ h fun c s e => by rw [upd_ne (ne_of e hf fun z => by cases z)]; exact e
def spReadBlock (mg : Str → Option Value) (B C : Addr) : Sp := fun vs H Q E => ∃ (x fR : Addr) (l : L) (ts : List Lex), vs = [.ref x, .ref fR] ∧ mg "read_fit" = some (.ref fR) ∧ LxAt C H x l ts ∧ match pBlock ts with
  | .inl e => RaisesX B x H E e
  | .inr (fs, _) => ∀ a as H', H a = none → ExB x H H' → H' a = some (.lst (as.map V.ref)) → FitsAt H' as fs → Q (.ref a) H'
section
variable {w : World} {K : PySem.W.Frag} {mg : Str → Option Value} {base : Heap} {B C : Addr}
theorem scReadFit : FnScope ["lexer"] ["lexer"] (C8.fnScope sReadFit) := C8.fnScope_by (by decide +kernel)
theorem ok_readFit {f : Addr} {fd : FuncData} (F : C8.Def K mg "read_fit" sReadFit f fd) (b : Binds K fd ["lexer"] []) (cW : MetX prg w K mg base 4 C "word" (spWord B C)) : CalX prg w K mg base 5 "read_fit" (spReadFit B C) := by
  refine calX0 F b scReadFit (fun vs H Q E h => ?_) (fun cdv A outer s H vs Q E hr h => ?_)
  · obtain ⟨x, l, ts, rfl, _⟩ := h
    rfl
  · obtain ⟨x, l, ts, rfl, h0, q⟩ := h
    have tk := takes_of (X := cxOf (L2.CX prg w) prg w K mg base ["lexer"] "read_fit" (C8.fnScope sReadFit) f cdv A outer s H E) (E := E) rfl rfl rfl rfl
    have hx : Passes (L2.CX prg w) (cxOf (L2.CX prg w) prg w K mg base ["lexer"] "read_fit" (C8.fnScope sReadFit) f cdv A outer s H E) E := passes_call tk fun _ _ _ _ h => h
    have no3 : ∀ {z : Str} {a : Addr}, (lfs z a).lookup ("word" : Str) = none := fun {z a} => lfs_no z a (by decide +kernel) (by decide +kernel)
    have s0 := h0.some
    refine ⟨_, pss_one (ps_ret (pe_tup (pa_cons (pe_mx0 cW hx hr (by decide) (pv 0)) (pa_cons (pe_mx0 cW hx hr (by decide) (pv 0)) pa_nil)))), ?_⟩
    obtain ⟨dx, a, t, r, p, hob, _⟩ := id h0.ex
    refine ⟨_, rfl, x, dx, _, rfl, hob, no3, x, l, ts, rfl, h0, ?_⟩
    cases e1 : pWord ts with
    | inl e =>
      rw [e1] at q
      exact q
    | inr p1 =>
      obtain ⟨a1, t1⟩ := p1
      rw [e1, bnd_inr] at q
      refine fun H1 x1 h1 => ?_
      obtain ⟨dx, a, t, r, p, hob, _⟩ := id h1.ex
      refine ⟨_, rfl, x, dx, _, rfl, hob, no3, x, l, t1, rfl, h1, ?_⟩
      cases e2 : pWord t1 with
      | inl e =>
        rw [e2] at q
        exact RaisesX.keep q s0 x1 h1.some
      | inr p2 =>
        obtain ⟨a2, t2⟩ := p2
        rw [e2, bnd_inr] at q
        refine fun H2 x2 h2 => ⟨by show 2 ≤ sizeLine; decide, fun c hc => ?_⟩
        exact q c _ ((x1.trans x2).back h2.some hc) ((x1.trans x2).trans (ExB.of (Ex.new hc))) upd_same (h2.keep (Ex.new hc))
theorem scReadBlock : FnScope ["lexer", "read_one", "found"] ["lexer", "read_one"] (C8.fnScope sReadBlock) := C8.fnScope_by (by decide +kernel)
theorem ok_readBlock {f : Addr} {fd : FuncData} (F : C8.Def K mg "read_block" sReadBlock f fd) (b : Binds K fd ["lexer", "read_one"] []) (cI : C8.Met prg w K mg base 1 C "is_next" (spIsNext C) [])
    (cT : MetX prg w K mg base 4 C "take" (spTake B C)) (cF : MetX prg w K mg base 1 C "finish" (spFinish B C)) (cR : CalX prg w K mg base 5 "read_fit" (spReadFit B C)) : CalX prg w K mg base 6 "read_block" (spReadBlock mg B C) := by
  refine calX0 F b scReadBlock (fun vs H Q E h => ?_) (fun cdv A outer s H vs Q E hr h => ?_)
  · obtain ⟨x, fR, l, ts, rfl, _⟩ := h
    rfl
  · obtain ⟨x, fR, l, ts, rfl, hmg, h0, q⟩ := h
    obtain ⟨fR', Rfd, Rps, RF, Rhm, Rkp, Rb⟩ := cR.ex
    have eR : fR = fR' := by
      rw [Rhm] at hmg
      injection hmg with z
      injection z with z
      exact z.symm
    subst eR
    have tk := takes_of (X := cxOf (L2.CX prg w) prg w K mg base ["lexer", "read_one", "found"] "read_block" (C8.fnScope sReadBlock) f cdv A outer s H E) (E := E) rfl rfl rfl rfl
    have hx : Passes (L2.CX prg w) (cxOf (L2.CX prg w) prg w K mg base ["lexer", "read_one", "found"] "read_block" (C8.fnScope sReadBlock) f cdv A outer s H E) E := passes_call tk fun _ _ _ _ h => h
    have no1 : ∀ {z : Str} {a : Addr}, (lfs z a).lookup ("take" : Str) = none := fun {z a} => lfs_no z a (by decide +kernel) (by decide +kernel)
    have no2 : ∀ {z : Str} {a : Addr}, (lfs z a).lookup ("is_next" : Str) = none := fun {z a} => lfs_no z a (by decide +kernel) (by decide +kernel)
    have no5 : ∀ {z : Str} {a : Addr}, (lfs z a).lookup ("finish" : Str) = none := fun {z a} => lfs_no z a (by decide +kernel) (by decide +kernel)
    refine ⟨_, pss_cons (ps_expr (pe_mx cT hx hr (by decide) (pv 0) (pa_cons (pe_str) pa_nil)))
      (pss_cons (ps_set (i := 2) scReadBlock.nd rfl (Or.inl rfl) (pe_lst pa_nil))
      (pss_cons (ps_while (passes_of rfl) (pt_not (pt_val (C8.pe_mt cI hr (by decide) (pv 0) (pa_cons (pe_str) pa_nil)))) (pss_cons (ps_expr (pe_bm PySem.F.plainAttrs_list PySem.F.slot_list_append PySem.F.type_list_append mt_append (pv 2) (pa_cons (pe_callL (i := 1) RF (hr.mono (by decide)) rfl (Or.inl rfl) Rkp Rb .nil hx (pa_cons (pv 0) pa_nil)) pa_nil)))
      (pss_one (ps_expr (pe_mx cT hx hr (by decide) (pv 0) (pa_cons (pe_str) pa_nil))))))
      (pss_cons (ps_expr (pe_mx cT hx hr (by decide) (pv 0) (pa_cons (pe_str) pa_nil)))
      (pss_cons (ps_expr (pe_mx0 cF hx hr (by decide) (pv 0)))
      (pss_one (ps_ret (pv 2))))))), ?_⟩
    have s0 := h0.some
    have len0 := h0.len
    have sm := h0.small
    have hP : pBlock ts = bnd (pTake [123] ts) fun _ t1 => bnd (pFits [] t1) fun fs t2 => bnd (pTake [125] t2) fun _ t3 => bnd (pFin t3) fun _ t4 => .inr (fs, t4) := rfl
    rw [hP] at q
    have xnt : ∀ {H' : Hp} {ts' : List Lex}, LxAt C H' x l ts' → ∀ xs, H' x ≠ some (.tup xs) := fun {H' ts'} h' xs z => by
      obtain ⟨_, _, _, _, _, g, _⟩ := h'.ex
      rw [g] at z
      cases z
    -- lexer.take('{')
    obtain ⟨dx, a, t, r, p, hob, _⟩ := id h0.ex
    refine ⟨_, rfl, x, dx, _, rfl, hob, no1, x, l, [123], ts, (by rw [lit_lb]; rfl), by decide, h0, ?_⟩
    cases e1 : pTake [123] ts with
    | inl e =>
      rw [e1] at q
      exact q
    | inr p1 =>
      obtain ⟨u1, t1⟩ := p1
      rw [e1] at q
      refine fun H1 x1 h1 => ?_
      rw [bnd_inr] at q
      -- found = []
      refine ⟨by decide, fun fa hfa1 => ?_⟩
      have hfa := x1.back h1.some hfa1
      have hfx : fa ≠ x := fun z => by rw [z] at hfa; exact s0 hfa
      have h2 : LxAt C (upd H1 fa (.lst [])) x l t1 := h1.keep (Ex.new hfa1)
      have x2 : ExB x H (upd H1 fa (.lst [])) := x1.trans (ExB.of (Ex.new hfa1))
      have hf2 : upd H1 fa (.lst []) fa = some (.lst []) := upd_same
      generalize upd H1 fa (.lst []) = H2 at h2 x2 hf2 ⊢
      -- while not lexer.is_next('}')
      refine ⟨fun m σ' H' => ∃ (as : List Addr) (acc : List (L × L)) (ts' : List Lex), σ' = [some (.ref x), some (.ref fR), some (.ref fa)] ∧ ExB x H H' ∧ H' fa = some (.lst (as.map V.ref)) ∧ FitsAt H' as acc ∧ LxAt C H' x l ts' ∧ pFits acc ts' = pFits [] t1 ∧ acc.length + ts'.length ≤ 60000 ∧ m = ts'.length,
        ⟨_, [], [], t1, rfl, x2, hf2, .nil, h2, rfl, ?_, rfl⟩, ?_⟩
      · have := h2.len
        simp only [List.length_nil]
        omega
      rintro m σ' H' ⟨as, acc, ts', rfl, x5, hf5, ht5, h5, eM, hlen, rfl⟩
      obtain ⟨dx, a, u, r', p, hob, _, er, hp, htk⟩ := id h5.ex
      subst er
      have hlas : as.length = acc.length := Paired.length ht5
      refine ⟨_, rfl, x, dx, _, rfl, hob, no2, x, l, [125], u, r', (by rw [lit_rb]; rfl), h5, _, rfl, ?_⟩
      refine iteB (c := !decide (u.tx = [125])) rfl (fun hk => ?_) (fun hk => ?_)
      rotate_left
      · -- the end
        have hu := not_dec' hk
        have eF : pFits [] t1 = .inr (acc, u :: r') := by
          rw [← eM]
          unfold pFits
          rw [if_pos hu]
        rw [eF, bnd_inr] at q
        refine ⟨_, rfl, x, dx, _, rfl, hob, no1, x, l, [125], u :: r', (by rw [lit_rb]; rfl), by decide, h5, ?_⟩
        cases e3 : pTake [125] (u :: r') with
        | inl e =>
          rw [e3] at q
          exact RaisesX.keep q s0 x5 h5.some
        | inr p3 =>
          obtain ⟨u3, t3⟩ := p3
          rw [e3, bnd_inr] at q
          refine fun H6 x6 h6 => ?_
          obtain ⟨dx, a, t, r, p, hob, _⟩ := id h6.ex
          refine ⟨_, rfl, x, dx, _, rfl, hob, no5, x, l, t3, rfl, h6, ?_⟩
          cases e4 : pFin t3 with
          | inl e =>
            rw [e4] at q
            exact RaisesX.keep q s0 (x5.trans x6) h6.some
          | inr p4 =>
            obtain ⟨u4, t4⟩ := p4
            rw [e4, bnd_inr] at q
            exact ⟨_, rfl, q fa as H6 hfa (x5.trans x6) (x6 fa _ hfx hf5) (ht5.exB (xnt h5) x6)⟩
      have hu := not_dec hk
      refine ⟨_, fun _ _ z => z, ?_⟩
      -- found.append(read_one(lexer))
      refine ⟨_, rfl, .inl ⟨rfl, _, SqL.of hf5⟩, rfl, _, rfl, x, l, u :: r', rfl, h5, ?_⟩
      have hW1 : pWord (u :: r') = if u.kd = .word then .inr (u.tx, r') else .inl u.pl := rfl
      rw [hW1]
      by_cases k1 : u.kd = .word
      rotate_left
      · rw [if_neg k1]
        rw [pFits_1 hu k1] at eM
        rw [← eM, bnd_inl] at q
        exact RaisesX.keep q s0 x5 h5.some
      rw [if_pos k1, bnd_inr]
      -- what follows the first word
      have hlive : u.live = true := live_of (by rw [k1]; decide) (by rw [k1]; decide)
      obtain ⟨hnx, v, z, er', htk', hv⟩ := tk_next hp htk hlive
      subst er'
      have hW2 : pWord (v :: z) = if v.kd = .word then .inr (v.tx, z) else .inl v.pl := rfl
      rw [hW2]
      by_cases k2 : v.kd = .word
      rotate_left
      · rw [if_neg k2]
        rw [pFits_2 hu k1 k2] at eM
        rw [← eM, bnd_inl] at q
        exact RaisesX.keep q s0 x5 h5.some
      rw [if_pos k2, bnd_inr]
      refine fun pa H6 hpa x6 hp6 h6 => ?_
      have hf6 := x6 fa _ hfx hf5
      have ht6 := ht5.exB (xnt h5) x6
      refine ⟨_, _, _, rfl, rfl, hf6, ?_, ?_⟩
      · rw [List.length_map]
        simp only [List.length_cons] at hlen
        exact sz_lt (by omega)
      have h7 : LxAt C (upd H6 fa (.lst (as.map V.ref ++ [.ref pa]))) x l z := by
        obtain ⟨dx, a, t', r', p, g1, g2, g3⟩ := h6.ex
        exact ⟨h6.small, dx, a, t', r', p, by rw [upd_ne (Ne.symm hfx)]; exact g1, by rw [upd_ne (ne_of g2 hf6 (by intro z; cases z))]; exact g2, g3⟩
      have x7 : ExB x H (upd H6 fa (.lst (as.map V.ref ++ [.ref pa]))) := fun b o n hb => by
        rw [upd_ne (ne_of_none hb hfa)]
        exact (x5.trans x6) b o n hb
      have hf7 : upd H6 fa (.lst (as.map V.ref ++ [.ref pa])) fa = some (.lst (as.map V.ref ++ [.ref pa])) := upd_same
      have ht7 : FitsAt (upd H6 fa (.lst (as.map V.ref ++ [.ref pa]))) (as ++ [pa]) (acc ++ [(u.tx, v.tx)]) := Paired.snoc (ht6.upd hf6) (by rw [upd_ne (ne_of hp6 hf6 (by intro z; cases z))]; exact hp6)
      generalize upd H6 fa (.lst (as.map V.ref ++ [.ref pa])) = H7 at h7 x7 hf7 ht7 ⊢
      -- lexer.take(';')
      obtain ⟨dx, a, y, zz, p, hob, _, ez, _⟩ := id h7.ex
      subst ez
      refine ⟨_, rfl, x, dx, _, rfl, hob, no1, x, l, [59], y :: zz, (by rw [lit_sc]; rfl), by decide, h7, ?_⟩
      have hT : pTake [59] (y :: zz) = if y.tx = [59] then .inr ((), zz) else .inl y.pl := rfl
      rw [hT]
      by_cases k3 : y.tx = [59]
      rotate_left
      · rw [if_neg k3]
        rw [pFits_3 hu k1 k2 k3] at eM
        rw [← eM, bnd_inl] at q
        exact RaisesX.keep q s0 x7 h7.some
      rw [if_pos k3]
      rw [pFits_4 hu k1 k2 k3] at eM
      refine fun H8 x8 h8 => ?_
      refine ⟨zz.length, by simp only [List.length_cons]; omega, as ++ [pa], acc ++ [(u.tx, v.tx)], zz, rfl, x7.trans x8, ?_, ht7.exB (xnt h7) x8, h8, eM, ?_, rfl⟩
      · rw [x8 fa _ hfx hf7, List.map_append]
        rfl
      · rw [List.length_append]
        simp only [List.length_cons, List.length_nil] at hlen ⊢
        omega
end
end Kin
namespace Kin
open PySem L2 SX Evl
/-- a word: letters and digits, at most 12 -/
def okW (x : L) : Prop := x.length ≤ 12 ∧ ∀ c ∈ x, c ∈ cAl
theorem al_small : ∀ c ∈ cAl, c < 128 := by decide
theorem okW_str {x : L} (h : okW x) : PyData.strOk (S x) = true := by
  unfold PyData.strOk
  rw [← Array.all_toList]
  exact List.all_eq_true.mpr fun c hc => decide_eq_true (Nat.lt_of_lt_of_le (al_small c (h.2 c hc)) (by decide))
theorem hu65 {A : Around} {k : Nat} (hr : Room k A) : A.units + 65 < cLine := by
  have h := hr.un
  omega
theorem tYes_go {σ : L2.St} {H : Hp} {A B : Hp → Prop} (h : A H) : tYes σ H (fun b H3 => if b = true then A H3 else B H3) := by
  show if true = true then A H else B H
  exact iteT h
theorem wV_get {ws : List L} {j : Nat} {y : V} (h : (wV ws)[j]? = some y) : ∃ r, y = .str (S r) ∧ r ∈ ws ∧ ws[j]? = some r := by
  have h' : (ws.map fun x => V.str (S x))[j]? = some y := h
  rw [List.getElem?_map] at h'
  cases z : ws[j]? with
  | none =>
    rw [z] at h'
    cases h'
  | some r =>
    rw [z] at h'
    exact ⟨r, (Option.some.inj h').symm, List.mem_of_getElem? z, rfl⟩
theorem wV_flat (ws : List L) : (wV ws).all flatV = true := by
  rw [List.all_map]
  exact List.all_eq_true.mpr fun _ _ => rfl
def spIsWord : Sp := fun vs H Q _ => ∃ r : L, vs = [.str (S r)] ∧ r.length ≤ 50000 ∧ ∀ b H', Ex H H' → Q (.bl b) H'
def spIsList : Sp := fun vs H Q _ => ∃ (a : Addr) (xs : List V), vs = [.ref a] ∧ H a = some (.lst xs) ∧ ∀ H', Ex H H' → Q (.bl true) H'
def spIsRow : Sp := fun vs H Q _ => ∃ (a : Addr) (x y : V), vs = [.ref a, .int 2] ∧ H a = some (.tup [x, y]) ∧ Q (.bl true) H
/-- None, or a new tuple -/
def NoneOrTup (H : Hp) (Q : VK) : Prop := ∀ v H', Ex H H' → (v = .non ∨ ∃ p xs, v = .ref p ∧ H' p = some (.tup xs)) → Q v H'
def spWrongColour : Sp := fun vs H Q _ => ∃ (a : Addr) (ws : List L) (i : Int), vs = [.ref a, .int i] ∧ H a = some (.lst (wV ws)) ∧ (∀ x ∈ ws, x.length ≤ 50000) ∧ ws.length ≤ 60000 ∧ NoneOrTup H Q
def spWrongFit : Sp := fun vs H Q _ => ∃ (a b c : Addr) (ws ps : List L) (fs : List (L × L)) (as : List Addr), vs = [.ref a, .ref b, .ref c] ∧ H a = some (.lst (wV ws)) ∧ H b = some (.lst (wV ps)) ∧ H c = some (.lst (as.map V.ref)) ∧ FitsAt H as fs ∧ fs.length ≤ 60000 ∧ (∀ f ∈ fs, okW f.1 ∧ okW f.2) ∧ NoneOrTup H Q
def spFirstWrong : Sp := fun vs H Q _ => ∃ (a b c : Addr) (ws ps : List L) (fs : List (L × L)) (as : List Addr), vs = [.ref a, .ref b, .ref c] ∧ H a = some (.lst (wV ws)) ∧ H b = some (.lst (wV ps)) ∧ H c = some (.lst (as.map V.ref)) ∧ FitsAt H as fs ∧ fs.length ≤ 60000 ∧
  (∀ f ∈ fs, okW f.1 ∧ okW f.2) ∧ (∀ x ∈ ws, x.length ≤ 50000) ∧ ws.length ≤ 60000 ∧ (∀ x ∈ ps, x.length ≤ 50000) ∧ ps.length ≤ 60000 ∧ NoneOrTup H Q
section
variable {P : Program} {w : World} {K : PySem.W.Frag} {mg : Str → Option Value} {base : Heap}
theorem scIsWord : FnScope ["value", "sign"] ["value"] (C8.fnScope sIsWord) := C8.fnScope_by (by decide +kernel)
theorem ok_isWord {f : Addr} {fd : FuncData} (T : Glob mg) (F : C8.Def K mg "is_word" sIsWord f fd) (b : Binds K fd ["value"] []) : C8.Cal P w K mg base 1 "is_word" spIsWord [] := by
  refine C8.cal0 F b .nil scIsWord (fun vs H Q E h => ?_) (fun cdv A outer s H vs Q E hr h => ?_)
  · obtain ⟨r, rfl, _⟩ := h
    rfl
  · obtain ⟨r, rfl, hl, q⟩ := h
    obtain ⟨tf, hf⟩ := T.figures
    obtain ⟨tl, hlt⟩ := T.letters
    rw [lit_figures] at hf
    rw [lit_letters] at hlt
    refine ⟨_, pss_cons (ps_if (PW.pt (pw_or (pt_not (pt_val (pe_callB call_isi (by rfl) T.isinstance (by decide +kernel) (pa_cons (pv 0) (pa_cons (pe_bltn (u := .type "str") (by rfl) T.str (by decide +kernel) (rel_ty _)) pa_nil))))) (pw_or (pt_cmpR op_nirng (pe_callB call_len_str (by rfl) T.len PySem.boot_len (pa_cons (pv 0) pa_nil)) (pe_callTy cr_range2 (by rfl) T.range (by decide +kernel) (pa_cons (pe_int) (pa_cons (pe_int) pa_nil))) (by rfl)) (pw_or1 (pt_cmpR op_notInS (pe_ix ix_str (pv 0) (pe_int) (fun _ _ => rfl)) (pe_glob (by rfl) hlt (rel_str _ _)) (by rfl)))))) (pss_one (ps_ret (pe_bl))) pss_nil)
      (pss_one (ps_ret (pe_callB (cr_all rfl) (by rfl) T.all (by decide +kernel) (pa_cons (pe_lc (own := [("sign", 1)]) (tt := tYes) (by rfl) scIsWord.nd (pi_str (pv 0)) (blkOk_by (own := [("sign", 1)]) (N := ["value", "sign"]) (sc := C8.fnScope sIsWord) (by decide +kernel)) (fun _ _ _ _ _ => (pg_name (i := 1) scIsWord.nd rfl (Or.inl rfl))) (fun _ _ _ _ _ => pts_nil) (fun _ _ _ _ _ => (pe_or (pe_cmpR op_inS (pv 1) (pe_glob (by rfl) hlt (rel_str _ _)) (by rfl)) (pe_one (pe_cmpR op_inS (pv 1) (pe_glob (by rfl) hf (rel_str _ _)) (by rfl)))))) pa_nil)))), ?_⟩
    refine ⟨_, rfl, _, _, _, _, _, rfl, .ty "str", .base (.str _), kit_str, _, rfl, iteF ?_⟩
    refine ⟨_, rfl, _, rfl, S_size (by omega), _, _, rfl, fun g hg => ?_⟩
    refine ⟨_, _, _, _, rfl, rfl, upd_same, _, rfl, ?_⟩
    refine iteB (c := !decide (1 ≤ r.length ∧ r.length ≤ 12)) (by rw [S_len]; exact congrArg Bool.not (decide_eq_decide.mpr (by omega))) (fun h => ?_) (fun h => ?_)
    · exact iteT (q _ _ (Ex.new hg))
    have hr1 := not_dec' h
    obtain ⟨c, hc, hd⟩ := drop_cons (l := r) (p := 0) (by omega)
    refine ⟨_, rfl, _, _, _, rfl, rfl, S_size (by omega), atI_S (p := 0) hc, _, _, rfl, rfl, _, rfl, ?_⟩
    refine iteB rfl (fun h => ?_) (fun h => ?_)
    · exact q _ _ (Ex.new hg)
    -- all([..])
    refine ⟨_, rfl, _, rfl, fun D hD => ?_⟩
    refine lc_it (walk_str (z := S r)) (fun i H' => Ex H H' ∧ i ≤ r.length ∧ ∃ bs : List Bool, H' D = some (.lst (bs.map V.bl)) ∧ bs.length = i) ⟨(Ex.new hg).trans (Ex.new hD), Nat.zero_le _, [], upd_same, rfl⟩ (fun _ _ _ _ => True.intro) ?_ ?_
    · rintro i x H1 H2 hi ⟨x1, hil, bs, hb, hbl⟩ ⟨rfl, d, hdd, rfl⟩
      have hi' : i < r.length := by simpa using hi
      have DH : H D = none := fresh_back (Ex.new hg) hD
      have go : ∀ v : Bool, ∃ acc, H2 D = some (.lst acc) ∧ acc.length < sizeLine ∧ (Ex H (upd H2 D (.lst (acc ++ [.bl v]))) ∧ i + 1 ≤ r.length ∧ ∃ bs : List Bool, upd H2 D (.lst (acc ++ [.bl v])) D = some (.lst (bs.map V.bl)) ∧ bs.length = i + 1) := fun v =>
        ⟨_, hb, by rw [List.length_map]; exact sz_lt (by omega), x1.mut DH, hi', bs ++ [v], by rw [upd_same, List.map_append]; rfl, by rw [List.length_append, hbl]; rfl⟩
      refine ⟨rfl, tYes_go ?_⟩
      refine ⟨_, rfl, _, _, rfl, rfl, _, rfl, ?_⟩
      refine iteB rfl (fun h => ?_) (fun h => ?_)
      · exact go true
      · refine ⟨_, rfl, _, _, rfl, rfl, ?_⟩
        exact go _
    · rintro H1 ⟨x1, hil, bs, hb, hbl⟩
      exact ⟨_, _, rfl, SqL.of hb, q _ _ x1⟩
theorem scIsList : FnScope ["value"] ["value"] (C8.fnScope sIsList) := C8.fnScope_by (by decide +kernel)
theorem ok_isList {f : Addr} {fd : FuncData} (T : Glob mg) (F : C8.Def K mg "is_list" sIsList f fd) (b : Binds K fd ["value"] []) : C8.Cal P w K mg base 1 "is_list" spIsList [] := by
  refine C8.cal0 F b .nil scIsList (fun vs H Q E h => ?_) (fun cdv A outer s H vs Q E hr h => ?_)
  · obtain ⟨a, xs, rfl, _⟩ := h
    rfl
  · obtain ⟨a, xs, rfl, ha, q⟩ := h
    refine ⟨_, pss_one (ps_ret (pe_callB call_isiT (by rfl) T.isinstance (by decide +kernel) (pa_cons (pv 0) (pa_cons (pe_tup (pa_cons (pe_bltn (u := .type "list") (by rfl) T.list (by decide +kernel) (rel_ty _)) (pa_cons (pe_bltn (u := .type "tuple") (by rfl) T.tuple (by decide +kernel) (rel_ty _)) pa_nil))) pa_nil)))), ?_⟩
    refine ⟨_, rfl, (by show 2 ≤ sizeLine; decide), fun t ht => ?_⟩
    refine ⟨_, t, _, _, _, true, rfl, upd_same, .cons (.ty "list") (.cons (.ty "tuple") .nil), .base (.lst (by rw [upd_ne (ne_of_none ha ht)]; exact ha)), kitAny_cons kit_ll (fun z => by cases z) (fun _ => rfl), ?_⟩
    exact q _ (Ex.new ht)
theorem scIsRow : FnScope ["value", "many"] ["value", "many"] (C8.fnScope sIsRow) := C8.fnScope_by (by decide +kernel)
theorem ok_isRow {f : Addr} {fd : FuncData} (T : Glob mg) (F : C8.Def K mg "is_row" sIsRow f fd) (b : Binds K fd ["value", "many"] []) : C8.Cal P w K mg base 1 "is_row" spIsRow [] := by
  refine C8.cal0 F b .nil scIsRow (fun vs H Q E h => ?_) (fun cdv A outer s H vs Q E hr h => ?_)
  · obtain ⟨a, x, y, rfl, _⟩ := h
    rfl
  · obtain ⟨a, x, y, rfl, ha, q⟩ := h
    refine ⟨_, pss_one (ps_ret (pe_and (pe_callB call_isi (by rfl) T.isinstance (by decide +kernel) (pa_cons (pv 0) (pa_cons (pe_bltn (u := .type "tuple") (by rfl) T.tuple (by decide +kernel) (rel_ty _)) pa_nil))) (pe_one (pe_cmpR op_eq (pe_callB call_len_seq (by rfl) T.len PySem.boot_len (pa_cons (pv 0) pa_nil)) (pv 1) (nomark _))))), ?_⟩
    refine ⟨_, rfl, _, _, _, _, _, rfl, .ty "tuple", .base (.tup ha), kit_tup, _, rfl, iteT ?_⟩
    exact ⟨_, rfl, _, _, rfl, .inr (SqT.of ha), _, rfl, rfl, q⟩
theorem scWrongColour : FnScope ["colours", "side", "met", "k", "colour"] ["colours", "side"] (C8.fnScope sWrongColour) := C8.fnScope_by (by decide +kernel)
theorem ok_wrongColour {f : Addr} {fd : FuncData} (T : Glob mg) (F : C8.Def K mg "wrong_colour" sWrongColour f fd) (b : Binds K fd ["colours", "side"] []) (cIL : C8.Cal P w K mg base 1 "is_list" spIsList []) (cIW : C8.Cal P w K mg base 1 "is_word" spIsWord []) : C8.Cal P w K mg base 2 "wrong_colour" spWrongColour [] := by
  refine C8.cal0 F b .nil scWrongColour (fun vs H Q E h => ?_) (fun cdv A outer s H vs Q E hr h => ?_)
  · obtain ⟨a, ws, i, rfl, _⟩ := h
    rfl
  · obtain ⟨a, ws, i, rfl, ha, hws, hwl, q⟩ := h
    refine ⟨_, pss_cons (ps_if (pt_not (pt_val (C8.pe_c cIL hr (by decide) (by rfl) (pa_cons (pv 0) pa_nil)))) (pss_one (ps_ret (pe_tup (pa_cons (pv 1) pa_nil)))) pss_nil)
      (pss_cons (ps_set (i := 2) scWrongColour.nd rfl (Or.inl rfl) (pe_lst pa_nil))
      (pss_cons (ps_for PassesOwn.never rfl (pi_enum (by rfl) T.enumerate (pa_cons (pv 0) pa_nil)) (pg_tup (by rfl) (pgs_cons (pg_name (i := 3) scWrongColour.nd rfl (Or.inl rfl)) (pgs_cons (pg_name (i := 4) scWrongColour.nd rfl (Or.inl rfl)) pgs_nil))) (pss_cons (ps_if (PW.pt (pw_or (pt_not (pt_val (C8.pe_c cIW hr (by decide) (by rfl) (pa_cons (pv 4) pa_nil)))) (pw_or1 (pt_cmpR op_in_seq (pv 4) (pv 2) (by rfl))))) (pss_one (ps_ret (pe_tup (pa_cons (pv 1) (pa_cons (pv 3) pa_nil))))) pss_nil)
      (pss_one (ps_expr (pe_bm PySem.F.plainAttrs_list PySem.F.slot_list_append PySem.F.type_list_append mt_append (pv 2) (pa_cons (pv 4) pa_nil))))))
      (pss_one (ps_ret (pe_non))))), ?_⟩
    refine ⟨_, rfl, a, _, rfl, ha, fun H1 x1 => ⟨_, rfl, iteF ?_⟩⟩
    refine ⟨by decide, fun ma hma => ?_⟩
    have hmaH : H ma = none := fresh_back x1 hma
    have x2 : Ex H (upd H1 ma (.lst [])) := x1.trans (Ex.new hma)
    refine ⟨_, rfl, _, _, rfl, SqL.of (x2 _ _ ha), ?_⟩
    refine for_it (walk_enum (K := K) (a := a) (xs := wV ws)) (fun j σ' H' => ∃ (o1 o2 : Option V) (ms : List V), σ' = [some (.ref a), some (.int i), some (.ref ma), o1, o2] ∧ Ex H H' ∧ H' ma = some (.lst ms) ∧ ms.all flatV = true ∧ ms.length ≤ j) ⟨none, none, [], rfl, x2, upd_same, rfl, Nat.le_refl _⟩
      (fun j σ' H' _ ⟨_, _, _, _, x, _⟩ => SqL.of (x _ _ ha)) ?_ ?_
    · rintro j v σ' H' H3 hj ⟨o1, o2, ms, rfl, x, hm, hfl, hml⟩ ⟨tp, y1, y2, rfl, htp, rfl, e1, e2⟩
      have hy := wV_get (ws := ws) e2
      obtain ⟨r, rfl, hr1, _⟩ := hy
      obtain rfl : V.int ((j : Nat) : Int) = y1 := Option.some.inj e1
      have hj' : j < ws.length := by simpa using hj
      refine ⟨tp, _, rfl, SqT.of upd_same, rfl, _, _, rfl, _, _, rfl, rfl, ?_⟩
      have x4 := x.trans (Ex.new (o := .tup [.int ((j : Nat) : Int), .str (S r)]) htp)
      have hm4 : upd H' tp (.tup [.int ((j : Nat) : Int), .str (S r)]) ma = some (.lst ms) := by rw [upd_ne (ne_of_none hm htp)]; exact hm
      generalize upd H' tp (.tup [.int ((j : Nat) : Int), .str (S r)]) = H4 at x4 hm4 ⊢
      have bad : ∀ H5, Ex H H5 → (tRet (tTup (tCons (tVar 1) (tCons (tVar 3) tNil)))) { nx := fun _ _ => False, rt := Q } [some (.ref a), some (.int i), some (.ref ma), some (.int ((j : Nat) : Int)), some (.str (S r))] H5 := fun H5 x5 =>
        ⟨_, rfl, _, rfl, by show 2 ≤ sizeLine; decide, fun p hp => q _ _ (x5.trans (Ex.new hp)) (.inr ⟨p, _, rfl, upd_same⟩)⟩
      refine ⟨_, rfl, r, rfl, hws r hr1, fun bv H5 x5 => ⟨_, rfl, ?_⟩⟩
      have hm5 := x5 _ _ hm4
      refine iteB (c := !bv) rfl (fun h => bad H5 (x4.trans x5)) (fun h => ?_)
      -- colour in met
      refine ⟨_, rfl, _, rfl, ma, ms, rfl, .inl (SqL.of hm5), rfl, hfl, _, rfl, ?_⟩
      refine iteB rfl (fun h => bad H5 (x4.trans x5)) (fun h => ?_)
      -- met.append(colour)
      refine ⟨_, rfl, .inl ⟨rfl, _, SqL.of hm5⟩, _, rfl, _, _, _, rfl, rfl, hm5, sz_lt (by omega), ?_⟩
      refine ⟨_, _, ms ++ [.str (S r)], rfl, (x4.trans x5).mut hmaH, upd_same, ?_, ?_⟩
      · rw [List.all_append, hfl]
        rfl
      · rw [List.length_append]
        exact Nat.succ_le_succ hml
    · rintro σ' H' ⟨o1, o2, ms, rfl, x, _⟩
      exact q _ _ x (.inl rfl)
end
end Kin
namespace Kin
open PySem L2 SX Evl
def fitD (f : L × L) : PyData := .tuple [.str (S f.1), .str (S f.2)]
abbrev okF (f : L × L) : Prop := okW f.1 ∧ okW f.2
theorem fitD_lay {f : L × L} (h : okF f) : (fitD f).canLay0 = true := by simp [fitD, PyData.canLay0, PyData.canLayAll0, okW_str h.1, okW_str h.2]
theorem fitDs_lay : ∀ fs : List (L × L), (∀ f ∈ fs, okF f) → PyData.canLayAll0 (fs.map fitD) = true
  | [], _ => by simp [PyData.canLayAll0]
  | f :: fs, h => by
    rw [List.map_cons]
    simp only [PyData.canLayAll0, fitDs_lay fs (fun g hg => h g (List.mem_cons_of_mem _ hg)), fitD_lay (h f List.mem_cons_self), Bool.and_true]
theorem fitDs_depth : ∀ fs : List (L × L), PyData.depthAll (fs.map fitD) ≤ 2
  | [] => by simp [PyData.depthAll]
  | f :: fs => by
    have h := fitDs_depth fs
    rw [List.map_cons]
    simp only [PyData.depthAll]
    have h2 : (fitD f).depth ≤ 2 := by simp [fitD, PyData.depth, PyData.depthAll]
    omega
theorem fitDs_shaped {fs : List (L × L)} (hf : ∀ f ∈ fs, okF f) : SeqAt.shaped (.list (fs.map fitD)) = true := by
  have h := fitDs_depth fs
  unfold SeqAt.shaped
  rw [Bool.and_eq_true]
  refine ⟨by simp only [PyData.canLay0]; exact fitDs_lay fs hf, decide_eq_true ?_⟩
  simp only [PyData.depth]
  omega
theorem fitD_shaped {f : L × L} (hf : okF f) : SeqAt.shaped (fitD f) = true := by
  unfold SeqAt.shaped
  rw [Bool.and_eq_true]
  refine ⟨fitD_lay hf, decide_eq_true ?_⟩
  simp [fitD, PyData.depth, PyData.depthAll]
theorem fit_dp {K : PySem.W.Frag} {H : Hp} {a : Addr} {f : L × L} (h : H a = some (.tup [.str (S f.1), .str (S f.2)])) : Dp K H (.ref a) (fitD f) := .tup (SqT.of h) (.cons (.str _) (.cons (.str _) .nil))
theorem fits_dp {K : PySem.W.Frag} {H : Hp} : ∀ {as : List Addr} {fs : List (L × L)}, FitsAt H as fs → DpAll K H (as.map V.ref) (fs.map fitD)
  | _, _, .nil => .nil
  | _, _, .cons h t => .cons (fit_dp h) (fits_dp t)
theorem FitsAt.get {H : Hp} : ∀ {as : List Addr} {fs : List (L × L)} {j : Nat} {v : V}, FitsAt H as fs → (as.map V.ref)[j]? = some v → ∃ p f, v = .ref p ∧ as[j]? = some p ∧ fs[j]? = some f ∧ H p = some (.tup [.str (S f.1), .str (S f.2)])
  | _, _, _, _, .nil, e => by simp at e
  | _, _, 0, _, .cons h _, e => by
    simp at e
    exact ⟨_, _, e.symm, rfl, rfl, h⟩
  | _, _, j + 1, _, .cons _ t, e => by
    obtain ⟨p, f, h1, h2, h3, h4⟩ := FitsAt.get (j := j) t (by simpa using e)
    exact ⟨p, f, h1, by simpa using h2, by simpa using h3, h4⟩
theorem FitsAt.take {H : Hp} : ∀ {as : List Addr} {fs : List (L × L)} (j : Nat), FitsAt H as fs → FitsAt H (as.take j) (fs.take j)
  | _, _, 0, _ => .nil
  | _, _, _ + 1, .nil => .nil
  | _, _, j + 1, .cons h t => .cons h (FitsAt.take j t)
section
variable {P : Program} {w : World} {K : PySem.W.Frag} {mg : Str → Option Value} {base : Heap}
theorem scWrongFit : FnScope ["stems", "places", "fits", "met", "k", "pair"] ["stems", "places", "fits"] (C8.fnScope sWrongFit) := C8.fnScope_by (by decide +kernel)
theorem ok_wrongFit {f : Addr} {fd : FuncData} (T : Glob mg) (F : C8.Def K mg "wrong_fit" sWrongFit f fd) (b : Binds K fd ["stems", "places", "fits"] []) (cIL : C8.Cal P w K mg base 1 "is_list" spIsList []) (cIR : C8.Cal P w K mg base 1 "is_row" spIsRow []) : C8.Cal P w K mg base 2 "wrong_fit" spWrongFit [] := by
  refine C8.cal0 F b .nil scWrongFit (fun vs H Q E h => ?_) (fun cdv A outer s H vs Q E hr h => ?_)
  · obtain ⟨a, b, c, ws, ps, fs, as, rfl, _⟩ := h
    rfl
  · obtain ⟨a, b, c, ws, ps, fs, as, rfl, ha, hb, hc, ht, hfl, hok, q⟩ := h
    refine ⟨_, pss_cons (ps_if (pt_not (pt_val (C8.pe_c cIL hr (by decide) (by rfl) (pa_cons (pv 2) pa_nil)))) (pss_one (ps_ret (pe_tup (pa_cons (pe_int) pa_nil)))) pss_nil)
      (pss_cons (ps_set (i := 3) scWrongFit.nd rfl (Or.inl rfl) (pe_lst pa_nil))
      (pss_cons (ps_for PassesOwn.never rfl (pi_enum (by rfl) T.enumerate (pa_cons (pv 2) pa_nil)) (pg_tup (by rfl) (pgs_cons (pg_name (i := 4) scWrongFit.nd rfl (Or.inl rfl)) (pgs_cons (pg_name (i := 5) scWrongFit.nd rfl (Or.inl rfl)) pgs_nil))) (pss_cons (ps_if (pt_not (pt_val (C8.pe_c cIR hr (by decide) (by rfl) (pa_cons (pv 5) (pa_cons (pe_int) pa_nil))))) (pss_one (ps_ret (pe_tup (pa_cons (pe_int) (pa_cons (pv 4) pa_nil))))) pss_nil)
      (pss_cons (ps_if (pt_cmpR op_notIn_seq (pe_ix ix_tup (pv 5) (pe_int) (fun _ _ => rfl)) (pv 0) (by rfl)) (pss_one (ps_ret (pe_tup (pa_cons (pe_int) (pa_cons (pv 4) (pa_cons (pe_int) pa_nil)))))) pss_nil)
      (pss_cons (ps_if (pt_cmpR op_notIn_seq (pe_ix ix_tup (pv 5) (pe_int) (fun _ _ => rfl)) (pv 1) (by rfl)) (pss_one (ps_ret (pe_tup (pa_cons (pe_int) (pa_cons (pv 4) (pa_cons (pe_int) pa_nil)))))) pss_nil)
      (pss_cons (ps_if (pt_cmpR (op_inD (hu65 hr)) (pv 5) (pv 3) (by rfl)) (pss_one (ps_ret (pe_tup (pa_cons (pe_int) (pa_cons (pv 4) pa_nil))))) pss_nil)
      (pss_one (ps_expr (pe_bm PySem.F.plainAttrs_list PySem.F.slot_list_append PySem.F.type_list_append mt_append (pv 3) (pa_cons (pv 5) pa_nil)))))))))
      (pss_one (ps_ret (pe_non))))), ?_⟩
    have hlas : as.length = fs.length := Paired.length ht
    refine ⟨_, rfl, c, _, rfl, hc, fun H1 x1 => ⟨_, rfl, iteF ?_⟩⟩
    refine ⟨by decide, fun ma hma => ?_⟩
    have hmaH : H ma = none := fresh_back x1 hma
    have x2 : Ex H (upd H1 ma (.lst [])) := x1.trans (Ex.new hma)
    refine ⟨_, rfl, _, _, rfl, SqL.of (x2 _ _ hc), ?_⟩
    refine for_it (walk_enum (K := K) (a := c) (xs := as.map V.ref)) (fun j σ' H' => ∃ (o1 o2 : Option V), σ' = [some (.ref a), some (.ref b), some (.ref c), some (.ref ma), o1, o2] ∧ Ex H H' ∧ H' ma = some (.lst ((as.take j).map V.ref))) ⟨none, none, rfl, x2, upd_same⟩
      (fun j σ' H' _ ⟨_, _, _, x, _⟩ => SqL.of (x _ _ hc)) ?_ ?_
    · rintro j v σ' H' H3 hj ⟨o1, o2, rfl, x, hm⟩ ⟨tp, y1, y2, rfl, htp, rfl, e1, e2⟩
      obtain ⟨p, f, rfl, hp1, hf1, hp2⟩ := FitsAt.get (ht.ex x) e2
      obtain rfl : V.int ((j : Nat) : Int) = y1 := Option.some.inj e1
      have hj' : j < as.length := by simpa using hj
      refine ⟨tp, _, rfl, SqT.of upd_same, rfl, _, _, rfl, _, _, rfl, rfl, ?_⟩
      have x4 := x.trans (Ex.new (o := .tup [.int ((j : Nat) : Int), .ref p]) htp)
      have hm4 : upd H' tp (.tup [.int ((j : Nat) : Int), .ref p]) ma = some (.lst ((as.take j).map V.ref)) := by rw [upd_ne (ne_of_none hm htp)]; exact hm
      have hp4 : upd H' tp (.tup [.int ((j : Nat) : Int), .ref p]) p = some (.tup [.str (S f.1), .str (S f.2)]) := by rw [upd_ne (ne_of_none hp2 htp)]; exact hp2
      generalize upd H' tp (.tup [.int ((j : Nat) : Int), .ref p]) = H4 at x4 hm4 hp4 ⊢
      have one : ∀ y z : V, [y, z].length ≤ sizeLine := fun _ _ => by show 2 ≤ sizeLine; decide
      have two : ∀ y z u : V, [y, z, u].length ≤ sizeLine := fun _ _ _ => by show 3 ≤ sizeLine; decide
      have bad : ∀ (xs : List V) (g : Addr), H4 g = none → Q (.ref g) (upd H4 g (.tup xs)) := fun xs g hg => q _ _ (x4.trans (Ex.new hg)) (.inr ⟨g, _, rfl, upd_same⟩)
      have at0 : atI [V.str (S f.1), V.str (S f.2)] (0 : Int) = some (.str (S f.1)) := atI_nat (j := 0) rfl
      have at1 : atI [V.str (S f.1), V.str (S f.2)] (1 : Int) = some (.str (S f.2)) := atI_nat (j := 1) rfl
      -- is_row(pair, 2)
      refine ⟨_, rfl, p, _, _, rfl, hp4, _, rfl, iteF ?_⟩
      -- pair[0] not in stems
      refine ⟨_, rfl, _, _, _, _, rfl, rfl, SqT.of hp4, at0, _, rfl, a, _, rfl, .inl (SqL.of (x4 _ _ ha)), rfl, wV_flat ws, _, rfl, ?_⟩
      refine iteB rfl (fun h => ⟨_, rfl, two _ _ _, bad _⟩) (fun h => ?_)
      -- pair[1] not in places
      refine ⟨_, rfl, _, _, _, _, rfl, rfl, SqT.of hp4, at1, _, rfl, b, _, rfl, .inl (SqL.of (x4 _ _ hb)), rfl, wV_flat ps, _, rfl, ?_⟩
      refine iteB rfl (fun h => ⟨_, rfl, two _ _ _, bad _⟩) (fun h => ?_)
      -- pair in met
      refine ⟨_, rfl, _, rfl, fitD f, (fs.take j).map fitD, fit_dp hp4, .lst (SqL.of hm4) (fits_dp ((ht.ex x4).take j)), fitD_shaped (hok f (List.mem_of_getElem? hf1)), fitDs_shaped (fun g hg => hok g (List.mem_of_mem_take hg)), _, rfl, ?_⟩
      refine iteB rfl (fun h => ⟨_, rfl, one _ _, bad _⟩) (fun h => ?_)
      -- met.append(pair)
      refine ⟨_, rfl, .inl ⟨rfl, _, SqL.of hm4⟩, _, rfl, _, _, _, rfl, rfl, hm4, ?_, ?_⟩
      · rw [List.length_map, List.length_take]
        exact sz_lt (by omega)
      refine ⟨_, _, rfl, x4.mut hmaH, ?_⟩
      rw [upd_same, List.take_add_one, hp1, List.map_append]
      rfl
    · rintro σ' H' ⟨o1, o2, rfl, x, _⟩
      exact q _ _ x (.inl rfl)
theorem scFirstWrong : FnScope ["stems", "places", "fits", "path"] ["stems", "places", "fits"] (C8.fnScope sFirstWrong) := C8.fnScope_by (by decide +kernel)
theorem ok_firstWrong {f : Addr} {fd : FuncData} (F : C8.Def K mg "first_wrong" sFirstWrong f fd) (b : Binds K fd ["stems", "places", "fits"] []) (cWC : C8.Cal P w K mg base 2 "wrong_colour" spWrongColour []) (cWF : C8.Cal P w K mg base 2 "wrong_fit" spWrongFit []) : C8.Cal P w K mg base 3 "first_wrong" spFirstWrong [] := by
  refine C8.cal0 F b .nil scFirstWrong (fun vs H Q E h => ?_) (fun cdv A outer s H vs Q E hr h => ?_)
  · obtain ⟨a, b, c, ws, ps, fs, as, rfl, _⟩ := h
    rfl
  · obtain ⟨a, b, c, ws, ps, fs, as, rfl, ha, hb, hc, ht, hfl, hok, hw1, hw2, hp1, hp2, q⟩ := h
    refine ⟨_, pss_cons (ps_set (i := 3) scFirstWrong.nd rfl (Or.inl rfl) (C8.pe_c cWC hr (by decide) (by rfl) (pa_cons (pv 0) (pa_cons (pe_int) pa_nil))))
      (pss_cons (ps_if (pt_cmpR op_isN (pv 3) (pe_non) (nomark _)) (pss_one (ps_set (i := 3) scFirstWrong.nd rfl (Or.inl rfl) (C8.pe_c cWC hr (by decide) (by rfl) (pa_cons (pv 1) (pa_cons (pe_int) pa_nil))))) pss_nil)
      (pss_one (ps_ret (pe_ifExp (pt_cmpR op_isN (pv 3) (pe_non) (nomark _)) (C8.pe_c cWF hr (by decide) (by rfl) (pa_cons (pv 0) (pa_cons (pv 1) (pa_cons (pv 2) pa_nil)))) (pv 3))))), ?_⟩
    refine ⟨_, rfl, a, ws, 0, rfl, ha, hw1, hw2, fun v1 H1 x1 o1 => ?_⟩
    -- the end, path at v
    have fin : ∀ v H2, Ex H H2 → (v = .non ∨ ∃ p xs, v = .ref p ∧ H2 p = some (.tup xs)) → (tRet (tIf (tTest (tOp rIsN (tVar 3) (tC .non))) (tCall spWrongFit [] C8.E0 (tCons (tVar 0) (tCons (tVar 1) (tCons (tVar 2) tNil)))) (tVar 3))) { nx := fun _ H' => Q .non H', rt := Q } [some (.ref a), some (.ref b), some (.ref c), some v] H2 := by
      intro v H2 x2 o2
      refine ⟨_, rfl, rfl, _, rfl, ?_⟩
      refine iteB rfl (fun h => ?_) (fun h => ?_)
      · exact ⟨_, rfl, _, rfl, _, rfl, a, b, c, ws, ps, fs, as, rfl, x2 _ _ ha, x2 _ _ hb, x2 _ _ hc, ht.ex x2, hfl, hok, fun v3 H3 x3 o3 => q _ _ (x2.trans x3) o3⟩
      · exact ⟨_, rfl, q _ _ x2 o2⟩
    refine ⟨_, rfl, rfl, _, rfl, ?_⟩
    refine iteB rfl (fun h => ?_) (fun h => fin v1 H1 x1 o1)
    exact ⟨_, rfl, b, ps, 1, rfl, x1 _ _ hb, hp1, hp2, fun v2 H2 x2 o2 => fin v2 H2 (x1.trans x2) o2⟩
end
end Kin
/-! {k: v for .. in ..} whose keys are tuples of texts and ints -/
namespace Kin
open PySem PySem.Spec PyProof.Rows L2 SX Evl
section
variable {X : Cx}
/-- one pair stored by the comprehension's turn -/
theorem t_store {pins : List (Addr × Obj)} {τ : L2.St} {H : Hp} {s : Shared} {E : Value → Shared → Prop} {d q : Addr} {ps : List (List Key × V)} {ky : List Key} {y : V} {r : Value} {Q : Unit → Shared → Prop} (hu : X.A.units < cLine) (I : Inv X pins τ H s) (hd : H d = some (.dT ps)) (hz : ps.length < sizeLine)
    (hq : H q = some (.tup (ky.map kV))) (rv : RelV y r) (h : ∀ s', Inv X pins τ (upd H d (.dT (putK ps ky y))) s' → Q () s') : wpAny (model X.prog X.w) X.A (dictSet d (.ref q) r) Q E s := by
  obtain ⟨_, nsys, xs, rel, dd⟩ := dt_of I.hok hd
  have lp : (putK ps ky y).length ≤ sizeLine := Nat.le_trans (length_putK ps ky y) hz
  have lx : xs.length ≤ sizeLine := by rw [← Paired.length rel]; exact Nat.le_of_lt hz
  refine wpAny_dictSet_heap (knd := tupleKind (mixKind X.prog X.w)) (hsz := lx) hu (key_of I.hok hq) dd fun h' dd' hs => h _ ?_
  obtain ⟨o, es, ep, g1, g2, g3, g4, _, g5⟩ := dd'
  have keep : ∀ c ys, H c = some (.tup ys) → upd H d (.dT (putK ps ky y)) c = some (.tup ys) := fun c ys e => by
    rw [upd_ne (ne_of e hd (by intro z; cases z))]
    exact e
  exact d_write I (by rw [hd]; exact True.intro) hs ⟨o, g1⟩ ⟨lp, nsys, _, (rel.put ky hq rv).keeps keep, o, es, ep, g1, g2, g3, g4, g5⟩
/-- the reading: d the new dict -/
def tDcT (wi : TI) (g : TG) (tk tv : TE) (vs : List Nat) : TE := fun τ H Q => wi τ H fun J H1 => ∀ d, H1 d = none → ∃ W : Nat → Nat → Hp → Prop, (∃ m, W 0 m (upd H1 d (.dT []))) ∧ ∀ i m H2, W i m H2 →
  (J.stop i H2 ∧ Q (.ref d) H2) ∨ (J.go i H2 ∧ ∃ Nx : Hp → Prop, (∀ H3, Nx H3 → ∃ m', m' < m ∧ W (i + 1) m' H3) ∧ ∀ x H3, J.yld i H2 x H3 → g x (wipe τ vs) H3 fun τ4 H4 => wipe τ4 vs = wipe τ vs ∧
    tk τ4 H4 fun y H5 => tv τ4 H5 fun z H6 => ∃ ps ky q, y = .ref q ∧ H6 q = some (.tup (ky.map kV)) ∧ H6 d = some (.dT ps) ∧ ps.length < sizeLine ∧ Nx (upd H6 d (.dT (putK ps ky z))))
theorem pe_dcT {kx vx tg iter : Expr} {scope : Scope} {own : List (Str × Nat)} {pos : Pos} {wi : TI} {g : TG} {tk tv : TE} (hu : X.A.units < cLine) (hc : X.calm = true) (hN : X.N.Nodup) (hi : PI X tg iter wi) (ok : BlkOk X.N X.env.scope scope own)
    (hg : ∀ (s : Shared) (H : Hp) (C : Addr) (cl : List (Str × Addr)) (fp : List Addr), PG (X.blk s H scope (compEnvC scope cl C X.env) fp) tg g)
    (hk : ∀ (s : Shared) (H : Hp) (C : Addr) (cl : List (Str × Addr)) (fp : List Addr), PE (X.blk s H scope (compEnvC scope cl C X.env) fp) kx tk)
    (he : ∀ (s : Shared) (H : Hp) (C : Addr) (cl : List (Str × Addr)) (fp : List Addr), PE (X.blk s H scope (compEnvC scope cl C X.env) fp) vx tv) (hs : ∀ x, foldedSetIterable iter X.env x = pure x := by intro _; rfl) :
    PE X (.DictComp kx vx [⟨tg, iter, [], 0⟩] scope pos) (tDcT wi g tk tv (own.map (·.2))) := by
  refine ⟨fun pins s τ H Q I h => ?_⟩
  have frees : ∀ y ∈ scope.names, y.2 = .free → ∃ c, X.env.cells.lookup y.1 = some c := fun y hy e => (ok.free y hy e).elim (fun z => I.ok.has _ (.inl z)) fun z => I.ok.has _ (.inr z)
  rw [arm_eval_DictComp]
  -- the walked thing first
  refine wpAny_comprehension_free (use := none) rfl hs (closure_ok frees) ok.kind (fun y hy e => by rw [ok.uniq y hy, e]) (thn (hi.run pins s τ H _ I h) fun xv sa hx => thn hx fun itv sb hb => ?_)
  obtain ⟨it, fp, tn, J, Hb, e, Ib, T, stb, fb, q⟩ := hb
  subst e
  refine wpAny_newObj_type (newEnv_comp ?_)
  have dn : Hb sb.heap.objs.size = none := Ib.hok.fresh (Nat.le_refl _)
  have q' := q _ dn
  have Ic0 := Ib.laid (a := sb.heap.objs.size) (o := .dT []) (h' := sb.heap.push { cls := .type "dict", data := .dict #[] }) (t' := sb.toks) (fun b o e => Heap.get?_push_of_some _ e) (Nat.le_refl _) (dt_empty sb.heap Ib.big)
  have hsc : ∃ sc : Shared, sc = { sb with heap := sb.heap.push { cls := .type "dict", data := .dict #[] } } := ⟨_, rfl⟩
  obtain ⟨sc, esc⟩ := hsc
  have Ic : Inv X pins τ (upd Hb sb.heap.objs.size (.dT [])) sc := by rw [esc]; exact Ic0
  have push1 : ∀ b o, sb.heap.get? b = some o → sc.heap.get? b = some o := fun b o e => by rw [esc]; exact Heap.get?_push_of_some _ e
  have szc : sc.heap.objs.size = sb.heap.objs.size + 1 := by rw [esc, Heap.size_push]
  have below : ∀ b ∈ fp, b < sb.heap.objs.size := fun b hb => by
    obtain ⟨o, e, _⟩ := T.obj _ _ stb b hb
    exact Heap.lt_size e
  rw [← esc]
  generalize sb.heap.objs.size = d at q' Ic szc below ⊢
  obtain ⟨W, ⟨m0, w0⟩, turn⟩ := q'
  have fc : ∀ b ∈ fp, FpOk X pins (upd Hb d (.dT [])) b ∧ b < sc.heap.objs.size := fun b hb => by
    have lt := below b hb
    exact ⟨⟨by rw [upd_ne (Nat.ne_of_lt lt)]; exact (fb b hb).1, (fb b hb).2⟩, by rw [szc]; exact Nat.lt_succ_of_lt lt⟩
  have stc : tn 0 sc.heap := T.keep _ _ _ stb fun b _ o e => push1 b o e
  -- the block
  have Id := block_start Ic ok hN fc
  show codeAny _ _ (.compStart (.DictComp kx vx [⟨tg, iter, [], 0⟩] scope pos) 0 (.ref it) (.ref d) (compEnvC scope (cellsFrom (sc.heap.objs.size + 1) scope.names (cloFrom X.env.cells scope.names [])) sc.heap.objs.size X.env)) (compPost (model X.prog X.w) X.A X.xe none _ (.ref d) sc.heap.objs.size) { sc with heap := pushCells (sc.heap.push { cls := .type "dict", data := .dict #[] }) scope.names }
  have pg := hg sc (upd Hb d (.dT [])) sc.heap.objs.size (cellsFrom (sc.heap.objs.size + 1) scope.names (cloFrom X.env.cells scope.names [])) fp
  have pk := hk sc (upd Hb d (.dT [])) sc.heap.objs.size (cellsFrom (sc.heap.objs.size + 1) scope.names (cloFrom X.env.cells scope.names [])) fp
  have pv := he sc (upd Hb d (.dT [])) sc.heap.objs.size (cellsFrom (sc.heap.objs.size + 1) scope.names (cloFrom X.env.cells scope.names [])) fp
  have cloc : (compEnvC scope (cellsFrom (sc.heap.objs.size + 1) scope.names (cloFrom X.env.cells scope.names [])) sc.heap.objs.size X.env).locals = sc.heap.objs.size := rfl
  generalize compEnvC scope (cellsFrom (sc.heap.objs.size + 1) scope.names (cloFrom X.env.cells scope.names [])) sc.heap.objs.size X.env = ce at Id pg pk pv cloc ⊢
  have nofp : ∀ b ∈ fp, upd Hb d (.dT []) b = none := fun b hb => (fc b hb).1.1
  generalize upd Hb d (.dT []) = Hc at w0 Ic fc Id pg pk pv nofp
  generalize es4 : ({ sc with heap := pushCells (sc.heap.push { cls := .type "dict", data := .dict #[] }) scope.names } : Shared) = sd at Id ⊢
  have std : tn 0 sd.heap := by rw [← es4]; exact T.keep _ _ _ stc fun b _ o e => pushCells_keeps _ _ _ _ (Heap.get?_push_of_some _ e)
  have stat : ∀ {σ' : L2.St} {H' : Hp} {s' : Shared}, Inv (X.blk sc Hc scope ce fp) [] σ' H' s' → (∀ b ∈ fp, H' b = none) → ∀ b ∈ fp, FpOk (X.blk sc Hc scope ce fp) [] H' b := fun {_ H' _} J' hn b hb => by
    have xf := J'.ok.exf b hb
    exact ⟨hn b hb, xf.1, J'.ok.exfs b hb, .inl hb, fun x c e => xf.2 x c e, fun p hp => absurd (show p ∈ ([] : List (Addr × Obj)) ++ [] from hp) (by simp)⟩
  have loop : codeAny (model X.prog X.w) X.A (.compLoop (.DictComp kx vx [⟨tg, iter, [], 0⟩] scope pos) 0 (.ref it) (.ref d) ce) (compPost (model X.prog X.w) X.A X.xe none (fun v s' => ∃ x H', Inv X pins τ H' s' ∧ RelV x v ∧ Q x H') (.ref d) sc.heap.objs.size) sd := by
    refine compLoop_anyD (fun n s' => ∃ i H', Inv (X.blk sc Hc scope ce fp) [] (wipe τ (own.map (·.2))) H' s' ∧ tn i s'.heap ∧ (∀ b ∈ fp, H' b = none) ∧ W i n H') ?_ m0 ⟨0, Hc, Id, std, nofp, w0⟩
    rintro n s5 ⟨i, H5, I5, st5, n5, w5⟩
    rcases turn i n H5 w5 with ⟨hstop, hq⟩ | ⟨hgo, Nx, next, step⟩
    · refine thnF (T.done (X.blk sc Hc scope ce fp) rfl rfl rfl hc i [] s5 _ H5 (fun _ _ => False) I5 (stat I5 n5) st5 hstop) fun r s6 ⟨hr, I6⟩ => ?_
      subst hr
      have nC : H5 sc.heap.objs.size = none := by rw [← cloc]; exact I6.free
      obtain ⟨m, hn, _⟩ := I6.loc
      have hn' : s6.heap.Ns sc.heap.objs.size m := by rw [← cloc]; exact hn
      obtain ⟨f0, f1, f2, f3, f4, f5⟩ := Ic.fpOk (Nat.le_refl _) nC
      have I7 : Inv X pins τ H5 s6 := Ic.call' (ch := fp) I6.os I6.base I6.hok I6.bare fun b hb => by
        obtain ⟨_, g1, g2, g3, g4, g5⟩ := (fc b hb).1
        exact ⟨g3, g1, g4, g5⟩
      refine ⟨m, hn', fun h'' sb => ?_⟩
      exact ⟨.ref d, H5, I7.turned (t' := s6.toks) (fun b o hb e => (sb.2 b hb).trans e) f0 f1 f3 f4 f5, rfl, hq⟩
    · refine thnF (T.item (X.blk sc Hc scope ce fp) rfl rfl rfl hc i [] s5 _ H5 (fun _ _ => False) I5 (stat I5 n5) st5 hgo) fun r s6 ⟨u, hr, h6⟩ => ?_
      subst hr
      refine thnF h6 fun _ s7 ⟨x, H7, I7, r7, y7, st7, n7⟩ => ?_
      refine thnF (pg.run _ s7 _ H7 x u _ (I7.pinned (stat I7 n7) (T.obj _ _ st7)) r7 (step x H7 y7)) fun _ s8 ⟨σ8, H8, I8, hw8, q8⟩ => ?_
      refine wpAny_tests_nil ?_
      simp only [if_true]
      refine thnF (pk.run _ s8 σ8 H8 _ I8 q8) fun z s10 ⟨yk, H10, I10, r10, q10⟩ => ?_
      refine thnF (pv.run _ s10 σ8 H10 _ I10 q10) fun z2 s11 ⟨yv, H11, I11, r11, ps, ky, q, ek, hq, hd, hz, nx⟩ => ?_
      subst ek
      obtain rfl : z = Value.ref q := r10
      refine t_store (X := X.blk sc Hc scope ce fp) hu I11 hd hz hq r11 fun s12 I12 => ?_
      obtain ⟨m', lt, w'⟩ := next _ nx
      have pin' : ∀ b ∈ fp, ∀ o, s7.heap.get? b = some o → s12.heap.get? b = some o ∧ (upd H11 d (.dT (putK ps ky yv))) b = none := fun b hb o e =>
        let z := I12.pin (b, o) (List.mem_append_right _ (List.mem_append_right _ (mem_pinsAt hb e)))
        ⟨z.1, z.2.1⟩
      have len : (wipe τ (own.map (·.2))).length = σ8.length := by rw [← hw8, wipe_length]
      refine ⟨m', lt, i + 1, _, (I12.unpinned (pins := [])).weak len (fun j v e => ?_), T.keep _ _ _ st7 fun b hb o e => (pin' b hb o e).1, fun b hb => ?_, w'⟩
      · rw [← hw8] at e
        exact (wipe_some e).1
      · obtain ⟨o, e, _⟩ := T.obj _ _ st7 b hb
        exact (pin' b hb o e).2
  exact codeAny_compStart_dict loop (T.self X.A 0 _ _ _ std loop)
end
end Kin
namespace Kin
open PySem L2 SX Evl
/-- the block of the comprehension of own_fits -/
abbrev dcSc : Scope := { kind := .function, names := [(".0", .local), ("stem", .cell), ("known", .cell), ("places", .cell)], isGenerator := false, isCoroutine := false }
structure TableT (K : PySem.W.Frag) (mg : Str → Option Value) (C : Addr) : Prop where
  cl : Cls K C
  n1 : NoAttr K C "own_stems"
  n2 : NoAttr K C "own_places"
  n3 : NoAttr K C "own_fits"
  mgC : mg "Table" = some (.ref C)
section
variable {J : It} {n : Nat} {G : Hp → Prop} {Y : Nat → Hp → V → Hp → Prop}
theorem dcT_it (w : Walk J n G Y) {g : TG} {tk tv : TE} {vs : List Nat} {σ : L2.St} {H1 : Hp} {d : Addr} {Qd : Hp → Prop} (Pv : Nat → Hp → Prop) (h0 : Pv 0 (upd H1 d (.dT []))) (hG : ∀ i H, i ≤ n → Pv i H → G H)
    (hs : ∀ i x H H', i < n → Pv i H → Y i H x H' → g x (wipe σ vs) H' fun τ4 H4 => wipe τ4 vs = wipe σ vs ∧ tk τ4 H4 fun y H5 => tv τ4 H5 fun z H6 => ∃ ps ky q, y = .ref q ∧ H6 q = some (.tup (ky.map kV)) ∧ H6 d = some (.dT ps) ∧ ps.length < sizeLine ∧ Pv (i + 1) (upd H6 d (.dT (putK ps ky z)))) (hd : ∀ H, Pv n H → Qd H) :
    ∃ W : Nat → Nat → Hp → Prop, (∃ m, W 0 m (upd H1 d (.dT []))) ∧ ∀ i m H2, W i m H2 →
      (J.stop i H2 ∧ Qd H2) ∨ (J.go i H2 ∧ ∃ Nx : Hp → Prop, (∀ H3, Nx H3 → ∃ m', m' < m ∧ W (i + 1) m' H3) ∧ ∀ x H3, J.yld i H2 x H3 → g x (wipe σ vs) H3 fun τ4 H4 => wipe τ4 vs = wipe σ vs ∧
        tk τ4 H4 fun y H5 => tv τ4 H5 fun z H6 => ∃ ps ky q, y = .ref q ∧ H6 q = some (.tup (ky.map kV)) ∧ H6 d = some (.dT ps) ∧ ps.length < sizeLine ∧ Nx (upd H6 d (.dT (putK ps ky z)))) := by
  refine ⟨fun i m H => m = n - i ∧ i ≤ n ∧ Pv i H, ⟨n, rfl, Nat.zero_le _, h0⟩, ?_⟩
  rintro i m H ⟨rfl, hi, p⟩
  rcases Nat.lt_or_ge i n with lt | ge
  · exact .inr ⟨w.goes i H lt (hG i H hi p), Pv (i + 1), fun H' p' => ⟨n - (i + 1), by omega, rfl, lt, p'⟩, fun x H' y => hs i x H H' lt p (w.yields i H x H' lt (hG i H hi p) y)⟩
  · obtain rfl : i = n := Nat.le_antisymm hi ge
    exact .inl ⟨w.stops H (hG i H hi p), hd H p⟩
theorem dc_it (w : Walk J n G Y) {g : TG} {tt : TT} {tk tv : TE} {vs : List Nat} {σ : L2.St} {H1 : Hp} {d : Addr} {Qd : Hp → Prop} (Pv : Nat → Hp → Prop) (h0 : Pv 0 (upd H1 d (.dK []))) (hG : ∀ i H, i ≤ n → Pv i H → G H)
    (hs : ∀ i x H H', i < n → Pv i H → Y i H x H' → g x (wipe σ vs) H' fun τ4 H4 => wipe τ4 vs = wipe σ vs ∧ tt τ4 H4 fun b H3 => if b = true then tk τ4 H3 fun y H5 => tv τ4 H5 fun z H6 => ∃ ps ky, y = kV ky ∧ H6 d = some (.dK ps) ∧ ps.length < sizeLine ∧ Pv (i + 1) (upd H6 d (.dK (putK ps ky z))) else Pv (i + 1) H3) (hd : ∀ H, Pv n H → Qd H) :
    ∃ W : Nat → Nat → Hp → Prop, (∃ m, W 0 m (upd H1 d (.dK []))) ∧ ∀ i m H2, W i m H2 →
      (J.stop i H2 ∧ Qd H2) ∨ (J.go i H2 ∧ ∃ Nx : Hp → Prop, (∀ H3, Nx H3 → ∃ m', m' < m ∧ W (i + 1) m' H3) ∧ ∀ x H3, J.yld i H2 x H3 → g x (wipe σ vs) H3 fun τ4 H4 => wipe τ4 vs = wipe σ vs ∧
        tt τ4 H4 fun b H3 => if b = true then tk τ4 H3 fun y H5 => tv τ4 H5 fun z H6 => ∃ ps ky, y = kV ky ∧ H6 d = some (.dK ps) ∧ ps.length < sizeLine ∧ Nx (upd H6 d (.dK (putK ps ky z))) else Nx H3) := by
  refine ⟨fun i m H => m = n - i ∧ i ≤ n ∧ Pv i H, ⟨n, rfl, Nat.zero_le _, h0⟩, ?_⟩
  rintro i m H ⟨rfl, hi, p⟩
  rcases Nat.lt_or_ge i n with lt | ge
  · exact .inr ⟨w.goes i H lt (hG i H hi p), Pv (i + 1), fun H' p' => ⟨n - (i + 1), by omega, rfl, lt, p'⟩, fun x H' y => hs i x H H' lt p (w.yields i H x H' lt (hG i H hi p) y)⟩
  · obtain rfl : i = n := Nat.le_antisymm hi ge
    exact .inl ⟨w.stops H (hG i H hi p), hd H p⟩
end
def spTInit (CF CT : Addr) : Sp := fun vs H Q E => ∃ (x dx a b c : Addr) (ws ps : List L) (fs : List (L × L)) (as : List Addr), vs = [.ref x, .ref a, .ref b, .ref c] ∧ H x = some (.ins CT dx []) ∧ H a = some (.lst (wV ws)) ∧ H b = some (.lst (wV ps)) ∧ H c = some (.lst (as.map V.ref)) ∧ FitsAt H as fs ∧ fs.length ≤ 60000 ∧
  (∀ f ∈ fs, okW f.1 ∧ okW f.2) ∧ (∀ x ∈ ws, x.length ≤ 50000) ∧ ws.length ≤ 60000 ∧ (∀ x ∈ ps, x.length ≤ 50000) ∧ ps.length ≤ 60000 ∧
  (∀ d fs H', H d = none → ExB x H H' → H' d = some (.xd fs) → E (.ref CF) (some d) H') ∧ ∀ H', ExB x H H' → Q .non H'
theorem ex_old {H H' : Hp} {x : Addr} {o : HO} (hx : H x = some o) (e : Ex H H') {d : Addr} (hd : H' d = none) : H d = none := fresh_back e hd
theorem exB_mut {H H' : Hp} {x d : Addr} {o : HO} (h : ExB x H H') (hd : H d = none) : ExB x H (upd H' d o) := fun b u n hb => by rw [upd_ne (ne_of_none hb hd)]; exact h b u n hb
theorem putK_len {α : Type} [DecidableEq α] (ps : List (α × V)) (k : α) (v : V) : (putK ps k v).length ≤ ps.length + 1 := length_putK ps k v
section
variable {w : World} {K : PySem.W.Frag} {mg : Str → Option Value} {base : Heap} {CT CF fI cc cda : Addr}
theorem scTInit : FnScope ["self", "stems", "places", "fits", "path", "known", "pair", "stem", "place"] ["self", "stems", "places", "fits"] (C8.fnScope sTInit) := C8.fnScope_by (by decide +kernel)
theorem ok_tInit {f : Addr} {fd : FuncData} (T : Glob mg) (TT : TableT K mg CT) (T3 : ExcT K mg "BadFits" "path" CF fI cc cda sBadFits) (M : Mk K CT f) (F : C8.Fun K "__init__" "Table.__init__" sTInit f fd) (b : Binds K fd ["self", "stems", "places", "fits"] [])
    (cF : C8.Cal prg w K mg base 3 "first_wrong" spFirstWrong []) : MakX prg w K mg base 5 "Table" CT (spTInit CF CT) := by
  refine makX0 M TT.mgC F b scTInit (fun vs H Q E h => ?_) (fun cdv A outer s H vs Q E hr h => ?_)
  · obtain ⟨x, dx, a, b, c, ws, ps, fs, as, rfl, _⟩ := h
    rfl
  · obtain ⟨x, dx, a, b, c, ws, ps, fs, as, rfl, hx, ha, hb, hc, ht, hfl, hok, hw1, hw2, hp1, hp2, qE, q⟩ := h
    have tk := takes_of (X := cxOf (L2.CX prg w) prg w K mg base ["self", "stems", "places", "fits", "path", "known", "pair", "stem", "place"] "Table.__init__" (C8.fnScope sTInit) f cdv A outer s H E) (E := E) rfl rfl rfl rfl
    have hu : (cxOf (L2.CX prg w) prg w K mg base ["self", "stems", "places", "fits", "path", "known", "pair", "stem", "place"] "Table.__init__" (C8.fnScope sTInit) f cdv A outer s H E).A.units + 1 < cLine := Nat.lt_of_le_of_lt (Nat.add_le_add_left (by decide : 1 ≤ 65) _) (hu65 hr)
    refine ⟨_, pss_cons (ps_set (i := 4) scTInit.nd rfl (Or.inl rfl) (C8.pe_c cF hr (by decide) (by rfl) (pa_cons (pv 1) (pa_cons (pv 2) (pa_cons (pv 3) pa_nil)))))
      (pss_cons (ps_if (pt_cmpR op_notN (pv 4) (pe_non) (nomark _)) (pss_one (ps_raiseE rfl tk (pmk_badFits rfl T.tuple T3 hr (pa_cons (pv 4) pa_nil)))) pss_nil)
      (pss_cons (ps_fld (pv 0) (pe_callTy call_tuple_of (by rfl) T.tuple (by decide +kernel) (pa_cons (pv 1) pa_nil)) rfl)
      (pss_cons (ps_fld (pv 0) (pe_callTy call_tuple_of (by rfl) T.tuple (by decide +kernel) (pa_cons (pv 2) pa_nil)) rfl)
      (pss_cons (ps_set (i := 5) scTInit.nd rfl (Or.inr rfl) (pe_dcT (own := [("pair", 6)]) (Nat.lt_of_succ_lt hu) (by rfl) scTInit.nd (pi_list (pv 3)) (blkOk_by (own := [("pair", 6)]) (N := ["self", "stems", "places", "fits", "path", "known", "pair", "stem", "place"]) (sc := C8.fnScope sTInit) (by decide +kernel)) (fun _ _ _ _ _ => (pg_name (i := 6) scTInit.nd rfl (Or.inl rfl))) (fun _ _ _ _ _ => (pv 6)) (fun _ _ _ _ _ => (pe_bl))))
      (pss_one (ps_fld (pv 0) (pe_dc (tv := tLc (iList K (tVar 2)) (gName 8) (tTest (tDIn (tTup (tCons (tVar 7) (tCons (tVar 8) tNil))) (tVar 5))) (tVar 8) [8]) (own := [("stem", 7)]) (tt := tYes) (by rfl) scTInit.nd (pi_list (pv 1)) (blkOk_by (own := [("stem", 7)]) (N := ["self", "stems", "places", "fits", "path", "known", "pair", "stem", "place"]) (sc := C8.fnScope sTInit) (by decide +kernel)) (fun _ _ _ _ _ => (pg_name (i := 7) scTInit.nd rfl (Or.inr rfl))) (fun _ _ _ _ _ => pts_nil) (fun _ _ _ _ _ => (pv 7)) ?inner) rfl)))))), ?_⟩
    case inner =>
      intro s1 H1 C1 cl fp
      refine pe_lc (own := [("place", 8)]) (by rfl) scTInit.nd (pi_list (pv 2)) (blkOk_by (own := [("place", 8)]) (N := ["self", "stems", "places", "fits", "path", "known", "pair", "stem", "place"]) (sc := dcSc) (by decide +kernel)) (fun _ _ _ _ _ => pg_name (i := 8) scTInit.nd rfl (Or.inl rfl)) (fun _ _ _ _ _ => pts_one (pt_cmp (pc_din hu (pe_tup (pa_cons (pv 7) (pa_cons (pv 8) pa_nil))) (pv 5)))) (fun _ _ _ _ _ => pv 8)
    refine ⟨_, rfl, _, rfl, _, rfl, a, b, c, ws, ps, fs, as, rfl, ha, hb, hc, ht, hfl, hok, hw1, hw2, hp1, hp2, fun v H1 x1 o1 => ?_⟩
    have old : ∀ {H' : Hp} {d : Addr} {o : HO}, ExB x H H' → H' x = some o → H' d = none → H d = none := fun {H' d o} e ex n => by
      cases q : H d with
      | none => rfl
      | some u =>
        have ne : d ≠ x := fun z => by rw [z, ex] at n; cases n
        rw [e d u ne q] at n
        cases n
    have hax : a ≠ x := ne_of ha hx (by intro z; cases z)
    have hbx : b ≠ x := ne_of hb hx (by intro z; cases z)
    have hcx : c ≠ x := ne_of hc hx (by intro z; cases z)
    refine ⟨_, rfl, rfl, _, rfl, ?_⟩
    refine iteB rfl (fun h => ?_) (fun h => ?_)
    · -- wrong
      rcases o1 with rfl | ⟨p, xs, rfl, hp⟩
      · cases h
      · refine ⟨_, rfl, _, rfl, ⟨p, _, rfl, SqT.of hp⟩, fun d hd => ?_⟩
        exact qE d _ _ (fresh_back x1 hd) (ExB.of (x1.trans (Ex.new hd))) upd_same
    -- own_stems
    refine ⟨_, rfl, _, _, rfl, .inl ⟨SqL.of (x1 _ _ ha), fun l1 hl1 => ?_⟩⟩
    have hx1 := x1 _ _ hx
    have e2 := x1.trans (Ex.new (o := .tup (wV ws)) hl1)
    have hx2 := e2 _ _ hx
    generalize upd H1 l1 (.tup (wV ws)) = H2 at e2 hx2 ⊢
    refine ⟨_, rfl, x, CT, dx, _, rfl, hx2, TT.cl, TT.n1, (by show 0 < 1000; decide), ?_⟩
    have e3 : ExB x H (upd H2 x (.ins CT dx (putF "own_stems" (.ref l1) []))) := (ExB.of e2).trans (ExB.put x H2 _)
    have hx3 : upd H2 x (.ins CT dx (putF "own_stems" (.ref l1) [])) x = some (.ins CT dx (putF "own_stems" (.ref l1) [])) := upd_same
    generalize upd H2 x (.ins CT dx (putF "own_stems" (.ref l1) [])) = H3 at e3 hx3 ⊢
    -- own_places
    refine ⟨_, rfl, _, _, rfl, .inl ⟨SqL.of (e3 _ _ hbx hb), fun l2 hl2 => ?_⟩⟩
    have e4 := e3.trans (ExB.of (Ex.new (o := .tup (wV ps)) hl2))
    have hx4 := (Ex.new (o := .tup (wV ps)) hl2) _ _ hx3
    generalize upd H3 l2 (.tup (wV ps)) = H4 at e4 hx4 ⊢
    refine ⟨_, rfl, x, CT, dx, _, rfl, hx4, TT.cl, TT.n2, (by show 1 < 1000; decide), ?_⟩
    have e5 := e4.trans (ExB.put x H4 (.ins CT dx (putF "own_places" (.ref l2) (putF "own_stems" (.ref l1) []))))
    have hx5 : upd H4 x (.ins CT dx (putF "own_places" (.ref l2) (putF "own_stems" (.ref l1) []))) x = some _ := upd_same
    generalize upd H4 x (.ins CT dx (putF "own_places" (.ref l2) (putF "own_stems" (.ref l1) []))) = H5 at e5 hx5 ⊢
    -- known
    refine ⟨_, rfl, c, rfl, ⟨_, SqL.of (e5 _ _ hcx hc)⟩, fun d1 hd1 => ?_⟩
    have hlas : as.length = fs.length := Paired.length ht
    have hd1H := old e5 hx5 hd1
    have hd1x : d1 ≠ x := fun z => by rw [z, hx] at hd1H; cases hd1H
    refine dcT_it walk_list (fun j H' => ExB x H H' ∧ H' x = some (.ins CT dx (putF "own_places" (.ref l2) (putF "own_stems" (.ref l1) []))) ∧ ∃ kv : List (List Key × V), H' d1 = some (.dT kv) ∧ kv.length ≤ j) ⟨e5.trans (ExB.of (Ex.new hd1)), by rw [upd_ne (Ne.symm hd1x)]; exact hx5, [], upd_same, Nat.le_refl _⟩
      (fun i H' _ z => SqL.of (z.1 _ _ hcx hc)) ?_ ?_
    · rintro j v H6 H7 hj ⟨e6, hx6, kv, hk6, hkl⟩ ⟨rfl, hv⟩
      have ht6 : FitsAt H7 as fs := ht.exB (fun xs z => by rw [hx] at z; cases z) e6
      obtain ⟨p, f, rfl, _, hf1, hp2⟩ := FitsAt.get ht6 hv
      rw [List.length_map] at hj
      refine ⟨rfl, _, rfl, kv, [.inr (S f.1), .inr (S f.2)], p, rfl, hp2, hk6, sz_lt (by omega), exB_mut e6 hd1H, ?_, _, upd_same, ?_⟩
      · rw [upd_ne (Ne.symm hd1x)]
        exact hx6
      · exact Nat.le_trans (putK_len _ _ _) (by omega)
    rintro H6 ⟨e6, hxx, kv, hk6, hkl⟩
    -- own_fits
    refine ⟨_, rfl, a, rfl, ⟨_, SqL.of (e6 _ _ hax ha)⟩, fun d2 hd2 => ?_⟩
    have hd2H := old e6 hxx hd2
    have hd2x : d2 ≠ x := fun z => by rw [z, hx] at hd2H; cases hd2H
    refine dc_it walk_list (fun j H' => ExB x H H' ∧ H' x = some (.ins CT dx (putF "own_places" (.ref l2) (putF "own_stems" (.ref l1) []))) ∧ H' d1 = some (.dT kv) ∧ ∃ ks : List (Key × V), H' d2 = some (.dK ks) ∧ ks.length ≤ j) ⟨e6.trans (ExB.of (Ex.new hd2)), by rw [upd_ne (Ne.symm hd2x), hxx], (Ex.new hd2) _ _ hk6, [], upd_same, Nat.le_refl _⟩
      (fun i H' _ z => SqL.of (z.1 _ _ hax ha)) ?_ ?_
    · rintro j v H7 H8 hj ⟨e7, hx7, hk7, ks, hd7, hkl7⟩ ⟨rfl, hv⟩
      obtain ⟨z, rfl, _, _⟩ := wV_get hv
      have lws : (wV ws).length = ws.length := List.length_map ..
      have lps : (wV ps).length = ps.length := List.length_map ..
      refine ⟨rfl, tYes_go ?_⟩
      refine ⟨_, rfl, ?_⟩
      refine ⟨_, rfl, b, rfl, ⟨_, SqL.of (e7 _ _ hbx hb)⟩, fun g hg => ?_⟩
      have hgH := old e7 hx7 hg
      have hgx : g ≠ x := fun z => by rw [z, hx] at hgH; cases hgH
      refine lc_it walk_list (fun i H' => ExB x H H' ∧ H' x = some (.ins CT dx (putF "own_places" (.ref l2) (putF "own_stems" (.ref l1) []))) ∧ H' d1 = some (.dT kv) ∧ H' d2 = some (.dK ks) ∧ ∃ acc : List V, H' g = some (.lst acc) ∧ acc.length ≤ i)
        ⟨e7.trans (ExB.of (Ex.new hg)), (Ex.new hg) _ _ hx7, (Ex.new hg) _ _ hk7, (Ex.new hg) _ _ hd7, [], upd_same, Nat.le_refl _⟩ (fun i H' _ z => SqL.of (z.1 _ _ hbx hb)) ?_ ?_
      · rintro i u H9 H10 hi ⟨e9, hx9, hk9, hd9, acc, hg9, hacc⟩ ⟨rfl, hu'⟩
        obtain ⟨y, rfl, _, _⟩ := wV_get hu'
        refine ⟨rfl, _, rfl, _, rfl, (by show 2 ≤ sizeLine; decide), fun t ht' => ?_⟩
        have htH := old e9 hx9 ht'
        refine ⟨_, rfl, d1, _, rfl, DGet.t (k := [.inr (S z), .inr (S y)]) ((Ex.new ht') _ _ hk9) upd_same, _, rfl, ?_⟩
        have e10 := e9.trans (ExB.of (Ex.new (o := .tup [.str (S z), .str (S y)]) ht'))
        have hx10 := (Ex.new (o := .tup [.str (S z), .str (S y)]) ht') _ _ hx9
        have hk10 := (Ex.new (o := .tup [.str (S z), .str (S y)]) ht') _ _ hk9
        have hd10 := (Ex.new (o := .tup [.str (S z), .str (S y)]) ht') _ _ hd9
        have hg10 := (Ex.new (o := .tup [.str (S z), .str (S y)]) ht') _ _ hg9
        generalize upd H10 t (.tup [.str (S z), .str (S y)]) = H11 at e10 hx10 hk10 hd10 hg10 ⊢
        refine iteB rfl (fun _ => ?_) (fun _ => ?_)
        · refine ⟨_, rfl, acc, hg10, sz_lt (by omega), exB_mut e10 hgH, ?_, ?_, ?_, _, upd_same, ?_⟩
          · rw [upd_ne (Ne.symm hgx)]; exact hx10
          · rw [upd_ne (ne_of hk10 hg10 (by intro z; cases z))]; exact hk10
          · rw [upd_ne (ne_of hd10 hg10 (by intro z; cases z))]; exact hd10
          · rw [List.length_append]
            show acc.length + 1 ≤ i + 1
            omega
        · exact ⟨e10, hx10, hk10, hd10, acc, hg10, by omega⟩
      · rintro H9 ⟨e9, hx9, hk9, hd9, acc, hg9, hacc⟩
        refine ⟨ks, .inr (S z), rfl, hd9, sz_lt (by omega), exB_mut e9 hd2H, ?_, ?_, _, upd_same, ?_⟩
        · rw [upd_ne (Ne.symm hd2x)]; exact hx9
        · rw [upd_ne (ne_of hk9 hd9 (by intro z; cases z))]; exact hk9
        · exact Nat.le_trans (putK_len _ _ _) (by omega)
    rintro H7 ⟨e7, hx7, _⟩
    refine ⟨_, rfl, x, CT, dx, _, rfl, hx7, TT.cl, TT.n3, (by show 2 < 1000; decide), ?_⟩
    exact q _ (e7.trans (ExB.put x H7 _))
end
end Kin
namespace Kin
open PySem L2 SX Evl
theorem okW_of {t : Lex} (w : Wf t) (h : t.kd = .word) : okW t.tx := ⟨(w.word h).2.1, (w.word h).2.2⟩
def spReadTable (B CF : Addr) : Sp := fun vs H Q E => ∃ l : L, vs = [.str (S l)] ∧ l.length ≤ 50000 ∧ match pTable (tkAt l 0) with
  | .inl e => RaisesAt B H E e
  | .inr _ => (∀ d fs H', H d = none → Ex H H' → H' d = some (.xd fs) → E (.ref CF) (some d) H') ∧ ∀ v H', Ex H H' → Q v H'
theorem ex_of_exB {x : Addr} {H H' : Hp} (hx : H x = none) (e : ExB x H H') : Ex H H' := fun a o h => e a o (fun z => by rw [z, hx] at h; cases h) h
section
variable {w : World} {K : PySem.W.Frag} {mg : Str → Option Value} {base : Heap} {B C CT CF : Addr}
theorem scReadTable : FnScope ["text", "lexer", "stems", "places"] ["text"] (C8.fnScope sReadTable) := C8.fnScope_by (by decide +kernel)
theorem ok_readTable {f : Addr} {fd : FuncData} (F : C8.Def K mg "read_table" sReadTable f fd) (b : Binds K fd ["text"] []) (cX : C8.Mak prg w K mg base 3 "Lexer" C (spXInit C) []) (cT : MetX prg w K mg base 4 C "take" (spTake B C))
    (cR : CalX prg w K mg base 5 "read_listed" (spReadListed B C)) (cB : CalX prg w K mg base 6 "read_block" (spReadBlock mg B C)) (cT2 : MakX prg w K mg base 5 "Table" CT (spTInit CF CT)) {fR : Addr} (hmg : mg "read_fit" = some (.ref fR)) : CalX prg w K mg base 8 "read_table" (spReadTable B CF) := by
  refine calX0 F b scReadTable (fun vs H Q E h => ?_) (fun cdv A outer s H vs Q E hr h => ?_)
  · obtain ⟨l, rfl, _⟩ := h
    rfl
  · obtain ⟨l, rfl, hl, q⟩ := h
    have tk := takes_of (X := cxOf (L2.CX prg w) prg w K mg base ["text", "lexer", "stems", "places"] "read_table" (C8.fnScope sReadTable) f cdv A outer s H E) (E := E) rfl rfl rfl rfl
    have hx : Passes (L2.CX prg w) (cxOf (L2.CX prg w) prg w K mg base ["text", "lexer", "stems", "places"] "read_table" (C8.fnScope sReadTable) f cdv A outer s H E) E := passes_call tk fun _ _ _ _ h => h
    have no1 : ∀ {z : Str} {a : Addr}, (lfs z a).lookup ("take" : Str) = none := fun {z a} => lfs_no z a (by decide +kernel) (by decide +kernel)
    refine ⟨_, pss_cons (ps_set (i := 1) scReadTable.nd rfl (Or.inl rfl) (C8.pe_mk cX hr (by decide) (by rfl) (pa_cons (pv 0) pa_nil)))
      (pss_cons (ps_expr (pe_mx cT hx hr (by decide) (pv 1) (pa_cons (pe_str) pa_nil)))
      (pss_cons (ps_par (i := 2) (j := 3) (by rfl) scReadTable.nd rfl rfl (by decide) rfl rfl (pa_cons (pe_cx cR tk hr (by decide) (by rfl) (pa_cons (pv 1) pa_nil)) (pa_cons (pe_cx cR tk hr (by decide) (by rfl) (pa_cons (pv 1) pa_nil)) pa_nil)) (by rfl))
      (pss_one (ps_ret (pe_mkx cT2 hx hr (by decide) (by rfl) (pa_cons (pv 2) (pa_cons (pv 3) (pa_cons (pe_cx cB tk hr (by decide) (by rfl) (pa_cons (pv 1) (pa_cons (pe_glob (v := .ref fR) (u := .ref fR) (by rfl) hmg rfl) pa_nil))) pa_nil)))))))), ?_⟩
    refine ⟨_, rfl, fun x dx hx0 hdx hne => ?_⟩
    refine ⟨x, dx, l, rfl, upd_same, hl, fun H1 x1 h1 => ⟨rfl, ?_⟩⟩
    have eB : ExB x H H1 := fun b o n hb => x1 b o n (by rw [upd_ne n, upd_ne (ne_of_none hb hdx)]; exact hb)
    clear x1
    have RX : ∀ {e : Nat} {H' : Hp}, RaisesAt B H E e → ExB x H H' → RaisesX B x H' E e := fun {e H'} hR e' d H2 hd e2 h2 => by
      have e3 := ex_of_exB hx0 (e'.trans e2)
      exact hR d H2 (fresh_back (ex_of_exB hx0 e') hd) e3 h2
    have hP : pTable (tkAt l 0) = bnd (pTake cTab (tkAt l 0)) fun _ t1 => bnd (pList t1) fun st t2 => bnd (pList t2) fun pl t3 => bnd (pBlock t3) fun fs t4 => .inr ((st, pl, fs), t4) := rfl
    rw [hP] at q
    -- lexer.take('table')
    obtain ⟨dx1, a, t, r, p, hob, _⟩ := id h1.ex
    refine ⟨_, rfl, x, dx1, _, rfl, hob, no1, x, l, cTab, tkAt l 0, (by rw [lit_tab]; rfl), by decide, h1, ?_⟩
    have wf0 := h1.wf
    have len0 := h1.len
    cases e1 : pTake cTab (tkAt l 0) with
    | inl e =>
      rw [e1] at q
      exact RX q eB
    | inr p1 =>
      obtain ⟨u1, t1⟩ := p1
      rw [e1, bnd_inr] at q
      refine fun H2 x2 h2 => ?_
      have eB2 := eB.trans x2
      have hW : ∀ t ∈ t1, t.kd = .word → okW t.tx := fun t ht hk => okW_of (h2.wf t ht) hk
      have len1 := h2.len
      -- stems
      refine ⟨_, rfl, x, l, t1, rfl, h2, ?_⟩
      cases e2 : pList t1 with
      | inl e =>
        rw [e2] at q
        exact RX q eB2
      | inr p2 =>
        obtain ⟨ws, t2⟩ := p2
        rw [e2, bnd_inr] at q
        obtain ⟨w1, w2, w3⟩ := pList_ok hW e2
        refine fun a1 H3 ha1 x3 hl3 h3 => ?_
        have eB3 := eB2.trans x3
        -- places
        refine ⟨_, rfl, x, l, t2, rfl, h3, ?_⟩
        cases e3 : pList t2 with
        | inl e =>
          rw [e3] at q
          exact RX q eB3
        | inr p3 =>
          obtain ⟨ps, t3⟩ := p3
          rw [e3, bnd_inr] at q
          have hW2 : ∀ t ∈ t2, t.kd = .word → okW t.tx := fun t ht hk => okW_of (h3.wf t ht) hk
          obtain ⟨v1, v2, v3⟩ := pList_ok hW2 e3
          have len2 := h3.len
          refine fun a2 H4 ha2 x4 hl4 h4 => ?_
          have eB4 := eB3.trans x4
          have h1x : a1 ≠ x := fun z => by rw [z] at hl3; obtain ⟨_, _, _, _, _, g, _⟩ := h3.ex; rw [g] at hl3; cases hl3
          have h2x : a2 ≠ x := fun z => by rw [z] at hl4; obtain ⟨_, _, _, _, _, g, _⟩ := h4.ex; rw [g] at hl4; cases hl4
          -- the block
          refine ⟨_, _, rfl, _, rfl, _, rfl, _, rfl, x, fR, l, t3, rfl, hmg, h4, ?_⟩
          cases e4 : pBlock t3 with
          | inl e =>
            rw [e4] at q
            exact RX q eB4
          | inr p4 =>
            obtain ⟨fs, t4⟩ := p4
            rw [e4, bnd_inr] at q
            have hW3 : ∀ t ∈ t3, t.kd = .word → okW t.tx := fun t ht hk => okW_of (h4.wf t ht) hk
            obtain ⟨f1, f2⟩ := pBlock_ok hW3 e4
            have len3 := h4.len
            refine fun a3 as H5 ha3 x5 hl5 ht5 => ?_
            have eB5 := eB4.trans x5
            -- the table
            refine fun y dy hy hdy hne' => ?_
            have E6 : Ex H5 (upd (upd H5 dy (.own y)) y (.ins CT dy [])) := fun b o hb => by rw [upd_ne (ne_of_none hb hy), upd_ne (ne_of_none hb hdy)]; exact hb
            have l1 := E6 _ _ (x5 _ _ h1x (x4 _ _ h1x hl3))
            have l2 := E6 _ _ (x5 _ _ h2x hl4)
            have l3 := E6 _ _ hl5
            have l4 := ht5.ex E6
            have sw : ∀ {z : List L}, (∀ t ∈ z, okW t) → ∀ t ∈ z, t.length ≤ 50000 := fun h t ht => Nat.le_trans (h t ht).1 (by decide)
            have hyH : H y = none := fresh_back (ex_of_exB hx0 eB5) hy
            have back : ∀ H', ExB y (upd (upd H5 dy (.own y)) y (.ins CT dy [])) H' → Ex H H' := fun H' e b o hb => by
              have hb5 := ex_of_exB hx0 eB5 b o hb
              exact e b o (ne_of_none hb5 hy) (E6 b o hb5)
            refine ⟨y, dy, a1, a2, a3, ws, ps, fs, as, rfl, upd_same, l1, l2, l3, l4, by omega, f1, sw w1, by omega, sw v1, by omega, fun d gs H' hd e he => ?_, fun H' e => ⟨rfl, q.2 _ _ (back H' e)⟩⟩
            refine q.1 d gs H' ?_ (back H' e) he
            have hd5 := fresh_back E6 hd
            exact fresh_back (ex_of_exB hx0 eB5) hd5
end
end Kin
/-! try with two clauses: the first binds a name, the second does not; one of the two serves whatever the body raises -/
namespace Kin
open PySem PySem.Spec PyProof.Rows L2 SX Evl
abbrev TH := Addr → Value → Option Addr → TS
/-- the slot of the name is empty behind the clause -/
def ends0 (i : Nat) (D : Ends) : Ends := { nx := fun τ G => D.nx (τ.set i none) G, rt := D.rt, bk := fun τ G => D.bk (τ.set i none) G, ct := fun τ G => D.ct (τ.set i none) G }
/-- what the two clauses wish -/
def wTwo (K : PySem.W.Frag) (c1 c2 : Value) (i : Nat) (t1 t2 : TH) (D : Ends) : WX := fun cls d τ G =>
  (PySem.W.exmOne K cls c1 = some true ∧ ∀ a, G a = none → t1 a cls d (ends0 i D) (τ.set i (some (.ref a))) G) ∨
  (PySem.W.exmOne K cls c1 = some false ∧ PySem.W.exmOne K cls c2 = some true ∧ ∀ a, G a = none → t2 a cls d D τ G)
section
variable {X : Cx} {x y n : Str} {c1 c2 : Value} {i : Nat} {body r1 r2 : List Stmt} {q1 q2 : Stmt} {np nq p1 p2 pos : Pos} {tb : WX → TS} {t1 t2 : TH}
theorem ps_try_two (hs : X.stack = X.env :: X.outer) (hf : X.env.frame = some X.env.locals) (hN : X.N.Nodup) (hi : X.N[i]? = some n) (hln : X.env.kindOf n = some .local) (n1 : Names X x c1) (n2 : Names X y c2)
    (hb : ∀ (W : WX) (pn : List (Addr × Obj)) (xe : Value → Shared → Prop), Takes (X.tr pn xe) W → PassesOwn (model X.prog X.w) X.A X.env xe → PSs (X.tr pn xe) body (tb W))
    (h1 : ∀ (a : Addr) (oe : Obj) (cls : Value) (d : Option Addr) (pn : List (Addr × Obj)), Zc cls d oe → (∃ vs, oe.data = .fields vs) → PSs (X.suite a ((a, oe) :: pn)) (q1 :: r1) (t1 a cls d))
    (h2 : ∀ (a : Addr) (oe : Obj) (cls : Value) (d : Option Addr) (pn : List (Addr × Obj)), Zc cls d oe → (∃ vs, oe.data = .fields vs) → PSs (X.suite a ((a, oe) :: pn)) (q2 :: r2) (t2 a cls d)) :
    PS X (.Try body [.ExceptHandler (some (.Name x np)) (some n) (q1 :: r1) p1, .ExceptHandler (some (.Name y nq)) none (q2 :: r2) p2] [] [] pos) (fun D τ G => tb (wTwo X.K c1 c2 i t1 t2 D) D τ G) := by
  refine ⟨fun pins s τ G D I h => wpAny_Try_except ?_⟩
  have ok := I.ok
  have fr : X.A.frames = some (X.env :: X.outer) := ok.frames.trans (by rw [hs])
  refine wpAny_mono ((hb (wTwo X.K c1 c2 i t1 t2 D) (X.pn ++ pins) (fun e s₁ => wpAny (model X.prog X.w) X.A (noteFrame e X.env) (fun _ s₂ => wpAny (model X.prog X.w) X.A (setFlight e none) (fun _ s₃ =>
    wpAny (model X.prog X.w) X.A (handleBy e X.env [.ExceptHandler (some (.Name x np)) (some n) (q1 :: r1) p1, .ExceptHandler (some (.Name y nq)) none (q2 :: r2) p2]) (SP X pins D) X.xe s₃) X.xe s₂) X.xe s₁) (fun u sx caught => ?_) PassesOwn.looking).run [] s τ G D (I.toTry _) h) ?_ (fun _ _ z => z)
  · -- something was raised
    obtain ⟨a, B, sI, pins', τ1, G1, cls, d, rfl, J0, nb, lift, sky, na, os, ag, wish⟩ := caught
    have J : Inv X pins τ1 G1 sI := J0.ofTry ok
    rw [hs] at sky
    show wpAny (model X.prog X.w) X.A (noteFrame (.ref a) X.env) _ _ _
    refine Sky.land Zc.steady fr hf sky fun ha fa ua => ?_
    have Ja : Inv X pins τ1 G1 { sx with heap := ha } := J.landed nb fa.1 (lift.trans ua) os ag
    obtain ⟨oa, va, ea, za, da⟩ := fa.there
    have off : a ∉ frs (X.env :: X.outer) := fun m => by
      obtain ⟨_, o', e', bad⟩ := fa.2.2.1.mem m
      rw [ea] at e'
      cases e'
      exact bad _ da
    have offL : a ≠ X.env.locals := fun z => off (List.mem_filterMap.mpr ⟨_, List.mem_cons_self, by rw [hf, z]⟩)
    have offF : a ∉ X.fs := fun m => by
      obtain ⟨e, me, q⟩ := List.mem_filterMap.mp m
      exact off (List.mem_filterMap.mpr ⟨e, List.mem_cons_of_mem _ me, q⟩)
    have Sa := Ja.suite ea da na offL offF
    have see : PySem.W.Looks (model X.prog X.w) ha (typeOf (.ref a)) cls := fun A Q E s k q => wpAny_typeOf_ref (k _ _ ea) (by rw [za.1]; exact q)
    -- a class's name read in the clause
    have named : ∀ {z : Str} {c : Value} {zp : Pos} {Q E : Value → Shared → Prop}, Names X z c → Q c { sx with heap := ha } → wpAny (model X.prog X.w) (X.A.mark (some (.ref a))) (eval (.Name z zp) X.env) Q E { sx with heap := ha } := fun {z c zp Q E} nm q => by
      rcases nm with ⟨g, nd, m | ⟨m, v, k⟩⟩
      · exact ld_glob (X := X.suite a ((a, oa) :: (X.pn ++ pins))) Sa g m q nd
      · exact ld_blt (X := X.suite a ((a, oa) :: (X.pn ++ pins))) Sa g m v q k nd
    -- the suite begins
    have within : ∀ {Q E : Unit → Shared → Prop}, True := fun {_ _} => True.intro
    refine wpAny_handleBy_cons (codeAny_handlers_test ?_) (fun z => nomatch z)
    rcases wish with ⟨e1, go⟩ | ⟨e1, e2, go⟩
    · refine named n1 ((PySem.W.exm_one (M := model X.prog X.w) Ja.kIn see e1).here ?_)
      refine codeAny_handlers_suite_as (HandSPX.lands_againZ fa fun hb' fb ub => ?_)
      have Jb : Inv X pins τ1 G1 { sx with heap := hb' } := J.landed nb fb.1 ((lift.trans ua).trans ub) os ag
      obtain ⟨ob, vb, eb, zb, db⟩ := fb.there
      refine store_ok (X := X.suite a ((a, ob) :: (X.pn ++ pins))) (v := .ref a) (Jb.suite eb db na offL offF) hN hi (.inl hln) rfl (fun s5 S5 => ?_) (.inr hln)
      refine wpAny_mono ((h1 a ob cls d (X.pn ++ pins) zb ⟨_, db⟩).run [] s5 _ G1 _ S5 (go a na)) (fun fl s6 q6 => ?_) (fun _ _ z => z.elim)
      have wiped : ∀ {τ6 : L2.St} {G6 : Hp} {Q : Shared → Prop}, Inv (X.suite a ((a, ob) :: (X.pn ++ pins))) [] τ6 G6 s6 → (∀ s7, Inv X pins (τ6.set i none) G6 s7 → Q s7) →
          wpAny (model X.prog X.w) X.A (do bindName X.env n .none; unbindBehindTheSuite X.env n p1) (fun _ s7 => Q s7) X.xe s6 := fun S6 k => gone_ok (S6.unsuite ok) hN hi hln k
      match fl, q6 with
      | .next, ⟨_, _, S6, q⟩ => exact wiped S6 fun _ J7 => ⟨_, _, J7, q⟩
      | .brk, ⟨_, _, S6, q⟩ => exact wiped S6 fun _ J7 => ⟨_, _, J7, q⟩
      | .cont, ⟨_, _, S6, q⟩ => exact wiped S6 fun _ J7 => ⟨_, _, J7, q⟩
      | .ret _, ⟨_, _, _, S6, r, q⟩ => exact wiped S6 fun _ J7 => ⟨_, _, _, J7, r, q⟩
    · refine named n1 ((PySem.W.exm_one (M := model X.prog X.w) Ja.kIn see e1).here ?_)
      show wpAny _ X.A (handleBy (.ref a) X.env [.ExceptHandler (some (.Name y nq)) none (q2 :: r2) p2]) _ _ _
      refine wpAny_handleBy_cons (codeAny_handlers_test ?_) (fun z => nomatch z)
      refine named n2 ((PySem.W.exm_one (M := model X.prog X.w) Ja.kIn see e2).here ?_)
      refine codeAny_handlers_suite (HandSPX.lands_againZ fa fun hb' fb ub => ?_)
      have Jb : Inv X pins τ1 G1 { sx with heap := hb' } := J.landed nb fb.1 ((lift.trans ua).trans ub) os ag
      obtain ⟨ob, vb, eb, zb, db⟩ := fb.there
      refine wpAny_mono ((h2 a ob cls d (X.pn ++ pins) zb ⟨_, db⟩).run [] _ _ G1 _ (Jb.suite eb db na offL offF) (go a na)) (fun fl s6 q6 => ?_) (fun _ _ z => z.elim)
      match fl, q6 with
      | .next, ⟨_, _, S6, q⟩ => exact ⟨_, _, S6.unsuite ok, q⟩
      | .brk, ⟨_, _, S6, q⟩ => exact ⟨_, _, S6.unsuite ok, q⟩
      | .cont, ⟨_, _, S6, q⟩ => exact ⟨_, _, S6.unsuite ok, q⟩
      | .ret _, ⟨_, _, _, S6, r, q⟩ => exact ⟨_, _, _, S6.unsuite ok, r, q⟩
  · -- nothing was raised
    intro fl s1 q0
    match fl, q0 with
    | .next, ⟨_, _, J, q⟩ => exact wpAny_execs_nil ⟨_, _, J.ofTry ok, q⟩
    | .brk, ⟨_, _, J, q⟩ => exact ⟨_, _, J.ofTry ok, q⟩
    | .cont, ⟨_, _, J, q⟩ => exact ⟨_, _, J.ofTry ok, q⟩
    | .ret _, ⟨_, _, _, J, r, q⟩ => exact ⟨_, _, _, J.ofTry ok, r, q⟩
end
end Kin
namespace Kin
open PySem PySem.Spec PyProof.Rows L2 SX Evl
theorem lit_told : ("told" : Str) = S [116, 111, 108, 100] := by decide +kernel
theorem lit_refused : ("refused" : Str) = S [114, 101, 102, 117, 115, 101, 100] := by decide +kernel
/-- where read_table stops -/
def tellV : R (List L × List L × List (L × L)) → List V
  | .inl e => [.int (e : Int)]
  | .inr _ => [.str "told"]
def spTold : Sp := fun vs H Q _ => ∃ l : L, vs = [.str (S l)] ∧ l.length ≤ 50000 ∧ ∀ a H', H a = none → Ex H H' → H' a = some (.lst (tellV (pTable (tkAt l 0)))) → Q (.ref a) H'
def spLexTold : Sp := fun vs H Q _ => ∃ l : L, vs = [.str (S l)] ∧ l.length ≤ 50000 ∧ match told [] (tkAt l 0) with
  | .inl p => ∀ a H', H a = none → Ex H H' → H' a = some (.lst [.str "refused", .int (p : Int)]) → Q (.ref a) H'
  | .inr ts => ∀ a fa as H', H a = none → H fa = none → Ex H H' → H' a = some (.lst [.str "told", .ref fa]) → H' fa = some (.lst (as.map V.ref)) → Tups H' as ts → Q (.ref a) H'
/-- the two exceptions' classes -/
structure ExcsT (K : PySem.W.Frag) (B CF : Addr) : Prop where
  xf : XfC K B
  m1 : PySem.W.exmOne K (.ref B) (.ref B) = some true
  m2 : PySem.W.exmOne K (.ref CF) (.ref B) = some false
  m3 : PySem.W.exmOne K (.ref CF) (.ref CF) = some true
section
variable {w : World} {K : PySem.W.Frag} {mg : Str → Option Value} {base : Heap} {B CF fI cc cda fI2 cc2 cda2 : Addr}
theorem scTold : FnScope ["_law_text", "error"] ["_law_text"] (C8.fnScope sTold) := C8.fnScope_by (by decide +kernel)
theorem ok_told {f : Addr} {fd : FuncData} (T5 : ExcT K mg "BadText" "place" B fI cc cda sBadText) (T3 : ExcT K mg "BadFits" "path" CF fI2 cc2 cda2 sBadFits) (XT : ExcsT K B CF) (F : C8.Def K mg "_law_told" sTold f fd) (b : Binds K fd ["_law_text"] [])
    (cR : CalX prg w K mg base 8 "read_table" (spReadTable B CF)) : C8.Cal prg w K mg base 9 "_law_told" spTold [] := by
  refine C8.cal0 F b .nil scTold (fun vs H Q E h => ?_) (fun cdv A outer s H vs Q E hr h => ?_)
  · obtain ⟨l, rfl, _⟩ := h
    rfl
  · obtain ⟨l, rfl, hl, q⟩ := h
    refine ⟨_, pss_cons (ps_try_two (i := 1) (tb := fun W => tDrop (tCallS (spReadTable B CF) (WE W) (tCons (tVar 0) tNil))) (t1 := fun a cls d => tRet (tLst (tCons (tXf a cls d B "place" (tVar 1)) tNil))) (t2 := fun a cls d => tRet (tLst (tCons (tC (.str "told")) tNil))) rfl rfl scTold.nd rfl rfl ⟨rfl, by decide, .inl T5.gC⟩ ⟨rfl, by decide, .inl T3.gC⟩
        (fun W pn xe tk _ => pss_one (ps_expr (pe_cx cR tk hr (by decide) (by rfl) (pa_cons (pv 0) pa_nil))))
        (fun a oe cls d pn hz hf => pss_one (ps_ret (pe_lst (pa_cons (pe_xf XT.xf T5.noF hz hf (pv 1)) pa_nil))))
        (fun a oe cls d pn hz hf => pss_one (ps_ret (pe_lst (pa_cons pe_str pa_nil)))))
      (pss_one (ps_ret (pe_lst (pa_cons pe_str pa_nil)))), ?_⟩
    refine ⟨_, rfl, l, rfl, hl, ?_⟩
    cases e : pTable (tkAt l 0) with
    | inl p =>
      rw [e] at q
      refine fun d H' hd x hx => .inl ⟨XT.m1, fun a ha => ?_⟩
      refine ⟨_, rfl, rfl, rfl, d, _, _, rfl, hx, rfl, (by show 1 ≤ sizeLine; decide), fun c hc => ?_⟩
      exact q _ _ (fresh_back x hc) (x.trans (Ex.new hc)) upd_same
    | inr p =>
      rw [e] at q
      refine ⟨fun d fs H' hd x hx => .inr ⟨XT.m2, XT.m3, fun a ha => ?_⟩, fun v H' x => ?_⟩
      · exact ⟨(by show 1 ≤ sizeLine; decide), fun c hc => q _ _ (fresh_back x hc) (x.trans (Ex.new hc)) upd_same⟩
      · exact ⟨(by show 1 ≤ sizeLine; decide), fun c hc => q _ _ (fresh_back x hc) (x.trans (Ex.new hc)) upd_same⟩
theorem scLexTold : FnScope ["_law_text", "error"] ["_law_text"] (C8.fnScope sLexTold) := C8.fnScope_by (by decide +kernel)
theorem ok_lexTold {f : Addr} {fd : FuncData} (T5 : ExcT K mg "BadText" "place" B fI cc cda sBadText) (XT : ExcsT K B CF) (F : C8.Def K mg "_law_lexemes_told" sLexTold f fd) (b : Binds K fd ["_law_text"] [])
    (cL : CalX prg w K mg base 3 "lexemes" (spLexemes B)) : C8.Cal prg w K mg base 4 "_law_lexemes_told" spLexTold [] := by
  refine C8.cal0 F b .nil scLexTold (fun vs H Q E h => ?_) (fun cdv A outer s H vs Q E hr h => ?_)
  · obtain ⟨l, rfl, _⟩ := h
    rfl
  · obtain ⟨l, rfl, hl, q⟩ := h
    refine ⟨_, pss_one (ps_try_as (i := 1) (tb := fun W => tRet (tLst (tCons (tC (.str "told")) (tCons (tCallS (spLexemes B) (WE W) (tCons (tVar 0) tNil)) tNil)))) (ts := fun a cls d => tRet (tLst (tCons (tC (.str "refused")) (tCons (tXf a cls d B "place" (tVar 1)) tNil)))) (Wout := fun _ _ _ _ => False) rfl rfl scLexTold.nd rfl rfl ⟨rfl, by decide, .inl T5.gC⟩ takes0
        (fun W pn xe tk _ => pss_one (ps_ret (pe_lst (pa_cons pe_str (pa_cons (pe_cx cL tk hr (by decide) (by rfl) (pa_cons (pv 0) pa_nil)) pa_nil)))))
        (fun a oe cls d pn hz hf => pss_one (ps_ret (pe_lst (pa_cons pe_str (pa_cons (pe_xf XT.xf T5.noF hz hf (pv 1)) pa_nil)))))), ?_⟩
    refine ⟨_, rfl, l, rfl, hl, ?_⟩
    cases e : told [] (tkAt l 0) with
    | inl p =>
      rw [e] at q
      refine fun d H' hd x hx => ⟨_, XT.m1, fun _ a ha => ?_, fun z => nomatch z⟩
      refine ⟨_, rfl, rfl, rfl, d, _, _, rfl, hx, rfl, (by show 2 ≤ sizeLine; decide), fun c hc => ?_⟩
      exact q _ _ (fresh_back x hc) (x.trans (Ex.new hc)) upd_same
    | inr ts =>
      rw [e] at q
      refine fun a as H' ha x hx ht => ⟨(by show 2 ≤ sizeLine; decide), fun c hc => ?_⟩
      have xn := Ex.new (o := .lst [.str "told", .ref a]) hc
      exact q c a as _ (fresh_back x hc) ha (x.trans xn) upd_same (xn _ _ hx) (ht.ex xn)
end
end Kin
/-! one step of the law's stack -/
namespace Kin
theorem pFits_rest : ∀ (n : Nat) (ts : List Lex), ts.length ≤ n → ∀ (acc fs : List (L × L)) (r : List Lex), pFits acc ts = .inr (fs, r) → ∀ t ∈ r, t ∈ ts := by
  intro n
  induction n with
  | zero =>
    intro ts h acc fs r e
    cases ts with
    | nil => cases e
    | cons a b => simp at h
  | succ n ih =>
    intro ts h acc fs r e t ht
    cases ts with
    | nil => cases e
    | cons u q =>
      by_cases k0 : u.tx = [125]
      · rw [pFits_0 k0] at e
        cases e
        exact ht
      by_cases k1 : u.kd = .word
      rotate_left
      · rw [pFits_1 k0 k1] at e
        cases e
      cases q with
      | nil =>
        unfold pFits at e
        rw [if_neg k0, if_pos k1] at e
        cases e
      | cons v z =>
        by_cases k2 : v.kd = .word
        rotate_left
        · rw [pFits_2 k0 k1 k2] at e
          cases e
        cases z with
        | nil =>
          unfold pFits at e
          rw [if_neg k0, if_pos k1] at e
          simp only [if_pos k2] at e
          cases e
        | cons y s =>
          by_cases k3 : y.tx = [59]
          · rw [pFits_4 k0 k1 k2 k3] at e
            simp only [List.length_cons] at h
            exact List.mem_cons_of_mem _ (List.mem_cons_of_mem _ (List.mem_cons_of_mem _ (ih s (by omega) _ _ _ e t ht)))
          · rw [pFits_3 k0 k1 k2 k3] at e
            cases e
/-- what was read is forgotten -/
def unit {α : Type} (x : R α) : R Unit := bnd x fun _ t => .inr ((), t)
theorem pMore_acc : ∀ (n : Nat) (ts : List Lex), ts.length ≤ n → ∀ a b : List L, unit (pMore a ts) = unit (pMore b ts) := by
  intro n
  induction n with
  | zero =>
    intro ts h a b
    cases ts with
    | nil => rfl
    | cons c d => simp at h
  | succ n ih =>
    intro ts h a b
    cases ts with
    | nil => rfl
    | cons t r =>
      unfold pMore
      by_cases k : t.tx = [44]
      · rw [if_pos k, if_pos k]
        cases r with
        | nil => rfl
        | cons u q =>
          by_cases k2 : u.kd = .word
          · simp only [if_pos k2]
            simp only [List.length_cons] at h
            exact ih q (by omega) _ _
          · simp only [if_neg k2]
            all_goals rfl
      · rw [if_neg k, if_neg k]
        rfl
theorem pFits_acc : ∀ (n : Nat) (ts : List Lex), ts.length ≤ n → ∀ a b : List (L × L), unit (pFits a ts) = unit (pFits b ts) := by
  intro n
  induction n with
  | zero =>
    intro ts h a b
    cases ts with
    | nil => rfl
    | cons c d => simp at h
  | succ n ih =>
    intro ts h a b
    cases ts with
    | nil => rfl
    | cons u q =>
      by_cases k0 : u.tx = [125]
      · rw [pFits_0 k0, pFits_0 k0]
        rfl
      by_cases k1 : u.kd = .word
      rotate_left
      · rw [pFits_1 k0 k1, pFits_1 k0 k1]
        all_goals rfl
      cases q with
      | nil =>
        unfold pFits
        simp only [if_neg k0, if_pos k1]
        all_goals rfl
      | cons v z =>
        by_cases k2 : v.kd = .word
        rotate_left
        · rw [pFits_2 k0 k1 k2, pFits_2 k0 k1 k2]
          all_goals rfl
        cases z with
        | nil =>
          unfold pFits
          simp only [if_neg k0, if_pos k1]
        | cons y s =>
          by_cases k3 : y.tx = [59]
          · rw [pFits_4 k0 k1 k2 k3, pFits_4 k0 k1 k2 k3]
            simp only [List.length_cons] at h
            exact ih s (by omega) _ _
          · rw [pFits_3 k0 k1 k2 k3, pFits_3 k0 k1 k2 k3]
            all_goals rfl
def AW (ts : List Lex) : Prop := ∀ t ∈ ts, Wf t
theorem AW.sub {a b : List Lex} (h : AW a) (s : ∀ t ∈ b, t ∈ a) : AW b := fun t ht => h t (s t ht)
def keys : List L := [yTABLE, yLIST, yWORDS, yMORE, yFITS]
theorem pSym_other {X : L} (h : X ∉ keys) (ts : List Lex) : pSym X ts = mtR X ts := by
  have h' : X ≠ yTABLE ∧ X ≠ yLIST ∧ X ≠ yWORDS ∧ X ≠ yMORE ∧ X ≠ yFITS := by
    simp only [keys, List.mem_cons, List.not_mem_nil, or_false, not_or] at h
    exact h
  obtain ⟨a, b, c, d, e⟩ := h'
  unfold pSym
  rw [if_neg a, if_neg b, if_neg c, if_neg d, if_neg e]
/-- the texts that stand for themselves -/
def texts : List L := [cTab, [40], [41], [123], [125], [44], [59]]
theorem texts_ok : ∀ x ∈ texts, x ∉ keys ∧ x ≠ [] ∧ ((∃ c, c ∈ cSg ∧ x = [c]) ∨ (∃ c ∈ x, c ∈ cLt)) ∧ (x ≠ yEND ∧ x ≠ yNone ∧ x ≠ yN ∧ x ≠ yW) := by
  intro x hx
  simp only [texts, List.mem_cons, List.not_mem_nil, or_false] at hx
  rcases hx with rfl | rfl | rfl | rfl | rfl | rfl | rfl
  · exact ⟨by decide, by decide, .inr ⟨116, by decide, by decide⟩, by decide⟩
  · exact ⟨by decide, by decide, .inl ⟨40, by decide, rfl⟩, by decide⟩
  · exact ⟨by decide, by decide, .inl ⟨41, by decide, rfl⟩, by decide⟩
  · exact ⟨by decide, by decide, .inl ⟨123, by decide, rfl⟩, by decide⟩
  · exact ⟨by decide, by decide, .inl ⟨125, by decide, rfl⟩, by decide⟩
  · exact ⟨by decide, by decide, .inl ⟨44, by decide, rfl⟩, by decide⟩
  · exact ⟨by decide, by decide, .inl ⟨59, by decide, rfl⟩, by decide⟩
theorem pSym_text {x : L} (hx : x ∈ texts) {ts : List Lex} (aw : AW ts) : pSym x ts = pTake x ts := by
  obtain ⟨h0, h1, h2, h3⟩ := texts_ok x hx
  rw [pSym_other h0]
  cases ts with
  | nil => rfl
  | cons t r =>
    show (if mt x t = true then _ else _) = (if t.tx = x then _ else _)
    rw [sy_text (aw t List.mem_cons_self) h1 h2 h3]
    by_cases k : t.tx = x
    · rw [if_pos k, if_pos (decide_eq_true k)]
    · rw [if_neg k, if_neg (by rw [decide_eq_false k]; decide)]
theorem pSym_W {ts : List Lex} (aw : AW ts) : pSym yW ts = unit (pWord ts) := by
  rw [pSym_other (by decide)]
  cases ts with
  | nil => rfl
  | cons t r =>
    show (if mt yW t = true then _ else _) = unit (if t.kd = .word then _ else _)
    rw [sy_word (aw t List.mem_cons_self)]
    by_cases k : t.kd = .word
    · rw [if_pos k, if_pos (decide_eq_true k)]
      rfl
    · rw [if_neg k, if_neg (by rw [decide_eq_false k]; decide)]
      rfl
theorem pSym_END {ts : List Lex} (aw : AW ts) : pSym yEND ts = pFin ts := by
  rw [pSym_other (by decide)]
  cases ts with
  | nil => rfl
  | cons t r =>
    show (if mt yEND t = true then _ else _) = (if t.kd = .fin then _ else _)
    rw [sy_fin (aw t List.mem_cons_self)]
    by_cases k : t.kd = .fin
    · rw [if_pos k, if_pos (decide_eq_true k)]
    · rw [if_neg k, if_neg (by rw [decide_eq_false k]; decide)]
theorem pSym_TABLE (ts : List Lex) : pSym yTABLE ts = unit (pTable ts) := rfl
theorem pSym_LIST (ts : List Lex) : pSym yLIST ts = unit (pList ts) := rfl
theorem pSym_WORDS (ts : List Lex) : pSym yWORDS ts = unit (pWords ts) := rfl
theorem pSym_MORE (ts : List Lex) : pSym yMORE ts = unit (pMore [] ts) := rfl
theorem pSym_FITS (ts : List Lex) : pSym yFITS ts = unit (pFits [] ts) := rfl
theorem take_aw {w : L} {ts r : List Lex} {u : Unit} (aw : AW ts) (h : pTake w ts = .inr (u, r)) : AW r := by
  obtain ⟨t, rfl, _⟩ := pTake_ok h
  exact aw.sub fun a ha => List.mem_cons_of_mem _ ha
theorem list_aw {ts r : List Lex} {ws : List L} (aw : AW ts) (h : pList ts = .inr (ws, r)) : AW r := aw.sub (pList_ok (P := fun _ => True) (fun _ _ _ => True.intro) h).2.2
theorem words_aw {ts r : List Lex} {ws : List L} (aw : AW ts) (h : pWords ts = .inr (ws, r)) : AW r := aw.sub (pWords_ok (P := fun _ => True) (fun _ _ _ => True.intro) h).2.2
theorem fits_aw {ts r : List Lex} {a fs : List (L × L)} (aw : AW ts) (h : pFits a ts = .inr (fs, r)) : AW r := aw.sub (pFits_rest _ _ (Nat.le_refl _) _ _ _ h)
theorem G_table_step {S : List L} {ts : List Lex} (aw : AW ts) : G (yTABLE :: S) ts = G ([cTab, yLIST, yLIST, [123], yFITS, [125], yEND] ++ S) ts := by
  rw [G_cons, pSym_TABLE]
  show _ = G (cTab :: yLIST :: yLIST :: [123] :: yFITS :: [125] :: yEND :: S) ts
  rw [G_cons, pSym_text (by decide) aw]
  unfold pTable
  cases h1 : pTake cTab ts with
  | inl e => rfl
  | inr p =>
    obtain ⟨_, t1⟩ := p
    have a1 := take_aw aw h1
    show thenG S (unit (bnd (pList t1) _)) = G _ t1
    rw [G_cons, pSym_LIST]
    cases h2 : pList t1 with
    | inl e => rfl
    | inr p =>
      obtain ⟨_, t2⟩ := p
      have a2 := list_aw a1 h2
      show thenG S (unit (bnd (pList t2) _)) = G _ t2
      rw [G_cons, pSym_LIST]
      cases h3 : pList t2 with
      | inl e => rfl
      | inr p =>
        obtain ⟨_, t3⟩ := p
        have a3 := list_aw a2 h3
        show thenG S (unit (bnd (pBlock t3) _)) = G _ t3
        rw [G_cons, pSym_text (by decide) a3]
        unfold pBlock
        cases h4 : pTake [123] t3 with
        | inl e => rfl
        | inr p =>
          obtain ⟨_, t4⟩ := p
          have a4 := take_aw a3 h4
          show thenG S (unit (bnd (bnd (pFits [] t4) _) _)) = G _ t4
          rw [G_cons, pSym_FITS]
          cases h5 : pFits [] t4 with
          | inl e => rfl
          | inr p =>
            obtain ⟨_, t5⟩ := p
            have a5 := fits_aw a4 h5
            show thenG S (unit (bnd (bnd (pTake [125] t5) _) _)) = G _ t5
            rw [G_cons, pSym_text (by decide) a5]
            cases h6 : pTake [125] t5 with
            | inl e => rfl
            | inr p =>
              obtain ⟨_, t6⟩ := p
              have a6 := take_aw a5 h6
              show thenG S (unit (bnd (bnd (pFin t6) _) _)) = G _ t6
              rw [G_cons, pSym_END a6]
              cases h7 : pFin t6 with
              | inl e => rfl
              | inr p => rfl
theorem G_list_step {S : List L} {ts : List Lex} (aw : AW ts) : G (yLIST :: S) ts = G ([[40], yWORDS, [41]] ++ S) ts := by
  rw [G_cons, pSym_LIST]
  show _ = G ([40] :: yWORDS :: [41] :: S) ts
  rw [G_cons, pSym_text (by decide) aw]
  unfold pList
  cases h1 : pTake [40] ts with
  | inl e => rfl
  | inr p =>
    obtain ⟨_, t1⟩ := p
    have a1 := take_aw aw h1
    show thenG S (unit (bnd (pWords t1) _)) = G _ t1
    rw [G_cons, pSym_WORDS]
    cases h2 : pWords t1 with
    | inl e => rfl
    | inr p =>
      obtain ⟨_, t2⟩ := p
      have a2 := words_aw a1 h2
      show thenG S (unit (bnd (pTake [41] t2) _)) = G _ t2
      rw [G_cons, pSym_text (by decide) a2]
      cases h3 : pTake [41] t2 with
      | inl e => rfl
      | inr p => rfl
theorem G_words_step {S : List L} {t : Lex} {r : List Lex} (aw : AW (t :: r)) : G (yWORDS :: S) (t :: r) = if t.tx = [41] then G S (t :: r) else G ([yW, yMORE] ++ S) (t :: r) := by
  rw [G_cons, pSym_WORDS]
  unfold pWords
  by_cases k : t.tx = [41]
  · rw [if_pos k]
    simp only [if_pos k]
    rfl
  rw [if_neg k]
  simp only [if_neg k]
  show _ = G (yW :: yMORE :: S) (t :: r)
  rw [G_cons, pSym_W aw]
  show _ = thenG (yMORE :: S) (unit (if t.kd = .word then _ else _))
  by_cases k2 : t.kd = .word
  · rw [if_pos k2, if_pos k2]
    show _ = G (yMORE :: S) r
    rw [G_cons, pSym_MORE, pMore_acc _ _ (Nat.le_refl _) [t.tx] []]
  · rw [if_neg k2, if_neg k2]
    rfl
theorem G_more_step {S : List L} {t : Lex} {r : List Lex} (aw : AW (t :: r)) : G (yMORE :: S) (t :: r) = if t.tx = [44] then G ([[44], yW, yMORE] ++ S) (t :: r) else G S (t :: r) := by
  rw [G_cons, pSym_MORE]
  unfold pMore
  by_cases k : t.tx = [44]
  · rw [if_pos k, if_pos k]
    show _ = G ([44] :: yW :: yMORE :: S) (t :: r)
    rw [G_cons, pSym_text (by decide) aw]
    show _ = thenG _ (if t.tx = [44] then _ else _)
    rw [if_pos k]
    show _ = G (yW :: yMORE :: S) r
    have a1 : AW r := aw.sub fun a ha => List.mem_cons_of_mem _ ha
    rw [G_cons, pSym_W a1]
    cases r with
    | nil => rfl
    | cons u q =>
      show _ = thenG _ (unit (if u.kd = .word then _ else _))
      by_cases k2 : u.kd = .word
      · simp only [if_pos k2]
        show _ = G (yMORE :: S) q
        rw [G_cons, pSym_MORE, pMore_acc _ _ (Nat.le_refl _) [] ([] ++ [u.tx])]
      · simp only [if_neg k2]
        rfl
  · rw [if_neg k, if_neg k]
    rfl
theorem G_fits_step {S : List L} {t : Lex} {r : List Lex} (aw : AW (t :: r)) : G (yFITS :: S) (t :: r) = if t.tx = [125] then G S (t :: r) else G ([yW, yW, [59], yFITS] ++ S) (t :: r) := by
  rw [G_cons, pSym_FITS]
  by_cases k : t.tx = [125]
  · rw [if_pos k, pFits_0 k]
    rfl
  rw [if_neg k]
  show _ = G (yW :: yW :: [59] :: yFITS :: S) (t :: r)
  rw [G_cons, pSym_W aw]
  show _ = thenG _ (unit (if t.kd = .word then _ else _))
  by_cases k2 : t.kd = .word
  rotate_left
  · rw [if_neg k2, pFits_1 k k2]
    rfl
  rw [if_pos k2]
  show _ = G (yW :: [59] :: yFITS :: S) r
  have a1 : AW r := aw.sub fun a ha => List.mem_cons_of_mem _ ha
  rw [G_cons, pSym_W a1]
  cases r with
  | nil =>
    unfold pFits
    rw [if_neg k, if_pos k2]
    rfl
  | cons u q =>
    show _ = thenG _ (unit (if u.kd = .word then _ else _))
    by_cases k3 : u.kd = .word
    rotate_left
    · rw [if_neg k3, pFits_2 k k2 k3]
      rfl
    rw [if_pos k3]
    show _ = G ([59] :: yFITS :: S) q
    have a2 : AW q := a1.sub fun a ha => List.mem_cons_of_mem _ ha
    rw [G_cons, pSym_text (by decide) a2]
    cases q with
    | nil =>
      unfold pFits
      rw [if_neg k, if_pos k2]
      simp only [if_pos k3]
      rfl
    | cons v z =>
      show _ = thenG _ (if v.tx = [59] then _ else _)
      by_cases k4 : v.tx = [59]
      · rw [if_pos k4, pFits_4 k k2 k3 k4]
        show _ = G (yFITS :: S) z
        rw [G_cons, pSym_FITS, pFits_acc _ _ (Nat.le_refl _) ([] ++ [(t.tx, u.tx)]) []]
      · rw [if_neg k4, pFits_3 k k2 k3 k4]
        rfl
/-- every symbol that can stand on a stack -/
def syms : List L := keys ++ texts ++ [yW, yEND]
def isKey (S : List L) : Nat := match S with
  | [] => 0
  | X :: _ => if X ∈ keys then 10 else 0
/-- what a round lessens -/
def weigh (S : List L) (ts : List Lex) : Nat := 16 * ts.length + S.length + isKey S
theorem isKey_le (S : List L) : isKey S ≤ 10 := by
  unfold isKey
  split
  · exact Nat.zero_le _
  · split <;> decide
theorem fits_one {rows : List Row} {tx : L} {a : Row} {l : List Row} (h : rows = a :: l) (k : rowFits tx a = true) : ∃ rest, (rows.filter (rowFits tx)).map (·.2) = a.2 :: rest := by
  subst h
  rw [List.filter_cons, if_pos k]
  exact ⟨_, rfl⟩
theorem fits_two {rows : List Row} {tx : L} {a b : Row} {l : List Row} (h : rows = a :: b :: l) (k : rowFits tx a = false) (k2 : rowFits tx b = true) : ∃ rest, (rows.filter (rowFits tx)).map (·.2) = b.2 :: rest := by
  subst h
  rw [List.filter_cons, if_neg (by rw [k]; decide), List.filter_cons, if_pos k2]
  exact ⟨_, rfl⟩
theorem rowFits_some {f tx : L} {z : List L} : rowFits tx (some [f], z) = decide (tx = f) := by
  show ([f].any fun f => decide (f = tx)) = _
  rw [List.any_cons, List.any_nil, Bool.or_false]
  by_cases h : f = tx
  · rw [decide_eq_true h, decide_eq_true h.symm]
  · rw [decide_eq_false h, decide_eq_false fun z => h z.symm]
theorem rowFits_none {tx : L} {z : List L} : rowFits tx (none, z) = true := rfl
theorem key_rows {X : L} (h : X ∈ keys) : ∃ rows, rules.lookup X = some rows := by
  simp only [keys, List.mem_cons, List.not_mem_nil, or_false] at h
  rcases h with rfl | rfl | rfl | rfl | rfl <;> exact ⟨_, rfl⟩
theorem not_key {X : L} (h : X ∉ keys) : rules.lookup X = none := by
  have h' : X ≠ yTABLE ∧ X ≠ yLIST ∧ X ≠ yWORDS ∧ X ≠ yMORE ∧ X ≠ yFITS := by
    simp only [keys, List.mem_cons, List.not_mem_nil, or_false, not_or] at h
    exact h
  obtain ⟨a, b, c, d, e⟩ := h'
  have n : ∀ {y : L}, X ≠ y → (X == y) = false := fun h => beq_eq_false_iff_ne.mpr h
  unfold rules
  simp only [List.lookup, n a, n b, n c, n d, n e]
theorem weigh_up {X Y : L} {rhs S : List L} {ts : List Lex} (hX : X ∈ keys) (h : rhs.length ≤ 6) (hY : Y ∉ keys) : weigh (Y :: rhs ++ S) ts < weigh (X :: S) ts := by
  unfold weigh
  rw [show isKey (X :: S) = 10 from if_pos hX, show isKey (Y :: rhs ++ S) = 0 from if_neg hY]
  simp only [List.length_cons, List.length_append, List.cons_append]
  omega
theorem weigh_pop {X : L} {S : List L} {ts : List Lex} (hX : X ∈ keys) : weigh S ts < weigh (X :: S) ts := by
  have h := isKey_le S
  unfold weigh
  rw [show isKey (X :: S) = 10 from if_pos hX]
  simp only [List.length_cons]
  omega
theorem weigh_eat {X : L} {S : List L} {t : Lex} {ts : List Lex} : weigh S ts < weigh (X :: S) (t :: ts) := by
  have h := isKey_le S
  unfold weigh
  simp only [List.length_cons]
  omega
theorem G_step {X : L} {S : List L} {t : Lex} {r : List Lex} {rows : List Row} (aw : AW (t :: r)) (hk : X ∈ keys) (hr : rules.lookup X = some rows) :
    ∃ rhs rest, (rows.filter (rowFits t.tx)).map (·.2) = rhs :: rest ∧ rhs.length ≤ 7 ∧ (∀ x ∈ rhs, x ∈ syms) ∧ ((∀ x ∈ rhs.dropLast, x ≠ yTABLE ∧ x ≠ yEND) ∧ (X ≠ yTABLE → ∀ x ∈ rhs, x ≠ yTABLE ∧ x ≠ yEND)) ∧ G (X :: S) (t :: r) = G (rhs ++ S) (t :: r) ∧ weigh (rhs ++ S) (t :: r) < weigh (X :: S) (t :: r) := by
  have hk' := hk
  simp only [keys, List.mem_cons, List.not_mem_nil, or_false] at hk'
  rcases hk' with rfl | rfl | rfl | rfl | rfl
  · cases (show rules.lookup yTABLE = some _ from rfl).symm.trans hr
    obtain ⟨rest, e⟩ := fits_one (tx := t.tx) rfl rowFits_none
    exact ⟨_, rest, e, by decide, by decide, ⟨by decide, fun z => absurd rfl z⟩, G_table_step aw, weigh_up hk (by decide) (by decide)⟩
  · cases (show rules.lookup yLIST = some _ from rfl).symm.trans hr
    obtain ⟨rest, e⟩ := fits_one (tx := t.tx) rfl rowFits_none
    exact ⟨_, rest, e, by decide, by decide, ⟨by decide, fun _ => by decide⟩, G_list_step aw, weigh_up hk (by decide) (by decide)⟩
  · cases (show rules.lookup yWORDS = some _ from rfl).symm.trans hr
    by_cases k : t.tx = [41]
    · obtain ⟨rest, e⟩ := fits_one (tx := t.tx) rfl (rowFits_some.trans (decide_eq_true k))
      exact ⟨_, rest, e, by decide, by decide, ⟨by decide, fun _ => by decide⟩, (G_words_step aw).trans (if_pos k), weigh_pop hk⟩
    · obtain ⟨rest, e⟩ := fits_two (tx := t.tx) rfl (rowFits_some.trans (decide_eq_false k)) rowFits_none
      exact ⟨_, rest, e, by decide, by decide, ⟨by decide, fun _ => by decide⟩, (G_words_step aw).trans (if_neg k), weigh_up hk (by decide) (by decide)⟩
  · cases (show rules.lookup yMORE = some _ from rfl).symm.trans hr
    by_cases k : t.tx = [44]
    · obtain ⟨rest, e⟩ := fits_one (tx := t.tx) rfl (rowFits_some.trans (decide_eq_true k))
      exact ⟨_, rest, e, by decide, by decide, ⟨by decide, fun _ => by decide⟩, (G_more_step aw).trans (if_pos k), weigh_up hk (by decide) (by decide)⟩
    · obtain ⟨rest, e⟩ := fits_two (tx := t.tx) rfl (rowFits_some.trans (decide_eq_false k)) rowFits_none
      exact ⟨_, rest, e, by decide, by decide, ⟨by decide, fun _ => by decide⟩, (G_more_step aw).trans (if_neg k), weigh_pop hk⟩
  · cases (show rules.lookup yFITS = some _ from rfl).symm.trans hr
    by_cases k : t.tx = [125]
    · obtain ⟨rest, e⟩ := fits_one (tx := t.tx) rfl (rowFits_some.trans (decide_eq_true k))
      exact ⟨_, rest, e, by decide, by decide, ⟨by decide, fun _ => by decide⟩, (G_fits_step aw).trans (if_pos k), weigh_pop hk⟩
    · obtain ⟨rest, e⟩ := fits_two (tx := t.tx) rfl (rowFits_some.trans (decide_eq_false k)) rowFits_none
      exact ⟨_, rest, e, by decide, by decide, ⟨by decide, fun _ => by decide⟩, (G_fits_step aw).trans (if_neg k), weigh_up hk (by decide) (by decide)⟩
theorem G_eat {X : L} {S : List L} {t : Lex} {r : List Lex} (hk : X ∉ keys) : G (X :: S) (t :: r) = if mt X t = true then G S r else some t.pl := by
  rw [G_cons, pSym_other hk]
  show thenG S (if mt X t = true then _ else _) = _
  split <;> rfl
end Kin
namespace Kin
open PySem PySem.Spec PyProof.Rows L2 SX Evl
theorem lit_kTABLE : ("TABLE" : Str) = S yTABLE := by decide +kernel
theorem lit_kLIST : ("LIST" : Str) = S yLIST := by decide +kernel
theorem lit_kWORDS : ("WORDS" : Str) = S yWORDS := by decide +kernel
theorem lit_kMORE : ("MORE" : Str) = S yMORE := by decide +kernel
theorem lit_kFITS : ("FITS" : Str) = S yFITS := by decide +kernel
/-- a row of the rules -/
def RowAt (H : Hp) (p : Addr) (r : Row) : Prop := ∃ (u : V) (q : Addr), H p = some (.lst [u, .ref q]) ∧ H q = some (.lst (wV r.2)) ∧ match r.1 with
  | none => u = .non
  | some fs => ∃ c, u = .ref c ∧ H c = some (.lst (wV fs))
def RowsAt (H : Hp) (a : Addr) (rows : List Row) : Prop := ∃ as : List Addr, H a = some (.lst (as.map V.ref)) ∧ Paired (RowAt H) as rows
structure RulesAt (H : Hp) (r : Addr) : Prop where
  ex : ∃ kvs : List (Key × V), H r = some (.dK kvs) ∧ (∀ X, X ∉ keys → valV kvs (.inr (S X)) = none) ∧ ∀ X rows, rules.lookup X = some rows → ∃ a, valV kvs (.inr (S X)) = some (.ref a) ∧ RowsAt H a rows
theorem RowAt.keep {H H' : Hp} {p : Addr} {r : Row} (h : RowAt H p r) (e : ∀ b xs, H b = some (.lst xs) → H' b = some (.lst xs)) : RowAt H' p r := by
  obtain ⟨u, q, h1, h2, h3⟩ := h
  refine ⟨u, q, e _ _ h1, e _ _ h2, ?_⟩
  obtain ⟨f, z⟩ := r
  cases f with
  | none => exact h3
  | some fs =>
    obtain ⟨c, h4, h5⟩ := h3
    exact ⟨c, h4, e _ _ h5⟩
theorem RowsAt.keep {H H' : Hp} {a : Addr} {rows : List Row} (h : RowsAt H a rows) (e : ∀ b xs, H b = some (.lst xs) → H' b = some (.lst xs)) : RowsAt H' a rows := by
  obtain ⟨as, h1, h2⟩ := h
  exact ⟨as, e _ _ h1, Paired.mapQ h2 fun _ _ z => z.keep e⟩
theorem RowsAt.ex {H H' : Hp} {a : Addr} {rows : List Row} (h : RowsAt H a rows) (x : Ex H H') : RowsAt H' a rows := h.keep fun b xs z => x b _ z
theorem RowAt.ex {H H' : Hp} {a : Addr} {row : Row} (h : RowAt H a row) (x : Ex H H') : RowAt H' a row := h.keep fun b xs z => x b _ z
theorem RowsAt.mut {H : Hp} {a d : Addr} {rows : List Row} {o : HO} {kvs : List (Key × V)} (h : RowsAt H a rows) (hd : H d = some (.dK kvs)) : RowsAt (upd H d o) a rows := h.keep fun b xs z => by rw [upd_ne (ne_of z hd (by intro z; cases z))]; exact z
theorem RulesAt.keep {H H' : Hp} {r : Addr} (h : RulesAt H r) (x : Ex H H') : RulesAt H' r := by
  obtain ⟨kvs, h1, h2, h3⟩ := h.ex
  refine ⟨kvs, x _ _ h1, h2, fun X rows e => ?_⟩
  obtain ⟨a, h4, h5⟩ := h3 X rows e
  exact ⟨a, h4, h5.ex x⟩
/-- what is new -/
def res (H H' : Hp) : Hp := fun b => match H b with
  | none => H' b
  | some _ => none
theorem res_some {H H' : Hp} {b : Addr} {o : HO} (h : res H H' b = some o) : H b = none ∧ H' b = some o := by
  unfold res at h
  cases z : H b with
  | none => rw [z] at h; exact ⟨rfl, h⟩
  | some u => rw [z] at h; cases h
theorem res_at {H H' : Hp} {b : Addr} {o : HO} (h : H b = none) (k : H' b = some o) : res H H' b = some o := by
  unfold res
  rw [h]
  exact k
theorem res_ex {H A B : Hp} (x : Ex A B) : Ex (res H A) (res H B) := fun b o h => res_at (res_some h).1 (x b o (res_some h).2)
theorem RowsAt.mutR {H B : Hp} {a d : Addr} {rows : List Row} {o : HO} {kvs : List (Key × V)} (h : RowsAt (res H B) a rows) (hd : B d = some (.dK kvs)) : RowsAt (res H (upd B d o)) a rows := h.keep fun b xs z => by
  obtain ⟨h1, h2⟩ := res_some z
  exact res_at h1 (by rw [upd_ne (ne_of h2 hd (by intro z; cases z))]; exact h2)
theorem row_noneR {H0 H : Hp} {q p : Addr} {rhs : List L} (X : Ex H0 H) (hq : H q = none) (hp : upd H q (.lst (wV rhs)) p = none) : Ex H (upd (upd H q (.lst (wV rhs))) p (.lst [.non, .ref q])) ∧ RowAt (res H0 (upd (upd H q (.lst (wV rhs))) p (.lst [.non, .ref q]))) p (none, rhs) :=
  ⟨(Ex.new hq).trans (Ex.new hp), .non, q, res_at (fresh_back (X.trans (Ex.new hq)) hp) upd_same, res_at (fresh_back X hq) ((Ex.new hp) _ _ upd_same), rfl⟩
theorem row_someR {H0 H : Hp} {c q p : Addr} {fs rhs : List L} (X : Ex H0 H) (hc : H c = none) (hq : upd H c (.lst (wV fs)) q = none) (hp : upd (upd H c (.lst (wV fs))) q (.lst (wV rhs)) p = none) :
    Ex H (upd (upd (upd H c (.lst (wV fs))) q (.lst (wV rhs))) p (.lst [.ref c, .ref q])) ∧ RowAt (res H0 (upd (upd (upd H c (.lst (wV fs))) q (.lst (wV rhs))) p (.lst [.ref c, .ref q]))) p (some fs, rhs) :=
  ⟨((Ex.new hc).trans (Ex.new hq)).trans (Ex.new hp), .ref c, q, res_at (fresh_back (X.trans ((Ex.new hc).trans (Ex.new hq))) hp) upd_same, res_at (fresh_back (X.trans (Ex.new hc)) hq) ((Ex.new hp) _ _ upd_same), c, rfl,
    res_at (fresh_back X hc) ((Ex.new hp) _ _ ((Ex.new hq) _ _ upd_same))⟩
theorem row_none {H : Hp} {q p : Addr} {rhs : List L} (hq : H q = none) (hp : upd H q (.lst (wV rhs)) p = none) : Ex H (upd (upd H q (.lst (wV rhs))) p (.lst [.non, .ref q])) ∧ RowAt (upd (upd H q (.lst (wV rhs))) p (.lst [.non, .ref q])) p (none, rhs) :=
  ⟨(Ex.new hq).trans (Ex.new hp), .non, q, upd_same, (Ex.new hp) _ _ upd_same, rfl⟩
theorem row_some {H : Hp} {c q p : Addr} {fs rhs : List L} (hc : H c = none) (hq : upd H c (.lst (wV fs)) q = none) (hp : upd (upd H c (.lst (wV fs))) q (.lst (wV rhs)) p = none) :
    Ex H (upd (upd (upd H c (.lst (wV fs))) q (.lst (wV rhs))) p (.lst [.ref c, .ref q])) ∧ RowAt (upd (upd (upd H c (.lst (wV fs))) q (.lst (wV rhs))) p (.lst [.ref c, .ref q])) p (some fs, rhs) :=
  ⟨((Ex.new hc).trans (Ex.new hq)).trans (Ex.new hp), .ref c, q, upd_same, (Ex.new hp) _ _ upd_same, c, rfl, (Ex.new hp) _ _ ((Ex.new hq) _ _ upd_same)⟩
theorem inr_S {a b : L} : ((Sum.inr (S a) : Key) = Sum.inr (S b)) ↔ a = b := ⟨fun h => S_inj (Sum.inr.inj h), fun h => by rw [h]⟩
/-- the five keys stored one after the other -/
theorem five {a1 a2 a3 a4 a5 : V} (X : L) : valV (putK (putK (putK (putK (mergeK [] [(Sum.inr (S yTABLE), a1)]) (Sum.inr (S yLIST)) a2) (Sum.inr (S yWORDS)) a3) (Sum.inr (S yMORE)) a4) (Sum.inr (S yFITS)) a5) (Sum.inr (S X) : Key) =
    if X = yFITS then some a5 else if X = yMORE then some a4 else if X = yWORDS then some a3 else if X = yLIST then some a2 else if X = yTABLE then some a1 else none := by
  have e : mergeK [] [((Sum.inr (S yTABLE) : Key), a1)] = putK [] (Sum.inr (S yTABLE)) a1 := rfl
  rw [e, valV_put, valV_put, valV_put, valV_put, valV_put, valV_nil]
  simp only [inr_S]
def spRules : Sp := fun vs H Q _ => vs = [] ∧ ∀ r H', Ex H H' → RulesAt (res H H') r → Q (.ref r) H'
theorem hu64 {A : Around} {k : Nat} (hr : Room k A) : A.units + 64 < cLine := Nat.lt_of_le_of_lt (Nat.add_le_add_left (by decide : 64 ≤ 65) _) (hu65 hr)
theorem wTABLE : ([.str "table", .str "LIST", .str "LIST", .str "{", .str "FITS", .str "}", .str "END"] : List V) = wV [cTab, yLIST, yLIST, [123], yFITS, [125], yEND] := by decide +kernel
theorem wLIST : ([.str "(", .str "WORDS", .str ")"] : List V) = wV [[40], yWORDS, [41]] := by decide +kernel
theorem wWM : ([.str "W", .str "MORE"] : List V) = wV [yW, yMORE] := by decide +kernel
theorem wCWM : ([.str ",", .str "W", .str "MORE"] : List V) = wV [[44], yW, yMORE] := by decide +kernel
theorem wWWSF : ([.str "W", .str "W", .str ";", .str "FITS"] : List V) = wV [yW, yW, [59], yFITS] := by decide +kernel
theorem wRP : ([.str ")"] : List V) = wV [[41]] := by decide +kernel
theorem wCM : ([.str ","] : List V) = wV [[44]] := by decide +kernel
theorem wRB : ([.str "}"] : List V) = wV [[125]] := by decide +kernel
theorem wNil : ([] : List V) = wV [] := rfl
section
variable {P : Program} {w : World} {K : PySem.W.Frag} {mg : Str → Option Value} {base : Heap}
theorem scRules : FnScope ["_law_rules_here"] [] (C8.fnScope sRules) := C8.fnScope_by (by decide +kernel)
theorem ok_rules {f : Addr} {fd : FuncData} (F : C8.Def K mg "_law_rules" sRules f fd) (b : Binds K fd [] []) : C8.Cal P w K mg base 1 "_law_rules" spRules [] := by
  refine C8.cal0 F b .nil scRules (fun vs H Q E h => ?_) (fun cdv A outer s H vs Q E hr h => ?_)
  · obtain ⟨rfl, _⟩ := h
    rfl
  · obtain ⟨rfl, q⟩ := h
    have hu : (cxOf (L2.CX P w) P w K mg base ["_law_rules_here"] "_law_rules" (C8.fnScope sRules) f cdv A outer s H E).A.units + 1 < cLine := Nat.lt_of_le_of_lt (Nat.add_le_add_left (by decide : 1 ≤ 65) _) (hu65 hr)
    refine ⟨_, pss_cons (ps_set (i := 0) scRules.nd rfl (Or.inl rfl) (pe_disp (pps_cons (pe_str) (pe_lst (pa_cons (pe_lst (pa_cons (pe_non) (pa_cons (pe_lst (pa_cons (pe_str) (pa_cons (pe_str) (pa_cons (pe_str) (pa_cons (pe_str) (pa_cons (pe_str) (pa_cons (pe_str) (pa_cons (pe_str) pa_nil)))))))) pa_nil))) pa_nil)) pps_nil) (by rfl) (by rfl) (fun z => by cases z) (by decide)))
      (pss_cons (ps_dput hu (pv 0) (pe_str) (pe_lst (pa_cons (pe_lst (pa_cons (pe_non) (pa_cons (pe_lst (pa_cons (pe_str) (pa_cons (pe_str) (pa_cons (pe_str) pa_nil)))) pa_nil))) pa_nil)) rfl)
      (pss_cons (ps_dput hu (pv 0) (pe_str) (pe_lst (pa_cons (pe_lst (pa_cons (pe_lst (pa_cons (pe_str) pa_nil)) (pa_cons (pe_lst pa_nil) pa_nil))) (pa_cons (pe_lst (pa_cons (pe_non) (pa_cons (pe_lst (pa_cons (pe_str) (pa_cons (pe_str) pa_nil))) pa_nil))) pa_nil))) rfl)
      (pss_cons (ps_dput hu (pv 0) (pe_str) (pe_lst (pa_cons (pe_lst (pa_cons (pe_lst (pa_cons (pe_str) pa_nil)) (pa_cons (pe_lst (pa_cons (pe_str) (pa_cons (pe_str) (pa_cons (pe_str) pa_nil)))) pa_nil))) (pa_cons (pe_lst (pa_cons (pe_non) (pa_cons (pe_lst pa_nil) pa_nil))) pa_nil))) rfl)
      (pss_cons (ps_dput hu (pv 0) (pe_str) (pe_lst (pa_cons (pe_lst (pa_cons (pe_lst (pa_cons (pe_str) pa_nil)) (pa_cons (pe_lst pa_nil) pa_nil))) (pa_cons (pe_lst (pa_cons (pe_non) (pa_cons (pe_lst (pa_cons (pe_str) (pa_cons (pe_str) (pa_cons (pe_str) (pa_cons (pe_str) pa_nil))))) pa_nil))) pa_nil))) rfl)
      (pss_one (ps_ret (pv 0))))))), ?_⟩
    -- {'TABLE': ..}
    refine fun d hd => ?_
    have x0 := Ex.new (o := .dK []) hd
    have k0 : upd H d (.dK []) d = some (.dK []) := upd_same
    generalize upd H d (.dK []) = H0 at x0 k0 ⊢
    refine ⟨(by show 7 ≤ sizeLine; decide), fun q1 hq1 => ⟨(by show 2 ≤ sizeLine; decide), fun p1 hp1 => ?_⟩⟩
    rw [wTABLE] at hp1 ⊢
    obtain ⟨x1, r1⟩ := row_noneR x0 hq1 hp1
    generalize upd (upd H0 q1 (.lst (wV [cTab, yLIST, yLIST, [123], yFITS, [125], yEND]))) p1 (.lst [.non, .ref q1]) = H1 at x1 r1 ⊢
    refine ⟨(by show 1 ≤ sizeLine; decide), fun t1 ht1 => ?_⟩
    have x2 := x1.trans (Ex.new (o := .lst [.ref p1]) ht1)
    have R1 : RowsAt (res H (upd H1 t1 (.lst [.ref p1]))) t1 [(none, [cTab, yLIST, yLIST, [123], yFITS, [125], yEND])] := ⟨[p1], res_at (fresh_back (x0.trans x1) ht1) upd_same, .cons (r1.ex (res_ex (Ex.new ht1))) .nil⟩
    have k2 := x2 _ _ k0
    have y2 := x0.trans x2
    generalize upd H1 t1 (.lst [.ref p1]) = H2 at y2 R1 k2 ⊢
    refine ⟨k2, [(.inr "TABLE", .ref t1)], rfl, (by show 1 ≤ 15; decide), ?_⟩
    rw [lit_kTABLE]
    have R1 := R1.mutR (o := .dK (mergeK [] [(.inr (S yTABLE), .ref t1)])) k2
    have y2 := y2.mut (o := .dK (mergeK [] [(.inr (S yTABLE), .ref t1)])) hd
    have k2 : upd H2 d (.dK (mergeK [] [(.inr (S yTABLE), .ref t1)])) d = some _ := upd_same
    generalize upd H2 d (.dK (mergeK [] [(.inr (S yTABLE), .ref t1)])) = G1 at R1 y2 k2 ⊢
    have len1 : (mergeK [] [((.inr (S yTABLE) : Key), V.ref t1)]).length = 1 := rfl
    generalize eD1 : mergeK [] [((.inr (S yTABLE) : Key), V.ref t1)] = D1 at k2 len1 ⊢
    -- yLIST
    have z2 : Ex G1 G1 := Ex.refl _
    refine ⟨(by show 3 ≤ sizeLine; decide), fun q20 hq20 => ⟨(by show 2 ≤ sizeLine; decide), fun p20 hp20 => ?_⟩⟩
    rw [wLIST] at hp20 ⊢
    obtain ⟨x20, r20⟩ := row_noneR (y2.trans z2) hq20 hp20
    have z2 := z2.trans x20
    clear x20
    generalize upd (upd G1 q20 (.lst (wV [[40], yWORDS, [41]]))) p20 (.lst [.non, .ref q20]) = A20 at z2 r20 ⊢
    refine ⟨(by show 1 ≤ sizeLine; decide), fun t2 ht2 => ?_⟩
    have R2 : RowsAt (res H (upd A20 t2 (.lst [.ref p20]))) t2 [(none, [[40], yWORDS, [41]])] := ⟨[p20], res_at (fresh_back (y2.trans z2) ht2) upd_same, .cons (r20.ex (res_ex (Ex.new ht2))) (.nil)⟩
    have z2 := z2.trans (Ex.new (o := .lst [.ref p20]) ht2)
    have k3 := z2 _ _ k2
    have y3 := y2.trans z2
    have R1 := R1.ex (res_ex z2)
    generalize upd A20 t2 (.lst [.ref p20]) = B2 at R2 k3 y3 R1 ⊢
    refine ⟨_, rfl, d, _, rfl, DPut.k (k := .inr "LIST") k3 (sz_lt (by omega)), ?_⟩
    rw [lit_kLIST]
    have R1 := R1.mutR (o := .dK (putK D1 (.inr (S yLIST)) (.ref t2))) k3
    have R2 := R2.mutR (o := .dK (putK D1 (.inr (S yLIST)) (.ref t2))) k3
    have y3 := y3.mut (o := .dK (putK D1 (.inr (S yLIST)) (.ref t2))) hd
    have k3 : upd B2 d (.dK (putK D1 (.inr (S yLIST)) (.ref t2))) d = some _ := upd_same
    generalize upd B2 d (.dK (putK D1 (.inr (S yLIST)) (.ref t2))) = G2 at R1 R2 y3 k3 ⊢
    have len2 : (putK D1 (.inr (S yLIST)) (.ref t2)).length ≤ 2 := Nat.le_trans (putK_len _ _ _) (by omega)
    generalize eD2 : putK D1 (.inr (S yLIST)) (.ref t2) = D2 at k3 len2 ⊢
    -- yWORDS
    have z3 : Ex G2 G2 := Ex.refl _
    refine ⟨(by show 1 ≤ sizeLine; decide), fun c30 hc30 => ⟨(by show 0 ≤ sizeLine; decide), fun q30 hq30 => ⟨(by show 2 ≤ sizeLine; decide), fun p30 hp30 => ?_⟩⟩⟩
    rw [wRP] at hq30 hp30 ⊢
    have hp30 : upd (upd G2 c30 (.lst (wV [[41]]))) q30 (.lst (wV [])) p30 = none := hp30
    obtain ⟨x30, r30⟩ := row_someR (y3.trans z3) hc30 hq30 hp30
    have e30 : upd (upd (upd G2 c30 (.lst (wV [[41]]))) q30 (.lst (wV []))) p30 (.lst [.ref c30, .ref q30]) = upd (upd (upd G2 c30 (.lst (wV [[41]]))) q30 (.lst [])) p30 (.lst [.ref c30, .ref q30]) := rfl
    rw [e30] at x30 r30
    have z3 := z3.trans x30
    clear x30
    generalize upd (upd (upd G2 c30 (.lst (wV [[41]]))) q30 (.lst [])) p30 (.lst [.ref c30, .ref q30]) = A30 at z3 r30 ⊢
    refine ⟨(by show 2 ≤ sizeLine; decide), fun q31 hq31 => ⟨(by show 2 ≤ sizeLine; decide), fun p31 hp31 => ?_⟩⟩
    rw [wWM] at hp31 ⊢
    obtain ⟨x31, r31⟩ := row_noneR (y3.trans z3) hq31 hp31
    have z3 := z3.trans x31
    have r30 := r30.ex (res_ex x31)
    clear x31
    generalize upd (upd A30 q31 (.lst (wV [yW, yMORE]))) p31 (.lst [.non, .ref q31]) = A31 at z3 r31 r30 ⊢
    refine ⟨(by show 2 ≤ sizeLine; decide), fun t3 ht3 => ?_⟩
    have R3 : RowsAt (res H (upd A31 t3 (.lst [.ref p30, .ref p31]))) t3 [(some [[41]], []), (none, [yW, yMORE])] := ⟨[p30, p31], res_at (fresh_back (y3.trans z3) ht3) upd_same, .cons (r30.ex (res_ex (Ex.new ht3))) (.cons (r31.ex (res_ex (Ex.new ht3))) (.nil))⟩
    have z3 := z3.trans (Ex.new (o := .lst [.ref p30, .ref p31]) ht3)
    have k4 := z3 _ _ k3
    have y4 := y3.trans z3
    have R1 := R1.ex (res_ex z3)
    have R2 := R2.ex (res_ex z3)
    generalize upd A31 t3 (.lst [.ref p30, .ref p31]) = B3 at R3 k4 y4 R1 R2 ⊢
    refine ⟨_, rfl, d, _, rfl, DPut.k (k := .inr "WORDS") k4 (sz_lt (by omega)), ?_⟩
    rw [lit_kWORDS]
    have R1 := R1.mutR (o := .dK (putK D2 (.inr (S yWORDS)) (.ref t3))) k4
    have R2 := R2.mutR (o := .dK (putK D2 (.inr (S yWORDS)) (.ref t3))) k4
    have R3 := R3.mutR (o := .dK (putK D2 (.inr (S yWORDS)) (.ref t3))) k4
    have y4 := y4.mut (o := .dK (putK D2 (.inr (S yWORDS)) (.ref t3))) hd
    have k4 : upd B3 d (.dK (putK D2 (.inr (S yWORDS)) (.ref t3))) d = some _ := upd_same
    generalize upd B3 d (.dK (putK D2 (.inr (S yWORDS)) (.ref t3))) = G3 at R1 R2 R3 y4 k4 ⊢
    have len3 : (putK D2 (.inr (S yWORDS)) (.ref t3)).length ≤ 3 := Nat.le_trans (putK_len _ _ _) (by omega)
    generalize eD3 : putK D2 (.inr (S yWORDS)) (.ref t3) = D3 at k4 len3 ⊢
    -- yMORE
    have z4 : Ex G3 G3 := Ex.refl _
    refine ⟨(by show 1 ≤ sizeLine; decide), fun c40 hc40 => ⟨(by show 3 ≤ sizeLine; decide), fun q40 hq40 => ⟨(by show 2 ≤ sizeLine; decide), fun p40 hp40 => ?_⟩⟩⟩
    rw [wCM] at hq40 hp40 ⊢
    rw [wCWM] at hp40 ⊢
    obtain ⟨x40, r40⟩ := row_someR (y4.trans z4) hc40 hq40 hp40
    have z4 := z4.trans x40
    clear x40
    generalize upd (upd (upd G3 c40 (.lst (wV [[44]]))) q40 (.lst (wV [[44], yW, yMORE]))) p40 (.lst [.ref c40, .ref q40]) = A40 at z4 r40 ⊢
    refine ⟨(by show 0 ≤ sizeLine; decide), fun q41 hq41 => ⟨(by show 2 ≤ sizeLine; decide), fun p41 hp41 => ?_⟩⟩
    have hp41 : upd A40 q41 (.lst (wV [])) p41 = none := hp41
    obtain ⟨x41, r41⟩ := row_noneR (y4.trans z4) hq41 hp41
    have e41 : upd (upd A40 q41 (.lst (wV []))) p41 (.lst [.non, .ref q41]) = upd (upd A40 q41 (.lst [])) p41 (.lst [.non, .ref q41]) := rfl
    rw [e41] at x41 r41
    have z4 := z4.trans x41
    have r40 := r40.ex (res_ex x41)
    clear x41
    generalize upd (upd A40 q41 (.lst [])) p41 (.lst [.non, .ref q41]) = A41 at z4 r41 r40 ⊢
    refine ⟨(by show 2 ≤ sizeLine; decide), fun t4 ht4 => ?_⟩
    have R4 : RowsAt (res H (upd A41 t4 (.lst [.ref p40, .ref p41]))) t4 [(some [[44]], [[44], yW, yMORE]), (none, [])] := ⟨[p40, p41], res_at (fresh_back (y4.trans z4) ht4) upd_same, .cons (r40.ex (res_ex (Ex.new ht4))) (.cons (r41.ex (res_ex (Ex.new ht4))) (.nil))⟩
    have z4 := z4.trans (Ex.new (o := .lst [.ref p40, .ref p41]) ht4)
    have k5 := z4 _ _ k4
    have y5 := y4.trans z4
    have R1 := R1.ex (res_ex z4)
    have R2 := R2.ex (res_ex z4)
    have R3 := R3.ex (res_ex z4)
    generalize upd A41 t4 (.lst [.ref p40, .ref p41]) = B4 at R4 k5 y5 R1 R2 R3 ⊢
    refine ⟨_, rfl, d, _, rfl, DPut.k (k := .inr "MORE") k5 (sz_lt (by omega)), ?_⟩
    rw [lit_kMORE]
    have R1 := R1.mutR (o := .dK (putK D3 (.inr (S yMORE)) (.ref t4))) k5
    have R2 := R2.mutR (o := .dK (putK D3 (.inr (S yMORE)) (.ref t4))) k5
    have R3 := R3.mutR (o := .dK (putK D3 (.inr (S yMORE)) (.ref t4))) k5
    have R4 := R4.mutR (o := .dK (putK D3 (.inr (S yMORE)) (.ref t4))) k5
    have y5 := y5.mut (o := .dK (putK D3 (.inr (S yMORE)) (.ref t4))) hd
    have k5 : upd B4 d (.dK (putK D3 (.inr (S yMORE)) (.ref t4))) d = some _ := upd_same
    generalize upd B4 d (.dK (putK D3 (.inr (S yMORE)) (.ref t4))) = G4 at R1 R2 R3 R4 y5 k5 ⊢
    have len4 : (putK D3 (.inr (S yMORE)) (.ref t4)).length ≤ 4 := Nat.le_trans (putK_len _ _ _) (by omega)
    generalize eD4 : putK D3 (.inr (S yMORE)) (.ref t4) = D4 at k5 len4 ⊢
    -- yFITS
    have z5 : Ex G4 G4 := Ex.refl _
    refine ⟨(by show 1 ≤ sizeLine; decide), fun c50 hc50 => ⟨(by show 0 ≤ sizeLine; decide), fun q50 hq50 => ⟨(by show 2 ≤ sizeLine; decide), fun p50 hp50 => ?_⟩⟩⟩
    rw [wRB] at hq50 hp50 ⊢
    have hp50 : upd (upd G4 c50 (.lst (wV [[125]]))) q50 (.lst (wV [])) p50 = none := hp50
    obtain ⟨x50, r50⟩ := row_someR (y5.trans z5) hc50 hq50 hp50
    have e50 : upd (upd (upd G4 c50 (.lst (wV [[125]]))) q50 (.lst (wV []))) p50 (.lst [.ref c50, .ref q50]) = upd (upd (upd G4 c50 (.lst (wV [[125]]))) q50 (.lst [])) p50 (.lst [.ref c50, .ref q50]) := rfl
    rw [e50] at x50 r50
    have z5 := z5.trans x50
    clear x50
    generalize upd (upd (upd G4 c50 (.lst (wV [[125]]))) q50 (.lst [])) p50 (.lst [.ref c50, .ref q50]) = A50 at z5 r50 ⊢
    refine ⟨(by show 4 ≤ sizeLine; decide), fun q51 hq51 => ⟨(by show 2 ≤ sizeLine; decide), fun p51 hp51 => ?_⟩⟩
    rw [wWWSF] at hp51 ⊢
    obtain ⟨x51, r51⟩ := row_noneR (y5.trans z5) hq51 hp51
    have z5 := z5.trans x51
    have r50 := r50.ex (res_ex x51)
    clear x51
    generalize upd (upd A50 q51 (.lst (wV [yW, yW, [59], yFITS]))) p51 (.lst [.non, .ref q51]) = A51 at z5 r51 r50 ⊢
    refine ⟨(by show 2 ≤ sizeLine; decide), fun t5 ht5 => ?_⟩
    have R5 : RowsAt (res H (upd A51 t5 (.lst [.ref p50, .ref p51]))) t5 [(some [[125]], []), (none, [yW, yW, [59], yFITS])] := ⟨[p50, p51], res_at (fresh_back (y5.trans z5) ht5) upd_same, .cons (r50.ex (res_ex (Ex.new ht5))) (.cons (r51.ex (res_ex (Ex.new ht5))) (.nil))⟩
    have z5 := z5.trans (Ex.new (o := .lst [.ref p50, .ref p51]) ht5)
    have k6 := z5 _ _ k5
    have y6 := y5.trans z5
    have R1 := R1.ex (res_ex z5)
    have R2 := R2.ex (res_ex z5)
    have R3 := R3.ex (res_ex z5)
    have R4 := R4.ex (res_ex z5)
    generalize upd A51 t5 (.lst [.ref p50, .ref p51]) = B5 at R5 k6 y6 R1 R2 R3 R4 ⊢
    refine ⟨_, rfl, d, _, rfl, DPut.k (k := .inr "FITS") k6 (sz_lt (by omega)), ?_⟩
    rw [lit_kFITS]
    have R1 := R1.mutR (o := .dK (putK D4 (.inr (S yFITS)) (.ref t5))) k6
    have R2 := R2.mutR (o := .dK (putK D4 (.inr (S yFITS)) (.ref t5))) k6
    have R3 := R3.mutR (o := .dK (putK D4 (.inr (S yFITS)) (.ref t5))) k6
    have R4 := R4.mutR (o := .dK (putK D4 (.inr (S yFITS)) (.ref t5))) k6
    have R5 := R5.mutR (o := .dK (putK D4 (.inr (S yFITS)) (.ref t5))) k6
    have y6 := y6.mut (o := .dK (putK D4 (.inr (S yFITS)) (.ref t5))) hd
    have k6 : upd B5 d (.dK (putK D4 (.inr (S yFITS)) (.ref t5))) d = some _ := upd_same
    generalize upd B5 d (.dK (putK D4 (.inr (S yFITS)) (.ref t5))) = G5 at R1 R2 R3 R4 R5 y6 k6 ⊢
    have len5 : (putK D4 (.inr (S yFITS)) (.ref t5)).length ≤ 5 := Nat.le_trans (putK_len _ _ _) (by omega)
    generalize eD5 : putK D4 (.inr (S yFITS)) (.ref t5) = D5 at k6 len5 ⊢
    refine ⟨_, rfl, q d G5 y6 ⟨⟨_, res_at hd k6, fun X hX => ?_, fun X rows hX => ?_⟩⟩⟩
    · rw [← eD5, ← eD4, ← eD3, ← eD2, ← eD1, five]
      simp only [keys, List.mem_cons, List.not_mem_nil, or_false, not_or] at hX
      obtain ⟨a, b, c, d, e⟩ := hX
      rw [if_neg e, if_neg d, if_neg c, if_neg b, if_neg a]
    · have hk : X ∈ keys := Classical.byContradiction fun h => by rw [not_key h] at hX; cases hX
      rw [← eD5, ← eD4, ← eD3, ← eD2, ← eD1, five]
      simp only [keys, List.mem_cons, List.not_mem_nil, or_false] at hk
      rcases hk with rfl | rfl | rfl | rfl | rfl
      · cases (show rules.lookup yTABLE = some _ from rfl).symm.trans hX
        exact ⟨t1, rfl, R1⟩
      · cases (show rules.lookup yLIST = some _ from rfl).symm.trans hX
        exact ⟨t2, rfl, R2⟩
      · cases (show rules.lookup yWORDS = some _ from rfl).symm.trans hX
        exact ⟨t3, rfl, R3⟩
      · cases (show rules.lookup yMORE = some _ from rfl).symm.trans hX
        exact ⟨t4, rfl, R4⟩
      · cases (show rules.lookup yFITS = some _ from rfl).symm.trans hX
        exact ⟨t5, rfl, R5⟩
end
end Kin
namespace Kin
open PySem PySem.Spec PyProof.Rows L2 SX Evl
/-- a list of texts as data -/
def wD (ws : List L) : PyData := .list (ws.map fun x => .str (S x))
theorem wVs_dp {K : PySem.W.Frag} {H : Hp} : ∀ ws : List L, DpAll K H (wV ws) (ws.map fun x => .str (S x))
  | [] => .nil
  | x :: ws => .cons (.str _) (wVs_dp ws)
theorem wV_dp {K : PySem.W.Frag} {H : Hp} {a : Addr} {ws : List L} (h : H a = some (.lst (wV ws))) : Dp K H (.ref a) (wD ws) := .lst (SqL.of h) (wVs_dp ws)
theorem wDs_lay : ∀ ws : List L, (∀ x ∈ ws, PyData.strOk (S x) = true) → PyData.canLayAll0 (ws.map fun x => PyData.str (S x)) = true
  | [], _ => by simp [PyData.canLayAll0]
  | x :: ws, h => by
    rw [List.map_cons]
    simp only [PyData.canLayAll0, wDs_lay ws (fun g hg => h g (List.mem_cons_of_mem _ hg)), Bool.and_true]
    simp [PyData.canLay0, h x List.mem_cons_self]
theorem wDs_depth : ∀ ws : List L, PyData.depthAll (ws.map fun x => PyData.str (S x)) ≤ 1
  | [] => by simp [PyData.depthAll]
  | x :: ws => by
    have h := wDs_depth ws
    rw [List.map_cons]
    simp only [PyData.depthAll]
    have h2 : (PyData.str (S x)).depth ≤ 1 := by simp [PyData.depth]
    omega
theorem wD_shaped {ws : List L} (h : ∀ x ∈ ws, PyData.strOk (S x) = true) : SeqAt.shaped (wD ws) = true := by
  have d := wDs_depth ws
  unfold SeqAt.shaped wD
  rw [Bool.and_eq_true]
  refine ⟨by simp only [PyData.canLay0]; exact wDs_lay ws h, decide_eq_true ?_⟩
  simp only [PyData.depth]
  omega
theorem wD_eqv_nil (ws : List L) : PyData.eqv (wD ws) (.list []) = decide (ws = []) := by
  cases ws with
  | nil => rfl
  | cons x ws => rfl
theorem syms_ok : ∀ x ∈ syms, PyData.strOk (S x) = true := by decide +kernel
theorem syms_flat (ws : List L) : (wV ws).all flatV = true := wV_flat ws
theorem wV_app (a b : List L) : wV a ++ wV b = wV (a ++ b) := (List.map_append ..).symm
theorem wV_rev (a : List L) : (wV a).reverse = wV a.reverse := (List.map_reverse ..).symm
/-- the wrong place as the law tells it -/
def wpV : Option Nat → List V
  | none => []
  | some p => [.int (p : Int)]
def spWrongPlace : Sp := fun vs H Q _ => ∃ (r : Addr) (l X : L), vs = [.ref r, .str (S l), .str (S X)] ∧ RulesAt H r ∧ l.length ≤ 50000 ∧ X ∈ syms ∧ ∀ a H', H a = none → Ex H H' → H' a = some (.lst (wpV (G [X] (tkAt l 0)))) → Q (.ref a) H'
theorem rows_len {X : L} {rows : List Row} (h : rules.lookup X = some rows) : rows.length ≤ 2 := by
  have hk : X ∈ keys := Classical.byContradiction fun z => by rw [not_key z] at h; cases h
  simp only [keys, List.mem_cons, List.not_mem_nil, or_false] at hk
  rcases hk with rfl | rfl | rfl | rfl | rfl
  · cases (show rules.lookup yTABLE = some _ from rfl).symm.trans h
    decide
  · cases (show rules.lookup yLIST = some _ from rfl).symm.trans h
    decide
  · cases (show rules.lookup yWORDS = some _ from rfl).symm.trans h
    decide
  · cases (show rules.lookup yMORE = some _ from rfl).symm.trans h
    decide
  · cases (show rules.lookup yFITS = some _ from rfl).symm.trans h
    decide
theorem paired_get {α β : Type} {F : α → β → Prop} : ∀ {l : List α} {m : List β} {i : Nat} {a : α}, Paired F l m → l[i]? = some a → ∃ b, m[i]? = some b ∧ F a b
  | _, _, _, _, .nil, e => by simp at e
  | _, _, 0, _, .cons h _, e => by
    simp at e
    subst e
    exact ⟨_, rfl, h⟩
  | _, _, i + 1, _, .cons _ t, e => by
    obtain ⟨b, h1, h2⟩ := paired_get (i := i) t (by simpa using e)
    exact ⟨b, by simpa using h1, h2⟩
theorem inV_wV {x : L} : ∀ ws : List L, inV (.str (S x)) (wV ws) = ws.any fun f => decide (f = x)
  | [] => rfl
  | y :: ws => by
    have h := inV_wV (x := x) ws
    rw [List.any_cons, ← h]
    show (S y == S x || inV (.str (S x)) (wV ws)) = _
    rw [S_beq_eq]
theorem ix_listK {X : Cx} {K : PySem.W.Frag} (h : X.K = K) : IxR X (rIxL K) := by
  subst h
  exact ix_list
theorem op_in_seqK {X : Cx} {K : PySem.W.Frag} (h : X.K = K) : OpR X (compareOp .In) (rIn K false) := by
  subst h
  exact op_in_seq
theorem pi_listK {X : Cx} {K : PySem.W.Frag} {tg l : Expr} {tl : TE} (h : X.K = K) (hl : PE X l tl) : PI X tg l (iList K tl) := by
  subst h
  exact pi_list hl
section
variable {P : Program} {w : World} {K : PySem.W.Frag} {mg : Str → Option Value} {base : Heap}
theorem scWrongPlace : FnScope ["_law_rules_here", "_law_text", "_law_form", "_law_stack", "_law_lexeme_here", "_law_top", "_law_fits", "_law_row"] ["_law_rules_here", "_law_text", "_law_form"] (C8.fnScope sWrongPlace) := C8.fnScope_by (by decide +kernel)
theorem ok_wrongPlace {f : Addr} {fd : FuncData} (T : Glob mg) (F : C8.Def K mg "_law_wrong_place" sWrongPlace f fd) (b : Binds K fd ["_law_rules_here", "_law_text", "_law_form"] []) (cL : C8.Cal P w K mg base 2 "_law_lexeme" spLLex []) : C8.Cal P w K mg base 3 "_law_wrong_place" spWrongPlace [] := by
  refine C8.cal0 F b .nil scWrongPlace (fun vs H Q E h => ?_) (fun cdv A outer s H vs Q E hr h => ?_)
  · obtain ⟨r, l, X, rfl, _⟩ := h
    rfl
  · obtain ⟨r, l, X, rfl, hR, hl, hX, q⟩ := h
    have hu : (cxOf (L2.CX P w) P w K mg base ["_law_rules_here", "_law_text", "_law_form", "_law_stack", "_law_lexeme_here", "_law_top", "_law_fits", "_law_row"] "_law_wrong_place" (C8.fnScope sWrongPlace) f cdv A outer s H E).A.units + 1 < cLine := Nat.lt_of_le_of_lt (Nat.add_le_add_left (by decide : 1 ≤ 65) _) (hu65 hr)
    refine ⟨_, pss_cons (ps_asg (pe_tup (pa_cons (pe_lst (pa_cons (pv 2) pa_nil)) (pa_cons (C8.pe_c cL hr (by decide) (by rfl) (pa_cons (pv 1) (pa_cons (pe_int) pa_nil))) pa_nil))) (pg_tup (by rfl) (pgs_cons (pg_name (i := 3) scWrongPlace.nd rfl (Or.inl rfl)) (pgs_cons (pg_name (i := 4) scWrongPlace.nd rfl (Or.inr rfl)) pgs_nil))))
      (pss_cons (ps_while PassesOwn.never (pt_cmpR (op_neD (hu64 hr)) (pv 3) (pe_lst pa_nil) (nomark _)) (pss_cons (ps_set (i := 5) scWrongPlace.nd rfl (Or.inl rfl) (pe_bm0 PySem.F.plainAttrs_list PySem.F.slot_list_pop PySem.F.type_list_pop mt_pop (pv 3)))
      (pss_one (ps_if (pt_cmp (pc_din hu (pv 5) (pv 0))) (pss_cons (ps_setLc (i := 6) (own := [("_law_row", 7)]) (by rfl) scWrongPlace.nd rfl rfl (sw_true rfl rfl rfl (by decide +kernel)) (pi_list (pe_dget hu (pv 0) (pv 5) (fun _ _ => rfl))) (blkOk_by (own := [("_law_row", 7)]) (N := ["_law_rules_here", "_law_text", "_law_form", "_law_stack", "_law_lexeme_here", "_law_top", "_law_fits", "_law_row"]) (sc := C8.fnScope sWrongPlace) (by decide +kernel)) (fun _ _ _ _ _ => (pg_name (i := 7) scWrongPlace.nd rfl (Or.inl rfl))) (fun _ _ _ _ _ => (pts_one (PW.pt (pw_or (pt_cmpR op_isN (pe_ix (ix_listK (K := K) rfl) (pv 7) (pe_int) (fun _ _ => rfl)) (pe_non) (nomark _)) (pw_or1 (pt_cmpR (op_in_seqK (K := K) rfl) (pe_ix (ix_listK (K := K) rfl) (pv 4) (pe_int) (fun _ _ => rfl)) (pe_ix (ix_listK (K := K) rfl) (pv 7) (pe_int) (fun _ _ => rfl)) (by rfl))))))) (fun _ _ _ _ _ => (pe_ix (ix_listK (K := K) rfl) (pv 7) (pe_int) (fun _ _ => rfl))))
      (pss_one (ps_set (i := 3) scWrongPlace.nd rfl (Or.inl rfl) (pe_op op_cat (pv 3) (pe_revL (pe_ix ix_list (pv 6) (pe_int) (fun _ _ => rfl))))))) (pss_one (ps_if (PW.pt (pw_or (pt_cmpR op_eq (pe_ix ix_list (pv 4) (pe_int) (fun _ _ => rfl)) (pv 5) (nomark _)) (pw_or1 (PW.pt (pw_and (pt_cmpR op_eq (pe_ix ix_list (pv 4) (pe_int) (fun _ _ => rfl)) (pe_str) (nomark _)) (pw_and1 (pt_cmpR op_eq (pe_ix (ix_listK (K := K) rfl) (pv 4) (pe_int) (fun _ _ => rfl)) (pv 5) (nomark _)))))))) (pss_one (ps_set (i := 4) scWrongPlace.nd rfl (Or.inr rfl) (C8.pe_c cL hr (by decide) (by rfl) (pa_cons (pv 1) (pa_cons (pe_op op_add (pe_ix ix_list (pv 4) (pe_int) (fun _ _ => rfl)) (pe_callB call_len_str (by rfl) T.len PySem.boot_len (pa_cons (pe_ix (ix_listK (K := K) rfl) (pv 4) (pe_int) (fun _ _ => rfl)) pa_nil))) pa_nil))))) (pss_one (ps_ret (pe_lst (pa_cons (pe_ix ix_list (pv 4) (pe_int) (fun _ _ => rfl)) pa_nil))))))))))
      (pss_one (ps_ret (pe_lst pa_nil)))), ?_⟩
    refine ⟨_, rfl, (by show 1 ≤ sizeLine; decide), fun sa hsa => ?_⟩
    refine ⟨_, rfl, l, 0, rfl, hl, Nat.zero_le _, fun a0 H1 ha0 x1 h1 => ⟨(by show 2 ≤ sizeLine; decide), fun tp htp => ⟨tp, _, rfl, SqT.of upd_same, rfl, _, _, rfl, _, _, rfl, rfl, ?_⟩⟩⟩
    have hlas0 : a0 ≠ sa := fun z => by rw [z, upd_same] at ha0; cases ha0
    have xs1 := (Ex.new (o := .lst [.str (S X)]) hsa).trans (x1.trans (Ex.new (o := .tup [.ref sa, .ref a0]) htp))
    have s1 : upd H1 tp (.tup [.ref sa, .ref a0]) sa = some (.lst (wV [X])) := (x1.trans (Ex.new htp)) _ _ upd_same
    have l1 : upd H1 tp (.tup [.ref sa, .ref a0]) a0 = some (.lst (encL (lexS (l.drop 0) 0))) := (Ex.new htp) _ _ h1
    generalize upd H1 tp (.tup [.ref sa, .ref a0]) = H2 at xs1 s1 l1 ⊢
    obtain ⟨r0, hr0⟩ := tkAt_ne l 0
    have hlen0 := tkAt_len l 0
    rw [hr0] at hlen0
    simp only [List.length_cons] at hlen0
    refine ⟨fun m σ' H' => ∃ (st : List L) (ts : List Lex) (sa la : Addr) (o5 o6 : Option V), σ' = [some (.ref r), some (.str (S l)), some (.str (S X)), some (.ref sa), some (.ref la), o5, o6, none] ∧ Ex H H' ∧ H sa = none ∧ la ≠ sa ∧ H' sa = some (.lst (wV st.reverse)) ∧ (st = [] ∨ ∃ t rs p, ts = t :: rs ∧ H' la = some (.lst (encL t)) ∧ p ≤ l.length ∧ tkAt l p = ts) ∧
      (∀ x ∈ st, x ∈ syms) ∧ (∀ x ∈ st.dropLast, x ≠ yTABLE ∧ x ≠ yEND) ∧ G st ts = G [X] (tkAt l 0) ∧ weigh st ts ≤ 900000 ∧ m = weigh st ts,
      ⟨_, [X], _, sa, a0, none, none, rfl, xs1, hsa, hlas0, s1, .inr ⟨_, r0, 0, rfl, l1, Nat.zero_le _, hr0⟩, ?_, (fun _ h => by cases h), by rw [hr0], ?_, rfl⟩, ?_⟩
    · intro x hx
      rw [List.mem_singleton.mp hx]
      exact hX
    · have := isKey_le [X]
      unfold weigh
      simp only [List.length_cons, List.length_nil]
      omega
    rintro m σ' H' ⟨st, ts, sa0, la, o5, o6, rfl, x, hsaH, hla, hs, hat, hsy, hdl, hG, hwt, rfl⟩
    have hRR := hR.keep x
    -- while stack != []
    refine ⟨_, rfl, by decide, fun e he => ?_⟩
    have hse : sa0 ≠ e := ne_of_none hs he
    refine ⟨_, _, wV_dp (by rw [upd_ne hse]; exact hs), .lst (SqL.of upd_same) .nil, wD_shaped (fun y hy => syms_ok y (hsy y (List.mem_reverse.mp hy))), rfl, _, rfl, ?_⟩
    have xe : Ex H' (upd H' e (.lst [])) := Ex.new he
    have hs := xe _ _ hs
    have hRR := hRR.keep xe
    have x := x.trans xe
    have hat : st = [] ∨ ∃ t rs p, ts = t :: rs ∧ upd H' e (.lst []) la = some (.lst (encL t)) ∧ p ≤ l.length ∧ tkAt l p = ts := by
      rcases hat with z | ⟨t, rs, p, h1, h2, h3⟩
      · exact .inl z
      · exact .inr ⟨t, rs, p, h1, xe _ _ h2, h3⟩
    generalize upd H' e (.lst []) = H3 at x hs hat hRR ⊢
    rw [wD_eqv_nil]
    cases st with
    | nil =>
      refine iteB (c := false) rfl (fun z => by cases z) (fun _ => ?_)
      refine ⟨by decide, fun c hc => ?_⟩
      rw [← hG] at q
      exact q c _ (fresh_back x hc) (x.trans (Ex.new hc)) upd_same
    | cons Y st =>
      obtain ⟨t, rs, p, rfl, ha, hp, htk⟩ : ∃ t rs p, ts = t :: rs ∧ H3 la = some (.lst (encL t)) ∧ p ≤ l.length ∧ tkAt l p = ts := by
        rcases hat with z | z
        · cases z
        · exact z
      have hw : AW (t :: rs) := fun u hu' => by rw [← htk] at hu'; exact tkAt_wf l p u hu'
      refine iteB (c := true) (by rw [decide_eq_false]; rfl; simp) (fun _ => ?_) (fun z => by cases z)
      refine ⟨_, fun _ _ z => z, ?_⟩
      have lst : (st.length : Nat) ≤ 900000 := by
        unfold weigh at hwt
        simp only [List.length_cons] at hwt
        omega
      have eP : wV (Y :: st).reverse = wV st.reverse ++ [V.str (S Y)] := by
        rw [List.reverse_cons, ← wV_app]
        rfl
      rw [eP] at hs
      -- top = stack.pop()
      refine ⟨_, rfl, .inl ⟨rfl, _, SqL.of hs⟩, sa0, _, .str (S Y), rfl, rfl, hs, by simp, ?_⟩
      rw [List.dropLast_concat]
      have x := x.mut (o := .lst (wV st.reverse)) hsaH
      have ha : upd H3 sa0 (.lst (wV st.reverse)) la = some (.lst (encL t)) := by rw [upd_ne hla]; exact ha
      have hs : upd H3 sa0 (.lst (wV st.reverse)) sa0 = some (.lst (wV st.reverse)) := upd_same
      have hRR := hR.keep x
      generalize upd H3 sa0 (.lst (wV st.reverse)) = H4 at x ha hs hRR ⊢
      have sySt : ∀ y ∈ st, y ∈ syms := fun y hy => hsy y (List.mem_cons_of_mem _ hy)
      obtain ⟨kvs, hk1, hk2, hk3⟩ := hRR.ex
      -- if top in rules
      refine ⟨_, rfl, _, rfl, r, _, rfl, DGet.k (k := .inr (S Y)) hk1, _, rfl, ?_⟩
      by_cases hY : Y ∈ keys
      · -- a key
        obtain ⟨rows, hrows⟩ := key_rows hY
        obtain ⟨ra, hra, hrows2⟩ := hk3 Y rows hrows
        have rl := rows_len hrows
        obtain ⟨as, has, hps⟩ := id hrows2
        refine iteB (c := true) (by rw [hra]; rfl) (fun _ => ?_) (fun z => by cases z)
        obtain ⟨rhs, rest, hfit, hlen, hrs, ⟨hd1, hd2⟩, hstep, hlt⟩ := G_step (S := st) hw hY hrows
        have hg : DGet H4 r (.str (S Y)) (some (.ref ra)) := by
          rw [← hra]
          exact DGet.k (k := .inr (S Y)) hk1
        refine ⟨_, rfl, _, rfl, r, .ref ra, rfl, hg, ra, rfl, ⟨_, SqL.of has⟩, fun D hD => ?_⟩
        have hlas : as.length = rows.length := Paired.length hps
        refine lc_it walk_list (fun i H' => Ex H4 H' ∧ ∃ qs : List Addr, H' D = some (.lst (qs.map V.ref)) ∧ qs.length ≤ i ∧ Paired (fun q z => H4 q = some (.lst (wV z))) qs (((rows.take i).filter (rowFits t.tx)).map (·.2)))
          ⟨Ex.new hD, [], upd_same, Nat.le_refl _, .nil⟩ (fun i H' _ z => SqL.of (z.1 _ _ has)) ?_ ?_
        · rintro i v H5 H6 hi ⟨x5, qs, hD5, hql, hqs⟩ ⟨rfl, hv⟩
          rw [List.length_map] at hi
          obtain ⟨pa, rw0, rfl, hpa, hrw, hrow⟩ : ∃ (pa : Addr) (rw0 : Row), v = .ref pa ∧ as[i]? = some pa ∧ rows[i]? = some rw0 ∧ RowAt H4 pa rw0 := by
            rw [List.getElem?_map] at hv
            cases ea : as[i]? with
            | none =>
              rw [ea] at hv
              cases hv
            | some pa =>
              rw [ea] at hv
              obtain ⟨rw0, h1, h2⟩ := paired_get hps ea
              exact ⟨pa, rw0, (Option.some.inj hv).symm, rfl, h1, h2⟩
          obtain ⟨u, qa, g1, g2, g3⟩ := hrow
          have g1 := x5 _ _ g1
          have at0 : atI [u, V.ref qa] (0 : Int) = some u := atI_nat (j := 0) rfl
          have at1 : atI [u, V.ref qa] (1 : Int) = some (.ref qa) := atI_nat (j := 1) rfl
          have et : rows.take (i + 1) = rows.take i ++ [rw0] := by rw [List.take_add_one, hrw]; rfl
          have next : rowFits t.tx rw0 = true → ∃ acc, H6 D = some (.lst acc) ∧ acc.length < sizeLine ∧ Ex H4 (upd H6 D (.lst (acc ++ [.ref qa]))) ∧ ∃ qs : List Addr, upd H6 D (.lst (acc ++ [.ref qa])) D = some (.lst (qs.map V.ref)) ∧ qs.length ≤ i + 1 ∧ Paired (fun q z => H4 q = some (.lst (wV z))) qs (((rows.take (i + 1)).filter (rowFits t.tx)).map (·.2)) := by
            intro hf
            refine ⟨_, hD5, sz_lt (by rw [List.length_map]; omega), x5.mut hD, qs ++ [qa], ?_, ?_, ?_⟩
            · rw [upd_same, List.map_append]
              rfl
            · rw [List.length_append]
              show qs.length + 1 ≤ i + 1
              omega
            · rw [et, List.filter_append, show [rw0].filter (rowFits t.tx) = [rw0] by rw [List.filter_cons, if_pos hf]; rfl, List.map_append]
              exact Paired.snoc hqs g2
          have skip : rowFits t.tx rw0 = false → Ex H4 H6 ∧ ∃ qs : List Addr, H6 D = some (.lst (qs.map V.ref)) ∧ qs.length ≤ i + 1 ∧ Paired (fun q z => H4 q = some (.lst (wV z))) qs (((rows.take (i + 1)).filter (rowFits t.tx)).map (·.2)) := by
            intro hf
            refine ⟨x5, qs, hD5, by omega, ?_⟩
            rw [et, List.filter_append, show [rw0].filter (rowFits t.tx) = [] by rw [List.filter_cons, if_neg (by rw [hf]; decide)]; rfl, List.append_nil]
            exact hqs
          refine ⟨rfl, _, rfl, _, _, _, _, rfl, rfl, SqL.of g1, at0, rfl, _, rfl, ?_⟩
          obtain ⟨fs, rhs0⟩ := rw0
          cases fs with
          | none =>
            subst g3
            refine iteB (c := true) rfl (fun _ => ?_) (fun z => by cases z)
            exact iteT ⟨_, rfl, _, _, _, _, rfl, rfl, SqL.of g1, at1, next rfl⟩
          | some fs =>
            obtain ⟨ca, rfl, hca⟩ := g3
            refine iteB (c := false) rfl (fun z => by cases z) (fun _ => ?_)
            refine ⟨_, rfl, _, _, _, _, rfl, rfl, SqL.of (x5 _ _ ha), atL1 t, ?_⟩
            refine ⟨_, rfl, _, _, _, _, rfl, rfl, SqL.of g1, at0, ca, _, rfl, .inl (SqL.of (x5 _ _ hca)), rfl, wV_flat fs, _, rfl, ?_⟩
            refine iteB (c := rowFits t.tx (some fs, rhs0)) (inV_wV fs) (fun hf => ?_) (fun hf => ?_)
            · exact ⟨_, rfl, _, _, _, _, rfl, rfl, SqL.of g1, at1, next hf⟩
            · exact skip hf
        · rintro H5 ⟨x5, qs, hD5, hql, hqs⟩
          rw [List.length_map, hlas, List.take_length, hfit] at hqs
          obtain ⟨qa, qs', rfl, hqa, _⟩ : ∃ qa qs', qs = qa :: qs' ∧ H4 qa = some (.lst (wV rhs)) ∧ True := by
            cases hqs with
            | cons h _ => exact ⟨_, _, rfl, h, True.intro⟩
          have hsa5 := x5 _ _ hs
          -- stack + fits[0][::-1]
          refine ⟨_, rfl, _, rfl, _, _, _, _, rfl, rfl, SqL.of hD5, (atI_nat (j := 0) rfl), ?_⟩
          refine ⟨qa, _, rfl, SqL.of (x5 _ _ hqa), fun p1 hp1 => ?_⟩
          rw [wV_rev]
          have x6 := Ex.new (o := .lst (wV rhs.reverse)) hp1
          have hs6 := x6 _ _ hsa5
          have hp6 : upd H5 p1 (.lst (wV rhs.reverse)) p1 = some (.lst (wV rhs.reverse)) := upd_same
          generalize upd H5 p1 (.lst (wV rhs.reverse)) = H6 at x6 hs6 hp6 ⊢
          refine ⟨sa0, p1, _, _, rfl, rfl, hs6, hp6, ?_, fun p2 hp2 => ?_⟩
          · show (wV st.reverse).length + (wV rhs.reverse).length ≤ sizeLine
            rw [show (wV st.reverse).length = st.length by simp [wV], show (wV rhs.reverse).length = rhs.length by simp [wV]]
            have : 900000 + 7 ≤ sizeLine := by decide
            omega
          have eC : wV st.reverse ++ wV rhs.reverse = wV (rhs ++ st).reverse := by rw [wV_app, List.reverse_append]
          rw [eC]
          have x7 := (x.trans x5).trans (x6.trans (Ex.new (o := .lst (wV (rhs ++ st).reverse)) hp2))
          have ha7 := (x6.trans (Ex.new (o := .lst (wV (rhs ++ st).reverse)) hp2)) _ _ (x5 _ _ ha)
          have hap : la ≠ p2 := ne_of_none (x6 _ _ (x5 _ _ ha)) hp2
          refine ⟨_, hlt, rhs ++ st, t :: rs, p2, la, _, _, rfl, x7, ?_, hap, upd_same, .inr ⟨t, rs, p, rfl, ha7, hp, htk⟩, ?_, ?_, by rw [← hstep]; exact hG, Nat.le_trans (Nat.le_of_lt hlt) hwt, rfl⟩
          · exact fresh_back ((x.trans x5).trans x6) hp2
          · intro y hy
            rcases List.mem_append.mp hy with z | z
            · exact hrs y z
            · exact sySt y z
          · cases st with
            | nil =>
              rw [List.append_nil]
              exact hd1
            | cons z zs =>
              intro y hy
              rw [List.dropLast_append_of_ne_nil (by simp)] at hy
              rcases List.mem_append.mp hy with m | m
              · exact hd2 (hdl Y List.mem_cons_self).1 y m
              · exact hdl y (List.mem_cons_of_mem _ m)
      · -- no key
        refine iteB (c := false) (by rw [hk2 Y hY]; rfl) (fun z => by cases z) (fun _ => ?_)
        refine ⟨_, rfl, _, _, _, _, rfl, rfl, SqL.of ha, atL0 t, _, rfl, rfl, _, rfl, ?_⟩
        have hGe := G_eat (S := st) (t := t) (r := rs) hY
        have hnx0 : t.nx ≤ l.length := by
          obtain ⟨z, hz⟩ := tkAt_ne l p
          rw [hz] at htk
          cases htk
          exact lexS_in hp
        have eat : mt Y t = true → ∀ a2 H5, H4 a2 = none → Ex H4 H5 → H5 a2 = some (.lst (encL (lexS (l.drop t.nx) t.nx))) → ∀ (o5 o6 : Option V), ∃ m', m' < weigh (Y :: st) (t :: rs) ∧ ∃ (st : List L) (ts : List Lex) (sb la : Addr) (o5' o6' : Option V),
            ([some (.ref r), some (.str (S l)), some (.str (S X)), some (.ref sa0), some (.ref a2), o5, o6, none] : L2.St) = [some (.ref r), some (.str (S l)), some (.str (S X)), some (.ref sb), some (.ref la), o5', o6', none] ∧ Ex H H5 ∧ H sb = none ∧ la ≠ sb ∧ H5 sb = some (.lst (wV st.reverse)) ∧ (st = [] ∨ ∃ t rs p, ts = t :: rs ∧ H5 la = some (.lst (encL t)) ∧ p ≤ l.length ∧ tkAt l p = ts) ∧
      (∀ x ∈ st, x ∈ syms) ∧ (∀ x ∈ st.dropLast, x ≠ yTABLE ∧ x ≠ yEND) ∧ G st ts = G [X] (tkAt l 0) ∧ weigh st ts ≤ 900000 ∧ m' = weigh st ts := by
          intro hm a2 H5 hn2 x5 h5 o5 o6
          have hGe := (G_eat (S := st) (t := t) (r := rs) hY).trans (if_pos hm)
          have hlt : weigh st rs < weigh (Y :: st) (t :: rs) := weigh_eat
          have ha2s : a2 ≠ sa0 := fun z => by rw [z, hs] at hn2; cases hn2
          have dl : ∀ x ∈ st.dropLast, x ≠ yTABLE ∧ x ≠ yEND := fun x hx => by
            cases st with
            | nil => cases hx
            | cons z zs => exact hdl x (List.mem_cons_of_mem _ hx)
          refine ⟨_, hlt, st, rs, sa0, a2, o5, o6, rfl, x.trans x5, hsaH, ha2s, x5 _ _ hs, ?_, sySt, dl, by rw [← hGe]; exact hG, Nat.le_trans (Nat.le_of_lt hlt) hwt, rfl⟩
          by_cases hst : st = []
          · exact .inl hst
          refine .inr ?_
          have hYd : Y ∈ (Y :: st).dropLast := by
            cases st with
            | nil => exact absurd rfl hst
            | cons z zs => exact List.mem_cons_self
          have w := hw t List.mem_cons_self
          have hYE : Y ≠ yEND := (hdl Y hYd).2
          have hYN : Y ≠ yNone := fun z => by
            have := hsy Y List.mem_cons_self
            rw [z] at this
            revert this
            decide
          have hl2 : t.live = true := by
            refine live_of (fun z => ?_) (fun z => ?_)
            · have e : sortL t = yEND := by unfold sortL; rw [z]
              unfold mt at hm
              rw [e, decide_eq_false (fun h => hYE h.symm), decide_eq_false (by decide)] at hm
              cases hm
            · have e : sortL t = yNone := by unfold sortL; rw [z]
              unfold mt at hm
              rw [e, decide_eq_false (fun h => hYN h.symm), decide_eq_false (by decide)] at hm
              cases hm
          obtain ⟨hnx, u, r', hr', htk', hu'⟩ := tk_next hp htk hl2
          exact ⟨u, r', t.nx, hr', by rw [hu']; exact h5, hnx, by rw [hr']; exact htk'⟩
        have len2 : t.tx.length ≤ l.length := by
          unfold Lex.nx at hnx0
          omega
        refine iteB (c := decide (sortL t = Y)) dec_str (fun h1 => ?_) (fun h1 => ?_)
        · have hm : mt Y t = true := by unfold mt; rw [h1]; rfl
          refine ⟨_, rfl, _, rfl, _, _, _, _, rfl, rfl, SqL.of ha, atL2 t, _, rfl, _, _, _, _, rfl, rfl, SqL.of ha, atL1 t, _, rfl, S_size (by omega), _, _, rfl, rfl, l, t.nx, ?_, hl, hnx0, fun a2 H5 hn2 x5 h5 => eat hm a2 H5 hn2 x5 h5 _ _⟩
          rw [S_len]
          rfl
        have nm := of_decide_eq_false h1
        have stop : mt Y t = false → ∀ c, H4 c = none → Q (.ref c) (upd H4 c (.lst [.int (t.pl : Int)])) := by
          intro hm c hc
          have hGe := (G_eat (S := st) (t := t) (r := rs) hY).trans (if_neg (by rw [hm]; decide))
          rw [← hG, hGe] at q
          exact q c _ (fresh_back x hc) (x.trans (Ex.new hc)) upd_same
        refine ⟨_, rfl, _, _, _, _, rfl, rfl, SqL.of ha, atL0 t, rfl, _, rfl, ?_⟩
        refine iteB (c := decide (sortL t = yW)) (by rw [lit_W]; exact dec_str) (fun h2 => ?_) (fun h2 => ?_)
        · refine ⟨_, rfl, _, _, _, _, rfl, rfl, SqL.of ha, atL1 t, _, rfl, rfl, _, rfl, ?_⟩
          refine iteB (c := decide (t.tx = Y)) dec_str (fun h3 => ?_) (fun h3 => ?_)
          · have hm : mt Y t = true := by unfold mt; rw [h1, h2, h3]; rfl
            refine ⟨_, rfl, _, rfl, _, _, _, _, rfl, rfl, SqL.of ha, atL2 t, _, rfl, _, _, _, _, rfl, rfl, SqL.of ha, atL1 t, _, rfl, S_size (by omega), _, _, rfl, rfl, l, t.nx, ?_, hl, hnx0, fun a2 H5 hn2 x5 h5 => eat hm a2 H5 hn2 x5 h5 _ _⟩
            rw [S_len]
            rfl
          · refine ⟨_, rfl, _, _, _, _, rfl, rfl, SqL.of ha, atL2 t, (by show 1 ≤ sizeLine; decide), fun c hc => stop ?_ c hc⟩
            unfold mt
            rw [h1, h2, h3]
            rfl
        · refine ⟨_, rfl, _, _, _, _, rfl, rfl, SqL.of ha, atL2 t, (by show 1 ≤ sizeLine; decide), fun c hc => stop ?_ c hc⟩
          unfold mt
          rw [h1, h2]
          rfl
end
end Kin
namespace Kin
open PySem PySem.Spec PyProof.Rows L2 SX Evl
/-- the source of the drawing -/
def srcK (c : Addr) (a m t : Int) : List (Key × V) := [(.inr "cells", .ref c), (.inr "left", .int a), (.inr "mixed", .int m), (.inr "turn", .int t)]
abbrev kC : Key := .inr "cells"
abbrev kL : Key := .inr "left"
abbrev kM : Key := .inr "mixed"
abbrev kT : Key := .inr "turn"
theorem nCL : ¬ kC = kL := by decide +kernel
theorem nCM : ¬ kC = kM := by decide +kernel
theorem nCT : ¬ kC = kT := by decide +kernel
theorem nLM : ¬ kL = kM := by decide +kernel
theorem nLT : ¬ kL = kT := by decide +kernel
theorem nMT : ¬ kM = kT := by decide +kernel
section
variable {c : Addr} {a b m t : Int}
theorem valC : valV (srcK c a m t) kC = some (.ref c) := valV_pos rfl
theorem valL : valV (srcK c a m t) kL = some (.int a) := (valV_neg nCL).trans (valV_pos rfl)
theorem valM : valV (srcK c a m t) kM = some (.int m) := (valV_neg nCM).trans ((valV_neg nLM).trans (valV_pos rfl))
theorem valT : valV (srcK c a m t) kT = some (.int t) := (valV_neg nCT).trans ((valV_neg nLT).trans ((valV_neg nMT).trans (valV_pos rfl)))
theorem putL : putK (srcK c a m t) kL (.int b) = srcK c b m t := by
  unfold putK
  rw [valV_any, valL]
  refine (if_pos rfl).trans ?_
  show [if kC = kL then _ else _, if kL = kL then _ else _, if kM = kL then _ else _, if kT = kL then _ else _] = _
  rw [if_neg nCL, if_pos rfl, if_neg fun z => nLM z.symm, if_neg fun z => nLT z.symm]
  rfl
theorem putT : putK (srcK c a m t) kT (.int b) = srcK c a m b := by
  unfold putK
  rw [valV_any, valT]
  refine (if_pos rfl).trans ?_
  show [if kC = kT then _ else _, if kL = kT then _ else _, if kM = kT then _ else _, if kT = kT then _ else _] = _
  rw [if_neg nCT, if_neg nLT, if_neg nMT, if_pos rfl]
  rfl
theorem putAll : mergeK [] [(kC, V.ref c), (kL, .int a), (kM, .int m), (kT, .int t)] = srcK c a m t := by
  show putK (putK (putK (putK [] kC _) kL _) kM _) kT _ = _
  have e1 : putK [] kC (V.ref c) = [(kC, V.ref c)] := rfl
  have e2 : putK [(kC, V.ref c)] kL (V.int a) = [(kC, V.ref c), (kL, .int a)] := putK_new _ ((valV_neg nCL).trans valV_nil)
  have e3 : putK [(kC, V.ref c), (kL, V.int a)] kM (V.int m) = [(kC, V.ref c), (kL, .int a), (kM, .int m)] := putK_new _ ((valV_neg nCM).trans ((valV_neg nLM).trans valV_nil))
  have e4 : putK [(kC, V.ref c), (kL, V.int a), (kM, V.int m)] kT (V.int t) = srcK c a m t := putK_new _ ((valV_neg nCT).trans ((valV_neg nLT).trans ((valV_neg nMT).trans valV_nil)))
  rw [e1, e2, e3, e4]
end
theorem iteShare {b : Bool} {A B : Prop} (hB : B) (h : b = true → B → A) : if b = true then A else B := by
  cases b with
  | true => exact iteT (h rfl hB)
  | false => exact iteF hB
section
variable {H : Hp} {s c : Addr} {a b m t : Int}
theorem getC (hs : H s = some (.dK (srcK c a m t))) : DGet H s (.str "cells") (some (.ref c)) := by
  rw [← valC (c := c) (a := a) (m := m) (t := t)]
  exact DGet.k (k := kC) hs
theorem getL (hs : H s = some (.dK (srcK c a m t))) : DGet H s (.str "left") (some (.int a)) := by
  rw [← valL (c := c) (a := a) (m := m) (t := t)]
  exact DGet.k (k := kL) hs
theorem getM (hs : H s = some (.dK (srcK c a m t))) : DGet H s (.str "mixed") (some (.int m)) := by
  rw [← valM (c := c) (a := a) (m := m) (t := t)]
  exact DGet.k (k := kM) hs
theorem getT (hs : H s = some (.dK (srcK c a m t))) : DGet H s (.str "turn") (some (.int t)) := by
  rw [← valT (c := c) (a := a) (m := m) (t := t)]
  exact DGet.k (k := kT) hs
theorem setL (hs : H s = some (.dK (srcK c a m t))) : DPut H s (.str "left") (.int b) (upd H s (.dK (srcK c b m t))) := by
  rw [← putL (c := c) (a := a) (m := m) (t := t)]
  exact DPut.k (k := kL) hs (by show 4 < sizeLine; decide)
theorem setT (hs : H s = some (.dK (srcK c a m t))) : DPut H s (.str "turn") (.int b) (upd H s (.dK (srcK c a m b))) := by
  rw [← putT (c := c) (a := a) (m := m) (t := t)]
  exact DPut.k (k := kT) hs (by show 4 < sizeLine; decide)
end
structure SrcAt (H : Hp) (s c : Addr) : Prop where
  ex : ∃ (a m t : Int) (cs : List Int), H s = some (.dK (srcK c a m t)) ∧ H c = some (.lst (cs.map V.int))
theorem SrcAt.keep {H H' : Hp} {s c : Addr} (h : SrcAt H s c) (x : Ex H H') : SrcAt H' s c := by
  obtain ⟨a, m, t, cs, h1, h2⟩ := h.ex
  exact ⟨a, m, t, cs, x _ _ h1, x _ _ h2⟩
/-- all but the source stands as it did -/
def ExS (s c : Addr) (H H' : Hp) : Prop := ∀ b o, b ≠ s → b ≠ c → H b = some o → H' b = some o
theorem ExS.of {s c : Addr} {H H' : Hp} (e : Ex H H') : ExS s c H H' := fun b o _ _ h => e b o h
theorem ExS.refl (s c : Addr) (H : Hp) : ExS s c H H := fun _ _ _ _ h => h
theorem ExS.trans {s c : Addr} {H H1 H2 : Hp} (a : ExS s c H H1) (b : ExS s c H1 H2) : ExS s c H H2 := fun d o n k h => b d o n k (a d o n k h)
theorem ExS.putS (s c : Addr) (H : Hp) (o : HO) : ExS s c H (upd H s o) := fun b u n _ h => by rw [upd_ne n]; exact h
theorem ExS.putC (s c : Addr) (H : Hp) (o : HO) : ExS s c H (upd H c o) := fun b u _ n h => by rw [upd_ne n]; exact h
theorem sqL_ex {K : PySem.W.Frag} {H H' : Hp} {a : Addr} {xs : List V} (h : SqL K H a xs) (e : Ex H H') : SqL K H' a xs :=
  h.elim (fun h => .inl (h.elim (fun h => .inl (e _ _ h)) fun ⟨o, h⟩ => .inr ⟨o, e _ _ h⟩)) fun h => .inr h
def spSource (K : PySem.W.Frag) : Sp := fun vs H Q _ => ∃ (a : Addr) (ns : List Int), vs = [.ref a] ∧ SqL K H a (ns.map V.int) ∧ ns.length ≤ 63 ∧ ∀ s c H', H s = none → H c = none → Ex H H' → SrcAt H' s c → Q (.ref s) H'
def spPick : Sp := fun vs H Q _ => ∃ (s c : Addr) (many : Nat), vs = [.ref s, .int (many : Int)] ∧ many ≤ 1000000 ∧ SrcAt H s c ∧ ∀ (r : Nat) H', r < max 1 many → ExS s c H H' → SrcAt H' s c → Q (.int (r : Int)) H'
def spOf : Sp := fun vs H Q _ => ∃ (s c l : Addr) (xs : List V), vs = [.ref s, .ref l] ∧ H l = some (.lst xs) ∧ l ≠ s ∧ l ≠ c ∧ xs ≠ [] ∧ xs.length ≤ 1000000 ∧ SrcAt H s c ∧ ∀ (j : Nat) v H', xs[j]? = some v → ExS s c H H' → SrcAt H' s c → Q v H'
theorem mod_pos (i : Int) {j : Int} (h : 0 < j) : ∃ r : Nat, i % j = (r : Int) ∧ (r : Int) < j := by
  have h1 := Int.emod_nonneg i (Int.ne_of_gt h)
  have h2 := Int.emod_lt_of_pos i h
  exact ⟨(i % j).toNat, by omega, by omega⟩
section
variable {P : Program} {w : World} {K : PySem.W.Frag} {mg : Str → Option Value} {base : Heap}
theorem scSource : FnScope ["_law_script", "_law_mixed", "_law_cell"] ["_law_script"] (C8.fnScope sSource) := C8.fnScope_by (by decide +kernel)
theorem ok_source {f : Addr} {fd : FuncData} (T : Glob mg) (F : C8.Def K mg "_law_source" sSource f fd) (b : Binds K fd ["_law_script"] []) : C8.Cal P w K mg base 1 "_law_source" (spSource K) [] := by
  refine C8.cal0 F b .nil scSource (fun vs H Q E h => ?_) (fun cdv A outer s H vs Q E hr h => ?_)
  · obtain ⟨a, ns, rfl, _⟩ := h
    rfl
  · obtain ⟨a, ns, rfl, ha, hn, q⟩ := h
    refine ⟨_, pss_cons (ps_set (i := 1) scSource.nd rfl (Or.inl rfl) (pe_int))
      (pss_cons (ps_for PassesOwn.never rfl (pi_list (pv 0)) (pg_name (i := 2) scSource.nd rfl (Or.inl rfl)) (pss_one (ps_set (i := 1) scSource.nd rfl (Or.inl rfl) (pe_op op_mod (pe_callTy call_int1 (by rfl) T.int (by decide +kernel) (pa_cons (pe_op op_add (pe_op op_add (pe_op op_mul (pv 1) (pe_int)) (pe_op op_mul (pv 2) (pe_int))) (pe_int)) pa_nil)) (pe_int)))))
      (pss_one (ps_ret (pe_disp (pps_cons (pe_str) (pe_revL (pe_lc (own := [("_law_cell", 2)]) (tt := tYes) (by rfl) scSource.nd (pi_list (pv 0)) (blkOk_by (own := [("_law_cell", 2)]) (N := ["_law_script", "_law_mixed", "_law_cell"]) (sc := C8.fnScope sSource) (by decide +kernel)) (fun _ _ _ _ _ => (pg_name (i := 2) scSource.nd rfl (Or.inl rfl))) (fun _ _ _ _ _ => pts_nil) (fun _ _ _ _ _ => (pe_callB call_abs (by rfl) T.abs (by decide +kernel) (pa_cons (pv 2) pa_nil))))) (pps_cons (pe_str) (pe_int) (pps_cons (pe_str) (pv 1) (pps_cons (pe_str) (pe_int) pps_nil)))) (by rfl) (by rfl) (fun z => by cases z) (by decide))))), ?_⟩
    refine ⟨_, rfl, a, rfl, ⟨_, ha⟩, ?_⟩
    refine for_it walk_list (fun j σ' H' => ∃ (m : Int) (o2 : Option V), σ' = [some (.ref a), some (.int m), o2] ∧ H' = H) ⟨11, none, rfl, rfl⟩ (fun j σ' H' _ ⟨_, _, _, z⟩ => by rw [z]; exact ha) ?_ ?_
    · rintro j v σ' H' H3 hj ⟨m, o2, rfl, rfl⟩ ⟨rfl, hv⟩
      obtain ⟨i, rfl⟩ : ∃ i, v = V.int i := by
        rw [List.getElem?_map] at hv
        cases z : ns[j]? with
        | none => rw [z] at hv; cases hv
        | some i => rw [z] at hv; exact ⟨i, (Option.some.inj hv).symm⟩
      refine ⟨_, rfl, _, _, rfl, rfl, .inr (by decide), ?_⟩
      refine ⟨_, rfl, _, _, rfl, rfl, .inr (by decide), _, _, rfl, rfl, _, _, rfl, rfl, .inl ⟨_, rfl, _, _, rfl, rfl, (by show (0 : Int) < 2147483629; decide), _, _, rfl, rfl⟩⟩
    · rintro σ' H' ⟨m, o2, rfl, rfl⟩
      refine fun d hd => ?_
      have xd := Ex.new (o := .dK []) hd
      have kd : upd H' d (.dK []) d = some (.dK []) := upd_same
      generalize upd H' d (.dK []) = H1 at xd kd ⊢
      have ha1 := sqL_ex ha xd
      refine ⟨_, rfl, a, rfl, ⟨_, ha1⟩, fun g hg => ?_⟩
      refine lc_it walk_list (fun j H' => Ex H1 H' ∧ ∃ cs : List Int, H' g = some (.lst (cs.map V.int)) ∧ cs.length ≤ j) ⟨Ex.new hg, [], upd_same, Nat.le_refl _⟩ (fun j H' _ z => sqL_ex ha1 z.1) ?_ ?_
      · rintro j v H5 H6 hj ⟨x5, cs, hg5, hcs⟩ ⟨rfl, hv⟩
        obtain ⟨i, rfl⟩ : ∃ i, v = V.int i := by
          rw [List.getElem?_map] at hv
          cases z : ns[j]? with
          | none => rw [z] at hv; cases hv
          | some i => rw [z] at hv; exact ⟨i, (Option.some.inj hv).symm⟩
        rw [List.length_map] at hj
        refine ⟨rfl, tYes_go ?_⟩
        refine ⟨_, rfl, _, rfl, _, hg5, sz_lt (by rw [List.length_map]; omega), x5.mut hg, cs ++ [if i < 0 then -i else i], ?_, ?_⟩
        · rw [upd_same, List.map_append]
          rfl
        · rw [List.length_append]
          show cs.length + 1 ≤ j + 1
          omega
      · rintro H5 ⟨x5, cs, hg5, hcs⟩
        refine ⟨g, _, rfl, SqL.of hg5, fun p hp => ?_⟩
        rw [← List.map_reverse]
        have x6 := x5.trans (Ex.new (o := .lst (cs.reverse.map V.int)) hp)
        have hp6 : upd H5 p (.lst (cs.reverse.map V.int)) p = some (.lst (cs.reverse.map V.int)) := upd_same
        have hpH : H' p = none := fresh_back (xd.trans x5) hp
        generalize upd H5 p (.lst (cs.reverse.map V.int)) = H7 at x6 hp6 ⊢
        refine ⟨_, rfl, x6 _ _ kd, [(kC, .ref p), (kL, .int 1), (kM, .int m), (kT, .int 0)], rfl, (by show 4 ≤ 15; decide), ?_⟩
        rw [putAll]
        refine q d p _ hd hpH ((xd.trans x6).mut hd) ⟨1, m, 0, cs.reverse, upd_same, ?_⟩
        rw [upd_ne (ne_of hp6 (x6 _ _ kd) (by intro z; cases z))]
        exact hp6
theorem scPick : FnScope ["_law_source_here", "_law_many", "_law_left", "_law_mixed"] ["_law_source_here", "_law_many"] (C8.fnScope sPick) := C8.fnScope_by (by decide +kernel)
theorem ok_pick {f : Addr} {fd : FuncData} (T : Glob mg) (F : C8.Def K mg "_law_pick" sPick f fd) (b : Binds K fd ["_law_source_here", "_law_many"] []) : C8.Cal P w K mg base 1 "_law_pick" spPick [] := by
  refine C8.cal0 F b .nil scPick (fun vs H Q E h => ?_) (fun cdv A outer s H vs Q E hr h => ?_)
  · obtain ⟨s, c, many, rfl, _⟩ := h
    rfl
  · obtain ⟨s', c, many, rfl, hm, hS, q⟩ := h
    have hu : (cxOf (L2.CX P w) P w K mg base ["_law_source_here", "_law_many", "_law_left", "_law_mixed"] "_law_pick" (C8.fnScope sPick) f cdv A outer s H E).A.units + 1 < cLine := Nat.lt_of_le_of_lt (Nat.add_le_add_left (by decide : 1 ≤ 65) _) (hu65 hr)
    refine ⟨_, pss_cons (ps_while PassesOwn.never (PW.pt (pw_and (pt_cmpR op_gt (pv 1) (pe_int) (nomark _)) (pw_and (pt_cmpR op_lt (pe_dget hu (pv 0) (pe_str) (fun _ _ => rfl)) (pe_int) (nomark _)) (pw_and1 (pt_cmpR op_gt (pe_callB call_len_seq (by rfl) T.len PySem.boot_len (pa_cons (pe_dget hu (pv 0) (pe_str) (fun _ _ => rfl)) pa_nil)) (pe_int) (nomark _)))))) (pss_one (ps_dput hu (pv 0) (pe_str) (pe_bm0 PySem.F.plainAttrs_list PySem.F.slot_list_pop PySem.F.type_list_pop mt_pop (pe_dget hu (pv 0) (pe_str) (fun _ _ => rfl))) rfl)))
      (pss_cons (ps_set (i := 2) scPick.nd rfl (Or.inl rfl) (pe_dget hu (pv 0) (pe_str) (fun _ _ => rfl)))
      (pss_cons (ps_if (PW.pt (pw_or (pt_cmpR op_lt (pv 1) (pe_int) (nomark _)) (pw_or1 (pt_cmpR op_gt (pv 2) (pe_int) (nomark _))))) (pss_cons (ps_dput hu (pv 0) (pe_str) (pe_op op_fdiv (pv 2) (pe_callB (call_max2 rfl) (by rfl) T.max (by decide +kernel) (pa_cons (pe_int) (pa_cons (pv 1) pa_nil)))) rfl)
      (pss_one (ps_ret (pe_op op_mod (pe_callTy call_int1 (by rfl) T.int (by decide +kernel) (pa_cons (pv 2) pa_nil)) (pe_callB (call_max2 rfl) (by rfl) T.max (by decide +kernel) (pa_cons (pe_int) (pa_cons (pv 1) pa_nil))))))) pss_nil)
      (pss_cons (ps_dput hu (pv 0) (pe_str) (pe_op op_add (pe_dget hu (pv 0) (pe_str) (fun _ _ => rfl)) (pe_int)) rfl)
      (pss_cons (ps_set (i := 3) scPick.nd rfl (Or.inl rfl) (pe_op op_mod (pe_callTy call_int1 (by rfl) T.int (by decide +kernel) (pa_cons (pe_op op_add (pe_dget hu (pv 0) (pe_str) (fun _ _ => rfl)) (pe_op op_mul (pe_dget hu (pv 0) (pe_str) (fun _ _ => rfl)) (pe_int))) pa_nil)) (pe_int)))
      (pss_cons (ps_set (i := 3) scPick.nd rfl (Or.inl rfl) (pe_op op_mod (pe_callTy call_int1 (by rfl) T.int (by decide +kernel) (pa_cons (pe_op op_add (pe_op op_mul (pv 3) (pv 3)) (pe_op op_mul (pe_dget hu (pv 0) (pe_str) (fun _ _ => rfl)) (pe_int))) pa_nil)) (pe_int)))
      (pss_one (ps_ret (pe_op op_mod (pe_callTy call_int1 (by rfl) T.int (by decide +kernel) (pa_cons (pe_op op_fdiv (pv 3) (pe_int)) pa_nil)) (pv 1))))))))), ?_⟩
    obtain ⟨a0, m0, t0, cs0, hs0, hc0⟩ := hS.ex
    have hsc : c ≠ s' := ne_of hc0 hs0 (by intro z; cases z)
    refine ⟨fun n σ' H' => ∃ (a m t : Int) (cs : List Int), σ' = [some (.ref s'), some (.int (many : Int)), none, none] ∧ ExS s' c H H' ∧ H' s' = some (.dK (srcK c a m t)) ∧ H' c = some (.lst (cs.map V.int)) ∧ n = cs.length, ⟨_, a0, m0, t0, cs0, rfl, ExS.refl _ _ _, hs0, hc0, rfl⟩, ?_⟩
    rintro n σ' H' ⟨a, m, t, cs, rfl, x, hs, hc, rfl⟩
    refine ⟨_, rfl, _, _, rfl, rfl, _, rfl, ?_⟩
    refine iteShare ?_ (fun h1 after => ?_)
    · -- what follows the loop
      refine ⟨_, rfl, s', _, rfl, getL hs, ?_⟩
      have hmax : (if (many : Int) > 1 then (many : Int) else 1) = ((max 1 many : Nat) : Int) := by
        split <;> omega
      -- left decides
      have drawn : ∀ (G : Hp → Prop), True := fun _ => True.intro
      have hpos : (0 : Int) < ((max 1 many : Nat) : Int) := by omega
      have hsmall : ((max 1 many : Nat) : Int) < 1073741824 := by omega
      obtain ⟨r0, hr0, hr1⟩ := mod_pos a hpos
      have body1 : ∀ {R : Prop}, True := fun {_} => True.intro
      refine ⟨_, rfl, _, _, rfl, rfl, _, rfl, ?_⟩
      have e1 : ExS s' c H (upd H' s' (.dK (srcK c (a / ((max 1 many : Nat) : Int)) m t))) := x.trans (ExS.putS _ _ _ _)
      have e2 : SrcAt (upd H' s' (.dK (srcK c (a / ((max 1 many : Nat) : Int)) m t))) s' c := ⟨_, _, _, cs, upd_same, by rw [upd_ne hsc]; exact hc⟩
      refine iteB rfl (fun h2 => ?_) (fun h2 => ?_)
      · refine ⟨_, rfl, _, rfl, 1, (many : Int), rfl, _, _, rfl, rfl, ?_, ?_⟩
        · rw [hmax]
          exact ⟨hpos, hsmall⟩
        rw [hmax]
        refine ⟨_, rfl, s', _, rfl, setL hs, ?_⟩
        refine ⟨_, rfl, .inl ⟨_, rfl, _, rfl, 1, (many : Int), rfl, _, _, rfl, rfl, ?_, ?_⟩⟩
        · rw [hmax]
          exact hpos
        rw [hmax]
        show Q (.int (a % ((max 1 many : Nat) : Int))) _
        rw [hr0]
        exact q r0 _ (by omega) e1 e2
      have hm2 : 2 ≤ many := by
        have := of_decide_eq_false h2
        omega
      refine ⟨_, rfl, _, _, rfl, rfl, _, rfl, ?_⟩
      refine iteB rfl (fun h3 => ?_) (fun h3 => ?_)
      · refine ⟨_, rfl, _, rfl, 1, (many : Int), rfl, _, _, rfl, rfl, ?_, ?_⟩
        · rw [hmax]
          exact ⟨hpos, hsmall⟩
        rw [hmax]
        refine ⟨_, rfl, s', _, rfl, setL hs, ?_⟩
        refine ⟨_, rfl, .inl ⟨_, rfl, _, rfl, 1, (many : Int), rfl, _, _, rfl, rfl, ?_, ?_⟩⟩
        · rw [hmax]
          exact hpos
        rw [hmax]
        show Q (.int (a % ((max 1 many : Nat) : Int))) _
        rw [hr0]
        exact q r0 _ (by omega) e1 e2
      -- turn and mixed
      refine ⟨_, rfl, s', _, rfl, getT hs, _, _, rfl, rfl, _, rfl, s', _, rfl, setT hs, ?_⟩
      have x2 := x.trans (ExS.putS s' c H' (.dK (srcK c a m (t + 1))))
      have hs2 : upd H' s' (.dK (srcK c a m (t + 1))) s' = some (.dK (srcK c a m (t + 1))) := upd_same
      have hc2 : upd H' s' (.dK (srcK c a m (t + 1))) c = some (.lst (cs.map V.int)) := by rw [upd_ne hsc]; exact hc
      generalize upd H' s' (.dK (srcK c a m (t + 1))) = H2 at x2 hs2 hc2 ⊢
      have b1 := Int.emod_nonneg (m + (t + 1) * 104729) (b := 998244353) (by decide)
      have b2 := Int.emod_lt_of_pos (m + (t + 1) * 104729) (b := 998244353) (by decide)
      refine ⟨_, rfl, s', _, rfl, getM hs2, _, rfl, s', _, rfl, getT hs2, _, _, rfl, rfl, .inr (by decide), _, _, rfl, rfl, .inl ⟨_, rfl, _, _, rfl, rfl, (by show (0 : Int) < 998244353; decide), ?_⟩⟩
      refine ⟨_, rfl, _, rfl, _, _, rfl, rfl, .inl ⟨Int.lt_of_lt_of_le (by decide) b1, Int.lt_trans b2 (by decide)⟩, _, rfl, s', _, rfl, getT hs2, _, _, rfl, rfl, .inr (by decide), _, _, rfl, rfl, .inl ⟨_, rfl, _, _, rfl, rfl, (by show (0 : Int) < 2147483647; decide), ?_⟩⟩
      obtain ⟨r2, hr2, hl3⟩ := mod_pos (((m + (t + 1) * 104729) % 998244353 * ((m + (t + 1) * 104729) % 998244353) + (t + 1) * 17) % 2147483647 / 16) (j := (many : Int)) (by omega)
      refine ⟨_, rfl, _, _, rfl, rfl, ⟨by decide, by decide⟩, .inl ⟨_, rfl, _, rfl, _, _, rfl, rfl, (by omega), ?_⟩⟩
      show Q (.int ((((m + (t + 1) * 104729) % 998244353 * ((m + (t + 1) * 104729) % 998244353) + (t + 1) * 17) % 2147483647 / 16) % (many : Int))) _
      rw [hr2]
      exact q r2 _ (by omega) x2 ⟨_, _, _, cs, hs2, hc2⟩
    refine ⟨_, rfl, s', _, rfl, getL hs, _, _, rfl, rfl, _, rfl, ?_⟩
    refine iteShare after (fun h2 after => ?_)
    refine ⟨_, rfl, s', _, rfl, getC hs, c, _, rfl, .inl (SqL.of hc), _, _, rfl, rfl, _, rfl, ?_⟩
    refine iteShare after (fun h3 _ => ?_)
    have h4 : 0 < cs.length := by
      have := of_decide_eq_true h3
      rw [List.length_map] at this
      omega
    obtain ⟨v, hv⟩ : ∃ v, cs[cs.length - 1]? = some v := ⟨cs[cs.length - 1], by simp [h4]⟩
    refine ⟨_, fun _ _ z => z, ?_⟩
    refine ⟨_, rfl, s', _, rfl, getC hs, .inl ⟨rfl, _, SqL.of hc⟩, c, _, .int v, rfl, rfl, hc, ?_, ?_⟩
    · rw [List.length_map, List.getElem?_map, hv]
      rfl
    have ed : (cs.map V.int).dropLast = cs.dropLast.map V.int := List.map_dropLast.symm
    rw [ed]
    have hs5 : upd H' c (.lst (cs.dropLast.map V.int)) s' = some (.dK (srcK c a m t)) := by rw [upd_ne (Ne.symm hsc)]; exact hs
    refine ⟨_, rfl, s', _, rfl, setL hs5, ?_⟩
    refine ⟨cs.dropLast.length, by rw [List.length_dropLast]; omega, v, m, t, cs.dropLast, rfl, (x.trans (ExS.putC s' c H' _)).trans (ExS.putS _ _ _ _), upd_same, ?_, rfl⟩
    rw [upd_ne hsc]
    exact upd_same
theorem scOf : FnScope ["_law_source_here", "_law_some"] ["_law_source_here", "_law_some"] (C8.fnScope sOf) := C8.fnScope_by (by decide +kernel)
theorem ok_of {f : Addr} {fd : FuncData} (T : Glob mg) (F : C8.Def K mg "_law_of" sOf f fd) (b : Binds K fd ["_law_source_here", "_law_some"] []) (cP : C8.Cal P w K mg base 1 "_law_pick" spPick []) : C8.Cal P w K mg base 2 "_law_of" spOf [] := by
  refine C8.cal0 F b .nil scOf (fun vs H Q E h => ?_) (fun cdv A outer s H vs Q E hr h => ?_)
  · obtain ⟨s, c, l, xs, rfl, _⟩ := h
    rfl
  · obtain ⟨s', c, l, xs, rfl, hl, ls, lc, hne, hlen, hS, q⟩ := h
    refine ⟨_, pss_one (ps_ret (pe_ix ix_list (pv 1) (C8.pe_c cP hr (by decide) (by rfl) (pa_cons (pv 0) (pa_cons (pe_callB call_len_seq (by rfl) T.len PySem.boot_len (pa_cons (pv 1) pa_nil)) pa_nil))) (fun _ _ => rfl))), ?_⟩
    refine ⟨_, rfl, _, rfl, _, rfl, l, _, rfl, .inl (SqL.of hl), s', c, xs.length, rfl, hlen, hS, fun r H' hr' x hS' => ?_⟩
    have hpos : 0 < xs.length := List.length_pos_iff.mpr hne
    have hlt : r < xs.length := by omega
    obtain ⟨v, hv⟩ : ∃ v, xs[r]? = some v := ⟨xs[r], by simp [hlt]⟩
    exact ⟨_, _, _, _, rfl, rfl, SqL.of (x l _ ls lc hl), atI_nat hv, q r v H' hv x hS'⟩
end
end Kin
/-! the stacks that the drawing meets -/
namespace Kin
def reach : List (List L) := [[yTABLE],
  [cTab, yLIST, yLIST, [123], yFITS, [125], yEND],
  [yLIST, yLIST, [123], yFITS, [125], yEND],
  [[40], yWORDS, [41], yLIST, [123], yFITS, [125], yEND],
  [yWORDS, [41], yLIST, [123], yFITS, [125], yEND],
  [[41], yLIST, [123], yFITS, [125], yEND],
  [yW, yMORE, [41], yLIST, [123], yFITS, [125], yEND],
  [yLIST, [123], yFITS, [125], yEND],
  [yMORE, [41], yLIST, [123], yFITS, [125], yEND],
  [[40], yWORDS, [41], [123], yFITS, [125], yEND],
  [[44], yW, yMORE, [41], yLIST, [123], yFITS, [125], yEND],
  [yWORDS, [41], [123], yFITS, [125], yEND],
  [[41], [123], yFITS, [125], yEND],
  [yW, yMORE, [41], [123], yFITS, [125], yEND],
  [[123], yFITS, [125], yEND],
  [yMORE, [41], [123], yFITS, [125], yEND],
  [yFITS, [125], yEND],
  [[44], yW, yMORE, [41], [123], yFITS, [125], yEND],
  [[125], yEND],
  [yW, yW, [59], yFITS, [125], yEND],
  [yEND],
  [yW, [59], yFITS, [125], yEND],
  [],
  [[59], yFITS, [125], yEND]]
/-- how many signs the shortest end of a stack gives -/
def cost1 (X : L) : Nat := if X = yTABLE then 7 else if X = yLIST then 2 else if X ∈ keys then 0 else if X = yEND then 0 else 1
def cost (S : List L) : Nat := (S.map cost1).sum
def shortOf (rows : List Row) : List (List L) := (rows.map (·.2)).filter (fun x => decide (x = [])) ++ rows.map (·.2)
def rowsOf (X : L) : List Row := (rules.lookup X).getD []
/-- top is a key -/
def tops (S : List L) : Nat := match S with
  | [] => 0
  | X :: _ => if X ∈ keys then 2 else 1
def okStack (S : List L) : Bool := match S with
  | [] => true
  | X :: T => decide (X ∈ syms) && (if X ∈ keys then (rowsOf X).all (fun r => decide (r.2 ++ T ∈ reach) && decide (cost (r.2 ++ T) ≤ 8) && decide (tops (r.2 ++ T) ≤ 1)) && (match (shortOf (rowsOf X)) with
      | [] => false
      | z :: _ => decide (z ++ T ∈ reach) && decide (cost (z ++ T) = cost (X :: T)) && decide (tops (z ++ T) ≤ 1))
    else if X = yEND then decide (T = []) else decide (T ∈ reach) && decide (X ∈ yW :: texts) && decide (cost (X :: T) = cost T + 1))
theorem reach_ok : ∀ S ∈ reach, okStack S = true := by decide +kernel
theorem reach_0 : [yTABLE] ∈ reach := by decide +kernel
theorem reach_nil : [] ∈ reach := by decide +kernel
theorem reach_cost : ∀ S ∈ reach, cost S ≤ 8 ∧ S.length ≤ 12 ∧ (∀ x ∈ S, x ∈ syms) := by decide +kernel
theorem reach_key {X : L} {T : List L} {rows : List Row} (h : X :: T ∈ reach) (hk : X ∈ keys) (hr : rules.lookup X = some rows) :
    (∀ r ∈ rows, r.2 ++ T ∈ reach ∧ cost (r.2 ++ T) ≤ 8 ∧ tops (r.2 ++ T) ≤ 1) ∧ ∃ z zs, shortOf rows = z :: zs ∧ z ++ T ∈ reach ∧ cost (z ++ T) = cost (X :: T) ∧ tops (z ++ T) ≤ 1 := by
  have o := reach_ok _ h
  have e : rowsOf X = rows := by unfold rowsOf; rw [hr]; rfl
  simp only [okStack, if_pos hk, e, Bool.and_eq_true, List.all_eq_true, decide_eq_true_eq] at o
  obtain ⟨_, o1, o2⟩ := o
  refine ⟨fun r hr => ⟨(o1 r hr).1.1, (o1 r hr).1.2, (o1 r hr).2⟩, ?_⟩
  cases z : shortOf rows with
  | nil => rw [z] at o2; cases o2
  | cons a as =>
    rw [z] at o2
    simp only [Bool.and_eq_true, decide_eq_true_eq] at o2
    exact ⟨a, as, rfl, o2.1.1, o2.1.2, o2.2⟩
theorem reach_end {T : List L} (h : yEND :: T ∈ reach) : T = [] := by
  have o := reach_ok _ h
  simp only [okStack, if_neg (show ¬ yEND ∈ keys by decide), if_true, Bool.and_eq_true, decide_eq_true_eq] at o
  exact o.2
theorem reach_sign {X : L} {T : List L} (h : X :: T ∈ reach) (hk : X ∉ keys) (he : X ≠ yEND) : T ∈ reach ∧ X ∈ yW :: texts ∧ cost (X :: T) = cost T + 1 := by
  have o := reach_ok _ h
  simp only [okStack, if_neg hk, if_neg he, Bool.and_eq_true, decide_eq_true_eq] at o
  exact ⟨o.2.1.1, o.2.1.2, o.2.2⟩
theorem tops_le (S : List L) : tops S ≤ 2 := by
  unfold tops
  split
  · exact Nat.zero_le _
  · split <;> decide
end Kin
namespace Kin
open PySem PySem.Spec PyProof.Rows L2 SX Evl
/-- the heap but for the source -/
def cut (s c : Addr) (H : Hp) : Hp := fun b => if b = s then none else if b = c then none else H b
theorem cut_some {s c : Addr} {H : Hp} {b : Addr} {o : HO} (h : cut s c H b = some o) : b ≠ s ∧ b ≠ c ∧ H b = some o := by
  unfold cut at h
  by_cases h1 : b = s
  · rw [if_pos h1] at h
    cases h
  · rw [if_neg h1] at h
    by_cases h2 : b = c
    · rw [if_pos h2] at h
      cases h
    · rw [if_neg h2] at h
      exact ⟨h1, h2, h⟩
theorem cut_at {s c : Addr} {H : Hp} {b : Addr} {o : HO} (h1 : b ≠ s) (h2 : b ≠ c) (h : H b = some o) : cut s c H b = some o := by
  unfold cut
  rw [if_neg h1, if_neg h2]
  exact h
theorem cut_ex {s c : Addr} {H H' : Hp} (x : ExS s c H H') : Ex (cut s c H) (cut s c H') := fun b o h => by
  obtain ⟨h1, h2, h3⟩ := cut_some h
  exact cut_at h1 h2 (x b o h1 h2 h3)
theorem cut_in {s c : Addr} {H : Hp} : Ex (cut s c H) H := fun b o h => (cut_some h).2.2
theorem res_cut {s c : Addr} {H H' : Hp} (hs : H s ≠ none) (hc : H c ≠ none) : Ex (res H H') (cut s c H') := fun b o h => by
  obtain ⟨h1, h2⟩ := res_some h
  exact cut_at (fun z => hs (by rw [← z]; exact h1)) (fun z => hc (by rw [← z]; exact h1)) h2
theorem ExS.back {s c : Addr} {H H' : Hp} (e : ExS s c H H') (S : SrcAt H' s c) {d : Addr} (hd : H' d = none) : H d = none := by
  obtain ⟨a, m, t, cs, h1, h2⟩ := S.ex
  cases z : H d with
  | none => rfl
  | some o =>
    have n1 : d ≠ s := fun y => by rw [y, h1] at hd; cases hd
    have n2 : d ≠ c := fun y => by rw [y, h2] at hd; cases hd
    rw [e d o n1 n2 z] at hd
    cases hd
theorem ExS.mut {s c : Addr} {H H' : Hp} (e : ExS s c H H') {d : Addr} {o : HO} (hd : H d = none) : ExS s c H (upd H' d o) := fun b u n k h => by
  rw [upd_ne (ne_of_none h hd)]
  exact e b u n k h
theorem SrcAt.mut {H : Hp} {s c d : Addr} {o : HO} (h : SrcAt H s c) (h1 : d ≠ s) (h2 : d ≠ c) : SrcAt (upd H d o) s c := by
  obtain ⟨a, m, t, cs, k1, k2⟩ := h.ex
  exact ⟨a, m, t, cs, by rw [upd_ne (Ne.symm h1)]; exact k1, by rw [upd_ne (Ne.symm h2)]; exact k2⟩
theorem SrcAt.some {H : Hp} {s c : Addr} (h : SrcAt H s c) : H s ≠ none ∧ H c ≠ none := by
  obtain ⟨a, m, t, cs, k1, k2⟩ := h.ex
  rw [k1, k2]
  exact ⟨by simp, by simp⟩
theorem op_eqDK {X : Cx} {K : PySem.W.Frag} (hu : X.A.units + 64 < cLine) (h : X.K = K) : OpR X (compareOp .Eq) (rEqD K) := by
  subst h
  exact op_eqD hu
/-- the words of the drawing -/
def dWords : List L := [[97], [98], [120, 49], [116, 97, 98, 108, 101], [114, 111, 111, 116], [97, 98, 99, 100, 101, 102, 103, 104, 105, 106, 107, 108], [122]]
theorem wWords : ([.str "a", .str "b", .str "x1", .str "table", .str "root", .str "abcdefghijkl", .str "z"] : List V) = wV dWords := by decide +kernel
def spDrawn : Sp := fun vs H Q _ => ∃ (s c r : Addr), vs = [.ref s, .ref r, .str (S yTABLE)] ∧ RulesAt (cut s c H) r ∧ SrcAt H s c ∧
  ∀ a ws H', H a = none → ExS s c H H' → SrcAt H' s c → H' a = some (.lst (wV ws)) → ws.length ≤ 49 → (∀ x ∈ ws, x ∈ texts ++ dWords) → Q (.ref a) H'
theorem rows_syms {X : L} {rows : List Row} (h : rules.lookup X = some rows) : ∀ r ∈ rows, ∀ x ∈ r.2, x ∈ syms := by
  have hk : X ∈ keys := Classical.byContradiction fun z => by rw [not_key z] at h; cases h
  simp only [keys, List.mem_cons, List.not_mem_nil, or_false] at hk
  rcases hk with rfl | rfl | rfl | rfl | rfl
  · cases (show rules.lookup yTABLE = some _ from rfl).symm.trans h
    decide
  · cases (show rules.lookup yLIST = some _ from rfl).symm.trans h
    decide
  · cases (show rules.lookup yWORDS = some _ from rfl).symm.trans h
    decide
  · cases (show rules.lookup yMORE = some _ from rfl).symm.trans h
    decide
  · cases (show rules.lookup yFITS = some _ from rfl).symm.trans h
    decide
theorem paired_app {α β : Type} {F : α → β → Prop} : ∀ {l1 l2 : List α} {m1 m2 : List β}, Paired F l1 m1 → Paired F l2 m2 → Paired F (l1 ++ l2) (m1 ++ m2)
  | _, _, _, _, .nil, h => h
  | _, _, _, _, .cons a t, h => .cons a (paired_app t h)
section
variable {P : Program} {w : World} {K : PySem.W.Frag} {mg : Str → Option Value} {base : Heap}
theorem scDrawn : FnScope ["_law_source_here", "_law_rules_here", "_law_form", "_law_words", "_law_stack", "_law_found", "_law_top", "_law_rows", "_law_short", "_law_row"] ["_law_source_here", "_law_rules_here", "_law_form"] (C8.fnScope sDrawn) := C8.fnScope_by (by decide +kernel)
theorem ok_drawn {f : Addr} {fd : FuncData} (T : Glob mg) (F : C8.Def K mg "_law_drawn" sDrawn f fd) (b : Binds K fd ["_law_source_here", "_law_rules_here", "_law_form"] []) (cO : C8.Cal P w K mg base 2 "_law_of" spOf []) : C8.Cal P w K mg base 3 "_law_drawn" spDrawn [] := by
  refine C8.cal0 F b .nil scDrawn (fun vs H Q E h => ?_) (fun cdv A outer s H vs Q E hr h => ?_)
  · obtain ⟨s, c, r, rfl, _⟩ := h
    rfl
  · obtain ⟨s', c, r, rfl, hR, hS, q⟩ := h
    have hu : (cxOf (L2.CX P w) P w K mg base ["_law_source_here", "_law_rules_here", "_law_form", "_law_words", "_law_stack", "_law_found", "_law_top", "_law_rows", "_law_short", "_law_row"] "_law_drawn" (C8.fnScope sDrawn) f cdv A outer s H E).A.units + 1 < cLine := Nat.lt_of_le_of_lt (Nat.add_le_add_left (by decide : 1 ≤ 65) _) (hu65 hr)
    refine ⟨_, pss_cons (ps_set (i := 3) scDrawn.nd rfl (Or.inl rfl) (pe_lst (pa_cons (pe_str) (pa_cons (pe_str) (pa_cons (pe_str) (pa_cons (pe_str) (pa_cons (pe_str) (pa_cons (pe_str) (pa_cons (pe_str) pa_nil)))))))))
      (pss_cons (ps_par (i := 4) (j := 5) (by rfl) scDrawn.nd rfl rfl (by decide) rfl rfl (pa_cons (pe_lst (pa_cons (pv 2) pa_nil)) (pa_cons (pe_lst pa_nil) pa_nil)) (by rfl))
      (pss_cons (ps_while PassesOwn.never (pt_cmpR (op_neD (hu64 hr)) (pv 4) (pe_lst pa_nil) (nomark _)) (pss_cons (ps_set (i := 6) scDrawn.nd rfl (Or.inl rfl) (pe_bm0 PySem.F.plainAttrs_list PySem.F.slot_list_pop PySem.F.type_list_pop mt_pop (pv 4)))
      (pss_one (ps_if (pt_cmp (pc_din hu (pv 6) (pv 1))) (pss_cons (ps_setLc (i := 7) (own := [("_law_row", 9)]) (tt := tYes) (by rfl) scDrawn.nd rfl rfl (sw_true rfl rfl rfl (by decide +kernel)) (pi_list (pe_dget hu (pv 1) (pv 6) (fun _ _ => rfl))) (blkOk_by (own := [("_law_row", 9)]) (N := ["_law_source_here", "_law_rules_here", "_law_form", "_law_words", "_law_stack", "_law_found", "_law_top", "_law_rows", "_law_short", "_law_row"]) (sc := C8.fnScope sDrawn) (by decide +kernel)) (fun _ _ _ _ _ => (pg_name (i := 9) scDrawn.nd rfl (Or.inl rfl))) (fun _ _ _ _ _ => pts_nil) (fun _ _ _ _ _ => (pe_ix (ix_listK (K := K) rfl) (pv 9) (pe_int) (fun _ _ => rfl))))
      (pss_cons (ps_set (i := 8) scDrawn.nd rfl (Or.inl rfl) (pe_op op_cat (pe_lc (own := [("_law_row", 9)]) (by rfl) scDrawn.nd (pi_list (pv 7)) (blkOk_by (own := [("_law_row", 9)]) (N := ["_law_source_here", "_law_rules_here", "_law_form", "_law_words", "_law_stack", "_law_found", "_law_top", "_law_rows", "_law_short", "_law_row"]) (sc := C8.fnScope sDrawn) (by decide +kernel)) (fun _ _ _ _ _ => (pg_name (i := 9) scDrawn.nd rfl (Or.inl rfl))) (fun _ _ _ _ _ => (pts_one (pt_cmpR (op_eqDK (K := K) (hu64 hr) rfl) (pv 9) (pe_lst pa_nil) (nomark _)))) (fun _ _ _ _ _ => (pv 9))) (pv 7)))
      (pss_one (ps_set (i := 4) scDrawn.nd rfl (Or.inl rfl) (pe_op op_cat (pv 4) (pe_revL (pe_ifExp (pt_cmpR op_lt (pe_callB call_len_seq (by rfl) T.len PySem.boot_len (pa_cons (pv 5) pa_nil)) (pe_int) (nomark _)) (C8.pe_c cO hr (by decide) (by rfl) (pa_cons (pv 0) (pa_cons (pv 7) pa_nil))) (pe_ix ix_list (pv 8) (pe_int) (fun _ _ => rfl))))))))) (pss_one (ps_if (pt_cmpR op_ne (pv 6) (pe_str) (nomark _)) (pss_one (ps_expr (pe_bm PySem.F.plainAttrs_list PySem.F.slot_list_append PySem.F.type_list_append mt_append (pv 5) (pa_cons (pe_ifExp (pt_cmpR op_eq (pv 6) (pe_str) (nomark _)) (C8.pe_c cO hr (by decide) (by rfl) (pa_cons (pv 0) (pa_cons (pv 3) pa_nil))) (pv 6)) pa_nil)))) pss_nil))))))
      (pss_one (ps_ret (pv 5))))), ?_⟩
    -- words, stack, found
    refine ⟨(by show 7 ≤ sizeLine; decide), fun wa hwa => ?_⟩
    rw [wWords]
    have x1 : ExS s' c H (upd H wa (.lst (wV dWords))) := ExS.of (Ex.new hwa)
    have S1 := hS.keep (Ex.new (o := .lst (wV dWords)) hwa)
    have w1 : upd H wa (.lst (wV dWords)) wa = some (.lst (wV dWords)) := upd_same
    generalize upd H wa (.lst (wV dWords)) = H1 at x1 S1 w1 ⊢
    refine ⟨_, rfl, (by show 1 ≤ sizeLine; decide), fun sa hsa => ⟨by decide, fun fa hfa => ⟨_, _, rfl, ?_⟩⟩⟩
    have hsaH := x1.back S1 hsa
    have e1 := Ex.new (o := .lst [.str (S yTABLE)]) hsa
    have x2 := x1.trans (ExS.of e1)
    have S2 := S1.keep e1
    have w2 := e1 _ _ w1
    have s2 : upd H1 sa (.lst [.str (S yTABLE)]) sa = some (.lst (wV [yTABLE])) := upd_same
    generalize upd H1 sa (.lst [.str (S yTABLE)]) = H2 at x2 S2 w2 s2 hfa ⊢
    have hfaH := x2.back S2 hfa
    have e2 := Ex.new (o := .lst []) hfa
    have x3 := x2.trans (ExS.of e2)
    have S3 := S2.keep e2
    have w3 := e2 _ _ w2
    have s3 := e2 _ _ s2
    have f3 : upd H2 fa (.lst []) fa = some (.lst (wV [])) := upd_same
    have hsf : sa ≠ fa := ne_of_none s2 hfa
    generalize upd H2 fa (.lst []) = H3 at x3 S3 w3 s3 f3 ⊢
    have hwf : wa ≠ fa := ne_of_none w2 hfa
    have back : ∀ {d : Addr}, H d = none → d ≠ s' ∧ d ≠ c := fun {d} hd => ⟨fun z => hS.some.1 (by rw [← z]; exact hd), fun z => hS.some.2 (by rw [← z]; exact hd)⟩
    refine ⟨fun m σ' H' => ∃ (st fo : List L) (sa : Addr) (o6 o7 o8 : Option V), σ' = [some (.ref s'), some (.ref r), some (.str (S yTABLE)), some (.ref wa), some (.ref sa), some (.ref fa), o6, o7, o8, none] ∧ ExS s' c H H' ∧ SrcAt H' s' c ∧ H' wa = some (.lst (wV dWords)) ∧ H sa = none ∧ sa ≠ fa ∧ sa ≠ wa ∧
      H' sa = some (.lst (wV st.reverse)) ∧ H' fa = some (.lst (wV fo)) ∧ st ∈ reach ∧ fo.length + cost st ≤ 48 ∧ (∀ x ∈ fo, x ∈ texts ++ dWords) ∧ m = 4 * (50 - fo.length) + tops st,
      ⟨_, [yTABLE], [], sa, none, none, none, rfl, x3, S3, w3, hsaH, hsf, (fun z => by rw [z] at hsa; rw [w1] at hsa; cases hsa), s3, f3, reach_0, by decide, (fun _ h => by cases h), rfl⟩, ?_⟩
    rintro m σ' H' ⟨st, fo, sa0, o6, o7, o8, rfl, x, hSr, hw, hsaN, hsf0, hsw0, hs, hf, hreach, hcost, hfo, rfl⟩
    obtain ⟨rc1, rc2, rc3⟩ := reach_cost st hreach
    -- while stack != []
    refine ⟨_, rfl, by decide, fun e he => ?_⟩
    have xe := Ex.new (o := .lst []) he
    have hse : sa0 ≠ e := ne_of_none hs he
    refine ⟨_, _, wV_dp (xe _ _ hs), .lst (SqL.of upd_same) .nil, wD_shaped (fun y hy => syms_ok y (rc3 y (List.mem_reverse.mp hy))), rfl, _, rfl, ?_⟩
    have hs := xe _ _ hs
    have hf := xe _ _ hf
    have hw := xe _ _ hw
    have hSr := hSr.keep xe
    have x := x.trans (ExS.of xe)
    generalize upd H' e (.lst []) = H3 at x hs hf hw hSr ⊢
    rw [wD_eqv_nil]
    cases st with
    | nil =>
      refine iteB (c := false) rfl (fun z => by cases z) (fun _ => ?_)
      exact ⟨_, rfl, q fa fo H3 hfaH x hSr hf (by omega) hfo⟩
    | cons Y st =>
      refine iteB (c := true) (by rw [decide_eq_false]; rfl; simp) (fun _ => ?_) (fun z => by cases z)
      refine ⟨_, fun _ _ z => z, ?_⟩
      have eP : wV (Y :: st).reverse = wV st.reverse ++ [V.str (S Y)] := by
        rw [List.reverse_cons, ← wV_app]
        rfl
      rw [eP] at hs
      -- top = stack.pop()
      refine ⟨_, rfl, .inl ⟨rfl, _, SqL.of hs⟩, sa0, _, .str (S Y), rfl, rfl, hs, by simp, ?_⟩
      rw [List.dropLast_concat]
      have hs1 : upd H3 sa0 (.lst (wV st.reverse)) sa0 = some (.lst (wV st.reverse)) := upd_same
      have hf1 : upd H3 sa0 (.lst (wV st.reverse)) fa = some (.lst (wV fo)) := by rw [upd_ne (Ne.symm hsf0)]; exact hf
      have hw1 : upd H3 sa0 (.lst (wV st.reverse)) wa = some (.lst (wV dWords)) := by rw [upd_ne (Ne.symm hsw0)]; exact hw
      have hS1 := hSr.mut (o := .lst (wV st.reverse)) (back hsaN).1 (back hsaN).2
      have x1' := x.mut (o := .lst (wV st.reverse)) hsaN
      generalize upd H3 sa0 (.lst (wV st.reverse)) = H4 at x1' hs1 hf1 hw1 hS1 ⊢
      obtain ⟨kvs, hk1, hk2, hk3⟩ := (hR.keep (cut_ex x1')).ex
      have hk1' := (cut_some hk1).2.2
      refine ⟨_, rfl, _, rfl, r, _, rfl, DGet.k (k := .inr (S Y)) hk1', _, rfl, ?_⟩
      by_cases hY : Y ∈ keys
      · -- a key
        obtain ⟨rows, hrows⟩ := key_rows hY
        obtain ⟨ra, hra, hrows2⟩ := hk3 Y rows hrows
        have rl := rows_len hrows
        obtain ⟨as, has, hps⟩ := id hrows2
        have has' := (cut_some has).2.2
        obtain ⟨rk1, z0, zs0, rk2, rk3, rk4, rk5⟩ := reach_key hreach hY hrows
        refine iteB (c := true) (by rw [hra]; rfl) (fun _ => ?_) (fun z => by cases z)
        have hg : DGet H4 r (.str (S Y)) (some (.ref ra)) := by
          rw [← hra]
          exact DGet.k (k := .inr (S Y)) hk1'
        refine ⟨_, rfl, _, rfl, r, .ref ra, rfl, hg, ra, rfl, ⟨_, SqL.of has'⟩, fun D hD => ?_⟩
        have hlas : as.length = rows.length := Paired.length hps
        refine lc_it walk_list (fun i H' => Ex H4 H' ∧ ∃ qs : List Addr, H' D = some (.lst (qs.map V.ref)) ∧ qs.length ≤ i ∧ Paired (fun q z => cut s' c H4 q = some (.lst (wV z))) qs ((rows.take i).map (·.2)))
          ⟨Ex.new hD, [], upd_same, Nat.le_refl _, .nil⟩ (fun i H' _ z => SqL.of (z.1 _ _ has')) ?_ ?_
        · rintro i v H5 H6 hi ⟨x5, qs, hD5, hql, hqs⟩ ⟨rfl, hv⟩
          rw [List.length_map] at hi
          obtain ⟨pa, rw0, rfl, hpa, hrw, hrow⟩ : ∃ (pa : Addr) (rw0 : Row), v = .ref pa ∧ as[i]? = some pa ∧ rows[i]? = some rw0 ∧ RowAt (cut s' c H4) pa rw0 := by
            rw [List.getElem?_map] at hv
            cases ea : as[i]? with
            | none =>
              rw [ea] at hv
              cases hv
            | some pa =>
              rw [ea] at hv
              obtain ⟨rw0, h1, h2⟩ := paired_get hps ea
              exact ⟨pa, rw0, (Option.some.inj hv).symm, rfl, h1, h2⟩
          obtain ⟨u, qa, g1, g2, g3⟩ := hrow
          have g1 := x5 _ _ (cut_some g1).2.2
          have at1 : atI [u, V.ref qa] (1 : Int) = some (.ref qa) := atI_nat (j := 1) rfl
          refine ⟨rfl, tYes_go ⟨_, rfl, _, _, _, _, rfl, rfl, SqL.of g1, at1, _, hD5, sz_lt (by rw [List.length_map]; omega), x5.mut hD, qs ++ [qa], ?_, ?_, ?_⟩⟩
          · rw [upd_same, List.map_append]
            rfl
          · rw [List.length_append]
            show qs.length + 1 ≤ i + 1
            omega
          · rw [List.take_add_one, hrw, List.map_append]
            exact Paired.snoc hqs g2
        · rintro H5 ⟨x5, qs, hD5, hql, hqs⟩
          rw [List.length_map, hlas, List.take_length] at hqs
          have hlq : qs.length = rows.length := by rw [Paired.length hqs, List.length_map]
          have hqs5 : Paired (fun q z => q ≠ s' ∧ q ≠ c ∧ H5 q = some (.lst (wV z))) qs (rows.map (·.2)) := Paired.mapQ hqs fun q z h => by
            obtain ⟨h1, h2, h3⟩ := cut_some h
            exact ⟨h1, h2, x5 _ _ h3⟩
          have x6 := x1'.trans (ExS.of x5)
          have hS5 := hS1.keep x5
          have hs5 := x5 _ _ hs1
          have hf5 := x5 _ _ hf1
          have hw5 := x5 _ _ hw1
          clear hqs hps has' has hg hk1' hk1 hk3 hk2
          -- short
          have rsy := rows_syms hrows
          refine ⟨_, rfl, D, rfl, ⟨_, SqL.of hD5⟩, fun D2 hD2 => ?_⟩
          refine lc_it walk_list (fun i H' => Ex H5 H' ∧ ∃ q2 : List Addr, H' D2 = some (.lst (q2.map V.ref)) ∧ q2.length ≤ i ∧ Paired (fun q z => q ≠ s' ∧ q ≠ c ∧ H5 q = some (.lst (wV z))) q2 (((rows.map (·.2)).take i).filter fun x => decide (x = [])))
            ⟨Ex.new hD2, [], upd_same, Nat.le_refl _, .nil⟩ (fun i H' _ z => SqL.of (z.1 _ _ hD5)) ?_ ?_
          · rintro i v H6 H7 hi ⟨x7, q2, hD7, hql2, hqs2⟩ ⟨rfl, hv⟩
            rw [List.length_map] at hi
            obtain ⟨pa, z, rfl, hz, hpz⟩ : ∃ (pa : Addr) (z : List L), v = .ref pa ∧ (rows.map (·.2))[i]? = some z ∧ (pa ≠ s' ∧ pa ≠ c ∧ H5 pa = some (.lst (wV z))) := by
              rw [List.getElem?_map] at hv
              cases ea : qs[i]? with
              | none =>
                rw [ea] at hv
                cases hv
              | some pa =>
                rw [ea] at hv
                obtain ⟨z, h1, h2⟩ := paired_get hqs5 ea
                exact ⟨pa, z, (Option.some.inj hv).symm, h1, h2⟩
            have zsy : ∀ x ∈ z, x ∈ syms := by
              obtain ⟨r0, h1, rfl⟩ := List.mem_map.mp (List.mem_of_getElem? hz)
              exact rsy r0 h1
            have et : (rows.map (·.2)).take (i + 1) = (rows.map (·.2)).take i ++ [z] := by rw [List.take_add_one, hz]; rfl
            refine ⟨rfl, _, rfl, by decide, fun e2 he2 => ?_⟩
            have xe2 := Ex.new (o := .lst []) he2
            have hD8 := xe2 _ _ hD7
            have x8 := x7.trans xe2
            refine ⟨_, _, wV_dp (xe2 _ _ (x7 _ _ hpz.2.2)), .lst (SqL.of upd_same) .nil, wD_shaped (fun y hy => syms_ok y (zsy y hy)), rfl, _, rfl, ?_⟩
            generalize upd H7 e2 (.lst []) = H8 at hD8 x8 ⊢
            rw [wD_eqv_nil]
            refine iteB (c := decide (z = [])) rfl (fun hf => ?_) (fun hf => ?_)
            · refine ⟨_, rfl, _, hD8, sz_lt (by rw [List.length_map]; omega), x8.mut hD2, q2 ++ [pa], ?_, ?_, ?_⟩
              · rw [upd_same, List.map_append]
                rfl
              · rw [List.length_append]
                show q2.length + 1 ≤ i + 1
                omega
              · rw [et, List.filter_append, show [z].filter (fun x => decide (x = [])) = [z] by rw [List.filter_cons, if_pos hf]; rfl]
                exact Paired.snoc hqs2 hpz
            · refine ⟨x8, q2, hD8, by omega, ?_⟩
              rw [et, List.filter_append, show [z].filter (fun x => decide (x = [])) = [] by rw [List.filter_cons, if_neg (by rw [hf]; decide)]; rfl, List.append_nil]
              exact hqs2
          rintro H6 ⟨x7, q2, hD7, hql2, hqs2⟩
          rw [List.length_map, hlq, ← List.length_map (f := fun r : Row => r.2), List.take_length] at hqs2
          rw [List.length_map] at hql2
          have hD6 := x7 _ _ hD5
          refine ⟨_, rfl, D2, D, _, _, rfl, rfl, hD7, hD6, ?_, fun p hp => ?_⟩
          · rw [List.length_map, List.length_map]
            exact Nat.le_trans (show _ ≤ 10 by omega) (by decide)
          have xp := x7.trans (Ex.new (o := .lst (q2.map V.ref ++ qs.map V.ref)) hp)
          have hS6 := hS5.keep xp
          have hs6 := xp _ _ hs5
          have hf6 := xp _ _ hf5
          have hw6 := xp _ _ hw5
          have hD6 := xp _ _ hD5
          have x6 := x6.trans (ExS.of xp)
          have hp6 : upd H6 p (.lst (q2.map V.ref ++ qs.map V.ref)) p = some (.lst ((q2 ++ qs).map V.ref)) := by rw [upd_same, List.map_append]
          have hqs6 : Paired (fun q z => q ≠ s' ∧ q ≠ c ∧ upd H6 p (.lst (q2.map V.ref ++ qs.map V.ref)) q = some (.lst (wV z))) (q2 ++ qs) (shortOf rows) :=
            Paired.mapQ (paired_app hqs2 hqs5) fun q z h => ⟨h.1, h.2.1, xp _ _ h.2.2⟩
          have hqs7 : Paired (fun q z => q ≠ s' ∧ q ≠ c ∧ upd H6 p (.lst (q2.map V.ref ++ qs.map V.ref)) q = some (.lst (wV z))) qs (rows.map (·.2)) := Paired.mapQ hqs5 fun q z h => ⟨h.1, h.2.1, xp _ _ h.2.2⟩
          generalize upd H6 p (.lst (q2.map V.ref ++ qs.map V.ref)) = H8 at hS6 hs6 hf6 hw6 hD6 x6 hp6 hqs6 hqs7 ⊢
          -- stack + (..)[::-1]
          refine ⟨_, rfl, _, rfl, fa, _, rfl, .inl (SqL.of hf6), _, _, rfl, rfl, _, rfl, ?_⟩
          have lfo : (wV fo).length = fo.length := by simp [wV]
          rw [lfo]
          refine iteB rfl (fun h40 => ?_) (fun h40 => ?_)
          · have n40 := of_decide_eq_true h40
            have hqne : qs.map V.ref ≠ [] := by
              intro z
              have : rows.length = 0 := by rw [← hlq, List.map_eq_nil_iff.mp z]; rfl
              rw [List.length_eq_zero_iff.mp this] at rk2
              cases rk2
            have hDs : D ≠ s' := fun z => by rw [z] at hD6; obtain ⟨a, m, t, cs, k1, k2⟩ := hS6.ex; rw [k1] at hD6; cases hD6
            have hDc : D ≠ c := fun z => by rw [z] at hD; exact hS1.some.2 hD
            refine ⟨_, rfl, _, rfl, s', c, D, _, rfl, hD6, hDs, hDc, hqne, by rw [List.length_map]; omega, hS6, fun j v HH hv xH hSH => ?_⟩
            obtain ⟨qa, z, rfl, hz, hq1, hq2, hq6'⟩ : ∃ (qa : Addr) (z : List L), v = .ref qa ∧ (rows.map (·.2))[j]? = some z ∧ (qa ≠ s' ∧ qa ≠ c ∧ H8 qa = some (.lst (wV z))) := by
              rw [List.getElem?_map] at hv
              cases ea : qs[j]? with
              | none =>
                rw [ea] at hv
                cases hv
              | some pa =>
                rw [ea] at hv
                obtain ⟨z, h1, h2⟩ := paired_get hqs7 ea
                exact ⟨pa, z, (Option.some.inj hv).symm, h1, h2⟩
            obtain ⟨r0, hr0, rfl⟩ := List.mem_map.mp (List.mem_of_getElem? hz)
            obtain ⟨hz1, hz2', hz3⟩ := rk1 r0 hr0
            have hz2 : fo.length + cost (r0.2 ++ st) ≤ 48 := by
              have : fo.length < 40 := by omega
              omega
            have hq6 := xH _ _ hq1 hq2 hq6'
            have hs6 := xH _ _ (back hsaN).1 (back hsaN).2 hs6
            have hf6 := xH _ _ (back hfaH).1 (back hfaH).2 hf6
            have hw6 := xH _ _ (back hwa).1 (back hwa).2 hw6
            have hS6 := hSH
            have x6 := x6.trans xH
            refine ⟨qa, _, rfl, SqL.of hq6, fun p1 hp1 => ?_⟩
            rw [wV_rev]
            have xp := Ex.new (o := .lst (wV (r0.2).reverse)) hp1
            have hs7 := xp _ _ hs6
            have hf7 := xp _ _ hf6
            have hw7 := xp _ _ hw6
            have hS7 := hS6.keep xp
            have x7 := x6.trans (ExS.of xp)
            have hp7 : upd HH p1 (.lst (wV (r0.2).reverse)) p1 = some (.lst (wV (r0.2).reverse)) := upd_same
            generalize upd HH p1 (.lst (wV (r0.2).reverse)) = H7 at hs7 hf7 hw7 hS7 x7 hp7 ⊢
            have zr := reach_cost _ hz1
            refine ⟨sa0, p1, _, _, rfl, rfl, hs7, hp7, ?_, fun p2 hp2 => ?_⟩
            · rw [show (wV st.reverse).length = st.length by simp [wV], show (wV (r0.2).reverse).length = (r0.2).length by simp [wV]]
              have h12 := zr.2.1
              rw [List.length_append] at h12
              exact Nat.le_trans (show _ ≤ 12 by omega) (by decide)
            have eC : wV st.reverse ++ wV (r0.2).reverse = wV ((r0.2) ++ st).reverse := by rw [wV_app, List.reverse_append]
            rw [eC]
            have xq := Ex.new (o := .lst (wV ((r0.2) ++ st).reverse)) hp2
            have lt : 4 * (50 - fo.length) + tops ((r0.2) ++ st) < 4 * (50 - fo.length) + tops (Y :: st) := by
              rw [show tops (Y :: st) = 2 from if_pos hY]
              omega
            exact ⟨_, lt, (r0.2) ++ st, fo, p2, _, _, _, rfl, x7.trans (ExS.of xq), hS7.keep xq, xq _ _ hw7, x7.back hS7 hp2, Ne.symm (ne_of_none hf7 hp2), Ne.symm (ne_of_none hw7 hp2), upd_same, xq _ _ hf7, hz1, hz2, hfo, rfl⟩
          · rw [rk2] at hqs6
            obtain ⟨qa, qs', eq, hq1, hq2, hq6⟩ : ∃ qa qs', q2 ++ qs = qa :: qs' ∧ (qa ≠ s' ∧ qa ≠ c ∧ H8 qa = some (.lst (wV z0))) := by
              generalize q2 ++ qs = qq at hqs6
              cases hqs6 with
              | cons h _ => exact ⟨_, _, rfl, h⟩
            rw [eq] at hp6
            refine ⟨_, rfl, _, _, _, _, rfl, rfl, SqL.of hp6, atI_nat (j := 0) rfl, ?_⟩
            have hz1 := rk3
            have hz2 : fo.length + cost (z0 ++ st) ≤ 48 := by rw [rk4]; exact hcost
            have hz3 := rk5
            refine ⟨qa, _, rfl, SqL.of hq6, fun p1 hp1 => ?_⟩
            rw [wV_rev]
            have xp := Ex.new (o := .lst (wV z0.reverse)) hp1
            have hs7 := xp _ _ hs6
            have hf7 := xp _ _ hf6
            have hw7 := xp _ _ hw6
            have hS7 := hS6.keep xp
            have x7 := x6.trans (ExS.of xp)
            have hp7 : upd H8 p1 (.lst (wV z0.reverse)) p1 = some (.lst (wV z0.reverse)) := upd_same
            generalize upd H8 p1 (.lst (wV z0.reverse)) = H7 at hs7 hf7 hw7 hS7 x7 hp7 ⊢
            have zr := reach_cost _ hz1
            refine ⟨sa0, p1, _, _, rfl, rfl, hs7, hp7, ?_, fun p2 hp2 => ?_⟩
            · rw [show (wV st.reverse).length = st.length by simp [wV], show (wV z0.reverse).length = z0.length by simp [wV]]
              have h12 := zr.2.1
              rw [List.length_append] at h12
              exact Nat.le_trans (show _ ≤ 12 by omega) (by decide)
            have eC : wV st.reverse ++ wV z0.reverse = wV (z0 ++ st).reverse := by rw [wV_app, List.reverse_append]
            rw [eC]
            have xq := Ex.new (o := .lst (wV (z0 ++ st).reverse)) hp2
            have lt : 4 * (50 - fo.length) + tops (z0 ++ st) < 4 * (50 - fo.length) + tops (Y :: st) := by
              rw [show tops (Y :: st) = 2 from if_pos hY]
              omega
            exact ⟨_, lt, z0 ++ st, fo, p2, _, _, _, rfl, x7.trans (ExS.of xq), hS7.keep xq, xq _ _ hw7, x7.back hS7 hp2, Ne.symm (ne_of_none hf7 hp2), Ne.symm (ne_of_none hw7 hp2), upd_same, xq _ _ hf7, hz1, hz2, hfo, rfl⟩
      · -- no key
        refine iteB (c := false) (by rw [hk2 Y hY]; rfl) (fun z => by cases z) (fun _ => ?_)
        refine ⟨_, rfl, rfl, _, rfl, ?_⟩
        refine iteB (c := !decide (Y = yEND)) (congrArg Bool.not (by rw [lit_END]; exact dec_str)) (fun hE => ?_) (fun hE => ?_)
        · have nE := not_dec hE
          obtain ⟨t1, t2, t3⟩ := reach_sign hreach hY nE
          refine ⟨_, rfl, .inl ⟨rfl, _, SqL.of hf1⟩, ?_⟩
          refine ⟨_, rfl, rfl, _, rfl, ?_⟩
          refine iteB (c := decide (Y = yW)) (by rw [lit_W]; exact dec_str) (fun hW => ?_) (fun hW => ?_)
          · refine ⟨_, rfl, _, rfl, s', c, wa, _, rfl, hw1, (back hwa).1, (back hwa).2, by decide, by decide, hS1, fun j v HH hv xH hSH => ?_⟩
            obtain ⟨z, rfl, hzm, _⟩ := wV_get hv
            have hs6 := xH _ _ (back hsaN).1 (back hsaN).2 hs1
            have hf6 := xH _ _ (back hfaH).1 (back hfaH).2 hf1
            have hw6 := xH _ _ (back hwa).1 (back hwa).2 hw1
            have hS6 := hSH
            have x6 := x1'.trans xH
            have hmem : z ∈ texts ++ dWords := List.mem_append_right _ hzm
            refine ⟨_, _, _, rfl, rfl, hf6, ?_, ?_⟩
            · rw [show (wV fo).length = fo.length by simp [wV]]
              exact sz_lt (by omega)
            have eA : wV fo ++ [V.str (S z)] = wV (fo ++ [z]) := by
              rw [← wV_app]
              rfl
            rw [eA]
            have lt : 4 * (50 - (fo ++ [z]).length) + tops st < 4 * (50 - fo.length) + tops (Y :: st) := by
              have h2 := tops_le st
              rw [show tops (Y :: st) = 1 from if_neg hY, List.length_append]
              simp only [List.length_cons, List.length_nil]
              omega
            refine ⟨_, lt, st, fo ++ [z], sa0, _, _, _, rfl, x6.mut hfaH, hS6.mut (back hfaH).1 (back hfaH).2, ?_, hsaN, hsf0, hsw0, ?_, upd_same, t1, ?_, ?_, rfl⟩
            · rw [upd_ne hwf]
              exact hw6
            · rw [upd_ne hsf0]
              exact hs6
            · rw [List.length_append]
              simp only [List.length_cons, List.length_nil]
              omega
            · intro y hy
              rcases List.mem_append.mp hy with z | z
              · exact hfo y z
              · rw [List.mem_singleton.mp z]
                exact hmem

          · have hmem : Y ∈ texts ++ dWords := by
              rcases List.mem_cons.mp t2 with z | z
              · exact absurd z (of_decide_eq_false hW)
              · exact List.mem_append_left _ z
            have hs6 := hs1
            have hf6 := hf1
            have hw6 := hw1
            have hS6 := hS1
            have x6 := x1'
            refine ⟨_, rfl, _, _, _, rfl, rfl, hf6, ?_, ?_⟩
            · rw [show (wV fo).length = fo.length by simp [wV]]
              exact sz_lt (by omega)
            have eA : wV fo ++ [V.str (S Y)] = wV (fo ++ [Y]) := by
              rw [← wV_app]
              rfl
            rw [eA]
            have lt : 4 * (50 - (fo ++ [Y]).length) + tops st < 4 * (50 - fo.length) + tops (Y :: st) := by
              have h2 := tops_le st
              rw [show tops (Y :: st) = 1 from if_neg hY, List.length_append]
              simp only [List.length_cons, List.length_nil]
              omega
            refine ⟨_, lt, st, fo ++ [Y], sa0, _, _, _, rfl, x6.mut hfaH, hS6.mut (back hfaH).1 (back hfaH).2, ?_, hsaN, hsf0, hsw0, ?_, upd_same, t1, ?_, ?_, rfl⟩
            · rw [upd_ne hwf]
              exact hw6
            · rw [upd_ne hsf0]
              exact hs6
            · rw [List.length_append]
              simp only [List.length_cons, List.length_nil]
              omega
            · intro y hy
              rcases List.mem_append.mp hy with z | z
              · exact hfo y z
              · rw [List.mem_singleton.mp z]
                exact hmem

        · have hEq := not_dec' hE
          subst hEq
          have := reach_end hreach
          subst this
          have lt : 4 * (50 - fo.length) + tops [] < 4 * (50 - fo.length) + tops [yEND] := by
            show _ + 0 < _ + tops [yEND]
            rw [show tops [yEND] = 1 by decide]
            omega
          refine ⟨_, lt, [], fo, sa0, _, _, _, rfl, x1', hS1, hw1, hsaN, hsf0, hsw0, hs1, hf1, reach_nil, ?_, hfo, rfl⟩
          have : cost [] = 0 := rfl
          omega
end
end Kin
namespace Kin
open PySem PySem.Spec PyProof.Rows L2 SX Evl
def odd0 : List L := [[97], [48], [49, 50], [40], [41], [123], [125], [44], [59], [116, 97, 98, 108, 101], [45], [45, 49], [65], [97, 66], [116, 97, 98, 108, 101, 65], [97, 49, 90], [55, 97, 66], [33]]
theorem wOdd0 : ([.str "a", .str "0", .str "12", .str "(", .str ")", .str "{", .str "}", .str ",", .str ";", .str "table", .str "-", .str "-1", .str "A", .str "aB", .str "tableA", .str "a1Z", .str "7aB", .str "!"] : List V) = wV odd0 := by decide +kernel
def odd1 : List L := [[43], [35], [95], [97, 95, 98], [97, 98, 99, 100, 101, 102, 103, 104, 105, 106, 107, 108, 109], [97, 98, 99, 100, 101, 102, 103, 104, 105, 106, 107, 108, 48], [48, 48], [55, 97, 98, 99, 100, 101, 102, 103, 104, 105, 106, 107, 108, 109], [9], [49, 9], [39]]
theorem wOdd1 : ([.str "+", .str "#", .str "_", .str "a_b", .str "abcdefghijklm", .str "abcdefghijkl0", .str "00", .str "7abcdefghijklm", .str "\t", .str "1\t", .str "'"] : List V) = wV odd1 := by decide +kernel
def odd2 : List L := [[46], [58], [91], [93], [42], [47], [61], [60], [63], [126], [48, 120], [90]]
theorem wOdd2 : ([.str ".", .str ":", .str "[", .str "]", .str "*", .str "/", .str "=", .str "<", .str "?", .str "~", .str "0x", .str "Z"] : List V) = wV odd2 := by decide +kernel
def odd3 : List L := [[34], [36], [38], [62], [64], [92], [67], [89], [125, 123]]
theorem wOdd3 : ([.str "\"", .str "$", .str "&", .str ">", .str "@", .str "\\", .str "C", .str "Y", .str "}{"] : List V) = wV odd3 := by decide +kernel
def okSigns : List L := texts ++ dWords ++ (odd0 ++ odd1 ++ odd2 ++ odd3)
theorem wV_len (ws : List L) : (wV ws).length = ws.length := by simp [wV]
theorem cutV_wV (ws : List L) (lo hi : Option Int) : ∃ vs : List L, cutV (wV ws) lo hi = wV vs ∧ vs.length ≤ HT.sIx ws.length ws.length hi - HT.sIx ws.length 0 lo ∧ ∀ x ∈ vs, x ∈ ws := by
  refine ⟨(ws.drop (HT.sIx (wV ws).length 0 lo)).take (HT.sIx (wV ws).length (wV ws).length hi - HT.sIx (wV ws).length 0 lo), ?_, ?_, fun x hx => List.mem_of_mem_drop (List.mem_of_mem_take hx)⟩
  · unfold cutV wV
    rw [List.map_take, List.map_drop]
  · rw [List.length_take, List.length_drop, wV_len]
    omega
def spSpoilt : Sp := fun vs H Q _ => ∃ (s c a : Addr) (ws : List L), vs = [.ref s, .ref a] ∧ H a = some (.lst (wV ws)) ∧ a ≠ s ∧ a ≠ c ∧ ws ≠ [] ∧ ws.length ≤ 400 ∧ (∀ x ∈ ws, x ∈ okSigns) ∧ SrcAt H s c ∧
  ∀ p ws' H', H p = none → ExS s c H H' → SrcAt H' s c → H' p = some (.lst (wV ws')) → ws'.length ≤ ws.length + 1 → (∀ x ∈ ws', x ∈ okSigns) → Q (.ref p) H'
section
variable {P : Program} {w : World} {K : PySem.W.Frag} {mg : Str → Option Value} {base : Heap}
theorem scSpoilt : FnScope ["_law_source_here", "_law_signs", "_law_odd", "_law_at", "_law_other", "_law_own"] ["_law_source_here", "_law_signs"] (C8.fnScope sSpoilt) := C8.fnScope_by (by decide +kernel)
theorem ok_spoilt {f : Addr} {fd : FuncData} (T : Glob mg) (F : C8.Def K mg "_law_spoilt_signs" sSpoilt f fd) (b : Binds K fd ["_law_source_here", "_law_signs"] []) (cO : C8.Cal P w K mg base 2 "_law_of" spOf []) (cP : C8.Cal P w K mg base 1 "_law_pick" spPick []) : C8.Cal P w K mg base 3 "_law_spoilt_signs" spSpoilt [] := by
  refine C8.cal0 F b .nil scSpoilt (fun vs H Q E h => ?_) (fun cdv A outer s H vs Q E hr h => ?_)
  · obtain ⟨s, c, a, ws, rfl, _⟩ := h
    rfl
  · obtain ⟨s', c, a, ws, rfl, ha, has, hac, hne, hlen, hok, hS, q⟩ := h
    refine ⟨_, pss_cons (ps_set (i := 2) scSpoilt.nd rfl (Or.inl rfl) (pe_lst (pa_cons (pe_str) (pa_cons (pe_str) (pa_cons (pe_str) (pa_cons (pe_str) (pa_cons (pe_str) (pa_cons (pe_str) (pa_cons (pe_str) (pa_cons (pe_str) (pa_cons (pe_str) (pa_cons (pe_str) (pa_cons (pe_str) (pa_cons (pe_str) (pa_cons (pe_str) (pa_cons (pe_str) (pa_cons (pe_str) (pa_cons (pe_str) (pa_cons (pe_str) (pa_cons (pe_str) pa_nil))))))))))))))))))))
      (pss_cons (ps_set (i := 2) scSpoilt.nd rfl (Or.inl rfl) (pe_op op_cat (pv 2) (pe_lst (pa_cons (pe_str) (pa_cons (pe_str) (pa_cons (pe_str) (pa_cons (pe_str) (pa_cons (pe_str) (pa_cons (pe_str) (pa_cons (pe_str) (pa_cons (pe_str) (pa_cons (pe_str) (pa_cons (pe_str) (pa_cons (pe_str) pa_nil))))))))))))))
      (pss_cons (ps_set (i := 2) scSpoilt.nd rfl (Or.inl rfl) (pe_op op_cat (pv 2) (pe_lst (pa_cons (pe_str) (pa_cons (pe_str) (pa_cons (pe_str) (pa_cons (pe_str) (pa_cons (pe_str) (pa_cons (pe_str) (pa_cons (pe_str) (pa_cons (pe_str) (pa_cons (pe_str) (pa_cons (pe_str) (pa_cons (pe_str) (pa_cons (pe_str) pa_nil)))))))))))))))
      (pss_cons (ps_set (i := 2) scSpoilt.nd rfl (Or.inl rfl) (pe_op op_cat (pv 2) (pe_lst (pa_cons (pe_str) (pa_cons (pe_str) (pa_cons (pe_str) (pa_cons (pe_str) (pa_cons (pe_str) (pa_cons (pe_str) (pa_cons (pe_str) (pa_cons (pe_str) (pa_cons (pe_str) pa_nil))))))))))))
      (pss_cons (ps_par (i := 3) (j := 4) (by rfl) scSpoilt.nd rfl rfl (by decide) rfl rfl (pa_cons (C8.pe_c cP hr (by decide) (by rfl) (pa_cons (pv 0) (pa_cons (pe_callB call_len_seq (by rfl) T.len PySem.boot_len (pa_cons (pv 1) pa_nil)) pa_nil))) (pa_cons (C8.pe_c cO hr (by decide) (by rfl) (pa_cons (pv 0) (pa_cons (pv 2) pa_nil))) pa_nil)) (by rfl))
      (pss_cons (ps_set (i := 5) scSpoilt.nd rfl (Or.inl rfl) (C8.pe_c cO hr (by decide) (by rfl) (pa_cons (pv 0) (pa_cons (pe_lst (pa_cons (pe_lst pa_nil) (pa_cons (pe_op op_rep (pe_lst (pa_cons (pe_ix ix_list (pv 1) (pv 3) (fun _ _ => rfl)) pa_nil)) (pe_int)) (pa_cons (pe_lst (pa_cons (pv 4) pa_nil)) (pa_cons (pe_lst (pa_cons (pv 4) (pa_cons (pe_ix ix_list (pv 1) (pv 3) (fun _ _ => rfl)) pa_nil))) pa_nil))))) pa_nil))))
      (pss_one (ps_ret (pe_op op_cat (pe_op op_cat (pe_slice sl_list (pv 1) po_none (po_some (pv 3))) (pv 5)) (pe_slice sl_list (pv 1) (po_some (pe_op op_add (pv 3) (pe_int))) po_none))))))))), ?_⟩
    -- odd
    refine ⟨(by show 18 ≤ sizeLine; decide), fun p0 hp0 => ?_⟩
    rw [wOdd0]
    have x0 := Ex.new (o := .lst (wV odd0)) hp0
    have k0 : upd H p0 (.lst (wV odd0)) p0 = some (.lst (wV odd0)) := upd_same
    generalize upd H p0 (.lst (wV odd0)) = H0 at x0 k0 ⊢
    refine ⟨_, rfl, (by show 11 ≤ sizeLine; decide), fun u1 hu1 => ?_⟩
    rw [wOdd1]
    have z1 := Ex.new (o := .lst (wV odd1)) hu1
    have v1 : upd H0 u1 (.lst (wV odd1)) u1 = some (.lst (wV odd1)) := upd_same
    have k1' := z1 _ _ k0
    have x1' := x0.trans z1
    generalize upd H0 u1 (.lst (wV odd1)) = G1 at z1 v1 k1' x1' ⊢
    refine ⟨p0, u1, _, _, rfl, rfl, k1', v1, (by decide), fun p1 hp1 => ?_⟩
    rw [wV_app]
    have y1 := Ex.new (o := .lst (wV (odd0 ++ odd1))) hp1
    have x1 := x1'.trans y1
    have k1 : upd G1 p1 (.lst (wV (odd0 ++ odd1))) p1 = some (.lst (wV (odd0 ++ odd1))) := upd_same
    generalize upd G1 p1 (.lst (wV (odd0 ++ odd1))) = H1 at x1 k1 ⊢
    refine ⟨_, rfl, (by show 12 ≤ sizeLine; decide), fun u2 hu2 => ?_⟩
    rw [wOdd2]
    have z2 := Ex.new (o := .lst (wV odd2)) hu2
    have v2 : upd H1 u2 (.lst (wV odd2)) u2 = some (.lst (wV odd2)) := upd_same
    have k2' := z2 _ _ k1
    have x2' := x1.trans z2
    generalize upd H1 u2 (.lst (wV odd2)) = G2 at z2 v2 k2' x2' ⊢
    refine ⟨p1, u2, _, _, rfl, rfl, k2', v2, (by decide), fun p2 hp2 => ?_⟩
    rw [wV_app]
    have y2 := Ex.new (o := .lst (wV (odd0 ++ odd1 ++ odd2))) hp2
    have x2 := x2'.trans y2
    have k2 : upd G2 p2 (.lst (wV (odd0 ++ odd1 ++ odd2))) p2 = some (.lst (wV (odd0 ++ odd1 ++ odd2))) := upd_same
    generalize upd G2 p2 (.lst (wV (odd0 ++ odd1 ++ odd2))) = H2 at x2 k2 ⊢
    refine ⟨_, rfl, (by show 9 ≤ sizeLine; decide), fun u3 hu3 => ?_⟩
    rw [wOdd3]
    have z3 := Ex.new (o := .lst (wV odd3)) hu3
    have v3 : upd H2 u3 (.lst (wV odd3)) u3 = some (.lst (wV odd3)) := upd_same
    have k3' := z3 _ _ k2
    have x3' := x2.trans z3
    generalize upd H2 u3 (.lst (wV odd3)) = G3 at z3 v3 k3' x3' ⊢
    refine ⟨p2, u3, _, _, rfl, rfl, k3', v3, (by decide), fun p3 hp3 => ?_⟩
    rw [wV_app]
    have y3 := Ex.new (o := .lst (wV (odd0 ++ odd1 ++ odd2 ++ odd3))) hp3
    have x3 := x3'.trans y3
    have k3 : upd G3 p3 (.lst (wV (odd0 ++ odd1 ++ odd2 ++ odd3))) p3 = some (.lst (wV (odd0 ++ odd1 ++ odd2 ++ odd3))) := upd_same
    generalize upd G3 p3 (.lst (wV (odd0 ++ odd1 ++ odd2 ++ odd3))) = H3 at x3 k3 ⊢
    -- at, other
    have S3 := hS.keep x3
    have a3 := x3 _ _ ha
    have bk : ∀ {d : Addr} {G : Hp}, Ex H G → G d = none → d ≠ s' ∧ d ≠ c := fun {d G} e hd => ⟨fun z => hS.some.1 (by rw [← z]; exact fresh_back e hd), fun z => hS.some.2 (by rw [← z]; exact fresh_back e hd)⟩
    have bo := bk x3' hp3
    refine ⟨_, rfl, _, rfl, a, _, rfl, .inl (SqL.of a3), s', c, ws.length, (by rw [wV_len]; rfl), by omega, S3, fun at_ H4 hat x4 S4 => ?_⟩
    have k4 := x4 _ _ bo.1 bo.2 k3
    refine ⟨_, rfl, _, rfl, s', c, p3, _, rfl, k4, bo.1, bo.2, (by decide), (by decide), S4, fun j v H5 hv x5 S5 => ⟨_, _, rfl, ?_⟩⟩
    obtain ⟨o, rfl, hom, _⟩ := wV_get hv
    have X5 : ExS s' c H H5 := ((ExS.of x3).trans x4).trans x5
    have a5 := X5 _ _ has hac ha
    have hlt : at_ < ws.length := by
      have : 0 < ws.length := List.length_pos_iff.mpr hne
      omega
    obtain ⟨wd, hwd⟩ : ∃ wd, ws[at_]? = some wd := ⟨ws[at_], by simp [hlt]⟩
    have hg : atI (wV ws) (at_ : Int) = some (.str (S wd)) := atI_nat (by unfold wV; rw [List.getElem?_map, hwd]; rfl)
    have ok1 : wd ∈ okSigns := hok wd (List.mem_of_getElem? hwd)
    have ok2 : o ∈ okSigns := List.mem_append_right _ hom
    -- own = of(source, [[], [signs[at]] * 2, [other], [other, signs[at]]])
    refine ⟨_, rfl, by decide, fun l0 hl0 => ?_⟩
    have b0 := Ex.new (o := .lst []) hl0
    have a6 := b0 _ _ a5
    have m0 : upd H5 l0 (.lst []) l0 = some (.lst (wV [])) := upd_same
    generalize upd H5 l0 (.lst []) = G5 at b0 a6 m0 ⊢
    refine ⟨_, rfl, _, rfl, _, _, _, _, rfl, rfl, SqL.of a6, hg, (by show 1 ≤ sizeLine; decide), fun t1 ht1 => ?_⟩
    have b1 := b0.trans (Ex.new (o := .lst [.str (S wd)]) ht1)
    have a7 := (Ex.new (o := .lst [.str (S wd)]) ht1) _ _ a6
    have m0' := (Ex.new (o := .lst [.str (S wd)]) ht1) _ _ m0
    have mt : upd G5 t1 (.lst [.str (S wd)]) t1 = some (.lst [.str (S wd)]) := upd_same
    generalize upd G5 t1 (.lst [.str (S wd)]) = G6 at b1 a7 m0' mt ⊢
    refine ⟨t1, 2, _, rfl, rfl, mt, by decide, by decide, (by show 1 * 2 ≤ sizeLine; decide), fun l1 hl1 => ?_⟩
    rw [show (List.replicate (2 : Int).toNat [V.str (S wd)]).flatten = wV [wd, wd] from rfl]
    have c1 := Ex.new (o := .lst (wV [wd, wd])) hl1
    have b2 := b1.trans c1
    have a8 := c1 _ _ a7
    have m0 := c1 _ _ m0'
    have m1 : upd G6 l1 (.lst (wV [wd, wd])) l1 = some (.lst (wV [wd, wd])) := upd_same
    generalize upd G6 l1 (.lst (wV [wd, wd])) = G7 at b2 a8 m0 m1 ⊢
    refine ⟨_, rfl, (by show 1 ≤ sizeLine; decide), fun l2 hl2 => ?_⟩
    have c2 := Ex.new (o := .lst [.str (S o)]) hl2
    have b3 := b2.trans c2
    have a9 := c2 _ _ a8
    have m0 := c2 _ _ m0
    have m1 := c2 _ _ m1
    have m2 : upd G7 l2 (.lst [.str (S o)]) l2 = some (.lst (wV [o])) := upd_same
    generalize upd G7 l2 (.lst [.str (S o)]) = G8 at b3 a9 m0 m1 m2 ⊢
    refine ⟨_, rfl, _, rfl, _, rfl, _, _, _, _, rfl, rfl, SqL.of a9, hg, (by show 2 ≤ sizeLine; decide), fun l3 hl3 => ?_⟩
    have c3 := Ex.new (o := .lst [.str (S o), .str (S wd)]) hl3
    have b4 := b3.trans c3
    have a10 := c3 _ _ a9
    have m0 := c3 _ _ m0
    have m1 := c3 _ _ m1
    have m2 := c3 _ _ m2
    have m3 : upd G8 l3 (.lst [.str (S o), .str (S wd)]) l3 = some (.lst (wV [o, wd])) := upd_same
    generalize upd G8 l3 (.lst [.str (S o), .str (S wd)]) = G9 at b4 a10 m0 m1 m2 m3 ⊢
    refine ⟨(by show 4 ≤ sizeLine; decide), fun LL hLL => ?_⟩
    have c4 := Ex.new (o := .lst [.ref l0, .ref l1, .ref l2, .ref l3]) hLL
    have b5 := b4.trans c4
    have m0 := c4 _ _ m0
    have m1 := c4 _ _ m1
    have m2 := c4 _ _ m2
    have m3 := c4 _ _ m3
    have mL : upd G9 LL (.lst [.ref l0, .ref l1, .ref l2, .ref l3]) LL = some (.lst [.ref l0, .ref l1, .ref l2, .ref l3]) := upd_same
    have S10 := S5.keep b5
    have X10 := X5.trans (ExS.of b5)
    have bS : ∀ {d : Addr} {G : Hp}, Ex H5 G → G d = none → d ≠ s' ∧ d ≠ c := fun {d G} e hd => ⟨fun z => S5.some.1 (by rw [← z]; exact fresh_back e hd), fun z => S5.some.2 (by rw [← z]; exact fresh_back e hd)⟩
    have nL := bS b4 hLL
    have n0 := bS (Ex.refl _) hl0
    have n1 := bS b1 hl1
    have n2 := bS b2 hl2
    have n3 := bS b3 hl3
    generalize upd G9 LL (.lst [.ref l0, .ref l1, .ref l2, .ref l3]) = G10 at b5 m0 m1 m2 m3 mL S10 X10 ⊢
    refine ⟨s', c, LL, _, rfl, mL, nL.1, nL.2, by simp, (by show 4 ≤ 1000000; decide), S10, fun j2 v2 H6 hv2 x6 S6 => ?_⟩
    obtain ⟨qa, own, rfl, hqa, hol, hoo⟩ : ∃ (qa : Addr) (own : List L), v2 = .ref qa ∧ H6 qa = some (.lst (wV own)) ∧ own.length ≤ 2 ∧ ∀ x ∈ own, x ∈ okSigns := by
      match j2, hv2 with
      | 0, hv2 => exact ⟨l0, [], (Option.some.inj hv2).symm, x6 _ _ n0.1 n0.2 m0, by decide, fun _ h => by cases h⟩
      | 1, hv2 => exact ⟨l1, [wd, wd], (Option.some.inj hv2).symm, x6 _ _ n1.1 n1.2 m1, by show 2 ≤ 2; decide, fun x h => by
          simp only [List.mem_cons, List.not_mem_nil, or_false, or_self] at h
          rw [h]
          exact ok1⟩
      | 2, hv2 => exact ⟨l2, [o], (Option.some.inj hv2).symm, x6 _ _ n2.1 n2.2 m2, by show 1 ≤ 2; decide, fun x h => by
          rw [List.mem_singleton.mp h]
          exact ok2⟩
      | 3, hv2 => exact ⟨l3, [o, wd], (Option.some.inj hv2).symm, x6 _ _ n3.1 n3.2 m3, by show 2 ≤ 2; decide, fun x h => by
          simp only [List.mem_cons, List.not_mem_nil, or_false] at h
          rcases h with rfl | rfl
          · exact ok2
          · exact ok1⟩
      | j3 + 4, hv2 => exact absurd hv2 (by simp)
    have X11 := X10.trans x6
    have a11 := X11 _ _ has hac ha
    -- signs[:at] + own + signs[at + 1:]
    refine ⟨_, rfl, _, rfl, _, rfl, a, _, rfl, SqL.of a11, fun w1 hw1 => ?_⟩
    obtain ⟨h1, e1, l1', i1⟩ := cutV_wV ws none (some (at_ : Int))
    rw [HT.sIx_nat, HT.sIx_none] at l1'
    rw [e1]
    have y1 := Ex.new (o := .lst (wV h1)) hw1
    have q1 : upd H6 w1 (.lst (wV h1)) w1 = some (.lst (wV h1)) := upd_same
    have q2 := y1 _ _ hqa
    have a12 := y1 _ _ a11
    have T1 := S6.keep y1
    have X12 := X11.trans (ExS.of y1)
    generalize upd H6 w1 (.lst (wV h1)) = G11 at q1 q2 a12 T1 X12 ⊢
    refine ⟨_, rfl, w1, qa, _, _, rfl, rfl, q1, q2, ?_, fun w2 hw2 => ?_⟩
    · rw [wV_len, wV_len]
      exact Nat.le_trans (show _ ≤ 500 by omega) (by decide)
    rw [wV_app]
    have y2 := Ex.new (o := .lst (wV (h1 ++ own))) hw2
    have q3 : upd G11 w2 (.lst (wV (h1 ++ own))) w2 = some (.lst (wV (h1 ++ own))) := upd_same
    have a13 := y2 _ _ a12
    have T2 := T1.keep y2
    have X13 := X12.trans (ExS.of y2)
    generalize upd G11 w2 (.lst (wV (h1 ++ own))) = G12 at q3 a13 T2 X13 ⊢
    refine ⟨_, rfl, _, rfl, _, _, rfl, rfl, _, rfl, a, _, rfl, SqL.of a13, fun w3 hw3 => ?_⟩
    obtain ⟨h2, e2, l2', i2⟩ := cutV_wV ws (some ((at_ : Int) + 1)) none
    rw [show ((at_ : Int) + 1) = ((at_ + 1 : Nat) : Int) from rfl, HT.sIx_nat, HT.sIx_none] at l2'
    rw [e2]
    have y3 := Ex.new (o := .lst (wV h2)) hw3
    have q4 : upd G12 w3 (.lst (wV h2)) w3 = some (.lst (wV h2)) := upd_same
    have q3 := y3 _ _ q3
    have T3 := T2.keep y3
    have X14 := X13.trans (ExS.of y3)
    generalize upd G12 w3 (.lst (wV h2)) = G13 at q3 q4 T3 X14 ⊢
    refine ⟨w2, w3, _, _, rfl, rfl, q3, q4, ?_, fun w4 hw4 => ?_⟩
    · rw [wV_len, wV_len, List.length_append]
      exact Nat.le_trans (show _ ≤ 1000 by omega) (by decide)
    rw [wV_app]
    have y4 := Ex.new (o := .lst (wV (h1 ++ own ++ h2))) hw4
    refine q w4 (h1 ++ own ++ h2) _ (X14.back T3 hw4) (X14.trans (ExS.of y4)) (T3.keep y4) upd_same ?_ ?_
    · rw [List.length_append, List.length_append]
      omega
    · intro x hx
      rcases List.mem_append.mp hx with z | z
      · rcases List.mem_append.mp z with z | z
        · exact hok x (i1 x z)
        · exact hoo x z
      · exact hok x (i2 x z)
end
end Kin
namespace Kin
open PySem PySem.Spec PyProof.Rows L2 SX Evl
def gapsA : List L := [[], [32], [10, 10]]
def gapsB : List L := [[32], [10], [32, 10, 32, 32]]
def gapsC : List L := [[], [], []]
def gapsD : List L := [[], [32], [10]]
theorem wGapsA : ([.str "", .str " ", .str "\n\n"] : List V) = wV gapsA := by decide +kernel
theorem wGapsB : ([.str " ", .str "\n", .str " \n  "] : List V) = wV gapsB := by decide +kernel
theorem wGapsC : ([.str "", .str "", .str ""] : List V) = wV gapsC := by decide +kernel
theorem wGapsD : ([.str "", .str " ", .str "\n"] : List V) = wV gapsD := by decide +kernel
theorem lit_par : ("(" : Str) = S [40] := by decide +kernel
theorem ok_strip : ∀ x ∈ okSigns, Txt.stripChars (S x) "^" = S x := by decide +kernel
theorem ok_len : ∀ x ∈ okSigns, 0 < x.length ∧ x.length ≤ 14 := by decide +kernel
theorem iteShareT {b : Bool} {A B : Prop} (hA : A) (h : b = false → A → B) : if b = true then A else B := by
  cases b with
  | true => exact iteT hA
  | false => exact iteF (h rfl hA)
def spSpaced : Sp := fun vs H Q _ => ∃ (s c a : Addr) (ws : List L), vs = [.ref s, .ref a] ∧ H a = some (.lst (wV ws)) ∧ a ≠ s ∧ a ≠ c ∧ ws.length ≤ 1000 ∧ (∀ x ∈ ws, x ∈ okSigns) ∧ SrcAt H s c ∧ ∀ (l : L) H', l.length ≤ 20 + 20 * ws.length → ExS s c H H' → SrcAt H' s c → Q (.str (S l)) H'
section
variable {P : Program} {w : World} {K : PySem.W.Frag} {mg : Str → Option Value} {base : Heap}
theorem scSpaced : FnScope ["_law_source_here", "_law_signs", "_law_text", "_law_last", "_law_one", "_law_gaps"] ["_law_source_here", "_law_signs"] (C8.fnScope sSpaced) := C8.fnScope_by (by decide +kernel)
theorem ok_spaced {f : Addr} {fd : FuncData} (T : Glob mg) (F : C8.Def K mg "_law_spaced" sSpaced f fd) (b : Binds K fd ["_law_source_here", "_law_signs"] []) (cO : C8.Cal P w K mg base 2 "_law_of" spOf []) : C8.Cal P w K mg base 3 "_law_spaced" spSpaced [] := by
  refine C8.cal0 F b .nil scSpaced (fun vs H Q E h => ?_) (fun cdv A outer s H vs Q E hr h => ?_)
  · obtain ⟨s, c, a, ws, rfl, _⟩ := h
    rfl
  · obtain ⟨s', c, a, ws, rfl, ha, has, hac, hlen, hok, hS, q⟩ := h
    refine ⟨_, pss_cons (ps_par (i := 2) (j := 3) (by rfl) scSpaced.nd rfl rfl (by decide) rfl rfl (pa_cons (C8.pe_c cO hr (by decide) (by rfl) (pa_cons (pv 0) (pa_cons (pe_lst (pa_cons (pe_str) (pa_cons (pe_str) (pa_cons (pe_str) pa_nil)))) pa_nil))) (pa_cons (pe_str) pa_nil)) (by rfl))
      (pss_cons (ps_for PassesOwn.never rfl (pi_list (pv 1)) (pg_name (i := 4) scSpaced.nd rfl (Or.inl rfl)) (pss_cons (ps_set (i := 4) scSpaced.nd rfl (Or.inl rfl) (pe_bm PySem.F.plainAttrs_str PySem.F.slot_str_strip PySem.F.type_str_strip mt_stripChars (pv 4) (pa_cons (pe_str) pa_nil)))
      (pss_cons (ps_set (i := 5) scSpaced.nd rfl (Or.inl rfl) (pe_lst (pa_cons (pe_str) (pa_cons (pe_str) (pa_cons (pe_str) pa_nil)))))
      (pss_cons (ps_if (PW.pt (pw_or (pt_not (pt_val (pe_m0 PySem.F.slot_str_isalnum PySem.F.type_str_isalnum mt_isalnum (pe_op op_add_str (pv 3) (pv 4))))) (pw_or (pt_cmpR op_eq (pv 3) (pe_str) (nomark _)) (pw_or1 (PW.pt (pw_and (pt_val (pe_m0 PySem.F.slot_str_isdigit PySem.F.type_str_isdigit mt_isdigit (pv 3))) (pw_and1 (pt_not (pt_val (pe_m0 PySem.F.slot_str_isdigit PySem.F.type_str_isdigit mt_isdigit (pe_ix ix_str (pv 4) (pe_int) (fun _ _ => rfl)))))))))))) (pss_one (ps_set (i := 5) scSpaced.nd rfl (Or.inl rfl) (pe_op op_cat (pv 5) (pe_lst (pa_cons (pe_str) (pa_cons (pe_str) (pa_cons (pe_str) pa_nil))))))) pss_nil)
      (pss_one (ps_par (i := 2) (j := 3) (by rfl) scSpaced.nd rfl rfl (by decide) rfl rfl (pa_cons (pe_op op_add_str (pe_op op_add_str (pv 2) (C8.pe_c cO hr (by decide) (by rfl) (pa_cons (pv 0) (pa_cons (pv 5) pa_nil)))) (pv 4)) (pa_cons (pv 4) pa_nil)) (by rfl)))))))
      (pss_one (ps_ret (pe_op op_add_str (pv 2) (C8.pe_c cO hr (by decide) (by rfl) (pa_cons (pv 0) (pa_cons (pe_lst (pa_cons (pe_str) (pa_cons (pe_str) (pa_cons (pe_str) pa_nil)))) pa_nil))))))), ?_⟩
    have sz : ∀ {x y : L}, x.length + y.length ≤ 100000 → (S x).length + (S y).length ≤ sizeLine := fun {x y} h => by rw [S_len, S_len]; exact Nat.le_trans h (by decide)
    have nw : ∀ {d : Addr} {G : Hp}, SrcAt G s' c → G d = none → d ≠ s' ∧ d ≠ c := fun {d G} e hd => ⟨fun z => e.some.1 (by rw [← z]; exact hd), fun z => e.some.2 (by rw [← z]; exact hd)⟩
    refine ⟨_, rfl, (by show 3 ≤ sizeLine; decide), fun g0 hg0 => ?_⟩
    rw [wGapsA]
    have n0 := nw hS hg0
    refine ⟨s', c, g0, _, rfl, upd_same, n0.1, n0.2, by decide, by decide, hS.keep (Ex.new hg0), fun j v H1 hv x1 S1 => ?_⟩
    obtain ⟨t0, rfl, ht0, _⟩ := wV_get hv
    have lt0 : t0.length ≤ 2 := (by decide : ∀ t ∈ gapsA, t.length ≤ 2) t0 ht0
    have X1 : ExS s' c H H1 := (ExS.of (Ex.new hg0)).trans x1
    refine ⟨_, _, rfl, _, rfl, a, rfl, ⟨_, SqL.of (X1 _ _ has hac ha)⟩, ?_⟩
    rw [lit_par]
    refine for_it walk_list (fun j σ' H' => ∃ (l last : L) (o4 o5 : Option V), σ' = [some (.ref s'), some (.ref a), some (.str (S l)), some (.str (S last)), o4, o5] ∧ ExS s' c H H' ∧ SrcAt H' s' c ∧ last.length ≤ 14 ∧ l.length ≤ 2 + 18 * j)
      ⟨t0, [40], none, none, rfl, X1, S1, by decide, by omega⟩ (fun j σ' H' _ ⟨_, _, _, _, _, x, _⟩ => SqL.of (x _ _ has hac ha)) ?_ ?_
    · rintro j v σ' H' H3 hj ⟨l, last, o4, o5, rfl, x, S', hl1, hl2⟩ ⟨rfl, hv⟩
      obtain ⟨one, rfl, hone, _⟩ := wV_get hv
      rw [wV_len] at hj
      obtain ⟨p1, p2⟩ := ok_len one (hok one hone)
      refine ⟨_, rfl, rfl, _, _, rfl, rfl, S_size (by omega), ?_⟩
      rw [ok_strip one (hok one hone)]
      refine ⟨(by show 3 ≤ sizeLine; decide), fun gb hgb => ?_⟩
      rw [wGapsB]
      have ngb := nw S' hgb
      have xb := x.trans (ExS.of (Ex.new (o := .lst (wV gapsB)) hgb))
      have Sb := S'.keep (Ex.new (o := .lst (wV gapsB)) hgb)
      have kb : upd H3 gb (.lst (wV gapsB)) gb = some (.lst (wV gapsB)) := upd_same
      generalize upd H3 gb (.lst (wV gapsB)) = H4 at xb Sb kb ⊢
      refine ⟨_, rfl, _, rfl, _, _, rfl, rfl, sz (by omega), ⟨_, rfl⟩, _, rfl, rfl, True.intro, _, rfl, ?_⟩
      refine iteShareT ?_ (fun _ more => ?_)
      · refine ⟨_, rfl, (by show 3 ≤ sizeLine; decide), fun gc hgc => ?_⟩
        rw [wGapsC]
        have yc := Ex.new (o := .lst (wV gapsC)) hgc
        have kc : upd H4 gc (.lst (wV gapsC)) gc = some (.lst (wV gapsC)) := upd_same
        have kb := yc _ _ kb
        have Sc := Sb.keep yc
        have xc := xb.trans (ExS.of yc)
        generalize upd H4 gc (.lst (wV gapsC)) = H5 at kb kc Sc xc ⊢
        refine ⟨gb, gc, _, _, rfl, rfl, kb, kc, (by decide), fun gd hgd => ?_⟩
        rw [wV_app]
        have yd := Ex.new (o := .lst (wV (gapsB ++ gapsC))) hgd
        have ngd := nw Sc hgd
        refine ⟨_, rfl, _, rfl, _, rfl, s', c, gd, _, rfl, upd_same, ngd.1, ngd.2, (by decide), (by decide), (Sc.keep yd), fun j2 v2 H6 hv2 x6 S6 => ?_⟩
        obtain ⟨gg, rfl, hgg, _⟩ := wV_get hv2
        have lg : gg.length ≤ 4 := (by decide : ∀ t ∈ (gapsB ++ gapsC), t.length ≤ 4) gg hgg
        refine ⟨_, _, rfl, rfl, sz (by omega), ?_⟩
        rw [S_cat]
        refine ⟨_, rfl, _, _, rfl, rfl, sz (by rw [List.length_append]; omega), ?_⟩
        rw [S_cat]
        refine ⟨_, rfl, _, _, rfl, l ++ gg ++ one, one, _, _, rfl, (xc.trans (ExS.of yd)).trans x6, S6, p2, ?_⟩
        rw [List.length_append, List.length_append]
        omega
      refine ⟨_, rfl, rfl, _, rfl, ?_⟩
      refine iteShareT more (fun _ more => ?_)
      refine ⟨_, rfl, ⟨_, rfl⟩, _, rfl, rfl, True.intro, _, rfl, ?_⟩
      refine iteShare ?_ (fun _ less => ?_)
      · refine ⟨_, rfl, _, rfl, _, rfl, s', c, gb, _, rfl, kb, ngb.1, ngb.2, (by decide), (by decide), Sb, fun j2 v2 H6 hv2 x6 S6 => ?_⟩
        obtain ⟨gg, rfl, hgg, _⟩ := wV_get hv2
        have lg : gg.length ≤ 4 := (by decide : ∀ t ∈ gapsB, t.length ≤ 4) gg hgg
        refine ⟨_, _, rfl, rfl, sz (by omega), ?_⟩
        rw [S_cat]
        refine ⟨_, rfl, _, _, rfl, rfl, sz (by rw [List.length_append]; omega), ?_⟩
        rw [S_cat]
        refine ⟨_, rfl, _, _, rfl, l ++ gg ++ one, one, _, _, rfl, xb.trans x6, S6, p2, ?_⟩
        rw [List.length_append, List.length_append]
        omega
      obtain ⟨d, hd, _⟩ := drop_cons (l := one) (p := 0) (by omega)
      refine ⟨_, rfl, _, _, _, rfl, rfl, S_size (by omega), atI_S (p := 0) hd, ⟨_, rfl⟩, _, rfl, rfl, True.intro, _, rfl, ?_⟩
      exact iteShareT more (fun _ _ => less)
    · rintro σ' H' ⟨l, last, o4, o5, rfl, x, S', hl1, hl2⟩
      rw [wV_len] at hl2
      refine ⟨_, rfl, _, rfl, (by show 3 ≤ sizeLine; decide), fun g0 hg0 => ?_⟩
      rw [wGapsD]
      have n0 := nw S' hg0
      refine ⟨s', c, g0, _, rfl, upd_same, n0.1, n0.2, by decide, by decide, S'.keep (Ex.new hg0), fun j v H1 hv x1 S1 => ?_⟩
      obtain ⟨t0, rfl, ht0, _⟩ := wV_get hv
      have lt0 : t0.length ≤ 1 := (by decide : ∀ t ∈ gapsD, t.length ≤ 1) t0 ht0
      refine ⟨_, _, rfl, rfl, sz (by omega), ?_⟩
      rw [S_cat]
      refine q (l ++ t0) H1 ?_ (x.trans ((ExS.of (Ex.new hg0)).trans x1)) S1
      rw [List.length_append]
      omega
end
end Kin
/-! defs whose promise stands where no repr is under way -/
namespace Kin
open PySem PySem.Spec PyProof.Rows L2 SX Evl
structure FnG (P : Program) (w : World) (K : PySem.W.Frag) (mg : Str → Option Value) (base : Heap) (k : Nat) (f : Addr) (fd : FuncData) (ps : List Str) (sp : Sp) : Prop where
  len : ∀ vs H Q E, sp vs H Q E → vs.length = ps.length
  run : ∀ (A : Around), A.guards = some [] → ∀ (outer : List Env) (s : Shared) (H : Hp) (args : Args) (us : List Value) (vs : List V) (Q : VK) (E : XK), Room k A → Env0 P w K mg base A outer s H → BindsTo s fd args (ps.zip us) → Vals vs us → sp vs H Q E →
    codeAny (model P w) A (.call (.ref f) args) (CR C8.CX0 outer P w H s Q E) s
section
variable {P : Program} {w : World} {K : PySem.W.Frag} {mg : Str → Option Value} {base : Heap}
theorem FnG.mono {j k : Nat} {f : Addr} {fd : FuncData} {ps : List Str} {sp : Sp} (F : FnG P w K mg base j f fd ps sp) (h : j ≤ k) : FnG P w K mg base k f fd ps sp := ⟨F.len, fun A g outer s H args us vs Q E r => F.run A g outer s H args us vs Q E (r.mono h)⟩
/-- from the body -/
theorem fnG_of {x qual : Str} {st : Stmt} {f : Addr} {fd : FuncData} {N ps : List Str} {k : Nat} {sp : Sp} (F : C8.Fun K x qual st f fd) (S : FnScope N ps (C8.fnScope st)) (len : ∀ vs H Q E, sp vs H Q E → vs.length = ps.length)
    (hbody : ∀ (cdv : Value) (A : Around) (outer : List Env) (s : Shared) (H : Hp) (vs : List V) (Q : VK) (E : XK), (A.deeper (envOfC qual (C8.fnScope st) s.heap.objs.size f cdv)).guards = some [] → Room k (A.deeper (envOfC qual (C8.fnScope st) s.heap.objs.size f cdv)) → sp vs H Q E →
      ∃ t, PSs (cxOf C8.CX0 P w K mg base N qual (C8.fnScope st) f cdv A outer s H E).nox (C8.fnBody st) t ∧ t { nx := fun _ H' => Q .non H', rt := Q } (start N vs) H) : FnG P w K mg base (k + 1) f fd ps sp := by
  obtain ⟨oc, od, dV, kV, doc, pm, an, cdv, ct, osl, rfl, lk, hcd⟩ := F.ex
  refine ⟨len, fun A g outer s H args us vs Q E room env binds rel promise => ?_⟩
  have many := len _ _ _ _ promise
  have old : ∀ b o, base.get? b = some o → s.heap.get? b = some o := fun b o e => (env.bs b o e).1
  have KX : K.In s.heap := env.mod.kin.keeps old
  have kinds : ∀ y ∈ ps.zip us, (C8.fnScope st).names.lookup y.1 = some .local ∨ ((C8.fnScope st).names.lookup y.1 = some .cell ∧ ((cellsFrom (s.heap.objs.size + 1) (C8.fnScope st).names []).lookup y.1).isSome = true) := by
    rintro ⟨z, v⟩ hz
    refine (S.par z (List.of_mem_zip hz).1).imp _root_.id fun c => ⟨c, PySem.W.cellsFrom_some _ _ _ (.inl c)⟩
  refine codeAny_call_function room.depth (KX _ _ lk) rfl S.co S.gen rfl (PySem.W.codeRec_of KX hcd) (binds _ _ _ _ (wpAny_newFunctionEnv_cells S.kind kinds fun ev hev s1 in1 => ?_))
  subst hev
  refine ⟨(env.mod.nolimit.keeps old).keeps in1.toInCall.keep, codeAny_func ?_⟩
  obtain ⟨t, ht0, start_⟩ := hbody cdv A outer s H vs Q E g (room.deeper _) promise
  have ht := ht0.nox
  refine wpAny_mono (ht.run [] s1 (start N vs) H _ (inv_start S room.hd env many rel in1) start_) (fun fl s' done => ?_) fun _ _ z => z
  match fl, done with
  | .ret _, ⟨v, _, H', J, rv, q⟩ => exact ⟨v, H', J.os, J.bare, J.base, J.hok, rv, q⟩
  | .next, ⟨_, H', J, q⟩ => exact ⟨V.non, H', J.os, J.bare, J.base, J.hok, rfl, q⟩
  | .brk, ⟨_, _, _, q⟩ => exact q.elim
  | .cont, ⟨_, _, _, q⟩ => exact q.elim
structure CalG (P : Program) (w : World) (K : PySem.W.Frag) (mg : Str → Option Value) (base : Heap) (k : Nat) (x : Str) (sp : Sp) : Prop where
  ex : ∃ (f : Addr) (fd : FuncData) (ps : List Str), FnG P w K mg base k f fd ps sp ∧ mg x = some (.ref f) ∧ PySem.W.keepIn K (.ref f) = true ∧ Binds K fd ps []
theorem calG0 {x : Str} {st : Stmt} {f : Addr} {fd : FuncData} {N ps : List Str} {k : Nat} {sp : Sp} (F : C8.Def K mg x st f fd) (b : Binds K fd ps []) (S : FnScope N ps (C8.fnScope st)) (len : ∀ vs H Q E, sp vs H Q E → vs.length = ps.length)
    (hbody : ∀ (cdv : Value) (A : Around) (outer : List Env) (s : Shared) (H : Hp) (vs : List V) (Q : VK) (E : XK), (A.deeper (envOfC x (C8.fnScope st) s.heap.objs.size f cdv)).guards = some [] → Room k (A.deeper (envOfC x (C8.fnScope st) s.heap.objs.size f cdv)) → sp vs H Q E →
      ∃ t, PSs (cxOf C8.CX0 P w K mg base N x (C8.fnScope st) f cdv A outer s H E).nox (C8.fnBody st) t ∧ t { nx := fun _ H' => Q .non H', rt := Q } (start N vs) H) : CalG P w K mg base (k + 1) x sp :=
  ⟨f, fd, ps, fnG_of F.fn S len hbody, F.mgf, F.kp, b⟩
end
section
variable {X : Cx} {k j : Nat} {x : Str} {sp : Sp} {p pos : Pos} {e : Expr} {es : List Expr} {t : TA}
/-- f(..) where no repr is under way -/
theorem pe_cg (c : CalG X.prog X.w X.K X.mg X.base k x sp) (g : X.A.guards = some []) (hr : Room j X.A) (hk : k ≤ j) (hg : Gl X x) (ha : PA X (e :: es) t)
    (hdb : (x == ("__debug__" : Str)) = false := by decide) (he : starEach (e :: es) X.env = (false, eval e X.env) :: starEach es X.env := by rfl) (hpl : (backTo pos (starEach es X.env)).any (·.1) = false := by rfl) :
    PE X (.Call (.Name x p) (e :: es) [] pos) (tCall sp [] C8.E0 t) := by
  obtain ⟨f, fd, ps, F, hm, kp, b⟩ := c.ex
  refine ⟨fun pins s τ G Q I h => wpAny_Call_Name_kw (ld_glob I hg hm ?_ hdb)⟩
  refine PySem.W.callWith_K (h₀ := X.base) I.ok.mod.kin kp (thn (ha.run pos pins s τ G _ I h) fun us s1 ⟨vs, G1, I1, rel, promise⟩ => ⟨I1.kIn, ?_⟩) he hpl
  have promise : sp vs G1 Q C8.E0 := by
    have z : sp (vs ++ []) G1 Q C8.E0 := promise
    rw [List.append_nil] at z
    exact z
  have many : us.length = ps.length := by rw [← rel.length]; exact F.len _ _ _ _ promise
  have bd := b s1 us I1.kIn (by rw [List.append_nil]; exact many)
  rw [List.append_nil] at bd
  refine wpAny_call (codeAny_mono ((F.mono hk).run X.A g X.stack s1 G1 ⟨us, []⟩ us vs Q C8.E0 hr I1.env0 bd rel promise) fun r s' done => ?_)
  match r, done with
  | .ok (.ret _), done => exact I1.after done
  | .ok .next, done => exact done.elim
  | .ok .brk, done => exact done.elim
  | .ok .cont, done => exact done.elim
  | .error _, done => exact done.elim
end
end Kin
/-! the printed forms are short -/
namespace Kin
open PySem PySem.Spec PyProof.Rows L2 SX Evl
theorem tkAt_in {l : L} : ∀ (ts : List Lex) (p : Nat), p ≤ l.length → tkAt l p = ts → ∀ t ∈ ts, t.nx ≤ l.length
  | [], _, _, _ => fun _ h => by cases h
  | u :: r, p, hp, e => fun t ht => by
    have hu : u.nx ≤ l.length := by
      rw [tkAt_head e]
      exact lexS_in hp
    rcases List.mem_cons.mp ht with z | z
    · rw [z]
      exact hu
    · cases hl : u.live with
      | true => exact tkAt_in r u.nx hu (tkAt_live e hl).2.symm t z
      | false =>
        rw [(tkAt_dead e hl).2] at z
        cases z
theorem told_out : ∀ (ts acc : List Lex), match told acc ts with
    | .inl p => ∃ t ∈ ts, p = t.pl
    | .inr r => r.length ≤ acc.length + ts.length ∧ ∀ t ∈ r, t ∈ acc ∨ t ∈ ts
  | [], acc => ⟨by simp, fun t h => .inl h⟩
  | u :: ts, acc => by
    unfold told
    by_cases h1 : u.kd = .fin
    · rw [if_pos h1]
      exact ⟨by simp, fun t h => .inl h⟩
    rw [if_neg h1]
    by_cases h2 : u.kd = .bad
    · rw [if_pos h2]
      exact ⟨u, List.mem_cons_self, rfl⟩
    rw [if_neg h2]
    have ih := told_out ts (acc ++ [u])
    cases e : told (acc ++ [u]) ts with
    | inl p =>
      rw [e] at ih
      obtain ⟨t, ht, hp⟩ := ih
      exact ⟨t, List.mem_cons_of_mem _ ht, hp⟩
    | inr r =>
      rw [e] at ih
      refine ⟨?_, fun t ht => ?_⟩
      · have := ih.1
        rw [List.length_append] at this
        simp only [List.length_cons, List.length_nil] at this ⊢
        omega
      · rcases ih.2 t ht with z | z
        · rcases List.mem_append.mp z with y | y
          · exact .inl y
          · rw [List.mem_singleton.mp y]
            exact .inr List.mem_cons_self
        · exact .inr (List.mem_cons_of_mem _ z)
def kindD : Kd → PyData
  | .fin => .none
  | .bad => .str "none"
  | .num => .str "number"
  | .word => .str "word"
  | .sign => .str "sign"
def lexD (t : Lex) : PyData := .tuple [kindD t.kd, .str (S t.tx), .int (t.pl : Int)]
def toldD : Nat ⊕ List Lex → PyData
  | .inl p => .list [.str "refused", .int (p : Int)]
  | .inr ts => .list [.str "told", .list (ts.map lexD)]
theorem kind_dp {K : PySem.W.Frag} {H : Hp} (k : Kd) : Dp K H (kindK k) (kindD k) := by
  cases k with
  | fin => exact .non
  | bad => exact .str _
  | num => exact .str _
  | word => exact .str _
  | sign => exact .str _
theorem lex_dp {K : PySem.W.Frag} {H : Hp} {a : Addr} {t : Lex} (h : H a = some (.tup (encP t))) : Dp K H (.ref a) (lexD t) := .tup (SqT.of h) (.cons (kind_dp _) (.cons (.str _) (.cons (.int _) .nil)))
theorem lexs_dp {K : PySem.W.Frag} {H : Hp} : ∀ {as : List Addr} {ts : List Lex}, Tups H as ts → DpAll K H (as.map V.ref) (ts.map lexD)
  | _, _, .nil => .nil
  | _, _, .cons h t => .cons (lex_dp h) (lexs_dp t)
theorem told_dp {K : PySem.W.Frag} {H : Hp} {a fa : Addr} {as : List Addr} {ts : List Lex} (h : H a = some (.lst [.str "told", .ref fa])) (h2 : H fa = some (.lst (as.map V.ref))) (h3 : Tups H as ts) : Dp K H (.ref a) (toldD (.inr ts)) :=
  .lst (SqL.of h) (.cons (.str _) (.cons (.lst (SqL.of h2) (lexs_dp h3)) .nil))
theorem refused_dp {K : PySem.W.Frag} {H : Hp} {a : Addr} {p : Nat} (h : H a = some (.lst [.str "refused", .int (p : Int)])) : Dp K H (.ref a) (toldD (.inl p)) := .lst (SqL.of h) (.cons (.str _) (.cons (.int _) .nil))
theorem log_small {p : Nat} (h : p ≤ 1100) : ((p : Int).natAbs.log2 < 1920) := by
  rw [Int.natAbs_natCast]
  exact Nat.lt_of_le_of_lt (Nat.log2_le_self p) (by omega)
theorem lex_ok {t : Lex} (h : t.nx ≤ 1100) : (lexD t).showable = true ∧ (lexD t).hasDict = false ∧ (lexD t).depth ≤ 2 := by
  have hp : t.pl ≤ 1100 := by unfold Lex.nx at h; omega
  refine ⟨?_, ?_, ?_⟩
  · simp only [lexD, PyData.showable, PyData.showableAll, Bool.and_true, Bool.and_eq_true, decide_eq_true_eq]
    refine ⟨?_, True.intro, log_small hp⟩
    cases t.kd <;> rfl
  · simp only [lexD, PyData.hasDict, PyData.hasDictAll, Bool.or_false]
    cases t.kd <;> rfl
  · simp only [lexD, PyData.depth, PyData.depthAll]
    cases t.kd <;> simp [kindD, PyData.depth]
theorem lexs_ok : ∀ ts : List Lex, (∀ t ∈ ts, t.nx ≤ 1100) → PyData.showableAll (ts.map lexD) = true ∧ PyData.hasDictAll (ts.map lexD) = false ∧ PyData.depthAll (ts.map lexD) ≤ 2
  | [], _ => ⟨rfl, rfl, by simp [PyData.depthAll]⟩
  | t :: ts, h => by
    obtain ⟨a1, a2, a3⟩ := lexs_ok ts fun u hu => h u (List.mem_cons_of_mem _ hu)
    obtain ⟨b1, b2, b3⟩ := lex_ok (h t List.mem_cons_self)
    rw [List.map_cons]
    refine ⟨?_, ?_, ?_⟩
    · simp only [PyData.showableAll, a1, b1, Bool.and_self]
    · simp only [PyData.hasDictAll, a2, b2, Bool.or_self]
    · simp only [PyData.depthAll]
      omega
theorem wf_small {t : Lex} (w : Wf t) : ∀ c ∈ t.tx, c < 128 := by
  intro c hc
  cases h : t.kd with
  | fin =>
    rw [w.dead (by unfold Lex.live; rw [h])] at hc
    cases hc
  | bad =>
    rw [w.dead (by unfold Lex.live; rw [h])] at hc
    cases hc
  | num => exact (by decide : ∀ c ∈ cFg, c < 128) c ((w.num h).2 c hc)
  | word => exact (by decide : ∀ c ∈ cAl, c < 128) c ((w.word h).2.2 c hc)
  | sign =>
    obtain ⟨d, hd, e⟩ := w.sign h
    rw [e] at hc
    rw [List.mem_singleton.mp hc]
    exact (by decide : ∀ c ∈ cSg, c < 128) d hd
theorem textFrom_up : ∀ (ts : List Str) (k : Nat) (acc : Str), (textFrom k acc ts).length ≤ acc.length + piled ts
  | [], _, acc => Nat.le_add_right _ _
  | t :: ts, k, acc => by
    have h := textFrom_up ts (k + 1) (acc ++ (if k > 0 then ", " else "" : String) ++ t)
    have e : (acc ++ (if k > 0 then ", " else "" : String) ++ t).length = acc.length + (if k > 0 then 2 else 0) + t.length := by
      rw [strLen_append, strLen_append]
      split <;> rfl
    rw [e] at h
    rw [piled_cons]
    show (textFrom (k + 1) _ ts).length ≤ _
    have : (if k > 0 then 2 else 0 : Nat) ≤ 2 := by split <;> omega
    omega
theorem listText_up (ts : List Str) : (listText ts).length ≤ piled ts + 2 := by
  unfold listText
  rw [strLen_append]
  have h := textFrom_up ts 0 "["
  have e1 : (Str.ofString "[").length = 1 := by decide
  have e2 : (Str.ofString "]").length = 1 := by decide
  omega
theorem tupleText_up {ts : List Str} (h : ts ≠ []) : (tupleText ts).length ≤ piled ts + 3 := by
  unfold tupleText
  rw [strLen_append, strLen_append]
  have j := join_length_add ts h
  have e1 : (Str.ofString "(").length = 1 := by decide
  have e2 : (Str.ofString (if ts.length == 1 then ",)" else ")" : String)).length ≤ 2 := by split <;> decide
  omega
theorem kind_short (k : Kd) : (kindD k).shown.length ≤ 10 := by cases k <;> decide +kernel
theorem int_short {p : Nat} (h : p ≤ 1100) : (PyData.shown (.int (p : Int))).length ≤ 5 := by
  unfold PyData.shown
  exact toString_length_le (by omega) (by decide) (by omega)
theorem lex_short {t : Lex} (w : Wf t) (h : t.nx ≤ 1100) : (lexD t).shown.length ≤ 11050 := by
  have hp : t.pl ≤ 1100 := by unfold Lex.nx at h; omega
  have ht : t.tx.length ≤ 1100 := by unfold Lex.nx at h; omega
  have h1 := kind_short t.kd
  have h2 := int_short hp
  have h3 := PySem.StrLaws.reprText_len (S t.tx) (fun c hc => Nat.lt_trans (wf_small w c (show c ∈ t.tx by simpa [S] using hc)) (by decide))
  have h4 : (S t.tx).length = t.tx.length := S_len _
  have e : (lexD t).shown = tupleText [(kindD t.kd).shown, reprText (S t.tx), PyData.shown (.int (t.pl : Int))] := by simp only [lexD, PyData.shown, PyData.shownAll]
  rw [e]
  refine Nat.le_trans (tupleText_up (by simp)) ?_
  rw [piled_cons, piled_cons, piled_cons, piled_nil]
  omega
theorem lexs_short : ∀ ts : List Lex, (∀ t ∈ ts, Wf t ∧ t.nx ≤ 1100) → piled (PyData.shownAll (ts.map lexD)) ≤ 11052 * ts.length
  | [], _ => by simp [PyData.shownAll, piled_nil]
  | t :: ts, h => by
    have ih := lexs_short ts fun u hu => h u (List.mem_cons_of_mem _ hu)
    obtain ⟨b1, b2⟩ := h t List.mem_cons_self
    have hs := lex_short b1 b2
    rw [List.map_cons]
    simp only [PyData.shownAll, piled_cons, List.length_cons]
    omega
theorem told_ok {l : L} (hl : l.length ≤ 1100) : (toldD (told [] (tkAt l 0))).showable = true ∧ (toldD (told [] (tkAt l 0))).hasDict = false ∧ (toldD (told [] (tkAt l 0))).depth ≤ 8 ∧ (toldD (told [] (tkAt l 0))).shown.length ≤ sizeLine := by
  have hin := tkAt_in (tkAt l 0) 0 (Nat.zero_le _) rfl
  have hwf := tkAt_wf l 0
  have hlen := tkAt_len l 0
  have ho := told_out (tkAt l 0) []
  have e1 : (PyData.shown (.str "refused")).length = 9 := by decide +kernel
  have e2 : (PyData.shown (.str "told")).length = 6 := by decide +kernel
  cases e : told [] (tkAt l 0) with
  | inl p =>
    rw [e] at ho
    obtain ⟨t, ht, rfl⟩ := ho
    have hn := hin t ht
    have hp : t.pl ≤ 1100 := by unfold Lex.nx at hn; omega
    refine ⟨?_, ?_, ?_, ?_⟩
    · simp only [toldD, PyData.showable, PyData.showableAll, Bool.and_true, Bool.and_eq_true, decide_eq_true_eq]
      exact ⟨True.intro, log_small hp⟩
    · simp [toldD, PyData.hasDict, PyData.hasDictAll]
    · simp [toldD, PyData.depth, PyData.depthAll]
    · have e3 : (toldD (.inl t.pl)).shown = listText [PyData.shown (.str "refused"), PyData.shown (.int (t.pl : Int))] := by simp only [toldD, PyData.shown, PyData.shownAll]
      rw [e3]
      refine Nat.le_trans (listText_up _) ?_
      rw [piled_cons, piled_cons, piled_nil, e1]
      have := int_short hp
      exact Nat.le_trans (show _ ≤ 100 by omega) (by decide)
  | inr ts =>
    rw [e] at ho
    have hts : ∀ t ∈ ts, Wf t ∧ t.nx ≤ 1100 := fun t ht => by
      rcases ho.2 t ht with z | z
      · cases z
      · exact ⟨hwf t z, Nat.le_trans (hin t z) hl⟩
    have hn : ts.length ≤ 1101 := by
      have := ho.1
      simp only [List.length_nil] at this
      omega
    obtain ⟨a1, a2, a3⟩ := lexs_ok ts fun t ht => (hts t ht).2
    refine ⟨?_, ?_, ?_, ?_⟩
    · simp only [toldD, PyData.showable, PyData.showableAll, a1, Bool.and_true]
    · simp only [toldD, PyData.hasDict, PyData.hasDictAll, a2, Bool.or_false]
    · simp only [toldD, PyData.depth, PyData.depthAll]
      omega
    · have e3 : (toldD (.inr ts)).shown = listText [PyData.shown (.str "told"), listText (PyData.shownAll (ts.map lexD))] := by simp only [toldD, PyData.shown, PyData.shownAll]
      rw [e3]
      refine Nat.le_trans (listText_up _) ?_
      rw [piled_cons, piled_cons, piled_nil, e2]
      have h1 := listText_up (PyData.shownAll (ts.map lexD))
      have h2 := lexs_short ts hts
      exact Nat.le_trans (show _ ≤ 12500000 by omega) (by decide)
end Kin
namespace Kin
open PySem PySem.Spec PyProof.Rows L2 SX Evl
def spTextRight : Sp := fun vs H Q _ => ∃ (r : Addr) (l : L), vs = [.ref r, .str (S l)] ∧ RulesAt H r ∧ l.length ≤ 1100 ∧ ∀ H', Ex H H' → Q (.bl true) H'
def wpD : Option Nat → PyData
  | none => .list []
  | some p => .list [.int (p : Int)]
theorem wp_dp {K : PySem.W.Frag} {H : Hp} {a : Addr} {g : Option Nat} (h : H a = some (.lst (wpV g))) : Dp K H (.ref a) (wpD g) := by
  cases g with
  | none => exact .lst (SqL.of h) .nil
  | some p => exact .lst (SqL.of h) (.cons (.int _) .nil)
theorem wp_shaped (g : Option Nat) : SeqAt.shaped (wpD g) = true := by
  cases g with
  | none => rfl
  | some p => simp [wpD, SeqAt.shaped, PyData.canLay0, PyData.canLayAll0, PyData.depth, PyData.depthAll]
theorem eqv_self (p : Nat) : (!PyData.eqv (wpD (some p)) (wpD (some p))) = false := by
  show (!(((p : Int) == (p : Int)) && true)) = false
  rw [beq_self_eq_true]
  rfl
def tellD : PyData := .list [.str "told"]
theorem tell_dp {K : PySem.W.Frag} {H : Hp} {a : Addr} (h : H a = some (.lst [.str "told"])) : Dp K H (.ref a) tellD := .lst (SqL.of h) (.cons (.str _) .nil)
theorem tell_shaped : SeqAt.shaped tellD = true := by decide +kernel
theorem tell_eqv : (!PyData.eqv tellD tellD) = false := by decide +kernel
section
variable {P : Program} {w : World} {K : PySem.W.Frag} {mg : Str → Option Value} {base : Heap}
theorem scTextRight : FnScope ["_law_rules_here", "_law_text", "_law_due", "_law_lap", "_law_told_here"] ["_law_rules_here", "_law_text"] (C8.fnScope sTextRight) := C8.fnScope_by (by decide +kernel)
theorem ok_textRight {f : Addr} {fd : FuncData} (T : Glob mg) (F : C8.Def K mg "_law_text_right" sTextRight f fd) (b : Binds K fd ["_law_rules_here", "_law_text"] []) (cW : C8.Cal P w K mg base 3 "_law_wrong_place" spWrongPlace []) (cLT : C8.Cal P w K mg base 4 "_law_lexemes_told" spLexTold [])
    (cD : C8.Cal P w K mg base 3 "_law_lexemes_due" spDue []) (cT : C8.Cal P w K mg base 9 "_law_told" spTold []) : CalG P w K mg base 10 "_law_text_right" spTextRight := by
  refine calG0 F b scTextRight (fun vs H Q E h => ?_) (fun cdv A outer s H vs Q E gd hr h => ?_)
  · obtain ⟨r, l, rfl, _⟩ := h
    rfl
  · obtain ⟨r, l, rfl, hR, hl, q⟩ := h
    refine ⟨_, pss_cons (ps_set (i := 2) scTextRight.nd rfl (Or.inl rfl) (C8.pe_c cW hr (by decide) (by rfl) (pa_cons (pv 0) (pa_cons (pv 1) (pa_cons (pe_str) pa_nil)))))
      (pss_cons (ps_for PassesOwn.never rfl (pi_range1 (by rfl) T.range (pa_cons (pe_int) pa_nil)) (pg_name (i := 3) scTextRight.nd rfl (Or.inl rfl)) (pss_cons (ps_set (i := 4) scTextRight.nd rfl (Or.inl rfl) (C8.pe_c cLT hr (by decide) (by rfl) (pa_cons (pv 1) pa_nil)))
      (pss_cons (ps_if (pt_cmpR op_ne (pe_callB (call_reprD gd (hu64 hr)) (by rfl) T.repr (by decide +kernel) (pa_cons (pv 4) pa_nil)) (pe_callB (call_reprD gd (hu64 hr)) (by rfl) T.repr (by decide +kernel) (pa_cons (C8.pe_c cD hr (by decide) (by rfl) (pa_cons (pv 1) pa_nil)) pa_nil)) (nomark _)) (pss_one (ps_ret (pe_bl))) pss_nil)
      (pss_cons (ps_if (pt_cmpR op_eq (pe_ix ix_list (pv 4) (pe_int) (fun _ _ => rfl)) (pe_str) (nomark _)) (pss_one (ps_expr (pe_bm PySem.F.plainAttrs_list PySem.F.slot_list_append PySem.F.type_list_append mt_append (pe_ix ix_list (pv 4) (pe_int) (fun _ _ => rfl)) (pa_cons (pe_non) pa_nil)))) pss_nil)
      (pss_one (ps_if (pt_cmpR (op_neD (hu64 hr)) (C8.pe_c cT hr (by decide) (by rfl) (pa_cons (pv 1) pa_nil)) (pe_ifExp (pt_cmpR (op_neD (hu64 hr)) (pv 2) (pe_lst pa_nil) (nomark _)) (pv 2) (pe_lst (pa_cons (pe_str) pa_nil))) (nomark _)) (pss_one (ps_ret (pe_bl))) pss_nil))))))
      (pss_one (ps_ret (pe_bl)))), ?_⟩
    have hl5 : l.length ≤ 50000 := by omega
    obtain ⟨ok1, ok2, ok3, ok4⟩ := told_ok hl
    refine ⟨_, rfl, _, rfl, r, l, yTABLE, by rw [lit_kTABLE]; rfl, hR, hl5, by decide, fun da H1 hda x1 hd1 => ?_⟩
    rw [G_table] at hd1
    refine ⟨2, rfl, by decide, by decide, ?_⟩
    refine for_it walk_range (fun j σ' H' => ∃ (o3 o4 : Option V), σ' = [some (.ref r), some (.str (S l)), some (.ref da), o3, o4] ∧ Ex H H' ∧ H' da = some (.lst (wpV (err (pTable (tkAt l 0)))))) ⟨none, none, rfl, x1, hd1⟩ (fun _ _ _ _ _ => True.intro) ?_ ?_
    rotate_left
    · rintro σ' H' ⟨o3, o4, rfl, x, _⟩
      exact q H' x
    rintro j v σ' H' H3 hj ⟨o3, o4, rfl, x, hd⟩ ⟨rfl, rfl⟩
    -- what follows the printed forms
    refine ⟨_, rfl, l, rfl, hl5, ?_⟩
    cases e : told [] (tkAt l 0) with
    | inl p =>
      rw [e] at ok1 ok2 ok3 ok4
      refine fun ta H4 hta x4 k4 => ?_
      have x4' := x.trans x4
      -- if repr(told_here) != repr(due(text))
      refine ⟨_, rfl, ta, _, rfl, refused_dp k4, ok1, ok2, ok3, ok4, ?_⟩
      refine ⟨_, rfl, l, rfl, hl5, ?_⟩
      rw [e]
      refine fun ua H5 hua x5 k5 => ⟨ua, _, rfl, refused_dp k5, ok1, ok2, ok3, ok4, rfl, _, rfl, ?_⟩
      refine iteB (c := false) (by rw [decide_eq_true rfl]; rfl) (fun z => by cases z) (fun _ => ?_)
      have k4 := x5 _ _ k4
      have hdF := x5 _ _ (x4 _ _ hd)
      have xF := x4'.trans x5
      -- if told_here[0] == 'told'
      refine ⟨_, rfl, _, _, _, _, rfl, rfl, SqL.of k4, atI_nat (j := 0) rfl, rfl, _, rfl, ?_⟩
      refine iteB (c := false) (by decide +kernel) (fun z => by cases z) (fun _ => ?_)
      -- if told(text) != ..
      refine ⟨_, rfl, l, rfl, hl5, fun tl H6 htl x6 k6 => ?_⟩
      have hd6 := x6 _ _ hdF
      have xF6 := xF.trans x6
      refine ⟨_, rfl, by decide, fun e1 he1 => ?_⟩
      have xe := Ex.new (o := .lst []) he1
      have k7 := xe _ _ k6
      have hd7 := xe _ _ hd6
      have xF7 := xF6.trans xe
      refine ⟨_, _, wp_dp hd7, .lst (SqL.of upd_same) .nil, wp_shaped _, rfl, _, rfl, ?_⟩
      generalize upd H6 e1 (.lst []) = H7 at k7 hd7 xF7 ⊢
      cases ep : pTable (tkAt l 0) with
      | inl p2 =>
        rw [ep] at hd7 k7
        refine iteB (c := true) rfl (fun _ => ?_) (fun z => by cases z)
        refine ⟨_, rfl, _, _, wp_dp (g := some p2) k7, wp_dp (g := some p2) hd7, wp_shaped _, wp_shaped _, _, rfl, ?_⟩
        refine iteB (c := false) (eqv_self p2) (fun z => by cases z) (fun _ => ?_)
        exact ⟨_, _, rfl, xF7, hd7⟩
      | inr p2 =>
        rw [ep] at hd7 k7
        refine iteB (c := false) rfl (fun z => by cases z) (fun _ => ?_)
        refine ⟨(by show 1 ≤ sizeLine; decide), fun c1 hc1 => ?_⟩
        have xc := Ex.new (o := .lst [.str "told"]) hc1
        refine ⟨_, _, tell_dp (xc _ _ k7), tell_dp upd_same, tell_shaped, tell_shaped, _, rfl, ?_⟩
        refine iteB (c := false) tell_eqv (fun z => by cases z) (fun _ => ?_)
        exact ⟨_, _, rfl, xF7.trans xc, xc _ _ hd7⟩
    | inr ts =>
      rw [e] at ok1 ok2 ok3 ok4
      refine fun ta fa as H4 hta hfa x4 k4 kf kt => ?_
      refine ⟨_, rfl, ta, _, rfl, told_dp k4 kf kt, ok1, ok2, ok3, ok4, ?_⟩
      refine ⟨_, rfl, l, rfl, hl5, ?_⟩
      rw [e]
      refine fun ua ub us H5 hua x5 k5 k5' k5'' => ⟨ua, _, rfl, told_dp k5 k5' k5'', ok1, ok2, ok3, ok4, rfl, _, rfl, ?_⟩
      refine iteB (c := false) (by rw [decide_eq_true rfl]; rfl) (fun z => by cases z) (fun _ => ?_)
      have k4 := x5 _ _ k4
      have kf := x5 _ _ kf
      have hd5 := x5 _ _ (x4 _ _ hd)
      have x5' := (x.trans x4).trans x5
      have hfaH := fresh_back x hfa
      -- if told_here[0] == 'told'
      refine ⟨_, rfl, _, _, _, _, rfl, rfl, SqL.of k4, atI_nat (j := 0) rfl, rfl, _, rfl, ?_⟩
      refine iteB (c := true) (by decide +kernel) (fun _ => ?_) (fun z => by cases z)
      refine ⟨_, rfl, _, _, _, _, rfl, rfl, SqL.of k4, atI_nat (j := 1) rfl, .inl ⟨rfl, _, SqL.of kf⟩, ?_⟩
      have ho := told_out (tkAt l 0) []
      rw [e] at ho
      have hlen := tkAt_len l 0
      have hlas : as.length = ts.length := Paired.length kt
      refine ⟨_, _, _, rfl, rfl, kf, ?_, ?_⟩
      · rw [List.length_map]
        have := ho.1
        simp only [List.length_nil] at this
        exact sz_lt (by omega)
      have xF := x5'.mut (o := .lst (as.map V.ref ++ [.non])) hfaH
      have hdF : upd H5 fa (.lst (as.map V.ref ++ [.non])) da = some (.lst (wpV (err (pTable (tkAt l 0))))) := by
        rw [upd_ne (fun z => ?_)]
        · exact hd5
        · rw [z] at hd
          rw [hd] at hfa
          cases hfa
      -- if told(text) != ..
      refine ⟨_, rfl, l, rfl, hl5, fun tl H6 htl x6 k6 => ?_⟩
      have hd6 := x6 _ _ hdF
      have xF6 := xF.trans x6
      refine ⟨_, rfl, by decide, fun e1 he1 => ?_⟩
      have xe := Ex.new (o := .lst []) he1
      have k7 := xe _ _ k6
      have hd7 := xe _ _ hd6
      have xF7 := xF6.trans xe
      refine ⟨_, _, wp_dp hd7, .lst (SqL.of upd_same) .nil, wp_shaped _, rfl, _, rfl, ?_⟩
      generalize upd H6 e1 (.lst []) = H7 at k7 hd7 xF7 ⊢
      cases ep : pTable (tkAt l 0) with
      | inl p2 =>
        rw [ep] at hd7 k7
        refine iteB (c := true) rfl (fun _ => ?_) (fun z => by cases z)
        refine ⟨_, rfl, _, _, wp_dp (g := some p2) k7, wp_dp (g := some p2) hd7, wp_shaped _, wp_shaped _, _, rfl, ?_⟩
        refine iteB (c := false) (eqv_self p2) (fun z => by cases z) (fun _ => ?_)
        exact ⟨_, _, rfl, xF7, hd7⟩
      | inr p2 =>
        rw [ep] at hd7 k7
        refine iteB (c := false) rfl (fun z => by cases z) (fun _ => ?_)
        refine ⟨(by show 1 ≤ sizeLine; decide), fun c1 hc1 => ?_⟩
        have xc := Ex.new (o := .lst [.str "told"]) hc1
        refine ⟨_, _, tell_dp (xc _ _ k7), tell_dp upd_same, tell_shaped, tell_shaped, _, rfl, ?_⟩
        refine iteB (c := false) tell_eqv (fun z => by cases z) (fun _ => ?_)
        exact ⟨_, _, rfl, xF7.trans xc, xc _ _ hd7⟩
end
end Kin
/-! the long text, its lexemes -/
namespace Kin
theorem toks_go {s : L} {p : Nat} {t : Lex} {s' : L} {q : Nat} (h : lexS s p = t) (hl : t.live = true) (hq : t.nx = q) (hs : s.drop (q - p) = s') : toks s p = t :: toks s' q := by
  rw [toks_eq, h, if_pos hl, hq, hs]
theorem run_out {sg s : L} {c : Nat} (h : c ∉ sg) : run sg (c :: s) = [] := run_cons_out h
theorem lexS_blank {c : Nat} {s : L} {q : Nat} (h : c ∉ cBl) : lexS (32 :: c :: s) q = lexS (c :: s) (q + 1) := by
  have e1 : run cBl (32 :: c :: s) = [32] := by
    rw [run_cons_in (by decide), run_cons_out h]
  have e2 : run cBl (c :: s) = [] := run_cons_out h
  unfold lexS
  rw [e1, e2]
  rfl
theorem toks_blank {c : Nat} {s : L} {q : Nat} (h : c ∉ cBl) : toks (32 :: c :: s) q = toks (c :: s) (q + 1) := by
  rw [toks_eq, toks_eq (c :: s) (q + 1), lexS_blank h]
  have hn := (lexS_nx (c :: s) (q + 1)).1
  have e : (32 :: c :: s).drop ((lexS (c :: s) (q + 1)).nx - q) = (c :: s).drop ((lexS (c :: s) (q + 1)).nx - (q + 1)) := by
    rw [show (lexS (c :: s) (q + 1)).nx - q = ((lexS (c :: s) (q + 1)).nx - (q + 1)) + 1 by omega]
    rfl
  rw [e]
/-- ab(7) and a blank -/
def blk : L := [97, 98, 40, 55, 41, 32]
def blk4 (p : Nat) : List Lex := [⟨.word, [97, 98], p⟩, ⟨.sign, [40], p + 2⟩, ⟨.num, [55], p + 3⟩, ⟨.sign, [41], p + 4⟩]
theorem toks_blk {c : Nat} {s : L} {p : Nat} (h : c ∉ cBl) : toks (blk ++ c :: s) p = blk4 p ++ toks (c :: s) (p + 6) := by
  show toks (97 :: 98 :: 40 :: 55 :: 41 :: 32 :: c :: s) p = _
  rw [toks_go (t := ⟨.word, [97, 98], p⟩) (s' := 40 :: 55 :: 41 :: 32 :: c :: s) (q := p + 2) rfl rfl rfl (by rw [show p + 2 - p = 2 by omega]; rfl)]
  rw [toks_go (t := ⟨.sign, [40], p + 2⟩) (s' := 55 :: 41 :: 32 :: c :: s) (q := p + 3) rfl rfl rfl (by rw [show p + 3 - (p + 2) = 1 by omega]; rfl)]
  rw [toks_go (t := ⟨.num, [55], p + 3⟩) (s' := 41 :: 32 :: c :: s) (q := p + 4) rfl rfl rfl (by rw [show p + 4 - (p + 3) = 1 by omega]; rfl)]
  rw [toks_go (t := ⟨.sign, [41], p + 4⟩) (s' := 32 :: c :: s) (q := p + 5) rfl rfl rfl (by rw [show p + 5 - (p + 4) = 1 by omega]; rfl)]
  rw [toks_blank h]
  rfl
def rep (n : Nat) (b : L) : L := (List.replicate n b).flatten
def blks : Nat → Nat → List Lex
  | 0, _ => []
  | n + 1, p => blk4 p ++ blks n (p + 6)
theorem rep_succ (n : Nat) (b : L) : rep (n + 1) b = b ++ rep n b := by unfold rep; rw [List.replicate_succ, List.flatten_cons]
theorem blks_len : ∀ n p, (blks n p).length = 4 * n
  | 0, _ => rfl
  | n + 1, p => by
    show (blk4 p ++ blks n (p + 6)).length = _
    rw [List.length_append, blks_len n]
    show 4 + 4 * n = _
    omega
theorem blks_live : ∀ n p, ∀ t ∈ blks n p, t.live = true
  | 0, _ => fun _ h => by cases h
  | n + 1, p => fun t h => by
    rcases List.mem_append.mp h with z | z
    · simp only [blk4, List.mem_cons, List.not_mem_nil, or_false] at z
      rcases z with rfl | rfl | rfl | rfl <;> rfl
    · exact blks_live n (p + 6) t z
theorem toks_rep {c : Nat} {s : L} (h : c ∉ cBl) : ∀ n p, toks (rep n blk ++ c :: s) p = blks n p ++ toks (c :: s) (p + 6 * n)
  | 0, p => rfl
  | n + 1, p => by
    have ih := toks_rep (s := s) h n (p + 6)
    have hd : ∃ d r, rep n blk ++ c :: s = d :: r ∧ d ∉ cBl := by
      cases n with
      | zero => exact ⟨c, s, rfl, h⟩
      | succ m =>
        rw [rep_succ]
        exact ⟨97, _, rfl, by decide⟩
    obtain ⟨d, r, e, hd⟩ := hd
    rw [rep_succ, List.append_assoc, e, toks_blk hd, ← e, ih]
    show blk4 p ++ (blks n (p + 6) ++ _) = (blk4 p ++ blks n (p + 6)) ++ _
    rw [List.append_assoc, show p + 6 + 6 * n = p + 6 * (n + 1) by omega]
theorem told_app {a : List Lex} (h : ∀ t ∈ a, t.live = true) : ∀ (acc b : List Lex), told acc (a ++ b) = told (acc ++ a) b := by
  induction a with
  | nil =>
    intro acc b
    rw [List.append_nil]
    rfl
  | cons u a ih =>
    intro acc b
    have hu := h u List.mem_cons_self
    have n1 : u.kd ≠ .fin := fun z => by unfold Lex.live at hu; rw [z] at hu; cases hu
    have n2 : u.kd ≠ .bad := fun z => by unfold Lex.live at hu; rw [z] at hu; cases hu
    rw [List.cons_append, told_go n1 n2, ih (fun t ht => h t (List.mem_cons_of_mem _ ht)), List.append_assoc]
    rfl
def one40 : L := 49 :: List.replicate 39 48
def tail1 : L := one40 ++ [44]
def tail2 : L := one40 ++ [44, 65]
def longT : L := rep 1500 blk ++ tail1
def lastN : Lex := ⟨.num, one40, 9000⟩
def lastC : Lex := ⟨.sign, [44], 9040⟩
theorem tail1_toks : toks tail1 9000 = [lastN, lastC, ⟨.fin, [], 9041⟩] := by decide +kernel
theorem tail2_toks : toks tail2 9000 = [lastN, lastC, ⟨.bad, [], 9041⟩] := by decide +kernel
theorem long_toks : tkAt longT 0 = blks 1500 0 ++ [lastN, lastC, ⟨.fin, [], 9041⟩] := by
  have h := toks_rep (c := 49) (s := List.replicate 39 48 ++ [44]) (by decide) 1500 0
  have e : toks (49 :: (List.replicate 39 48 ++ [44])) (0 + 6 * 1500) = [lastN, lastC, ⟨.fin, [], 9041⟩] := tail1_toks
  rw [e] at h
  exact h
theorem longA_toks : tkAt (longT ++ [65]) 0 = blks 1500 0 ++ [lastN, lastC, ⟨.bad, [], 9041⟩] := by
  have h := toks_rep (c := 49) (s := List.replicate 39 48 ++ [44, 65]) (by decide) 1500 0
  have e : toks (49 :: (List.replicate 39 48 ++ [44, 65])) (0 + 6 * 1500) = [lastN, lastC, ⟨.bad, [], 9041⟩] := tail2_toks
  rw [e] at h
  have e2 : longT ++ [65] = rep 1500 blk ++ 49 :: (List.replicate 39 48 ++ [44, 65]) := by
    unfold longT
    rw [List.append_assoc]
    rfl
  rw [e2]
  exact h
theorem long_told : told [] (tkAt longT 0) = .inr (blks 1500 0 ++ [lastN, lastC]) := by
  rw [long_toks, told_app (blks_live 1500 0)]
  show told (blks 1500 0) [lastN, lastC, ⟨.fin, [], 9041⟩] = _
  rw [told_go (by decide) (by decide), told_go (by decide) (by decide), told_fin rfl, List.append_assoc]
  rfl
theorem longA_told : told [] (tkAt (longT ++ [65]) 0) = .inl 9041 := by
  rw [longA_toks, told_app (blks_live 1500 0)]
  show told (blks 1500 0) [lastN, lastC, ⟨.bad, [], 9041⟩] = _
  rw [told_go (by decide) (by decide), told_go (by decide) (by decide), told_bad rfl]
theorem long_table : pTable (tkAt longT 0) = .inl 0 := by
  rw [long_toks]
  rfl
theorem rep_len (n : Nat) (b : L) : (rep n b).length = n * b.length := by
  induction n with
  | zero => simp [rep]
  | succ n ih =>
    rw [rep_succ, List.length_append, ih, Nat.succ_mul, Nat.add_comm]
theorem long_len : longT.length = 9041 := by
  unfold longT
  rw [List.length_append, rep_len]
  rfl
end Kin
namespace Kin
open PySem PySem.Spec PyProof.Rows L2 SX Evl
theorem rep_fold (b : L) : ∀ (k : Nat) (acc : Array Nat), (List.replicate k b.toArray).foldl (· ++ ·) acc = acc ++ (rep k b).toArray
  | 0, acc => by simp [rep]
  | k + 1, acc => by
    rw [List.replicate_succ, List.foldl_cons, rep_fold b k, rep_succ]
    simp
theorem mul_S (b : L) (n : Nat) (hn : 2 ≤ n) (hb : b ≠ []) : Txt.mul (S b) (n : Int) = S (rep n b) := by
  unfold Txt.mul
  rw [if_neg (by omega), if_neg ?_]
  · show (⟨(List.replicate (n : Int).toNat b.toArray).foldl (· ++ ·) #[]⟩ : Str) = ⟨(rep n b).toArray⟩
    rw [Int.toNat_natCast, rep_fold]
    simp
  · rw [Bool.or_eq_true, beq_iff_eq, beq_iff_eq, S_len]
    rintro (h | h)
    · omega
    · exact hb (List.length_eq_zero_iff.mp h)
theorem lit_blk : ("ab(7) " : Str) = S blk := by decide +kernel
theorem lit_1 : ("1" : Str) = S [49] := by decide +kernel
theorem lit_comma : ("," : Str) = S [44] := by decide +kernel
theorem lit_A : ("A" : Str) = S [65] := by decide +kernel
theorem mulOk_blk : MulOk (S blk) 1500 := by unfold MulOk; decide +kernel
theorem mulOk_0 : MulOk (S [48]) 39 := by unfold MulOk; decide +kernel
theorem rep_zero : rep 39 [48] = List.replicate 39 48 := by decide +kernel
theorem paired_last2 {α β : Type} {F : α → β → Prop} {x y : β} : ∀ {m : List β} {l : List α}, Paired F l (m ++ [x, y]) → ∃ pre a b, l = pre ++ [a, b] ∧ pre.length = m.length ∧ F a x ∧ F b y
  | [], _, .cons h (.cons k .nil) => ⟨[], _, _, rfl, rfl, h, k⟩
  | _ :: m, _, .cons h t => by
    obtain ⟨pre, a, b, e, hl, h1, h2⟩ := paired_last2 (m := m) t
    exact ⟨_ :: pre, a, b, by rw [e]; rfl, by simp [hl], h1, h2⟩
theorem cut_last2 (pre : List Addr) (a b : Addr) (h : pre.length = 6000) : cutV ((pre ++ [a, b]).map V.ref) (some (-2)) none = [.ref a, .ref b] := by
  have hl : ((pre ++ [a, b]).map V.ref).length = 6002 := by
    rw [List.length_map, List.length_append, h]
    rfl
  unfold cutV
  rw [hl]
  show (((pre ++ [a, b]).map V.ref).drop 6000).take 2 = _
  rw [List.map_append, List.drop_append_of_le_length (by rw [List.length_map, h]; exact Nat.le_refl _), List.drop_of_length_le (by rw [List.length_map, h]; exact Nat.le_refl _)]
  rfl
def lastD : PyData := .list [lexD lastN, lexD lastC]
theorem last_shaped : SeqAt.shaped lastD = true := by decide +kernel
theorem last_eqv : (!PyData.eqv lastD lastD) = false := by decide +kernel
def refD : PyData := .list [.str "refused", .int 9041]
theorem ref_shaped : SeqAt.shaped refD = true := by decide +kernel
theorem ref_eqv : PyData.eqv refD refD = true := by decide +kernel
def zeroD : PyData := .list [.int 0]
theorem zero_shaped : SeqAt.shaped zeroD = true := by decide +kernel
theorem zero_eqv : PyData.eqv zeroD zeroD = true := by decide +kernel
theorem lit_num : ("number" : Str) = "number" := rfl
def spLongRight : Sp := fun vs H Q _ => vs = [] ∧ ∀ H', Ex H H' → Q (.bl true) H'
section
variable {w : World} {K : PySem.W.Frag} {mg : Str → Option Value} {base : Heap} {B : Addr}
theorem scLongRight : FnScope ["_law_text", "_law_told_here"] [] (C8.fnScope sLongRight) := C8.fnScope_by (by decide +kernel)
theorem ok_longRight {f : Addr} {fd : FuncData} (T : Glob mg) (F : C8.Def K mg "_law_long_right" sLongRight f fd) (b : Binds K fd [] []) (cL : CalX prg w K mg base 3 "lexemes" (spLexemes B)) (cLT : C8.Cal prg w K mg base 4 "_law_lexemes_told" spLexTold [])
    (cT : C8.Cal prg w K mg base 9 "_law_told" spTold []) : C8.Cal prg w K mg base 10 "_law_long_right" spLongRight [] := by
  refine C8.cal0 F b .nil scLongRight (fun vs H Q E h => ?_) (fun cdv A outer s H vs Q E hr h => ?_)
  · obtain ⟨rfl, _⟩ := h
    rfl
  · obtain ⟨rfl, q⟩ := h
    refine ⟨_, pss_cons (ps_set (i := 0) scLongRight.nd rfl (Or.inl rfl) (pe_op op_add_str (pe_op op_add_str (pe_op op_add_str (pe_op op_smul (pe_str) (pe_int)) (pe_str)) (pe_op op_smul (pe_str) (pe_int))) (pe_str)))
      (pss_cons (ps_set (i := 1) scLongRight.nd rfl (Or.inl rfl) (pe_cx cL takes_none5 hr (by decide) (by rfl) (pa_cons (pv 0) pa_nil)))
      (pss_cons (ps_if (PW.pt (pw_or (pt_cmpR op_ne (pe_callB call_len_seq (by rfl) T.len PySem.boot_len (pa_cons (pv 1) pa_nil)) (pe_int) (nomark _)) (pw_or1 (pt_cmpR (op_neD (hu64 hr)) (pe_slice sl_list (pv 1) (po_some (pe_un un_neg (pe_int))) po_none) (pe_lst (pa_cons (pe_tup (pa_cons (pe_str) (pa_cons (pe_op op_add_str (pe_str) (pe_op op_smul (pe_str) (pe_int))) (pa_cons (pe_int) pa_nil)))) (pa_cons (pe_tup (pa_cons (pe_str) (pa_cons (pe_str) (pa_cons (pe_int) pa_nil)))) pa_nil))) (nomark _))))) (pss_one (ps_ret (pe_bl))) pss_nil)
      (pss_one (ps_ret (pe_and (pe_cmpR (op_eqD (hu64 hr)) (C8.pe_c cLT hr (by decide) (by rfl) (pa_cons (pe_op op_add_str (pv 0) (pe_str)) pa_nil)) (pe_lst (pa_cons (pe_str) (pa_cons (pe_int) pa_nil))) (nomark _)) (pe_one (pe_cmpR (op_eqD (hu64 hr)) (C8.pe_c cT hr (by decide) (by rfl) (pa_cons (pv 0) pa_nil)) (pe_lst (pa_cons (pe_int) pa_nil)) (nomark _)))))))), ?_⟩
    have l1 := long_len
    have e39 : Txt.mul (S [48]) (39 : Int) = S (List.replicate 39 48) := by rw [← rep_zero]; exact mul_S [48] 39 (by decide) (by decide)
    have e15 : Txt.mul "ab(7) " (1500 : Int) = S (rep 1500 blk) := by rw [lit_blk]; exact mul_S blk 1500 (by decide) (by decide)
    have e39 : Txt.mul "0" (39 : Int) = S (List.replicate 39 48) := by rw [lit_zero]; exact e39
    have sz : ∀ {x y : L}, x.length + y.length ≤ 100000 → (S x).length + (S y).length ≤ sizeLine := fun {x y} h => by rw [S_len, S_len]; exact Nat.le_trans h (by decide)
    have lr : (rep 1500 blk).length = 9000 := rep_len 1500 blk
    refine ⟨_, _, rfl, rfl, by rw [lit_blk]; exact mulOk_blk, ?_⟩
    rw [e15, lit_1]
    refine ⟨_, _, rfl, rfl, sz (by rw [lr]; decide), _, _, rfl, rfl, by rw [lit_zero]; exact mulOk_0, ?_⟩
    rw [e39, S_cat]
    refine ⟨_, _, rfl, rfl, sz (by rw [List.length_append, lr]; decide), ?_⟩
    rw [S_cat, lit_comma]
    refine ⟨_, _, rfl, rfl, sz (by rw [List.length_append, List.length_append, lr]; decide), ?_⟩
    rw [S_cat]
    have eT : rep 1500 blk ++ [49] ++ List.replicate 39 48 ++ [44] = longT := by
      unfold longT tail1 one40
      simp only [List.append_assoc, List.cons_append, List.nil_append]
    rw [eT]
    -- lexemes
    refine ⟨_, rfl, longT, rfl, by rw [l1]; decide, ?_⟩
    rw [long_told]
    refine fun fa as H1 hfa x1 kf kt => ?_
    have hlas : as.length = 6002 := by
      rw [Paired.length kt, List.length_append, blks_len]
      rfl
    -- len(told_here) != 6002
    refine ⟨_, rfl, fa, _, rfl, .inl (SqL.of kf), rfl, _, rfl, ?_⟩
    rw [List.length_map, hlas]
    refine iteB (c := false) (by decide) (fun z => by cases z) (fun _ => ?_)
    -- told_here[-2:]
    obtain ⟨pre, a, b, rfl, hpre, ka, kb⟩ := paired_last2 kt
    rw [blks_len] at hpre
    refine ⟨_, rfl, _, rfl, _, rfl, fa, _, rfl, SqL.of kf, fun p hp => ?_⟩
    rw [cut_last2 pre a b hpre]
    have y1 := Ex.new (o := .lst [.ref a, .ref b]) hp
    have ka1 := y1 _ _ ka
    have kb1 := y1 _ _ kb
    have kp1 : upd H1 p (.lst [.ref a, .ref b]) p = some (.lst [.ref a, .ref b]) := upd_same
    have x2 := x1.trans y1
    generalize upd H1 p (.lst [.ref a, .ref b]) = H2 at ka1 kb1 kp1 x2 ⊢
    refine ⟨_, _, rfl, rfl, by rw [lit_zero]; exact mulOk_0, ?_⟩
    rw [e39]
    refine ⟨_, _, rfl, rfl, sz (by decide), ?_⟩
    rw [S_cat]
    refine ⟨(by show 3 ≤ sizeLine; decide), fun t1 ht1 => ?_⟩
    have y2 := Ex.new (o := .tup [.str "number", .str (S ([49] ++ List.replicate 39 48)), .int 9000]) ht1
    have kt1 : upd H2 t1 (.tup [.str "number", .str (S ([49] ++ List.replicate 39 48)), .int 9000]) t1 = some (.tup (encP lastN)) := upd_same
    have ka2 := y2 _ _ ka1
    have kb2 := y2 _ _ kb1
    have kp2 := y2 _ _ kp1
    have x3 := x2.trans y2
    generalize upd H2 t1 (.tup [.str "number", .str (S ([49] ++ List.replicate 39 48)), .int 9000]) = H3 at kt1 ka2 kb2 kp2 x3 ⊢
    refine ⟨(by show 3 ≤ sizeLine; decide), fun t2 ht2 => ?_⟩
    have y3 := Ex.new (o := .tup [.str "sign", .str (S [44]), .int 9040]) ht2
    have kt2 : upd H3 t2 (.tup [.str "sign", .str (S [44]), .int 9040]) t2 = some (.tup (encP lastC)) := upd_same
    have kt1 := y3 _ _ kt1
    have ka3 := y3 _ _ ka2
    have kb3 := y3 _ _ kb2
    have kp3 := y3 _ _ kp2
    have x4 := x3.trans y3
    generalize upd H3 t2 (.tup [.str "sign", .str (S [44]), .int 9040]) = H4 at kt1 kt2 ka3 kb3 kp3 x4 ⊢
    refine ⟨(by show 2 ≤ sizeLine; decide), fun t3 ht3 => ?_⟩
    have y4 := Ex.new (o := .lst [.ref t1, .ref t2]) ht3
    refine ⟨_, _, .lst (SqL.of (y4 _ _ kp3)) (.cons (lex_dp (y4 _ _ ka3)) (.cons (lex_dp (y4 _ _ kb3)) .nil)), .lst (SqL.of upd_same) (.cons (lex_dp (t := lastN) (y4 _ _ kt1)) (.cons (lex_dp (t := lastC) (y4 _ _ kt2)) .nil)), last_shaped, last_shaped, _, rfl, ?_⟩
    have x5 := x4.trans y4
    generalize upd H4 t3 (.lst [.ref t1, .ref t2]) = H5 at x5 ⊢
    refine iteB (c := false) last_eqv (fun z => by cases z) (fun _ => ?_)
    -- the two others
    refine ⟨_, rfl, _, _, rfl, rfl, by rw [lit_A]; exact sz (by rw [l1]; decide), ?_⟩
    rw [lit_A, S_cat]
    refine ⟨longT ++ [65], rfl, by rw [List.length_append, l1]; decide, ?_⟩
    rw [longA_told]
    refine fun u H6 hu x6 ku => ?_
    refine ⟨(by show 2 ≤ sizeLine; decide), fun v hv => ?_⟩
    have y6 := Ex.new (o := .lst [.str "refused", .int 9041]) hv
    refine ⟨_, _, refused_dp (y6 _ _ ku), refused_dp (p := 9041) upd_same, ref_shaped, ref_shaped, _, rfl, ?_⟩
    have x7 := (x5.trans x6).trans y6
    generalize upd H6 v (.lst [.str "refused", .int 9041]) = H7 at x7 ⊢
    refine iteB (c := true) ref_eqv (fun _ => ?_) (fun z => by cases z)
    refine ⟨_, rfl, longT, rfl, by rw [l1]; decide, fun z H8 hz x8 kz => ?_⟩
    rw [long_table] at kz
    refine ⟨(by show 1 ≤ sizeLine; decide), fun z2 hz2 => ?_⟩
    have y8 := Ex.new (o := .lst [.int 0]) hz2
    refine ⟨_, _, wp_dp (g := some 0) (y8 _ _ kz), wp_dp (g := some 0) upd_same, zero_shaped, zero_shaped, ?_⟩
    rw [show PyData.eqv (wpD (some 0)) (wpD (some 0)) = true from zero_eqv]
    exact q _ ((x7.trans x8).trans y8)
end
end Kin
namespace Kin
open PySem PySem.Spec PyProof.Rows L2 SX Evl
/-- a text with a place, as a tuple -/
def TPs (H : Hp) (as : List Addr) (hs : List (L × Nat)) : Prop := Paired (fun a h => H a = some (.tup [.str (S h.1), .int (h.2 : Int)])) as hs
theorem TPs.ex {H H' : Hp} {as : List Addr} {hs : List (L × Nat)} (h : TPs H as hs) (x : Ex H H') : TPs H' as hs := Paired.mapQ h fun a t e => x a _ e
theorem TPs.app {H : Hp} {as bs : List Addr} {hs gs : List (L × Nat)} (a : TPs H as hs) (b : TPs H bs gs) : TPs H (as ++ bs) (hs ++ gs) := paired_app a b
theorem Tups.app {H : Hp} {as bs : List Addr} {hs gs : List Lex} (a : Tups H as hs) (b : Tups H bs gs) : Tups H (as ++ bs) (hs ++ gs) := paired_app a b
def hand0 : List (L × Nat) := [([116, 97, 98, 108, 101, 32, 91, 32, 97], 6), ([116, 97, 98, 108, 101, 32, 40, 97, 46], 8), ([115, 116, 97, 98, 108, 101, 32, 91], 0), ([], 0), ([32, 32, 32], 3), ([116, 97, 98, 108, 101, 32, 40, 97, 32, 32, 10], 11)]
theorem hw0_0 : ([.str "table [ a", .int 6] : List V) = [.str (S [116, 97, 98, 108, 101, 32, 91, 32, 97]), .int ((6 : Nat) : Int)] := by decide +kernel
theorem hw0_1 : ([.str "table (a.", .int 8] : List V) = [.str (S [116, 97, 98, 108, 101, 32, 40, 97, 46]), .int ((8 : Nat) : Int)] := by decide +kernel
theorem hw0_2 : ([.str "stable [", .int 0] : List V) = [.str (S [115, 116, 97, 98, 108, 101, 32, 91]), .int ((0 : Nat) : Int)] := by decide +kernel
theorem hw0_3 : ([.str "", .int 0] : List V) = [.str (S []), .int ((0 : Nat) : Int)] := by decide +kernel
theorem hw0_4 : ([.str "   ", .int 3] : List V) = [.str (S [32, 32, 32]), .int ((3 : Nat) : Int)] := by decide +kernel
theorem hw0_5 : ([.str "table (a  \n", .int 11] : List V) = [.str (S [116, 97, 98, 108, 101, 32, 40, 97, 32, 32, 10]), .int ((11 : Nat) : Int)] := by decide +kernel
def hand1 : List (L × Nat) := [([116, 97, 98, 108, 101, 32, 40, 97, 41, 32, 40, 120, 41, 32, 123, 32, 97, 32, 120, 32, 125, 32, 91], 20), ([102, 111, 111, 32, 91], 0), ([116, 97, 98, 108, 101, 32, 97, 98, 99, 100, 101, 102, 103, 104, 105, 106, 107, 108, 109], 6), ([116, 97, 98, 108, 101, 9, 40, 97, 41], 5)]
theorem hw1_0 : ([.str "table (a) (x) { a x } [", .int 20] : List V) = [.str (S [116, 97, 98, 108, 101, 32, 40, 97, 41, 32, 40, 120, 41, 32, 123, 32, 97, 32, 120, 32, 125, 32, 91]), .int ((20 : Nat) : Int)] := by decide +kernel
theorem hw1_1 : ([.str "foo [", .int 0] : List V) = [.str (S [102, 111, 111, 32, 91]), .int ((0 : Nat) : Int)] := by decide +kernel
theorem hw1_2 : ([.str "table abcdefghijklm", .int 6] : List V) = [.str (S [116, 97, 98, 108, 101, 32, 97, 98, 99, 100, 101, 102, 103, 104, 105, 106, 107, 108, 109]), .int ((6 : Nat) : Int)] := by decide +kernel
theorem hw1_3 : ([.str "table\t(a)", .int 5] : List V) = [.str (S [116, 97, 98, 108, 101, 9, 40, 97, 41]), .int ((5 : Nat) : Int)] := by decide +kernel
def hand2 : List (L × Nat) := [([116, 97, 98, 108, 101, 32, 40, 97, 44, 41, 32, 40, 120, 41, 32, 123, 125], 9), ([116, 97, 98, 108, 101, 32, 40, 97, 32, 98, 41], 9), ([116, 97, 98, 108, 101, 32, 40, 41, 32, 40, 41, 32, 123, 125, 32, 116, 97, 98, 108, 101], 15), ([116, 97, 98, 108, 101, 32, 40, 41, 32, 40, 41, 32, 123, 125, 59], 14)]
theorem hw2_0 : ([.str "table (a,) (x) {}", .int 9] : List V) = [.str (S [116, 97, 98, 108, 101, 32, 40, 97, 44, 41, 32, 40, 120, 41, 32, 123, 125]), .int ((9 : Nat) : Int)] := by decide +kernel
theorem hw2_1 : ([.str "table (a b)", .int 9] : List V) = [.str (S [116, 97, 98, 108, 101, 32, 40, 97, 32, 98, 41]), .int ((9 : Nat) : Int)] := by decide +kernel
theorem hw2_2 : ([.str "table () () {} table", .int 15] : List V) = [.str (S [116, 97, 98, 108, 101, 32, 40, 41, 32, 40, 41, 32, 123, 125, 32, 116, 97, 98, 108, 101]), .int ((15 : Nat) : Int)] := by decide +kernel
theorem hw2_3 : ([.str "table () () {};", .int 14] : List V) = [.str (S [116, 97, 98, 108, 101, 32, 40, 41, 32, 40, 41, 32, 123, 125, 59]), .int ((14 : Nat) : Int)] := by decide +kernel
def hand3 : List (L × Nat) := [([116, 97, 98, 108, 101, 32, 40, 97, 41, 32, 40, 120, 41, 32, 123, 97, 32, 120, 32, 121, 59, 125], 19), ([116, 97, 98, 108, 101, 32, 40, 48, 41, 32, 40, 41, 32, 123, 125], 7), ([116, 97, 98, 108, 101, 32, 40, 41, 32, 40, 41, 32, 123, 97, 59, 125], 14), ([116, 97, 98, 108, 101, 97], 0)]
theorem hw3_0 : ([.str "table (a) (x) {a x y;}", .int 19] : List V) = [.str (S [116, 97, 98, 108, 101, 32, 40, 97, 41, 32, 40, 120, 41, 32, 123, 97, 32, 120, 32, 121, 59, 125]), .int ((19 : Nat) : Int)] := by decide +kernel
theorem hw3_1 : ([.str "table (0) () {}", .int 7] : List V) = [.str (S [116, 97, 98, 108, 101, 32, 40, 48, 41, 32, 40, 41, 32, 123, 125]), .int ((7 : Nat) : Int)] := by decide +kernel
theorem hw3_2 : ([.str "table () () {a;}", .int 14] : List V) = [.str (S [116, 97, 98, 108, 101, 32, 40, 41, 32, 40, 41, 32, 123, 97, 59, 125]), .int ((14 : Nat) : Int)] := by decide +kernel
theorem hw3_3 : ([.str "tablea", .int 0] : List V) = [.str (S [116, 97, 98, 108, 101, 97]), .int ((0 : Nat) : Int)] := by decide +kernel
def hand4 : List (L × Nat) := [([84, 97, 98, 108, 101], 0)]
theorem hw4_0 : ([.str "Table", .int 0] : List V) = [.str (S [84, 97, 98, 108, 101]), .int ((0 : Nat) : Int)] := by decide +kernel
def dueA : List Lex := [⟨.num, [49, 50], 0⟩, ⟨.word, [97, 98], 2⟩, ⟨.num, [48], 5⟩, ⟨.num, [48], 6⟩, ⟨.num, [55], 7⟩]
theorem dueA_0 : ([.str "number", .str "12", .int 0] : List V) = encP ⟨.num, [49, 50], 0⟩ := by decide +kernel
theorem dueA_1 : ([.str "word", .str "ab", .int 2] : List V) = encP ⟨.word, [97, 98], 2⟩ := by decide +kernel
theorem dueA_2 : ([.str "number", .str "0", .int 5] : List V) = encP ⟨.num, [48], 5⟩ := by decide +kernel
theorem dueA_3 : ([.str "number", .str "0", .int 6] : List V) = encP ⟨.num, [48], 6⟩ := by decide +kernel
theorem dueA_4 : ([.str "number", .str "7", .int 7] : List V) = encP ⟨.num, [55], 7⟩ := by decide +kernel
def dueB : List Lex := [⟨.word, [120, 48], 9⟩, ⟨.sign, [40], 11⟩, ⟨.sign, [44], 12⟩]
theorem dueB_0 : ([.str "word", .str "x0", .int 9] : List V) = encP ⟨.word, [120, 48], 9⟩ := by decide +kernel
theorem dueB_1 : ([.str "sign", .str "(", .int 11] : List V) = encP ⟨.sign, [40], 11⟩ := by decide +kernel
theorem dueB_2 : ([.str "sign", .str ",", .int 12] : List V) = encP ⟨.sign, [44], 12⟩ := by decide +kernel
def hands : List (L × Nat) := ((((hand0 ++ hand1) ++ hand2) ++ hand3) ++ hand4)
theorem hands_ok : ∀ h ∈ hands, err (pTable (tkAt h.1 0)) = some h.2 ∧ h.1.length ≤ 100 := by decide +kernel
def handT : L := [49, 50, 97, 98, 32, 48, 48, 55, 32, 120, 48, 40, 44]
theorem lit_handT : ("12ab 007 x0(," : Str) = S handT := by decide +kernel
theorem handT_told : told [] (tkAt handT 0) = .inr (dueA ++ dueB) := by decide +kernel
def dueD : PyData := .list ((dueA ++ dueB).map lexD)
theorem due_shaped : SeqAt.shaped dueD = true := by decide +kernel
theorem due_eqv : PyData.eqv dueD dueD = true := by decide +kernel
theorem err_inl {α : Type} {x : R α} {p : Nat} (h : err x = some p) : x = .inl p := by
  cases x with
  | inl e => exact congrArg Sum.inl (Option.some.inj h)
  | inr a => cases h
def spHandRight : Sp := fun vs H Q _ => ∃ r : Addr, vs = [.ref r] ∧ RulesAt H r ∧ ∀ H', Ex H H' → Q (.bl true) H'
section
variable {w : World} {K : PySem.W.Frag} {mg : Str → Option Value} {base : Heap} {B : Addr}
theorem scHandRight : FnScope ["_law_rules_here", "_law_some", "_law_text", "_law_place", "_law_told_here", "_law_due"] ["_law_rules_here"] (C8.fnScope sHandRight) := C8.fnScope_by (by decide +kernel)
theorem ok_handRight {f : Addr} {fd : FuncData} (T : Glob mg) (F : C8.Def K mg "_law_hand_right" sHandRight f fd) (b : Binds K fd ["_law_rules_here"] []) (cT : C8.Cal prg w K mg base 9 "_law_told" spTold []) (cTR : CalG prg w K mg base 10 "_law_text_right" spTextRight)
    (cL : CalX prg w K mg base 3 "lexemes" (spLexemes B)) : CalG prg w K mg base 11 "_law_hand_right" spHandRight := by
  refine calG0 F b scHandRight (fun vs H Q E h => ?_) (fun cdv A outer s H vs Q E gd hr h => ?_)
  · obtain ⟨r, rfl, _⟩ := h
    rfl
  · obtain ⟨r, rfl, hR, q⟩ := h
    refine ⟨_, pss_cons (ps_set (i := 1) scHandRight.nd rfl (Or.inl rfl) (pe_lst (pa_cons (pe_tup (pa_cons (pe_str) (pa_cons (pe_int) pa_nil))) (pa_cons (pe_tup (pa_cons (pe_str) (pa_cons (pe_int) pa_nil))) (pa_cons (pe_tup (pa_cons (pe_str) (pa_cons (pe_int) pa_nil))) (pa_cons (pe_tup (pa_cons (pe_str) (pa_cons (pe_int) pa_nil))) (pa_cons (pe_tup (pa_cons (pe_str) (pa_cons (pe_int) pa_nil))) (pa_cons (pe_tup (pa_cons (pe_str) (pa_cons (pe_int) pa_nil))) pa_nil))))))))
      (pss_cons (ps_set (i := 1) scHandRight.nd rfl (Or.inl rfl) (pe_op op_cat (pv 1) (pe_lst (pa_cons (pe_tup (pa_cons (pe_str) (pa_cons (pe_int) pa_nil))) (pa_cons (pe_tup (pa_cons (pe_str) (pa_cons (pe_int) pa_nil))) (pa_cons (pe_tup (pa_cons (pe_str) (pa_cons (pe_int) pa_nil))) (pa_cons (pe_tup (pa_cons (pe_str) (pa_cons (pe_int) pa_nil))) pa_nil)))))))
      (pss_cons (ps_set (i := 1) scHandRight.nd rfl (Or.inl rfl) (pe_op op_cat (pv 1) (pe_lst (pa_cons (pe_tup (pa_cons (pe_str) (pa_cons (pe_int) pa_nil))) (pa_cons (pe_tup (pa_cons (pe_str) (pa_cons (pe_int) pa_nil))) (pa_cons (pe_tup (pa_cons (pe_str) (pa_cons (pe_int) pa_nil))) (pa_cons (pe_tup (pa_cons (pe_str) (pa_cons (pe_int) pa_nil))) pa_nil)))))))
      (pss_cons (ps_set (i := 1) scHandRight.nd rfl (Or.inl rfl) (pe_op op_cat (pv 1) (pe_lst (pa_cons (pe_tup (pa_cons (pe_str) (pa_cons (pe_int) pa_nil))) (pa_cons (pe_tup (pa_cons (pe_str) (pa_cons (pe_int) pa_nil))) (pa_cons (pe_tup (pa_cons (pe_str) (pa_cons (pe_int) pa_nil))) (pa_cons (pe_tup (pa_cons (pe_str) (pa_cons (pe_int) pa_nil))) pa_nil)))))))
      (pss_cons (ps_for PassesOwn.never rfl (pi_list (pe_op op_cat (pv 1) (pe_lst (pa_cons (pe_tup (pa_cons (pe_str) (pa_cons (pe_int) pa_nil))) pa_nil)))) (pg_tup (by rfl) (pgs_cons (pg_name (i := 2) scHandRight.nd rfl (Or.inl rfl)) (pgs_cons (pg_name (i := 3) scHandRight.nd rfl (Or.inl rfl)) pgs_nil))) (pss_one (ps_if (PW.pt (pw_or (pt_cmpR (op_neD (hu64 hr)) (C8.pe_c cT hr (by decide) (by rfl) (pa_cons (pv 2) pa_nil)) (pe_lst (pa_cons (pv 3) pa_nil)) (nomark _)) (pw_or1 (pt_not (pt_val (pe_cg cTR gd hr (by decide) (by rfl) (pa_cons (pv 0) (pa_cons (pv 2) pa_nil)))))))) (pss_one (ps_ret (pe_bl))) pss_nil)))
      (pss_cons (ps_set (i := 4) scHandRight.nd rfl (Or.inl rfl) (pe_cx cL takes_none5 hr (by decide) (by rfl) (pa_cons (pe_str) pa_nil)))
      (pss_cons (ps_set (i := 5) scHandRight.nd rfl (Or.inl rfl) (pe_lst (pa_cons (pe_tup (pa_cons (pe_str) (pa_cons (pe_str) (pa_cons (pe_int) pa_nil)))) (pa_cons (pe_tup (pa_cons (pe_str) (pa_cons (pe_str) (pa_cons (pe_int) pa_nil)))) (pa_cons (pe_tup (pa_cons (pe_str) (pa_cons (pe_str) (pa_cons (pe_int) pa_nil)))) (pa_cons (pe_tup (pa_cons (pe_str) (pa_cons (pe_str) (pa_cons (pe_int) pa_nil)))) (pa_cons (pe_tup (pa_cons (pe_str) (pa_cons (pe_str) (pa_cons (pe_int) pa_nil)))) pa_nil)))))))
      (pss_one (ps_ret (pe_cmpR (op_eqD (hu64 hr)) (pv 4) (pe_op op_cat (pv 5) (pe_lst (pa_cons (pe_tup (pa_cons (pe_str) (pa_cons (pe_str) (pa_cons (pe_int) pa_nil)))) (pa_cons (pe_tup (pa_cons (pe_str) (pa_cons (pe_str) (pa_cons (pe_int) pa_nil)))) (pa_cons (pe_tup (pa_cons (pe_str) (pa_cons (pe_str) (pa_cons (pe_int) pa_nil)))) pa_nil))))) (nomark _)))))))))), ?_⟩
    have sz2 : ∀ y z : V, [y, z].length ≤ sizeLine := fun _ _ => by show 2 ≤ sizeLine; decide
    have sz3 : ∀ y z u : V, [y, z, u].length ≤ sizeLine := fun _ _ _ => by show 3 ≤ sizeLine; decide
    have x0 : Ex H H := Ex.refl H
    -- list 0
    have P0 : TPs H [] [] := .nil
    refine ⟨sz2 _ _, fun t0_0 ht0_0 => ?_⟩
    have y := Ex.new (o := .tup [.str "table [ a", .int 6]) ht0_0
    have kn : upd H t0_0 (.tup [.str "table [ a", .int 6]) t0_0 = some (.tup [.str (S [116, 97, 98, 108, 101, 32, 91, 32, 97]), .int ((6 : Nat) : Int)]) := by rw [upd_same, hw0_0]
    have P0 : TPs _ [t0_0] [([116, 97, 98, 108, 101, 32, 91, 32, 97], 6)] := Paired.snoc (P0.ex y) kn
    have x1 := x0.trans y
    clear y kn
    generalize upd H t0_0 (.tup [.str "table [ a", .int 6]) = H1 at x1 P0 ⊢
    refine ⟨sz2 _ _, fun t0_1 ht0_1 => ?_⟩
    have y := Ex.new (o := .tup [.str "table (a.", .int 8]) ht0_1
    have kn : upd H1 t0_1 (.tup [.str "table (a.", .int 8]) t0_1 = some (.tup [.str (S [116, 97, 98, 108, 101, 32, 40, 97, 46]), .int ((8 : Nat) : Int)]) := by rw [upd_same, hw0_1]
    have P0 : TPs _ [t0_0, t0_1] [([116, 97, 98, 108, 101, 32, 91, 32, 97], 6), ([116, 97, 98, 108, 101, 32, 40, 97, 46], 8)] := Paired.snoc (P0.ex y) kn
    have x2 := x1.trans y
    clear y kn
    generalize upd H1 t0_1 (.tup [.str "table (a.", .int 8]) = H2 at x2 P0 ⊢
    refine ⟨sz2 _ _, fun t0_2 ht0_2 => ?_⟩
    have y := Ex.new (o := .tup [.str "stable [", .int 0]) ht0_2
    have kn : upd H2 t0_2 (.tup [.str "stable [", .int 0]) t0_2 = some (.tup [.str (S [115, 116, 97, 98, 108, 101, 32, 91]), .int ((0 : Nat) : Int)]) := by rw [upd_same, hw0_2]
    have P0 : TPs _ [t0_0, t0_1, t0_2] [([116, 97, 98, 108, 101, 32, 91, 32, 97], 6), ([116, 97, 98, 108, 101, 32, 40, 97, 46], 8), ([115, 116, 97, 98, 108, 101, 32, 91], 0)] := Paired.snoc (P0.ex y) kn
    have x3 := x2.trans y
    clear y kn
    generalize upd H2 t0_2 (.tup [.str "stable [", .int 0]) = H3 at x3 P0 ⊢
    refine ⟨sz2 _ _, fun t0_3 ht0_3 => ?_⟩
    have y := Ex.new (o := .tup [.str "", .int 0]) ht0_3
    have kn : upd H3 t0_3 (.tup [.str "", .int 0]) t0_3 = some (.tup [.str (S []), .int ((0 : Nat) : Int)]) := by rw [upd_same, hw0_3]
    have P0 : TPs _ [t0_0, t0_1, t0_2, t0_3] [([116, 97, 98, 108, 101, 32, 91, 32, 97], 6), ([116, 97, 98, 108, 101, 32, 40, 97, 46], 8), ([115, 116, 97, 98, 108, 101, 32, 91], 0), ([], 0)] := Paired.snoc (P0.ex y) kn
    have x4 := x3.trans y
    clear y kn
    generalize upd H3 t0_3 (.tup [.str "", .int 0]) = H4 at x4 P0 ⊢
    refine ⟨sz2 _ _, fun t0_4 ht0_4 => ?_⟩
    have y := Ex.new (o := .tup [.str "   ", .int 3]) ht0_4
    have kn : upd H4 t0_4 (.tup [.str "   ", .int 3]) t0_4 = some (.tup [.str (S [32, 32, 32]), .int ((3 : Nat) : Int)]) := by rw [upd_same, hw0_4]
    have P0 : TPs _ [t0_0, t0_1, t0_2, t0_3, t0_4] [([116, 97, 98, 108, 101, 32, 91, 32, 97], 6), ([116, 97, 98, 108, 101, 32, 40, 97, 46], 8), ([115, 116, 97, 98, 108, 101, 32, 91], 0), ([], 0), ([32, 32, 32], 3)] := Paired.snoc (P0.ex y) kn
    have x5 := x4.trans y
    clear y kn
    generalize upd H4 t0_4 (.tup [.str "   ", .int 3]) = H5 at x5 P0 ⊢
    refine ⟨sz2 _ _, fun t0_5 ht0_5 => ?_⟩
    have y := Ex.new (o := .tup [.str "table (a  \n", .int 11]) ht0_5
    have kn : upd H5 t0_5 (.tup [.str "table (a  \n", .int 11]) t0_5 = some (.tup [.str (S [116, 97, 98, 108, 101, 32, 40, 97, 32, 32, 10]), .int ((11 : Nat) : Int)]) := by rw [upd_same, hw0_5]
    have P0 : TPs _ [t0_0, t0_1, t0_2, t0_3, t0_4, t0_5] [([116, 97, 98, 108, 101, 32, 91, 32, 97], 6), ([116, 97, 98, 108, 101, 32, 40, 97, 46], 8), ([115, 116, 97, 98, 108, 101, 32, 91], 0), ([], 0), ([32, 32, 32], 3), ([116, 97, 98, 108, 101, 32, 40, 97, 32, 32, 10], 11)] := Paired.snoc (P0.ex y) kn
    have x6 := x5.trans y
    clear y kn
    generalize upd H5 t0_5 (.tup [.str "table (a  \n", .int 11]) = H6 at x6 P0 ⊢
    refine ⟨(by show 6 ≤ sizeLine; decide), fun l0 hl0 => ?_⟩
    have y := Ex.new (o := .lst [.ref t0_0, .ref t0_1, .ref t0_2, .ref t0_3, .ref t0_4, .ref t0_5]) hl0
    have kl0 : upd H6 l0 (.lst [.ref t0_0, .ref t0_1, .ref t0_2, .ref t0_3, .ref t0_4, .ref t0_5]) l0 = some (.lst [.ref t0_0, .ref t0_1, .ref t0_2, .ref t0_3, .ref t0_4, .ref t0_5]) := upd_same
    have P0 := P0.ex y
    have x7 := x6.trans y
    clear y
    generalize upd H6 l0 (.lst [.ref t0_0, .ref t0_1, .ref t0_2, .ref t0_3, .ref t0_4, .ref t0_5]) = H7 at x7 P0 kl0 ⊢
    -- list 1
    refine ⟨_, rfl, ?_⟩
    have P1 : TPs H7 [] [] := .nil
    refine ⟨sz2 _ _, fun t1_0 ht1_0 => ?_⟩
    have y := Ex.new (o := .tup [.str "table (a) (x) { a x } [", .int 20]) ht1_0
    have kn : upd H7 t1_0 (.tup [.str "table (a) (x) { a x } [", .int 20]) t1_0 = some (.tup [.str (S [116, 97, 98, 108, 101, 32, 40, 97, 41, 32, 40, 120, 41, 32, 123, 32, 97, 32, 120, 32, 125, 32, 91]), .int ((20 : Nat) : Int)]) := by rw [upd_same, hw1_0]
    have P1 : TPs _ [t1_0] [([116, 97, 98, 108, 101, 32, 40, 97, 41, 32, 40, 120, 41, 32, 123, 32, 97, 32, 120, 32, 125, 32, 91], 20)] := Paired.snoc (P1.ex y) kn
    have P0 := P0.ex y
    have kl0 := y _ _ kl0
    have x8 := x7.trans y
    clear y kn
    generalize upd H7 t1_0 (.tup [.str "table (a) (x) { a x } [", .int 20]) = H8 at x8 P1 P0 kl0 ⊢
    refine ⟨sz2 _ _, fun t1_1 ht1_1 => ?_⟩
    have y := Ex.new (o := .tup [.str "foo [", .int 0]) ht1_1
    have kn : upd H8 t1_1 (.tup [.str "foo [", .int 0]) t1_1 = some (.tup [.str (S [102, 111, 111, 32, 91]), .int ((0 : Nat) : Int)]) := by rw [upd_same, hw1_1]
    have P1 : TPs _ [t1_0, t1_1] [([116, 97, 98, 108, 101, 32, 40, 97, 41, 32, 40, 120, 41, 32, 123, 32, 97, 32, 120, 32, 125, 32, 91], 20), ([102, 111, 111, 32, 91], 0)] := Paired.snoc (P1.ex y) kn
    have P0 := P0.ex y
    have kl0 := y _ _ kl0
    have x9 := x8.trans y
    clear y kn
    generalize upd H8 t1_1 (.tup [.str "foo [", .int 0]) = H9 at x9 P1 P0 kl0 ⊢
    refine ⟨sz2 _ _, fun t1_2 ht1_2 => ?_⟩
    have y := Ex.new (o := .tup [.str "table abcdefghijklm", .int 6]) ht1_2
    have kn : upd H9 t1_2 (.tup [.str "table abcdefghijklm", .int 6]) t1_2 = some (.tup [.str (S [116, 97, 98, 108, 101, 32, 97, 98, 99, 100, 101, 102, 103, 104, 105, 106, 107, 108, 109]), .int ((6 : Nat) : Int)]) := by rw [upd_same, hw1_2]
    have P1 : TPs _ [t1_0, t1_1, t1_2] [([116, 97, 98, 108, 101, 32, 40, 97, 41, 32, 40, 120, 41, 32, 123, 32, 97, 32, 120, 32, 125, 32, 91], 20), ([102, 111, 111, 32, 91], 0), ([116, 97, 98, 108, 101, 32, 97, 98, 99, 100, 101, 102, 103, 104, 105, 106, 107, 108, 109], 6)] := Paired.snoc (P1.ex y) kn
    have P0 := P0.ex y
    have kl0 := y _ _ kl0
    have x10 := x9.trans y
    clear y kn
    generalize upd H9 t1_2 (.tup [.str "table abcdefghijklm", .int 6]) = H10 at x10 P1 P0 kl0 ⊢
    refine ⟨sz2 _ _, fun t1_3 ht1_3 => ?_⟩
    have y := Ex.new (o := .tup [.str "table\t(a)", .int 5]) ht1_3
    have kn : upd H10 t1_3 (.tup [.str "table\t(a)", .int 5]) t1_3 = some (.tup [.str (S [116, 97, 98, 108, 101, 9, 40, 97, 41]), .int ((5 : Nat) : Int)]) := by rw [upd_same, hw1_3]
    have P1 : TPs _ [t1_0, t1_1, t1_2, t1_3] [([116, 97, 98, 108, 101, 32, 40, 97, 41, 32, 40, 120, 41, 32, 123, 32, 97, 32, 120, 32, 125, 32, 91], 20), ([102, 111, 111, 32, 91], 0), ([116, 97, 98, 108, 101, 32, 97, 98, 99, 100, 101, 102, 103, 104, 105, 106, 107, 108, 109], 6), ([116, 97, 98, 108, 101, 9, 40, 97, 41], 5)] := Paired.snoc (P1.ex y) kn
    have P0 := P0.ex y
    have kl0 := y _ _ kl0
    have x11 := x10.trans y
    clear y kn
    generalize upd H10 t1_3 (.tup [.str "table\t(a)", .int 5]) = H11 at x11 P1 P0 kl0 ⊢
    refine ⟨(by show 4 ≤ sizeLine; decide), fun l1 hl1 => ?_⟩
    have y := Ex.new (o := .lst [.ref t1_0, .ref t1_1, .ref t1_2, .ref t1_3]) hl1
    have kl1 : upd H11 l1 (.lst [.ref t1_0, .ref t1_1, .ref t1_2, .ref t1_3]) l1 = some (.lst [.ref t1_0, .ref t1_1, .ref t1_2, .ref t1_3]) := upd_same
    have P1 := P1.ex y
    have P0 := P0.ex y
    have kl0 := y _ _ kl0
    have x12 := x11.trans y
    clear y
    generalize upd H11 l1 (.lst [.ref t1_0, .ref t1_1, .ref t1_2, .ref t1_3]) = H12 at x12 P1 kl1 P0 kl0 ⊢
    refine ⟨l0, l1, _, _, rfl, rfl, kl0, kl1, (by show 10 ≤ sizeLine; decide), fun c1 hc1 => ?_⟩
    have y := Ex.new (o := .lst [.ref t0_0, .ref t0_1, .ref t0_2, .ref t0_3, .ref t0_4, .ref t0_5, .ref t1_0, .ref t1_1, .ref t1_2, .ref t1_3]) hc1
    have kc1 : upd H12 c1 (.lst [.ref t0_0, .ref t0_1, .ref t0_2, .ref t0_3, .ref t0_4, .ref t0_5, .ref t1_0, .ref t1_1, .ref t1_2, .ref t1_3]) c1 = some (.lst [.ref t0_0, .ref t0_1, .ref t0_2, .ref t0_3, .ref t0_4, .ref t0_5, .ref t1_0, .ref t1_1, .ref t1_2, .ref t1_3]) := upd_same
    have Q1 := (TPs.app P0 P1).ex y
    have x13 := x12.trans y
    clear y
    have eC : (.lst ([.ref t0_0, .ref t0_1, .ref t0_2, .ref t0_3, .ref t0_4, .ref t0_5] ++ [.ref t1_0, .ref t1_1, .ref t1_2, .ref t1_3]) : HO) = .lst [.ref t0_0, .ref t0_1, .ref t0_2, .ref t0_3, .ref t0_4, .ref t0_5, .ref t1_0, .ref t1_1, .ref t1_2, .ref t1_3] := rfl
    rw [eC]
    clear eC
    generalize upd H12 c1 (.lst [.ref t0_0, .ref t0_1, .ref t0_2, .ref t0_3, .ref t0_4, .ref t0_5, .ref t1_0, .ref t1_1, .ref t1_2, .ref t1_3]) = H13 at x13 Q1 kc1 ⊢
    -- list 2
    refine ⟨_, rfl, ?_⟩
    have P2 : TPs H13 [] [] := .nil
    refine ⟨sz2 _ _, fun t2_0 ht2_0 => ?_⟩
    have y := Ex.new (o := .tup [.str "table (a,) (x) {}", .int 9]) ht2_0
    have kn : upd H13 t2_0 (.tup [.str "table (a,) (x) {}", .int 9]) t2_0 = some (.tup [.str (S [116, 97, 98, 108, 101, 32, 40, 97, 44, 41, 32, 40, 120, 41, 32, 123, 125]), .int ((9 : Nat) : Int)]) := by rw [upd_same, hw2_0]
    have P2 : TPs _ [t2_0] [([116, 97, 98, 108, 101, 32, 40, 97, 44, 41, 32, 40, 120, 41, 32, 123, 125], 9)] := Paired.snoc (P2.ex y) kn
    have Q1 := Q1.ex y
    have kc1 := y _ _ kc1
    have x14 := x13.trans y
    clear y kn
    generalize upd H13 t2_0 (.tup [.str "table (a,) (x) {}", .int 9]) = H14 at x14 P2 Q1 kc1 ⊢
    refine ⟨sz2 _ _, fun t2_1 ht2_1 => ?_⟩
    have y := Ex.new (o := .tup [.str "table (a b)", .int 9]) ht2_1
    have kn : upd H14 t2_1 (.tup [.str "table (a b)", .int 9]) t2_1 = some (.tup [.str (S [116, 97, 98, 108, 101, 32, 40, 97, 32, 98, 41]), .int ((9 : Nat) : Int)]) := by rw [upd_same, hw2_1]
    have P2 : TPs _ [t2_0, t2_1] [([116, 97, 98, 108, 101, 32, 40, 97, 44, 41, 32, 40, 120, 41, 32, 123, 125], 9), ([116, 97, 98, 108, 101, 32, 40, 97, 32, 98, 41], 9)] := Paired.snoc (P2.ex y) kn
    have Q1 := Q1.ex y
    have kc1 := y _ _ kc1
    have x15 := x14.trans y
    clear y kn
    generalize upd H14 t2_1 (.tup [.str "table (a b)", .int 9]) = H15 at x15 P2 Q1 kc1 ⊢
    refine ⟨sz2 _ _, fun t2_2 ht2_2 => ?_⟩
    have y := Ex.new (o := .tup [.str "table () () {} table", .int 15]) ht2_2
    have kn : upd H15 t2_2 (.tup [.str "table () () {} table", .int 15]) t2_2 = some (.tup [.str (S [116, 97, 98, 108, 101, 32, 40, 41, 32, 40, 41, 32, 123, 125, 32, 116, 97, 98, 108, 101]), .int ((15 : Nat) : Int)]) := by rw [upd_same, hw2_2]
    have P2 : TPs _ [t2_0, t2_1, t2_2] [([116, 97, 98, 108, 101, 32, 40, 97, 44, 41, 32, 40, 120, 41, 32, 123, 125], 9), ([116, 97, 98, 108, 101, 32, 40, 97, 32, 98, 41], 9), ([116, 97, 98, 108, 101, 32, 40, 41, 32, 40, 41, 32, 123, 125, 32, 116, 97, 98, 108, 101], 15)] := Paired.snoc (P2.ex y) kn
    have Q1 := Q1.ex y
    have kc1 := y _ _ kc1
    have x16 := x15.trans y
    clear y kn
    generalize upd H15 t2_2 (.tup [.str "table () () {} table", .int 15]) = H16 at x16 P2 Q1 kc1 ⊢
    refine ⟨sz2 _ _, fun t2_3 ht2_3 => ?_⟩
    have y := Ex.new (o := .tup [.str "table () () {};", .int 14]) ht2_3
    have kn : upd H16 t2_3 (.tup [.str "table () () {};", .int 14]) t2_3 = some (.tup [.str (S [116, 97, 98, 108, 101, 32, 40, 41, 32, 40, 41, 32, 123, 125, 59]), .int ((14 : Nat) : Int)]) := by rw [upd_same, hw2_3]
    have P2 : TPs _ [t2_0, t2_1, t2_2, t2_3] [([116, 97, 98, 108, 101, 32, 40, 97, 44, 41, 32, 40, 120, 41, 32, 123, 125], 9), ([116, 97, 98, 108, 101, 32, 40, 97, 32, 98, 41], 9), ([116, 97, 98, 108, 101, 32, 40, 41, 32, 40, 41, 32, 123, 125, 32, 116, 97, 98, 108, 101], 15), ([116, 97, 98, 108, 101, 32, 40, 41, 32, 40, 41, 32, 123, 125, 59], 14)] := Paired.snoc (P2.ex y) kn
    have Q1 := Q1.ex y
    have kc1 := y _ _ kc1
    have x17 := x16.trans y
    clear y kn
    generalize upd H16 t2_3 (.tup [.str "table () () {};", .int 14]) = H17 at x17 P2 Q1 kc1 ⊢
    refine ⟨(by show 4 ≤ sizeLine; decide), fun l2 hl2 => ?_⟩
    have y := Ex.new (o := .lst [.ref t2_0, .ref t2_1, .ref t2_2, .ref t2_3]) hl2
    have kl2 : upd H17 l2 (.lst [.ref t2_0, .ref t2_1, .ref t2_2, .ref t2_3]) l2 = some (.lst [.ref t2_0, .ref t2_1, .ref t2_2, .ref t2_3]) := upd_same
    have P2 := P2.ex y
    have Q1 := Q1.ex y
    have kc1 := y _ _ kc1
    have x18 := x17.trans y
    clear y
    generalize upd H17 l2 (.lst [.ref t2_0, .ref t2_1, .ref t2_2, .ref t2_3]) = H18 at x18 P2 kl2 Q1 kc1 ⊢
    refine ⟨c1, l2, _, _, rfl, rfl, kc1, kl2, (by show 14 ≤ sizeLine; decide), fun c2 hc2 => ?_⟩
    have y := Ex.new (o := .lst [.ref t0_0, .ref t0_1, .ref t0_2, .ref t0_3, .ref t0_4, .ref t0_5, .ref t1_0, .ref t1_1, .ref t1_2, .ref t1_3, .ref t2_0, .ref t2_1, .ref t2_2, .ref t2_3]) hc2
    have kc2 : upd H18 c2 (.lst [.ref t0_0, .ref t0_1, .ref t0_2, .ref t0_3, .ref t0_4, .ref t0_5, .ref t1_0, .ref t1_1, .ref t1_2, .ref t1_3, .ref t2_0, .ref t2_1, .ref t2_2, .ref t2_3]) c2 = some (.lst [.ref t0_0, .ref t0_1, .ref t0_2, .ref t0_3, .ref t0_4, .ref t0_5, .ref t1_0, .ref t1_1, .ref t1_2, .ref t1_3, .ref t2_0, .ref t2_1, .ref t2_2, .ref t2_3]) := upd_same
    have Q2 := (TPs.app Q1 P2).ex y
    have x19 := x18.trans y
    clear y
    have eC : (.lst ([.ref t0_0, .ref t0_1, .ref t0_2, .ref t0_3, .ref t0_4, .ref t0_5, .ref t1_0, .ref t1_1, .ref t1_2, .ref t1_3] ++ [.ref t2_0, .ref t2_1, .ref t2_2, .ref t2_3]) : HO) = .lst [.ref t0_0, .ref t0_1, .ref t0_2, .ref t0_3, .ref t0_4, .ref t0_5, .ref t1_0, .ref t1_1, .ref t1_2, .ref t1_3, .ref t2_0, .ref t2_1, .ref t2_2, .ref t2_3] := rfl
    rw [eC]
    clear eC
    generalize upd H18 c2 (.lst [.ref t0_0, .ref t0_1, .ref t0_2, .ref t0_3, .ref t0_4, .ref t0_5, .ref t1_0, .ref t1_1, .ref t1_2, .ref t1_3, .ref t2_0, .ref t2_1, .ref t2_2, .ref t2_3]) = H19 at x19 Q2 kc2 ⊢
    -- list 3
    refine ⟨_, rfl, ?_⟩
    have P3 : TPs H19 [] [] := .nil
    refine ⟨sz2 _ _, fun t3_0 ht3_0 => ?_⟩
    have y := Ex.new (o := .tup [.str "table (a) (x) {a x y;}", .int 19]) ht3_0
    have kn : upd H19 t3_0 (.tup [.str "table (a) (x) {a x y;}", .int 19]) t3_0 = some (.tup [.str (S [116, 97, 98, 108, 101, 32, 40, 97, 41, 32, 40, 120, 41, 32, 123, 97, 32, 120, 32, 121, 59, 125]), .int ((19 : Nat) : Int)]) := by rw [upd_same, hw3_0]
    have P3 : TPs _ [t3_0] [([116, 97, 98, 108, 101, 32, 40, 97, 41, 32, 40, 120, 41, 32, 123, 97, 32, 120, 32, 121, 59, 125], 19)] := Paired.snoc (P3.ex y) kn
    have Q2 := Q2.ex y
    have kc2 := y _ _ kc2
    have x20 := x19.trans y
    clear y kn
    generalize upd H19 t3_0 (.tup [.str "table (a) (x) {a x y;}", .int 19]) = H20 at x20 P3 Q2 kc2 ⊢
    refine ⟨sz2 _ _, fun t3_1 ht3_1 => ?_⟩
    have y := Ex.new (o := .tup [.str "table (0) () {}", .int 7]) ht3_1
    have kn : upd H20 t3_1 (.tup [.str "table (0) () {}", .int 7]) t3_1 = some (.tup [.str (S [116, 97, 98, 108, 101, 32, 40, 48, 41, 32, 40, 41, 32, 123, 125]), .int ((7 : Nat) : Int)]) := by rw [upd_same, hw3_1]
    have P3 : TPs _ [t3_0, t3_1] [([116, 97, 98, 108, 101, 32, 40, 97, 41, 32, 40, 120, 41, 32, 123, 97, 32, 120, 32, 121, 59, 125], 19), ([116, 97, 98, 108, 101, 32, 40, 48, 41, 32, 40, 41, 32, 123, 125], 7)] := Paired.snoc (P3.ex y) kn
    have Q2 := Q2.ex y
    have kc2 := y _ _ kc2
    have x21 := x20.trans y
    clear y kn
    generalize upd H20 t3_1 (.tup [.str "table (0) () {}", .int 7]) = H21 at x21 P3 Q2 kc2 ⊢
    refine ⟨sz2 _ _, fun t3_2 ht3_2 => ?_⟩
    have y := Ex.new (o := .tup [.str "table () () {a;}", .int 14]) ht3_2
    have kn : upd H21 t3_2 (.tup [.str "table () () {a;}", .int 14]) t3_2 = some (.tup [.str (S [116, 97, 98, 108, 101, 32, 40, 41, 32, 40, 41, 32, 123, 97, 59, 125]), .int ((14 : Nat) : Int)]) := by rw [upd_same, hw3_2]
    have P3 : TPs _ [t3_0, t3_1, t3_2] [([116, 97, 98, 108, 101, 32, 40, 97, 41, 32, 40, 120, 41, 32, 123, 97, 32, 120, 32, 121, 59, 125], 19), ([116, 97, 98, 108, 101, 32, 40, 48, 41, 32, 40, 41, 32, 123, 125], 7), ([116, 97, 98, 108, 101, 32, 40, 41, 32, 40, 41, 32, 123, 97, 59, 125], 14)] := Paired.snoc (P3.ex y) kn
    have Q2 := Q2.ex y
    have kc2 := y _ _ kc2
    have x22 := x21.trans y
    clear y kn
    generalize upd H21 t3_2 (.tup [.str "table () () {a;}", .int 14]) = H22 at x22 P3 Q2 kc2 ⊢
    refine ⟨sz2 _ _, fun t3_3 ht3_3 => ?_⟩
    have y := Ex.new (o := .tup [.str "tablea", .int 0]) ht3_3
    have kn : upd H22 t3_3 (.tup [.str "tablea", .int 0]) t3_3 = some (.tup [.str (S [116, 97, 98, 108, 101, 97]), .int ((0 : Nat) : Int)]) := by rw [upd_same, hw3_3]
    have P3 : TPs _ [t3_0, t3_1, t3_2, t3_3] [([116, 97, 98, 108, 101, 32, 40, 97, 41, 32, 40, 120, 41, 32, 123, 97, 32, 120, 32, 121, 59, 125], 19), ([116, 97, 98, 108, 101, 32, 40, 48, 41, 32, 40, 41, 32, 123, 125], 7), ([116, 97, 98, 108, 101, 32, 40, 41, 32, 40, 41, 32, 123, 97, 59, 125], 14), ([116, 97, 98, 108, 101, 97], 0)] := Paired.snoc (P3.ex y) kn
    have Q2 := Q2.ex y
    have kc2 := y _ _ kc2
    have x23 := x22.trans y
    clear y kn
    generalize upd H22 t3_3 (.tup [.str "tablea", .int 0]) = H23 at x23 P3 Q2 kc2 ⊢
    refine ⟨(by show 4 ≤ sizeLine; decide), fun l3 hl3 => ?_⟩
    have y := Ex.new (o := .lst [.ref t3_0, .ref t3_1, .ref t3_2, .ref t3_3]) hl3
    have kl3 : upd H23 l3 (.lst [.ref t3_0, .ref t3_1, .ref t3_2, .ref t3_3]) l3 = some (.lst [.ref t3_0, .ref t3_1, .ref t3_2, .ref t3_3]) := upd_same
    have P3 := P3.ex y
    have Q2 := Q2.ex y
    have kc2 := y _ _ kc2
    have x24 := x23.trans y
    clear y
    generalize upd H23 l3 (.lst [.ref t3_0, .ref t3_1, .ref t3_2, .ref t3_3]) = H24 at x24 P3 kl3 Q2 kc2 ⊢
    refine ⟨c2, l3, _, _, rfl, rfl, kc2, kl3, (by show 18 ≤ sizeLine; decide), fun c3 hc3 => ?_⟩
    have y := Ex.new (o := .lst [.ref t0_0, .ref t0_1, .ref t0_2, .ref t0_3, .ref t0_4, .ref t0_5, .ref t1_0, .ref t1_1, .ref t1_2, .ref t1_3, .ref t2_0, .ref t2_1, .ref t2_2, .ref t2_3, .ref t3_0, .ref t3_1, .ref t3_2, .ref t3_3]) hc3
    have kc3 : upd H24 c3 (.lst [.ref t0_0, .ref t0_1, .ref t0_2, .ref t0_3, .ref t0_4, .ref t0_5, .ref t1_0, .ref t1_1, .ref t1_2, .ref t1_3, .ref t2_0, .ref t2_1, .ref t2_2, .ref t2_3, .ref t3_0, .ref t3_1, .ref t3_2, .ref t3_3]) c3 = some (.lst [.ref t0_0, .ref t0_1, .ref t0_2, .ref t0_3, .ref t0_4, .ref t0_5, .ref t1_0, .ref t1_1, .ref t1_2, .ref t1_3, .ref t2_0, .ref t2_1, .ref t2_2, .ref t2_3, .ref t3_0, .ref t3_1, .ref t3_2, .ref t3_3]) := upd_same
    have Q3 := (TPs.app Q2 P3).ex y
    have x25 := x24.trans y
    clear y
    have eC : (.lst ([.ref t0_0, .ref t0_1, .ref t0_2, .ref t0_3, .ref t0_4, .ref t0_5, .ref t1_0, .ref t1_1, .ref t1_2, .ref t1_3, .ref t2_0, .ref t2_1, .ref t2_2, .ref t2_3] ++ [.ref t3_0, .ref t3_1, .ref t3_2, .ref t3_3]) : HO) = .lst [.ref t0_0, .ref t0_1, .ref t0_2, .ref t0_3, .ref t0_4, .ref t0_5, .ref t1_0, .ref t1_1, .ref t1_2, .ref t1_3, .ref t2_0, .ref t2_1, .ref t2_2, .ref t2_3, .ref t3_0, .ref t3_1, .ref t3_2, .ref t3_3] := rfl
    rw [eC]
    clear eC
    generalize upd H24 c3 (.lst [.ref t0_0, .ref t0_1, .ref t0_2, .ref t0_3, .ref t0_4, .ref t0_5, .ref t1_0, .ref t1_1, .ref t1_2, .ref t1_3, .ref t2_0, .ref t2_1, .ref t2_2, .ref t2_3, .ref t3_0, .ref t3_1, .ref t3_2, .ref t3_3]) = H25 at x25 Q3 kc3 ⊢
    -- list 4
    refine ⟨_, rfl, ?_⟩
    have P4 : TPs H25 [] [] := .nil
    refine ⟨sz2 _ _, fun t4_0 ht4_0 => ?_⟩
    have y := Ex.new (o := .tup [.str "Table", .int 0]) ht4_0
    have kn : upd H25 t4_0 (.tup [.str "Table", .int 0]) t4_0 = some (.tup [.str (S [84, 97, 98, 108, 101]), .int ((0 : Nat) : Int)]) := by rw [upd_same, hw4_0]
    have P4 : TPs _ [t4_0] [([84, 97, 98, 108, 101], 0)] := Paired.snoc (P4.ex y) kn
    have Q3 := Q3.ex y
    have kc3 := y _ _ kc3
    have x26 := x25.trans y
    clear y kn
    generalize upd H25 t4_0 (.tup [.str "Table", .int 0]) = H26 at x26 P4 Q3 kc3 ⊢
    refine ⟨(by show 1 ≤ sizeLine; decide), fun l4 hl4 => ?_⟩
    have y := Ex.new (o := .lst [.ref t4_0]) hl4
    have kl4 : upd H26 l4 (.lst [.ref t4_0]) l4 = some (.lst [.ref t4_0]) := upd_same
    have P4 := P4.ex y
    have Q3 := Q3.ex y
    have kc3 := y _ _ kc3
    have x27 := x26.trans y
    clear y
    generalize upd H26 l4 (.lst [.ref t4_0]) = H27 at x27 P4 kl4 Q3 kc3 ⊢
    refine ⟨c3, l4, _, _, rfl, rfl, kc3, kl4, (by show 19 ≤ sizeLine; decide), fun c4 hc4 => ?_⟩
    have y := Ex.new (o := .lst [.ref t0_0, .ref t0_1, .ref t0_2, .ref t0_3, .ref t0_4, .ref t0_5, .ref t1_0, .ref t1_1, .ref t1_2, .ref t1_3, .ref t2_0, .ref t2_1, .ref t2_2, .ref t2_3, .ref t3_0, .ref t3_1, .ref t3_2, .ref t3_3, .ref t4_0]) hc4
    have kc4 : upd H27 c4 (.lst [.ref t0_0, .ref t0_1, .ref t0_2, .ref t0_3, .ref t0_4, .ref t0_5, .ref t1_0, .ref t1_1, .ref t1_2, .ref t1_3, .ref t2_0, .ref t2_1, .ref t2_2, .ref t2_3, .ref t3_0, .ref t3_1, .ref t3_2, .ref t3_3, .ref t4_0]) c4 = some (.lst [.ref t0_0, .ref t0_1, .ref t0_2, .ref t0_3, .ref t0_4, .ref t0_5, .ref t1_0, .ref t1_1, .ref t1_2, .ref t1_3, .ref t2_0, .ref t2_1, .ref t2_2, .ref t2_3, .ref t3_0, .ref t3_1, .ref t3_2, .ref t3_3, .ref t4_0]) := upd_same
    have Q4 := (TPs.app Q3 P4).ex y
    have x28 := x27.trans y
    clear y
    have eC : (.lst ([.ref t0_0, .ref t0_1, .ref t0_2, .ref t0_3, .ref t0_4, .ref t0_5, .ref t1_0, .ref t1_1, .ref t1_2, .ref t1_3, .ref t2_0, .ref t2_1, .ref t2_2, .ref t2_3, .ref t3_0, .ref t3_1, .ref t3_2, .ref t3_3] ++ [.ref t4_0]) : HO) = .lst [.ref t0_0, .ref t0_1, .ref t0_2, .ref t0_3, .ref t0_4, .ref t0_5, .ref t1_0, .ref t1_1, .ref t1_2, .ref t1_3, .ref t2_0, .ref t2_1, .ref t2_2, .ref t2_3, .ref t3_0, .ref t3_1, .ref t3_2, .ref t3_3, .ref t4_0] := rfl
    rw [eC]
    clear eC
    generalize upd H27 c4 (.lst [.ref t0_0, .ref t0_1, .ref t0_2, .ref t0_3, .ref t0_4, .ref t0_5, .ref t1_0, .ref t1_1, .ref t1_2, .ref t1_3, .ref t2_0, .ref t2_1, .ref t2_2, .ref t2_3, .ref t3_0, .ref t3_1, .ref t3_2, .ref t3_3, .ref t4_0]) = H28 at x28 Q4 kc4 ⊢
    -- the loop
    have QA : TPs H28 [t0_0, t0_1, t0_2, t0_3, t0_4, t0_5, t1_0, t1_1, t1_2, t1_3, t2_0, t2_1, t2_2, t2_3, t3_0, t3_1, t3_2, t3_3, t4_0] hands := Q4
    refine ⟨_, rfl, ⟨_, SqL.of kc4⟩, ?_⟩
    refine for_it walk_list (fun j σ' H' => ∃ (o2 o3 : Option V), σ' = [some (.ref r), some (.ref c3), o2, o3, none, none] ∧ Ex H28 H') ⟨none, none, rfl, Ex.refl _⟩ (fun j σ' H' _ ⟨_, _, _, z⟩ => SqL.of (z _ _ kc4)) ?_ ?_
    · rintro j v σ' G1 G2 hj ⟨o2, o3, rfl, xg⟩ ⟨rfl, hv⟩
      have hv' : ([t0_0, t0_1, t0_2, t0_3, t0_4, t0_5, t1_0, t1_1, t1_2, t1_3, t2_0, t2_1, t2_2, t2_3, t3_0, t3_1, t3_2, t3_3, t4_0].map V.ref)[j]? = some v := hv
      rw [List.getElem?_map] at hv'
      obtain ⟨ta, ht, rfl⟩ : ∃ ta, [t0_0, t0_1, t0_2, t0_3, t0_4, t0_5, t1_0, t1_1, t1_2, t1_3, t2_0, t2_1, t2_2, t2_3, t3_0, t3_1, t3_2, t3_3, t4_0][j]? = some ta ∧ V.ref ta = v := by
        cases z : [t0_0, t0_1, t0_2, t0_3, t0_4, t0_5, t1_0, t1_1, t1_2, t1_3, t2_0, t2_1, t2_2, t2_3, t3_0, t3_1, t3_2, t3_3, t4_0][j]? with
        | none => rw [z] at hv'; cases hv'
        | some ta => rw [z] at hv'; exact ⟨ta, rfl, Option.some.inj hv'⟩
      obtain ⟨⟨l, p⟩, hp1, hp2⟩ := paired_get QA ht
      obtain ⟨e1, e2⟩ := hands_ok _ (List.mem_of_getElem? hp1)
      have hp2 : H28 ta = some (.tup [.str (S l), .int (p : Int)]) := hp2
      have e1 : err (pTable (tkAt l 0)) = some p := e1
      have e2 : l.length ≤ 100 := e2
      refine ⟨ta, _, rfl, SqT.of (xg _ _ hp2), rfl, _, _, rfl, _, _, rfl, rfl, ?_⟩
      refine ⟨_, rfl, l, rfl, by omega, fun u G3 hu x3 ku => ?_⟩
      rw [err_inl e1] at ku
      refine ⟨_, rfl, (by show 1 ≤ sizeLine; decide), fun u2 hu2 => ?_⟩
      have y := Ex.new (o := .lst [.int (p : Int)]) hu2
      refine ⟨_, _, wp_dp (g := some p) (y _ _ ku), wp_dp (g := some p) upd_same, wp_shaped _, wp_shaped _, _, rfl, ?_⟩
      have x4 := (xg.trans x3).trans y
      generalize upd G3 u2 (.lst [.int (p : Int)]) = G4 at x4 ⊢
      refine iteB (c := false) (eqv_self p) (fun z => by cases z) (fun _ => ?_)
      refine ⟨_, rfl, _, rfl, r, l, rfl, (hR.keep x28).keep x4, by omega, fun G5 x5 => ⟨_, rfl, ?_⟩⟩
      exact iteF ⟨_, _, rfl, x4.trans x5⟩
    rintro σ' G1 ⟨o2, o3, rfl, xg⟩
    have X := x28.trans xg
    -- lexemes
    refine ⟨handT, by rw [lit_handT], by decide, ?_⟩
    rw [handT_told]
    refine fun fa as G2 hfa x2 kf kt => ?_
    have X := X.trans x2
    have RA : Tups G2 [] [] := .nil
    refine ⟨sz3 _ _ _, fun dA_0 hdA_0 => ?_⟩
    have y := Ex.new (o := .tup [.str "number", .str "12", .int 0]) hdA_0
    have kn : upd G2 dA_0 (.tup [.str "number", .str "12", .int 0]) dA_0 = some (.tup (encP ⟨.num, [49, 50], 0⟩)) := by rw [upd_same, dueA_0]
    have RA : Tups _ [dA_0] [⟨.num, [49, 50], 0⟩] := Paired.snoc (RA.ex y) kn
    have kf := y _ _ kf
    have kt := kt.ex y
    have X := X.trans y
    clear y kn
    generalize upd G2 dA_0 (.tup [.str "number", .str "12", .int 0]) = G3 at X RA kf kt ⊢
    refine ⟨sz3 _ _ _, fun dA_1 hdA_1 => ?_⟩
    have y := Ex.new (o := .tup [.str "word", .str "ab", .int 2]) hdA_1
    have kn : upd G3 dA_1 (.tup [.str "word", .str "ab", .int 2]) dA_1 = some (.tup (encP ⟨.word, [97, 98], 2⟩)) := by rw [upd_same, dueA_1]
    have RA : Tups _ [dA_0, dA_1] [⟨.num, [49, 50], 0⟩, ⟨.word, [97, 98], 2⟩] := Paired.snoc (RA.ex y) kn
    have kf := y _ _ kf
    have kt := kt.ex y
    have X := X.trans y
    clear y kn
    generalize upd G3 dA_1 (.tup [.str "word", .str "ab", .int 2]) = G4 at X RA kf kt ⊢
    refine ⟨sz3 _ _ _, fun dA_2 hdA_2 => ?_⟩
    have y := Ex.new (o := .tup [.str "number", .str "0", .int 5]) hdA_2
    have kn : upd G4 dA_2 (.tup [.str "number", .str "0", .int 5]) dA_2 = some (.tup (encP ⟨.num, [48], 5⟩)) := by rw [upd_same, dueA_2]
    have RA : Tups _ [dA_0, dA_1, dA_2] [⟨.num, [49, 50], 0⟩, ⟨.word, [97, 98], 2⟩, ⟨.num, [48], 5⟩] := Paired.snoc (RA.ex y) kn
    have kf := y _ _ kf
    have kt := kt.ex y
    have X := X.trans y
    clear y kn
    generalize upd G4 dA_2 (.tup [.str "number", .str "0", .int 5]) = G5 at X RA kf kt ⊢
    refine ⟨sz3 _ _ _, fun dA_3 hdA_3 => ?_⟩
    have y := Ex.new (o := .tup [.str "number", .str "0", .int 6]) hdA_3
    have kn : upd G5 dA_3 (.tup [.str "number", .str "0", .int 6]) dA_3 = some (.tup (encP ⟨.num, [48], 6⟩)) := by rw [upd_same, dueA_3]
    have RA : Tups _ [dA_0, dA_1, dA_2, dA_3] [⟨.num, [49, 50], 0⟩, ⟨.word, [97, 98], 2⟩, ⟨.num, [48], 5⟩, ⟨.num, [48], 6⟩] := Paired.snoc (RA.ex y) kn
    have kf := y _ _ kf
    have kt := kt.ex y
    have X := X.trans y
    clear y kn
    generalize upd G5 dA_3 (.tup [.str "number", .str "0", .int 6]) = G6 at X RA kf kt ⊢
    refine ⟨sz3 _ _ _, fun dA_4 hdA_4 => ?_⟩
    have y := Ex.new (o := .tup [.str "number", .str "7", .int 7]) hdA_4
    have kn : upd G6 dA_4 (.tup [.str "number", .str "7", .int 7]) dA_4 = some (.tup (encP ⟨.num, [55], 7⟩)) := by rw [upd_same, dueA_4]
    have RA : Tups _ [dA_0, dA_1, dA_2, dA_3, dA_4] [⟨.num, [49, 50], 0⟩, ⟨.word, [97, 98], 2⟩, ⟨.num, [48], 5⟩, ⟨.num, [48], 6⟩, ⟨.num, [55], 7⟩] := Paired.snoc (RA.ex y) kn
    have kf := y _ _ kf
    have kt := kt.ex y
    have X := X.trans y
    clear y kn
    generalize upd G6 dA_4 (.tup [.str "number", .str "7", .int 7]) = G7 at X RA kf kt ⊢
    refine ⟨(by show 5 ≤ sizeLine; decide), fun dlA hdlA => ?_⟩
    have y := Ex.new (o := .lst [.ref dA_0, .ref dA_1, .ref dA_2, .ref dA_3, .ref dA_4]) hdlA
    have RA := RA.ex y
    have kf := y _ _ kf
    have kt := kt.ex y
    have kda : upd G7 dlA (.lst [.ref dA_0, .ref dA_1, .ref dA_2, .ref dA_3, .ref dA_4]) dlA = some (.lst [.ref dA_0, .ref dA_1, .ref dA_2, .ref dA_3, .ref dA_4]) := upd_same
    have X := X.trans y
    clear y
    generalize upd G7 dlA (.lst [.ref dA_0, .ref dA_1, .ref dA_2, .ref dA_3, .ref dA_4]) = G8 at X RA kf kt kda ⊢
    refine ⟨_, rfl, _, rfl, ?_⟩
    have RB : Tups G8 [] [] := .nil
    refine ⟨sz3 _ _ _, fun dB_0 hdB_0 => ?_⟩
    have y := Ex.new (o := .tup [.str "word", .str "x0", .int 9]) hdB_0
    have kn : upd G8 dB_0 (.tup [.str "word", .str "x0", .int 9]) dB_0 = some (.tup (encP ⟨.word, [120, 48], 9⟩)) := by rw [upd_same, dueB_0]
    have RB : Tups _ [dB_0] [⟨.word, [120, 48], 9⟩] := Paired.snoc (RB.ex y) kn
    have kf := y _ _ kf
    have kt := kt.ex y
    have RA := RA.ex y
    have kda := y _ _ kda
    have X := X.trans y
    clear y kn
    generalize upd G8 dB_0 (.tup [.str "word", .str "x0", .int 9]) = G9 at X RB kf kt RA kda ⊢
    refine ⟨sz3 _ _ _, fun dB_1 hdB_1 => ?_⟩
    have y := Ex.new (o := .tup [.str "sign", .str "(", .int 11]) hdB_1
    have kn : upd G9 dB_1 (.tup [.str "sign", .str "(", .int 11]) dB_1 = some (.tup (encP ⟨.sign, [40], 11⟩)) := by rw [upd_same, dueB_1]
    have RB : Tups _ [dB_0, dB_1] [⟨.word, [120, 48], 9⟩, ⟨.sign, [40], 11⟩] := Paired.snoc (RB.ex y) kn
    have kf := y _ _ kf
    have kt := kt.ex y
    have RA := RA.ex y
    have kda := y _ _ kda
    have X := X.trans y
    clear y kn
    generalize upd G9 dB_1 (.tup [.str "sign", .str "(", .int 11]) = G10 at X RB kf kt RA kda ⊢
    refine ⟨sz3 _ _ _, fun dB_2 hdB_2 => ?_⟩
    have y := Ex.new (o := .tup [.str "sign", .str ",", .int 12]) hdB_2
    have kn : upd G10 dB_2 (.tup [.str "sign", .str ",", .int 12]) dB_2 = some (.tup (encP ⟨.sign, [44], 12⟩)) := by rw [upd_same, dueB_2]
    have RB : Tups _ [dB_0, dB_1, dB_2] [⟨.word, [120, 48], 9⟩, ⟨.sign, [40], 11⟩, ⟨.sign, [44], 12⟩] := Paired.snoc (RB.ex y) kn
    have kf := y _ _ kf
    have kt := kt.ex y
    have RA := RA.ex y
    have kda := y _ _ kda
    have X := X.trans y
    clear y kn
    generalize upd G10 dB_2 (.tup [.str "sign", .str ",", .int 12]) = G11 at X RB kf kt RA kda ⊢
    refine ⟨(by show 3 ≤ sizeLine; decide), fun dlB hdlB => ?_⟩
    have y := Ex.new (o := .lst [.ref dB_0, .ref dB_1, .ref dB_2]) hdlB
    have RB := RB.ex y
    have kf := y _ _ kf
    have kt := kt.ex y
    have RA := RA.ex y
    have kda := y _ _ kda
    have kdb : upd G11 dlB (.lst [.ref dB_0, .ref dB_1, .ref dB_2]) dlB = some (.lst [.ref dB_0, .ref dB_1, .ref dB_2]) := upd_same
    have X := X.trans y
    clear y
    generalize upd G11 dlB (.lst [.ref dB_0, .ref dB_1, .ref dB_2]) = G12 at X RB kf kt RA kda kdb ⊢
    refine ⟨dlA, dlB, _, _, rfl, rfl, kda, kdb, (by show 8 ≤ sizeLine; decide), fun z hz => ?_⟩
    have y := Ex.new (o := .lst ([.ref dA_0, .ref dA_1, .ref dA_2, .ref dA_3, .ref dA_4] ++ [.ref dB_0, .ref dB_1, .ref dB_2])) hz
    refine ⟨_, _, .lst (SqL.of (y _ _ kf)) (lexs_dp (kt.ex y)), .lst (SqL.of upd_same) (lexs_dp (as := [dA_0, dA_1, dA_2, dA_3, dA_4, dB_0, dB_1, dB_2]) (ts := dueA ++ dueB) ((Tups.app RA RB).ex y)), due_shaped, due_shaped, ?_⟩
    rw [show PyData.eqv (.list ((dueA ++ dueB).map lexD)) (.list ((dueA ++ dueB).map lexD)) = true from due_eqv]
    exact q _ (X.trans y)
end
end Kin
namespace Kin
open PySem PySem.Spec PyProof.Rows L2 SX Evl
theorem pe_c0 {X : Cx} {k j : Nat} {x : Str} {sp : Sp} {dvs : List V} {p pos : Pos} (c : C8.Cal X.prog X.w X.K X.mg X.base k x sp dvs) (hr : Room j X.A) (hk : k ≤ j) (hg : Gl X x) (hdb : (x == ("__debug__" : Str)) = false := by decide) :
    PE X (.Call (.Name x p) [] [] pos) (tCall sp dvs C8.E0 tNil) := by
  obtain ⟨f, fd, ps, ds, F, hm, kp, b, d⟩ := c.ex
  exact pe_call0 F (hr.mono hk) hg hm kp b d C8.pass0 hdb
theorem signs_ok : ∀ x ∈ okSigns, PyData.strOk (S x) = true := by decide +kernel
theorem slice_to (l : L) {j : Nat} (h : j ≤ l.length) : Txt.slice (S l) none (some (j : Int)) = S (l.take j) := by
  have e := beq_iff_eq.mp (PyProof.Rows.slice_closes_toL (x := S l) (j := (j : Int)) (by omega) (by rw [S_len]; omega))
  rw [e]
  show S ((l.drop (0 : Int).toNat).take ((j : Int) - 0).toNat) = _
  rw [show ((j : Int) - 0).toNat = j by omega]
  rfl
def spLaw (K : PySem.W.Frag) : Sp := fun vs H Q _ => ∃ (a : Addr) (ns : List Int), vs = [.ref a] ∧ SqL K H a (ns.map V.int) ∧ ns.length ≤ 63 ∧ ∀ H', Q (.bl true) H'
section
variable {w : World} {K : PySem.W.Frag} {mg : Str → Option Value} {base : Heap} {B : Addr}
theorem scLaw : FnScope ["_law_script", "_law_source_here", "_law_rules_here", "_law_turn", "_law_signs", "_law_lap", "_law_text", "_law_cut"] ["_law_script"] (C8.fnScope sLaw) := C8.fnScope_by (by decide +kernel)
theorem ok_law {f : Addr} {fd : FuncData} (T : Glob mg) (F : C8.Fun K "law" "law" sLaw f fd) (cS : C8.Cal prg w K mg base 1 "_law_source" (spSource K) []) (cR : C8.Cal prg w K mg base 1 "_law_rules" spRules []) (cP : C8.Cal prg w K mg base 1 "_law_pick" spPick [])
    (cLR : C8.Cal prg w K mg base 10 "_law_long_right" spLongRight []) (cD : C8.Cal prg w K mg base 3 "_law_drawn" spDrawn []) (cSp : C8.Cal prg w K mg base 3 "_law_spoilt_signs" spSpoilt []) (cSc : C8.Cal prg w K mg base 3 "_law_spaced" spSpaced [])
    (cTR : CalG prg w K mg base 10 "_law_text_right" spTextRight) (cHR : CalG prg w K mg base 11 "_law_hand_right" spHandRight) : FnG prg w K mg base 12 f fd ["_law_script"] (spLaw K) := by
  refine fnG_of F scLaw (fun vs H Q E h => ?_) (fun cdv A outer s H vs Q E gd hr h => ?_)
  · obtain ⟨a, ns, rfl, _⟩ := h
    rfl
  · obtain ⟨a, ns, rfl, ha, hn, q⟩ := h
    refine ⟨_, pss_cons (ps_set (i := 1) scLaw.nd rfl (Or.inl rfl) (C8.pe_c cS hr (by decide) (by rfl) (pa_cons (pv 0) pa_nil)))
      (pss_cons (ps_set (i := 2) scLaw.nd rfl (Or.inl rfl) (pe_c0 cR hr (by decide) (by rfl)))
      (pss_cons (ps_if (PW.pt (pw_and (pt_cmpR op_eq (C8.pe_c cP hr (by decide) (by rfl) (pa_cons (pv 1) (pa_cons (pe_int) pa_nil))) (pe_int) (nomark _)) (pw_and1 (pt_not (pt_val (pe_c0 cLR hr (by decide) (by rfl))))))) (pss_one (ps_ret (pe_bl))) pss_nil)
      (pss_cons (ps_for PassesOwn.never rfl (pi_range1 (by rfl) T.range (pa_cons (pe_int) pa_nil)) (pg_name (i := 3) scLaw.nd rfl (Or.inl rfl)) (pss_cons (ps_set (i := 4) scLaw.nd rfl (Or.inl rfl) (C8.pe_c cD hr (by decide) (by rfl) (pa_cons (pv 1) (pa_cons (pv 2) (pa_cons (pe_str) pa_nil)))))
      (pss_cons (ps_for PassesOwn.never rfl (pi_range1 (by rfl) T.range (pa_cons (C8.pe_c cP hr (by decide) (by rfl) (pa_cons (pv 1) (pa_cons (pe_int) pa_nil))) pa_nil)) (pg_name (i := 5) scLaw.nd rfl (Or.inl rfl)) (pss_one (ps_set (i := 4) scLaw.nd rfl (Or.inl rfl) (pe_ifExp (pt_cmpR (op_neD (hu64 hr)) (pv 4) (pe_lst pa_nil) (nomark _)) (C8.pe_c cSp hr (by decide) (by rfl) (pa_cons (pv 1) (pa_cons (pv 4) pa_nil))) (pe_lst pa_nil)))))
      (pss_cons (ps_set (i := 6) scLaw.nd rfl (Or.inl rfl) (C8.pe_c cSc hr (by decide) (by rfl) (pa_cons (pv 1) (pa_cons (pv 4) pa_nil))))
      (pss_one (ps_for PassesOwn.never rfl (pi_list (pe_lst (pa_cons (pe_callB call_len_str (by rfl) T.len PySem.boot_len (pa_cons (pv 6) pa_nil)) (pa_cons (C8.pe_c cP hr (by decide) (by rfl) (pa_cons (pv 1) (pa_cons (pe_op op_add (pe_callB call_len_str (by rfl) T.len PySem.boot_len (pa_cons (pv 6) pa_nil)) (pe_int)) pa_nil))) pa_nil)))) (pg_name (i := 7) scLaw.nd rfl (Or.inl rfl)) (pss_one (ps_if (pt_not (pt_val (pe_cg cTR gd hr (by decide) (by rfl) (pa_cons (pv 2) (pa_cons (pe_slice C8.sl_txt (pv 6) po_none (po_some (pv 7))) pa_nil))))) (pss_one (ps_ret (pe_bl))) pss_nil))))))))
      (pss_one (ps_ret (pe_cg cHR gd hr (by decide) (by rfl) (pa_cons (pv 2) pa_nil))))))), ?_⟩
    -- the source, the rules
    refine ⟨_, rfl, a, ns, rfl, ha, hn, fun s' c H1 hs1 hc1 x1 S1 => ?_⟩
    refine ⟨rfl, fun r H2 x2 R2 => ?_⟩
    have S2 := S1.keep x2
    have hR := R2.ex
    have hRc : RulesAt (cut s' c H2) r := R2.keep (res_cut S1.some.1 S1.some.2)
    clear R2 hR
    have rules_of : ∀ {H' : Hp}, ExS s' c H2 H' → RulesAt H' r := fun e => (hRc.keep (cut_ex e)).keep cut_in
    have nw : ∀ {d : Addr} {G : Hp}, SrcAt G s' c → G d = none → d ≠ s' ∧ d ≠ c := fun {d G} e hd => ⟨fun z => e.some.1 (by rw [← z]; exact hd), fun z => e.some.2 (by rw [← z]; exact hd)⟩
    -- what follows the first test
    refine ⟨_, rfl, s', c, 6, rfl, by decide, S2, fun n H3 hn3 x3 S3 => ?_⟩
    refine ⟨rfl, _, rfl, ?_⟩
    refine iteB rfl (fun h0 => ?yes) (fun h0 => ?no)
    case' yes =>
      refine ⟨rfl, fun H4 x4 => ⟨_, rfl, iteF ?_⟩⟩
      have X := x3.trans (ExS.of x4)
      have SS := S3.keep x4
    case' no =>
      have X := x3
      have SS := S3
      generalize H3 = H4 at X SS
    all_goals
      refine ⟨6, rfl, by decide, by decide, ?_⟩
      refine for_it walk_range (fun j σ' H' => ∃ (o3 o4 o5 o6 o7 : Option V), σ' = [some (.ref a), some (.ref s'), some (.ref r), o3, o4, o5, o6, o7] ∧ ExS s' c H2 H' ∧ SrcAt H' s' c) ⟨none, none, none, none, none, rfl, X, SS⟩ (fun _ _ _ _ _ => True.intro) ?_ ?_
      rotate_left
      · rintro σ' H' ⟨o3, o4, o5, o6, o7, rfl, x, _⟩
        exact ⟨_, rfl, r, rfl, rules_of x, fun H'' _ => q H''⟩
      rintro j v σ' H' H5 hj ⟨o3, o4, o5, o6, o7, rfl, x, S5⟩ ⟨rfl, rfl⟩
      -- signs = drawn
      refine ⟨_, rfl, _, rfl, s', c, r, by rw [lit_kTABLE]; rfl, hRc.keep (cut_ex x), S5, fun da ws H6 hda x6 S6 k6 hl6 hw6 => ?_⟩
      have X6 := x.trans x6
      have n6 := nw S5 hda
      -- the laps
      refine ⟨_, rfl, s', c, 3, rfl, by decide, S6, fun m H7 hm x7 S7 => ⟨(m : Int), rfl, by omega, by omega, ?_⟩⟩
      have X7 := X6.trans x7
      have k7 := x7 _ _ n6.1 n6.2 k6
      have hm2 : m < 3 := hm
      refine for_it walk_range (fun i σ' H' => ∃ (sa : Addr) (ws : List L) (o5 : Option V), σ' = [some (.ref a), some (.ref s'), some (.ref r), some (.int (0 + (j : Nat))), some (.ref sa), o5, o6, o7] ∧ ExS s' c H2 H' ∧ SrcAt H' s' c ∧ sa ≠ s' ∧ sa ≠ c ∧ H' sa = some (.lst (wV ws)) ∧ ws.length ≤ 49 + i ∧ ∀ x ∈ ws, x ∈ okSigns)
        ⟨da, ws, o5, rfl, X7, S7, n6.1, n6.2, k7, hl6, fun x hx => List.mem_append_left _ (hw6 x hx)⟩ (fun _ _ _ _ _ => True.intro) ?_ ?_
      · rintro i v2 σ2 H8 H9 hi ⟨sa, ws, o5, rfl, X8, S8, nsa, nca, k8, hl8, hw8⟩ ⟨rfl, rfl⟩
        rw [Int.toNat_natCast] at hi
        refine ⟨_, rfl, by decide, fun e he => ?_⟩
        have ye := Ex.new (o := .lst []) he
        have k9 := ye _ _ k8
        have S9 := S8.keep ye
        have X9 := X8.trans (ExS.of ye)
        refine ⟨_, _, wV_dp k9, .lst (SqL.of upd_same) .nil, wD_shaped (fun y hy => signs_ok y (hw8 y hy)), rfl, _, rfl, ?_⟩
        generalize upd _ e (.lst []) = H9 at k9 S9 X9 ⊢
        rw [wD_eqv_nil]
        by_cases hne : ws = []
        · subst hne
          refine iteB (c := false) rfl (fun z => by cases z) (fun _ => ?_)
          refine ⟨by decide, fun p hp => ?_⟩
          have np := nw S9 hp
          have yp := Ex.new (o := .lst []) hp
          exact ⟨p, [], _, rfl, X9.trans (ExS.of yp), S9.keep yp, np.1, np.2, upd_same, Nat.zero_le _, fun _ h => by cases h⟩
        · refine iteB (c := true) (by rw [decide_eq_false hne]; rfl) (fun _ => ?_) (fun z => by cases z)
          refine ⟨_, rfl, _, rfl, s', c, sa, ws, rfl, k9, nsa, nca, hne, by omega, hw8, S9, fun p ws' H10 hp x10 S10 k10 hl10 hw10 => ?_⟩
          have np := nw S9 hp
          exact ⟨p, ws', _, rfl, X9.trans x10, S10, np.1, np.2, k10, by omega, hw10⟩
      · rintro σ2 H8 ⟨sa, ws, o5, rfl, X8, S8, nsa, nca, k8, hl8, hw8⟩
        rw [Int.toNat_natCast] at hl8
        refine ⟨_, rfl, _, rfl, s', c, sa, ws, rfl, k8, nsa, nca, by omega, hw8, S8, fun l H9 hl9 x9 S9 => ?_⟩
        have X9 := X8.trans x9
        have hl : l.length ≤ 1100 := by omega
        -- for cut in [len(text), pick(..)]
        refine ⟨_, rfl, _, rfl, S_size (by omega), _, rfl, _, rfl, _, rfl, S_size (by omega), _, _, rfl, rfl, s', c, l.length + 1, by rw [S_len]; rfl, by omega, S9, fun cut2 H10 hcut x10 S10 => ?_⟩
        have X10 := X9.trans x10
        refine ⟨(by show 2 ≤ sizeLine; decide), fun la hla => ?_⟩
        rw [S_len]
        have ya := Ex.new (o := .lst [.int (l.length : Nat), .int (cut2 : Nat)]) hla
        have ka : upd H10 la (.lst [.int (l.length : Nat), .int (cut2 : Nat)]) la = some (.lst [.int (l.length : Nat), .int (cut2 : Nat)]) := upd_same
        have S11 := S10.keep ya
        have X11 := X10.trans (ExS.of ya)
        have nla := nw S10 hla
        generalize upd H10 la (.lst [.int (l.length : Nat), .int (cut2 : Nat)]) = H11 at ka S11 X11 ⊢
        refine ⟨la, rfl, ⟨_, SqL.of ka⟩, ?_⟩
        refine for_it walk_list (fun i σ' H' => ∃ (o7 : Option V), σ' = [some (.ref a), some (.ref s'), some (.ref r), some (.int (0 + (j : Nat))), some (.ref sa), o5, some (.str (S l)), o7] ∧ Ex H11 H') ⟨o7, rfl, Ex.refl _⟩ (fun _ _ _ _ ⟨_, _, z⟩ => SqL.of (z _ _ ka)) ?_ ?_
        · rintro i v3 σ3 H12 H13 hi ⟨o7, rfl, x12⟩ ⟨rfl, hv⟩
          obtain ⟨ct, rfl, hct⟩ : ∃ ct : Nat, v3 = .int (ct : Int) ∧ ct ≤ l.length := by
            match i, hv with
            | 0, hv => exact ⟨l.length, (Option.some.inj hv).symm, Nat.le_refl _⟩
            | 1, hv => exact ⟨cut2, (Option.some.inj hv).symm, by omega⟩
            | i2 + 2, hv => exact absurd hv (by simp)
          refine ⟨_, rfl, _, rfl, _, rfl, _, rfl, _, rfl, S_size (by omega), ?_⟩
          rw [slice_to l hct]
          refine ⟨r, l.take ct, rfl, (rules_of X11).keep x12, by rw [List.length_take]; omega, fun H14 x14 => ⟨_, rfl, ?_⟩⟩
          exact iteF ⟨_, rfl, x12.trans x14⟩
        · rintro σ3 H12 ⟨o7, rfl, x12⟩
          exact ⟨_, _, _, _, _, rfl, X11.trans (ExS.of x12), S11.keep x12⟩
end
end Kin
/-! the law's own call, at the heap behind the top -/
namespace Kin
open PySem PySem.Spec PyProof.Rows L2 SX Evl
/-- the script, as the walk tracks it -/
abbrev scrO (vs : List Value) : Obj := { cls := .type "list", data := .seq vs.toArray }
theorem law_go {w : World} {K : PySem.W.Frag} {mg mb : Str → Option Value} {k : Nat} {fa a : Addr} {fd : FuncData} {x : Str} {s₁ : Shared} {vs : List Value} {ns : List Int} {H : Hp}
    (KX : K.In s₁.heap) (hns : s₁.heap.Ns mainGlobals mg) (hb : s₁.heap.Ns builtinsNs mb) (hbb : ∀ x : Str, x ≠ "__name__" → mb x = bootBuiltins x) (hlim : s₁.heap.NoLimit) (hg : s₁.gens = #[])
    (ha : s₁.heap.get? a = some (scrO vs)) (hl : ns.length ≤ 63) (hr : Room k callerA) (tracked : ∀ b u, H b = some u → b = a ∧ u = .frz (scrO vs) (.lst (ns.map V.int)) ∧ K.lookup a = none)
    (hok : HOk prg w H s₁.heap) (hS : SqL K H a (ns.map V.int))
    (F : ∀ base : Heap, K.In base → base.Ns mainGlobals mg → FnG prg w K mg base k fa fd [x] (spLaw K)) (hbind : ∀ (s : Shared) (u : Value), BindsTo s fd ⟨[u], []⟩ [(x, u)]) :
    codeAny (model prg w) callerA (.call (.ref fa) ⟨[.ref a], []⟩) (fun r s' => r = .ok (.ret (.bool true)) ∧ OldK s₁.heap s'.heap ∧ s'.os = s₁.os ∧ AllBare s'.gens) s₁ := by
  -- a names' table is not tracked
  have table : ∀ {b : Addr} {m : Str → Option Value}, s₁.heap.Ns b m → (hidT s₁.heap H).Ns b m := by
    rintro b m ⟨o, es, ep, e, d, r⟩
    refine ⟨o, es, ep, hidT_get e ?_, d, r⟩
    cases z : H b with
    | none => rfl
    | some u =>
      obtain ⟨rfl, _⟩ := tracked b u z
      rw [ha] at e
      cases e
      cases d
  have KB : K.In (hidT s₁.heap H) := fun b o e => hidT_get (KX b o e) (by
    cases z : H b with
    | none => rfl
    | some u =>
      obtain ⟨rfl, _, n⟩ := tracked b u z
      rw [n] at e
      cases e)
  obtain ⟨mc, c1, c2⟩ := hlim
  have env : Env0 prg w K mg (hidT s₁.heap H) callerA [] s₁ H :=
    { frames := rfl, mod := ⟨KB, table hns, ⟨mb, table hb, hbb⟩, mc, table c1, c2⟩, bs := fun b o e => of_hidT e, bsz := Nat.le_of_eq (hidT_size _ _), funs := trivial, frf := fun b h => (nomatch (show b ∈ ([] : List Addr) from h)), hok := hok, bare := .of_eq hg }
  refine codeAny_mono ((F _ KB (table hns)).run callerA rfl [] s₁ H ⟨[.ref a], []⟩ [.ref a] [.ref a] (fun v _ => v = .bl true) (fun _ _ _ => False) hr env (hbind s₁ (.ref a)) (.cons rfl .nil) ⟨a, ns, rfl, hS, hl, fun _ => rfl⟩) fun r s' done => ?_
  match r, done with
  | .error _, done => exact done.elim
  | .ok .next, done => exact done.elim
  | .ok .brk, done => exact done.elim
  | .ok .cont, done => exact done.elim
  | .ok (.ret u), ⟨v, H', os, bare, un, hok', rel, e⟩ =>
    have e' : v = .bl true := e
    subst e'
    obtain rfl : u = Value.bool true := rel
    refine ⟨rfl, OldK.of_keep fun b o get => ?_, os, bare⟩
    cases z : H b with
    | none => exact un.keep b o get z (fun m => (nomatch (show b ∈ ([] : List Addr) from m))) (by simp)
    | some u =>
      obtain ⟨rfl, rfl, _⟩ := tracked b u z
      obtain ⟨g2, _⟩ := hok' _ _ (un.frzs _ _ _ z)
      rw [ha] at get
      cases get
      exact g2
theorem law_callG {w : World} {K : PySem.W.Frag} {mg mb : Str → Option Value} {k : Nat} {fa a : Addr} {fd : FuncData} {x : Str} {s₁ : Shared} {vs : List Value} {ns : List Int}
    (KX : K.In s₁.heap) (hns : s₁.heap.Ns mainGlobals mg) (hb : s₁.heap.Ns builtinsNs mb) (hbb : ∀ x : Str, x ≠ "__name__" → mb x = bootBuiltins x) (hlim : s₁.heap.NoLimit) (hg : s₁.gens = #[])
    (ha : s₁.heap.get? a = some (scrO vs)) (hi : IntsAre vs ns) (hl : ns.length ≤ 63) (hr : Room k callerA)
    (F : ∀ base : Heap, K.In base → base.Ns mainGlobals mg → FnG prg w K mg base k fa fd [x] (spLaw K)) (hbind : ∀ (s : Shared) (u : Value), BindsTo s fd ⟨[u], []⟩ [(x, u)]) :
    codeAny (model prg w) callerA (.call (.ref fa) ⟨[.ref a], []⟩) (fun r s' => r = .ok (.ret (.bool true)) ∧ OldK s₁.heap s'.heap ∧ s'.os = s₁.os ∧ AllBare s'.gens) s₁ := by
  have rel : Vals (ns.map V.int) vs := vals_ints hi
  have many : vs.length = ns.length := hi.length
  have room : ns.length ≤ sizeLine := Nat.le_trans hl (by decide)
  by_cases free : K.lookup a = none
  · refine law_go (H := fun b => if b = a then some (.frz (scrO vs) (.lst (ns.map V.int))) else none) KX hns hb hbb hlim hg ha hl hr (fun b u z => ?_) (fun b u z => ?_) (.inl (.inr ⟨scrO vs, if_pos rfl⟩)) F hbind
    · by_cases e : b = a
      · exact ⟨e, (Option.some.inj ((if_pos e).symm.trans z)).symm, free⟩
      · exact nomatch (if_neg e).symm.trans z
    · by_cases e : b = a
      · subst e
        have z' := Option.some.inj ((if_pos rfl).symm.trans z)
        subst z'
        exact ⟨ha, by rw [List.length_map]; exact room, vs, _, rel, ha⟩
      · exact nomatch (if_neg e).symm.trans z
  · cases h : K.lookup a with
    | none => exact absurd h free
    | some o =>
      have e := KX a o h
      rw [ha] at e
      cases e
      refine law_go (H := fun _ => none) KX hns hb hbb hlim hg ha hl hr (fun b u z => nomatch (show (none : Option HO) = some u from z)) (fun b u z => nomatch (show (none : Option HO) = some u from z)) (.inr ⟨_, vs.toArray, _, h, rfl, rfl, rfl, ?_, ?_⟩) F hbind
      · rw [List.size_toArray, many]
        exact room
      · simpa using rel
/-- the goal that the head leaves -/
theorem walkG {l : PySem.W.OpenLaw} {k : Nat} {q : Program} {loose : List Str} {XP : (Str → Option Value) → Heap → Prop} {YP : World → Heap → Prop} {d : DefRec} {K : Params → PySem.W.Frag} {x : Str}
    (hp : l.prog = prg) (hn : l.most = some 63) (hdf : d.params.defaults = []) (hr : Room k callerA) (hY : ∀ (w : World) (h : Heap), YP w h → (K w.params).In h)
    (F : ∀ (w : World) (mg : Str → Option Value) (fa : Addr) (h : Heap), (K w.params).In h → h.Ns mainGlobals mg → mg d.name = some (.ref fa) →
      ∃ fd : FuncData, (∀ (s : Shared) (u : Value), BindsTo s fd ⟨[u], []⟩ [(x, u)]) ∧ ∀ base : Heap, (K w.params).In base → base.Ns mainGlobals mg → FnG prg w (K w.params) mg base k fa fd [x] (spLaw (K w.params))) :
    PySem.W.WalkO q loose XP YP l.row.toRowW d [] (fun f vs => PySem.call f vs) := by
  refine Att.attach_call hn hdf fun w s₀ s₁ mg mb fa o pm cd doc a vs ns G Y ho hd hcd hmg hobj hints hlen hg => ?_
  obtain ⟨fd, hb, hF⟩ := F w mg fa _ (hY w _ Y) G.T.g hmg
  rw [hp]
  exact law_callG (hY w _ Y) G.T.g G.T.b G.T.builtins G.T.nolimit hg hobj hints hlen hr hF hb
end Kin
/-! what the top has written, in one place; the law from it -/
namespace Kin
open PySem PySem.Spec PyProof.Rows L2 SX Evl
abbrev BindOk (x qual : Str) (st : Stmt) (ps : List Str) : Prop := ∀ (kV doc pm : Value) (an : Option Addr) (cdv ct : Value) (us : List Value), us.length = ps.length → bindArgs (PySem.W.fnOf x qual (C8.fnArgs st) (C8.fnBody st) (C8.fnScope st) .none kV doc pm an cdv ct) ⟨us, []⟩ = pure (ps.zip us)
structure DefX (K : PySem.W.Frag) (mg : Str → Option Value) (x : Str) (st : Stmt) (ps : List Str) : Prop where
  ex : ∃ (f : Addr) (fd : FuncData), C8.Def K mg x st f fd ∧ Binds K fd ps [] ∧ ∀ (s : Shared) (us : List Value), us.length = ps.length → BindsTo s fd ⟨us, []⟩ (ps.zip us)
structure DefM (K : PySem.W.Frag) (C : Addr) (m qual : Str) (st : Stmt) (ps : List Str) : Prop where
  ex : ∃ (f : Addr) (fd : FuncData), Meth K C m f ∧ C8.Fun K m qual st f fd ∧ Binds K fd ps []
structure DefI (K : PySem.W.Frag) (C : Addr) (qual : Str) (st : Stmt) (ps : List Str) : Prop where
  ex : ∃ (f : Addr) (fd : FuncData), Mk K C f ∧ C8.Fun K "__init__" qual st f fd ∧ Binds K fd ps []
section
variable {K : PySem.W.Frag} {mg : Str → Option Value} {h : Heap} {x qual : Str} {st : Stmt} {ps : List Str} {f C : Addr} {oc : Value} {od an : Option Addr} {osl : Array (Option Value)} {kV doc pm cdv ct : Value}
theorem def_mk (X : K.In h) (G : h.Ns mainGlobals mg) (hb : BindOk x x st ps) (a : PySem.W.nsIn K mainGlobals x = some (some (.ref f))) (l : K.lookup f = some ⟨oc, od, .func (PySem.W.fnOf x x (C8.fnArgs st) (C8.fnBody st) (C8.fnScope st) .none kV doc pm an cdv ct), osl⟩) (c : PySem.W.codeIn K cdv x = true) (k : PySem.W.keepIn K (.ref f) = true) : DefX K mg x st ps := by
  have F : C8.Fun K x x st f (PySem.W.fnOf x x (C8.fnArgs st) (C8.fnBody st) (C8.fnScope st) .none kV doc pm an cdv ct) := ⟨oc, od, .none, kV, doc, pm, an, cdv, ct, osl, rfl, l, c⟩
  exact ⟨f, _, ⟨F, PySem.W.mg_of X G a, k⟩, F.binds rfl hb, fun s us hu => .of_eq (hb _ _ _ _ _ _ us hu)⟩
theorem meth_mk (hb : BindOk x qual st ps) (a : PySem.W.findIn K (.ref C) x = some (some (.ref f))) (i : PySem.W.isFn K (.ref f) = true) (l : K.lookup f = some ⟨oc, od, .func (PySem.W.fnOf x qual (C8.fnArgs st) (C8.fnBody st) (C8.fnScope st) .none kV doc pm an cdv ct), osl⟩) (c : PySem.W.codeIn K cdv qual = true) (k : PySem.W.keepIn K (.ref f) = true) : DefM K C x qual st ps := by
  have F : C8.Fun K x qual st f (PySem.W.fnOf x qual (C8.fnArgs st) (C8.fnBody st) (C8.fnScope st) .none kV doc pm an cdv ct) := ⟨oc, od, .none, kV, doc, pm, an, cdv, ct, osl, rfl, l, c⟩
  exact ⟨f, _, ⟨a, i, k⟩, F, F.binds rfl hb⟩
theorem init_mk (hb : BindOk "__init__" qual st ps) (m : PySem.W.makesIn K C = true) (kc : PySem.W.keepIn K (.ref C) = true) (a : PySem.W.findIn K (.ref C) "__init__" = some (some (.ref f))) (i : PySem.W.isFn K (.ref f) = true) (l : K.lookup f = some ⟨oc, od, .func (PySem.W.fnOf "__init__" qual (C8.fnArgs st) (C8.fnBody st) (C8.fnScope st) .none kV doc pm an cdv ct), osl⟩)
    (c : PySem.W.codeIn K cdv qual = true) : DefI K C qual st ps := by
  have F : C8.Fun K "__init__" qual st f (PySem.W.fnOf "__init__" qual (C8.fnArgs st) (C8.fnBody st) (C8.fnScope st) .none kV doc pm an cdv ct) := ⟨oc, od, .none, kV, doc, pm, an, cdv, ct, osl, rfl, l, c⟩
  exact ⟨f, _, ⟨m, a, i, kc⟩, F, F.binds rfl hb⟩
end
/-- an own exception class -/
structure ExcX (K : PySem.W.Frag) (mg : Str → Option Value) (x fld : Str) (C : Addr) (st : Stmt) : Prop where
  ex : ∃ fI cc cda, ExcT K mg x fld C fI cc cda st
theorem exc_mk {K : PySem.W.Frag} {mg : Str → Option Value} {h : Heap} {x fld qual : Str} {st : Stmt} {C fI cc cda kin : Addr} {nm q : Str} {N : Addr} {bs : List Value} {sn : List Str} {sub : List Value} {ab : Bool} {col : Option Bool} {dd : Option Addr} {m0 m1 m2 m3 m5 : Option Value}
    {oc doc pm ct kV cl ccl : Value} {od an cld cdd : Option Addr} {osl csl ccs : Array (Option Value)} {vs : Array Value} {file : Str} {tf : PySem.Tok} (X : K.In h) (G : h.Ns mainGlobals mg)
    (a : PySem.W.nsIn K mainGlobals x = some (some (.ref C))) (xL : K.lookup C = some (excClassObj nm q C N bs [.ref kin, .type "ValueError", .type "Exception", .type "BaseException", .type "object"] true sn sub ab col dd m0 m1 m2 m3 m5 "ValueError.__new__"))
    (sa : PySem.W.findIn K (.ref C) "__setattr__" = some (some (.builtin "object.__setattr__"))) (nf : PySem.W.findIn K (.ref C) fld = some none) (ic : PySem.W.findIn K (.ref C) "__init__" = some (some (.ref fI))) (ti : PySem.W.typeIn K (.ref fI) = some (.type "function"))
    (kc : PySem.W.keepIn K (.ref C) = true) (ec : PySem.W.subIn K (.ref C) (.type "BaseException") = some true) (tc : PySem.W.typeIn K (.ref C) = some (.type "type"))
    (l : K.lookup fI = some ⟨oc, od, .func (PySem.W.ksFn "__init__" qual (L2.defArgs st) (L2.defBody st) (L2.defScope st) .none kV doc pm an (.ref cda) ct cc), osl⟩) (c : PySem.W.codeIn K (.ref cda) qual = true)
    (ce : K.lookup cc = some ⟨cl, cld, .cell (some (.ref C)), csl⟩) (co : K.lookup cda = some ⟨ccl, cdd, .fields vs, ccs⟩) (c2 : vs[2]? = some (.str file tf)) (cf : (PySem.Challenge.pw_kindredbush_k09_whole_wrong_places_of_te.main.file == file) = true)
    (su : PySem.W.ks_superIn K C C "__init__" = some (some (.builtin "ValueError.__init__"))) (gs : PySem.W.nsIn K mainGlobals "super" = some none) (sv : PySem.W.subIn K (.ref C) (.type "ValueError") = some true) (sc : PySem.W.mroIn K C (.ref C) = some true) (op : PySem.W.nsIn K cStatics "thirdparty.any" = some none) : ExcX K mg x fld C st :=
  ⟨fI, cc, cda, { gC := PySem.W.mg_of X G a, cls := ⟨nm, q, N, bs, _, sn, sub, ab, col, dd, m0, m1, m2, m3, m5, xL, by rfl⟩, sa := sa, noF := nf, iC := ic, tI := ti, kC := kc, exC := ec, tyC := tc, fn := ⟨oc, od, doc, pm, an, ct, osl, kV, qual, l, c⟩, cell := ⟨cl, cld, csl, ce⟩, code := ⟨ccl, cdd, vs, ccs, file, tf, co, c2, cf⟩, sup := su, gsup := PySem.W.mg_none_of X G gs, subV := sv, subC := sc, opq := op }⟩
theorem excs_mk {K : PySem.W.Frag} {B CF : Addr} (ga : PySem.W.findIn K (.ref B) "__getattribute__" = some (some (.builtin "BaseException.__getattribute__"))) (gg : PySem.W.findIn K (.ref B) "__getattr__" = some none) (eb : PySem.W.subIn K (.ref B) (.type "BaseException") = some true) (hb : PySem.W.hasDictIn K B = true)
    (tb : PySem.W.typeIn K (.ref B) = some (.type "type")) (ef : PySem.W.subIn K (.ref CF) (.type "BaseException") = some true) (hf : PySem.W.hasDictIn K CF = true) (tf : PySem.W.typeIn K (.ref CF) = some (.type "type"))
    (s1 : PySem.W.subIn K (.ref B) (.ref B) = some true) (s2 : PySem.W.subIn K (.ref CF) (.ref B) = some false) (s3 : PySem.W.subIn K (.ref CF) (.ref CF) = some true) : ExcsT K B CF :=
  ⟨⟨ga, gg, eb, hb⟩, PySem.W.exm_ref eb hb tb s1, PySem.W.exm_ref eb hb tb s2, PySem.W.exm_ref ef hf tf s3⟩
theorem glob_mk {K : PySem.W.Frag} {mg : Str → Option Value} {h : Heap} {t1 t2 t3 t4 : PySem.Tok} (X : K.In h) (G : h.Ns mainGlobals mg) (b_len : PySem.W.nsIn K mainGlobals "len" = some none) (b_range : PySem.W.nsIn K mainGlobals "range" = some none) (b_all : PySem.W.nsIn K mainGlobals "all" = some none) (b_isinstance : PySem.W.nsIn K mainGlobals "isinstance" = some none) (b_enumerate : PySem.W.nsIn K mainGlobals "enumerate" = some none) (b_tuple : PySem.W.nsIn K mainGlobals "tuple" = some none) (b_list : PySem.W.nsIn K mainGlobals "list" = some none) (b_str : PySem.W.nsIn K mainGlobals "str" = some none) (b_int : PySem.W.nsIn K mainGlobals "int" = some none) (b_max : PySem.W.nsIn K mainGlobals "max" = some none) (b_abs : PySem.W.nsIn K mainGlobals "abs" = some none) (b_repr : PySem.W.nsIn K mainGlobals "repr" = some none) (n1 : PySem.W.nsIn K mainGlobals "LETTERS" = some (some (.str "abcdefghijklmnopqrstuvwxyz" t1))) (n2 : PySem.W.nsIn K mainGlobals "FIGURES" = some (some (.str "0123456789" t2))) (n3 : PySem.W.nsIn K mainGlobals "BLANKS" = some (some (.str " \n" t3))) (n4 : PySem.W.nsIn K mainGlobals "SIGNS" = some (some (.str "(){},;" t4))) : Glob mg :=
  ⟨PySem.W.mg_none_of X G b_len, PySem.W.mg_none_of X G b_range, PySem.W.mg_none_of X G b_all, PySem.W.mg_none_of X G b_isinstance, PySem.W.mg_none_of X G b_enumerate, PySem.W.mg_none_of X G b_tuple, PySem.W.mg_none_of X G b_list, PySem.W.mg_none_of X G b_str, PySem.W.mg_none_of X G b_int, PySem.W.mg_none_of X G b_max, PySem.W.mg_none_of X G b_abs, PySem.W.mg_none_of X G b_repr, ⟨t1, PySem.W.mg_of X G n1⟩, ⟨t2, PySem.W.mg_of X G n2⟩, ⟨t3, PySem.W.mg_of X G n3⟩, ⟨t4, PySem.W.mg_of X G n4⟩⟩
theorem bd_sIsWord : BindOk "is_word" "is_word" sIsWord ["value"] := fun _ _ _ _ _ _ us hl => match us, hl with | [_], _ => rfl
theorem bd_sIsList : BindOk "is_list" "is_list" sIsList ["value"] := fun _ _ _ _ _ _ us hl => match us, hl with | [_], _ => rfl
theorem bd_sIsRow : BindOk "is_row" "is_row" sIsRow ["value", "many"] := fun _ _ _ _ _ _ us hl => match us, hl with | [_, _], _ => rfl
theorem bd_sEndOf : BindOk "end_of" "end_of" sEndOf ["text", "place", "signs"] := fun _ _ _ _ _ _ us hl => match us, hl with | [_, _, _], _ => rfl
theorem bd_sLexAt : BindOk "lexeme_at" "lexeme_at" sLexAt ["text", "place"] := fun _ _ _ _ _ _ us hl => match us, hl with | [_, _], _ => rfl
theorem bd_sLexemes : BindOk "lexemes" "lexemes" sLexemes ["text"] := fun _ _ _ _ _ _ us hl => match us, hl with | [_], _ => rfl
theorem bd_sWrongColour : BindOk "wrong_colour" "wrong_colour" sWrongColour ["colours", "side"] := fun _ _ _ _ _ _ us hl => match us, hl with | [_, _], _ => rfl
theorem bd_sWrongFit : BindOk "wrong_fit" "wrong_fit" sWrongFit ["stems", "places", "fits"] := fun _ _ _ _ _ _ us hl => match us, hl with | [_, _, _], _ => rfl
theorem bd_sFirstWrong : BindOk "first_wrong" "first_wrong" sFirstWrong ["stems", "places", "fits"] := fun _ _ _ _ _ _ us hl => match us, hl with | [_, _, _], _ => rfl
theorem bd_sReadListed : BindOk "read_listed" "read_listed" sReadListed ["lexer"] := fun _ _ _ _ _ _ us hl => match us, hl with | [_], _ => rfl
theorem bd_sReadBlock : BindOk "read_block" "read_block" sReadBlock ["lexer", "read_one"] := fun _ _ _ _ _ _ us hl => match us, hl with | [_, _], _ => rfl
theorem bd_sReadFit : BindOk "read_fit" "read_fit" sReadFit ["lexer"] := fun _ _ _ _ _ _ us hl => match us, hl with | [_], _ => rfl
theorem bd_sReadTable : BindOk "read_table" "read_table" sReadTable ["text"] := fun _ _ _ _ _ _ us hl => match us, hl with | [_], _ => rfl
theorem bd_sSource : BindOk "_law_source" "_law_source" sSource ["_law_script"] := fun _ _ _ _ _ _ us hl => match us, hl with | [_], _ => rfl
theorem bd_sPick : BindOk "_law_pick" "_law_pick" sPick ["_law_source_here", "_law_many"] := fun _ _ _ _ _ _ us hl => match us, hl with | [_, _], _ => rfl
theorem bd_sOf : BindOk "_law_of" "_law_of" sOf ["_law_source_here", "_law_some"] := fun _ _ _ _ _ _ us hl => match us, hl with | [_, _], _ => rfl
theorem bd_sSpaced : BindOk "_law_spaced" "_law_spaced" sSpaced ["_law_source_here", "_law_signs"] := fun _ _ _ _ _ _ us hl => match us, hl with | [_, _], _ => rfl
theorem bd_sRun : BindOk "_law_run" "_law_run" sRun ["_law_text", "_law_place", "_law_signs"] := fun _ _ _ _ _ _ us hl => match us, hl with | [_, _, _], _ => rfl
theorem bd_sLIsWord : BindOk "_law_is_word" "_law_is_word" sLIsWord ["_law_value"] := fun _ _ _ _ _ _ us hl => match us, hl with | [_], _ => rfl
theorem bd_sLLexeme : BindOk "_law_lexeme" "_law_lexeme" sLLexeme ["_law_text", "_law_place"] := fun _ _ _ _ _ _ us hl => match us, hl with | [_, _], _ => rfl
theorem bd_sRules : BindOk "_law_rules" "_law_rules" sRules [] := fun _ _ _ _ _ _ us hl => match us, hl with | [], _ => rfl
theorem bd_sWrongPlace : BindOk "_law_wrong_place" "_law_wrong_place" sWrongPlace ["_law_rules_here", "_law_text", "_law_form"] := fun _ _ _ _ _ _ us hl => match us, hl with | [_, _, _], _ => rfl
theorem bd_sDrawn : BindOk "_law_drawn" "_law_drawn" sDrawn ["_law_source_here", "_law_rules_here", "_law_form"] := fun _ _ _ _ _ _ us hl => match us, hl with | [_, _, _], _ => rfl
theorem bd_sSpoilt : BindOk "_law_spoilt_signs" "_law_spoilt_signs" sSpoilt ["_law_source_here", "_law_signs"] := fun _ _ _ _ _ _ us hl => match us, hl with | [_, _], _ => rfl
theorem bd_sDue : BindOk "_law_lexemes_due" "_law_lexemes_due" sDue ["_law_text"] := fun _ _ _ _ _ _ us hl => match us, hl with | [_], _ => rfl
theorem bd_sTold : BindOk "_law_told" "_law_told" sTold ["_law_text"] := fun _ _ _ _ _ _ us hl => match us, hl with | [_], _ => rfl
theorem bd_sLexTold : BindOk "_law_lexemes_told" "_law_lexemes_told" sLexTold ["_law_text"] := fun _ _ _ _ _ _ us hl => match us, hl with | [_], _ => rfl
theorem bd_sTextRight : BindOk "_law_text_right" "_law_text_right" sTextRight ["_law_rules_here", "_law_text"] := fun _ _ _ _ _ _ us hl => match us, hl with | [_, _], _ => rfl
theorem bd_sHandRight : BindOk "_law_hand_right" "_law_hand_right" sHandRight ["_law_rules_here"] := fun _ _ _ _ _ _ us hl => match us, hl with | [_], _ => rfl
theorem bd_sLongRight : BindOk "_law_long_right" "_law_long_right" sLongRight [] := fun _ _ _ _ _ _ us hl => match us, hl with | [], _ => rfl
theorem bd_sLaw : BindOk "law" "law" sLaw ["_law_script"] := fun _ _ _ _ _ _ us hl => match us, hl with | [_], _ => rfl
theorem bd_sXInit : BindOk "__init__" "Lexer.__init__" sXInit ["self", "text"] := fun _ _ _ _ _ _ us hl => match us, hl with | [_, _], _ => rfl
theorem bd_sXIsNext : BindOk "is_next" "Lexer.is_next" sXIsNext ["self", "lexeme"] := fun _ _ _ _ _ _ us hl => match us, hl with | [_, _], _ => rfl
theorem bd_sXGo : BindOk "go" "Lexer.go" sXGo ["self"] := fun _ _ _ _ _ _ us hl => match us, hl with | [_], _ => rfl
theorem bd_sXTake : BindOk "take" "Lexer.take" sXTake ["self", "lexeme"] := fun _ _ _ _ _ _ us hl => match us, hl with | [_, _], _ => rfl
theorem bd_sXWord : BindOk "word" "Lexer.word" sXWord ["self"] := fun _ _ _ _ _ _ us hl => match us, hl with | [_], _ => rfl
theorem bd_sXFinish : BindOk "finish" "Lexer.finish" sXFinish ["self"] := fun _ _ _ _ _ _ us hl => match us, hl with | [_], _ => rfl
theorem bd_sTInit : BindOk "__init__" "Table.__init__" sTInit ["self", "stems", "places", "fits"] := fun _ _ _ _ _ _ us hl => match us, hl with | [_, _, _, _], _ => rfl
theorem lexer_mk {K : PySem.W.Frag} {mg : Str → Option Value} {h : Heap} {C : Addr} (X : K.In h) (G : h.Ns mainGlobals mg) (a : PySem.W.nsIn K mainGlobals "Lexer" = some (some (.ref C))) (pg : PySem.W.plainGet K C Str.empty = true) (hd : PySem.W.hasDictIn K C = true) (po : PySem.W.plainOver K C = true) (sa : PySem.W.findIn K (.ref C) "__setattr__" = some (some (.builtin "object.__setattr__"))) (n0 : PySem.W.findIn K (.ref C) "text" = some none) (n1 : PySem.W.findIn K (.ref C) "now" = some none) : LexerT K mg C := ⟨⟨pg, hd, po, sa⟩, n0, n1, PySem.W.mg_of X G a⟩
theorem table_mk {K : PySem.W.Frag} {mg : Str → Option Value} {h : Heap} {C : Addr} (X : K.In h) (G : h.Ns mainGlobals mg) (a : PySem.W.nsIn K mainGlobals "Table" = some (some (.ref C))) (pg : PySem.W.plainGet K C Str.empty = true) (hd : PySem.W.hasDictIn K C = true) (po : PySem.W.plainOver K C = true) (sa : PySem.W.findIn K (.ref C) "__setattr__" = some (some (.builtin "object.__setattr__"))) (n0 : PySem.W.findIn K (.ref C) "own_stems" = some none) (n1 : PySem.W.findIn K (.ref C) "own_places" = some none) (n2 : PySem.W.findIn K (.ref C) "own_fits" = some none) : TableT K mg C := ⟨⟨pg, hd, po, sa⟩, n0, n1, n2, PySem.W.mg_of X G a⟩
structure AllX (K : PySem.W.Frag) (mg : Str → Option Value) (C CT B CF : Addr) : Prop where
  T : Glob mg
  d_sIsWord : DefX K mg "is_word" sIsWord ["value"]
  d_sIsList : DefX K mg "is_list" sIsList ["value"]
  d_sIsRow : DefX K mg "is_row" sIsRow ["value", "many"]
  d_sEndOf : DefX K mg "end_of" sEndOf ["text", "place", "signs"]
  d_sLexAt : DefX K mg "lexeme_at" sLexAt ["text", "place"]
  d_sLexemes : DefX K mg "lexemes" sLexemes ["text"]
  d_sWrongColour : DefX K mg "wrong_colour" sWrongColour ["colours", "side"]
  d_sWrongFit : DefX K mg "wrong_fit" sWrongFit ["stems", "places", "fits"]
  d_sFirstWrong : DefX K mg "first_wrong" sFirstWrong ["stems", "places", "fits"]
  d_sReadListed : DefX K mg "read_listed" sReadListed ["lexer"]
  d_sReadBlock : DefX K mg "read_block" sReadBlock ["lexer", "read_one"]
  d_sReadFit : DefX K mg "read_fit" sReadFit ["lexer"]
  d_sReadTable : DefX K mg "read_table" sReadTable ["text"]
  d_sSource : DefX K mg "_law_source" sSource ["_law_script"]
  d_sPick : DefX K mg "_law_pick" sPick ["_law_source_here", "_law_many"]
  d_sOf : DefX K mg "_law_of" sOf ["_law_source_here", "_law_some"]
  d_sSpaced : DefX K mg "_law_spaced" sSpaced ["_law_source_here", "_law_signs"]
  d_sRun : DefX K mg "_law_run" sRun ["_law_text", "_law_place", "_law_signs"]
  d_sLIsWord : DefX K mg "_law_is_word" sLIsWord ["_law_value"]
  d_sLLexeme : DefX K mg "_law_lexeme" sLLexeme ["_law_text", "_law_place"]
  d_sRules : DefX K mg "_law_rules" sRules []
  d_sWrongPlace : DefX K mg "_law_wrong_place" sWrongPlace ["_law_rules_here", "_law_text", "_law_form"]
  d_sDrawn : DefX K mg "_law_drawn" sDrawn ["_law_source_here", "_law_rules_here", "_law_form"]
  d_sSpoilt : DefX K mg "_law_spoilt_signs" sSpoilt ["_law_source_here", "_law_signs"]
  d_sDue : DefX K mg "_law_lexemes_due" sDue ["_law_text"]
  d_sTold : DefX K mg "_law_told" sTold ["_law_text"]
  d_sLexTold : DefX K mg "_law_lexemes_told" sLexTold ["_law_text"]
  d_sTextRight : DefX K mg "_law_text_right" sTextRight ["_law_rules_here", "_law_text"]
  d_sHandRight : DefX K mg "_law_hand_right" sHandRight ["_law_rules_here"]
  d_sLongRight : DefX K mg "_law_long_right" sLongRight []
  d_sLaw : DefX K mg "law" sLaw ["_law_script"]
  LT : LexerT K mg C
  TT : TableT K mg CT
  d_sXInit : DefI K C "Lexer.__init__" sXInit ["self", "text"]
  d_sXIsNext : DefM K C "is_next" "Lexer.is_next" sXIsNext ["self", "lexeme"]
  d_sXGo : DefM K C "go" "Lexer.go" sXGo ["self"]
  d_sXTake : DefM K C "take" "Lexer.take" sXTake ["self", "lexeme"]
  d_sXWord : DefM K C "word" "Lexer.word" sXWord ["self"]
  d_sXFinish : DefM K C "finish" "Lexer.finish" sXFinish ["self"]
  d_sTInit : DefI K CT "Table.__init__" sTInit ["self", "stems", "places", "fits"]
  E5 : ExcX K mg "BadText" "place" B sBadText
  E3 : ExcX K mg "BadFits" "path" CF sBadFits
  XT : ExcsT K B CF
theorem all_ok {w : World} {K : PySem.W.Frag} {mg : Str → Option Value} {C CT B CF fa : Addr} (A : AllX K mg C CT B CF) (hfa : mg "law" = some (.ref fa)) :
    ∃ fd : FuncData, (∀ (s : Shared) (u : Value), BindsTo s fd ⟨[u], []⟩ [("_law_script", u)]) ∧ ∀ base : Heap, K.In base → base.Ns mainGlobals mg → FnG prg w K mg base 12 fa fd ["_law_script"] (spLaw K) := by
  obtain ⟨f, fd, FL, bL, btL⟩ := A.d_sLaw.ex
  have e := hfa.symm.trans FL.mgf
  cases e
  refine ⟨fd, fun s u => btL s [u] rfl, fun base _ _ => ?_⟩
  have T := A.T
  obtain ⟨_, _, _, T5⟩ := A.E5.ex
  obtain ⟨_, _, _, T3⟩ := A.E3.ex
  have XT := A.XT
  obtain ⟨_, _, F_sIsWord, b_sIsWord, _⟩ := A.d_sIsWord.ex
  obtain ⟨_, _, F_sIsList, b_sIsList, _⟩ := A.d_sIsList.ex
  obtain ⟨_, _, F_sIsRow, b_sIsRow, _⟩ := A.d_sIsRow.ex
  obtain ⟨_, _, F_sEndOf, b_sEndOf, _⟩ := A.d_sEndOf.ex
  obtain ⟨_, _, F_sLexAt, b_sLexAt, _⟩ := A.d_sLexAt.ex
  obtain ⟨_, _, F_sLexemes, b_sLexemes, _⟩ := A.d_sLexemes.ex
  obtain ⟨_, _, F_sWrongColour, b_sWrongColour, _⟩ := A.d_sWrongColour.ex
  obtain ⟨_, _, F_sWrongFit, b_sWrongFit, _⟩ := A.d_sWrongFit.ex
  obtain ⟨_, _, F_sFirstWrong, b_sFirstWrong, _⟩ := A.d_sFirstWrong.ex
  obtain ⟨_, _, F_sReadListed, b_sReadListed, _⟩ := A.d_sReadListed.ex
  obtain ⟨_, _, F_sReadBlock, b_sReadBlock, _⟩ := A.d_sReadBlock.ex
  obtain ⟨_, _, F_sReadFit, b_sReadFit, _⟩ := A.d_sReadFit.ex
  obtain ⟨_, _, F_sReadTable, b_sReadTable, _⟩ := A.d_sReadTable.ex
  obtain ⟨_, _, F_sSource, b_sSource, _⟩ := A.d_sSource.ex
  obtain ⟨_, _, F_sPick, b_sPick, _⟩ := A.d_sPick.ex
  obtain ⟨_, _, F_sOf, b_sOf, _⟩ := A.d_sOf.ex
  obtain ⟨_, _, F_sSpaced, b_sSpaced, _⟩ := A.d_sSpaced.ex
  obtain ⟨_, _, F_sRun, b_sRun, _⟩ := A.d_sRun.ex
  obtain ⟨_, _, F_sLIsWord, b_sLIsWord, _⟩ := A.d_sLIsWord.ex
  obtain ⟨_, _, F_sLLexeme, b_sLLexeme, _⟩ := A.d_sLLexeme.ex
  obtain ⟨_, _, F_sRules, b_sRules, _⟩ := A.d_sRules.ex
  obtain ⟨_, _, F_sWrongPlace, b_sWrongPlace, _⟩ := A.d_sWrongPlace.ex
  obtain ⟨_, _, F_sDrawn, b_sDrawn, _⟩ := A.d_sDrawn.ex
  obtain ⟨_, _, F_sSpoilt, b_sSpoilt, _⟩ := A.d_sSpoilt.ex
  obtain ⟨_, _, F_sDue, b_sDue, _⟩ := A.d_sDue.ex
  obtain ⟨_, _, F_sTold, b_sTold, _⟩ := A.d_sTold.ex
  obtain ⟨_, _, F_sLexTold, b_sLexTold, _⟩ := A.d_sLexTold.ex
  obtain ⟨_, _, F_sTextRight, b_sTextRight, _⟩ := A.d_sTextRight.ex
  obtain ⟨_, _, F_sHandRight, b_sHandRight, _⟩ := A.d_sHandRight.ex
  obtain ⟨_, _, F_sLongRight, b_sLongRight, _⟩ := A.d_sLongRight.ex
  obtain ⟨_, _, M_sXInit, F_sXInit, b_sXInit⟩ := A.d_sXInit.ex
  obtain ⟨_, _, M_sXIsNext, F_sXIsNext, b_sXIsNext⟩ := A.d_sXIsNext.ex
  obtain ⟨_, _, M_sXGo, F_sXGo, b_sXGo⟩ := A.d_sXGo.ex
  obtain ⟨_, _, M_sXTake, F_sXTake, b_sXTake⟩ := A.d_sXTake.ex
  obtain ⟨_, _, M_sXWord, F_sXWord, b_sXWord⟩ := A.d_sXWord.ex
  obtain ⟨_, _, M_sXFinish, F_sXFinish, b_sXFinish⟩ := A.d_sXFinish.ex
  obtain ⟨_, _, M_sTInit, F_sTInit, b_sTInit⟩ := A.d_sTInit.ex
  have cE := ok_endOf (P := prg) (w := w) (base := base) T F_sEndOf b_sEndOf
  have cLA := ok_lexAt (P := prg) (w := w) (base := base) T F_sLexAt b_sLexAt cE
  have cRun := ok_lawRun (P := prg) (w := w) (base := base) T F_sRun b_sRun
  have cLW := ok_lawIsWord (P := prg) (w := w) (base := base) T F_sLIsWord b_sLIsWord
  have cLL := ok_lawLexeme (P := prg) (w := w) (base := base) T F_sLLexeme b_sLLexeme cRun cLW
  have cLx := ok_lexemes (w := w) (base := base) T T5 F_sLexemes b_sLexemes cLA
  have cDue := ok_due (P := prg) (w := w) (base := base) T F_sDue b_sDue cLL
  have cXI := ok_xInit (w := w) (base := base) A.LT M_sXInit F_sXInit b_sXInit cLA
  have cXN := ok_xIsNext (w := w) (base := base) A.LT M_sXIsNext F_sXIsNext b_sXIsNext
  have cXG := ok_xGo (w := w) (base := base) T A.LT M_sXGo F_sXGo b_sXGo cLA
  have cXT := ok_xTake (w := w) (base := base) A.LT T5 M_sXTake F_sXTake b_sXTake cXN cXG
  have cXW := ok_xWord (w := w) (base := base) A.LT T5 M_sXWord F_sXWord b_sXWord cXG
  have cXF := ok_xFinish (w := w) (base := base) A.LT T5 M_sXFinish F_sXFinish b_sXFinish
  have cRL := ok_readListed (w := w) (base := base) F_sReadListed b_sReadListed cXN cXG cXT cXW
  have cRF := ok_readFit (w := w) (base := base) F_sReadFit b_sReadFit cXW
  have cRB := ok_readBlock (w := w) (base := base) F_sReadBlock b_sReadBlock cXN cXT cXF cRF
  have cIW := ok_isWord (P := prg) (w := w) (base := base) T F_sIsWord b_sIsWord
  have cIL := ok_isList (P := prg) (w := w) (base := base) T F_sIsList b_sIsList
  have cIR := ok_isRow (P := prg) (w := w) (base := base) T F_sIsRow b_sIsRow
  have cWC := ok_wrongColour (P := prg) (w := w) (base := base) T F_sWrongColour b_sWrongColour cIL cIW
  have cWF := ok_wrongFit (P := prg) (w := w) (base := base) T F_sWrongFit b_sWrongFit cIL cIR
  have cFW := ok_firstWrong (P := prg) (w := w) (base := base) F_sFirstWrong b_sFirstWrong cWC cWF
  have cTI := ok_tInit (w := w) (base := base) T A.TT T3 M_sTInit F_sTInit b_sTInit cFW
  have cRT := ok_readTable (w := w) (base := base) F_sReadTable b_sReadTable cXI cXT cRL cRB cTI F_sReadFit.mgf
  have cTd := ok_told (w := w) (base := base) T5 T3 XT F_sTold b_sTold cRT
  have cLT := ok_lexTold (w := w) (base := base) T5 XT F_sLexTold b_sLexTold cLx
  have cRu := ok_rules (P := prg) (w := w) (base := base) F_sRules b_sRules
  have cWP := ok_wrongPlace (P := prg) (w := w) (base := base) T F_sWrongPlace b_sWrongPlace cLL
  have cSo := ok_source (P := prg) (w := w) (base := base) T F_sSource b_sSource
  have cPi := ok_pick (P := prg) (w := w) (base := base) T F_sPick b_sPick
  have cOf := ok_of (P := prg) (w := w) (base := base) T F_sOf b_sOf cPi
  have cDr := ok_drawn (P := prg) (w := w) (base := base) T F_sDrawn b_sDrawn cOf
  have cSp := ok_spoilt (P := prg) (w := w) (base := base) T F_sSpoilt b_sSpoilt cOf cPi
  have cSc := ok_spaced (P := prg) (w := w) (base := base) T F_sSpaced b_sSpaced cOf
  have cTR := ok_textRight (P := prg) (w := w) (base := base) T F_sTextRight b_sTextRight cWP cLT cDue cTd
  have cLR := ok_longRight (w := w) (base := base) T F_sLongRight b_sLongRight cLx cLT cTd
  have cHR := ok_handRight (w := w) (base := base) T F_sHandRight b_sHandRight cTd cTR cLx
  exact ok_law T FL.fn cSo cRu cPi cLR cDr cSp cSc cTR cHR
end Kin
open PySem PySem.W PyProof.Rows
set_option maxRecDepth 100000 in
set_option maxHeartbeats 0 in
theorem PySem.Challenge.cw_kindredbush_k09_whole_wrong_places_of_te_holds : PySem.Challenge.rw_kindredbush_k09_whole_wrong_places_of_te.Holds := by
  w_on; o_law; k_head; (case hw => w_witness2)
  k_fill
  refine Kin.walkG (l := PySem.Challenge.rw_kindredbush_k09_whole_wrong_places_of_te) (k := 12) (x := "_law_script") rfl rfl rfl ⟨rfl, by decide, by decide⟩ (fun w h Y => PySem.W.kIn_of Y) ?F
  case F =>
    intro w mg fa h KX G hmg
    refine' Kin.all_ok (Kin.AllX.mk ?T ?d_sIsWord ?d_sIsList ?d_sIsRow ?d_sEndOf ?d_sLexAt ?d_sLexemes ?d_sWrongColour ?d_sWrongFit ?d_sFirstWrong ?d_sReadListed ?d_sReadBlock ?d_sReadFit ?d_sReadTable ?d_sSource ?d_sPick ?d_sOf ?d_sSpaced ?d_sRun ?d_sLIsWord ?d_sLLexeme ?d_sRules ?d_sWrongPlace ?d_sDrawn ?d_sSpoilt ?d_sDue ?d_sTold ?d_sLexTold ?d_sTextRight ?d_sHandRight ?d_sLongRight ?d_sLaw ?LT ?TT ?d_sXInit ?d_sXIsNext ?d_sXGo ?d_sXTake ?d_sXWord ?d_sXFinish ?d_sTInit ?E5 ?E3 ?XT) hmg
    case LT =>
      refine' Kin.lexer_mk KX G ?a ?pg ?hd ?po ?sa ?n0 ?n1
      case a => k_is
      case pg => k_is
      case hd => k_is
      case po => k_is
      case sa => k_is
      case n0 => k_is
      case n1 => k_is
    case TT =>
      refine' Kin.table_mk KX G ?a ?pg ?hd ?po ?sa ?n0 ?n1 ?n2
      case a => k_is
      case pg => k_is
      case hd => k_is
      case po => k_is
      case sa => k_is
      case n0 => k_is
      case n1 => k_is
      case n2 => k_is
    case E5 =>
      refine' Kin.exc_mk KX G ?a ?xL ?sa ?nf ?ic ?ti ?kc ?ec ?tc ?l ?c ?ce ?co ?c2 ?cf ?su ?gs ?sv ?sc ?op
      case a => k_is
      case xL => k_is
      case sa => k_is
      case nf => k_is
      case ic => k_is
      case ti => k_is
      case kc => k_is
      case ec => k_is
      case tc => k_is
      case l => k_is
      case c => k_is
      case ce => k_is
      case co => k_is
      case c2 => rfl
      case cf => decide +kernel
      case su => ks_is
      case gs => k_is
      case sv => k_is
      case sc => k_is
      case op => k_is
    case E3 =>
      refine' Kin.exc_mk KX G ?a ?xL ?sa ?nf ?ic ?ti ?kc ?ec ?tc ?l ?c ?ce ?co ?c2 ?cf ?su ?gs ?sv ?sc ?op
      case a => k_is
      case xL => k_is
      case sa => k_is
      case nf => k_is
      case ic => k_is
      case ti => k_is
      case kc => k_is
      case ec => k_is
      case tc => k_is
      case l => k_is
      case c => k_is
      case ce => k_is
      case co => k_is
      case c2 => rfl
      case cf => decide +kernel
      case su => ks_is
      case gs => k_is
      case sv => k_is
      case sc => k_is
      case op => k_is
    case XT =>
      refine' Kin.excs_mk ?ga ?gg ?eb ?hb ?tb ?ef ?hf ?tf ?s1 ?s2 ?s3
      case ga => k_is
      case gg => k_is
      case eb => k_is
      case hb => k_is
      case tb => k_is
      case ef => k_is
      case hf => k_is
      case tf => k_is
      case s1 => first | rfl | k_is
      case s2 => first | k_is | rfl
      case s3 => first | rfl | k_is
    case T =>
      refine' Kin.glob_mk KX G ?b_len ?b_range ?b_all ?b_isinstance ?b_enumerate ?b_tuple ?b_list ?b_str ?b_int ?b_max ?b_abs ?b_repr ?n1 ?n2 ?n3 ?n4
      case b_len => k_is
      case b_range => k_is
      case b_all => k_is
      case b_isinstance => k_is
      case b_enumerate => k_is
      case b_tuple => k_is
      case b_list => k_is
      case b_str => k_is
      case b_int => k_is
      case b_max => k_is
      case b_abs => k_is
      case b_repr => k_is
      case n1 => k_is
      case n2 => k_is
      case n3 => k_is
      case n4 => k_is
    case d_sIsWord =>
      refine' Kin.def_mk KX G Kin.bd_sIsWord ?a ?l ?c ?k
      case a => k_is
      case l => k_is
      case c => k_is
      case k => k_is
    case d_sIsList =>
      refine' Kin.def_mk KX G Kin.bd_sIsList ?a ?l ?c ?k
      case a => k_is
      case l => k_is
      case c => k_is
      case k => k_is
    case d_sIsRow =>
      refine' Kin.def_mk KX G Kin.bd_sIsRow ?a ?l ?c ?k
      case a => k_is
      case l => k_is
      case c => k_is
      case k => k_is
    case d_sEndOf =>
      refine' Kin.def_mk KX G Kin.bd_sEndOf ?a ?l ?c ?k
      case a => k_is
      case l => k_is
      case c => k_is
      case k => k_is
    case d_sLexAt =>
      refine' Kin.def_mk KX G Kin.bd_sLexAt ?a ?l ?c ?k
      case a => k_is
      case l => k_is
      case c => k_is
      case k => k_is
    case d_sLexemes =>
      refine' Kin.def_mk KX G Kin.bd_sLexemes ?a ?l ?c ?k
      case a => k_is
      case l => k_is
      case c => k_is
      case k => k_is
    case d_sWrongColour =>
      refine' Kin.def_mk KX G Kin.bd_sWrongColour ?a ?l ?c ?k
      case a => k_is
      case l => k_is
      case c => k_is
      case k => k_is
    case d_sWrongFit =>
      refine' Kin.def_mk KX G Kin.bd_sWrongFit ?a ?l ?c ?k
      case a => k_is
      case l => k_is
      case c => k_is
      case k => k_is
    case d_sFirstWrong =>
      refine' Kin.def_mk KX G Kin.bd_sFirstWrong ?a ?l ?c ?k
      case a => k_is
      case l => k_is
      case c => k_is
      case k => k_is
    case d_sReadListed =>
      refine' Kin.def_mk KX G Kin.bd_sReadListed ?a ?l ?c ?k
      case a => k_is
      case l => k_is
      case c => k_is
      case k => k_is
    case d_sReadBlock =>
      refine' Kin.def_mk KX G Kin.bd_sReadBlock ?a ?l ?c ?k
      case a => k_is
      case l => k_is
      case c => k_is
      case k => k_is
    case d_sReadFit =>
      refine' Kin.def_mk KX G Kin.bd_sReadFit ?a ?l ?c ?k
      case a => k_is
      case l => k_is
      case c => k_is
      case k => k_is
    case d_sReadTable =>
      refine' Kin.def_mk KX G Kin.bd_sReadTable ?a ?l ?c ?k
      case a => k_is
      case l => k_is
      case c => k_is
      case k => k_is
    case d_sSource =>
      refine' Kin.def_mk KX G Kin.bd_sSource ?a ?l ?c ?k
      case a => k_is
      case l => k_is
      case c => k_is
      case k => k_is
    case d_sPick =>
      refine' Kin.def_mk KX G Kin.bd_sPick ?a ?l ?c ?k
      case a => k_is
      case l => k_is
      case c => k_is
      case k => k_is
    case d_sOf =>
      refine' Kin.def_mk KX G Kin.bd_sOf ?a ?l ?c ?k
      case a => k_is
      case l => k_is
      case c => k_is
      case k => k_is
    case d_sSpaced =>
      refine' Kin.def_mk KX G Kin.bd_sSpaced ?a ?l ?c ?k
      case a => k_is
      case l => k_is
      case c => k_is
      case k => k_is
    case d_sRun =>
      refine' Kin.def_mk KX G Kin.bd_sRun ?a ?l ?c ?k
      case a => k_is
      case l => k_is
      case c => k_is
      case k => k_is
    case d_sLIsWord =>
      refine' Kin.def_mk KX G Kin.bd_sLIsWord ?a ?l ?c ?k
      case a => k_is
      case l => k_is
      case c => k_is
      case k => k_is
    case d_sLLexeme =>
      refine' Kin.def_mk KX G Kin.bd_sLLexeme ?a ?l ?c ?k
      case a => k_is
      case l => k_is
      case c => k_is
      case k => k_is
    case d_sRules =>
      refine' Kin.def_mk KX G Kin.bd_sRules ?a ?l ?c ?k
      case a => k_is
      case l => k_is
      case c => k_is
      case k => k_is
    case d_sWrongPlace =>
      refine' Kin.def_mk KX G Kin.bd_sWrongPlace ?a ?l ?c ?k
      case a => k_is
      case l => k_is
      case c => k_is
      case k => k_is
    case d_sDrawn =>
      refine' Kin.def_mk KX G Kin.bd_sDrawn ?a ?l ?c ?k
      case a => k_is
      case l => k_is
      case c => k_is
      case k => k_is
    case d_sSpoilt =>
      refine' Kin.def_mk KX G Kin.bd_sSpoilt ?a ?l ?c ?k
      case a => k_is
      case l => k_is
      case c => k_is
      case k => k_is
    case d_sDue =>
      refine' Kin.def_mk KX G Kin.bd_sDue ?a ?l ?c ?k
      case a => k_is
      case l => k_is
      case c => k_is
      case k => k_is
    case d_sTold =>
      refine' Kin.def_mk KX G Kin.bd_sTold ?a ?l ?c ?k
      case a => k_is
      case l => k_is
      case c => k_is
      case k => k_is
    case d_sLexTold =>
      refine' Kin.def_mk KX G Kin.bd_sLexTold ?a ?l ?c ?k
      case a => k_is
      case l => k_is
      case c => k_is
      case k => k_is
    case d_sTextRight =>
      refine' Kin.def_mk KX G Kin.bd_sTextRight ?a ?l ?c ?k
      case a => k_is
      case l => k_is
      case c => k_is
      case k => k_is
    case d_sHandRight =>
      refine' Kin.def_mk KX G Kin.bd_sHandRight ?a ?l ?c ?k
      case a => k_is
      case l => k_is
      case c => k_is
      case k => k_is
    case d_sLongRight =>
      refine' Kin.def_mk KX G Kin.bd_sLongRight ?a ?l ?c ?k
      case a => k_is
      case l => k_is
      case c => k_is
      case k => k_is
    case d_sLaw =>
      refine' Kin.def_mk KX G Kin.bd_sLaw ?a ?l ?c ?k
      case a => k_is
      case l => k_is
      case c => k_is
      case k => k_is
    case d_sXInit =>
      refine' Kin.init_mk Kin.bd_sXInit ?m ?kc ?a ?i ?l ?c
      case m => k_is
      case kc => k_is
      case a => k_is
      case i => k_is
      case l => k_is
      case c => k_is
    case d_sXIsNext =>
      refine' Kin.meth_mk Kin.bd_sXIsNext ?a ?i ?l ?c ?k
      case a => k_is
      case i => k_is
      case l => k_is
      case c => k_is
      case k => k_is
    case d_sXGo =>
      refine' Kin.meth_mk Kin.bd_sXGo ?a ?i ?l ?c ?k
      case a => k_is
      case i => k_is
      case l => k_is
      case c => k_is
      case k => k_is
    case d_sXTake =>
      refine' Kin.meth_mk Kin.bd_sXTake ?a ?i ?l ?c ?k
      case a => k_is
      case i => k_is
      case l => k_is
      case c => k_is
      case k => k_is
    case d_sXWord =>
      refine' Kin.meth_mk Kin.bd_sXWord ?a ?i ?l ?c ?k
      case a => k_is
      case i => k_is
      case l => k_is
      case c => k_is
      case k => k_is
    case d_sXFinish =>
      refine' Kin.meth_mk Kin.bd_sXFinish ?a ?i ?l ?c ?k
      case a => k_is
      case i => k_is
      case l => k_is
      case c => k_is
      case k => k_is
    case d_sTInit =>
      refine' Kin.init_mk Kin.bd_sTInit ?m ?kc ?a ?i ?l ?c
      case m => k_is
      case kc => k_is
      case a => k_is
      case i => k_is
      case l => k_is
      case c => k_is
#print axioms PySem.Challenge.cw_kindredbush_k09_whole_wrong_places_of_te_holds
