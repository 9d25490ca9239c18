import PyProof.Rows.All
import Wide.All
import OpenK.AllK
import Wide.FinOn
import HandS.ForMost
import HandS.Defaults
import HandS.Codes
import HandS.TupAny
import HandS.Style
import HandS.IsInst
import HandS.StrMore
import HandS.Replace
import HandS.Walk
import HandS.Zip
import KE.KStateDown
import HandS.Head0
import HandS.Head1
import HandS.Head2
import HandS.HeadEnd
import HandS.HeadHook1
import HandS.HeadHook2
import PySem.Challenge.RW_ownclosers_k46_whole_true_books_do_not_h
import HandS.Steps
import HandS.Conv
import HandS.Deep
import KE.GoesEnum
import KE.GoesMore
import HandS.TupSets
import KE.SortData
/-! part KM -/
set_option Elab.async false
set_option linter.all false
/-! The mathematics, with no program in sight: pages, readings, stands, and why a true book does not harm. -/
namespace KM

/-! ### signs -/
def opn (c : Nat) : Bool := c == 40 || c == 91
def cls (c : Nat) : Bool := c == 41 || c == 93
def ltr (c : Nat) : Bool := decide (97 ≤ c) && decide (c ≤ 122)
def sgn (c : Nat) : Bool := opn c || cls c || c == 39 || c == 32 || c == 47 || ltr c
def clo (c : Nat) : Option Nat := if c = 39 then some 39 else if c = 40 then some 41 else if c = 91 then some 93 else none
def within (l : List Nat) : Bool := l.foldl (fun b c => if c = 47 then false else if c = 39 then !b else b) false
theorem within_snoc (l : List Nat) (c : Nat) : within (l ++ [c]) = if c = 47 then false else if c = 39 then !within l else within l := by
  simp [within, List.foldl_append]

/-! ### books, manners -/
inductive PutW where | always | free | never deriving DecidableEq
inductive QuoW where | always | apart | never deriving DecidableEq
inductive InsW where | same | none deriving DecidableEq
inductive OvrW where | own | any | never deriving DecidableEq
inductive BakW where | own | any | one deriving DecidableEq
inductive FgtW where | never | line deriving DecidableEq
structure Book where
  p : PutW
  q : QuoW
  i : InsW
  o : OvrW
  b : BakW
  f : FgtW
  deriving DecidableEq
structure Way where
  slips : Bool
  words : Bool
  later : Bool
  deriving DecidableEq

/-! ### what is meant -/
structure Rd where
  needs : List Nat
  before : Option Nat
  opn : Bool
def Rd.start : Rd := ⟨[], none, false⟩
def Rd.quoted (r : Rd) : Bool := decide (r.needs.head? = some 39)
def Rd.can (r : Rd) (c : Nat) : Bool := if r.quoted = true then !decide (c = 47) else if r.opn = true then ltr c else !cls c || decide (r.needs.head? = some c)
def Rd.read (words : Bool) (r : Rd) (c : Nat) : Rd :=
  if r.quoted = true then ⟨if c = 39 then r.needs.tail else r.needs, some c, false⟩
  else if (decide (c = 39) && words && (r.before.map ltr).getD false) = true then ⟨r.needs, some c, true⟩
  else ⟨match clo c with | some d => d :: r.needs | none => if cls c = true then r.needs.tail else r.needs, some c, false⟩
def Rd.whole (r : Rd) : Bool := decide (r.needs = []) && !r.opn

/-! ### pages; right: what is next comes first -/
structure Pg where
  left : List Nat
  right : List (Nat × Bool)
def Pg.start (R : List Nat) : Pg := ⟨[], R.map fun c => (c, false)⟩
def nxt (r : List (Nat × Bool)) : Option Nat := r.head?.map (·.1)
def nxtOwn : List (Nat × Bool) → Bool
  | [] => false
  | x :: _ => x.2
def free1 : Option Nat → Bool
  | none => true
  | some c => cls c || c == 39 || c == 32 || c == 47
def closing (c : Nat) : Bool := cls c || c == 39
def lastLtr (l : List Nat) : Bool := (l.getLast?.map ltr).getD false
def puts (B : Book) (pg : Pg) (c : Nat) : Bool :=
  if (!decide (B.i = .same) && within pg.left) = true then false
  else if opn c = true then decide (B.p = .always) || decide (B.p = .free) && free1 (nxt pg.right)
  else if (!decide (B.q = .apart)) = true then decide (B.q = .always)
  else free1 (nxt pg.right) && (!lastLtr pg.left && !decide (pg.left.getLast? = some 39))
def goesOver (B : Book) (pg : Pg) (c : Nat) : Bool := (closing c && decide (nxt pg.right = some c)) && (decide (B.o = .any) || decide (B.o = .own) && nxtOwn pg.right)
def lay (B : Book) (pg : Pg) (c : Nat) : List (Nat × Bool) := match clo c with
  | some d => if puts B pg c = true then (d, true) :: pg.right else pg.right
  | none => pg.right
def typeS (B : Book) (pg : Pg) (c : Nat) : Pg :=
  if goesOver B pg c = true then ⟨pg.left ++ [c], pg.right.tail⟩
  else ⟨pg.left ++ [c], if (decide (c = 47) && decide (B.f = .line)) = true then (lay B pg c).map (fun x => (x.1, false)) else lay B pg c⟩
def takes (B : Book) (r : List (Nat × Bool)) (c : Nat) : Bool := ((clo c).isSome && decide (nxt r = clo c)) && (decide (B.b = .any) || decide (B.b = .own) && nxtOwn r)
def back (B : Book) (pg : Pg) : Pg := match pg.left.getLast? with
  | none => pg
  | some c => ⟨pg.left.dropLast, if takes B pg.right c = true then pg.right.tail else pg.right⟩

/-- what is typed: a sign, or a slip -/
inductive Un where | sg (c : Nat) | sl (c : Nat)
def Un.pg (B : Book) (pg : Pg) : Un → Pg
  | .sg c => typeS B pg c
  | .sl c => back B (typeS B pg c)
def Un.rd (words : Bool) (r : Rd) : Un → Rd
  | .sg c => r.read words c
  | .sl _ => r
def Un.ok (M : Way) (r : Rd) : Un → Bool
  | .sg c => sgn c && r.can c
  | .sl c => sgn c && M.slips
def pgs (B : Book) (pg : Pg) (us : List Un) : Pg := us.foldl (Un.pg B) pg
def rds (words : Bool) (r : Rd) (us : List Un) : Rd := us.foldl (Un.rd words) r
def oks (M : Way) : Rd → List Un → Bool
  | _, [] => true
  | r, u :: us => u.ok M r && oks M (u.rd M.words r) us
def txt : List Un → List Nat
  | [] => []
  | .sg c :: us => c :: txt us
  | .sl _ :: us => txt us

/-! ### stands -/
inductive PlaceW where | out | in_ | word deriving DecidableEq
inductive CountW where | even | odd deriving DecidableEq
inductive BeforeW where | letter | quote | other deriving DecidableEq
inductive NearW where | closer | quote | rest deriving DecidableEq
inductive RestW where | blank | closer | end_ | quote | wall deriving DecidableEq
structure Stand where
  place : PlaceW
  count : CountW
  before : BeforeW
  near : NearW
  rest : RestW
  deriving DecidableEq
def flip : CountW → CountW
  | .even => .odd
  | .odd => .even
def room (s : Stand) : Bool := !decide (s.near = .rest) || !decide (s.rest = .wall)
def putsO (B : Book) (s : Stand) : Bool := if (decide (B.i = .none) && decide (s.count = .odd)) = true then false else decide (B.p = .always) || decide (B.p = .free) && room s
def putsQ (B : Book) (s : Stand) : Bool := if (decide (B.i = .none) && decide (s.count = .odd)) = true then false else decide (B.q = .always) || decide (B.q = .apart) && (room s && decide (s.before = .other))
def bared (B : Book) : List NearW := .rest :: if (!decide (B.p = .never)) = true then [.closer] else []
def forgets (B : Book) (s : Stand) : Bool := decide (B.f = .line) && (decide (B.o = .own) && !decide (s.near = .rest))
def with_ (s : Stand) (b : BeforeW) (ns : List NearW) : List Stand := ns.map fun n => ⟨s.place, s.count, b, n, s.rest⟩
def plainC (B : Book) (s : Stand) : List Stand × Bool :=
  if s.place = .word then ([⟨.out, s.count, .letter, s.near, s.rest⟩], false)
  else ((⟨s.place, s.count, .letter, s.near, s.rest⟩ :: with_ s .other [s.near]) ++ (if (decide (s.place = .out) && !(decide (s.place = .out) && forgets B s)) = true then [⟨.out, .even, .other, s.near, s.rest⟩] else []), decide (s.place = .out) && forgets B s)
def bracketC (B : Book) (s : Stand) : List Stand × Bool :=
  if s.place = .word then ([], false)
  else
    let bad := decide (s.place = .in_) && putsO B s
    let found := if bad = true then [] else with_ s .other [if putsO B s = true then .closer else s.near]
    if (decide (s.near = .closer) && !decide (B.o = .never)) = true then (found ++ with_ s .other (.closer :: bared B), bad)
    else
      let wrong := decide (s.near = .rest) && (decide (s.rest = .closer) && decide (B.o = .any)) || decide (s.near = .closer) && decide (s.place = .out)
      (found ++ (if wrong = true then [] else with_ s .other [s.near]), bad || wrong)
def quoteC (B : Book) (M : Way) (s : Stand) : List Stand × Bool :=
  if s.place = .word then ([], false)
  else
    let swallows := decide (s.near = .rest) && (decide (s.rest = .quote) && decide (B.o = .any))
    if (decide (s.place = .in_) && decide (s.near = .quote)) = true then
      if B.o = .never then ([], true) else ((bared B).map fun t => ⟨.out, flip s.count, .quote, t, s.rest⟩, false)
    else if s.place = .in_ then
      if (swallows || putsQ B s) = true then ([], true) else ([⟨.out, flip s.count, .quote, s.near, s.rest⟩], false)
    else
      let word := M.words && decide (s.before = .letter)
      if (swallows || word && putsQ B s) = true then ([], true)
      else ([⟨if word = true then .word else .in_, flip s.count, .quote, if putsQ B s = true then .quote else s.near, s.rest⟩], false)
def slipsC (B : Book) (s : Stand) : List Stand × Bool :=
  let stay := decide (s.near = .closer)
  let low := decide (s.near = .rest) && decide (s.rest = .closer)
  let quoted := decide (s.near = .rest) && decide (s.rest = .quote)
  let bad1 := if putsO B s = true then forgets B s || decide (B.b = .one) else forgets B s || low && decide (B.b = .any)
  let f1 := if putsO B s = true then [] else if (stay && !decide (B.b = .one)) = true then .closer :: bared B else []
  let bad2 := bad1 || low && decide (B.o = .any)
  let f2 := f1 ++ (if (stay && !decide (B.o = .never)) = true then .closer :: bared B else [])
  if (quoted && decide (B.o = .any)) = true then (with_ s s.before f2, true)
  else if (decide (s.near = .quote) && !decide (B.o = .never)) = true then (with_ s s.before (f2 ++ bared B), bad2 || decide (B.b = .any) && decide (s.rest = .quote))
  else if putsQ B s = true then (with_ s s.before f2, bad2 || decide (B.b = .one))
  else (with_ s s.before (f2 ++ (if (decide (s.near = .quote) && !decide (B.b = .one)) = true then bared B else [])), bad2 || quoted && decide (B.b = .any))
def come (B : Book) (M : Way) (s : Stand) : List Stand × Bool :=
  let four := if M.slips = true then slipsC B s else ([], false)
  ((plainC B s).1 ++ (bracketC B s).1 ++ (quoteC B M s).1 ++ four.1, (plainC B s).2 || (bracketC B s).2 || (quoteC B M s).2 || four.2)
def firsts (M : Way) : List Stand := (if M.later = true then [.blank, .closer, .end_, .quote, .wall] else [.end_]).map fun r => ⟨.out, .even, .other, .rest, r⟩
/-- whether a book is true, by its choices -/
def isTrue (B : Book) (M : Way) : Bool :=
  if (decide (B.o = .any) && M.later) = true then false
  else if (decide (B.p = .never) && decide (B.q = .never)) = true then !decide (B.b = .any) || (!M.slips || !M.later)
  else if (M.words || decide (B.o = .never)) = true then false
  else if B.i = .same then decide (B.p = .never) && (decide (B.q = .always) && !M.slips)
  else if (M.slips && (decide (B.b = .one) || decide (B.b = .any) && M.later)) = true then false
  else decide (B.f = .never) || (decide (B.o = .any) || decide (B.p = .never) && !M.slips)

/-- the stands that come of the first ones -/
inductive Reach (B : Book) (M : Way) : Stand → Prop where
  | first {s : Stand} (h : s ∈ firsts M) : Reach B M s
  | next {s t : Stand} (h : Reach B M s) (ht : t ∈ (come B M s).1) : Reach B M t

/-! ### the stand behind a page and a reading -/
def placeOf (r : Rd) : PlaceW := if r.quoted = true then .in_ else if r.opn = true then .word else .out
def countOf (l : List Nat) : CountW := if within l = true then .odd else .even
def beforeOf (l : List Nat) : BeforeW := if lastLtr l = true then .letter else if l.getLast? = some 39 then .quote else .other
def restOf (R : List Nat) : RestW := match R.head? with
  | none => .end_
  | some c => if cls c = true then .closer else if c = 39 then .quote else if free1 (some c) = true then .blank else .wall
def nearAt (pg : Pg) (R : List Nat) : NearW := if R.length < pg.right.length then (if nxt pg.right = some 39 then .quote else .closer) else .rest
def standOf (pg : Pg) (r : Rd) (R : List Nat) : Stand := ⟨placeOf r, countOf pg.left, beforeOf pg.left, nearAt pg R, restOf R⟩
end KM

/-! part KM2 -/
set_option Elab.async false
set_option linter.all false
set_option maxHeartbeats 4000000
namespace KM

/-! ### what holds where no slip is open -/
def nearE : List (Nat × Bool) → NearW
  | [] => .rest
  | e :: _ => if e.1 = 39 then .quote else .closer
theorem nearE_cons (e : Nat × Bool) (r : List (Nat × Bool)) : nearE (e :: r) = if e.1 = 39 then .quote else .closer := rfl
structure NeedsOk (n : List Nat) : Prop where
  hd : ∀ c, n.head? = some c → cls c = true ∨ c = 39
  tl : ∀ c, c ∈ n.tail → cls c = true
structure Inv (B : Book) (R : List Nat) (pg : Pg) (rd : Rd) (ed : List (Nat × Bool)) : Prop where
  right : pg.right = ed ++ R.map fun c => (c, false)
  sub : (ed.map (·.1)).Sublist rd.needs
  own : B.o = .own → ∀ e ∈ ed, e.2 = true
  put : B.p = .never → ∀ e ∈ ed, e.1 = 39
  needs : NeedsOk rd.needs
  word : rd.opn = true → rd.quoted = false
  before : pg.left.getLast? = rd.before

theorem cls_ne {c : Nat} (h : cls c = true) : c ≠ 39 ∧ c ≠ 47 ∧ opn c = false ∧ ltr c = false ∧ clo c = none ∧ c ≠ 32 := by
  unfold cls at h
  simp only [Bool.or_eq_true, beq_iff_eq] at h
  rcases h with e | e <;> subst e <;> decide
theorem opn_ne {c : Nat} (h : opn c = true) : c ≠ 39 ∧ c ≠ 47 ∧ cls c = false ∧ ltr c = false ∧ ∃ d, clo c = some d ∧ cls d = true := by
  unfold opn at h
  simp only [Bool.or_eq_true, beq_iff_eq] at h
  rcases h with e | e <;> subst e
  · exact ⟨by decide, by decide, by decide, by decide, 41, by decide, by decide⟩
  · exact ⟨by decide, by decide, by decide, by decide, 93, by decide, by decide⟩
theorem ltr_ne {c : Nat} (h : ltr c = true) : c ≠ 39 ∧ c ≠ 47 ∧ opn c = false ∧ cls c = false ∧ clo c = none ∧ closing c = false := by
  unfold ltr at h
  simp only [Bool.and_eq_true, decide_eq_true_eq] at h
  obtain ⟨h1, h2⟩ := h
  have a : ∀ k, c ≠ k ∨ c = k := fun k => by omega
  refine ⟨by omega, by omega, ?_, ?_, ?_, ?_⟩
  · simp [opn]; omega
  · simp [cls]; omega
  · unfold clo; rw [if_neg (by omega), if_neg (by omega), if_neg (by omega)]
  · simp [closing, cls]; omega
theorem sgn_cases {c : Nat} (h : sgn c = true) : opn c = true ∨ cls c = true ∨ c = 39 ∨ c = 32 ∨ c = 47 ∨ ltr c = true := by
  unfold sgn at h
  simp only [Bool.or_eq_true, beq_iff_eq] at h
  rcases h with ((((h | h) | h) | h) | h) | h
  · exact .inl h
  · exact .inr (.inl h)
  · exact .inr (.inr (.inl h))
  · exact .inr (.inr (.inr (.inl h)))
  · exact .inr (.inr (.inr (.inr (.inl h))))
  · exact .inr (.inr (.inr (.inr (.inr h))))

section
variable {B : Book} {M : Way} {R : List Nat} {pg : Pg} {rd : Rd} {ed : List (Nat × Bool)}
theorem Inv.mem (I : Inv B R pg rd ed) {e : Nat × Bool} (h : e ∈ ed) : cls e.1 = true ∨ e.1 = 39 := by
  have h1 : e.1 ∈ rd.needs := I.sub.subset (List.mem_map_of_mem h)
  cases q : rd.needs with
  | nil => rw [q] at h1; cases h1
  | cons a r =>
    rw [q] at h1
    rcases List.mem_cons.mp h1 with z | z
    · rw [z]; exact I.needs.hd a (by rw [q]; rfl)
    · exact .inl (I.needs.tl _ (by rw [q]; exact z))
theorem Inv.near (I : Inv B R pg rd ed) : nearAt pg R = nearE ed := by
  unfold nearAt
  rw [I.right]
  cases ed with
  | nil => simp [nearE]
  | cons e r => simp [nearE, nxt]; omega
theorem nxt_nil {R : List Nat} : nxt ([] ++ R.map fun c => (c, false)) = R.head? := by
  cases R <;> rfl
theorem own_nil {R : List Nat} : nxtOwn ([] ++ R.map fun c => (c, false)) = false := by
  cases R <;> rfl
theorem restOf_cons (a : Nat) (r : List Nat) : restOf (a :: r) = if cls a = true then .closer else if a = 39 then .quote else if free1 (some a) = true then .blank else .wall := rfl
theorem free_rest {R : List Nat} : free1 R.head? = !decide (restOf R = .wall) := by
  cases R with
  | nil => rfl
  | cons a r =>
    rw [List.head?_cons, restOf_cons]
    by_cases h1 : cls a = true
    · rw [if_pos h1]; simp [free1, h1]
    · rw [if_neg h1]
      by_cases h2 : a = 39
      · rw [if_pos h2]; subst h2; rfl
      · rw [if_neg h2]
        by_cases h3 : free1 (some a) = true
        · rw [if_pos h3, h3]; rfl
        · rw [if_neg h3]; simpa using h3
theorem Inv.room (I : Inv B R pg rd ed) : free1 (nxt pg.right) = room (standOf pg rd R) := by
  unfold KM.room standOf
  simp only
  rw [I.near, I.right]
  cases q : ed with
  | nil =>
    rw [nxt_nil, free_rest]
    simp [nearE]
  | cons e r =>
    have h := I.mem (e := e) (by rw [q]; exact List.mem_cons_self)
    have h2 : free1 (some e.1) = true := by
      rcases h with h | h
      · simp [free1, h]
      · simp [free1, h]
    show free1 (some e.1) = _
    rw [h2, nearE_cons]
    by_cases z : e.1 = 39
    · rw [if_pos z]; rfl
    · rw [if_neg z]; rfl
theorem count_odd (l : List Nat) : decide (countOf l = .odd) = within l := by
  unfold countOf
  cases within l <;> rfl
theorem ins_none (i : InsW) : decide (i = .none) = !decide (i = .same) := by cases i <;> rfl
theorem Inv.putsO (I : Inv B R pg rd ed) {c : Nat} (h : opn c = true) : puts B pg c = putsO B (standOf pg rd R) := by
  unfold puts KM.putsO
  rw [I.room]
  show _ = if (decide (B.i = .none) && decide (countOf pg.left = .odd)) = true then _ else _
  rw [count_odd, ins_none, if_pos h]
theorem other_iff (l : List Nat) : decide (beforeOf l = .other) = (!lastLtr l && !decide (l.getLast? = some 39)) := by
  unfold beforeOf
  by_cases h1 : lastLtr l = true
  · rw [if_pos h1, h1]; rfl
  · have h0 : lastLtr l = false := by simpa using h1
    rw [if_neg h1, h0]
    by_cases h2 : l.getLast? = some 39
    · rw [if_pos h2]; simp [h2]
    · rw [if_neg h2]; simp [h2]
theorem Inv.putsQ (I : Inv B R pg rd ed) : puts B pg 39 = putsQ B (standOf pg rd R) := by
  unfold puts KM.putsQ
  rw [I.room]
  show _ = if (decide (B.i = .none) && decide (countOf pg.left = .odd)) = true then _ else decide (B.q = .always) || decide (B.q = .apart) && (KM.room (standOf pg rd R) && decide (beforeOf pg.left = .other))
  rw [count_odd, ins_none, if_neg (by decide : ¬ opn 39 = true), other_iff]
  split
  · rfl
  · cases B.q <;> simp
/-- going over what the editor has put in; over what stood behind -/
theorem Inv.over_cons (I : Inv B R pg rd ed) {e : Nat × Bool} {r : List (Nat × Bool)} (q : ed = e :: r) (c : Nat) : goesOver B pg c = ((closing c && decide (e.1 = c)) && !decide (B.o = .never)) → True := fun _ => trivial
theorem Inv.over1 (I : Inv B R pg rd ed) {e : Nat × Bool} {r : List (Nat × Bool)} (q : ed = e :: r) (c : Nat) (hn : B.o ≠ .never ∨ e.1 ≠ c) : goesOver B pg c = (closing c && decide (e.1 = c)) := by
  have hr : pg.right = e :: (r ++ R.map fun c => (c, false)) := by rw [I.right, q]; rfl
  unfold goesOver
  rw [hr]
  show ((closing c && decide (some e.1 = some c)) && (decide (B.o = OvrW.any) || decide (B.o = OvrW.own) && e.2)) = (closing c && decide (e.1 = c))
  have h1 : decide (some e.1 = some c) = decide (e.1 = c) := by simp
  rw [h1]
  by_cases hc : e.1 = c
  · have hn' : B.o ≠ .never := hn.resolve_right (fun z => z hc)
    have ho := I.own
    cases h : B.o with
    | own => rw [ho h e (by rw [q]; exact List.mem_cons_self)]; simp
    | any => simp
    | never => exact absurd h hn'
  · simp [hc]
theorem Inv.over2 (I : Inv B R pg rd ed) {e : Nat × Bool} {r : List (Nat × Bool)} (q : ed = e :: r) (c : Nat) (hn : B.o = .never) : goesOver B pg c = false := by
  unfold goesOver
  rw [hn]
  simp
theorem Inv.over0 (I : Inv B R pg rd ed) (q : ed = []) (c : Nat) : goesOver B pg c = ((closing c && decide (R.head? = some c)) && decide (B.o = .any)) := by
  unfold goesOver
  rw [I.right, q, nxt_nil, own_nil]
  simp

/-- how typing goes: over, or put down -/
theorem typeS_over {c : Nat} (h : goesOver B pg c = true) : typeS B pg c = ⟨pg.left ++ [c], pg.right.tail⟩ := by
  unfold typeS; rw [if_pos h]
theorem typeS_down {c : Nat} (h : goesOver B pg c = false) (h47 : c ≠ 47) : typeS B pg c = ⟨pg.left ++ [c], lay B pg c⟩ := by
  unfold typeS; rw [if_neg (by rw [h]; decide), if_neg (by simp [h47])]
theorem lay_none {c : Nat} (h : clo c = none) : lay B pg c = pg.right := by unfold lay; rw [h]
theorem lay_no {c : Nat} (h : puts B pg c = false) : lay B pg c = pg.right := by
  unfold lay
  cases clo c with
  | none => rfl
  | some d => simp only; rw [if_neg (by rw [h]; decide)]
theorem lay_yes {c d : Nat} (h : puts B pg c = true) (hd : clo c = some d) : lay B pg c = (d, true) :: pg.right := by
  unfold lay
  rw [hd]
  simp only
  rw [if_pos h]

theorem last_snoc (l : List Nat) (c : Nat) : (l ++ [c]).getLast? = some c := by simp
theorem lastLtr_snoc (l : List Nat) (c : Nat) : lastLtr (l ++ [c]) = ltr c := by simp [lastLtr]
theorem before_ltr {l : List Nat} {c : Nat} (h : ltr c = true) : beforeOf (l ++ [c]) = .letter := by
  unfold beforeOf; rw [lastLtr_snoc, if_pos h]
theorem before_quote {l : List Nat} : beforeOf (l ++ [39]) = .quote := by
  unfold beforeOf; rw [lastLtr_snoc, if_neg (by decide), last_snoc, if_pos rfl]
theorem before_other {l : List Nat} {c : Nat} (h : ltr c = false) (h2 : c ≠ 39) : beforeOf (l ++ [c]) = .other := by
  unfold beforeOf; rw [lastLtr_snoc, if_neg (by rw [h]; decide), last_snoc, if_neg (by simpa using h2)]
theorem count_same {l : List Nat} {c : Nat} (h : c ≠ 47) (h2 : c ≠ 39) : countOf (l ++ [c]) = countOf l := by
  unfold countOf; rw [within_snoc, if_neg h, if_neg h2]
theorem count_line {l : List Nat} : countOf (l ++ [47]) = .even := by
  unfold countOf; rw [within_snoc, if_pos rfl]; rfl
theorem count_quote {l : List Nat} : countOf (l ++ [39]) = flip (countOf l) := by
  unfold countOf; rw [within_snoc]; simp only [Nat.reduceEqDiff, if_false, if_true]; cases within l <;> rfl

/-! the parts of what comes -/
theorem come_plain {s t : Stand} (h : t ∈ (plainC B s).1) : t ∈ (come B M s).1 := by simp [come, h]
theorem come_bracket {s t : Stand} (h : t ∈ (bracketC B s).1) : t ∈ (come B M s).1 := by simp [come, h]
theorem come_quote {s t : Stand} (h : t ∈ (quoteC B M s).1) : t ∈ (come B M s).1 := by simp [come, h]
theorem come_slips {s t : Stand} (hs : M.slips = true) (h : t ∈ (slipsC B s).1) : t ∈ (come B M s).1 := by simp [come, hs, h]
theorem bad_parts {s : Stand} (h : (come B M s).2 = false) : (plainC B s).2 = false ∧ (bracketC B s).2 = false ∧ (quoteC B M s).2 = false ∧ (M.slips = true → (slipsC B s).2 = false) := by
  unfold come at h
  simp only [Bool.or_eq_false_iff] at h
  refine ⟨h.1.1.1, h.1.1.2, h.1.2, fun z => ?_⟩
  have h4 := h.2
  rw [if_pos z] at h4
  exact h4
/-- what comes to light behind a sign that the editor has put in -/
theorem Inv.bared (I : Inv B R pg rd ed) {e : Nat × Bool} {r : List (Nat × Bool)} (q : ed = e :: r) : nearE r ∈ KM.bared B := by
  cases r with
  | nil => simp [nearE, KM.bared]
  | cons x y =>
    have hx : cls x.1 = true := by
      have h1 := I.sub
      rw [q] at h1
      cases h2 : rd.needs with
      | nil => rw [h2] at h1; cases h1
      | cons a t =>
        rw [h2] at h1
        have h3 : ((x :: y).map (·.1)).Sublist t := by
          have h4 : (e.1 :: (x :: y).map (·.1)).Sublist (a :: t) := h1
          cases h4 with
          | cons _ h5 => exact (List.sublist_cons_self _ _).trans h5
          | cons_cons _ h5 => exact h5
        exact I.needs.tl _ (by rw [h2]; exact h3.subset List.mem_cons_self)
    have hp : B.p ≠ .never := fun z => (cls_ne hx).1 (I.put z x (by rw [q]; simp))
    rw [nearE_cons, if_neg (cls_ne hx).1]
    unfold KM.bared
    simp [hp]
end
end KM

/-! part KM3 -/
set_option Elab.async false
set_option linter.all false
set_option maxHeartbeats 8000000
namespace KM
section
variable {B : Book} {M : Way} {R : List Nat} {pg : Pg} {rd : Rd} {ed : List (Nat × Bool)}
/-- what a step has to show -/
structure Stp (B : Book) (M : Way) (R : List Nat) (pg' : Pg) (rd' : Rd) (ts : List Stand) : Prop where
  ex : ∃ ed', Inv B R pg' rd' ed' ∧ standOf pg' rd' R ∈ ts
theorem Inv.stand (I : Inv B R pg rd ed) : standOf pg rd R = ⟨placeOf rd, countOf pg.left, beforeOf pg.left, nearE ed, restOf R⟩ := by
  unfold standOf; rw [I.near]
theorem place_out (h1 : rd.quoted = false) (h2 : rd.opn = false) : placeOf rd = .out := by
  unfold placeOf; rw [h1, h2]; rfl
theorem place_in (h1 : rd.quoted = true) : placeOf rd = .in_ := by
  unfold placeOf; rw [h1]; rfl
theorem place_word (h1 : rd.quoted = false) (h2 : rd.opn = true) : placeOf rd = .word := by
  unfold placeOf; rw [h1, h2]; rfl
theorem quoted_hd (h : rd.quoted = true) : ∃ cs, rd.needs = 39 :: cs := by
  unfold Rd.quoted at h
  have h1 := of_decide_eq_true h
  cases q : rd.needs with
  | nil => rw [q] at h1; cases h1
  | cons a r => rw [q] at h1; exact ⟨r, by rw [Option.some.inj h1]⟩
theorem NeedsOk.tail {n : List Nat} (h : NeedsOk n) : NeedsOk n.tail := by
  cases n with
  | nil => exact ⟨(fun c z => nomatch z), (fun c z => nomatch z)⟩
  | cons a r =>
    refine ⟨fun c z => .inl (h.tl c ?_), fun c z => h.tl c (List.mem_of_mem_tail z)⟩
    cases r with
    | nil => cases z
    | cons b s => rw [← Option.some.inj z]; exact List.mem_cons_self
theorem NeedsOk.allCls {n : List Nat} (h : NeedsOk n) (hq : n.head? ≠ some 39) : ∀ c ∈ n, cls c = true := by
  cases n with
  | nil => intro c z; cases z
  | cons a r =>
    intro c z
    rcases List.mem_cons.mp z with e | z
    · rw [e]; exact (h.hd a rfl).resolve_right (fun q => hq (by rw [q]; rfl))
    · exact h.tl c z
theorem NeedsOk.push {n : List Nat} (h : NeedsOk n) (hq : n.head? ≠ some 39) {d : Nat} (hd : cls d = true ∨ d = 39) : NeedsOk (d :: n) :=
  ⟨fun c z => by rw [← Option.some.inj z]; exact hd, fun c z => h.allCls hq c z⟩
theorem not_quoted (h : rd.quoted = false) : rd.needs.head? ≠ some 39 := of_decide_eq_false h
theorem sub_tail {e : Nat} {l n : List Nat} {c : Nat} (h : (e :: l).Sublist (c :: n)) : l.Sublist n := by
  cases h with
  | cons _ h5 => exact (List.sublist_cons_self _ _).trans h5
  | cons_cons _ h5 => exact h5
theorem sub_ne {e : Nat} {l n : List Nat} {c : Nat} (h : (e :: l).Sublist (c :: n)) (hne : e ≠ c) : (e :: l).Sublist n := by
  cases h with
  | cons _ h5 => exact h5
  | cons_cons _ h5 => exact absurd rfl hne
/-- readings of the kinds of signs -/
theorem read_plain {w : Bool} {c : Nat} (hc : clo c = none) (hk : cls c = false) (hn : c ≠ 39) : rd.read w c = ⟨rd.needs, some c, false⟩ := by
  unfold Rd.read
  by_cases h : rd.quoted = true
  · rw [if_pos h, if_neg hn]
  · rw [if_neg h, if_neg (by simp [hn]), hc]
    simp only
    rw [if_neg (by rw [hk]; decide)]
theorem placeOf_same {n : List Nat} {b : Option Nat} (h : n = rd.needs) : placeOf ⟨n, b, false⟩ = if placeOf rd = .word then .out else placeOf rd := by
  subst h
  unfold placeOf
  show (if Rd.quoted ⟨rd.needs, b, false⟩ = true then _ else _) = _
  have e : Rd.quoted ⟨rd.needs, b, false⟩ = rd.quoted := rfl
  rw [e]
  cases rd.quoted <;> cases rd.opn <;> rfl
theorem Inv.plain (I : Inv B R pg rd ed) {c : Nat} {r : List (Nat × Bool)} {e' : List (Nat × Bool)} (hr : r = e' ++ R.map fun c => (c, false)) (hs : e'.map (·.1) = ed.map (·.1)) (ho : B.o = .own → ∀ e ∈ e', e.2 = true) (hp : B.p = .never → ∀ e ∈ e', e.1 = 39) :
    Inv B R ⟨pg.left ++ [c], r⟩ ⟨rd.needs, some c, false⟩ e' :=
  ⟨hr, by rw [hs]; exact I.sub, ho, hp, I.needs, fun z => (by cases z), last_snoc _ _⟩

theorem step_letter (I : Inv B R pg rd ed) {c : Nat} (hc : ltr c = true) : Stp B M R (typeS B pg c) (rd.read M.words c) (plainC B (standOf pg rd R)).1 := by
  obtain ⟨h1, h2, h3, h4, h5, h6⟩ := ltr_ne hc
  have hg : goesOver B pg c = false := by unfold goesOver; rw [h6]; rfl
  rw [typeS_down hg h2, lay_none h5, read_plain h5 h4 h1]
  have I' : Inv B R ⟨pg.left ++ [c], pg.right⟩ ⟨rd.needs, some c, false⟩ ed := I.plain I.right rfl I.own I.put
  refine ⟨ed, I', ?_⟩
  rw [I'.stand, I.stand, before_ltr hc, count_same h2 h1, placeOf_same rfl]
  unfold plainC
  simp only
  by_cases hw : placeOf rd = .word
  · rw [if_pos hw, if_pos hw]; simp
  · rw [if_neg hw, if_neg hw]; simp
theorem step_blank (I : Inv B R pg rd ed) (hcan : rd.can 32 = true) : Stp B M R (typeS B pg 32) (rd.read M.words 32) (plainC B (standOf pg rd R)).1 := by
  have hg : goesOver B pg 32 = false := by unfold goesOver; simp [closing, cls]
  rw [typeS_down hg (by decide), lay_none (by decide), read_plain (by decide) (by decide) (by decide)]
  have I' : Inv B R ⟨pg.left ++ [32], pg.right⟩ ⟨rd.needs, some 32, false⟩ ed := I.plain I.right rfl I.own I.put
  refine ⟨ed, I', ?_⟩
  have hw : placeOf rd ≠ .word := by
    intro z
    unfold placeOf at z
    by_cases h1 : rd.quoted = true
    · rw [if_pos h1] at z; cases z
    · rw [if_neg h1] at z
      unfold Rd.can at hcan
      rw [if_neg h1] at hcan
      by_cases h2 : rd.opn = true
      · rw [if_pos h2] at hcan; exact absurd hcan (by decide)
      · rw [if_neg h2] at z; cases z
  rw [I'.stand, I.stand, before_other (by decide) (by decide), count_same (by decide) (by decide), placeOf_same rfl, if_neg hw]
  unfold plainC
  simp only
  rw [if_neg hw]
  simp [with_]
theorem step_line (I : Inv B R pg rd ed) (hcan : rd.can 47 = true) (hb : (plainC B (standOf pg rd R)).2 = false) : Stp B M R (typeS B pg 47) (rd.read M.words 47) (plainC B (standOf pg rd R)).1 := by
  have hg : goesOver B pg 47 = false := by unfold goesOver; simp [closing, cls]
  have hq : rd.quoted = false := by
    cases h : rd.quoted with
    | false => rfl
    | true => unfold Rd.can at hcan; rw [if_pos h] at hcan; exact absurd hcan (by decide)
  have ho : rd.opn = false := by
    cases h : rd.opn with
    | false => rfl
    | true =>
      unfold Rd.can at hcan
      rw [if_neg (by rw [hq]; decide), if_pos h] at hcan
      exact absurd hcan (by decide)
  have hpl : placeOf rd = .out := place_out hq ho
  have hf : forgets B (standOf pg rd R) = false := by
    unfold plainC at hb
    rw [if_neg (by rw [I.stand]; simp [hpl])] at hb
    simp only at hb
    rw [I.stand] at hb ⊢
    simpa [hpl] using hb
  rw [read_plain (by decide) (by decide) (by decide)]
  unfold typeS
  rw [if_neg (by rw [hg]; decide), lay_none (by decide)]
  have key : ∃ e' : List (Nat × Bool), (if (decide (47 = 47) && decide (B.f = FgtW.line)) = true then pg.right.map (fun x => (x.1, false)) else pg.right) = e' ++ R.map (fun c => (c, false)) ∧ e'.map (·.1) = ed.map (·.1) ∧ (B.o = .own → ∀ e ∈ e', e.2 = true) ∧ (B.p = .never → ∀ e ∈ e', e.1 = 39) := by
    by_cases h : B.f = .line
    · rw [if_pos (by simp [h]), I.right]
      refine ⟨ed.map fun x => (x.1, false), by simp, by simp, fun z e he => ?_, fun z e he => ?_⟩
      · exfalso
        have hn : nearE ed = .rest := by
          rw [I.stand] at hf
          unfold forgets at hf
          simp only [h, z, decide_true, Bool.true_and] at hf
          simpa using hf
        cases ed with
        | nil => cases he
        | cons a b =>
          rw [nearE_cons] at hn
          split at hn <;> cases hn
      · obtain ⟨a, ha, e1⟩ := List.mem_map.mp he
        rw [← e1]
        exact I.put z a ha
    · rw [if_neg (by simp [h])]
      exact ⟨ed, I.right, rfl, I.own, I.put⟩
  obtain ⟨e', k1, k2, k3, k4⟩ := key
  have I' : Inv B R ⟨pg.left ++ [47], _⟩ ⟨rd.needs, some 47, false⟩ e' := I.plain k1 k2 k3 k4
  refine ⟨e', I', ?_⟩
  have hn : nearE e' = nearE ed := by
    cases e' with
    | nil =>
      cases ed with
      | nil => rfl
      | cons a b => cases k2
    | cons x y =>
      cases ed with
      | nil => cases k2
      | cons a b =>
        have e1 : x.1 = a.1 := (List.cons.inj k2).1
        rw [nearE_cons, nearE_cons, e1]
  rw [I'.stand, I.stand, before_other (by decide) (by decide), count_line, placeOf_same rfl, hpl, hn]
  rw [I.stand, hpl] at hf
  unfold plainC
  simp only
  rw [if_neg (by decide), hf]
  simp
theorem step_opener (I : Inv B R pg rd ed) {c : Nat} (hc : opn c = true) (hcan : rd.can c = true) (hb : (bracketC B (standOf pg rd R)).2 = false) : Stp B M R (typeS B pg c) (rd.read M.words c) (bracketC B (standOf pg rd R)).1 := by
  obtain ⟨h1, h2, h3, h4, d, hd, hdc⟩ := opn_ne hc
  have hg : goesOver B pg c = false := by unfold goesOver closing; simp [h3, h1]
  have hpu := I.putsO hc
  have hd39 : d ≠ 39 := (cls_ne hdc).1
  cases hq : rd.quoted with
  | true =>
    have hpl : placeOf rd = .in_ := place_in hq
    have hno : putsO B (standOf pg rd R) = false := by
      unfold bracketC at hb
      rw [if_neg (by rw [I.stand]; simp [hpl])] at hb
      have e : decide ((standOf pg rd R).place = .in_) = true := by rw [I.stand]; simp [hpl]
      simp only [e, Bool.true_and] at hb
      cases h : putsO B (standOf pg rd R) with
      | false => rfl
      | true =>
        rw [h] at hb
        split at hb
        · cases hb
        · cases hb
    rw [hno] at hpu
    rw [typeS_down hg h2, lay_no hpu]
    have hrd : rd.read M.words c = ⟨rd.needs, some c, false⟩ := by
      unfold Rd.read; rw [if_pos hq, if_neg h1]
    rw [hrd]
    have I' : Inv B R ⟨pg.left ++ [c], pg.right⟩ ⟨rd.needs, some c, false⟩ ed := I.plain I.right rfl I.own I.put
    refine ⟨ed, I', ?_⟩
    rw [I'.stand]
    unfold bracketC
    rw [if_neg (by rw [I.stand]; simp [hpl]), hno]
    rw [I.stand, before_other h4 h1, count_same h2 h1, placeOf_same rfl, hpl]
    simp only [decide_true, Bool.and_false, if_false, Bool.false_eq_true]
    split <;> simp [with_]
  | false =>
    have ho : rd.opn = false := by
      cases h : rd.opn with
      | false => rfl
      | true =>
        unfold Rd.can at hcan
        rw [if_neg (by rw [hq]; decide), if_pos h, h4] at hcan
        cases hcan
    have hpl : placeOf rd = .out := place_out hq ho
    have hrd : rd.read M.words c = ⟨d :: rd.needs, some c, false⟩ := by
      unfold Rd.read
      rw [if_neg (by rw [hq]; decide), if_neg (by simp [h1]), hd]
    rw [hrd, typeS_down hg h2]
    have hpl' : placeOf ⟨d :: rd.needs, some c, false⟩ = .out := place_out (by unfold Rd.quoted; simpa using hd39) rfl
    have hnd := I.needs.push (not_quoted hq) (.inl hdc)
    have fin : ∀ (nr : NearW), (if putsO B (standOf pg rd R) = true then NearW.closer else nearE ed) = nr → (⟨.out, countOf pg.left, .other, nr, restOf R⟩ : Stand) ∈ (bracketC B (standOf pg rd R)).1 := by
      intro nr hnr
      unfold bracketC
      rw [if_neg (by rw [I.stand]; simp [hpl])]
      generalize hP : putsO B (standOf pg rd R) = P at hnr ⊢
      rw [I.stand, hpl]
      simp only [reduceCtorEq, decide_false, Bool.false_and, if_false, Bool.false_eq_true, hnr]
      split <;> simp [with_]
    cases hP : puts B pg c with
    | true =>
      rw [lay_yes hP hd]
      have I' : Inv B R ⟨pg.left ++ [c], (d, true) :: pg.right⟩ ⟨d :: rd.needs, some c, false⟩ ((d, true) :: ed) := by
        refine ⟨by rw [I.right]; rfl, I.sub.cons_cons d, fun z e he => ?_, fun z e he => ?_, hnd, fun z => (by cases z), last_snoc _ _⟩
        · rcases List.mem_cons.mp he with q | q
          · rw [q]
          · exact I.own z e q
        · exfalso
          rw [hpu] at hP
          unfold putsO at hP
          simp only [z, reduceCtorEq, decide_false, Bool.false_and, Bool.or_false] at hP
          split at hP <;> cases hP
      refine ⟨_, I', ?_⟩
      rw [I'.stand, before_other h4 h1, count_same h2 h1, hpl', nearE_cons, if_neg hd39]
      exact fin .closer (by rw [← hpu, hP]; rfl)
    | false =>
      rw [lay_no hP]
      have I' : Inv B R ⟨pg.left ++ [c], pg.right⟩ ⟨d :: rd.needs, some c, false⟩ ed :=
        ⟨I.right, I.sub.trans (List.sublist_cons_self _ _), I.own, I.put, hnd, fun z => (by cases z), last_snoc _ _⟩
      refine ⟨_, I', ?_⟩
      rw [I'.stand, before_other h4 h1, count_same h2 h1, hpl']
      exact fin _ (by rw [← hpu, hP]; rfl)
end
end KM

/-! part KM4 -/
set_option Elab.async false
set_option linter.all false
set_option maxHeartbeats 8000000
namespace KM
section
variable {B : Book} {M : Way} {R : List Nat} {pg : Pg} {rd : Rd} {ed : List (Nat × Bool)}
theorem near_cls {e : Nat × Bool} {r : List (Nat × Bool)} (h : cls e.1 = true) : nearE (e :: r) = .closer := by
  rw [nearE_cons, if_neg (cls_ne h).1]
theorem restOf_cls {R : List Nat} {c : Nat} (h : R.head? = some c) (hc : cls c = true) : restOf R = .closer := by
  cases R with
  | nil => cases h
  | cons a r => rw [restOf_cons, show a = c from Option.some.inj h, if_pos hc]
theorem restOf_quote {R : List Nat} (h : R.head? = some 39) : restOf R = .quote := by
  cases R with
  | nil => cases h
  | cons a r => rw [restOf_cons, show a = 39 from Option.some.inj h]; rfl
theorem Inv.tail (I : Inv B R pg rd ed) {e : Nat × Bool} {r : List (Nat × Bool)} (q : ed = e :: r) {n : List Nat} (hs : (r.map (·.1)).Sublist n) (hn : NeedsOk n) {l : List Nat} {b : Option Nat} {o : Bool} (hw : o = true → n.head? ≠ some 39) (hl : l.getLast? = b) :
    Inv B R ⟨l, pg.right.tail⟩ ⟨n, b, o⟩ r :=
  ⟨by rw [I.right, q]; rfl, hs, fun z x hx => I.own z x (by rw [q]; exact List.mem_cons_of_mem _ hx), fun z x hx => I.put z x (by rw [q]; exact List.mem_cons_of_mem _ hx), hn, fun z => decide_eq_false (hw z), hl⟩
theorem Inv.keep (I : Inv B R pg rd ed) {n : List Nat} (hs : (ed.map (·.1)).Sublist n) (hn : NeedsOk n) {l : List Nat} {b : Option Nat} {o : Bool} (hw : o = true → n.head? ≠ some 39) (hl : l.getLast? = b) :
    Inv B R ⟨l, pg.right⟩ ⟨n, b, o⟩ ed :=
  ⟨I.right, hs, I.own, I.put, hn, fun z => decide_eq_false (hw z), hl⟩

theorem step_closer (I : Inv B R pg rd ed) {c : Nat} (hc : cls c = true) (hcan : rd.can c = true) (hb : (bracketC B (standOf pg rd R)).2 = false) : Stp B M R (typeS B pg c) (rd.read M.words c) (bracketC B (standOf pg rd R)).1 := by
  obtain ⟨h1, h2, h3, h4, h5, h6⟩ := cls_ne hc
  have hclo : closing c = true := by unfold closing; rw [hc]; rfl
  have hpw : placeOf rd ≠ .word := by
    intro z
    unfold placeOf at z
    by_cases k1 : rd.quoted = true
    · rw [if_pos k1] at z; cases z
    · rw [if_neg k1] at z
      unfold Rd.can at hcan
      rw [if_neg k1] at hcan
      by_cases k2 : rd.opn = true
      · rw [if_pos k2, h4] at hcan; cases hcan
      · rw [if_neg k2] at z; cases z
  -- what is read: the needs behind, of which what stands there is a row
  have hread : ∃ n, rd.read M.words c = ⟨n, some c, false⟩ ∧ NeedsOk n ∧ placeOf ⟨n, some c, false⟩ = placeOf rd ∧ (∀ e r, ed = e :: r → (r.map (·.1)).Sublist n) ∧ (∀ e r, ed = e :: r → e.1 ≠ c ∨ placeOf rd = .in_ → (ed.map (·.1)).Sublist n) ∧ (ed = [] → (ed.map (·.1)).Sublist n) ∧ (placeOf rd = .out → ∀ e r, ed = e :: r → cls e.1 = true) := by
    cases hq : rd.quoted with
    | true =>
      have hr : rd.read M.words c = ⟨rd.needs, some c, false⟩ := by unfold Rd.read; rw [if_pos hq, if_neg h1]
      refine ⟨_, hr, I.needs, ?_, fun e r q => ?_, fun e r q _ => I.sub, fun _ => I.sub, fun z => ?_⟩
      · rw [placeOf_same rfl, if_neg hpw]
      · have k := I.sub
        rw [q] at k
        exact (List.sublist_cons_self _ _).trans k
      · rw [place_in hq] at z; cases z
    | false =>
      have ho : rd.opn = false := by
        cases h : rd.opn with
        | false => rfl
        | true => exact absurd (place_word hq h) hpw
      have hh : rd.needs.head? = some c := by
        unfold Rd.can at hcan
        rw [if_neg (by rw [hq]; decide), if_neg (by rw [ho]; decide), hc] at hcan
        simpa using hcan
      obtain ⟨cs, hcs⟩ : ∃ cs, rd.needs = c :: cs := by
        cases q : rd.needs with
        | nil => rw [q] at hh; cases hh
        | cons a r => rw [q] at hh; exact ⟨r, by rw [Option.some.inj hh]⟩
      have hr : rd.read M.words c = ⟨cs, some c, false⟩ := by
        unfold Rd.read
        rw [if_neg (by rw [hq]; decide), if_neg (by simp [h1]), h5]
        simp only
        rw [if_pos hc, hcs]
        rfl
      have hn : NeedsOk cs := by have := I.needs.tail; rw [hcs] at this; exact this
      refine ⟨cs, hr, hn, ?_, fun e r q => ?_, fun e r q hne => ?_, fun q => by rw [q]; exact List.nil_sublist _, fun _ e r q => ?_⟩
      · rw [place_out hq ho]
        refine place_out ?_ rfl
        unfold Rd.quoted
        refine decide_eq_false fun z => ?_
        cases cs with
        | nil => cases z
        | cons a b =>
          have k := I.needs.tl a (by rw [hcs]; exact List.mem_cons_self)
          exact (cls_ne k).1 (Option.some.inj z)
      · have k := I.sub
        rw [q, hcs] at k
        exact sub_tail k
      · have k := I.sub
        rw [hcs] at k
        rw [q] at k ⊢
        rcases hne with hne | z
        · exact sub_ne k hne
        · rw [place_out hq ho] at z; cases z
      · have k : e.1 ∈ rd.needs := I.sub.subset (by rw [q]; exact List.mem_cons_self)
        exact I.needs.allCls (not_quoted hq) _ k
  obtain ⟨n, hr, hn, hpl, s1, s2, s0, hout⟩ := hread
  rw [hr]
  have hbef : beforeOf (pg.left ++ [c]) = .other := before_other h4 h1
  have hcnt : countOf (pg.left ++ [c]) = countOf pg.left := count_same h2 h1
  have hw0 : (false = true → n.head? ≠ some 39) := fun z => by cases z
  -- the two ways out of the rule
  have memA : nearE ed = .closer → B.o ≠ .never → ∀ nr ∈ NearW.closer :: bared B, (⟨placeOf rd, countOf pg.left, .other, nr, restOf R⟩ : Stand) ∈ (bracketC B (standOf pg rd R)).1 := by
    intro k1 k2 nr k3
    rw [I.stand]
    unfold bracketC
    simp only
    rw [if_neg hpw, if_pos (by simp [k1, k2])]
    exact List.mem_append_right _ (List.mem_map.mpr ⟨nr, k3, rfl⟩)
  have memB : (nearE ed = .closer → B.o = .never) → (⟨placeOf rd, countOf pg.left, .other, nearE ed, restOf R⟩ : Stand) ∈ (bracketC B (standOf pg rd R)).1 ∧ (nearE ed = .closer → placeOf rd ≠ .out) ∧ ¬ (nearE ed = .rest ∧ restOf R = .closer ∧ B.o = .any) := by
    intro k1
    rw [I.stand] at hb ⊢
    unfold bracketC at hb ⊢
    simp only at hb ⊢
    rw [if_neg hpw] at hb ⊢
    have k2 : ¬ (decide (nearE ed = .closer) && !decide (B.o = .never)) = true := by
      intro z
      simp only [Bool.and_eq_true, decide_eq_true_eq, Bool.not_eq_true', decide_eq_false_iff_not] at z
      exact z.2 (k1 z.1)
    rw [if_neg k2] at hb ⊢
    have k3 := (Bool.or_eq_false_iff.mp hb).2
    refine ⟨?_, ?_, ?_⟩
    · rw [k3]
      exact List.mem_append_right _ (by simp [with_])
    · intro z1 z2
      rw [Bool.or_eq_false_iff] at k3
      have := k3.2
      simp [z1, z2] at this
    · rintro ⟨z1, z2, z3⟩
      rw [Bool.or_eq_false_iff] at k3
      have := k3.1
      simp [z1, z2, z3] at this
  cases q : ed with
  | nil =>
    have hov := I.over0 q c
    have hnr : nearE ed = .rest := by rw [q]; rfl
    obtain ⟨m1, _, m3⟩ := memB (fun z => by rw [hnr] at z; cases z)
    have hg : goesOver B pg c = false := by
      rw [hov, hclo]
      by_cases z : R.head? = some c
      · by_cases z2 : B.o = .any
        · exact absurd ⟨hnr, restOf_cls z hc, z2⟩ m3
        · simp [z2]
      · simp [z]
    rw [typeS_down hg h2, lay_none h5]
    have I' := I.keep (l := pg.left ++ [c]) (b := some c) (o := false) (s0 q) hn hw0 (last_snoc _ _)
    refine ⟨ed, by rw [← q] at *; exact I', ?_⟩
    rw [I'.stand, hbef, hcnt, hpl]
    exact m1
  | cons e r =>
    by_cases hov : goesOver B pg c = true
    · -- it goes over
      have hnev : B.o ≠ .never := fun z => by rw [I.over2 q c z] at hov; cases hov
      have hec : e.1 = c := by
        rw [I.over1 q c (.inl hnev), hclo] at hov
        simpa using hov
      have hnr : nearE ed = .closer := by rw [q]; exact near_cls (by rw [hec]; exact hc)
      rw [typeS_over hov]
      have I' := I.tail q (l := pg.left ++ [c]) (b := some c) (o := false) (s1 e r q) hn hw0 (last_snoc _ _)
      refine ⟨r, I', ?_⟩
      rw [I'.stand, hbef, hcnt, hpl]
      exact memA hnr hnev _ (List.mem_cons_of_mem _ (I.bared q))
    · have hg : goesOver B pg c = false := by simpa using hov
      rw [typeS_down hg h2, lay_none h5]
      have hnr : nearE ed = nearE (e :: r) := by rw [q]
      by_cases hnev : B.o = .never
      · obtain ⟨m1, m2, _⟩ := memB (fun _ => hnev)
        have hin : e.1 ≠ c ∨ placeOf rd = .in_ := by
          cases z : placeOf rd with
          | in_ => exact .inr rfl
          | word => exact absurd z hpw
          | out =>
            left
            intro z2
            exact m2 (by rw [q]; exact near_cls (by rw [z2]; exact hc)) z
        have I' := I.keep (l := pg.left ++ [c]) (b := some c) (o := false) (s2 e r q hin) hn hw0 (last_snoc _ _)
        refine ⟨ed, I', ?_⟩
        rw [I'.stand, hbef, hcnt, hpl]
        exact m1
      · have hec : e.1 ≠ c := by
          intro z
          rw [I.over1 q c (.inl hnev), hclo, z] at hg
          simp at hg
        have I' := I.keep (l := pg.left ++ [c]) (b := some c) (o := false) (s2 e r q (.inl hec)) hn hw0 (last_snoc _ _)
        refine ⟨ed, I', ?_⟩
        rw [I'.stand, hbef, hcnt, hpl]
        by_cases hk : nearE ed = .closer
        · rw [hk]
          exact memA hk hnev _ List.mem_cons_self
        · exact (memB (fun z => absurd z hk)).1
end
end KM

/-! part KM5 -/
set_option Elab.async false
set_option linter.all false
set_option maxHeartbeats 8000000
namespace KM
section
variable {B : Book} {M : Way} {R : List Nat} {pg : Pg} {rd : Rd} {ed : List (Nat × Bool)}
theorem Inv.noquote (I : Inv B R pg rd ed) (h : rd.quoted = false) : ∀ e ∈ ed, cls e.1 = true := fun e he =>
  I.needs.allCls (not_quoted h) _ (I.sub.subset (List.mem_map_of_mem he))
theorem Inv.near_nq (I : Inv B R pg rd ed) (h : rd.quoted = false) : nearE ed ≠ .quote := by
  cases q : ed with
  | nil => intro z; cases z
  | cons e r =>
    rw [near_cls (I.noquote h e (by rw [q]; exact List.mem_cons_self))]
    intro z; cases z
theorem step_quote_out (I : Inv B R pg rd ed) (hq : rd.quoted = false) (hcan : rd.can 39 = true) (hb : (quoteC B M (standOf pg rd R)).2 = false) : Stp B M R (typeS B pg 39) (rd.read M.words 39) (quoteC B M (standOf pg rd R)).1 := by
  have ho : rd.opn = false := by
    cases h : rd.opn with
    | false => rfl
    | true =>
      unfold Rd.can at hcan
      rw [if_neg (by rw [hq]; decide), if_pos h] at hcan
      exact absurd hcan (by decide)
  have hpl : placeOf rd = .out := place_out hq ho
  have hword : ((decide (39 = 39) && M.words && (rd.before.map ltr).getD false)) = (M.words && decide (beforeOf pg.left = .letter)) := by
    rw [← I.before]
    have e : (pg.left.getLast?.map ltr).getD false = decide (beforeOf pg.left = .letter) := by
      show lastLtr pg.left = _
      unfold beforeOf
      by_cases z : lastLtr pg.left = true
      · rw [if_pos z, z]; rfl
      · rw [if_neg z]
        have z2 : lastLtr pg.left = false := by simpa using z
        rw [z2]
        split <;> rfl
    rw [e]; simp
  rw [I.stand] at hb ⊢
  unfold quoteC at hb ⊢
  simp only [hpl] at hb ⊢
  rw [if_neg (by decide), if_neg (by simp), if_neg (by decide)] at hb ⊢
  have hpu : puts B pg 39 = putsQ B ⟨.out, countOf pg.left, beforeOf pg.left, nearE ed, restOf R⟩ := by
    rw [I.putsQ, I.stand, hpl]
  rw [← hpu] at hb ⊢
  -- nothing is gone over
  have hsw : (decide (nearE ed = .rest) && (decide (restOf R = .quote) && decide (B.o = .any))) = false ∧ (M.words && decide (beforeOf pg.left = .letter) && puts B pg 39) = false := by
    split at hb
    · cases hb
    · rename_i z
      rw [Bool.not_eq_true, Bool.or_eq_false_iff] at z
      exact z
  rw [if_neg (by rw [hsw.1, hsw.2]; decide)]
  have hg : goesOver B pg 39 = false := by
    cases q : ed with
    | nil =>
      rw [I.over0 q]
      by_cases z : R.head? = some 39
      · have z2 := hsw.1
        rw [q, restOf_quote z] at z2
        have z3 : decide (B.o = .any) = false := by simpa [nearE] using z2
        rw [z3, Bool.and_false]
      · simp [z]
    | cons e r =>
      have hne : e.1 ≠ 39 := (cls_ne (I.noquote hq e (by rw [q]; exact List.mem_cons_self))).1
      by_cases z : B.o = .never
      · exact I.over2 q 39 z
      · rw [I.over1 q 39 (.inl z)]
        simp [hne]
  rw [typeS_down hg (by decide)]
  have hct : countOf (pg.left ++ [39]) = flip (countOf pg.left) := count_quote
  have hbf : beforeOf (pg.left ++ [39]) = .quote := before_quote
  by_cases hw : (M.words && decide (beforeOf pg.left = .letter)) = true
  · have hp0 : puts B pg 39 = false := by
      have := hsw.2
      rw [hw, Bool.true_and] at this
      exact this
    have hr : rd.read M.words 39 = ⟨rd.needs, some 39, true⟩ := by
      unfold Rd.read
      rw [if_neg (by rw [hq]; decide), if_pos (hword.trans hw)]
    rw [hr, lay_no hp0]
    have I' := I.keep (n := rd.needs) (l := pg.left ++ [39]) (b := some 39) (o := true) I.sub I.needs (fun _ => not_quoted hq) (last_snoc _ _)
    refine ⟨ed, I', ?_⟩
    rw [I'.stand, hct, hbf, place_word (rd := ⟨rd.needs, some 39, true⟩) (by exact hq) rfl, if_pos hw, hp0]
    simp
  · have hr : rd.read M.words 39 = ⟨39 :: rd.needs, some 39, false⟩ := by
      unfold Rd.read
      rw [if_neg (by rw [hq]; decide), if_neg (by rw [hword]; exact hw)]
      rfl
    rw [hr, if_neg hw]
    have hnd := I.needs.push (not_quoted hq) (d := 39) (.inr rfl)
    have hpl' : ∀ b, placeOf ⟨39 :: rd.needs, b, false⟩ = .in_ := fun b => place_in (by unfold Rd.quoted; simp)
    cases hP : puts B pg 39 with
    | true =>
      rw [lay_yes hP (d := 39) (by decide)]
      have hnn : B.p = .never → ∀ e ∈ ((39, true) :: ed : List (Nat × Bool)), e.1 = 39 := fun z e he => by
        rcases List.mem_cons.mp he with k | k
        · rw [k]
        · exact I.put z e k
      have I' : Inv B R ⟨pg.left ++ [39], (39, true) :: pg.right⟩ ⟨39 :: rd.needs, some 39, false⟩ ((39, true) :: ed) :=
        ⟨by rw [I.right]; rfl, I.sub.cons_cons 39, fun z e he => by
          rcases List.mem_cons.mp he with k | k
          · rw [k]
          · exact I.own z e k, hnn, hnd, fun z => (by cases z), last_snoc _ _⟩
      refine ⟨_, I', ?_⟩
      rw [I'.stand, hct, hbf, hpl', nearE_cons]
      simp
    | false =>
      rw [lay_no hP]
      have I' := I.keep (n := 39 :: rd.needs) (l := pg.left ++ [39]) (b := some 39) (o := false) (I.sub.trans (List.sublist_cons_self _ _)) hnd (fun z => by cases z) (last_snoc _ _)
      refine ⟨_, I', ?_⟩
      rw [I'.stand, hct, hbf, hpl']
      simp
theorem step_quote_in (I : Inv B R pg rd ed) (hq : rd.quoted = true) (hb : (quoteC B M (standOf pg rd R)).2 = false) : Stp B M R (typeS B pg 39) (rd.read M.words 39) (quoteC B M (standOf pg rd R)).1 := by
  obtain ⟨cs, hcs⟩ := quoted_hd hq
  have hpl : placeOf rd = .in_ := place_in hq
  have hr : rd.read M.words 39 = ⟨cs, some 39, false⟩ := by
    unfold Rd.read; rw [if_pos hq, if_pos rfl, hcs]; rfl
  rw [hr]
  have hn : NeedsOk cs := by have := I.needs.tail; rw [hcs] at this; exact this
  have hcls : ∀ c ∈ cs, cls c = true := fun c hc => I.needs.tl c (by rw [hcs]; exact hc)
  have hpl' : ∀ b, placeOf ⟨cs, b, false⟩ = .out := fun b => place_out (by
    unfold Rd.quoted
    refine decide_eq_false fun z => ?_
    cases cs with
    | nil => cases z
    | cons a r => exact (cls_ne (hcls a List.mem_cons_self)).1 (Option.some.inj z)) rfl
  have hct : countOf (pg.left ++ [39]) = flip (countOf pg.left) := count_quote
  have hbf : beforeOf (pg.left ++ [39]) = .quote := before_quote
  rw [I.stand] at hb ⊢
  unfold quoteC at hb ⊢
  simp only [hpl] at hb ⊢
  rw [if_neg (by decide)] at hb ⊢
  by_cases hnq : nearE ed = .quote
  · rw [if_pos (by simp [hnq])] at hb ⊢
    have hnev : B.o ≠ .never := by
      intro z
      rw [if_pos z] at hb
      cases hb
    rw [if_neg hnev]
    cases q : ed with
    | nil => rw [q] at hnq; cases hnq
    | cons e r =>
      have he : e.1 = 39 := by
        rw [q, nearE_cons] at hnq
        by_cases z : e.1 = 39
        · exact z
        · rw [if_neg z] at hnq; cases hnq
      have hov : goesOver B pg 39 = true := by
        rw [I.over1 q 39 (.inl hnev), he]; decide
      rw [typeS_over hov]
      have hs : (r.map (·.1)).Sublist cs := by
        have k := I.sub
        rw [q, hcs] at k
        exact sub_tail k
      have I' := I.tail q (l := pg.left ++ [39]) (b := some 39) (o := false) hs hn (fun z => by cases z) (last_snoc _ _)
      refine ⟨r, I', ?_⟩
      rw [I'.stand, hct, hbf, hpl']
      exact List.mem_map.mpr ⟨_, I.bared q, rfl⟩
  · rw [if_neg (by simp [hnq])] at hb ⊢
    simp only [if_true] at hb ⊢
    have hpu : puts B pg 39 = putsQ B ⟨.in_, countOf pg.left, beforeOf pg.left, nearE ed, restOf R⟩ := by
      rw [I.putsQ, I.stand, hpl]
    rw [← hpu] at hb ⊢
    have hsw : (decide (nearE ed = .rest) && (decide (restOf R = .quote) && decide (B.o = .any))) = false ∧ puts B pg 39 = false := by
      split at hb
      · cases hb
      · rename_i z
        rw [Bool.not_eq_true, Bool.or_eq_false_iff] at z
        exact z
    rw [if_neg (by rw [hsw.1, hsw.2]; decide)]
    have hne : ∀ e r, ed = e :: r → e.1 ≠ 39 := fun e r q z => by
      rw [q, nearE_cons, if_pos z] at hnq
      exact hnq rfl
    have hg : goesOver B pg 39 = false := by
      cases q : ed with
      | nil =>
        rw [I.over0 q]
        by_cases z : R.head? = some 39
        · have z2 := hsw.1
          rw [q, restOf_quote z] at z2
          have z3 : decide (B.o = .any) = false := by simpa [nearE] using z2
          rw [z3, Bool.and_false]
        · simp [z]
      | cons e r =>
        by_cases z : B.o = .never
        · exact I.over2 q 39 z
        · rw [I.over1 q 39 (.inl z)]
          simp [hne e r q]
    rw [typeS_down hg (by decide), lay_no hsw.2]
    have hs : (ed.map (·.1)).Sublist cs := by
      cases q : ed with
      | nil => exact List.nil_sublist _
      | cons e r =>
        have k := I.sub
        rw [q, hcs] at k
        exact sub_ne k (hne e r q)
    have I' := I.keep (l := pg.left ++ [39]) (b := some 39) (o := false) hs hn (fun z => by cases z) (last_snoc _ _)
    refine ⟨ed, I', ?_⟩
    rw [I'.stand, hct, hbf, hpl']
    simp
/-- a sign that can come -/
theorem step_sg (I : Inv B R pg rd ed) {c : Nat} (hs : sgn c = true) (hcan : rd.can c = true) (hb : (come B M (standOf pg rd R)).2 = false) : Stp B M R (typeS B pg c) (rd.read M.words c) (come B M (standOf pg rd R)).1 := by
  obtain ⟨b1, b2, b3, _⟩ := bad_parts hb
  have up : ∀ {l : List Stand}, (∀ t, t ∈ l → t ∈ (come B M (standOf pg rd R)).1) → Stp B M R (typeS B pg c) (rd.read M.words c) l → Stp B M R (typeS B pg c) (rd.read M.words c) (come B M (standOf pg rd R)).1 := fun h z => by
    obtain ⟨e, h1, h2⟩ := z.ex
    exact ⟨e, h1, h _ h2⟩
  rcases sgn_cases hs with h | h | h | h | h | h
  · exact up (fun t ht => come_bracket ht) (step_opener I h hcan b2)
  · exact up (fun t ht => come_bracket ht) (step_closer I h hcan b2)
  · subst h
    cases hq : rd.quoted with
    | true => exact up (fun t ht => come_quote ht) (step_quote_in I hq b3)
    | false => exact up (fun t ht => come_quote ht) (step_quote_out I hq hcan b3)
  · subst h; exact up (fun t ht => come_plain ht) (step_blank I hcan)
  · subst h; exact up (fun t ht => come_plain ht) (step_line I hcan b1)
  · exact up (fun t ht => come_plain ht) (step_letter I h)
end
end KM

/-! part KM6 -/
set_option Elab.async false
set_option linter.all false
set_option maxHeartbeats 8000000
namespace KM
section
variable {B : Book} {M : Way} {R : List Nat} {pg : Pg} {rd : Rd} {ed : List (Nat × Bool)}
theorem back_eq (l : List Nat) (c : Nat) (r : List (Nat × Bool)) : back B ⟨l ++ [c], r⟩ = ⟨l, if takes B r c = true then r.tail else r⟩ := by
  unfold back
  simp
theorem back_none {l : List Nat} {c : Nat} {r : List (Nat × Bool)} (h : clo c = none) : back B ⟨l ++ [c], r⟩ = ⟨l, r⟩ := by
  rw [back_eq]
  have e : takes B r c = false := by unfold takes; rw [h]; rfl
  rw [e]; rfl
/-- what a slip has to show -/
def Sli (B : Book) (M : Way) (R : List Nat) (pg pg' : Pg) (rd : Rd) (ts : List Stand) : Prop := ∃ ed', Inv B R pg' rd ed' ∧ (standOf pg' rd R = standOf pg rd R ∨ standOf pg' rd R ∈ ts)
theorem sli_same (I : Inv B R pg rd ed) {ts : List Stand} : Sli B M R pg ⟨pg.left, pg.right⟩ rd ts := ⟨ed, I, .inl rfl⟩
theorem stay_mem {nr : NearW} {ns : List NearW} (I : Inv B R pg rd ed) (h : nr ∈ ns) : (⟨placeOf rd, countOf pg.left, beforeOf pg.left, nr, restOf R⟩ : Stand) ∈ with_ (standOf pg rd R) (standOf pg rd R).before ns := by
  rw [I.stand]
  exact List.mem_map.mpr ⟨nr, h, rfl⟩
/-- the parts of the slips -/
structure SlipOk (B : Book) (s : Stand) : Prop where
  line : forgets B s = false
  opn1 : putsO B s = true → B.b ≠ .one
  opn2 : putsO B s = false → s.near = .rest → s.rest = .closer → B.b ≠ .any
  cls : s.near = .rest → s.rest = .closer → B.o ≠ .any
  quo1 : s.near = .rest → s.rest = .quote → B.o ≠ .any
  quo2 : s.near = .quote → B.o ≠ .never → s.rest = .quote → B.b ≠ .any
  quo3 : ¬ (s.near = .quote ∧ B.o ≠ .never) → putsQ B s = true → B.b ≠ .one
  quo4 : ¬ (s.near = .quote ∧ B.o ≠ .never) → putsQ B s = false → s.near = .rest → s.rest = .quote → B.b ≠ .any
theorem slip_ok {s : Stand} (h : (slipsC B s).2 = false) : SlipOk B s := by
  unfold slipsC at h
  simp only at h
  have h1 : (if putsO B s = true then forgets B s || decide (B.b = .one) else forgets B s || (decide (s.near = .rest) && decide (s.rest = .closer)) && decide (B.b = .any)) = false ∧ ((decide (s.near = .rest) && decide (s.rest = .closer)) && decide (B.o = .any)) = false ∧ ¬ ((decide (s.near = .rest) && decide (s.rest = .quote)) && decide (B.o = .any)) = true := by
    split at h
    · cases h
    · rename_i z
      refine ⟨?_, ?_, z⟩ <;> (split at h <;> first | (simp only [Bool.or_eq_false_iff] at h; first | exact h.1.1 | exact h.1.2) | (split at h <;> (simp only [Bool.or_eq_false_iff] at h; first | exact h.1.1 | exact h.1.2)))
  obtain ⟨p1, p2, p3⟩ := h1
  rw [if_neg p3] at h
  refine ⟨?_, ?_, ?_, ?_, ?_, ?_, ?_, ?_⟩
  · split at p1 <;> exact (Bool.or_eq_false_iff.mp p1).1
  · intro z
    rw [if_pos z] at p1
    simpa using (Bool.or_eq_false_iff.mp p1).2
  · intro z z2 z3
    rw [if_neg (by rw [z]; decide), z2, z3] at p1
    simpa using (Bool.or_eq_false_iff.mp p1).2
  · intro z2 z3
    simpa [z2, z3] using p2
  · intro z2 z3
    simpa [z2, z3] using p3
  · intro z2 z3 z4
    rw [if_pos (by simp [z2, z3])] at h
    have := (Bool.or_eq_false_iff.mp h).2
    simpa [z4] using this
  · intro z z2
    rw [if_neg (by simpa using z), if_pos z2] at h
    simpa using (Bool.or_eq_false_iff.mp h).2
  · intro z z2 z3 z4
    rw [if_neg (by simpa using z), if_neg (by rw [z2]; decide)] at h
    have := (Bool.or_eq_false_iff.mp h).2
    simpa [z3, z4] using this
/-- what comes of the slips -/
theorem slip_in1 {s : Stand} {nr : NearW} (h1 : s.near = .closer) (h2 : (putsO B s = false ∧ B.b ≠ .one) ∨ B.o ≠ .never) (h : nr ∈ NearW.closer :: bared B) : (⟨s.place, s.count, s.before, nr, s.rest⟩ : Stand) ∈ (slipsC B s).1 := by
  have key : nr ∈ (if putsO B s = true then ([] : List NearW) else if (decide (s.near = .closer) && !decide (B.b = .one)) = true then .closer :: bared B else []) ++ (if (decide (s.near = .closer) && !decide (B.o = .never)) = true then .closer :: bared B else []) := by
    rcases h2 with ⟨a, b⟩ | b
    · rw [if_neg (by rw [a]; decide), if_pos (by simp [h1, b])]
      exact List.mem_append_left _ h
    · rw [if_pos (c := (decide (s.near = .closer) && !decide (B.o = .never)) = true) (by simp [h1, b])]
      exact List.mem_append_right _ h
  have up : ∀ l : List NearW, nr ∈ l → (⟨s.place, s.count, s.before, nr, s.rest⟩ : Stand) ∈ with_ s s.before l := fun l z => List.mem_map.mpr ⟨nr, z, rfl⟩
  unfold slipsC
  simp only
  split
  · exact up _ key
  · split
    · exact up _ (List.mem_append_left _ key)
    · split
      · exact up _ key
      · exact up _ (List.mem_append_left _ key)
theorem slip_in2 {s : Stand} {nr : NearW} (h1 : s.near = .quote) (h2 : B.o ≠ .never ∨ (putsQ B s = false ∧ B.b ≠ .one)) (h : nr ∈ bared B) : (⟨s.place, s.count, s.before, nr, s.rest⟩ : Stand) ∈ (slipsC B s).1 := by
  have up : ∀ l : List NearW, nr ∈ l → (⟨s.place, s.count, s.before, nr, s.rest⟩ : Stand) ∈ with_ s s.before l := fun l z => List.mem_map.mpr ⟨nr, z, rfl⟩
  unfold slipsC
  simp only
  rw [if_neg (by simp [h1])]
  by_cases z : B.o = .never
  · rcases h2 with a | ⟨a, b⟩
    · exact absurd z a
    · rw [if_neg (by simp [z]), if_neg (by rw [a]; decide), if_pos (c := (decide (s.near = .quote) && !decide (B.b = .one)) = true) (by simp [h1, b])]
      exact up _ (List.mem_append_right _ h)
  · rw [if_pos (by simp [h1, z])]
    exact up _ (List.mem_append_right _ h)
theorem takes_cons {e : Nat × Bool} {r : List (Nat × Bool)} {c d : Nat} (hd : clo c = some d) : takes B (e :: r) c = (decide (e.1 = d) && (decide (B.b = .any) || decide (B.b = .own) && e.2)) := by
  unfold takes
  rw [hd]
  show ((true && decide (some e.1 = some d)) && _) = _
  simp [nxtOwn]
theorem takes_rest {c d : Nat} (hd : clo c = some d) : takes B ([] ++ R.map fun c => (c, false)) c = (decide (R.head? = some d) && decide (B.b = .any)) := by
  unfold takes
  rw [hd, nxt_nil, own_nil]
  simp
theorem back_put {l : List Nat} {c d : Nat} {r : List (Nat × Bool)} (hd : clo c = some d) (hb : B.b ≠ .one) : back B ⟨l ++ [c], (d, true) :: r⟩ = ⟨l, r⟩ := by
  rw [back_eq, takes_cons hd]
  cases h : B.b with
  | own => simp
  | any => simp
  | one => exact absurd h hb

theorem slip_line (I : Inv B R pg rd ed) (hf : forgets B (standOf pg rd R) = false) {ts : List Stand} : Sli B M R pg (back B (typeS B pg 47)) rd ts := by
  have hg : goesOver B pg 47 = false := by unfold goesOver; simp [closing, cls]
  unfold typeS
  rw [if_neg (by rw [hg]; decide), lay_none (by decide), back_none (by decide)]
  by_cases h : B.f = .line
  · rw [if_pos (by simp [h]), I.right]
    have hown : B.o = .own → ed = [] := by
      intro z
      have hn : nearE ed = .rest := by
        rw [I.stand] at hf
        unfold forgets at hf
        simp only [h, z, decide_true, Bool.true_and] at hf
        simpa using hf
      cases ed with
      | nil => rfl
      | cons a b =>
        rw [nearE_cons] at hn
        split at hn <;> cases hn
    have I' : Inv B R ⟨pg.left, (ed ++ R.map fun c => (c, false)).map fun x => (x.1, false)⟩ rd (ed.map fun x => (x.1, false)) :=
      ⟨by simp, by rw [List.map_map]; exact I.sub, (fun z e he => by
        rw [hown z] at he
        exact absurd he List.not_mem_nil), (fun z e he => by
        obtain ⟨a, ha, e1⟩ := List.mem_map.mp he
        rw [← e1]
        exact I.put z a ha), I.needs, I.word, I.before⟩
    refine ⟨_, I', .inl ?_⟩
    have hn : nearE (ed.map fun x => (x.1, false)) = nearE ed := by cases ed <;> rfl
    rw [I'.stand, I.stand, hn]
  · rw [if_neg (by simp [h])]
    exact sli_same I
theorem slip_opener (I : Inv B R pg rd ed) {c : Nat} (hc : opn c = true) (K : SlipOk B (standOf pg rd R)) : Sli B M R pg (back B (typeS B pg c)) rd (slipsC B (standOf pg rd R)).1 := by
  obtain ⟨h1, h2, h3, h4, d, hd, hdc⟩ := opn_ne hc
  have hg : goesOver B pg c = false := by unfold goesOver closing; simp [h3, h1]
  rw [typeS_down hg h2]
  cases hP : puts B pg c with
  | true =>
    rw [lay_yes hP hd, back_put hd (K.opn1 (by rw [← I.putsO hc]; exact hP))]
    exact sli_same I
  | false =>
    have hPO : putsO B (standOf pg rd R) = false := by rw [← I.putsO hc]; exact hP
    rw [lay_no hP, back_eq]
    by_cases ht : takes B pg.right c = true
    · rw [if_pos ht]
      cases q : ed with
      | nil =>
        exfalso
        rw [I.right, q, takes_rest hd] at ht
        simp only [Bool.and_eq_true, decide_eq_true_eq] at ht
        refine K.opn2 hPO ?_ ?_ ht.2
        · rw [I.stand, q]; rfl
        · rw [I.stand]; exact restOf_cls ht.1 hdc
      | cons e r =>
        rw [I.right, q] at ht
        have ht' : takes B (e :: (r ++ R.map fun c => (c, false))) c = true := ht
        rw [takes_cons hd] at ht'
        simp only [Bool.and_eq_true, decide_eq_true_eq] at ht'
        have hne : B.b ≠ .one := fun z => by rw [z] at ht'; exact absurd ht'.2 (by simp)
        have hnr : (standOf pg rd R).near = .closer := by rw [I.stand, q]; exact near_cls (r := r) (by rw [ht'.1]; exact hdc)
        have hs : (r.map (·.1)).Sublist rd.needs := by
          have k := I.sub
          rw [q] at k
          exact (List.sublist_cons_self _ _).trans k
        have I' := I.tail (l := pg.left) (n := rd.needs) (b := rd.before) (o := rd.opn) q hs I.needs (fun z => not_quoted (I.word z)) I.before
        refine ⟨r, I', .inr ?_⟩
        rw [I'.stand]
        have m := slip_in1 (nr := nearE r) hnr (.inl ⟨hPO, hne⟩) (List.mem_cons_of_mem _ (I.bared q))
        rw [I.stand] at m ⊢
        exact m
    · rw [if_neg ht]
      exact sli_same I
theorem slip_closer (I : Inv B R pg rd ed) {c : Nat} (hc : cls c = true) (K : SlipOk B (standOf pg rd R)) : Sli B M R pg (back B (typeS B pg c)) rd (slipsC B (standOf pg rd R)).1 := by
  obtain ⟨h1, h2, h3, h4, h5, h6⟩ := cls_ne hc
  have hclo : closing c = true := by unfold closing; rw [hc]; rfl
  by_cases hov : goesOver B pg c = true
  · rw [typeS_over hov, back_none h5]
    cases q : ed with
    | nil =>
      exfalso
      rw [I.over0 q, hclo] at hov
      simp only [Bool.true_and, Bool.and_eq_true, decide_eq_true_eq] at hov
      refine K.cls ?_ ?_ hov.2
      · rw [I.stand, q]; rfl
      · rw [I.stand]; exact restOf_cls hov.1 hc
    | cons e r =>
      have hnev : B.o ≠ .never := fun z => by rw [I.over2 q c z] at hov; cases hov
      have hec : e.1 = c := by
        rw [I.over1 q c (.inl hnev), hclo] at hov
        simpa using hov
      have hnr : (standOf pg rd R).near = .closer := by rw [I.stand, q]; exact near_cls (r := r) (by rw [hec]; exact hc)
      have hs : (r.map (·.1)).Sublist rd.needs := by
        have k := I.sub
        rw [q] at k
        exact (List.sublist_cons_self _ _).trans k
      have I' := I.tail (l := pg.left) (n := rd.needs) (b := rd.before) (o := rd.opn) q hs I.needs (fun z => not_quoted (I.word z)) I.before
      refine ⟨r, I', .inr ?_⟩
      rw [I'.stand]
      have m := slip_in1 (nr := nearE r) hnr (.inr hnev) (List.mem_cons_of_mem _ (I.bared q))
      rw [I.stand] at m ⊢
      exact m
  · have hg : goesOver B pg c = false := by simpa using hov
    rw [typeS_down hg h2, lay_none h5, back_none h5]
    exact sli_same I
theorem slip_quote (I : Inv B R pg rd ed) (K : SlipOk B (standOf pg rd R)) : Sli B M R pg (back B (typeS B pg 39)) rd (slipsC B (standOf pg rd R)).1 := by
  have hclo : clo 39 = some 39 := rfl
  have tail_of : ∀ {e : Nat × Bool} {r : List (Nat × Bool)}, ed = e :: r → e.1 = 39 → ((B.o ≠ .never) ∨ (putsQ B (standOf pg rd R) = false ∧ B.b ≠ .one)) → Sli B M R pg ⟨pg.left, pg.right.tail⟩ rd (slipsC B (standOf pg rd R)).1 := by
    intro e r q he hh
    have hnr : (standOf pg rd R).near = .quote := by rw [I.stand, q]; show nearE (e :: r) = _; rw [nearE_cons, if_pos he]
    have hs : (r.map (·.1)).Sublist rd.needs := by
      have k := I.sub
      rw [q] at k
      exact (List.sublist_cons_self _ _).trans k
    have I' := I.tail (l := pg.left) (n := rd.needs) (b := rd.before) (o := rd.opn) q hs I.needs (fun z => not_quoted (I.word z)) I.before
    refine ⟨r, I', .inr ?_⟩
    rw [I'.stand]
    have m := slip_in2 (nr := nearE r) hnr hh (I.bared q)
    rw [I.stand] at m ⊢
    exact m
  by_cases hov : goesOver B pg 39 = true
  · rw [typeS_over hov]
    cases q : ed with
    | nil =>
      exfalso
      rw [I.over0 q] at hov
      simp only [Bool.and_eq_true, decide_eq_true_eq] at hov
      refine K.quo1 ?_ ?_ hov.2
      · rw [I.stand, q]; rfl
      · rw [I.stand]; exact restOf_quote hov.1.2
    | cons e r =>
      have hnev : B.o ≠ .never := fun z => by rw [I.over2 q 39 z] at hov; cases hov
      have hec : e.1 = 39 := by
        rw [I.over1 q 39 (.inl hnev)] at hov
        simpa [closing] using hov
      have hnr : (standOf pg rd R).near = .quote := by rw [I.stand, q]; show nearE (e :: r) = _; rw [nearE_cons, if_pos hec]
      have hr : pg.right.tail = r ++ R.map fun c => (c, false) := by rw [I.right, q]; rfl
      have ht : takes B pg.right.tail 39 = false := by
        rw [hr]
        cases r with
        | nil =>
          rw [takes_rest hclo]
          by_cases z : R.head? = some 39
          · have z2 := K.quo2 hnr hnev (by rw [I.stand]; exact restOf_quote z)
            simp [z2]
          · simp [z]
        | cons x y =>
          have hx : cls x.1 = true := by
            have k := I.sub
            rw [q] at k
            cases h2 : rd.needs with
            | nil => rw [h2] at k; cases k
            | cons a t =>
              rw [h2] at k
              exact I.needs.tl _ (by rw [h2]; exact (sub_tail k).subset List.mem_cons_self)
          show takes B (x :: (y ++ R.map fun c => (c, false))) 39 = false
          rw [takes_cons hclo]
          simp [(cls_ne hx).1]
      rw [back_eq, ht]
      exact tail_of q hec (.inl hnev)
  · have hg : goesOver B pg 39 = false := by simpa using hov
    rw [typeS_down hg (by decide)]
    have hnq : ¬ ((standOf pg rd R).near = .quote ∧ B.o ≠ .never) := by
      rintro ⟨z, z2⟩
      rw [I.stand] at z
      have z1 : nearE ed = .quote := z
      cases q : ed with
      | nil => rw [q] at z1; cases z1
      | cons e r =>
        rw [q, nearE_cons] at z1
        by_cases he : e.1 = 39
        · rw [I.over1 q 39 (.inl z2), he] at hg
          simp [closing] at hg
        · rw [if_neg he] at z1; cases z1
    cases hP : puts B pg 39 with
    | true =>
      rw [lay_yes hP hclo, back_put hclo (K.quo3 hnq (by rw [← I.putsQ]; exact hP))]
      exact sli_same I
    | false =>
      have hPQ : putsQ B (standOf pg rd R) = false := by rw [← I.putsQ]; exact hP
      rw [lay_no hP, back_eq]
      by_cases ht : takes B pg.right 39 = true
      · rw [if_pos ht]
        cases q : ed with
        | nil =>
          exfalso
          rw [I.right, q, takes_rest hclo] at ht
          simp only [Bool.and_eq_true, decide_eq_true_eq] at ht
          refine K.quo4 hnq hPQ ?_ ?_ ht.2
          · rw [I.stand, q]; rfl
          · rw [I.stand]; exact restOf_quote ht.1
        | cons e r =>
          rw [I.right, q] at ht
          have ht' : takes B (e :: (r ++ R.map fun c => (c, false))) 39 = true := ht
          rw [takes_cons hclo] at ht'
          simp only [Bool.and_eq_true, decide_eq_true_eq] at ht'
          have hne : B.b ≠ .one := fun z => by rw [z] at ht'; exact absurd ht'.2 (by simp)
          exact tail_of q ht'.1 (.inr ⟨hPQ, hne⟩)
      · rw [if_neg ht]
        exact sli_same I
/-- a slip -/
theorem step_sl (I : Inv B R pg rd ed) {c : Nat} (hs : sgn c = true) (hM : M.slips = true) (hb : (come B M (standOf pg rd R)).2 = false) : Sli B M R pg (back B (typeS B pg c)) rd (come B M (standOf pg rd R)).1 := by
  have K := slip_ok ((bad_parts hb).2.2.2 hM)
  have up : Sli B M R pg (back B (typeS B pg c)) rd (slipsC B (standOf pg rd R)).1 → Sli B M R pg (back B (typeS B pg c)) rd (come B M (standOf pg rd R)).1 := fun ⟨e, h1, h2⟩ => ⟨e, h1, h2.imp id (fun h => come_slips hM h)⟩
  rcases sgn_cases hs with h | h | h | h | h | h
  · exact up (slip_opener I h K)
  · exact up (slip_closer I h K)
  · subst h; exact up (slip_quote I K)
  · subst h
    have hg : goesOver B pg 32 = false := by unfold goesOver; simp [closing, cls]
    rw [typeS_down hg (by decide), lay_none (by decide), back_none (by decide)]
    exact sli_same I
  · subst h; exact slip_line I K.line
  · obtain ⟨h1, h2, h3, h4, h5, h6⟩ := ltr_ne h
    have hg : goesOver B pg c = false := by unfold goesOver; rw [h6]; rfl
    rw [typeS_down hg h2, lay_none h5, back_none h5]
    exact sli_same I

/-! ### a whole typing -/
theorem Inv.start (B : Book) (R : List Nat) : Inv B R (Pg.start R) Rd.start [] :=
  ⟨rfl, List.nil_sublist _, fun _ e h => (by cases h), fun _ e h => (by cases h), ⟨(fun c z => nomatch z), (fun c z => nomatch z)⟩, fun h => (by cases h), rfl⟩
theorem start_stand (B : Book) (M : Way) {R : List Nat} (h : M.later = true ∨ R = []) : Reach B M (standOf (Pg.start R) Rd.start R) := by
  refine .first ?_
  rw [(Inv.start B R).stand]
  unfold firsts
  refine List.mem_map.mpr ⟨restOf R, ?_, rfl⟩
  rcases h with h | h
  · rw [if_pos h]
    cases restOf R <;> simp
  · subst h
    split <;> simp [restOf]
/-- by a book of which no stand is faulty all is well at each time -/
theorem run_ok (hsafe : ∀ s, Reach B M s → (come B M s).2 = false) : ∀ (us : List Un) (pg : Pg) (rd : Rd) (ed : List (Nat × Bool)), Inv B R pg rd ed → Reach B M (standOf pg rd R) → oks M rd us = true →
    ∃ ed', Inv B R (pgs B pg us) (rds M.words rd us) ed' ∧ Reach B M (standOf (pgs B pg us) (rds M.words rd us) R)
  | [], pg, rd, ed, I, hr, _ => ⟨ed, I, hr⟩
  | u :: us, pg, rd, ed, I, hr, ho => by
    have ho' : (u.ok M rd && oks M (u.rd M.words rd) us) = true := ho
    rw [Bool.and_eq_true] at ho'
    obtain ⟨h1, h2⟩ := ho'
    have hb := hsafe _ hr
    cases u with
    | sg c =>
      have h3 : (sgn c && rd.can c) = true := h1
      rw [Bool.and_eq_true] at h3
      obtain ⟨ed', I', m⟩ := (step_sg I h3.1 h3.2 hb).ex
      exact run_ok hsafe us _ _ ed' I' (hr.next m) h2
    | sl c =>
      have h3 : (sgn c && M.slips) = true := h1
      rw [Bool.and_eq_true] at h3
      obtain ⟨ed', I', m⟩ := step_sl I h3.1 h3.2 hb
      refine run_ok hsafe us _ _ ed' I' ?_ h2
      rcases m with m | m
      · show Reach B M (standOf (back B (typeS B pg c)) rd R)
        rw [m]; exact hr
      · exact hr.next m
end
end KM

/-! part KM7 -/
set_option Elab.async false
set_option linter.all false
set_option maxHeartbeats 8000000
set_option maxRecDepth 100000
namespace KM
/-! ### true books: no stand that is reached is faulty (looked at one by one) -/
def PlaceW.n : PlaceW → Nat
  | .out => 0 | .in_ => 1 | .word => 2
def CountW.n : CountW → Nat
  | .even => 0 | .odd => 1
def BeforeW.n : BeforeW → Nat
  | .letter => 0 | .quote => 1 | .other => 2
def NearW.n : NearW → Nat
  | .closer => 0 | .quote => 1 | .rest => 2
def RestW.n : RestW → Nat
  | .blank => 0 | .closer => 1 | .end_ => 2 | .quote => 3 | .wall => 4
def code (s : Stand) : Nat := (((s.place.n * 2 + s.count.n) * 3 + s.before.n) * 3 + s.near.n) * 5 + s.rest.n
def places : List PlaceW := [.out, .in_, .word]
def counts : List CountW := [.even, .odd]
def befores : List BeforeW := [.letter, .quote, .other]
def nears : List NearW := [.closer, .quote, .rest]
def restsL : List RestW := [.blank, .closer, .end_, .quote, .wall]
def stands : List Stand := places.flatMap fun p => counts.flatMap fun c => befores.flatMap fun b => nears.flatMap fun n => restsL.map fun r => ⟨p, c, b, n, r⟩
theorem mem_stands (s : Stand) : s ∈ stands := by
  obtain ⟨p, c, b, n, r⟩ := s
  unfold stands
  refine List.mem_flatMap.mpr ⟨p, by cases p <;> simp [places], List.mem_flatMap.mpr ⟨c, by cases c <;> simp [counts], List.mem_flatMap.mpr ⟨b, by cases b <;> simp [befores], List.mem_flatMap.mpr ⟨n, by cases n <;> simp [nears], List.mem_map.mpr ⟨r, by cases r <;> simp [restsL], rfl⟩⟩⟩⟩⟩
def reachM (B : Book) (M : Way) : Nat → Nat → List Stand → Nat
  | 0, k, _ => k
  | _ + 1, k, [] => k
  | f + 1, k, s :: t => if k.testBit (code s) = true then reachM B M f k t else reachM B M f (k ||| (1 <<< code s)) ((come B M s).1 ++ t)
def safeB (B : Book) (M : Way) (k : Nat) : Bool :=
  ((firsts M).all fun s => k.testBit (code s)) && stands.all fun s => !k.testBit (code s) || (!(come B M s).2 && (come B M s).1.all fun t => k.testBit (code t))
theorem safe_of {B : Book} {M : Way} {k : Nat} (h : safeB B M k = true) : ∀ s, Reach B M s → (come B M s).2 = false := by
  unfold safeB at h
  rw [Bool.and_eq_true, List.all_eq_true, List.all_eq_true] at h
  obtain ⟨h1, h2⟩ := h
  have step : ∀ s, k.testBit (code s) = true → (come B M s).2 = false ∧ ∀ t ∈ (come B M s).1, k.testBit (code t) = true := by
    intro s hs
    have h3 := h2 s (mem_stands s)
    rw [hs] at h3
    simp only [Bool.not_true, Bool.false_or, Bool.and_eq_true, Bool.not_eq_true', List.all_eq_true] at h3
    exact h3
  have inn : ∀ s, Reach B M s → k.testBit (code s) = true := by
    intro s hs
    induction hs with
    | first h => exact h1 _ h
    | next _ ht ih => exact (step _ ih).2 _ ht
  intro s hs
  exact (step s (inn s hs)).1
def ways : List Way := [false, true].flatMap fun a => [false, true].flatMap fun b => [false, true].map fun c => ⟨a, b, c⟩
theorem mem_ways (M : Way) : M ∈ ways := by
  obtain ⟨a, b, c⟩ := M
  unfold ways
  refine List.mem_flatMap.mpr ⟨a, by cases a <;> simp, List.mem_flatMap.mpr ⟨b, by cases b <;> simp, List.mem_map.mpr ⟨c, by cases c <;> simp, rfl⟩⟩⟩
def safe4 (p : PutW) (q : QuoW) (i : InsW) (o : OvrW) : Bool := [BakW.own, .any, .one].all fun b => [FgtW.never, .line].all fun f => ways.all fun M => !isTrue ⟨p, q, i, o, b, f⟩ M || safeB ⟨p, q, i, o, b, f⟩ M (reachM ⟨p, q, i, o, b, f⟩ M 1000 0 (firsts M))
theorem safe_1 : safe4 .always .always .same .own = true := by decide +kernel
theorem safe_2 : safe4 .always .always .same .any = true := by decide +kernel
theorem safe_3 : safe4 .always .always .same .never = true := by decide +kernel
theorem safe_4 : safe4 .always .always .none .own = true := by decide +kernel
theorem safe_5 : safe4 .always .always .none .any = true := by decide +kernel
theorem safe_6 : safe4 .always .always .none .never = true := by decide +kernel
theorem safe_7 : safe4 .always .apart .same .own = true := by decide +kernel
theorem safe_8 : safe4 .always .apart .same .any = true := by decide +kernel
theorem safe_9 : safe4 .always .apart .same .never = true := by decide +kernel
theorem safe_10 : safe4 .always .apart .none .own = true := by decide +kernel
theorem safe_11 : safe4 .always .apart .none .any = true := by decide +kernel
theorem safe_12 : safe4 .always .apart .none .never = true := by decide +kernel
theorem safe_13 : safe4 .always .never .same .own = true := by decide +kernel
theorem safe_14 : safe4 .always .never .same .any = true := by decide +kernel
theorem safe_15 : safe4 .always .never .same .never = true := by decide +kernel
theorem safe_16 : safe4 .always .never .none .own = true := by decide +kernel
theorem safe_17 : safe4 .always .never .none .any = true := by decide +kernel
theorem safe_18 : safe4 .always .never .none .never = true := by decide +kernel
theorem safe_19 : safe4 .free .always .same .own = true := by decide +kernel
theorem safe_20 : safe4 .free .always .same .any = true := by decide +kernel
theorem safe_21 : safe4 .free .always .same .never = true := by decide +kernel
theorem safe_22 : safe4 .free .always .none .own = true := by decide +kernel
theorem safe_23 : safe4 .free .always .none .any = true := by decide +kernel
theorem safe_24 : safe4 .free .always .none .never = true := by decide +kernel
theorem safe_25 : safe4 .free .apart .same .own = true := by decide +kernel
theorem safe_26 : safe4 .free .apart .same .any = true := by decide +kernel
theorem safe_27 : safe4 .free .apart .same .never = true := by decide +kernel
theorem safe_28 : safe4 .free .apart .none .own = true := by decide +kernel
theorem safe_29 : safe4 .free .apart .none .any = true := by decide +kernel
theorem safe_30 : safe4 .free .apart .none .never = true := by decide +kernel
theorem safe_31 : safe4 .free .never .same .own = true := by decide +kernel
theorem safe_32 : safe4 .free .never .same .any = true := by decide +kernel
theorem safe_33 : safe4 .free .never .same .never = true := by decide +kernel
theorem safe_34 : safe4 .free .never .none .own = true := by decide +kernel
theorem safe_35 : safe4 .free .never .none .any = true := by decide +kernel
theorem safe_36 : safe4 .free .never .none .never = true := by decide +kernel
theorem safe_37 : safe4 .never .always .same .own = true := by decide +kernel
theorem safe_38 : safe4 .never .always .same .any = true := by decide +kernel
theorem safe_39 : safe4 .never .always .same .never = true := by decide +kernel
theorem safe_40 : safe4 .never .always .none .own = true := by decide +kernel
theorem safe_41 : safe4 .never .always .none .any = true := by decide +kernel
theorem safe_42 : safe4 .never .always .none .never = true := by decide +kernel
theorem safe_43 : safe4 .never .apart .same .own = true := by decide +kernel
theorem safe_44 : safe4 .never .apart .same .any = true := by decide +kernel
theorem safe_45 : safe4 .never .apart .same .never = true := by decide +kernel
theorem safe_46 : safe4 .never .apart .none .own = true := by decide +kernel
theorem safe_47 : safe4 .never .apart .none .any = true := by decide +kernel
theorem safe_48 : safe4 .never .apart .none .never = true := by decide +kernel
theorem safe_49 : safe4 .never .never .same .own = true := by decide +kernel
theorem safe_50 : safe4 .never .never .same .any = true := by decide +kernel
theorem safe_51 : safe4 .never .never .same .never = true := by decide +kernel
theorem safe_52 : safe4 .never .never .none .own = true := by decide +kernel
theorem safe_53 : safe4 .never .never .none .any = true := by decide +kernel
theorem safe_54 : safe4 .never .never .none .never = true := by decide +kernel
theorem all_safe : ∀ (p : PutW) (q : QuoW) (i : InsW) (o : OvrW), safe4 p q i o = true
  | .always, .always, .same, .own => safe_1
  | .always, .always, .same, .any => safe_2
  | .always, .always, .same, .never => safe_3
  | .always, .always, .none, .own => safe_4
  | .always, .always, .none, .any => safe_5
  | .always, .always, .none, .never => safe_6
  | .always, .apart, .same, .own => safe_7
  | .always, .apart, .same, .any => safe_8
  | .always, .apart, .same, .never => safe_9
  | .always, .apart, .none, .own => safe_10
  | .always, .apart, .none, .any => safe_11
  | .always, .apart, .none, .never => safe_12
  | .always, .never, .same, .own => safe_13
  | .always, .never, .same, .any => safe_14
  | .always, .never, .same, .never => safe_15
  | .always, .never, .none, .own => safe_16
  | .always, .never, .none, .any => safe_17
  | .always, .never, .none, .never => safe_18
  | .free, .always, .same, .own => safe_19
  | .free, .always, .same, .any => safe_20
  | .free, .always, .same, .never => safe_21
  | .free, .always, .none, .own => safe_22
  | .free, .always, .none, .any => safe_23
  | .free, .always, .none, .never => safe_24
  | .free, .apart, .same, .own => safe_25
  | .free, .apart, .same, .any => safe_26
  | .free, .apart, .same, .never => safe_27
  | .free, .apart, .none, .own => safe_28
  | .free, .apart, .none, .any => safe_29
  | .free, .apart, .none, .never => safe_30
  | .free, .never, .same, .own => safe_31
  | .free, .never, .same, .any => safe_32
  | .free, .never, .same, .never => safe_33
  | .free, .never, .none, .own => safe_34
  | .free, .never, .none, .any => safe_35
  | .free, .never, .none, .never => safe_36
  | .never, .always, .same, .own => safe_37
  | .never, .always, .same, .any => safe_38
  | .never, .always, .same, .never => safe_39
  | .never, .always, .none, .own => safe_40
  | .never, .always, .none, .any => safe_41
  | .never, .always, .none, .never => safe_42
  | .never, .apart, .same, .own => safe_43
  | .never, .apart, .same, .any => safe_44
  | .never, .apart, .same, .never => safe_45
  | .never, .apart, .none, .own => safe_46
  | .never, .apart, .none, .any => safe_47
  | .never, .apart, .none, .never => safe_48
  | .never, .never, .same, .own => safe_49
  | .never, .never, .same, .any => safe_50
  | .never, .never, .same, .never => safe_51
  | .never, .never, .none, .own => safe_52
  | .never, .never, .none, .any => safe_53
  | .never, .never, .none, .never => safe_54
theorem true_safe {B : Book} {M : Way} (h : isTrue B M = true) : ∀ s, Reach B M s → (come B M s).2 = false := by
  obtain ⟨p, q, i, o, b, f⟩ := B
  have h0 := all_safe p q i o
  unfold safe4 at h0
  have h1 := List.all_eq_true.mp (List.all_eq_true.mp (List.all_eq_true.mp h0 b (by cases b <;> simp)) f (by cases f <;> simp)) M (mem_ways M)
  rw [h] at h1
  simp only [Bool.not_true, Bool.false_or] at h1
  exact safe_of h1
end KM

/-! part KF -/
set_option Elab.async false
set_option linter.all false
set_option maxHeartbeats 4000000
/-! keys as signs, 0 for a key back; units laid out as keys -/
namespace KM
def Un.c : Un → Nat
  | .sg c => c
  | .sl c => c
def Un.isSl : Un → Bool
  | .sg _ => false
  | .sl _ => true
def Un.keys : Un → List Nat
  | .sg c => [c]
  | .sl c => [c, 0]
def flat : List Un → List Nat
  | [] => []
  | u :: us => u.keys ++ flat us
theorem flat_app : ∀ a b : List Un, flat (a ++ b) = flat a ++ flat b
  | [], _ => rfl
  | u :: a, b => by
    show u.keys ++ flat (a ++ b) = u.keys ++ flat a ++ flat b
    rw [flat_app a b, List.append_assoc]
def pos (us : List Un) (j : Nat) : Nat := (flat (us.take j)).length
theorem keys_len (u : Un) : u.keys.length = if u.isSl = true then 2 else 1 := by cases u <;> rfl
theorem keys_hd (u : Un) : ∃ r, u.keys = u.c :: r := by cases u <;> exact ⟨_, rfl⟩
section
variable {us : List Un} {j : Nat} {u : Un}
theorem flat_split (h : us[j]? = some u) : flat us = flat (us.take j) ++ (u.keys ++ flat (us.drop (j + 1))) := by
  have hj : j < us.length := (List.getElem?_eq_some_iff.mp h).1
  have e : us = us.take j ++ u :: us.drop (j + 1) := by
    have h2 : us.drop j = u :: us.drop (j + 1) := by
      rw [List.drop_eq_getElem_cons hj]
      congr 1
      exact (List.getElem?_eq_some_iff.mp h).2
    rw [← h2, List.take_append_drop]
  conv => lhs; rw [e]
  rw [flat_app]
  rfl
theorem pos_succ (h : us[j]? = some u) : pos us (j + 1) = pos us j + if u.isSl = true then 2 else 1 := by
  unfold pos
  rw [List.take_add_one, h, flat_app, List.length_append, ← keys_len]
  show _ + (u.keys ++ []).length = _
  rw [List.append_nil]
theorem pos_end : pos us us.length = (flat us).length := by
  unfold pos
  rw [List.take_length]
theorem pos_zero : pos us 0 = 0 := by
  unfold pos
  rw [List.take_zero]
  rfl
theorem pos_le : pos us j ≤ (flat us).length := by
  unfold pos
  conv => rhs; rw [← List.take_append_drop j us, flat_app, List.length_append]
  omega
theorem key_at (h : us[j]? = some u) : (flat us)[pos us j]? = some u.c := by
  obtain ⟨r, e⟩ := keys_hd u
  rw [flat_split h]
  unfold pos
  rw [List.getElem?_append_right (Nat.le_refl _), Nat.sub_self, e]
  rfl
theorem pos_lt (h : us[j]? = some u) : pos us j < (flat us).length := (List.getElem?_eq_some_iff.mp (key_at h)).1
theorem key_next (hz : ∀ v ∈ us, v.c ≠ 0) (h : us[j]? = some u) : decide ((flat us)[pos us j + 1]? = some 0) = u.isSl := by
  rw [flat_split h]
  unfold pos
  rw [List.getElem?_append_right (Nat.le_succ _), show (flat (us.take j)).length + 1 - (flat (us.take j)).length = 1 by omega]
  cases u with
  | sl c => rfl
  | sg c =>
    show decide ((flat (us.drop (j + 1)))[0]? = some 0) = false
    cases hd : us.drop (j + 1) with
    | nil => rfl
    | cons v r =>
      obtain ⟨q, e⟩ := keys_hd v
      have hv : v ∈ us := List.mem_of_mem_drop (i := j + 1) (by rw [hd]; exact List.mem_cons_self)
      refine decide_eq_false fun z => ?_
      have z' : (v.keys ++ flat r)[0]? = some 0 := z
      rw [e] at z'
      exact hz v hv (Option.some.inj z')
theorem pos_lt_iff (hj : j ≤ us.length) : decide (pos us j < (flat us).length) = decide (j < us.length) := by
  by_cases h : j < us.length
  · rw [decide_eq_true h, decide_eq_true (pos_lt (List.getElem?_eq_getElem h))]
  · have e : j = us.length := by omega
    rw [decide_eq_false h, e, pos_end, decide_eq_false (Nat.lt_irrefl _)]
end
/-- where the next key is no back key, whole units stand before it -/
theorem cut_units : ∀ (us : List Un) (k : Nat), k ≤ (flat us).length → (flat us)[k]? ≠ some 0 → ∃ j, j ≤ us.length ∧ k = pos us j ∧ (flat us).take k = flat (us.take j)
  | [], k, hk, _ => ⟨0, Nat.le_refl _, Nat.le_zero.mp hk, by rw [Nat.le_zero.mp hk]; rfl⟩
  | u :: us, 0, _, _ => ⟨0, Nat.zero_le _, rfl, rfl⟩
  | .sg c :: us, k + 1, hk, hn => by
    obtain ⟨j, h1, h2, h3⟩ := cut_units us k (Nat.le_of_succ_le_succ hk) hn
    exact ⟨j + 1, Nat.succ_le_succ h1, by rw [h2]; rfl, by show c :: (flat us).take k = _; rw [h3]; rfl⟩
  | .sl c :: us, 1, _, hn => absurd rfl hn
  | .sl c :: us, k + 2, hk, hn => by
    obtain ⟨j, h1, h2, h3⟩ := cut_units us k (Nat.le_of_succ_le_succ (Nat.le_of_succ_le_succ hk)) hn
    refine ⟨j + 1, Nat.succ_le_succ h1, ?_, ?_⟩
    · rw [h2]
      show (flat (us.take j)).length + 2 = (c :: 0 :: flat (us.take j)).length
      simp
    · show c :: 0 :: (flat us).take k = c :: 0 :: flat (us.take j)
      rw [h3]
theorem oks_take (M : Way) : ∀ (us : List Un) (r : Rd) (j : Nat), oks M r us = true → oks M r (us.take j) = true
  | [], r, j, h => by rw [List.take_nil]; exact h
  | u :: us, r, 0, h => rfl
  | u :: us, r, j + 1, h => by
    have h' := Bool.and_eq_true_iff.mp h
    exact Bool.and_eq_true_iff.mpr ⟨h'.1, oks_take M us _ j h'.2⟩
theorem oks_sgn (M : Way) : ∀ (us : List Un) (r : Rd), oks M r us = true → ∀ u ∈ us, sgn u.c = true
  | [], _, _, _, h => by cases h
  | u :: us, r, h, v, hv => by
    have h' := Bool.and_eq_true_iff.mp h
    rcases List.mem_cons.mp hv with e | e
    · rw [e]
      cases u with
      | sg c => exact (Bool.and_eq_true_iff.mp h'.1).1
      | sl c => exact (Bool.and_eq_true_iff.mp h'.1).1
    · exact oks_sgn M us _ h'.2 v e
theorem oks_at (M : Way) : ∀ (us : List Un) (r : Rd) (j : Nat) (u : Un), oks M r us = true → us[j]? = some u → u.ok M (rds M.words r (us.take j)) = true
  | [], _, _, _, _, h => by cases h
  | v :: us, r, 0, u, h, e => by
    have e' : v = u := Option.some.inj e
    rw [← e']
    exact (Bool.and_eq_true_iff.mp h).1
  | v :: us, r, j + 1, u, h, e => oks_at M us _ j u (Bool.and_eq_true_iff.mp h).2 e
theorem rds_succ (b : Bool) (r : Rd) {us : List Un} {j : Nat} {u : Un} (h : us[j]? = some u) : rds b r (us.take (j + 1)) = u.rd b (rds b r (us.take j)) := by
  unfold rds
  rw [List.take_add_one, h, List.foldl_append]
  rfl
theorem pgs_succ (B : Book) (g : Pg) {us : List Un} {j : Nat} {u : Un} (h : us[j]? = some u) : pgs B g (us.take (j + 1)) = u.pg B (pgs B g (us.take j)) := by
  unfold pgs
  rw [List.take_add_one, h, List.foldl_append]
  rfl
theorem txt_app : ∀ a b : List Un, txt (a ++ b) = txt a ++ txt b
  | [], _ => rfl
  | .sg c :: a, b => by
    show c :: txt (a ++ b) = c :: txt a ++ txt b
    rw [txt_app a b]; rfl
  | .sl c :: a, b => txt_app a b
theorem txt_succ {us : List Un} {j : Nat} {u : Un} (h : us[j]? = some u) : txt (us.take (j + 1)) = txt (us.take j) ++ if u.isSl = true then [] else [u.c] := by
  rw [List.take_add_one, h, txt_app]
  cases u <;> rfl
theorem sgn_nz {c : Nat} (h : sgn c = true) : c ≠ 0 := by
  intro e
  subst e
  revert h
  decide
theorem sgn_lt {c : Nat} (h : sgn c = true) : c < 123 := by
  rcases sgn_cases h with h | h | h | h | h | h
  · simp [opn] at h; omega
  · simp [cls] at h; omega
  · omega
  · omega
  · omega
  · simp [ltr] at h; omega
/-! bounds -/
theorem needs_read (b : Bool) (r : Rd) (c : Nat) : (r.read b c).needs.length ≤ r.needs.length + 1 := by
  unfold Rd.read
  split
  · show (if c = 39 then r.needs.tail else r.needs).length ≤ _
    split
    · simp; omega
    · omega
  · split
    · show r.needs.length ≤ _
      omega
    · show (match clo c with | some d => d :: r.needs | none => if cls c = true then r.needs.tail else r.needs).length ≤ _
      cases clo c with
      | some d => simp
      | none =>
        show (if cls c = true then r.needs.tail else r.needs).length ≤ _
        split
        · simp; omega
        · omega
theorem needs_rds (b : Bool) : ∀ (us : List Un) (r : Rd), (rds b r us).needs.length ≤ r.needs.length + us.length
  | [], r => Nat.le_refl _
  | .sg c :: us, r => by
    have h1 := needs_rds b us (r.read b c)
    have h2 := needs_read b r c
    show (rds b (r.read b c) us).needs.length ≤ _
    rw [List.length_cons]
    omega
  | .sl c :: us, r => by
    have h1 := needs_rds b us r
    show (rds b r us).needs.length ≤ _
    rw [List.length_cons]
    omega
theorem flat_len : ∀ us : List Un, us.length ≤ (flat us).length
  | [] => Nat.le_refl _
  | .sg c :: us => Nat.succ_le_succ (flat_len us)
  | .sl c :: us => Nat.le_trans (Nat.succ_le_succ (flat_len us)) (Nat.le_succ _)
end KM

/-! part KD -/
set_option Elab.async false
set_option linter.all false
set_option maxRecDepth 100000
set_option maxHeartbeats 4000000
/-! data that stand in the heap, what an expression comes to, what a statement leaves -/
namespace KD
open PySem PySem.Spec PyProof.Rows L2

/-- data; adr: an object that may change -/
inductive D where
  | non | bl (b : Bool) | int (i : Int) | str (x : Str) | ty (n : String) | tup (l : List D) | kt (l : List D) | lst (l : List D) | adr (a : Addr)

section
variable (K : PySem.W.Frag) (H : Hp)
mutual
def Dt : D → V → Prop
  | .non, v => v = .non
  | .bl b, v => v = .bl b
  | .int i, v => v = .int i
  | .str x, v => v = .str x
  | .ty n, v => v = .ty n
  | .adr a, v => v = .ref a
  | .tup l, v => ∃ a xs, v = .ref a ∧ H a = some (.tup xs) ∧ DtL l xs
  | .kt l, v => ∃ a xs, v = .ref a ∧ SqT K H a xs ∧ DtL l xs
  | .lst l, v => ∃ a xs, v = .ref a ∧ H a = some (.lst xs) ∧ DtL l xs
def DtL : List D → List V → Prop
  | [], vs => vs = []
  | d :: l, vs => ∃ v r, vs = v :: r ∧ Dt d v ∧ DtL l r
end
end
theorem seqT {K : PySem.W.Frag} {H H' : Hp} {a : Addr} {xs : List V} (e : Same H H') (h : SqT K H a xs) : SqT K H' a xs := by
  rcases h with (h | ⟨o, h⟩) | h
  · exact .inl (.inl (e _ _ h))
  · exact .inl (.inr ⟨o, e _ _ h⟩)
  · exact .inr h
section
variable {K : PySem.W.Frag} {H H' : Hp}
mutual
theorem Dt.mono (e : Same H H') : ∀ (d : D) (v : V), Dt K H d v → Dt K H' d v
  | .non, _, h => h
  | .bl _, _, h => h
  | .int _, _, h => h
  | .str _, _, h => h
  | .ty _, _, h => h
  | .adr _, _, h => h
  | .tup l, _, h => by
    obtain ⟨a, xs, e1, h1, h2⟩ := h
    exact ⟨a, xs, e1, e _ _ h1, DtL.mono e l xs h2⟩
  | .kt l, _, h => by
    obtain ⟨a, xs, e1, h1, h2⟩ := h
    exact ⟨a, xs, e1, seqT e h1, DtL.mono e l xs h2⟩
  | .lst l, _, h => by
    obtain ⟨a, xs, e1, h1, h2⟩ := h
    exact ⟨a, xs, e1, e _ _ h1, DtL.mono e l xs h2⟩
theorem DtL.mono (e : Same H H') : ∀ (l : List D) (xs : List V), DtL K H l xs → DtL K H' l xs
  | [], _, h => h
  | d :: l, _, h => by
    obtain ⟨v, r, e1, h1, h2⟩ := h
    exact ⟨v, r, e1, Dt.mono e d v h1, DtL.mono e l r h2⟩
end
theorem DtL.length : ∀ {l : List D} {xs : List V}, DtL K H l xs → xs.length = l.length
  | [], _, h => by rw [h]; rfl
  | d :: l, _, h => by
    obtain ⟨v, r, e1, _, h2⟩ := h
    rw [e1, List.length_cons, List.length_cons, DtL.length h2]
theorem DtL.get : ∀ {l : List D} {xs : List V} {i : Nat} {d : D}, DtL K H l xs → l[i]? = some d → ∃ v, xs[i]? = some v ∧ Dt K H d v
  | [], _, i, d, _, e => by simp at e
  | c :: l, _, 0, d, h, e => by
    obtain ⟨v, r, e1, h1, _⟩ := h
    have e2 : c = d := Option.some.inj e
    subst e2
    exact ⟨v, by rw [e1]; rfl, h1⟩
  | c :: l, _, i + 1, d, h, e => by
    obtain ⟨v, r, e1, _, h2⟩ := h
    obtain ⟨u, h3, h4⟩ := DtL.get (i := i) (d := d) h2 e
    exact ⟨u, by rw [e1]; exact h3, h4⟩
theorem DtL.back : ∀ {l : List D} {xs : List V} {i : Nat} {v : V}, DtL K H l xs → xs[i]? = some v → ∃ d, l[i]? = some d ∧ Dt K H d v
  | [], _, i, v, h, e => by rw [show _ = [] from h] at e; simp at e
  | c :: l, _, 0, v, h, e => by
    obtain ⟨u, r, e1, h1, _⟩ := h
    rw [e1] at e
    have e2 : u = v := Option.some.inj e
    subst e2
    exact ⟨c, rfl, h1⟩
  | c :: l, _, i + 1, v, h, e => by
    obtain ⟨u, r, e1, _, h2⟩ := h
    rw [e1] at e
    obtain ⟨d, h3, h4⟩ := DtL.back (i := i) (v := v) h2 e
    exact ⟨d, h3, h4⟩
theorem DtL.app : ∀ {l m : List D} {xs ys : List V}, DtL K H l xs → DtL K H m ys → DtL K H (l ++ m) (xs ++ ys)
  | [], _, _, _, h, h' => by rw [show _ = [] from h]; exact h'
  | d :: l, m, _, ys, h, h' => by
    obtain ⟨v, r, e1, h1, h2⟩ := h
    exact ⟨v, r ++ ys, by rw [e1]; rfl, h1, DtL.app h2 h'⟩
theorem DtL.drop : ∀ {l : List D} {xs : List V} (n : Nat), DtL K H l xs → DtL K H (l.drop n) (xs.drop n)
  | _, _, 0, h => h
  | [], _, n + 1, h => by rw [show _ = [] from h]; exact rfl
  | d :: l, _, n + 1, h => by
    obtain ⟨v, r, e1, h1, h2⟩ := h
    rw [e1]
    exact DtL.drop n h2
theorem DtL.take : ∀ {l : List D} {xs : List V} (n : Nat), DtL K H l xs → DtL K H (l.take n) (xs.take n)
  | _, _, 0, h => rfl
  | [], _, n + 1, h => by rw [show _ = [] from h]; exact rfl
  | d :: l, _, n + 1, h => by
    obtain ⟨v, r, e1, h1, h2⟩ := h
    rw [e1]
    exact ⟨v, r.take n, rfl, h1, DtL.take n h2⟩
theorem DtL.nil_iff {l : List D} {xs : List V} (h : DtL K H l xs) : xs = [] ↔ l = [] := by
  have e := h.length
  constructor
  · intro z
    rw [z] at e
    exact List.length_eq_zero_iff.mp e.symm
  · intro z
    rw [z] at e
    exact List.length_eq_zero_iff.mp e
theorem DtL.strs : ∀ (l : List Str), DtL K H (l.map D.str) (l.map V.str)
  | [] => rfl
  | x :: l => ⟨.str x, l.map V.str, rfl, rfl, DtL.strs l⟩
theorem DtL.strs_eq : ∀ {l : List Str} {xs : List V}, DtL K H (l.map D.str) xs → xs = l.map V.str
  | [], _, h => h
  | x :: l, _, h => by
    obtain ⟨v, r, e1, h1, h2⟩ := h
    rw [e1, show v = .str x from h1, DtL.strs_eq h2]
    rfl
end

/-! ### what is known of the slots, of the heap -/
abbrev Ga := List (Option D)
structure Slots (K : PySem.W.Frag) (H : Hp) (σ : L2.St) (Γ : Ga) : Prop where
  len : σ.length = Γ.length
  at_ : ∀ (i : Nat) (d : D), Γ[i]? = some (some d) → ∃ v, σ[i]? = some (some v) ∧ Dt K H d v
theorem Slots.mono {K : PySem.W.Frag} {H H' : Hp} {σ : L2.St} {Γ : Ga} (e : Same H H') (h : Slots K H σ Γ) : Slots K H' σ Γ :=
  ⟨h.len, fun i d q => let ⟨v, h1, h2⟩ := h.at_ i d q; ⟨v, h1, h2.mono e⟩⟩
theorem Slots.set {K : PySem.W.Frag} {H : Hp} {σ : L2.St} {Γ : Ga} {i : Nat} {d : D} {v : V} (h : Slots K H σ Γ) (hd : Dt K H d v) : Slots K H (σ.set i (some v)) (Γ.set i (some d)) := by
  refine ⟨by rw [List.length_set, List.length_set, h.len], fun j c q => ?_⟩
  rw [List.getElem?_set] at q ⊢
  by_cases e : i = j
  · rw [if_pos e] at q ⊢
    have hl := h.len
    by_cases hj : i < Γ.length
    · rw [if_pos hj] at q
      rw [if_pos (by omega)]
      have e2 : d = c := Option.some.inj (Option.some.inj q)
      subst e2
      exact ⟨v, rfl, hd⟩
    · rw [if_neg hj] at q
      cases q
  · rw [if_neg e] at q ⊢
    exact h.at_ j c q
/-- less is known -/
theorem Slots.less {K : PySem.W.Frag} {H : Hp} {σ : L2.St} {Γ Γ' : Ga} (h : Slots K H σ Γ) (hl : Γ'.length = Γ.length) (hs : ∀ (i : Nat) (d : D), Γ'[i]? = some (some d) → Γ[i]? = some (some d)) : Slots K H σ Γ' :=
  ⟨h.len.trans hl.symm, fun i d q => h.at_ i d (hs i d q)⟩
def gst (n : Nat) (ds : List D) : Ga := ds.map some ++ List.replicate (n - ds.length) none
theorem Slots.start {K : PySem.W.Frag} {H : Hp} {N : List Str} {ds : List D} {vs : List V} (h : DtL K H ds vs) : Slots K H (L2.start N vs) (gst N.length ds) := by
  have hl := h.length
  refine ⟨by simp [L2.start, gst, hl], fun i d q => ?_⟩
  unfold gst at q
  unfold L2.start
  by_cases hi : i < ds.length
  · rw [List.getElem?_append_left (by simpa using hi), List.getElem?_map] at q
    cases e : ds[i]? with
    | none =>
      rw [e] at q
      cases q
    | some c =>
      rw [e] at q
      have e2 : c = d := Option.some.inj (Option.some.inj q)
      subst e2
      obtain ⟨v, h1, h2⟩ := h.get e
      refine ⟨v, ?_, h2⟩
      rw [List.getElem?_append_left (by simp; omega), List.getElem?_map, h1]
      rfl
  · rw [List.getElem?_append_right (by simp; omega), List.getElem?_replicate] at q
    split at q <;> cases q

structure Hy where
  p : Hp → Prop
  st : ∀ H H', Same H H' → p H → p H'
def Hy.tt : Hy := ⟨fun _ => True, fun _ _ _ h => h⟩
def Hy.and (A B : Hy) : Hy := ⟨fun H => A.p H ∧ B.p H, fun H H' e h => ⟨A.st H H' e h.1, B.st H H' e h.2⟩⟩

/-! ### what an expression comes to, nothing that stood being changed -/
section
variable (K : PySem.W.Frag) (A : Hy)
def Ev (te : TE) (Γ : Ga) (d : D) : Prop := ∀ σ H, A.p H → Slots K H σ Γ → ∀ Q : VK, (∀ v H', Same H H' → Dt K H' d v → Q v H') → te σ H Q
def Et (tt : TT) (Γ : Ga) (b : Bool) : Prop := ∀ σ H, A.p H → Slots K H σ Γ → ∀ Q : Bool → Hp → Prop, (∀ H', Same H H' → Q b H') → tt σ H Q
def Ea (ta : TA) (Γ : Ga) (ds : List D) : Prop := ∀ σ H, A.p H → Slots K H σ Γ → ∀ Q : List V → Hp → Prop, (∀ vs H', Same H H' → DtL K H' ds vs → Q vs H') → ta σ H Q
def Eo (to : TO) (Γ : Ga) (o : Option Int) : Prop := ∀ σ H, A.p H → Slots K H σ Γ → ∀ Q : Option Int → Hp → Prop, (∀ H', Same H H' → Q o H') → to σ H Q
end
section
variable {K : PySem.W.Frag} {A : Hy} {Γ : Ga} {ta tb te tc : TE} {d x y : D}
theorem ev_var {i : Nat} (h : Γ[i]? = some (some d)) : Ev K A (tVar i) Γ d := fun σ H _ e Q q => by
  obtain ⟨v, h1, h2⟩ := e.at_ i d h
  exact ⟨v, h1, q v H (Same.refl H) h2⟩
theorem ev_c {v : V} (h : ∀ H, Dt K H d v) : Ev K A (tC v) Γ d := fun σ H _ e Q q => q v H (Same.refl H) (h H)
theorem ev_str {s : Str} : Ev K A (tC (.str s)) Γ (.str s) := ev_c fun _ => rfl
theorem ev_int {i : Int} : Ev K A (tC (.int i)) Γ (.int i) := ev_c fun _ => rfl
theorem ev_bl {b : Bool} : Ev K A (tC (.bl b)) Γ (.bl b) := ev_c fun _ => rfl
theorem ev_non : Ev K A (tC .non) Γ .non := ev_c fun _ => rfl
theorem ev_ty {n : String} : Ev K A (tC (.ty n)) Γ (.ty n) := ev_c fun _ => rfl
theorem ev_as (h : Ev K A te Γ d) {d' : D} (e : d = d') : Ev K A te Γ d' := e ▸ h
theorem et_as {t : TT} {b b' : Bool} (h : Et K A t Γ b) (e : b = b') : Et K A t Γ b' := e ▸ h
/-- a two-place operation -/
theorem ev_op {r : R2} (ha : Ev K A ta Γ x) (hb : Ev K A tb Γ y)
    (hr : ∀ H v u, A.p H → Dt K H x v → Dt K H y u → ∀ Q : VK, (∀ z H', Same H H' → Dt K H' d z → Q z H') → r v u H Q) : Ev K A (tOp r ta tb) Γ d := fun σ H a e Q q =>
  ha σ H a e _ fun v H1 s1 h1 => hb σ H1 (A.st _ _ s1 a) (e.mono s1) _ fun u H2 s2 h2 =>
    hr H2 v u (A.st _ _ (s1.trans s2) a) (h1.mono s2) h2 Q fun z H3 s3 h3 => q z H3 ((s1.trans s2).trans s3) h3
theorem ev_un {r : V → Hp → VK → Prop} (ha : Ev K A ta Γ x) (hr : ∀ H v, A.p H → Dt K H x v → ∀ Q : VK, (∀ z H', Same H H' → Dt K H' d z → Q z H') → r v H Q) : Ev K A (fun σ H Q => ta σ H fun v H1 => r v H1 Q) Γ d := fun σ H a e Q q =>
  ha σ H a e _ fun v H1 s1 h1 => hr H1 v (A.st _ _ s1 a) h1 Q fun z H2 s2 h2 => q z H2 (s1.trans s2) h2
theorem ev_add {i j : Int} (ha : Ev K A ta Γ (.int i)) (hb : Ev K A tb Γ (.int j)) : Ev K A (tOp (rI0 fun i j => .int (i + j)) ta tb) Γ (.int (i + j)) :=
  ev_op ha hb fun H v u _ e1 e2 Q q => ⟨i, j, e1, e2, q _ H (Same.refl H) rfl⟩
theorem ev_sub {i j : Int} (ha : Ev K A ta Γ (.int i)) (hb : Ev K A tb Γ (.int j)) : Ev K A (tOp (rI0 fun i j => .int (i - j)) ta tb) Γ (.int (i - j)) :=
  ev_op ha hb fun H v u _ e1 e2 Q q => ⟨i, j, e1, e2, q _ H (Same.refl H) rfl⟩
theorem ev_rI {C : Int → Int → Prop} {g : Int → Int → Int} {i j : Int} (ha : Ev K A ta Γ (.int i)) (hb : Ev K A tb Γ (.int j)) (hc : C i j) : Ev K A (tOp (rI C fun i j => .int (g i j)) ta tb) Γ (.int (g i j)) :=
  ev_op ha hb fun H v u _ e1 e2 Q q => ⟨i, j, e1, e2, hc, q _ H (Same.refl H) rfl⟩
theorem ev_cmpI {g : Int → Int → Bool} {i j : Int} (ha : Ev K A ta Γ (.int i)) (hb : Ev K A tb Γ (.int j)) : Ev K A (tOp (rI0 fun i j => .bl (g i j)) ta tb) Γ (.bl (g i j)) :=
  ev_op ha hb fun H v u _ e1 e2 Q q => ⟨i, j, e1, e2, q _ H (Same.refl H) rfl⟩
theorem ev_addS {s t : Str} (ha : Ev K A ta Γ (.str s)) (hb : Ev K A tb Γ (.str t)) (hl : s.length + t.length ≤ sizeLine) :
    Ev K A (tOp (fun x y H Q => ∃ i j, x = .str i ∧ y = .str j ∧ i.length + j.length ≤ sizeLine ∧ Q (.str (i ++ j)) H) ta tb) Γ (.str (s ++ t)) :=
  ev_op ha hb fun H v u _ e1 e2 Q q => ⟨s, t, e1, e2, hl, q _ H (Same.refl H) rfl⟩
theorem ev_eqS {s t : Str} (ha : Ev K A ta Γ (.str s)) (hb : Ev K A tb Γ (.str t)) : Ev K A (tOp rEq ta tb) Γ (.bl (decide (s = t))) :=
  ev_op ha hb fun H v u _ e1 e2 Q q => by
    have e1' : v = .str s := e1
    have e2' : u = .str t := e2
    subst e1' e2'
    exact ⟨rfl, q _ H (Same.refl H) (by show V.bl _ = V.bl _; simp)⟩
theorem ev_neS {s t : Str} (ha : Ev K A ta Γ (.str s)) (hb : Ev K A tb Γ (.str t)) : Ev K A (tOp rNe ta tb) Γ (.bl (!decide (s = t))) :=
  ev_op ha hb fun H v u _ e1 e2 Q q => by
    have e1' : v = .str s := e1
    have e2' : u = .str t := e2
    subst e1' e2'
    exact ⟨rfl, q _ H (Same.refl H) (by show V.bl _ = V.bl _; simp)⟩
theorem ev_eqI {s t : Int} (ha : Ev K A ta Γ (.int s)) (hb : Ev K A tb Γ (.int t)) : Ev K A (tOp rEq ta tb) Γ (.bl (decide (s = t))) :=
  ev_op ha hb fun H v u _ e1 e2 Q q => by
    have e1' : v = .int s := e1
    have e2' : u = .int t := e2
    subst e1' e2'
    exact ⟨rfl, q _ H (Same.refl H) (by show V.bl _ = V.bl _; simp)⟩
theorem ev_neI {s t : Int} (ha : Ev K A ta Γ (.int s)) (hb : Ev K A tb Γ (.int t)) : Ev K A (tOp rNe ta tb) Γ (.bl (!decide (s = t))) :=
  ev_op ha hb fun H v u _ e1 e2 Q q => by
    have e1' : v = .int s := e1
    have e2' : u = .int t := e2
    subst e1' e2'
    exact ⟨rfl, q _ H (Same.refl H) (by show V.bl _ = V.bl _; simp)⟩
theorem ev_isB {a b : Bool} (ha : Ev K A ta Γ (.bl a)) (hb : Ev K A tb Γ (.bl b)) : Ev K A (tOp rIsB ta tb) Γ (.bl (decide (a = b))) :=
  ev_op ha hb fun H v u _ e1 e2 Q q => ⟨a, b, e1, e2, q _ H (Same.refl H) rfl⟩
theorem ev_notB {a b : Bool} (ha : Ev K A ta Γ (.bl a)) (hb : Ev K A tb Γ (.bl b)) : Ev K A (tOp rNotB ta tb) Γ (.bl (!decide (a = b))) :=
  ev_op ha hb fun H v u _ e1 e2 Q q => ⟨a, b, e1, e2, q _ H (Same.refl H) rfl⟩
/-- x is None -/
def D.isNon : D → Bool
  | .non => true
  | _ => false
theorem Dt.isNon {H : Hp} {v : V} : ∀ {d : D}, Dt K H d v → decide (v = .non) = d.isNon := by
  intro d h
  cases d with
  | non => rw [show v = V.non from h]; rfl
  | bl b => rw [show v = V.bl b from h]; rfl
  | int b => rw [show v = V.int b from h]; rfl
  | str b => rw [show v = V.str b from h]; rfl
  | ty b => rw [show v = V.ty b from h]; rfl
  | adr b => rw [show v = V.ref b from h]; rfl
  | tup l => obtain ⟨a, xs, e, _⟩ := h; rw [e]; rfl
  | kt l => obtain ⟨a, xs, e, _⟩ := h; rw [e]; rfl
  | lst l => obtain ⟨a, xs, e, _⟩ := h; rw [e]; rfl
theorem ev_isN (ha : Ev K A ta Γ x) : Ev K A (tIsN ta) Γ (.bl x.isNon) := fun σ H a e Q q =>
  ha σ H a e _ fun v H1 s1 h1 => q _ H1 s1 (by show V.bl _ = V.bl _; rw [h1.isNon])
theorem ev_notN (ha : Ev K A ta Γ x) : Ev K A (tNotN ta) Γ (.bl (!x.isNon)) := fun σ H a e Q q =>
  ha σ H a e _ fun v H1 s1 h1 => q _ H1 s1 (by show V.bl _ = V.bl _; rw [h1.isNon])
theorem ev_in {c : Nat} {z : Str} (ha : Ev K A ta Γ (.str ⟨#[c]⟩)) (hb : Ev K A tb Γ (.str z)) : Ev K A (tOp (fun x y H Q => ∃ (c : Nat) (z : Str), x = .str ⟨#[c]⟩ ∧ y = .str z ∧ Q (.bl (decide (c ∈ z.cps.toList))) H) ta tb) Γ (.bl (decide (c ∈ z.cps.toList))) :=
  ev_op ha hb fun H v u _ e1 e2 Q q => ⟨c, z, e1, e2, q _ H (Same.refl H) rfl⟩
theorem ev_notin {c : Nat} {z : Str} (ha : Ev K A ta Γ (.str ⟨#[c]⟩)) (hb : Ev K A tb Γ (.str z)) : Ev K A (tOp (fun x y H Q => ∃ (c : Nat) (z : Str), x = .str ⟨#[c]⟩ ∧ y = .str z ∧ Q (.bl (!decide (c ∈ z.cps.toList))) H) ta tb) Γ (.bl (!decide (c ∈ z.cps.toList))) :=
  ev_op ha hb fun H v u _ e1 e2 Q q => ⟨c, z, e1, e2, q _ H (Same.refl H) rfl⟩
theorem flat_strs : ∀ l : List Str, (l.map V.str).all flatV = true
  | [] => rfl
  | _ :: l => flat_strs l
theorem inV_strs (s : Str) : ∀ l : List Str, inV (.str s) (l.map V.str) = decide (s ∈ l)
  | [] => by simp [inV]
  | x :: l => by
    have ih := inV_strs s l
    unfold inV at ih ⊢
    rw [List.map_cons, List.any_cons, ih]
    have e : eqV (.str x) (.str s) = decide (s = x) := by
      show (x == s) = _
      by_cases q : s = x
      · rw [q]; simp
      · have q2 : ¬ x = s := fun z => q z.symm
        simp [q, q2]
    rw [e]
    simp
/-- a tuple of any kind -/
def D.items : D → List D
  | .tup l => l
  | .kt l => l
  | _ => []
def D.isT : D → Bool
  | .tup _ => true
  | .kt _ => true
  | _ => false
def D.st : D → Str
  | .str x => x
  | _ => ""
theorem Dt.seq {H : Hp} {v : V} {e : D} (ht : e.isT = true) (h : Dt K H e v) : ∃ a xs, v = .ref a ∧ SqT K H a xs ∧ DtL K H e.items xs := by
  cases e with
  | tup l => obtain ⟨a, xs, e1, h1, h2⟩ := h; exact ⟨a, xs, e1, SqT.of h1, h2⟩
  | kt l => exact h
  | _ => cases ht
theorem in_at {H : Hp} {v u : V} {s : Str} {e : D} {b : Bool} (ht : e.isT = true) (hs : e.items = (e.items.map D.st).map D.str) (e1 : Dt K H (.str s) v) (e2 : Dt K H e u) (Q : VK) (q : ∀ z H', Same H H' → Dt K H' (.bl (if b = true then !decide (s ∈ e.items.map D.st) else decide (s ∈ e.items.map D.st))) z → Q z H') : rIn K b v u H Q := by
  obtain ⟨a, xs, e3, h3, h4⟩ := e2.seq ht
  rw [hs] at h4
  have e5 := h4.strs_eq
  subst e5
  have e6 : v = .str s := e1
  subst e6
  refine ⟨a, _, e3, .inr h3, rfl, flat_strs _, q _ H (Same.refl H) ?_⟩
  rw [inV_strs]
  cases b <;> rfl
theorem ev_inT {s : Str} {e : D} (ha : Ev K A ta Γ (.str s)) (hb : Ev K A tb Γ e) (ht : e.isT = true := by rfl) (hs : e.items = (e.items.map D.st).map D.str := by rfl) : Ev K A (tOp (rIn K false) ta tb) Γ (.bl (decide (s ∈ e.items.map D.st))) :=
  ev_op ha hb fun H v u _ e1 e2 Q q => in_at ht hs e1 e2 Q q
theorem ev_notinT {s : Str} {e : D} (ha : Ev K A ta Γ (.str s)) (hb : Ev K A tb Γ e) (ht : e.isT = true := by rfl) (hs : e.items = (e.items.map D.st).map D.str := by rfl) : Ev K A (tOp (rIn K true) ta tb) Γ (.bl (!decide (s ∈ e.items.map D.st))) :=
  ev_op ha hb fun H v u _ e1 e2 Q q => in_at ht hs e1 e2 Q q
/-! items, slices -/
theorem atI_get {H : Hp} {ds : List D} {xs : List V} {i : Int} (h : DtL K H ds xs) (e : atI ds i = some d) : ∃ v, atI xs i = some v ∧ Dt K H d v := by
  unfold atI at e ⊢
  rw [h.length]
  cases q : ixN ds.length i with
  | none =>
    rw [q] at e
    cases e
  | some j =>
    rw [q] at e
    exact h.get e
theorem ev_ixT {e : D} {i : Int} (ha : Ev K A ta Γ e) (hb : Ev K A tb Γ (.int i)) (h : atI e.items i = some d) (ht : e.isT = true := by rfl) : Ev K A (tOp (rIxT K) ta tb) Γ d :=
  ev_op ha hb fun H v u _ e1 e2 Q q => by
    obtain ⟨a, xs, e3, h3, h4⟩ := e1.seq ht
    obtain ⟨z, h5, h6⟩ := atI_get h4 h
    exact ⟨a, xs, i, z, e3, e2, h3, h5, q _ H (Same.refl H) h6⟩
theorem ev_ixL {ds : List D} {i : Int} (ha : Ev K A ta Γ (.lst ds)) (hb : Ev K A tb Γ (.int i)) (h : atI ds i = some d) : Ev K A (tOp (rIxL K) ta tb) Γ d :=
  ev_op ha hb fun H v u _ e1 e2 Q q => by
    obtain ⟨a, xs, e3, h3, h4⟩ := e1
    obtain ⟨z, h5, h6⟩ := atI_get h4 h
    exact ⟨a, xs, i, z, e3, e2, SqL.of h3, h5, q _ H (Same.refl H) h6⟩
theorem ev_ixS {z : Str} {i : Int} {c : Nat} (ha : Ev K A ta Γ (.str z)) (hb : Ev K A tb Γ (.int i)) (hl : z.length ≤ sizeLine) (h : atI z.cps.toList i = some c) : Ev K A (tOp rIxS ta tb) Γ (.str ⟨#[c]⟩) :=
  ev_op ha hb fun H v u _ e1 e2 Q q => ⟨z, i, c, e1, e2, hl, h, q _ H (Same.refl H) rfl⟩
theorem eo_none : Eo K A tNoPart Γ none := fun σ H _ _ Q q => q H (Same.refl H)
theorem eo_some {i : Int} (h : Ev K A te Γ (.int i)) : Eo K A (tPart te) Γ (some i) := fun σ H a e Q q => h σ H a e _ fun v H1 s1 h1 => ⟨i, h1, q H1 s1⟩
theorem ev_sl {r : V → Option Int → Option Int → Hp → VK → Prop} {tl th : TO} {lo hi : Option Int} (ha : Ev K A ta Γ x) (hl : Eo K A tl Γ lo) (hh : Eo K A th Γ hi)
    (hr : ∀ H v, A.p H → Dt K H x v → ∀ Q : VK, (∀ z H', Same H H' → Dt K H' d z → Q z H') → r v lo hi H Q) : Ev K A (tSl r ta tl th) Γ d := fun σ H a e Q q =>
  ha σ H a e _ fun v H1 s1 h1 => hl σ H1 (A.st _ _ s1 a) (e.mono s1) _ fun H2 s2 => hh σ H2 (A.st _ _ (s1.trans s2) a) (e.mono (s1.trans s2)) _ fun H3 s3 =>
    hr H3 v (A.st _ _ ((s1.trans s2).trans s3) a) (h1.mono (s2.trans s3)) Q fun z H4 s4 h4 => q z H4 (((s1.trans s2).trans s3).trans s4) h4
theorem ev_slX {z : Str} {tl th : TO} {lo hi : Option Int} (ha : Ev K A ta Γ (.str z)) (hl : Eo K A tl Γ lo) (hh : Eo K A th Γ hi) (hz : z.length ≤ sizeLine) : Ev K A (tSl C8.rSlX ta tl th) Γ (.str (Txt.slice z lo hi)) :=
  ev_sl ha hl hh fun H v _ e1 Q q => ⟨z, e1, hz, q _ H (Same.refl H) rfl⟩
def cutD (ds : List D) (lo hi : Option Int) : List D := (ds.drop (HT.sIx ds.length 0 lo)).take (HT.sIx ds.length ds.length hi - HT.sIx ds.length 0 lo)
theorem Same.new {H : Hp} {p : Addr} {o : HO} (h : H p = none) : Same H (upd H p o) := fun a u e => by
  rw [upd_ne (ne_of_none e h)]
  exact e
theorem cut_whole {α : Type} (xs : List α) {lo hi : Option Int} (h : HT.sIx xs.length 0 lo = 0 ∧ HT.sIx xs.length xs.length hi = xs.length) : (xs.drop (HT.sIx xs.length 0 lo)).take (HT.sIx xs.length xs.length hi - HT.sIx xs.length 0 lo) = xs := by
  rw [h.1, h.2, List.drop_zero, Nat.sub_zero, List.take_length]
theorem ev_slA {ds : List D} {tl th : TO} {lo hi : Option Int} (ha : Ev K A ta Γ (.tup ds)) (hl : Eo K A tl Γ lo) (hh : Eo K A th Γ hi) : Ev K A (tSl (rSlA K) ta tl th) Γ (.tup (cutD ds lo hi)) :=
  ev_sl ha hl hh fun H v _ e1 Q q => by
    obtain ⟨a, xs, e3, h3, h4⟩ := e1
    have hn := h4.length
    have h5 : DtL K H (cutD ds lo hi) (cutV xs lo hi) := by
      unfold cutD cutV
      rw [hn]
      exact (h4.drop _).take _
    refine ⟨a, xs, e3, SqT.of h3, fun w => q _ H (Same.refl H) ⟨a, xs, rfl, h3, ?_⟩, fun _ p hp => q _ _ (Same.new hp) ⟨p, _, rfl, upd_same, h5.mono (Same.new hp)⟩⟩
    have e6 : cutV xs lo hi = xs := cut_whole xs w
    rw [e6] at h5
    exact h5
theorem ev_catA {ds es : List D} (ha : Ev K A ta Γ (.tup ds)) (hb : Ev K A tb Γ (.tup es)) (hl : ds.length + es.length ≤ sizeLine) : Ev K A (tOp (rCatA K) ta tb) Γ (.tup (ds ++ es)) :=
  ev_op ha hb fun H v u _ e1 e2 Q q => by
    obtain ⟨a, xs, e3, h3, h4⟩ := e1
    obtain ⟨b, ys, e5, h5, h6⟩ := e2
    have h7 := h4.app h6
    refine ⟨a, b, xs, ys, e3, e5, SqT.of h3, SqT.of h5, by rw [h4.length, h6.length]; exact hl, fun z => q _ H (Same.refl H) ⟨b, ys, rfl, h5, ?_⟩, fun _ z => q _ H (Same.refl H) ⟨a, xs, rfl, h3, ?_⟩,
      fun _ _ p hp => q _ _ (Same.new hp) ⟨p, _, rfl, upd_same, h7.mono (Same.new hp)⟩⟩
    · rw [z] at h7
      exact h7
    · rw [z, List.append_nil] at h7
      exact h7
theorem ev_cat {ds es : List D} (ha : Ev K A ta Γ (.lst ds)) (hb : Ev K A tb Γ (.lst es)) (hl : ds.length + es.length ≤ sizeLine) : Ev K A (tOp rCat ta tb) Γ (.lst (ds ++ es)) :=
  ev_op ha hb fun H v u _ e1 e2 Q q => by
    obtain ⟨a, xs, e3, h3, h4⟩ := e1
    obtain ⟨b, ys, e5, h5, h6⟩ := e2
    exact ⟨a, b, xs, ys, e3, e5, h3, h5, by rw [h4.length, h6.length]; exact hl, fun p hp => q _ _ (Same.new hp) ⟨p, _, rfl, upd_same, (h4.app h6).mono (Same.new hp)⟩⟩
theorem DtL.rep {H : Hp} {ds : List D} {xs : List V} (h : DtL K H ds xs) : ∀ n : Nat, DtL K H (List.replicate n ds).flatten (List.replicate n xs).flatten
  | 0 => rfl
  | n + 1 => by
    rw [List.replicate_succ, List.replicate_succ, List.flatten_cons, List.flatten_cons]
    exact h.app (DtL.rep h n)
theorem ev_rep {ds : List D} {k : Int} (ha : Ev K A ta Γ (.lst ds)) (hb : Ev K A tb Γ (.int k)) (hk : -(2 ^ 63) ≤ k ∧ k < 2 ^ 63 ∧ ds.length * k.toNat ≤ sizeLine) : Ev K A (tOp rRep ta tb) Γ (.lst (List.replicate k.toNat ds).flatten) :=
  ev_op ha hb fun H v u _ e1 e2 Q q => by
    obtain ⟨a, xs, e3, h3, h4⟩ := e1
    exact ⟨a, k, xs, e3, e2, h3, hk.1, hk.2.1, by rw [h4.length]; exact hk.2.2, fun p hp => q _ _ (Same.new hp) ⟨p, _, rfl, upd_same, (h4.rep _).mono (Same.new hp)⟩⟩
/-! arguments, displays, calls -/
theorem ea_nil : Ea K A tNil Γ [] := fun σ H _ _ Q q => q [] H (Same.refl H) rfl
theorem ea_cons {tr : TA} {ds : List D} (h : Ev K A ta Γ d) (hr : Ea K A tr Γ ds) : Ea K A (tCons ta tr) Γ (d :: ds) := fun σ H a e Q q =>
  h σ H a e _ fun v H1 s1 h1 => hr σ H1 (A.st _ _ s1 a) (e.mono s1) _ fun vs H2 s2 h2 => q (v :: vs) H2 (s1.trans s2) ⟨v, vs, rfl, h1.mono s2, h2⟩
theorem ev_tup {tr : TA} {ds : List D} (h : Ea K A tr Γ ds) (hl : ds.length ≤ sizeLine := by (simp only [List.length_cons, List.length_nil]; decide)) : Ev K A (tTup tr) Γ (.tup ds) := fun σ H a e Q q =>
  h σ H a e _ fun vs H1 s1 h1 => ⟨by rw [h1.length]; exact hl, fun p hp => q _ _ (s1.trans (Same.new hp)) ⟨p, vs, rfl, upd_same, h1.mono (Same.new hp)⟩⟩
theorem ev_lst {tr : TA} {ds : List D} (h : Ea K A tr Γ ds) (hl : ds.length ≤ sizeLine := by (simp only [List.length_cons, List.length_nil]; decide)) : Ev K A (tLst tr) Γ (.lst ds) := fun σ H a e Q q =>
  h σ H a e _ fun vs H1 s1 h1 => ⟨by rw [h1.length]; exact hl, fun p hp => q _ _ (s1.trans (Same.new hp)) ⟨p, vs, rfl, upd_same, h1.mono (Same.new hp)⟩⟩
theorem ev_cb {r : List V → Hp → VK → Prop} {tr : TA} {ds : List D} (h : Ea K A tr Γ ds) (hr : ∀ H vs, A.p H → DtL K H ds vs → ∀ Q : VK, (∀ z H', Same H H' → Dt K H' d z → Q z H') → r vs H Q) : Ev K A (tCB r tr) Γ d := fun σ H a e Q q =>
  h σ H a e _ fun vs H1 s1 h1 => hr H1 vs (A.st _ _ s1 a) h1 Q fun z H2 s2 h2 => q z H2 (s1.trans s2) h2
theorem dtl1 {H : Hp} {vs : List V} (h : DtL K H [d] vs) : ∃ v, vs = [v] ∧ Dt K H d v := by
  obtain ⟨v, r, e, h1, h2⟩ := h
  rw [e, show r = [] from h2]
  exact ⟨v, rfl, h1⟩
theorem dtl2 {H : Hp} {d2 : D} {vs : List V} (h : DtL K H [d, d2] vs) : ∃ v u, vs = [v, u] ∧ Dt K H d v ∧ Dt K H d2 u := by
  obtain ⟨v, r, e, h1, h2⟩ := h
  obtain ⟨u, e2, h3⟩ := dtl1 h2
  rw [e, e2]
  exact ⟨v, u, rfl, h1, h3⟩
theorem ev_lenS {z : Str} {tr : TA} (h : Ea K A tr Γ [.str z]) (hl : z.length ≤ sizeLine) : Ev K A (tCB (fun xs H Q => ∃ x n, xs = [x] ∧ LenV K x H n ∧ Q (.int n) H) tr) Γ (.int (z.length : Int)) :=
  ev_cb h fun H vs _ e Q q => by
    obtain ⟨v, e1, e2⟩ := dtl1 e
    have e3 : v = .str z := e2
    subst e3
    exact ⟨_, z.length, e1, ⟨hl, rfl⟩, q _ H (Same.refl H) rfl⟩
theorem ev_lenT {e : D} {tr : TA} (h : Ea K A tr Γ [e]) (ht : e.isT = true := by rfl) : Ev K A (tCB (fun xs H Q => ∃ x n, xs = [x] ∧ LenV K x H n ∧ Q (.int n) H) tr) Γ (.int (e.items.length : Int)) :=
  ev_cb h fun H vs _ e0 Q q => by
    obtain ⟨v, e1, e4⟩ := dtl1 e0
    obtain ⟨a, xs, e3, h3, h4⟩ := e4.seq ht
    subst e3
    exact ⟨_, xs.length, e1, .inr ⟨xs, h3, rfl⟩, q _ H (Same.refl H) (by show V.int _ = V.int _; rw [h4.length])⟩
theorem ev_lenL {ds : List D} {tr : TA} (h : Ea K A tr Γ [.lst ds]) : Ev K A (tCB (fun xs H Q => ∃ x n, xs = [x] ∧ LenV K x H n ∧ Q (.int n) H) tr) Γ (.int (ds.length : Int)) :=
  ev_cb h fun H vs _ e Q q => by
    obtain ⟨v, e1, a, xs, e3, h3, h4⟩ := dtl1 e
    subst e3
    exact ⟨_, xs.length, e1, .inl ⟨xs, SqL.of h3, rfl⟩, q _ H (Same.refl H) (by show V.int _ = V.int _; rw [h4.length])⟩
def D.tyN : D → Option String
  | .non => some "NoneType"
  | .bl _ => some "bool"
  | .int _ => some "int"
  | .str _ => some "str"
  | .tup _ => some "tuple"
  | .kt _ => some "tuple"
  | .lst _ => some "list"
  | _ => none
theorem Dt.tyX {H : Hp} {v : V} {n : String} {d : D} (hn : d.tyN = some n) (h : Dt K H d v) : TyX K H v (.type n) := by
  cases d with
  | non => cases hn; rw [show v = V.non from h]; exact .base .non
  | bl b => cases hn; rw [show v = V.bl b from h]; exact .base (.bl b)
  | int b => cases hn; rw [show v = V.int b from h]; exact .base (.int b)
  | str b => cases hn; rw [show v = V.str b from h]; exact .base (.str b)
  | ty b => cases hn
  | adr b => cases hn
  | tup l =>
    cases hn
    obtain ⟨a, xs, e, h1, _⟩ := h
    rw [e]; exact .base (.tup h1)
  | kt l =>
    cases hn
    obtain ⟨a, xs, e, (h1 | ⟨o, h1⟩) | ⟨o, its, n, hk, hc, _⟩, _⟩ := h
    · rw [e]; exact .base (.tup h1)
    · rw [e]; exact .fTuple h1
    · rw [e]; exact .kTuple hk hc
  | lst l =>
    cases hn
    obtain ⟨a, xs, e, h1, _⟩ := h
    rw [e]; exact .base (.lst h1)
theorem ev_isi {n m : String} {b : Bool} {tr : TA} (h : Ea K A tr Γ [d, .ty m]) (hn : d.tyN = some n) (hk : kitB n m = some b) : Ev K A (tCB (rIsi K) tr) Γ (.bl b) :=
  ev_cb h fun H vs _ e Q q => by
    obtain ⟨v, u, e1, h1, h2⟩ := dtl2 e
    have e3 : u = .ty m := h2
    subst e3
    exact ⟨v, _, .type n, .type m, b, e1, .ty m, h1.tyX hn, kit_ty hk, q _ H (Same.refl H) rfl⟩
/-- the promise of a def that changes nothing: an input i gives out i -/
def spG {ι : Type} (K : PySem.W.Frag) (pre : ι → Hp → Prop) (inp : ι → List D) (out : ι → D) : Sp := fun vs H Q _ => ∃ i, pre i H ∧ DtL K H (inp i) vs ∧ ∀ v H', Same H H' → Dt K H' (out i) v → Q v H'
theorem spG_len {ι : Type} {pre : ι → Hp → Prop} {inp : ι → List D} {out : ι → D} {n : Nat} (h : ∀ i, (inp i).length = n) {vs H Q E} (q : spG K pre inp out vs H Q E) : vs.length = n := by
  obtain ⟨i, _, h1, _⟩ := q
  rw [h1.length, h]
theorem ev_call {ι : Type} {pre : ι → Hp → Prop} {inp : ι → List D} {out : ι → D} {E : XK} {tr : TA} {ds : List D} (i : ι) (h : Ea K A tr Γ ds) (hi : inp i = ds) (hp : ∀ H, A.p H → pre i H) : Ev K A (tCall (spG K pre inp out) [] E tr) Γ (out i) := fun σ H a e Q q =>
  h σ H a e _ fun vs H1 s1 h1 => ⟨i, hp H1 (A.st _ _ s1 a), by rw [List.append_nil, hi]; exact h1, fun v H2 s2 h2 => q v H2 (s1.trans s2) h2⟩
theorem ev_meth {ι : Type} {pre : ι → Hp → Prop} {inp : ι → List D} {out : ι → D} {E : XK} {tr : TA} {ds : List D} {C : Addr} {m : Str} {p : Addr} (i : ι) (ho : Ev K A ta Γ (.adr p)) (hc : ∀ H, A.p H → ∃ dx fs, H p = some (.ins C dx fs) ∧ fs.lookup m = none) (h : Ea K A tr Γ ds)
    (hi : inp i = .adr p :: ds) (hp : ∀ H, A.p H → pre i H) : Ev K A (tMeth C m (spG K pre inp out) [] E ta tr) Γ (out i) := fun σ H a e Q q =>
  ho σ H a e _ fun v H1 s1 h1 => by
    have e1 : v = .ref p := h1
    subst e1
    obtain ⟨dx, fs, h2, h3⟩ := hc H1 (A.st _ _ s1 a)
    exact ⟨p, dx, fs, rfl, h2, h3, h σ H1 (A.st _ _ s1 a) (e.mono s1) _ fun vs H2 s2 h4 => ⟨i, hp H2 (A.st _ _ (s1.trans s2) a), by rw [List.append_nil, hi]; exact ⟨_, _, rfl, rfl, h4⟩, fun v H3 s3 h5 => q v H3 ((s1.trans s2).trans s3) h5⟩⟩
theorem ev_fld {f : Str} {p : Addr} (ho : Ev K A ta Γ (.adr p)) (hc : ∀ H, A.p H → ∃ C dx fs v, H p = some (.ins C dx fs) ∧ Cls K C ∧ NoAttr K C f ∧ fs.lookup f = some v ∧ Dt K H d v) : Ev K A (tFld K ta f) Γ d := fun σ H a e Q q =>
  ho σ H a e _ fun v H1 s1 h1 => by
    obtain ⟨C, dx, fs, z, h2, h3, h4, h5, h6⟩ := hc H1 (A.st _ _ s1 a)
    exact ⟨p, C, dx, fs, z, h1, h2, h3, h4, h5, q z H1 s1 h6⟩
/-! tests -/
variable {t u : TT} {a b : Bool}
theorem et_test (h : Ev K A te Γ (.bl b)) : Et K A (tTest te) Γ b := fun σ H p e Q q => h σ H p e _ fun v H1 s1 h1 => ⟨b, h1, q H1 s1⟩
theorem et_B (h : Ev K A te Γ (.bl b)) : Et K A (tB te) Γ b := fun σ H p e Q q => h σ H p e _ fun v H1 s1 h1 => ⟨b, h1, q H1 s1⟩
theorem et_and (h1 : Et K A t Γ a) (h2 : a = true → Et K A u Γ b) : Et K A (tAnd t u) Γ (a && b) := fun σ H p e Q q => h1 σ H p e _ fun H1 s1 => by
  cases a with
  | true => exact h2 rfl σ H1 (A.st _ _ s1 p) (e.mono s1) Q fun H2 s2 => q H2 (s1.trans s2)
  | false => exact q H1 s1
theorem et_or (h1 : Et K A t Γ a) (h2 : a = false → Et K A u Γ b) : Et K A (tOr t u) Γ (a || b) := fun σ H p e Q q => h1 σ H p e _ fun H1 s1 => by
  cases a with
  | true => exact q H1 s1
  | false => exact h2 rfl σ H1 (A.st _ _ s1 p) (e.mono s1) Q fun H2 s2 => q H2 (s1.trans s2)
theorem et_not (h1 : Et K A t Γ a) : Et K A (tNot t) Γ (!a) := fun σ H p e Q q => h1 σ H p e _ fun H1 s1 => q H1 s1
theorem ev_andV (h1 : Ev K A ta Γ (.bl a)) (h2 : a = true → Ev K A tb Γ (.bl b)) : Ev K A (tAndV ta tb) Γ (.bl (a && b)) := fun σ H p e Q q => h1 σ H p e _ fun v H1 s1 z => ⟨a, z, by
  cases a with
  | true => exact h2 rfl σ H1 (A.st _ _ s1 p) (e.mono s1) Q fun v H2 s2 z => q v H2 (s1.trans s2) z
  | false => exact q _ H1 s1 rfl⟩
theorem ev_orV (h1 : Ev K A ta Γ (.bl a)) (h2 : a = false → Ev K A tb Γ (.bl b)) : Ev K A (tOrV ta tb) Γ (.bl (a || b)) := fun σ H p e Q q => h1 σ H p e _ fun v H1 s1 z => ⟨a, z, by
  cases a with
  | true => exact q _ H1 s1 rfl
  | false => exact h2 rfl σ H1 (A.st _ _ s1 p) (e.mono s1) Q fun v H2 s2 z => q v H2 (s1.trans s2) z⟩
theorem ev_notV (h1 : Ev K A ta Γ (.bl a)) : Ev K A (tNotV ta) Γ (.bl (!a)) := fun σ H p e Q q => h1 σ H p e _ fun v H1 s1 z => ⟨a, z, q _ H1 s1 rfl⟩
theorem ev_if (h : Et K A t Γ b) (h1 : b = true → Ev K A ta Γ x) (h2 : b = false → Ev K A tb Γ y) : Ev K A (tIf t ta tb) Γ (if b = true then x else y) := fun σ H p e Q q => h σ H p e _ fun H1 s1 => by
  cases b with
  | true => exact h1 rfl σ H1 (A.st _ _ s1 p) (e.mono s1) Q fun v H2 s2 z => q v H2 (s1.trans s2) z
  | false => exact h2 rfl σ H1 (A.st _ _ s1 p) (e.mono s1) Q fun v H2 s2 z => q v H2 (s1.trans s2) z
end
end KD

/-! part KS -/
set_option Elab.async false
set_option linter.all false
set_option maxRecDepth 100000
set_option maxHeartbeats 4000000
/-! what a statement leaves, where nothing that stood is changed; tuples alone where something is -/
namespace KD
open PySem PySem.Spec PyProof.Rows L2

/-- how a block ends: on with these slots, with a value handed back -/
inductive Oc where
  | nx (Γ : Ga) | rt (d : D) | ct (Γ : Ga) | bk (Γ : Ga)
def Oc.ok (K : PySem.W.Frag) (H : Hp) (E : Ends) : Oc → Prop
  | .nx Γ => ∀ σ' H', Same H H' → Slots K H' σ' Γ → E.nx σ' H'
  | .rt d => ∀ v H', Same H H' → Dt K H' d v → E.rt v H'
  | .ct Γ => ∀ σ' H', Same H H' → Slots K H' σ' Γ → E.ct σ' H'
  | .bk Γ => ∀ σ' H', Same H H' → Slots K H' σ' Γ → E.bk σ' H'
def Rn (K : PySem.W.Frag) (A : Hy) (ts : TS) (Γ : Ga) (o : Oc) : Prop := ∀ σ H (E : Ends), A.p H → Slots K H σ Γ → o.ok K H E → ts E σ H
section
variable {K : PySem.W.Frag} {A : Hy} {Γ Γ' Γ1 : Ga} {ta te : TE} {d x y : D} {ts t u v : TS} {o : Oc} {b : Bool} {c : TT}
theorem Oc.mono {H H' : Hp} {E : Ends} (s : Same H H') : ∀ {o : Oc}, o.ok K H E → o.ok K H' E
  | .nx _, h => fun σ' H2 s2 e => h σ' H2 (s.trans s2) e
  | .rt _, h => fun v H2 s2 e => h v H2 (s.trans s2) e
  | .ct _, h => fun σ' H2 s2 e => h σ' H2 (s.trans s2) e
  | .bk _, h => fun σ' H2 s2 e => h σ' H2 (s.trans s2) e
theorem Oc.with_nx {H : Hp} {E : Ends} {N : L2.St → Hp → Prop} : ∀ {o : Oc}, (∀ Γ, o ≠ .nx Γ) → o.ok K H E → o.ok K H { E with nx := N }
  | .nx Γ, h, _ => absurd rfl (h Γ)
  | .rt _, _, h => h
  | .ct _, _, h => h
  | .bk _, _, h => h
theorem rn_next : Rn K A tNext Γ (.nx Γ) := fun σ H E _ e h => h σ H (Same.refl H) e
theorem rn_seq (h1 : Rn K A t Γ (.nx Γ1)) (h2 : Rn K A u Γ1 o) : Rn K A (tSeq t u) Γ o := fun σ H E a e h =>
  h1 σ H { E with nx := u E } a e fun σ' H' s e' => h2 σ' H' E (A.st _ _ s a) e' (Oc.mono s h)
theorem rn_out (h1 : Rn K A t Γ (.rt d)) : Rn K A (tSeq t u) Γ (.rt d) := fun σ H E a e h => h1 σ H { E with nx := u E } a e h
theorem rn_if (hc : Et K A c Γ b) (h1 : b = true → Rn K A t Γ o) (h2 : b = false → Rn K A u Γ o) : Rn K A (tIfS c t u) Γ o := fun σ H E a e h =>
  hc σ H a e _ fun H1 s1 => by
    cases b with
    | true => exact h1 rfl σ H1 E (A.st _ _ s1 a) (e.mono s1) (Oc.mono s1 h)
    | false => exact h2 rfl σ H1 E (A.st _ _ s1 a) (e.mono s1) (Oc.mono s1 h)
/-- an if with what comes behind it -/
theorem rn_ifs (hc : Et K A c Γ b) (h1 : b = true → Rn K A (tSeq t v) Γ o) (h2 : b = false → Rn K A (tSeq u v) Γ o) : Rn K A (tSeq (tIfS c t u) v) Γ o := fun σ H E a e h =>
  hc σ H a e _ fun H1 s1 => by
    cases b with
    | true => exact h1 rfl σ H1 E (A.st _ _ s1 a) (e.mono s1) (Oc.mono s1 h)
    | false => exact h2 rfl σ H1 E (A.st _ _ s1 a) (e.mono s1) (Oc.mono s1 h)
theorem rn_nx (h : Rn K A u Γ o) : Rn K A (tSeq tNext u) Γ o := rn_seq rn_next h
theorem rn_seq3 (h : Rn K A (tSeq t (tSeq u v)) Γ o) : Rn K A (tSeq (tSeq t u) v) Γ o := h
theorem rn_set {i : Nat} (h : Ev K A te Γ d) : Rn K A (tAsg te (gName i)) Γ (.nx (Γ.set i (some d))) := fun σ H E a e k =>
  h σ H a e _ fun v H1 s1 h1 => k _ H1 s1 ((e.mono s1).set h1)
theorem rn_ret (h : Ev K A te Γ d) : Rn K A (tRet te) Γ (.rt d) := fun σ H E a e k => h σ H a e _ fun v H1 s1 h1 => k v H1 s1 h1
theorem rn_retN : Rn K A tRetN Γ (.rt .non) := fun σ H E a e k => k .non H (Same.refl H) rfl
theorem rn_drop (h : Ev K A te Γ d) : Rn K A (tDrop te) Γ (.nx Γ) := fun σ H E a e k => h σ H a e _ fun v H1 s1 _ => k σ H1 s1 (e.mono s1)
theorem rn_never (h : False) : Rn K A tNever Γ o := h.elim
theorem ev_absurd (h : False) : Ev K A te Γ d := h.elim
theorem et_absurd (h : False) : Et K A c Γ b := h.elim
theorem rn_absurd (h : False) : Rn K A ts Γ o := h.elim
theorem rn_par {i j : Nat} {tr : TA} (h : Ea K A tr Γ [x, y]) : Rn K A (tPar i j tr) Γ (.nx ((Γ.set i (some x)).set j (some y))) := fun σ H E a e k =>
  h σ H a e _ fun vs H1 s1 h1 => by
    obtain ⟨v, w, e1, h2, h3⟩ := dtl2 h1
    exact ⟨v, w, e1, k _ H1 s1 (((e.mono s1).set h2).set h3)⟩
theorem rn_par3 {i j l : Nat} {tr : TA} {z : D} (h : Ea K A tr Γ [x, y, z]) : Rn K A (tPar3 i j l tr) Γ (.nx (((Γ.set i (some x)).set j (some y)).set l (some z))) := fun σ H E a e k =>
  h σ H a e _ fun vs H1 s1 h1 => by
    obtain ⟨v, r, e1, h2, h3⟩ := h1
    obtain ⟨w, w2, e2, h4, h5⟩ := dtl2 h3
    exact ⟨v, w, w2, by rw [e1, e2], k _ H1 s1 ((((e.mono s1).set h2).set h4).set h5)⟩
/-- a tuple unpacked into names -/
def gNs : List Nat → TGs
  | [] => gNil
  | i :: is => gCons (gName i) (gNs is)
def setAll : Ga → List Nat → List D → Ga
  | Γ, i :: is, d :: ds => setAll (Γ.set i (some d)) is ds
  | Γ, _, _ => Γ
theorem gNs_run {H : Hp} {Q : L2.St → Hp → Prop} : ∀ (is : List Nat) {ds : List D} {xs : List V} {σ : L2.St} {Γ : Ga}, is.length = ds.length → DtL K H ds xs → Slots K H σ Γ → (∀ σ', Slots K H σ' (setAll Γ is ds) → Q σ' H) → gNs is xs σ H Q
  | [], [], xs, σ, Γ, _, h, e, q => ⟨h, q σ e⟩
  | [], d :: ds, _, _, _, hl, _, _, _ => by cases hl
  | i :: is, [], _, _, _, hl, _, _, _ => by cases hl
  | i :: is, d :: ds, xs, σ, Γ, hl, h, e, q => by
    obtain ⟨v, r, e1, h1, h2⟩ := h
    exact ⟨v, r, e1, gNs_run is (Nat.succ.inj hl) h2 (e.set h1) q⟩
theorem rn_unp {n : Nat} {is : List Nat} {e0 : D} {Γ2 : Ga} (h : Ev K A te Γ e0) (hl : is.length = e0.items.length) (hn : e0.items.length = n) (hx : setAll Γ is e0.items = Γ2) (ht : e0.isT = true := by rfl) : Rn K A (tAsg te (gTup K n (gNs is))) Γ (.nx Γ2) := fun σ H E a e k =>
  h σ H a e _ fun v H1 s1 h1 => by
    obtain ⟨b, xs, e1, h2, h3⟩ := h1.seq ht
    exact ⟨b, xs, e1, h2, h3.length.trans hn, gNs_run is hl h3 (e.mono s1) fun σ' e' => k σ' H1 s1 (hx ▸ e')⟩

/-! the promise of a def that changes nothing, told by its arguments' data -/
def spF (K : PySem.W.Frag) (pre : List D → Prop) (out : List D → D) : Sp := fun vs H Q _ => ∃ ds, pre ds ∧ DtL K H ds vs ∧ ∀ v H', Same H H' → Dt K H' (out ds) v → Q v H'
theorem spF_len {pre : List D → Prop} {out : List D → D} {n : Nat} (h : ∀ ds, pre ds → ds.length = n) (vs : List V) (H : Hp) (Q : VK) (E : XK) (q : spF K pre out vs H Q E) : vs.length = n := by
  obtain ⟨ds, h1, h2, _⟩ := q
  rw [h2.length, h ds h1]
theorem ev_callF {pre : List D → Prop} {out : List D → D} {E : XK} {tr : TA} {ds : List D} (h : Ea K A tr Γ ds) (hp : pre ds) : Ev K A (tCall (spF K pre out) [] E tr) Γ (out ds) := fun σ H a e Q q =>
  h σ H a e _ fun vs H1 s1 h1 => ⟨ds, hp, by rw [List.append_nil]; exact h1, fun v H2 s2 h2 => q v H2 (s1.trans s2) h2⟩
theorem ev_callF' {sp : Sp} {pre : List D → Prop} {out : List D → D} {E : XK} {tr : TA} {ds : List D} (hs : sp = spF K pre out) (h : Ea K A tr Γ ds) (hp : pre ds) : Ev K A (tCall sp [] E tr) Γ (out ds) := by
  subst hs
  exact ev_callF h hp
theorem ev_ifS {s s' : Str} {tb : TE} (h : Et K A c Γ b) (h1 : b = true → Ev K A ta Γ (.str s)) (h2 : b = false → Ev K A tb Γ (.str s')) : Ev K A (tIf c ta tb) Γ (.str (if b = true then s else s')) := by
  have := ev_if h h1 h2
  cases b <;> exact this
theorem ev_ifB {s s' : Bool} {tb : TE} (h : Et K A c Γ b) (h1 : b = true → Ev K A ta Γ (.bl s)) (h2 : b = false → Ev K A tb Γ (.bl s')) : Ev K A (tIf c ta tb) Γ (.bl (if b = true then s else s')) := by
  have := ev_if h h1 h2
  cases b <;> exact this
theorem ev_ifI {s s' : Int} {tb : TE} (h : Et K A c Γ b) (h1 : b = true → Ev K A ta Γ (.int s)) (h2 : b = false → Ev K A tb Γ (.int s')) : Ev K A (tIf c ta tb) Γ (.int (if b = true then s else s')) := by
  have := ev_if h h1 h2
  cases b <;> exact this
theorem spF_by {pre : List D → Prop} {out : List D → D} (N : List Str) {ts : TS} {H : Hp} {E : XK} (h : ∀ ds, pre ds → Rn K Hy.tt ts (gst N.length ds) (.rt (out ds))) (vs : List V) (Q : VK) (q : spF K pre out vs H Q E) : ts { nx := fun _ H' => Q .non H', rt := Q } (L2.start N vs) H := by
  obtain ⟨ds, h1, h2, h3⟩ := q
  exact h ds h1 _ H _ trivial (Slots.start h2) h3
/-- a def that hands nothing back -/
theorem spF_byN {pre : List D → Prop} {out : List D → D} (N : List Str) {ts : TS} {H : Hp} {E : XK} (ho : ∀ ds, pre ds → out ds = .non) (h : ∀ ds, pre ds → ∃ Γ', Rn K Hy.tt ts (gst N.length ds) (.nx Γ')) (vs : List V) (Q : VK) (q : spF K pre out vs H Q E) : ts { nx := fun _ H' => Q .non H', rt := Q } (L2.start N vs) H := by
  obtain ⟨ds, h1, h2, h3⟩ := q
  obtain ⟨Γ', h4⟩ := h ds h1
  refine h4 _ H _ trivial (Slots.start h2) fun σ' H' s _ => h3 _ H' s ?_
  rw [ho ds h1]
  rfl

/-! loops that change nothing that stood: the slots by the turn -/
theorem rn_for {wi : TI} {n : Nat} {j : Nat} {Y : Nat → D → Prop} (Γf : Nat → Ga) (hw : ∀ σ H, A.p H → Slots K H σ Γ → ∀ R : It → Hp → Prop, (∀ J H', Same H H' → (∃ (G : Hp → Prop) (Z : Nat → Hp → V → Hp → Prop), Walk J n G Z ∧ (∀ H2, Same H' H2 → G H2) ∧
      (∀ i H2 v H3, i < n → Same H' H2 → Z i H2 v H3 → Same H2 H3 ∧ ∃ d, Y i d ∧ Dt K H3 d v)) → R J H') → wi σ H R)
    (h0 : ∀ σ H, Slots K H σ Γ → Slots K H σ (Γf 0)) (hs : ∀ i d, i < n → Y i d → Rn K A t ((Γf i).set j (some d)) (.nx (Γf (i + 1)))) (hct : True) : Rn K A (tFor wi (gName j) t) Γ (.nx (Γf n)) := by
  intro σ H E a e k
  refine hw σ H a e _ fun J H1 s1 w => ?_
  obtain ⟨G, Z, W, hG, hZ⟩ := w
  refine for_it W (fun i σ' H' => Same H1 H' ∧ Slots K H' σ' (Γf i)) ⟨Same.refl H1, h0 σ H1 (e.mono s1)⟩ (fun i σ' H' _ q => hG H' q.1) (fun i x σ' H' H2 hi q y => ?_) (fun σ' H' q => k σ' H' (s1.trans q.1) q.2)
  obtain ⟨s2, d, yd, hd⟩ := hZ i H' x H2 hi q.1 y
  exact hs i d hi yd (σ'.set j (some x)) H2 _ (A.st _ _ ((s1.trans q.1).trans s2) a) ((q.2.mono s2).set hd) fun σ3 H3 s3 e3 => ⟨(q.1.trans s2).trans s3, e3⟩
end
end KD

/-! part KX -/
set_option Elab.async false
set_option linter.all false
set_option maxRecDepth 100000
set_option maxHeartbeats 4000000
/-! texts as lists of code points -/
namespace KD
open PySem PySem.Spec PyProof.Rows L2
abbrev S (l : List Nat) : Str := ⟨l.toArray⟩
theorem S_len (l : List Nat) : (S l).length = l.length := SX.S_len l
theorem S_iff {a b : List Nat} : S a = S b ↔ a = b := ⟨SX.S_inj, fun h => by rw [h]⟩
theorem S_cat (a b : List Nat) : S a ++ S b = S (a ++ b) := SX.S_cat a b
theorem S_of (x : Str) : S x.cps.toList = x := SX.S_tl x
theorem small {n : Nat} (h : n ≤ 100000) : n ≤ sizeLine := Nat.le_trans h (by decide)
section
variable {K : PySem.W.Frag} {A : Hy} {Γ : Ga} {ta tb te tc : TE} {d x y : D} {c : TT} {a b l m : List Nat} {p q : Bool}
theorem ev_lit {s : Str} (h : s = S l) : Ev K A (tC (.str s)) Γ (.str (S l)) := h ▸ ev_str
theorem ev_eqL (ha : Ev K A ta Γ (.str (S a))) (hb : Ev K A tb Γ (.str (S b))) : Ev K A (tOp rEq ta tb) Γ (.bl (decide (a = b))) :=
  ev_as (ev_eqS ha hb) (by
    have e : decide (S a = S b) = decide (a = b) := by
      by_cases h : a = b
      · rw [h]; simp
      · rw [decide_eq_false h, decide_eq_false (fun z => h (SX.S_inj z))]
    rw [e])
theorem ev_neL (ha : Ev K A ta Γ (.str (S a))) (hb : Ev K A tb Γ (.str (S b))) : Ev K A (tOp rNe ta tb) Γ (.bl (!decide (a = b))) :=
  ev_as (ev_neS ha hb) (by
    have e : decide (S a = S b) = decide (a = b) := by
      by_cases h : a = b
      · rw [h]; simp
      · rw [decide_eq_false h, decide_eq_false (fun z => h (SX.S_inj z))]
    rw [e])
theorem ev_addL (ha : Ev K A ta Γ (.str (S a))) (hb : Ev K A tb Γ (.str (S b))) (hl : a.length + b.length ≤ 100000) :
    Ev K A (tOp (fun x y H Q => ∃ i j, x = .str i ∧ y = .str j ∧ i.length + j.length ≤ sizeLine ∧ Q (.str (i ++ j)) H) ta tb) Γ (.str (S (a ++ b))) :=
  ev_as (ev_addS ha hb (by rw [S_len, S_len]; exact small hl)) (by rw [S_cat])
/-- one sign in a text -/
theorem ev_inL (ha : Ev K A ta Γ (.str (S a))) (hb : Ev K A tb Γ (.str (S b))) (hl : a.length = 1) :
    Ev K A (tOp (fun x y H Q => ∃ (c : Nat) (z : Str), x = .str ⟨#[c]⟩ ∧ y = .str z ∧ Q (.bl (decide (c ∈ z.cps.toList))) H) ta tb) Γ (.bl (decide (a.headD 0 ∈ b))) := by
  match a, hl with
  | [c], _ => exact ev_in (c := c) (z := S b) ha hb
theorem ev_notinL (ha : Ev K A ta Γ (.str (S a))) (hb : Ev K A tb Γ (.str (S b))) (hl : a.length = 1) :
    Ev K A (tOp (fun x y H Q => ∃ (c : Nat) (z : Str), x = .str ⟨#[c]⟩ ∧ y = .str z ∧ Q (.bl (!decide (c ∈ z.cps.toList))) H) ta tb) Γ (.bl (!decide (a.headD 0 ∈ b))) := by
  match a, hl with
  | [c], _ => exact ev_notin (c := c) (z := S b) ha hb
theorem ev_ifL (h : Et K A c Γ p) (h1 : p = true → Ev K A ta Γ (.str (S a))) (h2 : p = false → Ev K A tb Γ (.str (S b))) : Ev K A (tIf c ta tb) Γ (.str (S (if p = true then a else b))) := by
  have := ev_if h h1 h2
  cases p <;> exact this
theorem ev_ifLst {s s' : List D} (h : Et K A c Γ p) (h1 : p = true → Ev K A ta Γ (.lst s)) (h2 : p = false → Ev K A tb Γ (.lst s')) : Ev K A (tIf c ta tb) Γ (.lst (if p = true then s else s')) := by
  have := ev_if h h1 h2
  cases p <;> exact this
theorem ev_lenS1 {tr : TA} (h : Ea K A tr Γ [.str (S a)]) (hl : a.length ≤ 100000) : Ev K A (tCB (fun xs H Q => ∃ x n, xs = [x] ∧ LenV K x H n ∧ Q (.int n) H) tr) Γ (.int (a.length : Int)) :=
  ev_as (ev_lenS h (by rw [S_len]; exact small hl)) (by rw [S_len])
theorem ev_intI {i : Int} {tr : TA} (h : Ea K A tr Γ [.int i]) : Ev K A (tCB (fun xs H Q => (∃ i, xs = [.int i] ∧ Q (.int i) H) ∨ ∃ k, xs = [.bl k] ∧ Q (.int (if k then 1 else 0)) H) tr) Γ (.int i) :=
  ev_cb h fun H vs _ e Q q => by
    obtain ⟨v, e1, e2⟩ := dtl1 e
    have e3 : v = .int i := e2
    exact .inl ⟨i, by rw [e1, e3], q _ H (Same.refl H) rfl⟩
theorem ev_intB {i : Bool} {tr : TA} (h : Ea K A tr Γ [.bl i]) : Ev K A (tCB (fun xs H Q => (∃ i, xs = [.int i] ∧ Q (.int i) H) ∨ ∃ k, xs = [.bl k] ∧ Q (.int (if k then 1 else 0)) H) tr) Γ (.int (if i then 1 else 0)) :=
  ev_cb h fun H vs _ e Q q => by
    obtain ⟨v, e1, e2⟩ := dtl1 e
    have e3 : v = .bl i := e2
    exact .inr ⟨i, by rw [e1, e3], q _ H (Same.refl H) rfl⟩
theorem ev_neg {i : Int} (h : Ev K A te Γ (.int i)) : Ev K A (tUn (rU fun i => .int (-i)) te) Γ (.int (-i)) := fun σ H a e Q q =>
  h σ H a e _ fun v H1 s1 h1 => ⟨i, h1, q _ H1 s1 rfl⟩
/-! items and slices of texts -/
theorem atI_of {α : Type} {z : List α} {i : Int} (h0 : 0 ≤ i) (h1 : i < z.length) (e : α) : atI z i = some (z.getD i.toNat e) := by
  unfold atI ixN
  rw [if_pos h0, if_pos h1]
  have h2 : i.toNat < z.length := by omega
  show z[i.toNat]? = _
  rw [List.getD_eq_getElem?_getD, List.getElem?_eq_getElem h2]
  rfl
theorem ev_ixS1 {i : Int} (ha : Ev K A ta Γ (.str (S a))) (hb : Ev K A tb Γ (.int i)) (hl : a.length ≤ 100000) (h : 0 ≤ i ∧ i < a.length) : Ev K A (tOp rIxS ta tb) Γ (.str (S [a.getD i.toNat 0])) :=
  ev_ixS (z := S a) ha hb (by rw [S_len]; exact small hl) (atI_of h.1 h.2 0)
theorem ev_ixLast (ha : Ev K A ta Γ (.str (S a))) (hb : Ev K A tb Γ (.int (-1))) (hl : a.length ≤ 100000) (h : a ≠ []) : Ev K A (tOp rIxS ta tb) Γ (.str (S [a.getLast?.getD 0])) := by
  have e : a = a.dropLast ++ [a.getLast h] := (List.dropLast_concat_getLast h).symm
  refine ev_ixS (z := S a) ha hb (by rw [S_len]; exact small hl) ?_
  rw [List.getLast?_eq_getLast h]
  show atI a (-1) = some (a.getLast h)
  conv => lhs; rw [e]
  exact atI_last _ _
def last1 (l : List Nat) : List Nat := l.drop (l.length - 1)
theorem last1_eq (l : List Nat) : last1 l = l.getLast?.toList := by
  unfold last1
  cases h : l with
  | nil => rfl
  | cons a r =>
    have e : (a :: r) = (a :: r).dropLast ++ [(a :: r).getLast (by simp)] := (List.dropLast_concat_getLast _).symm
    rw [List.getLast?_eq_getLast (by simp)]
    conv => lhs; rw [e]
    rw [List.length_append, List.length_singleton, Nat.add_sub_cancel, List.drop_left]
    rfl
theorem slice_nil_last : Txt.slice (S []) (some (-1)) none = S [] := by decide +kernel
theorem slice_nil_init : Txt.slice (S []) none (some (-1)) = S [] := by decide +kernel
theorem ev_slLast (ha : Ev K A ta Γ (.str (S a))) (hl : a.length ≤ 100000) : Ev K A (tSl C8.rSlX ta (tPart (tUn (rU fun i => .int (-i)) (tC (.int 1)))) tNoPart) Γ (.str (S (last1 a))) :=
  ev_as (ev_slX (z := S a) (lo := some (-1)) (hi := none) ha (eo_some (ev_neg ev_int)) eo_none (by rw [S_len]; exact small hl)) (by
    cases h : a with
    | nil => rw [slice_nil_last]; rfl
    | cons b r => exact congrArg D.str (SX.slice_last (a := b :: r) (by simp)))
theorem ev_slInit (ha : Ev K A ta Γ (.str (S a))) (hl : a.length ≤ 100000) : Ev K A (tSl C8.rSlX ta tNoPart (tPart (tUn (rU fun i => .int (-i)) (tC (.int 1))))) Γ (.str (S a.dropLast)) :=
  ev_as (ev_slX (z := S a) (lo := none) (hi := some (-1)) ha eo_none (eo_some (ev_neg ev_int)) (by rw [S_len]; exact small hl)) (by
    cases h : a with
    | nil => rw [slice_nil_init]; rfl
    | cons b r => rw [List.dropLast_eq_take]; exact congrArg D.str (SX.slice_butlast (a := b :: r) (by simp)))
theorem ev_slTo {i : Int} (ha : Ev K A ta Γ (.str (S a))) (hi : Ev K A tb Γ (.int i)) (hl : a.length ≤ 100000) (h : 0 ≤ i) : Ev K A (tSl C8.rSlX ta tNoPart (tPart tb)) Γ (.str (S (a.take i.toNat))) :=
  ev_as (ev_slX (z := S a) ha eo_none (eo_some hi) (by rw [S_len]; exact small hl)) (congrArg D.str (SX.slice_to h))
theorem ev_slFrom {i : Int} (ha : Ev K A ta Γ (.str (S a))) (hi : Ev K A tb Γ (.int i)) (hl : a.length ≤ 100000) (h : 0 ≤ i) : Ev K A (tSl C8.rSlX ta (tPart tb) tNoPart) Γ (.str (S (a.drop i.toNat))) :=
  ev_as (ev_slX (z := S a) ha (eo_some hi) eo_none (by rw [S_len]; exact small hl)) (congrArg D.str (SX.slice_from h))
/-! methods of texts -/
theorem ev_m1 {r : V → List V → Hp → VK → Prop} {s s' : Str} (ha : Ev K A ta Γ (.str s)) (hb : Ev K A tb Γ (.str s')) (hr : ∀ H, ∀ Q : VK, (∀ z H', Same H H' → Dt K H' d z → Q z H') → r (.str s) [.str s'] H Q) : Ev K A (tM1 r ta tb) Γ d := fun σ H p e Q q =>
  ha σ H p e _ fun v H1 s1 h1 => ⟨⟨s, h1⟩, hb σ H1 (A.st _ _ s1 p) (e.mono s1) _ fun u H2 s2 h2 => by
    have e1 : v = .str s := h1
    have e2 : u = .str s' := h2
    rw [e1, e2]
    exact hr H2 Q fun z H3 s3 h3 => q z H3 ((s1.trans s2).trans s3) h3⟩
theorem occ_o1 : ∃ rest, Builtin.Str.occurrences (S [40, 91]) (S [40]) 0 (S [40, 91]).length 1 = 0 :: rest := ⟨[], by decide +kernel⟩
theorem occ_o2 : ∃ rest, Builtin.Str.occurrences (S [40, 91]) (S [91]) 0 (S [40, 91]).length 1 = 1 :: rest := ⟨[], by decide +kernel⟩
/-- "([".index(sign) -/
theorem ev_idxO (ha : Ev K A ta Γ (.str (S [40, 91]))) (hb : Ev K A tb Γ (.str (S l))) (h : l = [40] ∨ l = [91]) :
    Ev K A (tM1 (fun x xs H Q => ∃ a b i rest, x = .str a ∧ xs = [.str b] ∧ Builtin.Str.occurrences a b 0 a.length 1 = i :: rest ∧ Q (.int (i : Nat)) H) ta tb) Γ (.int (if l = [40] then 0 else 1)) :=
  ev_m1 ha hb fun H Q q => by
    rcases h with h | h <;> subst h
    · obtain ⟨r, e⟩ := occ_o1
      exact ⟨_, _, 0, r, rfl, rfl, e, q _ H (Same.refl H) rfl⟩
    · obtain ⟨r, e⟩ := occ_o2
      exact ⟨_, _, 1, r, rfl, rfl, e, q _ H (Same.refl H) rfl⟩
theorem ev_rfind {s s' : Str} (ha : Ev K A ta Γ (.str s)) (hb : Ev K A tb Γ (.str s')) : Ev K A (tM1 (fun x xs H Q => ∃ a b, x = .str a ∧ xs = [.str b] ∧ Q (.int (Txt.rfind a b)) H) ta tb) Γ (.int (Txt.rfind s s')) :=
  ev_m1 ha hb fun H Q q => ⟨_, _, rfl, rfl, q _ H (Same.refl H) rfl⟩
theorem ev_count {s s' : Str} (ha : Ev K A ta Γ (.str s)) (hb : Ev K A tb Γ (.str s')) : Ev K A (tM1 (fun x xs H Q => ∃ a b, x = .str a ∧ xs = [.str b] ∧ Q (.int (Txt.count a b)) H) ta tb) Γ (.int (Txt.count s s')) :=
  ev_m1 ha hb fun H Q q => ⟨_, _, rfl, rfl, q _ H (Same.refl H) rfl⟩
theorem cnt_nat (c : Nat) : ∀ l : List Nat, cnt c l = ((l.count c : Nat) : Int)
  | [] => rfl
  | a :: l => by
    rw [cnt_cons, cnt_nat c l, List.count_cons]
    by_cases h : a = c
    · subst h; simp; omega
    · simp [h]
theorem count_S (l : List Nat) (c : Nat) : Txt.count (S l) (S [c]) = ((l.count c : Nat) : Int) := by
  rw [← cnt_nat]
  exact count_is (S l) c
theorem rfind_spec (l : List Nat) (c : Nat) : (Txt.rfind (S l) (S [c]) = -1 ∧ c ∉ l) ∨ ∃ a b, l = a ++ c :: b ∧ c ∉ b ∧ Txt.rfind (S l) (S [c]) = (a.length : Int) := by
  have one : ∀ k, StrLaws.At (S l) (S [c]) (S l).length k ↔ l[k]? = some c := fun k => StrLaws.subAt_one (S l) c k
  rcases rfind_whole (S l) (S [c]) with ⟨h1, h2⟩ | ⟨i, h1, h2, h3⟩
  · refine .inl ⟨h1, fun hm => ?_⟩
    obtain ⟨k, hk⟩ := List.getElem?_of_mem hm
    exact h2 k ((one k).mpr hk)
  · have h4 := (one i).mp h2
    have hi : i < l.length := (List.getElem?_eq_some_iff.mp h4).1
    refine .inr ⟨l.take i, l.drop (i + 1), ?_, fun hm => ?_, by rw [h1, List.length_take, Nat.min_eq_left (by omega)]⟩
    · have e : l.drop i = c :: l.drop (i + 1) := by
        rw [List.drop_eq_getElem_cons hi]
        congr 1
        exact (List.getElem?_eq_some_iff.mp h4).2
      rw [← e, List.take_append_drop]
    · obtain ⟨k, hk⟩ := List.getElem?_of_mem hm
      rw [List.getElem?_drop] at hk
      exact h3 (i + 1 + k) (by omega) ((one _).mpr hk)
theorem fold_within : ∀ (b : List Nat) (p : Bool), 47 ∉ b → b.foldl (fun b c => if c = 47 then false else if c = 39 then !b else b) p = (if b.count 39 % 2 = 1 then !p else p)
  | [], p, _ => by simp
  | c :: b, p, h => by
    have h1 : c ≠ 47 := fun z => h (by rw [z]; exact List.mem_cons_self)
    have h2 : 47 ∉ b := fun z => h (List.mem_cons_of_mem _ z)
    rw [List.foldl_cons, if_neg h1, fold_within b _ h2, List.count_cons]
    by_cases h3 : c = 39
    · subst h3
      rw [if_pos rfl]
      by_cases h4 : b.count 39 % 2 = 1
      · have h5 : ¬ (b.count 39 + 1) % 2 = 1 := by omega
        rw [if_pos h4]
        simp [h5]
      · have h5 : (b.count 39 + 1) % 2 = 1 := by omega
        rw [if_neg h4]
        simp [h5]
    · rw [if_neg h3]
      simp [h3]
theorem within_seg (l : List Nat) : KM.within l = decide ((l.drop (Txt.rfind (S l) (S [47]) + 1).toNat).count 39 % 2 = 1) := by
  unfold KM.within
  rcases rfind_spec l 47 with ⟨h1, h2⟩ | ⟨a, b, h1, h2, h3⟩
  · rw [h1, fold_within l false h2]
    simp
  · rw [h3]
    have e : l.drop ((a.length : Int) + 1).toNat = b := by
      have e1 : ((a.length : Int) + 1).toNat = (a ++ [47]).length := by simp
      rw [e1, h1, show a ++ 47 :: b = (a ++ [47]) ++ b by simp, List.drop_left]
    rw [e, h1, List.foldl_append, List.foldl_cons, if_pos rfl, fold_within b false h2]
    simp
theorem rfind_nn (l : List Nat) (c : Nat) : 0 ≤ Txt.rfind (S l) (S [c]) + 1 := by
  rcases rfind_spec l c with ⟨h1, _⟩ | ⟨a, _, _, _, h3⟩
  · rw [h1]; decide
  · rw [h3]; omega
theorem parity (m : Nat) : decide (((m : Nat) : Int) - 2 * (((m : Nat) : Int) / 2) = 1) = decide (m % 2 = 1) := by
  have h : ((m : Int) - 2 * ((m : Int) / 2) = 1) ↔ m % 2 = 1 := by omega
  by_cases z : m % 2 = 1
  · rw [decide_eq_true z, decide_eq_true (h.mpr z)]
  · rw [decide_eq_false z, decide_eq_false (fun q => z (h.mp q))]
end
end KD

/-! part KP -/
set_option Elab.async false
set_option linter.all false
set_option maxRecDepth 100000
set_option maxHeartbeats 4000000
/-! the text by places, what is wanted of the top -/
namespace KH
open PySem PySem.Spec PyProof.Rows L2
def top (i : Nat) : Stmt := PySem.Challenge.pw_ownclosers_k46_whole_true_books_do_not_h.main.body.getD i (.Pass ⟨0, 0, 0, 0⟩)
abbrev s_need_book : Stmt := top 20
abbrev s_need_manner : Stmt := top 21
abbrev s_is_text : Stmt := top 31
abbrev s_need_text : Stmt := top 32
abbrev s_is_sign : Stmt := top 33
abbrev s_closer_of : Stmt := top 34
abbrev s_is_letter : Stmt := top 35
abbrev s_is_closing : Stmt := top 36
abbrev s_is_free : Stmt := top 37
abbrev s_is_within : Stmt := top 38
abbrev s_Reading_init : Stmt := inClass (top 40) 0
abbrev s_Reading_is_quoted : Stmt := inClass (top 40) 1
abbrev s_Reading_can_read : Stmt := inClass (top 40) 2
abbrev s_Reading_read : Stmt := inClass (top 40) 3
abbrev s_read_all : Stmt := top 41
abbrev s_is_whole : Stmt := top 42
abbrev s_is_place_in : Stmt := top 48
abbrev s_is_page : Stmt := top 49
abbrev s_need_page : Stmt := top 50
abbrev s_is_key : Stmt := top 51
abbrev s_need_keys : Stmt := top 52
abbrev s_Page_init : Stmt := inClass (top 53) 0
abbrev s_Page_next_sign : Stmt := inClass (top 53) 1
abbrev s_Page_is_next_own : Stmt := inClass (top 53) 2
abbrev s_Page_go_over : Stmt := inClass (top 53) 3
abbrev s_Page_does_put : Stmt := inClass (top 53) 4
abbrev s_Page_type_sign : Stmt := inClass (top 53) 5
abbrev s_Page_go_back : Stmt := inClass (top 53) 6
abbrev s_Page_press : Stmt := inClass (top 53) 7
abbrev s_Page_right_text : Stmt := inClass (top 53) 8
abbrev s_Page_told : Stmt := inClass (top 53) 9
abbrev s_pressed : Stmt := top 54
abbrev s_need_behind : Stmt := top 56
abbrev s_typed_in : Stmt := top 57
abbrev s_typed : Stmt := top 58
abbrev s_is_typing : Stmt := top 59
abbrev s_behind_all : Stmt := top 60
abbrev s_left_over : Stmt := top 61
abbrev s_harms : Stmt := top 62
abbrev s_kind_of : Stmt := top 77
abbrev s_word_before : Stmt := top 78
abbrev s_stand_in : Stmt := top 79
abbrev s_stand_behind : Stmt := top 80
abbrev s_mixed : Stmt := top 82
abbrev s_folded : Stmt := top 83
abbrev s_draw : Stmt := top 84
abbrev s_begun : Stmt := top 85
abbrev s_menus : Stmt := top 86
abbrev s_book : Stmt := top 87
abbrev s_manner : Stmt := top 88
abbrev s_is_true : Stmt := top 89
abbrev s_true_book : Stmt := top 90
abbrev s_puts : Stmt := top 91
abbrev s_bared : Stmt := top 92
abbrev s_forgets : Stmt := top 93
abbrev s_with : Stmt := top 94
abbrev s_plain_come : Stmt := top 95
abbrev s_bracket_come : Stmt := top 96
abbrev s_quote_come : Stmt := top 97
abbrev s_slips_come : Stmt := top 98
abbrev s_come : Stmt := top 99
abbrev s_first : Stmt := top 100
abbrev s_least : Stmt := top 101
abbrev s_can : Stmt := top 102
abbrev s_read : Stmt := top 103
abbrev s_row : Stmt := top 104
abbrev s_ended : Stmt := top 105
abbrev s_full_row : Stmt := top 106
abbrev s_later : Stmt := top 107
abbrev s_needs_behind : Stmt := top 108
abbrev s_is_part : Stmt := top 109
abbrev s_law : Stmt := top 110
def d_need_book : He.DefD := ⟨("need_book", none), "need_book", "need_book", defArgs s_need_book, defBody s_need_book, defScope s_need_book, [], []⟩
def d_need_manner : He.DefD := ⟨("need_manner", none), "need_manner", "need_manner", defArgs s_need_manner, defBody s_need_manner, defScope s_need_manner, [], []⟩
def d_is_text : He.DefD := ⟨("is_text", none), "is_text", "is_text", defArgs s_is_text, defBody s_is_text, defScope s_is_text, [], []⟩
def d_need_text : He.DefD := ⟨("need_text", none), "need_text", "need_text", defArgs s_need_text, defBody s_need_text, defScope s_need_text, [], []⟩
def d_is_sign : He.DefD := ⟨("is_sign", none), "is_sign", "is_sign", defArgs s_is_sign, defBody s_is_sign, defScope s_is_sign, [], []⟩
def d_closer_of : He.DefD := ⟨("closer_of", none), "closer_of", "closer_of", defArgs s_closer_of, defBody s_closer_of, defScope s_closer_of, [], []⟩
def d_is_letter : He.DefD := ⟨("is_letter", none), "is_letter", "is_letter", defArgs s_is_letter, defBody s_is_letter, defScope s_is_letter, [], []⟩
def d_is_closing : He.DefD := ⟨("is_closing", none), "is_closing", "is_closing", defArgs s_is_closing, defBody s_is_closing, defScope s_is_closing, [], []⟩
def d_is_free : He.DefD := ⟨("is_free", none), "is_free", "is_free", defArgs s_is_free, defBody s_is_free, defScope s_is_free, [], []⟩
def d_is_within : He.DefD := ⟨("is_within", none), "is_within", "is_within", defArgs s_is_within, defBody s_is_within, defScope s_is_within, [], []⟩
def d_Reading_init : He.DefD := ⟨("Reading", some "__init__"), "__init__", "Reading.__init__", defArgs s_Reading_init, defBody s_Reading_init, defScope s_Reading_init, [], []⟩
def d_Reading_is_quoted : He.DefD := ⟨("Reading", some "is_quoted"), "is_quoted", "Reading.is_quoted", defArgs s_Reading_is_quoted, defBody s_Reading_is_quoted, defScope s_Reading_is_quoted, [], []⟩
def d_Reading_can_read : He.DefD := ⟨("Reading", some "can_read"), "can_read", "Reading.can_read", defArgs s_Reading_can_read, defBody s_Reading_can_read, defScope s_Reading_can_read, [], []⟩
def d_Reading_read : He.DefD := ⟨("Reading", some "read"), "read", "Reading.read", defArgs s_Reading_read, defBody s_Reading_read, defScope s_Reading_read, [], []⟩
def d_read_all : He.DefD := ⟨("read_all", none), "read_all", "read_all", defArgs s_read_all, defBody s_read_all, defScope s_read_all, [], []⟩
def d_is_whole : He.DefD := ⟨("is_whole", none), "is_whole", "is_whole", defArgs s_is_whole, defBody s_is_whole, defScope s_is_whole, [], []⟩
def d_is_place_in : He.DefD := ⟨("is_place_in", none), "is_place_in", "is_place_in", defArgs s_is_place_in, defBody s_is_place_in, defScope s_is_place_in, [], []⟩
def d_is_page : He.DefD := ⟨("is_page", none), "is_page", "is_page", defArgs s_is_page, defBody s_is_page, defScope s_is_page, [], []⟩
def d_need_page : He.DefD := ⟨("need_page", none), "need_page", "need_page", defArgs s_need_page, defBody s_need_page, defScope s_need_page, [], []⟩
def d_is_key : He.DefD := ⟨("is_key", none), "is_key", "is_key", defArgs s_is_key, defBody s_is_key, defScope s_is_key, [], []⟩
def d_need_keys : He.DefD := ⟨("need_keys", none), "need_keys", "need_keys", defArgs s_need_keys, defBody s_need_keys, defScope s_need_keys, [], []⟩
def d_Page_init : He.DefD := ⟨("Page", some "__init__"), "__init__", "Page.__init__", defArgs s_Page_init, defBody s_Page_init, defScope s_Page_init, [], []⟩
def d_Page_next_sign : He.DefD := ⟨("Page", some "next_sign"), "next_sign", "Page.next_sign", defArgs s_Page_next_sign, defBody s_Page_next_sign, defScope s_Page_next_sign, [], []⟩
def d_Page_is_next_own : He.DefD := ⟨("Page", some "is_next_own"), "is_next_own", "Page.is_next_own", defArgs s_Page_is_next_own, defBody s_Page_is_next_own, defScope s_Page_is_next_own, [], []⟩
def d_Page_go_over : He.DefD := ⟨("Page", some "go_over"), "go_over", "Page.go_over", defArgs s_Page_go_over, defBody s_Page_go_over, defScope s_Page_go_over, [], []⟩
def d_Page_does_put : He.DefD := ⟨("Page", some "does_put"), "does_put", "Page.does_put", defArgs s_Page_does_put, defBody s_Page_does_put, defScope s_Page_does_put, [], []⟩
def d_Page_type_sign : He.DefD := ⟨("Page", some "type_sign"), "type_sign", "Page.type_sign", defArgs s_Page_type_sign, defBody s_Page_type_sign, defScope s_Page_type_sign, [], []⟩
def d_Page_go_back : He.DefD := ⟨("Page", some "go_back"), "go_back", "Page.go_back", defArgs s_Page_go_back, defBody s_Page_go_back, defScope s_Page_go_back, [], []⟩
def d_Page_press : He.DefD := ⟨("Page", some "press"), "press", "Page.press", defArgs s_Page_press, defBody s_Page_press, defScope s_Page_press, [], []⟩
def d_Page_right_text : He.DefD := ⟨("Page", some "right_text"), "right_text", "Page.right_text", defArgs s_Page_right_text, defBody s_Page_right_text, defScope s_Page_right_text, [], []⟩
def d_Page_told : He.DefD := ⟨("Page", some "told"), "told", "Page.told", defArgs s_Page_told, defBody s_Page_told, defScope s_Page_told, [], []⟩
def d_pressed : He.DefD := ⟨("pressed", none), "pressed", "pressed", defArgs s_pressed, defBody s_pressed, defScope s_pressed, [], []⟩
def d_need_behind : He.DefD := ⟨("need_behind", none), "need_behind", "need_behind", defArgs s_need_behind, defBody s_need_behind, defScope s_need_behind, [], []⟩
def d_typed_in : He.DefD := ⟨("typed_in", none), "typed_in", "typed_in", defArgs s_typed_in, defBody s_typed_in, defScope s_typed_in, [], []⟩
def d_typed : He.DefD := ⟨("typed", none), "typed", "typed", defArgs s_typed, defBody s_typed, defScope s_typed, [], []⟩
def d_is_typing : He.DefD := ⟨("is_typing", none), "is_typing", "is_typing", defArgs s_is_typing, defBody s_is_typing, defScope s_is_typing, [], []⟩
def d_behind_all : He.DefD := ⟨("behind_all", none), "behind_all", "behind_all", defArgs s_behind_all, defBody s_behind_all, defScope s_behind_all, [], []⟩
def d_left_over : He.DefD := ⟨("left_over", none), "left_over", "left_over", defArgs s_left_over, defBody s_left_over, defScope s_left_over, [], []⟩
def d_harms : He.DefD := ⟨("harms", none), "harms", "harms", defArgs s_harms, defBody s_harms, defScope s_harms, [], []⟩
def d_kind_of : He.DefD := ⟨("kind_of", none), "kind_of", "kind_of", defArgs s_kind_of, defBody s_kind_of, defScope s_kind_of, [], []⟩
def d_word_before : He.DefD := ⟨("word_before", none), "word_before", "word_before", defArgs s_word_before, defBody s_word_before, defScope s_word_before, [], []⟩
def d_stand_in : He.DefD := ⟨("stand_in", none), "stand_in", "stand_in", defArgs s_stand_in, defBody s_stand_in, defScope s_stand_in, [], []⟩
def d_stand_behind : He.DefD := ⟨("stand_behind", none), "stand_behind", "stand_behind", defArgs s_stand_behind, defBody s_stand_behind, defScope s_stand_behind, [], []⟩
def d_mixed : He.DefD := ⟨("_law_mixed", none), "_law_mixed", "_law_mixed", defArgs s_mixed, defBody s_mixed, defScope s_mixed, [], []⟩
def d_folded : He.DefD := ⟨("_law_folded", none), "_law_folded", "_law_folded", defArgs s_folded, defBody s_folded, defScope s_folded, [], []⟩
def d_draw : He.DefD := ⟨("_law_draw", none), "_law_draw", "_law_draw", defArgs s_draw, defBody s_draw, defScope s_draw, [], []⟩
def d_begun : He.DefD := ⟨("_law_begun", none), "_law_begun", "_law_begun", defArgs s_begun, defBody s_begun, defScope s_begun, [], []⟩
def d_menus : He.DefD := ⟨("_law_menus", none), "_law_menus", "_law_menus", defArgs s_menus, defBody s_menus, defScope s_menus, [], []⟩
def d_book : He.DefD := ⟨("_law_book", none), "_law_book", "_law_book", defArgs s_book, defBody s_book, defScope s_book, [], []⟩
def d_manner : He.DefD := ⟨("_law_manner", none), "_law_manner", "_law_manner", defArgs s_manner, defBody s_manner, defScope s_manner, [], []⟩
def d_is_true : He.DefD := ⟨("_law_is_true", none), "_law_is_true", "_law_is_true", defArgs s_is_true, defBody s_is_true, defScope s_is_true, [], []⟩
def d_true_book : He.DefD := ⟨("_law_true_book", none), "_law_true_book", "_law_true_book", defArgs s_true_book, defBody s_true_book, defScope s_true_book, [], []⟩
def d_puts : He.DefD := ⟨("_law_puts", none), "_law_puts", "_law_puts", defArgs s_puts, defBody s_puts, defScope s_puts, [], []⟩
def d_bared : He.DefD := ⟨("_law_bared", none), "_law_bared", "_law_bared", defArgs s_bared, defBody s_bared, defScope s_bared, [], []⟩
def d_forgets : He.DefD := ⟨("_law_forgets", none), "_law_forgets", "_law_forgets", defArgs s_forgets, defBody s_forgets, defScope s_forgets, [], []⟩
def d_with : He.DefD := ⟨("_law_with", none), "_law_with", "_law_with", defArgs s_with, defBody s_with, defScope s_with, [], []⟩
def d_plain_come : He.DefD := ⟨("_law_plain_come", none), "_law_plain_come", "_law_plain_come", defArgs s_plain_come, defBody s_plain_come, defScope s_plain_come, [], []⟩
def d_bracket_come : He.DefD := ⟨("_law_bracket_come", none), "_law_bracket_come", "_law_bracket_come", defArgs s_bracket_come, defBody s_bracket_come, defScope s_bracket_come, [], []⟩
def d_quote_come : He.DefD := ⟨("_law_quote_come", none), "_law_quote_come", "_law_quote_come", defArgs s_quote_come, defBody s_quote_come, defScope s_quote_come, [], []⟩
def d_slips_come : He.DefD := ⟨("_law_slips_come", none), "_law_slips_come", "_law_slips_come", defArgs s_slips_come, defBody s_slips_come, defScope s_slips_come, [], []⟩
def d_come : He.DefD := ⟨("_law_come", none), "_law_come", "_law_come", defArgs s_come, defBody s_come, defScope s_come, [], []⟩
def d_first : He.DefD := ⟨("_law_first", none), "_law_first", "_law_first", defArgs s_first, defBody s_first, defScope s_first, [], []⟩
def d_least : He.DefD := ⟨("_law_least", none), "_law_least", "_law_least", defArgs s_least, defBody s_least, defScope s_least, [], []⟩
def d_can : He.DefD := ⟨("_law_can", none), "_law_can", "_law_can", defArgs s_can, defBody s_can, defScope s_can, [], []⟩
def d_read : He.DefD := ⟨("_law_read", none), "_law_read", "_law_read", defArgs s_read, defBody s_read, defScope s_read, [], []⟩
def d_row : He.DefD := ⟨("_law_row", none), "_law_row", "_law_row", defArgs s_row, defBody s_row, defScope s_row, [], []⟩
def d_ended : He.DefD := ⟨("_law_ended", none), "_law_ended", "_law_ended", defArgs s_ended, defBody s_ended, defScope s_ended, [], []⟩
def d_full_row : He.DefD := ⟨("_law_full_row", none), "_law_full_row", "_law_full_row", defArgs s_full_row, defBody s_full_row, defScope s_full_row, [], []⟩
def d_later : He.DefD := ⟨("_law_later", none), "_law_later", "_law_later", defArgs s_later, defBody s_later, defScope s_later, [], []⟩
def d_needs_behind : He.DefD := ⟨("_law_needs_behind", none), "_law_needs_behind", "_law_needs_behind", defArgs s_needs_behind, defBody s_needs_behind, defScope s_needs_behind, [], []⟩
def d_is_part : He.DefD := ⟨("_law_is_part", none), "_law_is_part", "_law_is_part", defArgs s_is_part, defBody s_is_part, defScope s_is_part, [], []⟩
def d_law : He.DefD := ⟨("law", none), "law", "law", defArgs s_law, defBody s_law, defScope s_law, [], []⟩
def fn : List He.DefD :=
  ([d_need_book, d_need_manner, d_is_text, d_need_text, d_is_sign, d_closer_of, d_is_letter, d_is_closing, d_is_free, d_is_within, d_Reading_init, d_Reading_is_quoted, d_Reading_can_read, d_Reading_read, d_read_all, d_is_whole, d_is_place_in, d_is_page, d_need_page, d_is_key, d_need_keys, d_Page_init, d_Page_next_sign, d_Page_is_next_own, d_Page_go_over, d_Page_does_put, d_Page_type_sign, d_Page_go_back, d_Page_press, d_Page_right_text] : List He.DefD) ++ ([d_Page_told, d_pressed, d_need_behind, d_typed_in, d_typed, d_is_typing, d_behind_all, d_left_over, d_harms, d_kind_of, d_word_before, d_stand_in, d_stand_behind, d_mixed, d_folded, d_draw, d_begun, d_menus, d_book, d_manner, d_is_true, d_true_book, d_puts, d_bared, d_forgets, d_with, d_plain_come, d_bracket_come, d_quote_come, d_slips_come] : List He.DefD) ++ ([d_come, d_first, d_least, d_can, d_read, d_row, d_ended, d_full_row, d_later, d_needs_behind, d_is_part, d_law] : List He.DefD)
def fa : List He.Fa :=
  ([.glo "need_book", .glo "need_manner", .glo "is_text", .glo "need_text", .glo "is_sign", .glo "closer_of", .glo "is_letter", .glo "is_closing", .glo "is_free", .glo "is_within", .glo "read_all", .glo "is_whole", .glo "is_place_in", .glo "is_page", .glo "need_page", .glo "is_key", .glo "need_keys", .glo "pressed", .glo "need_behind", .glo "typed_in", .glo "typed", .glo "is_typing", .glo "behind_all", .glo "left_over", .glo "harms", .glo "kind_of", .glo "word_before", .glo "stand_in", .glo "stand_behind", .glo "_law_mixed"] : List He.Fa) ++ ([.glo "_law_folded", .glo "_law_draw", .glo "_law_begun", .glo "_law_menus", .glo "_law_book", .glo "_law_manner", .glo "_law_is_true", .glo "_law_true_book", .glo "_law_puts", .glo "_law_bared", .glo "_law_forgets", .glo "_law_with", .glo "_law_plain_come", .glo "_law_bracket_come", .glo "_law_quote_come", .glo "_law_slips_come", .glo "_law_come", .glo "_law_first", .glo "_law_least", .glo "_law_can", .glo "_law_read", .glo "_law_row", .glo "_law_ended", .glo "_law_full_row", .glo "_law_later", .glo "_law_needs_behind", .glo "_law_is_part", .glo "law", .glo "Reading", .glo "Page"] : List He.Fa) ++ ([.glo "CHOICES", .free "isinstance", .free "len", .free "enumerate", .free "all", .free "tuple", .free "zip", .free "int", .free "range", .free "sorted", .free "set", .free "list", .free "str", .free "bool", .str "ALWAYS" "always", .str "FREE" "free", .str "NEVER" "never", .str "APART" "apart", .str "SAME" "same", .str "NONE" "none", .str "OWN" "own", .str "ANY" "any", .str "ONE" "one", .str "AT_LINES" "line", .str "OPENERS" "([", .str "CLOSERS" ")]", .str "QUOTE" "'", .str "BLANK" " ", .str "LINE" "/", .str "LETTERS" "abcdefghijklmnopqrstuvwxyz"] : List He.Fa) ++ ([.str "SIGNS" "([)]' /abcdefghijklmnopqrstuvwxyz", .int "MOST_TEXT" 200, .str "BACK" "back", .str "RIGHT" "right", .str "END" "end", .int "MOST_KEYS" 400, .str "OUT" "out", .str "IN" "in", .str "WORD" "word", .str "EVEN" "even", .str "ODD" "odd", .str "LETTER" "letter", .str "QUOTED" "quote", .str "PLAIN" "other", .str "CLOSER" "closer", .str "REST" "rest", .str "BLANK_SIGN" "blank", .str "NOTHING" "end", .str "WALL" "wall", .cls "Reading", .mkr "Reading", .noat "Reading" "has_words", .noat "Reading" "needs", .noat "Reading" "before", .noat "Reading" "is_open", .meth "Reading" "is_quoted", .meth "Reading" "can_read", .meth "Reading" "read", .cls "Page", .mkr "Page"] : List He.Fa) ++ ([.noat "Page" "left", .noat "Page" "right", .meth "Page" "next_sign", .meth "Page" "is_next_own", .meth "Page" "go_over", .meth "Page" "does_put", .meth "Page" "type_sign", .meth "Page" "go_back", .meth "Page" "press", .meth "Page" "right_text", .meth "Page" "told"] : List He.Fa)
abbrev R : PySem.W.OpenRow := PySem.W.OpenLaw.row PySem.Challenge.rw_ownclosers_k46_whole_true_books_do_not_h
/-- the i-th of the six menus -/
def choA (K : PySem.W.Frag) (i : Nat) : Addr := match K.lookup (He.ga K "CHOICES") with
  | some ⟨_, _, .seq its _, _⟩ => (match its.toList[i]? with
    | some (.ref a) => a
    | _ => 0)
  | _ => 0
def tupAt (K : PySem.W.Frag) (a : Addr) (vs : List V) : Bool := match K.lookup a with
  | some ⟨.type c, _, .seq its _, _⟩ => decide (c = "tuple") && (decide (its.size ≤ sizeLine) && He.relAll vs its.toList)
  | _ => false
def menus : List (List Str) := [["always", "free", "never"], ["always", "apart", "never"], ["same", "none"], ["own", "any", "never"], ["own", "any", "one"], ["never", "line"]]
def choAll (K : PySem.W.Frag) : Bool := tupAt K (He.ga K "CHOICES") ((List.range 6).map fun i => V.ref (choA K i)) && ((List.range 6).all fun i => tupAt K (choA K i) ((menus.getD i []).map V.str))
def loose : List PySem.Str :=
  (["CloserError", "BadText", "BadPage", "BadKeys", "BadBook", "BadManner", "NotMeant", "ALWAYS", "FREE", "NEVER", "APART", "SAME", "NONE", "OWN", "ANY", "ONE", "AT_LINES", "CHOICES", "need_book", "need_manner", "OPENERS", "CLOSERS", "QUOTE", "BLANK", "LINE", "LETTERS", "SIGNS", "MOST_TEXT", "is_text", "need_text"] : List PySem.Str) ++ (["is_sign", "closer_of", "is_letter", "is_closing", "is_free", "is_within", "Reading", "read_all", "is_whole", "BACK", "RIGHT", "END", "MOST_KEYS", "is_place_in", "is_page", "need_page", "is_key", "need_keys", "Page", "pressed", "need_behind", "typed_in", "typed", "is_typing", "behind_all", "left_over", "harms", "OUT", "IN", "WORD"] : List PySem.Str) ++ (["EVEN", "ODD", "LETTER", "QUOTED", "PLAIN", "CLOSER", "REST", "BLANK_SIGN", "NOTHING", "WALL", "kind_of", "word_before", "stand_in", "stand_behind", "_law_mixed", "_law_folded", "_law_draw", "_law_begun", "_law_menus", "_law_book", "_law_manner", "_law_is_true", "_law_true_book", "_law_puts", "_law_bared", "_law_forgets", "_law_with", "_law_plain_come", "_law_bracket_come", "_law_quote_come"] : List PySem.Str) ++ (["_law_slips_come", "_law_come", "_law_first", "_law_least", "_law_can", "_law_read", "_law_row", "_law_ended", "_law_full_row", "_law_later", "_law_needs_behind", "_law_is_part"] : List PySem.Str)
abbrev Al : Type := He.AlD × Bool
def refsAll (g : Addr → Option Obj) (as : List Addr) : List Addr := as.flatMap fun a => match g a with
  | some o => He.refsO o
  | none => []
def isDct (g : Addr → Option Obj) (a : Addr) : Bool := match g a with
  | some ⟨_, _, .dict _ _, _⟩ => true
  | _ => false
def isFnc (g : Addr → Option Obj) (a : Addr) : Bool := match g a with
  | some ⟨_, _, .func _, _⟩ => true
  | _ => false
def reach (g : Addr → Option Obj) : List Addr :=
  let a1 := refsAll g [mainGlobals]
  let a2 := refsAll g a1
  let a3 := (refsAll g (a2.filter (isDct g))).filter (isFnc g)
  let a4 := refsAll g a3
  mainGlobals :: (a1 ++ (a2 ++ (a3 ++ a4)))
def obsA (g : Addr → Option Obj) : Al := (He.obsD fa fn (He.frG g (reach g)), choAll (He.frG g (reach g)))
def valA : Al := (He.valD fn, true)
def Says (K : PySem.W.Frag) : Prop := He.SaysD fa fn K ∧ choAll K = true
def hk : PySem.W.Hook where
  α := Al
  obs := fun s => obsA s.heap.get?
  val := fun _ => valA
  says := fun _ h => ∃ K : PySem.W.Frag, K.In h ∧ Says K
  of := fun _ _ e => ⟨_, He.frG_in, congrArg Prod.fst e, congrArg Prod.snd e⟩
  keeps := fun _ _ _ ⟨K, hK, c⟩ k => ⟨K, PySem.W.Frag.In.keeps hK k, c⟩
def ob (s : PySem.W.SharedT) : Al := obsA (HandSHeadRun.getT s)
theorem ob_eq (s : PySem.W.SharedT) : ob s = hk.obs s.abs := by
  have e : HandSHeadRun.getT s = s.abs.heap.get? := funext (HandSHeadRun.getT_eq s)
  show obsA (HandSHeadRun.getT s) = obsA s.abs.heap.get?
  rw [e]
theorem tupAt_ok {K : PySem.W.Frag} {a : Addr} {vs : List V} (h : tupAt K a vs = true) (H : Hp) : SqT K H a vs := by
  unfold tupAt at h
  cases q : K.lookup a with
  | none => rw [q] at h; cases h
  | some o =>
    obtain ⟨oc, od, dt, osl⟩ := o
    rw [q] at h
    cases oc with
    | type c =>
      cases dt with
      | seq its n =>
        have z : (decide (c = "tuple") && (decide (its.size ≤ sizeLine) && He.relAll vs its.toList)) = true := h
        obtain ⟨h1, h2⟩ := He.ba z
        obtain ⟨h3, h4⟩ := He.ba h2
        exact .inr ⟨_, its, n, q, congrArg Value.type (of_decide_eq_true h1), rfl, of_decide_eq_true h3, He.relAll_ok h4⟩
      | _ => cases h
    | _ => cases dt <;> cases h
/-- what the walk asks of the top -/
structure Tx (K : PySem.W.Frag) (mg : Str → Option Value) : Prop where
  g_need_book : mg "need_book" = some (.ref (He.ga K "need_book"))
  g_need_manner : mg "need_manner" = some (.ref (He.ga K "need_manner"))
  g_is_text : mg "is_text" = some (.ref (He.ga K "is_text"))
  g_need_text : mg "need_text" = some (.ref (He.ga K "need_text"))
  g_is_sign : mg "is_sign" = some (.ref (He.ga K "is_sign"))
  g_closer_of : mg "closer_of" = some (.ref (He.ga K "closer_of"))
  g_is_letter : mg "is_letter" = some (.ref (He.ga K "is_letter"))
  g_is_closing : mg "is_closing" = some (.ref (He.ga K "is_closing"))
  g_is_free : mg "is_free" = some (.ref (He.ga K "is_free"))
  g_is_within : mg "is_within" = some (.ref (He.ga K "is_within"))
  g_read_all : mg "read_all" = some (.ref (He.ga K "read_all"))
  g_is_whole : mg "is_whole" = some (.ref (He.ga K "is_whole"))
  g_is_place_in : mg "is_place_in" = some (.ref (He.ga K "is_place_in"))
  g_is_page : mg "is_page" = some (.ref (He.ga K "is_page"))
  g_need_page : mg "need_page" = some (.ref (He.ga K "need_page"))
  g_is_key : mg "is_key" = some (.ref (He.ga K "is_key"))
  g_need_keys : mg "need_keys" = some (.ref (He.ga K "need_keys"))
  g_pressed : mg "pressed" = some (.ref (He.ga K "pressed"))
  g_need_behind : mg "need_behind" = some (.ref (He.ga K "need_behind"))
  g_typed_in : mg "typed_in" = some (.ref (He.ga K "typed_in"))
  g_typed : mg "typed" = some (.ref (He.ga K "typed"))
  g_is_typing : mg "is_typing" = some (.ref (He.ga K "is_typing"))
  g_behind_all : mg "behind_all" = some (.ref (He.ga K "behind_all"))
  g_left_over : mg "left_over" = some (.ref (He.ga K "left_over"))
  g_harms : mg "harms" = some (.ref (He.ga K "harms"))
  g_kind_of : mg "kind_of" = some (.ref (He.ga K "kind_of"))
  g_word_before : mg "word_before" = some (.ref (He.ga K "word_before"))
  g_stand_in : mg "stand_in" = some (.ref (He.ga K "stand_in"))
  g_stand_behind : mg "stand_behind" = some (.ref (He.ga K "stand_behind"))
  g_mixed : mg "_law_mixed" = some (.ref (He.ga K "_law_mixed"))
  g_folded : mg "_law_folded" = some (.ref (He.ga K "_law_folded"))
  g_draw : mg "_law_draw" = some (.ref (He.ga K "_law_draw"))
  g_begun : mg "_law_begun" = some (.ref (He.ga K "_law_begun"))
  g_menus : mg "_law_menus" = some (.ref (He.ga K "_law_menus"))
  g_book : mg "_law_book" = some (.ref (He.ga K "_law_book"))
  g_manner : mg "_law_manner" = some (.ref (He.ga K "_law_manner"))
  g_is_true : mg "_law_is_true" = some (.ref (He.ga K "_law_is_true"))
  g_true_book : mg "_law_true_book" = some (.ref (He.ga K "_law_true_book"))
  g_puts : mg "_law_puts" = some (.ref (He.ga K "_law_puts"))
  g_bared : mg "_law_bared" = some (.ref (He.ga K "_law_bared"))
  g_forgets : mg "_law_forgets" = some (.ref (He.ga K "_law_forgets"))
  g_with : mg "_law_with" = some (.ref (He.ga K "_law_with"))
  g_plain_come : mg "_law_plain_come" = some (.ref (He.ga K "_law_plain_come"))
  g_bracket_come : mg "_law_bracket_come" = some (.ref (He.ga K "_law_bracket_come"))
  g_quote_come : mg "_law_quote_come" = some (.ref (He.ga K "_law_quote_come"))
  g_slips_come : mg "_law_slips_come" = some (.ref (He.ga K "_law_slips_come"))
  g_come : mg "_law_come" = some (.ref (He.ga K "_law_come"))
  g_first : mg "_law_first" = some (.ref (He.ga K "_law_first"))
  g_least : mg "_law_least" = some (.ref (He.ga K "_law_least"))
  g_can : mg "_law_can" = some (.ref (He.ga K "_law_can"))
  g_read : mg "_law_read" = some (.ref (He.ga K "_law_read"))
  g_row : mg "_law_row" = some (.ref (He.ga K "_law_row"))
  g_ended : mg "_law_ended" = some (.ref (He.ga K "_law_ended"))
  g_full_row : mg "_law_full_row" = some (.ref (He.ga K "_law_full_row"))
  g_later : mg "_law_later" = some (.ref (He.ga K "_law_later"))
  g_needs_behind : mg "_law_needs_behind" = some (.ref (He.ga K "_law_needs_behind"))
  g_is_part : mg "_law_is_part" = some (.ref (He.ga K "_law_is_part"))
  g_law : mg "law" = some (.ref (He.ga K "law"))
  g_Reading : mg "Reading" = some (.ref (He.ga K "Reading"))
  g_Page : mg "Page" = some (.ref (He.ga K "Page"))
  g_CHOICES : mg "CHOICES" = some (.ref (He.ga K "CHOICES"))
  b_isinstance : mg "isinstance" = none
  b_len : mg "len" = none
  b_enumerate : mg "enumerate" = none
  b_all : mg "all" = none
  b_tuple : mg "tuple" = none
  b_zip : mg "zip" = none
  b_int : mg "int" = none
  b_range : mg "range" = none
  b_sorted : mg "sorted" = none
  b_set : mg "set" = none
  b_list : mg "list" = none
  b_str : mg "str" = none
  b_bool : mg "bool" = none
  c_ALWAYS : ∃ t, mg "ALWAYS" = some (.str "always" t)
  c_FREE : ∃ t, mg "FREE" = some (.str "free" t)
  c_NEVER : ∃ t, mg "NEVER" = some (.str "never" t)
  c_APART : ∃ t, mg "APART" = some (.str "apart" t)
  c_SAME : ∃ t, mg "SAME" = some (.str "same" t)
  c_NONE : ∃ t, mg "NONE" = some (.str "none" t)
  c_OWN : ∃ t, mg "OWN" = some (.str "own" t)
  c_ANY : ∃ t, mg "ANY" = some (.str "any" t)
  c_ONE : ∃ t, mg "ONE" = some (.str "one" t)
  c_AT_LINES : ∃ t, mg "AT_LINES" = some (.str "line" t)
  c_OPENERS : ∃ t, mg "OPENERS" = some (.str "([" t)
  c_CLOSERS : ∃ t, mg "CLOSERS" = some (.str ")]" t)
  c_QUOTE : ∃ t, mg "QUOTE" = some (.str "'" t)
  c_BLANK : ∃ t, mg "BLANK" = some (.str " " t)
  c_LINE : ∃ t, mg "LINE" = some (.str "/" t)
  c_LETTERS : ∃ t, mg "LETTERS" = some (.str "abcdefghijklmnopqrstuvwxyz" t)
  c_SIGNS : ∃ t, mg "SIGNS" = some (.str "([)]' /abcdefghijklmnopqrstuvwxyz" t)
  c_MOST_TEXT : ∃ t, mg "MOST_TEXT" = some (.int 200 t)
  c_BACK : ∃ t, mg "BACK" = some (.str "back" t)
  c_RIGHT : ∃ t, mg "RIGHT" = some (.str "right" t)
  c_END : ∃ t, mg "END" = some (.str "end" t)
  c_MOST_KEYS : ∃ t, mg "MOST_KEYS" = some (.int 400 t)
  c_OUT : ∃ t, mg "OUT" = some (.str "out" t)
  c_IN : ∃ t, mg "IN" = some (.str "in" t)
  c_WORD : ∃ t, mg "WORD" = some (.str "word" t)
  c_EVEN : ∃ t, mg "EVEN" = some (.str "even" t)
  c_ODD : ∃ t, mg "ODD" = some (.str "odd" t)
  c_LETTER : ∃ t, mg "LETTER" = some (.str "letter" t)
  c_QUOTED : ∃ t, mg "QUOTED" = some (.str "quote" t)
  c_PLAIN : ∃ t, mg "PLAIN" = some (.str "other" t)
  c_CLOSER : ∃ t, mg "CLOSER" = some (.str "closer" t)
  c_REST : ∃ t, mg "REST" = some (.str "rest" t)
  c_BLANK_SIGN : ∃ t, mg "BLANK_SIGN" = some (.str "blank" t)
  c_NOTHING : ∃ t, mg "NOTHING" = some (.str "end" t)
  c_WALL : ∃ t, mg "WALL" = some (.str "wall" t)
  cl_Reading : Cls K (He.ga K "Reading")
  mk_Reading : Mk K (He.ga K "Reading") (He.ma K (He.ga K "Reading") "__init__")
  na_Reading_has_words : NoAttr K (He.ga K "Reading") "has_words"
  na_Reading_needs : NoAttr K (He.ga K "Reading") "needs"
  na_Reading_before : NoAttr K (He.ga K "Reading") "before"
  na_Reading_is_open : NoAttr K (He.ga K "Reading") "is_open"
  me_Reading_is_quoted : Meth K (He.ga K "Reading") "is_quoted" (He.ma K (He.ga K "Reading") "is_quoted")
  me_Reading_can_read : Meth K (He.ga K "Reading") "can_read" (He.ma K (He.ga K "Reading") "can_read")
  me_Reading_read : Meth K (He.ga K "Reading") "read" (He.ma K (He.ga K "Reading") "read")
  cl_Page : Cls K (He.ga K "Page")
  mk_Page : Mk K (He.ga K "Page") (He.ma K (He.ga K "Page") "__init__")
  na_Page_left : NoAttr K (He.ga K "Page") "left"
  na_Page_right : NoAttr K (He.ga K "Page") "right"
  me_Page_next_sign : Meth K (He.ga K "Page") "next_sign" (He.ma K (He.ga K "Page") "next_sign")
  me_Page_is_next_own : Meth K (He.ga K "Page") "is_next_own" (He.ma K (He.ga K "Page") "is_next_own")
  me_Page_go_over : Meth K (He.ga K "Page") "go_over" (He.ma K (He.ga K "Page") "go_over")
  me_Page_does_put : Meth K (He.ga K "Page") "does_put" (He.ma K (He.ga K "Page") "does_put")
  me_Page_type_sign : Meth K (He.ga K "Page") "type_sign" (He.ma K (He.ga K "Page") "type_sign")
  me_Page_go_back : Meth K (He.ga K "Page") "go_back" (He.ma K (He.ga K "Page") "go_back")
  me_Page_press : Meth K (He.ga K "Page") "press" (He.ma K (He.ga K "Page") "press")
  me_Page_right_text : Meth K (He.ga K "Page") "right_text" (He.ma K (He.ga K "Page") "right_text")
  me_Page_told : Meth K (He.ga K "Page") "told" (He.ma K (He.ga K "Page") "told")
  d_need_book : ∃ fd, FunD K "need_book" "need_book" (defArgs s_need_book) (defBody s_need_book) (defScope s_need_book) [] [] (He.ga K "need_book") fd
  d_need_manner : ∃ fd, FunD K "need_manner" "need_manner" (defArgs s_need_manner) (defBody s_need_manner) (defScope s_need_manner) [] [] (He.ga K "need_manner") fd
  d_is_text : ∃ fd, FunD K "is_text" "is_text" (defArgs s_is_text) (defBody s_is_text) (defScope s_is_text) [] [] (He.ga K "is_text") fd
  d_need_text : ∃ fd, FunD K "need_text" "need_text" (defArgs s_need_text) (defBody s_need_text) (defScope s_need_text) [] [] (He.ga K "need_text") fd
  d_is_sign : ∃ fd, FunD K "is_sign" "is_sign" (defArgs s_is_sign) (defBody s_is_sign) (defScope s_is_sign) [] [] (He.ga K "is_sign") fd
  d_closer_of : ∃ fd, FunD K "closer_of" "closer_of" (defArgs s_closer_of) (defBody s_closer_of) (defScope s_closer_of) [] [] (He.ga K "closer_of") fd
  d_is_letter : ∃ fd, FunD K "is_letter" "is_letter" (defArgs s_is_letter) (defBody s_is_letter) (defScope s_is_letter) [] [] (He.ga K "is_letter") fd
  d_is_closing : ∃ fd, FunD K "is_closing" "is_closing" (defArgs s_is_closing) (defBody s_is_closing) (defScope s_is_closing) [] [] (He.ga K "is_closing") fd
  d_is_free : ∃ fd, FunD K "is_free" "is_free" (defArgs s_is_free) (defBody s_is_free) (defScope s_is_free) [] [] (He.ga K "is_free") fd
  d_is_within : ∃ fd, FunD K "is_within" "is_within" (defArgs s_is_within) (defBody s_is_within) (defScope s_is_within) [] [] (He.ga K "is_within") fd
  d_Reading_init : ∃ fd, FunD K "__init__" "Reading.__init__" (defArgs s_Reading_init) (defBody s_Reading_init) (defScope s_Reading_init) [] [] (He.ma K (He.ga K "Reading") "__init__") fd
  d_Reading_is_quoted : ∃ fd, FunD K "is_quoted" "Reading.is_quoted" (defArgs s_Reading_is_quoted) (defBody s_Reading_is_quoted) (defScope s_Reading_is_quoted) [] [] (He.ma K (He.ga K "Reading") "is_quoted") fd
  d_Reading_can_read : ∃ fd, FunD K "can_read" "Reading.can_read" (defArgs s_Reading_can_read) (defBody s_Reading_can_read) (defScope s_Reading_can_read) [] [] (He.ma K (He.ga K "Reading") "can_read") fd
  d_Reading_read : ∃ fd, FunD K "read" "Reading.read" (defArgs s_Reading_read) (defBody s_Reading_read) (defScope s_Reading_read) [] [] (He.ma K (He.ga K "Reading") "read") fd
  d_read_all : ∃ fd, FunD K "read_all" "read_all" (defArgs s_read_all) (defBody s_read_all) (defScope s_read_all) [] [] (He.ga K "read_all") fd
  d_is_whole : ∃ fd, FunD K "is_whole" "is_whole" (defArgs s_is_whole) (defBody s_is_whole) (defScope s_is_whole) [] [] (He.ga K "is_whole") fd
  d_is_place_in : ∃ fd, FunD K "is_place_in" "is_place_in" (defArgs s_is_place_in) (defBody s_is_place_in) (defScope s_is_place_in) [] [] (He.ga K "is_place_in") fd
  d_is_page : ∃ fd, FunD K "is_page" "is_page" (defArgs s_is_page) (defBody s_is_page) (defScope s_is_page) [] [] (He.ga K "is_page") fd
  d_need_page : ∃ fd, FunD K "need_page" "need_page" (defArgs s_need_page) (defBody s_need_page) (defScope s_need_page) [] [] (He.ga K "need_page") fd
  d_is_key : ∃ fd, FunD K "is_key" "is_key" (defArgs s_is_key) (defBody s_is_key) (defScope s_is_key) [] [] (He.ga K "is_key") fd
  d_need_keys : ∃ fd, FunD K "need_keys" "need_keys" (defArgs s_need_keys) (defBody s_need_keys) (defScope s_need_keys) [] [] (He.ga K "need_keys") fd
  d_Page_init : ∃ fd, FunD K "__init__" "Page.__init__" (defArgs s_Page_init) (defBody s_Page_init) (defScope s_Page_init) [] [] (He.ma K (He.ga K "Page") "__init__") fd
  d_Page_next_sign : ∃ fd, FunD K "next_sign" "Page.next_sign" (defArgs s_Page_next_sign) (defBody s_Page_next_sign) (defScope s_Page_next_sign) [] [] (He.ma K (He.ga K "Page") "next_sign") fd
  d_Page_is_next_own : ∃ fd, FunD K "is_next_own" "Page.is_next_own" (defArgs s_Page_is_next_own) (defBody s_Page_is_next_own) (defScope s_Page_is_next_own) [] [] (He.ma K (He.ga K "Page") "is_next_own") fd
  d_Page_go_over : ∃ fd, FunD K "go_over" "Page.go_over" (defArgs s_Page_go_over) (defBody s_Page_go_over) (defScope s_Page_go_over) [] [] (He.ma K (He.ga K "Page") "go_over") fd
  d_Page_does_put : ∃ fd, FunD K "does_put" "Page.does_put" (defArgs s_Page_does_put) (defBody s_Page_does_put) (defScope s_Page_does_put) [] [] (He.ma K (He.ga K "Page") "does_put") fd
  d_Page_type_sign : ∃ fd, FunD K "type_sign" "Page.type_sign" (defArgs s_Page_type_sign) (defBody s_Page_type_sign) (defScope s_Page_type_sign) [] [] (He.ma K (He.ga K "Page") "type_sign") fd
  d_Page_go_back : ∃ fd, FunD K "go_back" "Page.go_back" (defArgs s_Page_go_back) (defBody s_Page_go_back) (defScope s_Page_go_back) [] [] (He.ma K (He.ga K "Page") "go_back") fd
  d_Page_press : ∃ fd, FunD K "press" "Page.press" (defArgs s_Page_press) (defBody s_Page_press) (defScope s_Page_press) [] [] (He.ma K (He.ga K "Page") "press") fd
  d_Page_right_text : ∃ fd, FunD K "right_text" "Page.right_text" (defArgs s_Page_right_text) (defBody s_Page_right_text) (defScope s_Page_right_text) [] [] (He.ma K (He.ga K "Page") "right_text") fd
  d_Page_told : ∃ fd, FunD K "told" "Page.told" (defArgs s_Page_told) (defBody s_Page_told) (defScope s_Page_told) [] [] (He.ma K (He.ga K "Page") "told") fd
  d_pressed : ∃ fd, FunD K "pressed" "pressed" (defArgs s_pressed) (defBody s_pressed) (defScope s_pressed) [] [] (He.ga K "pressed") fd
  d_need_behind : ∃ fd, FunD K "need_behind" "need_behind" (defArgs s_need_behind) (defBody s_need_behind) (defScope s_need_behind) [] [] (He.ga K "need_behind") fd
  d_typed_in : ∃ fd, FunD K "typed_in" "typed_in" (defArgs s_typed_in) (defBody s_typed_in) (defScope s_typed_in) [] [] (He.ga K "typed_in") fd
  d_typed : ∃ fd, FunD K "typed" "typed" (defArgs s_typed) (defBody s_typed) (defScope s_typed) [] [] (He.ga K "typed") fd
  d_is_typing : ∃ fd, FunD K "is_typing" "is_typing" (defArgs s_is_typing) (defBody s_is_typing) (defScope s_is_typing) [] [] (He.ga K "is_typing") fd
  d_behind_all : ∃ fd, FunD K "behind_all" "behind_all" (defArgs s_behind_all) (defBody s_behind_all) (defScope s_behind_all) [] [] (He.ga K "behind_all") fd
  d_left_over : ∃ fd, FunD K "left_over" "left_over" (defArgs s_left_over) (defBody s_left_over) (defScope s_left_over) [] [] (He.ga K "left_over") fd
  d_harms : ∃ fd, FunD K "harms" "harms" (defArgs s_harms) (defBody s_harms) (defScope s_harms) [] [] (He.ga K "harms") fd
  d_kind_of : ∃ fd, FunD K "kind_of" "kind_of" (defArgs s_kind_of) (defBody s_kind_of) (defScope s_kind_of) [] [] (He.ga K "kind_of") fd
  d_word_before : ∃ fd, FunD K "word_before" "word_before" (defArgs s_word_before) (defBody s_word_before) (defScope s_word_before) [] [] (He.ga K "word_before") fd
  d_stand_in : ∃ fd, FunD K "stand_in" "stand_in" (defArgs s_stand_in) (defBody s_stand_in) (defScope s_stand_in) [] [] (He.ga K "stand_in") fd
  d_stand_behind : ∃ fd, FunD K "stand_behind" "stand_behind" (defArgs s_stand_behind) (defBody s_stand_behind) (defScope s_stand_behind) [] [] (He.ga K "stand_behind") fd
  d_mixed : ∃ fd, FunD K "_law_mixed" "_law_mixed" (defArgs s_mixed) (defBody s_mixed) (defScope s_mixed) [] [] (He.ga K "_law_mixed") fd
  d_folded : ∃ fd, FunD K "_law_folded" "_law_folded" (defArgs s_folded) (defBody s_folded) (defScope s_folded) [] [] (He.ga K "_law_folded") fd
  d_draw : ∃ fd, FunD K "_law_draw" "_law_draw" (defArgs s_draw) (defBody s_draw) (defScope s_draw) [] [] (He.ga K "_law_draw") fd
  d_begun : ∃ fd, FunD K "_law_begun" "_law_begun" (defArgs s_begun) (defBody s_begun) (defScope s_begun) [] [] (He.ga K "_law_begun") fd
  d_menus : ∃ fd, FunD K "_law_menus" "_law_menus" (defArgs s_menus) (defBody s_menus) (defScope s_menus) [] [] (He.ga K "_law_menus") fd
  d_book : ∃ fd, FunD K "_law_book" "_law_book" (defArgs s_book) (defBody s_book) (defScope s_book) [] [] (He.ga K "_law_book") fd
  d_manner : ∃ fd, FunD K "_law_manner" "_law_manner" (defArgs s_manner) (defBody s_manner) (defScope s_manner) [] [] (He.ga K "_law_manner") fd
  d_is_true : ∃ fd, FunD K "_law_is_true" "_law_is_true" (defArgs s_is_true) (defBody s_is_true) (defScope s_is_true) [] [] (He.ga K "_law_is_true") fd
  d_true_book : ∃ fd, FunD K "_law_true_book" "_law_true_book" (defArgs s_true_book) (defBody s_true_book) (defScope s_true_book) [] [] (He.ga K "_law_true_book") fd
  d_puts : ∃ fd, FunD K "_law_puts" "_law_puts" (defArgs s_puts) (defBody s_puts) (defScope s_puts) [] [] (He.ga K "_law_puts") fd
  d_bared : ∃ fd, FunD K "_law_bared" "_law_bared" (defArgs s_bared) (defBody s_bared) (defScope s_bared) [] [] (He.ga K "_law_bared") fd
  d_forgets : ∃ fd, FunD K "_law_forgets" "_law_forgets" (defArgs s_forgets) (defBody s_forgets) (defScope s_forgets) [] [] (He.ga K "_law_forgets") fd
  d_with : ∃ fd, FunD K "_law_with" "_law_with" (defArgs s_with) (defBody s_with) (defScope s_with) [] [] (He.ga K "_law_with") fd
  d_plain_come : ∃ fd, FunD K "_law_plain_come" "_law_plain_come" (defArgs s_plain_come) (defBody s_plain_come) (defScope s_plain_come) [] [] (He.ga K "_law_plain_come") fd
  d_bracket_come : ∃ fd, FunD K "_law_bracket_come" "_law_bracket_come" (defArgs s_bracket_come) (defBody s_bracket_come) (defScope s_bracket_come) [] [] (He.ga K "_law_bracket_come") fd
  d_quote_come : ∃ fd, FunD K "_law_quote_come" "_law_quote_come" (defArgs s_quote_come) (defBody s_quote_come) (defScope s_quote_come) [] [] (He.ga K "_law_quote_come") fd
  d_slips_come : ∃ fd, FunD K "_law_slips_come" "_law_slips_come" (defArgs s_slips_come) (defBody s_slips_come) (defScope s_slips_come) [] [] (He.ga K "_law_slips_come") fd
  d_come : ∃ fd, FunD K "_law_come" "_law_come" (defArgs s_come) (defBody s_come) (defScope s_come) [] [] (He.ga K "_law_come") fd
  d_first : ∃ fd, FunD K "_law_first" "_law_first" (defArgs s_first) (defBody s_first) (defScope s_first) [] [] (He.ga K "_law_first") fd
  d_least : ∃ fd, FunD K "_law_least" "_law_least" (defArgs s_least) (defBody s_least) (defScope s_least) [] [] (He.ga K "_law_least") fd
  d_can : ∃ fd, FunD K "_law_can" "_law_can" (defArgs s_can) (defBody s_can) (defScope s_can) [] [] (He.ga K "_law_can") fd
  d_read : ∃ fd, FunD K "_law_read" "_law_read" (defArgs s_read) (defBody s_read) (defScope s_read) [] [] (He.ga K "_law_read") fd
  d_row : ∃ fd, FunD K "_law_row" "_law_row" (defArgs s_row) (defBody s_row) (defScope s_row) [] [] (He.ga K "_law_row") fd
  d_ended : ∃ fd, FunD K "_law_ended" "_law_ended" (defArgs s_ended) (defBody s_ended) (defScope s_ended) [] [] (He.ga K "_law_ended") fd
  d_full_row : ∃ fd, FunD K "_law_full_row" "_law_full_row" (defArgs s_full_row) (defBody s_full_row) (defScope s_full_row) [] [] (He.ga K "_law_full_row") fd
  d_later : ∃ fd, FunD K "_law_later" "_law_later" (defArgs s_later) (defBody s_later) (defScope s_later) [] [] (He.ga K "_law_later") fd
  d_needs_behind : ∃ fd, FunD K "_law_needs_behind" "_law_needs_behind" (defArgs s_needs_behind) (defBody s_needs_behind) (defScope s_needs_behind) [] [] (He.ga K "_law_needs_behind") fd
  d_is_part : ∃ fd, FunD K "_law_is_part" "_law_is_part" (defArgs s_is_part) (defBody s_is_part) (defScope s_is_part) [] [] (He.ga K "_law_is_part") fd
  d_law : ∃ fd, FunD K "law" "law" (defArgs s_law) (defBody s_law) (defScope s_law) [] [] (He.ga K "law") fd
  cho : ∀ H : Hp, KD.Dt K H (.kt (menus.map fun m => .kt (m.map .str))) (.ref (He.ga K "CHOICES"))
theorem cho_of {K : PySem.W.Frag} (h : choAll K = true) (H : Hp) : KD.Dt K H (.kt (menus.map fun m => .kt (m.map .str))) (.ref (He.ga K "CHOICES")) := by
  obtain ⟨h1, h2⟩ := He.ba h
  have at_ : ∀ i, i < 6 → SqT K H (choA K i) ((menus.getD i []).map V.str) := fun i hi => tupAt_ok (List.all_eq_true.mp h2 i (List.mem_range.mpr hi)) H
  have one : ∀ i, i < 6 → KD.Dt K H (.kt ((menus.getD i []).map .str)) (.ref (choA K i)) := fun i hi => ⟨_, _, rfl, at_ i hi, KD.DtL.strs _⟩
  exact ⟨_, _, rfl, tupAt_ok h1 H, _, _, rfl, one 0 (by decide), _, _, rfl, one 1 (by decide), _, _, rfl, one 2 (by decide), _, _, rfl, one 3 (by decide), _, _, rfl, one 4 (by decide), _, _, rfl, one 5 (by decide), rfl⟩
theorem tx_of {K : PySem.W.Frag} {h : Heap} {mg : Str → Option Value} (X : K.In h) (G : h.Ns mainGlobals mg) (c : Says K) : Tx K mg where
  g_need_book := He.glo_ok X G (c.1.fact 0 rfl)
  g_need_manner := He.glo_ok X G (c.1.fact 1 rfl)
  g_is_text := He.glo_ok X G (c.1.fact 2 rfl)
  g_need_text := He.glo_ok X G (c.1.fact 3 rfl)
  g_is_sign := He.glo_ok X G (c.1.fact 4 rfl)
  g_closer_of := He.glo_ok X G (c.1.fact 5 rfl)
  g_is_letter := He.glo_ok X G (c.1.fact 6 rfl)
  g_is_closing := He.glo_ok X G (c.1.fact 7 rfl)
  g_is_free := He.glo_ok X G (c.1.fact 8 rfl)
  g_is_within := He.glo_ok X G (c.1.fact 9 rfl)
  g_read_all := He.glo_ok X G (c.1.fact 10 rfl)
  g_is_whole := He.glo_ok X G (c.1.fact 11 rfl)
  g_is_place_in := He.glo_ok X G (c.1.fact 12 rfl)
  g_is_page := He.glo_ok X G (c.1.fact 13 rfl)
  g_need_page := He.glo_ok X G (c.1.fact 14 rfl)
  g_is_key := He.glo_ok X G (c.1.fact 15 rfl)
  g_need_keys := He.glo_ok X G (c.1.fact 16 rfl)
  g_pressed := He.glo_ok X G (c.1.fact 17 rfl)
  g_need_behind := He.glo_ok X G (c.1.fact 18 rfl)
  g_typed_in := He.glo_ok X G (c.1.fact 19 rfl)
  g_typed := He.glo_ok X G (c.1.fact 20 rfl)
  g_is_typing := He.glo_ok X G (c.1.fact 21 rfl)
  g_behind_all := He.glo_ok X G (c.1.fact 22 rfl)
  g_left_over := He.glo_ok X G (c.1.fact 23 rfl)
  g_harms := He.glo_ok X G (c.1.fact 24 rfl)
  g_kind_of := He.glo_ok X G (c.1.fact 25 rfl)
  g_word_before := He.glo_ok X G (c.1.fact 26 rfl)
  g_stand_in := He.glo_ok X G (c.1.fact 27 rfl)
  g_stand_behind := He.glo_ok X G (c.1.fact 28 rfl)
  g_mixed := He.glo_ok X G (c.1.fact 29 rfl)
  g_folded := He.glo_ok X G (c.1.fact 30 rfl)
  g_draw := He.glo_ok X G (c.1.fact 31 rfl)
  g_begun := He.glo_ok X G (c.1.fact 32 rfl)
  g_menus := He.glo_ok X G (c.1.fact 33 rfl)
  g_book := He.glo_ok X G (c.1.fact 34 rfl)
  g_manner := He.glo_ok X G (c.1.fact 35 rfl)
  g_is_true := He.glo_ok X G (c.1.fact 36 rfl)
  g_true_book := He.glo_ok X G (c.1.fact 37 rfl)
  g_puts := He.glo_ok X G (c.1.fact 38 rfl)
  g_bared := He.glo_ok X G (c.1.fact 39 rfl)
  g_forgets := He.glo_ok X G (c.1.fact 40 rfl)
  g_with := He.glo_ok X G (c.1.fact 41 rfl)
  g_plain_come := He.glo_ok X G (c.1.fact 42 rfl)
  g_bracket_come := He.glo_ok X G (c.1.fact 43 rfl)
  g_quote_come := He.glo_ok X G (c.1.fact 44 rfl)
  g_slips_come := He.glo_ok X G (c.1.fact 45 rfl)
  g_come := He.glo_ok X G (c.1.fact 46 rfl)
  g_first := He.glo_ok X G (c.1.fact 47 rfl)
  g_least := He.glo_ok X G (c.1.fact 48 rfl)
  g_can := He.glo_ok X G (c.1.fact 49 rfl)
  g_read := He.glo_ok X G (c.1.fact 50 rfl)
  g_row := He.glo_ok X G (c.1.fact 51 rfl)
  g_ended := He.glo_ok X G (c.1.fact 52 rfl)
  g_full_row := He.glo_ok X G (c.1.fact 53 rfl)
  g_later := He.glo_ok X G (c.1.fact 54 rfl)
  g_needs_behind := He.glo_ok X G (c.1.fact 55 rfl)
  g_is_part := He.glo_ok X G (c.1.fact 56 rfl)
  g_law := He.glo_ok X G (c.1.fact 57 rfl)
  g_Reading := He.glo_ok X G (c.1.fact 58 rfl)
  g_Page := He.glo_ok X G (c.1.fact 59 rfl)
  g_CHOICES := He.glo_ok X G (c.1.fact 60 rfl)
  b_isinstance := He.free_ok X G (c.1.fact 61 rfl)
  b_len := He.free_ok X G (c.1.fact 62 rfl)
  b_enumerate := He.free_ok X G (c.1.fact 63 rfl)
  b_all := He.free_ok X G (c.1.fact 64 rfl)
  b_tuple := He.free_ok X G (c.1.fact 65 rfl)
  b_zip := He.free_ok X G (c.1.fact 66 rfl)
  b_int := He.free_ok X G (c.1.fact 67 rfl)
  b_range := He.free_ok X G (c.1.fact 68 rfl)
  b_sorted := He.free_ok X G (c.1.fact 69 rfl)
  b_set := He.free_ok X G (c.1.fact 70 rfl)
  b_list := He.free_ok X G (c.1.fact 71 rfl)
  b_str := He.free_ok X G (c.1.fact 72 rfl)
  b_bool := He.free_ok X G (c.1.fact 73 rfl)
  c_ALWAYS := He.str_ok X G (c.1.fact 74 rfl)
  c_FREE := He.str_ok X G (c.1.fact 75 rfl)
  c_NEVER := He.str_ok X G (c.1.fact 76 rfl)
  c_APART := He.str_ok X G (c.1.fact 77 rfl)
  c_SAME := He.str_ok X G (c.1.fact 78 rfl)
  c_NONE := He.str_ok X G (c.1.fact 79 rfl)
  c_OWN := He.str_ok X G (c.1.fact 80 rfl)
  c_ANY := He.str_ok X G (c.1.fact 81 rfl)
  c_ONE := He.str_ok X G (c.1.fact 82 rfl)
  c_AT_LINES := He.str_ok X G (c.1.fact 83 rfl)
  c_OPENERS := He.str_ok X G (c.1.fact 84 rfl)
  c_CLOSERS := He.str_ok X G (c.1.fact 85 rfl)
  c_QUOTE := He.str_ok X G (c.1.fact 86 rfl)
  c_BLANK := He.str_ok X G (c.1.fact 87 rfl)
  c_LINE := He.str_ok X G (c.1.fact 88 rfl)
  c_LETTERS := He.str_ok X G (c.1.fact 89 rfl)
  c_SIGNS := He.str_ok X G (c.1.fact 90 rfl)
  c_MOST_TEXT := He.int_ok X G (c.1.fact 91 rfl)
  c_BACK := He.str_ok X G (c.1.fact 92 rfl)
  c_RIGHT := He.str_ok X G (c.1.fact 93 rfl)
  c_END := He.str_ok X G (c.1.fact 94 rfl)
  c_MOST_KEYS := He.int_ok X G (c.1.fact 95 rfl)
  c_OUT := He.str_ok X G (c.1.fact 96 rfl)
  c_IN := He.str_ok X G (c.1.fact 97 rfl)
  c_WORD := He.str_ok X G (c.1.fact 98 rfl)
  c_EVEN := He.str_ok X G (c.1.fact 99 rfl)
  c_ODD := He.str_ok X G (c.1.fact 100 rfl)
  c_LETTER := He.str_ok X G (c.1.fact 101 rfl)
  c_QUOTED := He.str_ok X G (c.1.fact 102 rfl)
  c_PLAIN := He.str_ok X G (c.1.fact 103 rfl)
  c_CLOSER := He.str_ok X G (c.1.fact 104 rfl)
  c_REST := He.str_ok X G (c.1.fact 105 rfl)
  c_BLANK_SIGN := He.str_ok X G (c.1.fact 106 rfl)
  c_NOTHING := He.str_ok X G (c.1.fact 107 rfl)
  c_WALL := He.str_ok X G (c.1.fact 108 rfl)
  cl_Reading := He.cls_ok (c.1.fact 109 rfl)
  mk_Reading := He.mkr_ok (c.1.fact 110 rfl)
  na_Reading_has_words := He.noat_ok (c.1.fact 111 rfl)
  na_Reading_needs := He.noat_ok (c.1.fact 112 rfl)
  na_Reading_before := He.noat_ok (c.1.fact 113 rfl)
  na_Reading_is_open := He.noat_ok (c.1.fact 114 rfl)
  me_Reading_is_quoted := He.meth_ok (c.1.fact 115 rfl)
  me_Reading_can_read := He.meth_ok (c.1.fact 116 rfl)
  me_Reading_read := He.meth_ok (c.1.fact 117 rfl)
  cl_Page := He.cls_ok (c.1.fact 118 rfl)
  mk_Page := He.mkr_ok (c.1.fact 119 rfl)
  na_Page_left := He.noat_ok (c.1.fact 120 rfl)
  na_Page_right := He.noat_ok (c.1.fact 121 rfl)
  me_Page_next_sign := He.meth_ok (c.1.fact 122 rfl)
  me_Page_is_next_own := He.meth_ok (c.1.fact 123 rfl)
  me_Page_go_over := He.meth_ok (c.1.fact 124 rfl)
  me_Page_does_put := He.meth_ok (c.1.fact 125 rfl)
  me_Page_type_sign := He.meth_ok (c.1.fact 126 rfl)
  me_Page_go_back := He.meth_ok (c.1.fact 127 rfl)
  me_Page_press := He.meth_ok (c.1.fact 128 rfl)
  me_Page_right_text := He.meth_ok (c.1.fact 129 rfl)
  me_Page_told := He.meth_ok (c.1.fact 130 rfl)
  d_need_book := c.1.def_ 0 (d := d_need_book) rfl
  d_need_manner := c.1.def_ 1 (d := d_need_manner) rfl
  d_is_text := c.1.def_ 2 (d := d_is_text) rfl
  d_need_text := c.1.def_ 3 (d := d_need_text) rfl
  d_is_sign := c.1.def_ 4 (d := d_is_sign) rfl
  d_closer_of := c.1.def_ 5 (d := d_closer_of) rfl
  d_is_letter := c.1.def_ 6 (d := d_is_letter) rfl
  d_is_closing := c.1.def_ 7 (d := d_is_closing) rfl
  d_is_free := c.1.def_ 8 (d := d_is_free) rfl
  d_is_within := c.1.def_ 9 (d := d_is_within) rfl
  d_Reading_init := c.1.def_ 10 (d := d_Reading_init) rfl
  d_Reading_is_quoted := c.1.def_ 11 (d := d_Reading_is_quoted) rfl
  d_Reading_can_read := c.1.def_ 12 (d := d_Reading_can_read) rfl
  d_Reading_read := c.1.def_ 13 (d := d_Reading_read) rfl
  d_read_all := c.1.def_ 14 (d := d_read_all) rfl
  d_is_whole := c.1.def_ 15 (d := d_is_whole) rfl
  d_is_place_in := c.1.def_ 16 (d := d_is_place_in) rfl
  d_is_page := c.1.def_ 17 (d := d_is_page) rfl
  d_need_page := c.1.def_ 18 (d := d_need_page) rfl
  d_is_key := c.1.def_ 19 (d := d_is_key) rfl
  d_need_keys := c.1.def_ 20 (d := d_need_keys) rfl
  d_Page_init := c.1.def_ 21 (d := d_Page_init) rfl
  d_Page_next_sign := c.1.def_ 22 (d := d_Page_next_sign) rfl
  d_Page_is_next_own := c.1.def_ 23 (d := d_Page_is_next_own) rfl
  d_Page_go_over := c.1.def_ 24 (d := d_Page_go_over) rfl
  d_Page_does_put := c.1.def_ 25 (d := d_Page_does_put) rfl
  d_Page_type_sign := c.1.def_ 26 (d := d_Page_type_sign) rfl
  d_Page_go_back := c.1.def_ 27 (d := d_Page_go_back) rfl
  d_Page_press := c.1.def_ 28 (d := d_Page_press) rfl
  d_Page_right_text := c.1.def_ 29 (d := d_Page_right_text) rfl
  d_Page_told := c.1.def_ 30 (d := d_Page_told) rfl
  d_pressed := c.1.def_ 31 (d := d_pressed) rfl
  d_need_behind := c.1.def_ 32 (d := d_need_behind) rfl
  d_typed_in := c.1.def_ 33 (d := d_typed_in) rfl
  d_typed := c.1.def_ 34 (d := d_typed) rfl
  d_is_typing := c.1.def_ 35 (d := d_is_typing) rfl
  d_behind_all := c.1.def_ 36 (d := d_behind_all) rfl
  d_left_over := c.1.def_ 37 (d := d_left_over) rfl
  d_harms := c.1.def_ 38 (d := d_harms) rfl
  d_kind_of := c.1.def_ 39 (d := d_kind_of) rfl
  d_word_before := c.1.def_ 40 (d := d_word_before) rfl
  d_stand_in := c.1.def_ 41 (d := d_stand_in) rfl
  d_stand_behind := c.1.def_ 42 (d := d_stand_behind) rfl
  d_mixed := c.1.def_ 43 (d := d_mixed) rfl
  d_folded := c.1.def_ 44 (d := d_folded) rfl
  d_draw := c.1.def_ 45 (d := d_draw) rfl
  d_begun := c.1.def_ 46 (d := d_begun) rfl
  d_menus := c.1.def_ 47 (d := d_menus) rfl
  d_book := c.1.def_ 48 (d := d_book) rfl
  d_manner := c.1.def_ 49 (d := d_manner) rfl
  d_is_true := c.1.def_ 50 (d := d_is_true) rfl
  d_true_book := c.1.def_ 51 (d := d_true_book) rfl
  d_puts := c.1.def_ 52 (d := d_puts) rfl
  d_bared := c.1.def_ 53 (d := d_bared) rfl
  d_forgets := c.1.def_ 54 (d := d_forgets) rfl
  d_with := c.1.def_ 55 (d := d_with) rfl
  d_plain_come := c.1.def_ 56 (d := d_plain_come) rfl
  d_bracket_come := c.1.def_ 57 (d := d_bracket_come) rfl
  d_quote_come := c.1.def_ 58 (d := d_quote_come) rfl
  d_slips_come := c.1.def_ 59 (d := d_slips_come) rfl
  d_come := c.1.def_ 60 (d := d_come) rfl
  d_first := c.1.def_ 61 (d := d_first) rfl
  d_least := c.1.def_ 62 (d := d_least) rfl
  d_can := c.1.def_ 63 (d := d_can) rfl
  d_read := c.1.def_ 64 (d := d_read) rfl
  d_row := c.1.def_ 65 (d := d_row) rfl
  d_ended := c.1.def_ 66 (d := d_ended) rfl
  d_full_row := c.1.def_ 67 (d := d_full_row) rfl
  d_later := c.1.def_ 68 (d := d_later) rfl
  d_needs_behind := c.1.def_ 69 (d := d_needs_behind) rfl
  d_is_part := c.1.def_ 70 (d := d_is_part) rfl
  d_law := c.1.def_ 71 (d := d_law) rfl
  cho := cho_of c.2
end KH

/-! part KRun -/
set_option Elab.async false
set_option linter.all false
set_option maxRecDepth 100000
set_option maxHeartbeats 0
namespace KH
open PySem PySem.Spec PyProof.Rows L2
theorem run (w : World) : HandSHeadRun.RunEq R (PySem.W.view R.prog [110]) hk ob 20000 loose w := by
  intro os
  kernel_rfl
end KH

/-! part KT -/
set_option Elab.async false
set_option linter.all false
set_option maxRecDepth 100000
set_option maxHeartbeats 4000000
/-! small rules that the terms ask for -/
namespace KH
open PySem PySem.Spec PyProof.Rows L2
section
variable {X : Cx}
/-- a module's constant text, number -/
theorem pe_gS {x z : Str} {pos : Pos} (hg : Gl X x) (h : ∃ t, X.mg x = some (.str z t)) (hd : (x == ("__debug__" : Str)) = false := by decide) : PE X (.Name x pos) (tC (.str z)) := by
  obtain ⟨t, h⟩ := h
  exact pe_glob hg h ⟨t, rfl⟩ hd
theorem pe_gI {x : Str} {z : Int} {pos : Pos} (hg : Gl X x) (h : ∃ t, X.mg x = some (.int z t)) (hd : (x == ("__debug__" : Str)) = false := by decide) : PE X (.Name x pos) (tC (.int z)) := by
  obtain ⟨t, h⟩ := h
  exact pe_glob hg h ⟨t, rfl⟩ hd
theorem pe_gT {x : Str} {n : String} {pos : Pos} (hg : Gl X x) (hm : X.mg x = none) (hv : bootBuiltins x = some (.type n)) (hn : x ≠ "__name__" := by decide) (hd : (x == ("__debug__" : Str)) = false := by decide) : PE X (.Name x pos) (tC (.ty n)) :=
  pe_bltn hg hm hv rfl hn hd
/-- text += text, a local -/
def ipS : TIp := fun x y H Q => ∃ i j, x = .str i ∧ y = .str j ∧ i.length + j.length ≤ sizeLine ∧ Q (.str (i ++ j)) H
theorem ip_addS : PIp X .Add ipS := fun pins s σ H x y v u Q I r1 r2 h => iop_add_str pins s σ H x y v u Q I r1 r2 h
/-- f() -/
theorem pe_c0 {k j : Nat} {x : Str} {sp : Sp} {dvs : List V} {p pos : Pos} (c : C8.Cal X.prog X.w X.K X.mg X.base k x sp dvs) (hr : Room j X.A) (hk : k ≤ j) (hg : Gl X x) (hdb : (x == ("__debug__" : Str)) = false := by decide) :
    PE X (.Call (.Name x p) [] [] pos) (tCall sp dvs C8.E0 tNil) := by
  obtain ⟨f, fd, ps, ds, F, hm, kp, b, d⟩ := c.ex
  exact pe_call0 F (hr.mono hk) hg hm kp b d C8.pass0 hdb
/-- the same rules where the written part is told (a comprehension's block) -/
theorem ix_tupK {K : PySem.W.Frag} (e : X.K = K) : IxR X (rIxT K) := e ▸ ix_tup
theorem call_isiK {K : PySem.W.Frag} (e : X.K = K) : CallR X (.builtin "isinstance") (rIsi K) := e ▸ call_isi
theorem call_lenK {K : PySem.W.Frag} (e : X.K = K) : CallR X (.builtin "len") (fun xs H Q => ∃ x n, xs = [x] ∧ LenV K x H n ∧ Q (.int n) H) := e ▸ call_len
theorem op_in_seqK {K : PySem.W.Frag} (e : X.K = K) : OpR X (compareOp .In) (rIn K false) := e ▸ op_in_seq
theorem pg_tupK {K : PySem.W.Frag} {es : List Expr} {k : Nat} {pos : Pos} {t : TGs} {n : Nat} (e : X.K = K) (hc : X.calm = true) (h : PGs X es t)
    (hn : (assignEach es X.env).length = n := by rfl) (hst : (assignEach es X.env).findIdx? (·.1) = none := by rfl) : PG X (.Tuple es k pos) (gTup K n t) := e ▸ pg_tup hc h hn hst
/-- an expression that the proof never comes to -/
def tNo : TE := fun _ _ _ => False
theorem pe_no {e : Expr} : PE X e tNo := ⟨fun _ _ _ _ _ _ h => h.elim⟩
end
theorem hu64 {A : Around} {k : Nat} (hr : Room k A) : A.units + 64 < cLine := hr.units
theorem hu65 {A : Around} {k : Nat} (hr : Room k A) : A.units + 65 < cLine := by have := hr.un; omega
/-- a def by its body: the promise -/
theorem cal_of {P : Program} {w : World} {K : PySem.W.Frag} {mg : Str → Option Value} {base : Heap} {x : Str} {pa : Arguments} {bd : List Stmt} {sc : Scope} {N ps : List Str} {k : Nat} {sp : Sp} {f : Addr}
    (F : ∃ fd, FunD K x x pa bd sc [] [] f fd) (hm : mg x = some (.ref f)) (S : FnScope N ps sc)
    (hb : ∀ (kV doc pm : Value) (an : Option Addr) (cdv ct : Value) (us : List Value), us.length = ps.length → bindArgs (PySem.W.fnOf x x pa bd sc .none kV doc pm an cdv ct) ⟨us, []⟩ = pure (ps.zip us))
    (len : ∀ vs H Q E, sp vs H Q E → vs.length = ps.length)
    (hbody : ∀ (cdv : Value) (A : Around) (outer : List PySem.Env) (s : Shared) (H : Hp) (E : XK), Room k (A.deeper (envOfC x sc s.heap.objs.size f cdv)) →
      ∃ t, PSs (cxOf C8.CX0 P w K mg base N x sc f cdv A outer s H E).nox bd t ∧ ∀ vs Q, sp vs H Q E → t { nx := fun _ H' => Q .non H', rt := Q } (L2.start N vs) H) : C8.Cal P w K mg base (k + 1) x sp [] := by
  obtain ⟨fd, F⟩ := F
  refine ⟨f, fd, ps, [], F.ok S len (fun cdv A outer s H vs Q E hr h => ?_), hm, F.kp, F.bindsN hb, .nil⟩
  obtain ⟨t, h1, h2⟩ := hbody cdv A outer s H E hr
  exact ⟨t, h1.nox, h2 vs Q h⟩
theorem met_of {P : Program} {w : World} {K : PySem.W.Frag} {mg : Str → Option Value} {base : Heap} {m qual : Str} {pa : Arguments} {bd : List Stmt} {sc : Scope} {N ps : List Str} {k : Nat} {sp : Sp} {f C : Addr}
    (F : ∃ fd, FunD K m qual pa bd sc [] [] f fd) (hc : Cls K C) (hm : Meth K C m f) (S : FnScope N ps sc)
    (hb : ∀ (kV doc pm : Value) (an : Option Addr) (cdv ct : Value) (us : List Value), us.length = ps.length → bindArgs (PySem.W.fnOf m qual pa bd sc .none kV doc pm an cdv ct) ⟨us, []⟩ = pure (ps.zip us))
    (len : ∀ vs H Q E, sp vs H Q E → vs.length = ps.length)
    (hbody : ∀ (cdv : Value) (A : Around) (outer : List PySem.Env) (s : Shared) (H : Hp) (E : XK), Room k (A.deeper (envOfC qual sc s.heap.objs.size f cdv)) →
      ∃ t, PSs (cxOf C8.CX0 P w K mg base N qual sc f cdv A outer s H E).nox bd t ∧ ∀ vs Q, sp vs H Q E → t { nx := fun _ H' => Q .non H', rt := Q } (L2.start N vs) H) : C8.Met P w K mg base (k + 1) C m sp [] := by
  obtain ⟨fd, F⟩ := F
  refine ⟨f, fd, ps, [], hc, hm, F.ok S len (fun cdv A outer s H vs Q E hr h => ?_), F.bindsN hb, .nil⟩
  obtain ⟨t, h1, h2⟩ := hbody cdv A outer s H E hr
  exact ⟨t, h1.nox, h2 vs Q h⟩
theorem mak_of {P : Program} {w : World} {K : PySem.W.Frag} {mg : Str → Option Value} {base : Heap} {x qual : Str} {pa : Arguments} {bd : List Stmt} {sc : Scope} {N ps : List Str} {k : Nat} {sp : Sp} {f C : Addr}
    (F : ∃ fd, FunD K "__init__" qual pa bd sc [] [] f fd) (hk : Mk K C f) (hm : mg x = some (.ref C)) (S : FnScope N ps sc)
    (hb : ∀ (kV doc pm : Value) (an : Option Addr) (cdv ct : Value) (us : List Value), us.length = ps.length → bindArgs (PySem.W.fnOf "__init__" qual pa bd sc .none kV doc pm an cdv ct) ⟨us, []⟩ = pure (ps.zip us))
    (len : ∀ vs H Q E, sp vs H Q E → vs.length = ps.length)
    (hbody : ∀ (cdv : Value) (A : Around) (outer : List PySem.Env) (s : Shared) (H : Hp) (E : XK), Room k (A.deeper (envOfC qual sc s.heap.objs.size f cdv)) →
      ∃ t, PSs (cxOf C8.CX0 P w K mg base N qual sc f cdv A outer s H E).nox bd t ∧ ∀ vs Q, sp vs H Q E → t { nx := fun _ H' => Q .non H', rt := Q } (L2.start N vs) H) : C8.Mak P w K mg base (k + 1) x C sp [] := by
  obtain ⟨fd, F⟩ := F
  refine ⟨f, fd, ps, [], hk, F.ok S len (fun cdv A outer s H vs Q E hr h => ?_), hm, F.bindsN hb, .nil⟩
  obtain ⟨t, h1, h2⟩ := hbody cdv A outer s H E hr
  exact ⟨t, h1.nox, h2 vs Q h⟩
end KH

/-! part KI -/
set_option Elab.async false
set_option linter.all false
set_option maxRecDepth 100000
set_option maxHeartbeats 4000000
/-! enumerate of a tuple, of a text -/
namespace KH
open PySem PySem.Spec PyProof.Rows L2
set_option maxHeartbeats 1000000 in
theorem new_en {v : Value} {o : Obj} {Hh : Heap → Prop} (B : Begins v o Hh) :
    Meets (Builtin.«enumerate.__new__» ⟨[.type "enumerate", v], []⟩) (fun _ R s => Hh s.heap ∧ R (.ok (.ret (.ref (s.heap.push o).objs.size)))
        { s with heap := (s.heap.push o).push { cls := .type "enumerate", data := .fields #[.none, .bool false, .ref s.heap.objs.size, rawInt 0, .none, .none] } }) :=
  .of_wp fun prog w A R s hyp => by
    obtain ⟨hp, gens, drawn, toks, outs⟩ := s
    obtain ⟨begun, hyp⟩ := hyp
    have subty := sub_enumerate
    have start : ∀ {A' : Around} {E : Value → Shared → Prop} {Q : Value → Shared → Prop}, Q (.ref hp.objs.size) ⟨hp.push o, gens, drawn, toks, outs⟩ → wpAny (model prog w) A' (pyIter v) Q E ⟨hp, gens, drawn, toks, outs⟩ :=
      fun hq => B.iter prog w _ _ ⟨hp, gens, drawn, toks, outs⟩ _ begun hq
    wp_walk
    refine wpAny_stack_any fun st => wpAny_pure ?_
    split
    · rename_i cl _ _ _ _ _
      cases (cl == Value.type "enumerate")
      all_goals (wp_walk using start; exact ⟨_, rfl, hyp⟩)
    · wp_walk using start; exact ⟨_, rfl, hyp⟩
theorem call_en {prog : Program} {w : World} {A : Around} {E : Value → Shared → Prop} {s : Shared} {v : Value} {o : Obj} {Hh : Heap → Prop} {Q : Value → Shared → Prop} (B : Begins v o Hh) (begun : Hh s.heap)
    (fin : ∀ h', IsEnum h' (s.heap.objs.size + 1) s.heap.objs.size 0 .none → h'.get? s.heap.objs.size = some o → (∀ b c, s.heap.get? b = some c → h'.get? b = some c) → Q (.ref (s.heap.objs.size + 1)) { s with heap := h' }) :
    wpAny (model prog w) A (call (.type "enumerate") [v]) Q E s := by
  refine callType_new F.called_enumerate (by decide) (F.typeCall_enumerate_1 _) (F.newCall_enumerate_1 _) (fun obj => F.args_object_init_2 obj _) F.entry_enumerate_new (new_en B) ⟨begun, ?_⟩
  have sz : (s.heap.push o).objs.size = s.heap.objs.size + 1 := Heap.size_push ..
  show _ ∧ _
  rw [sz]
  have isE : IsEnum ((s.heap.push o).push { cls := .type "enumerate", data := .fields #[.none, .bool false, .ref s.heap.objs.size, rawInt 0, .none, .none] }) (s.heap.objs.size + 1) s.heap.objs.size 0 .none := by
    have got := Heap.get?_push_size (s.heap.push o) (o := { cls := .type "enumerate", data := .fields #[.none, .bool false, .ref s.heap.objs.size, rawInt 0, .none, .none] }) rfl
    rw [sz] at got; exact got
  exact ⟨⟨_, isE, rfl⟩, fin _ isE (Heap.get?_push_of_some _ (Heap.get?_push_size _ B.free)) fun b c got => Heap.get?_push_of_some _ (Heap.get?_push_of_some _ got)⟩

def IenT (K : PySem.W.Frag) (a : Addr) (xs : List V) : It :=
  ⟨fun i H => i < xs.length ∧ SqT K H a xs, fun i H v H' => ∃ T x, v = .ref T ∧ H T = none ∧ H' = upd H T (.tup [.int (i : Nat), x]) ∧ xs[i]? = some x, fun i H => i = xs.length ∧ SqT K H a xs⟩
theorem turn_enT {P : Program} {w : World} {K : PySem.W.Frag} {elts : List Expr} {kk : Nat} {tpos : Pos} (a : Addr) (xs : List V) (e it : Addr) (apart : e ≠ it ∧ e ≠ a) (apart2 : a ≠ it) :
    Turn P w K (.Tuple elts kk tpos) (IenT K a xs) [e, it] e (fun i h => (∃ old, IsEnum h e it ((i : Nat) : Int) old) ∧ h.IsTupleIter it a i) where
  mem := List.mem_cons_self
  obj := fun i h st b hb => by
    obtain ⟨⟨old, isE⟩, ⟨o, ho, hc, hd⟩⟩ := st
    rcases List.mem_cons.mp hb with z | z
    · rw [z]; exact ⟨_, isE, fun v q => nomatch q⟩
    · rw [List.mem_singleton.mp z]; exact ⟨o, ho, fun v q => by rw [hd] at q; cases q⟩
  keep := fun i h h' st k => ⟨st.1.imp fun old isE => k e (by simp) _ isE, st.2.at fun o q => k it (by simp) o q⟩
  item := by
    intro X hP hw hK calm i pins s σ H E I hf st hg
    subst hP hw hK
    obtain ⟨⟨old, isE⟩, hit⟩ := st
    obtain ⟨lt, ok⟩ := hg
    obtain ⟨its, rv, isT, _⟩ := I.tuple ok
    have ln : its.toArray.size = xs.length := by simp [rv.length]
    have lte : e < s.heap.objs.size := Heap.lt_size isE
    have lti : it < s.heap.objs.size := by obtain ⟨_, q, _⟩ := hit; exact Heap.lt_size q
    have draws := Draws.tuple (prog := X.prog) (w := X.w) (A := X.A.in1) (I.ok.hd calm) it a apart2 its.toArray
    refine wpAny_pyNext_enum_itemD draws isE ⟨hit, isT⟩ (by rw [ln]; exact lt) apart.1 (by simp [apart.1, apart.2]) fun u h1 tk got out st1 tup hsz kept => ?_
    obtain ⟨x, isx, ru⟩ : ∃ x, xs[i]? = some x ∧ RelV x u := by
      obtain ⟨w1, e1, r1⟩ := rv.get (List.getElem?_eq_getElem lt)
      have e2 : w1 = u := Option.some.inj (e1.symm.trans (by simpa using got))
      exact ⟨_, List.getElem?_eq_getElem lt, e2 ▸ r1⟩
    refine ⟨_, rfl, wpAny_letOwnedTupleGo_enum (s := { s with heap := h1, toks := tk + 1 }) out fun h2 isE2 sb => ?_⟩
    have tup2 : h2.get? s.heap.objs.size = some { cls := .type "tuple", data := .seq #[.int i tk, u] } := (sb.2 _ (Nat.ne_of_gt lte)).trans tup
    have new : ObjOk X.prog X.w (upd H s.heap.objs.size (.tup [.int (i : Nat), x])) h2 s.heap.objs.size (.tup [.int (i : Nat), x]) :=
      ⟨by show 2 ≤ sizeLine; decide, [.int i tk, u], .cons ⟨_, rfl⟩ (.cons ru .nil), ⟨_, tup2, rfl, _, rfl⟩⟩
    have I1 : Inv X pins σ (upd H s.heap.objs.size (.tup [.int (i : Nat), x])) { s with heap := h2, toks := tk + 1 } :=
      I.turnedNew (ch := [e, it]) (fun b ob hb q => (sb.2 b (fun z => hb (by simp [z]))).trans (kept b ob (fun z => hb (by simp [z])) (fun z => hb (by simp [z])) q)) hf (Nat.le_refl _) new
    refine ⟨.ref s.heap.objs.size, _, I1, rfl, ⟨_, x, rfl, I.hok.fresh (Nat.le_refl _), rfl, isx⟩, ⟨⟨u, ?_⟩, st1.1.at fun o q => (sb.2 it (Ne.symm apart.1)).trans q⟩, fun b hb => ?_⟩
    · rw [show ((i + 1 : Nat) : Int) = (i : Int) + 1 by omega]
      exact isE2
    · have lt2 : b < s.heap.objs.size := by
        rcases List.mem_cons.mp hb with z | z
        · rw [z]; exact lte
        · rw [List.mem_singleton.mp z]; exact lti
      rw [upd_ne (Nat.ne_of_lt lt2)]
      exact (hf b hb).1
  done := by
    intro X hP hw hK calm i pins s σ H E I hf st hg
    subst hP hw hK
    obtain ⟨⟨old, isE⟩, hit⟩ := st
    obtain ⟨lt, ok⟩ := hg
    subst lt
    obtain ⟨its, rv, isT, _⟩ := I.tuple ok
    have ln : its.toArray.size = xs.length := by simp [rv.length]
    obtain ⟨f0, f1, f2, f3, f4, f5⟩ := hf it (by simp)
    have draws := Draws.tuple (prog := X.prog) (w := X.w) (A := X.A.in1) (I.ok.hd calm) it a apart2 its.toArray
    exact wpAny_pyNext_enum_endD draws isE ⟨by rw [ln]; exact hit, isT⟩ fun h' eb => ⟨rfl, I.turned (t' := s.toks) (fun b o hb q => eb b o hb q) f0 f1 f3 f4 f5⟩
  self := fun A i s Q E st h => let ⟨⟨_, isE⟩, _⟩ := st; wpAny_pyIter_enum isE h
def iEnT (K : PySem.W.Frag) (ta : TA) : TI := fun σ H R => ta σ H fun vs H1 => ∃ a xs, vs = [.ref a] ∧ SqT K H1 a xs ∧ R (IenT K a xs) H1
theorem pi_enumT {X : Cx} {e : Expr} {ta : TA} {p pos tpos : Pos} {elts : List Expr} {kk : Nat} (hg : Gl X "enumerate") (hm : X.mg "enumerate" = none) (ha : PA X [e] ta) (hs : starEach [e] X.env = [(false, eval e X.env)] := by rfl) :
    PI X (.Tuple elts kk tpos) (.Call (.Name "enumerate" p) [e] [] pos) (iEnT X.K ta) := by
  refine ⟨fun pins s σ H R I h => Call_ (ld_blt I hg hm boot_enumerate (PyProof.Rows.callWith_type1 (thn (ha.run pos pins s σ H _ I h) fun us s1 ⟨vs, H1, I1, r1, q1⟩ => ?_) hs rfl))⟩
  obtain ⟨a, xs, ex, hq, q⟩ := q1
  subst ex
  cases r1 with
  | cons r rr =>
    cases rr
    cases r
    obtain ⟨its, rv, isT, _⟩ := I1.tuple hq
    have lta : a < s1.heap.objs.size := by obtain ⟨_, z, _⟩ := id isT; exact Heap.lt_size z
    refine call_en (begins_tuple a its.toArray) isT fun h1 isE hit kept => wpAny_pyIter_enum isE ?_
    have I2 : Inv X pins σ H1 { s1 with heap := h1 } := I1.kept (t' := s1.toks) kept
    refine ⟨s1.heap.objs.size + 1, [s1.heap.objs.size + 1, s1.heap.objs.size], _, _, H1, rfl, I2, turn_enT a xs (s1.heap.objs.size + 1) s1.heap.objs.size ⟨Nat.succ_ne_self _, Nat.ne_of_gt (Nat.lt_succ_of_lt lta)⟩ (Nat.ne_of_lt lta), ⟨⟨.none, isE⟩, ⟨_, hit, rfl, rfl⟩⟩, fun b hb => ?_, q⟩
    have le1 : s1.heap.objs.size ≤ b := by
      rcases List.mem_cons.mp hb with z | z
      · rw [z]; exact Nat.le_succ _
      · rw [List.mem_singleton.mp z]; exact Nat.le_refl _
    exact I1.fpOk le1 (I1.hok.fresh le1)

def IenS (z : Str) : It :=
  ⟨fun i H => i < z.cps.size ∧ True, fun i H v H' => ∃ T x, v = .ref T ∧ H T = none ∧ H' = upd H T (.tup [.int (i : Nat), x]) ∧ ∃ c, z.cps[i]? = some c ∧ x = .str ⟨#[c]⟩, fun i H => i = z.cps.size ∧ True⟩
theorem turn_enS {P : Program} {w : World} {K : PySem.W.Frag} {elts : List Expr} {kk : Nat} {tpos : Pos} (z : Str) (t : Tok) (e it : Addr) (apart : e ≠ it ∧ True) (apart2 : True) :
    Turn P w K (.Tuple elts kk tpos) (IenS z) [e, it] e (fun i h => (∃ old, IsEnum h e it ((i : Nat) : Int) old) ∧ h.IsStrIter it (strIterType z) z t i) where
  mem := List.mem_cons_self
  obj := fun i h st b hb => by
    obtain ⟨⟨old, isE⟩, ⟨o, ho, hc, hd⟩⟩ := st
    rcases List.mem_cons.mp hb with z | z
    · rw [z]; exact ⟨_, isE, fun v q => nomatch q⟩
    · rw [List.mem_singleton.mp z]; exact ⟨o, ho, fun v q => by rw [hd] at q; cases q⟩
  keep := fun i h h' st k => ⟨st.1.imp fun old isE => k e (by simp) _ isE, by obtain ⟨o, ho, r⟩ := st.2; exact ⟨o, k it (by simp) o ho, r⟩⟩
  item := by
    intro X hP hw hK calm i pins s σ H E I hf st hg
    subst hP hw hK
    obtain ⟨⟨old, isE⟩, hit⟩ := st
    obtain ⟨lt, ok⟩ := hg
    skip
    have lte : e < s.heap.objs.size := Heap.lt_size isE
    have lti : it < s.heap.objs.size := by obtain ⟨_, q, _⟩ := hit; exact Heap.lt_size q
    have draws := Draws.text (prog := X.prog) (w := X.w) (A := X.A.in1) (I.ok.hd calm) it z t
    refine wpAny_pyNext_enum_itemD draws isE hit lt apart.1 (by simp [apart.1]) fun u h1 tk got out st1 tup hsz kept => ?_
    obtain ⟨c, uu, hcx, rfl⟩ := got
    obtain ⟨x, isx, ru⟩ : ∃ x, (∃ c, z.cps[i]? = some c ∧ x = V.str ⟨#[c]⟩) ∧ RelV x (.str ⟨#[c]⟩ uu) := ⟨_, ⟨c, hcx, rfl⟩, ⟨uu, rfl⟩⟩
    generalize hu : Value.str ⟨#[c]⟩ uu = u at *
    refine ⟨_, rfl, wpAny_letOwnedTupleGo_enum (s := { s with heap := h1, toks := tk + 1 }) out fun h2 isE2 sb => ?_⟩
    have tup2 : h2.get? s.heap.objs.size = some { cls := .type "tuple", data := .seq #[.int i tk, u] } := (sb.2 _ (Nat.ne_of_gt lte)).trans tup
    have new : ObjOk X.prog X.w (upd H s.heap.objs.size (.tup [.int (i : Nat), x])) h2 s.heap.objs.size (.tup [.int (i : Nat), x]) :=
      ⟨by show 2 ≤ sizeLine; decide, [.int i tk, u], .cons ⟨_, rfl⟩ (.cons ru .nil), ⟨_, tup2, rfl, _, rfl⟩⟩
    have I1 : Inv X pins σ (upd H s.heap.objs.size (.tup [.int (i : Nat), x])) { s with heap := h2, toks := tk + 1 } :=
      I.turnedNew (ch := [e, it]) (fun b ob hb q => (sb.2 b (fun z => hb (by simp [z]))).trans (kept b ob (fun z => hb (by simp [z])) (fun z => hb (by simp [z])) q)) hf (Nat.le_refl _) new
    refine ⟨.ref s.heap.objs.size, _, I1, rfl, ⟨_, x, rfl, I.hok.fresh (Nat.le_refl _), rfl, isx⟩, ⟨⟨u, ?_⟩, by obtain ⟨o, ho, r⟩ := st1; exact ⟨o, (sb.2 it (Ne.symm apart.1)).trans ho, r⟩⟩, fun b hb => ?_⟩
    · rw [show ((i + 1 : Nat) : Int) = (i : Int) + 1 by omega]
      exact isE2
    · have lt2 : b < s.heap.objs.size := by
        rcases List.mem_cons.mp hb with z | z
        · rw [z]; exact lte
        · rw [List.mem_singleton.mp z]; exact lti
      rw [upd_ne (Nat.ne_of_lt lt2)]
      exact (hf b hb).1
  done := by
    intro X hP hw hK calm i pins s σ H E I hf st hg
    subst hP hw hK
    obtain ⟨⟨old, isE⟩, hit⟩ := st
    obtain ⟨lt, ok⟩ := hg
    subst lt
    skip
    obtain ⟨f0, f1, f2, f3, f4, f5⟩ := hf it (by simp)
    have draws := Draws.text (prog := X.prog) (w := X.w) (A := X.A.in1) (I.ok.hd calm) it z t
    exact wpAny_pyNext_enum_endD draws isE hit fun h' eb => ⟨rfl, I.turned (t' := s.toks) (fun b o hb q => eb b o hb q) f0 f1 f3 f4 f5⟩
  self := fun A i s Q E st h => let ⟨⟨_, isE⟩, _⟩ := st; wpAny_pyIter_enum isE h
def iEnS (ta : TA) : TI := fun σ H R => ta σ H fun vs H1 => ∃ z, vs = [.str z] ∧ R (IenS z) H1
theorem pi_enumS {X : Cx} {e : Expr} {ta : TA} {p pos tpos : Pos} {elts : List Expr} {kk : Nat} (hg : Gl X "enumerate") (hm : X.mg "enumerate" = none) (ha : PA X [e] ta) (hs : starEach [e] X.env = [(false, eval e X.env)] := by rfl) :
    PI X (.Tuple elts kk tpos) (.Call (.Name "enumerate" p) [e] [] pos) (iEnS  ta) := by
  refine ⟨fun pins s σ H R I h => Call_ (ld_blt I hg hm boot_enumerate (PyProof.Rows.callWith_type1 (thn (ha.run pos pins s σ H _ I h) fun us s1 ⟨vs, H1, I1, r1, q1⟩ => ?_) hs rfl))⟩
  obtain ⟨z, ex, q⟩ := q1
  subst ex
  cases r1 with
  | cons r rr =>
    cases rr
    obtain ⟨tk0, rfl⟩ := r
    refine call_en (begins_text z tk0) trivial fun h1 isE hit kept => wpAny_pyIter_enum isE ?_
    have I2 : Inv X pins σ H1 { s1 with heap := h1 } := I1.kept (t' := s1.toks) kept
    refine ⟨s1.heap.objs.size + 1, [s1.heap.objs.size + 1, s1.heap.objs.size], _, _, H1, rfl, I2, turn_enS z tk0 (s1.heap.objs.size + 1) s1.heap.objs.size ⟨Nat.succ_ne_self _, trivial⟩ trivial, ⟨⟨.none, isE⟩, ⟨_, hit, rfl, rfl⟩⟩, fun b hb => ?_, q⟩
    have le1 : s1.heap.objs.size ≤ b := by
      rcases List.mem_cons.mp hb with z | z
      · rw [z]; exact Nat.le_succ _
      · rw [List.mem_singleton.mp z]; exact Nat.le_refl _
    exact I1.fpOk le1 (I1.hok.fresh le1)
end KH

/-! part KV -/
set_option Elab.async false
set_option linter.all false
set_option maxRecDepth 100000
set_option maxHeartbeats 4000000
/-! loops and comprehensions that change nothing that stood -/
namespace KD
open PySem PySem.Spec PyProof.Rows L2
/-! data without lists stay where tuples stay -/
mutual
def D.fz : D → Bool
  | .tup l => fzL l
  | .kt _ => false
  | .lst _ => false
  | _ => true
def fzL : List D → Bool
  | [] => true
  | d :: l => d.fz && fzL l
end
def Fz (H H' : Hp) : Prop := ∀ a xs, H a = some (.tup xs) → H' a = some (.tup xs)
theorem Fz.refl (H : Hp) : Fz H H := fun _ _ h => h
theorem Fz.trans {H H' H'' : Hp} (h : Fz H H') (h' : Fz H' H'') : Fz H H'' := fun a xs e => h' a xs (h a xs e)
theorem Fz.of {H H' : Hp} (h : Same H H') : Fz H H' := fun a _ e => h a _ e
section
variable {K : PySem.W.Frag} {H H' : Hp}
mutual
theorem Dt.fzm (e : Fz H H') : ∀ (d : D) (v : V), d.fz = true → Dt K H d v → Dt K H' d v
  | .non, _, _, h => h
  | .bl _, _, _, h => h
  | .int _, _, _, h => h
  | .str _, _, _, h => h
  | .ty _, _, _, h => h
  | .adr _, _, _, h => h
  | .kt _, _, q, _ => by cases q
  | .lst _, _, q, _ => by cases q
  | .tup l, _, q, h => by
    obtain ⟨a, xs, e1, h1, h2⟩ := h
    exact ⟨a, xs, e1, e _ _ h1, DtL.fzm e l xs q h2⟩
theorem DtL.fzm (e : Fz H H') : ∀ (l : List D) (xs : List V), fzL l = true → DtL K H l xs → DtL K H' l xs
  | [], _, _, h => h
  | d :: l, _, q, h => by
    obtain ⟨v, r, e1, h1, h2⟩ := h
    have q' := Bool.and_eq_true_iff.mp q
    exact ⟨v, r, e1, Dt.fzm e d v q'.1 h1, DtL.fzm e l r q'.2 h2⟩
end
theorem fzL_app : ∀ {l m : List D}, fzL (l ++ m) = (fzL l && fzL m)
  | [], m => rfl
  | d :: l, m => by
    show (d.fz && fzL (l ++ m)) = (d.fz && fzL l && fzL m)
    rw [fzL_app, Bool.and_assoc]
theorem fz_upd {H : Hp} {p : Addr} {o : HO} (h : ∀ xs, H p ≠ some (.tup xs)) : Fz H (upd H p o) := fun a xs e => by
  have ne : a ≠ p := fun z => h xs (by rw [← z]; exact e)
  rw [upd_ne ne]
  exact e
end
/-! slots forgotten -/
def leG : Ga → Ga → Prop
  | [], [] => True
  | x :: xs, y :: ys => (y = none ∨ y = x) ∧ leG xs ys
  | _, _ => False
theorem leG_len : ∀ {a b : Ga}, leG a b → b.length = a.length
  | [], [], _ => rfl
  | _ :: _, _ :: _, h => by rw [List.length_cons, List.length_cons, leG_len h.2]
  | [], _ :: _, h => h.elim
  | _ :: _, [], h => h.elim
theorem leG_at : ∀ {a b : Ga}, leG a b → ∀ (i : Nat) (d : D), b[i]? = some (some d) → a[i]? = some (some d)
  | [], [], _, _, _, q => q
  | x :: a, y :: b, h, 0, d, q => by
    have q' : y = some d := Option.some.inj q
    rcases h.1 with e | e
    · rw [e] at q'; cases q'
    · show some x = _
      rw [← e, q']
  | _ :: _, _ :: _, h, i + 1, d, q => leG_at h.2 i d q
  | [], _ :: _, h, _, _, _ => h.elim
  | _ :: _, [], h, _, _, _ => h.elim
theorem leG_refl : ∀ a : Ga, leG a a
  | [] => trivial
  | _ :: a => ⟨.inr rfl, leG_refl a⟩
theorem leG_trans : ∀ {a b c : Ga}, leG a b → leG b c → leG a c
  | [], [], [], _, _ => trivial
  | _ :: _, _ :: _, _ :: _, h, h' => ⟨by
    rcases h'.1 with e | e
    · exact .inl e
    · rw [e]; exact h.1, leG_trans h.2 h'.2⟩
  | [], [], _ :: _, _, h' => h'.elim
  | [], _ :: _, _, h, _ => h.elim
  | _ :: _, [], _, h, _ => h.elim
  | _ :: _, _ :: _, [], _, h' => h'.elim
theorem leG_set : ∀ {a b : Ga} (i : Nat) (x : Option D), leG a b → leG (a.set i x) (b.set i none)
  | [], [], _, _, _ => trivial
  | _ :: _, _ :: _, 0, x, h => ⟨.inl rfl, h.2⟩
  | _ :: _, _ :: _, i + 1, x, h => ⟨h.1, leG_set i x h.2⟩
  | [], _ :: _, _, _, h => h.elim
  | _ :: _, [], _, _, h => h.elim
def wipeG : Ga → List Nat → Ga
  | Γ, [] => Γ
  | Γ, i :: is => (wipeG Γ is).set i none
section
variable {K : PySem.W.Frag} {H H' : Hp} {σ τ : L2.St} {Γ Γ' : Ga}
theorem Slots.le (h : Slots K H σ Γ) (l : leG Γ Γ') : Slots K H σ Γ' := h.less (leG_len l) (leG_at l)
theorem Slots.wipe (h : Slots K H σ Γ) : ∀ vs, Slots K H (L2.wipe σ vs) (wipeG Γ vs)
  | [] => h
  | v :: vs => by
    have ih := Slots.wipe h vs
    refine ⟨?_, fun i d q => ?_⟩
    · show ((L2.wipe σ vs).set v none).length = ((wipeG Γ vs).set v none).length
      rw [List.length_set, List.length_set, ih.len]
    · show ∃ x, ((L2.wipe σ vs).set v none)[i]? = some (some x) ∧ _
      have q' : ((wipeG Γ vs).set v none)[i]? = some (some d) := q
      rw [List.getElem?_set] at q' ⊢
      by_cases e : v = i
      · rw [if_pos e] at q'
        split at q' <;> cases q'
      · rw [if_neg e] at q' ⊢
        exact ih.at_ i d q'
theorem wipe_get (σ : L2.St) : ∀ (vs : List Nat) (i : Nat), (L2.wipe σ vs)[i]? = if i ∈ vs then σ[i]?.map (fun _ => (none : Option V)) else σ[i]?
  | [], i => by simp [L2.wipe]
  | v :: vs, i => by
    show ((L2.wipe σ vs).set v none)[i]? = _
    rw [List.getElem?_set]
    by_cases e : v = i
    · subst e
      rw [if_pos rfl, if_pos (List.mem_cons_self), L2.wipe_length]
      by_cases hl : v < σ.length
      · rw [if_pos hl, List.getElem?_eq_getElem hl]; rfl
      · rw [if_neg hl, List.getElem?_eq_none (by omega)]; rfl
    · rw [if_neg e, wipe_get σ vs i]
      have : i ∈ v :: vs ↔ i ∈ vs := by
        rw [List.mem_cons]
        exact ⟨fun h => h.resolve_left (fun z => e z.symm), .inr⟩
      simp only [this]
theorem wipe_congr {vs : List Nat} (hl : σ.length = τ.length) (h : ∀ i, i ∉ vs → σ[i]? = τ[i]?) : L2.wipe σ vs = L2.wipe τ vs := by
  apply List.ext_getElem?
  intro i
  rw [wipe_get, wipe_get]
  by_cases e : i ∈ vs
  · rw [if_pos e, if_pos e]
    by_cases hi : i < σ.length
    · rw [List.getElem?_eq_getElem hi, List.getElem?_eq_getElem (by omega)]; rfl
    · rw [List.getElem?_eq_none (by omega), List.getElem?_eq_none (by omega)]
  · rw [if_neg e, if_neg e]
    exact h i e
theorem wipe_twice (σ : L2.St) (vs : List Nat) : L2.wipe (L2.wipe σ vs) vs = L2.wipe σ vs :=
  wipe_congr (L2.wipe_length σ vs) fun i h => by rw [wipe_get, if_neg h]
/-! targets -/
def TgOk (K : PySem.W.Frag) (g : TG) (js : List Nat) (out : D → List D) (okd : D → Prop) : Prop := ∀ (d : D) (v : V) (σ : L2.St) (H : Hp) (Γ : Ga) (Q : L2.St → Hp → Prop), okd d → Dt K H d v → Slots K H σ Γ →
  (∀ σ', Slots K H σ' (setAll Γ js (out d)) → σ'.length = σ.length → (∀ i, i ∉ js → σ'[i]? = σ[i]?) → Q σ' H) → g v σ H Q
theorem tg_name (j : Nat) : TgOk K (gName j) [j] (fun d => [d]) (fun _ => True) := fun d v σ H Γ Q _ hd e q =>
  q _ (e.set hd) (List.length_set ..) fun i hi => by rw [List.getElem?_set_ne (fun z => hi (by rw [z]; exact List.mem_cons_self))]
theorem gNs_keep {Q : L2.St → Hp → Prop} : ∀ (is : List Nat) {ds : List D} {xs : List V} {σ : L2.St} {Γ : Ga}, is.length = ds.length → DtL K H ds xs → Slots K H σ Γ →
    (∀ σ', Slots K H σ' (setAll Γ is ds) → σ'.length = σ.length → (∀ i, i ∉ is → σ'[i]? = σ[i]?) → Q σ' H) → gNs is xs σ H Q
  | [], [], _, _, _, _, h, e, q => ⟨h, q _ e rfl fun _ _ => rfl⟩
  | [], _ :: _, _, _, _, hl, _, _, _ => by cases hl
  | _ :: _, [], _, _, _, hl, _, _, _ => by cases hl
  | i :: is, d :: ds, xs, σ, Γ, hl, h, e, q => by
    obtain ⟨v, r, e1, h1, h2⟩ := h
    refine ⟨v, r, e1, gNs_keep is (Nat.succ.inj hl) h2 (e.set h1) fun σ' e2 l2 k2 => q σ' e2 (l2.trans (List.length_set ..)) fun j hj => ?_⟩
    rw [k2 j (fun z => hj (List.mem_cons_of_mem _ z)), List.getElem?_set_ne (fun z => hj (by rw [z]; exact List.mem_cons_self))]
theorem tg_tup (n : Nat) (js : List Nat) : TgOk K (gTup K n (gNs js)) js D.items (fun d => d.isT = true ∧ js.length = d.items.length ∧ d.items.length = n) := fun d v σ H Γ Q ok hd e q => by
  obtain ⟨b, xs, e1, h2, h3⟩ := hd.seq ok.1
  exact ⟨b, xs, e1, h2, h3.length.trans ok.2.2, gNs_keep js ok.2.1 h3 e q⟩
end
/-! what is walked -/
section
variable {K : PySem.W.Frag} {A : Hy} {Γ : Ga} {ta te : TE} {tr : TA} {d x y : D} {n : Nat}
/-- the relation of heaps in whose keeping the walk goes on -/
def WiR (K : PySem.W.Frag) (A : Hy) (Rr : Hp → Hp → Prop) (wi : TI) (Γ : Ga) (n : Nat) (Y : Nat → D → Prop) : Prop := ∀ σ H, A.p H → Slots K H σ Γ → ∀ R : It → Hp → Prop,
  (∀ J H', Same H H' → (∃ (G : Hp → Prop) (Z : Nat → Hp → V → Hp → Prop), Walk J n G Z ∧ (∀ H2, Rr H' H2 → G H2) ∧
    (∀ i H2 v H3, i < n → Rr H' H2 → Z i H2 v H3 → Same H2 H3 ∧ ∃ d, Y i d ∧ Dt K H3 d v)) → R J H') → wi σ H R
theorem wi_str {Rr : Hp → Hp → Prop} {l : List Nat} (h : Ev K A te Γ (.str (S l))) : WiR K A Rr (iStr te) Γ l.length (fun i d => ∃ c, l[i]? = some c ∧ d = .str (S [c])) := fun σ H a e R q =>
  h σ H a e _ fun v H1 s1 h1 => ⟨S l, h1, q _ H1 s1 ⟨_, _, by simpa using (walk_str (z := S l)), fun _ _ => trivial, fun i H2 v H3 hi r z => by
    obtain ⟨e1, c, h2, h3⟩ := z
    rw [e1]
    exact ⟨Same.refl _, _, ⟨c, by simpa using h2, rfl⟩, h3⟩⟩⟩
theorem wi_tup {e0 : D} (h : Ev K A te Γ e0) (ht : e0.isT = true := by rfl) : WiR K A Same (iTup K te) Γ e0.items.length (fun i d => e0.items[i]? = some d) := fun σ H a e R q =>
  h σ H a e _ fun v H1 s1 h1 => by
    obtain ⟨p, xs, e1, h2, h3⟩ := h1.seq ht
    refine ⟨p, e1, ⟨xs, h2⟩, q _ H1 s1 ⟨_, _, by rw [← h3.length]; exact walk_tup (K := K) (a := p) (xs := xs), fun H2 s2 => seqT s2 h2, fun i H2 v H3 hi s2 z => ?_⟩⟩
    obtain ⟨e2, h4⟩ := z
    obtain ⟨d, h5, h6⟩ := h3.back h4
    rw [e2]
    exact ⟨Same.refl _, d, h5, h6.mono s2⟩
theorem wi_tupF {l : List D} (h : Ev K A te Γ (.tup l)) (hf : fzL l = true) : WiR K A Fz (iTup K te) Γ l.length (fun i d => l[i]? = some d) := fun σ H a e R q =>
  h σ H a e _ fun v H1 s1 h1 => by
    obtain ⟨p, xs, e1, h2, h3⟩ := h1
    refine ⟨p, e1, ⟨xs, SqT.of h2⟩, q _ H1 s1 ⟨_, _, by rw [← h3.length]; exact walk_tup (K := K) (a := p) (xs := xs), fun H2 s2 => SqT.of (s2 _ _ h2), fun i H2 v H3 hi s2 z => ?_⟩⟩
    obtain ⟨e2, h4⟩ := z
    obtain ⟨d, h5, h6⟩ := (h3.fzm s2 _ _ hf).back h4
    rw [e2]
    exact ⟨Same.refl _, d, h5, h6⟩
theorem wi_lst {l : List D} (h : Ev K A te Γ (.lst l)) : WiR K A Same (iList K te) Γ l.length (fun i d => l[i]? = some d) := fun σ H a e R q =>
  h σ H a e _ fun v H1 s1 h1 => by
    obtain ⟨p, xs, e1, h2, h3⟩ := h1
    refine ⟨p, e1, ⟨xs, SqL.of h2⟩, q _ H1 s1 ⟨_, _, by rw [← h3.length]; exact walk_list (K := K) (a := p) (xs := xs), fun H2 s2 => SqL.of (s2 _ _ h2), fun i H2 v H3 hi s2 z => ?_⟩⟩
    obtain ⟨e2, h4⟩ := z
    obtain ⟨d, h5, h6⟩ := h3.back h4
    rw [e2]
    exact ⟨Same.refl _, d, h5, h6.mono s2⟩
theorem wi_rng1 {Rr : Hp → Hp → Prop} {j : Int} (h : Ea K A tr Γ [.int j]) (hj : -(2 ^ 62) ≤ j ∧ j < 2 ^ 62) : WiR K A Rr (iRng1 tr) Γ j.toNat (fun i d => d = .int i) := fun σ H a e R q =>
  h σ H a e _ fun vs H1 s1 h1 => by
    obtain ⟨v, e1, h2⟩ := dtl1 h1
    have h3 : v = .int j := h2
    subst h3
    refine ⟨j, e1, hj.1, hj.2, q _ H1 s1 ⟨_, _, walk_range, fun _ _ => trivial, fun i H2 v H3 hi s2 z => ?_⟩⟩
    obtain ⟨e2, h4⟩ := z
    rw [e2]
    exact ⟨Same.refl _, _, rfl, by rw [h4]; show V.int _ = V.int _; simp⟩
theorem wi_rng2 {Rr : Hp → Hp → Prop} {i0 j : Int} (h : Ea K A tr Γ [.int i0, .int j]) (hj : -(2 ^ 62) ≤ i0 ∧ i0 < 2 ^ 62 ∧ -(2 ^ 62) ≤ j ∧ j < 2 ^ 62) : WiR K A Rr (iRng2 tr) Γ (j - i0).toNat (fun i d => d = .int (i0 + i)) := fun σ H a e R q =>
  h σ H a e _ fun vs H1 s1 h1 => by
    obtain ⟨v, w, e1, h2, h2'⟩ := dtl2 h1
    have h3 : v = .int i0 := h2
    have h3' : w = .int j := h2'
    subst h3 h3'
    refine ⟨i0, j, e1, hj, q _ H1 s1 ⟨_, _, walk_range, fun _ _ => trivial, fun i H2 v H3 hi s2 z => ?_⟩⟩
    obtain ⟨e2, h4⟩ := z
    rw [e2]
    exact ⟨Same.refl _, _, rfl, h4⟩
/-- a new pair of data -/
theorem pair_new {H2 : Hp} {T : Addr} {v w : V} {c c' : D} (hT : H2 T = none) (hv : Dt K H2 c v) (hw : Dt K H2 c' w) : Same H2 (upd H2 T (.tup [v, w])) ∧ Dt K (upd H2 T (.tup [v, w])) (.tup [c, c']) (.ref T) :=
  ⟨Same.new hT, T, _, rfl, upd_same, v, [w], rfl, hv.mono (Same.new hT), w, [], rfl, hw.mono (Same.new hT), rfl⟩
theorem wi_enS {Rr : Hp → Hp → Prop} {l : List Nat} (h : Ea K A tr Γ [.str (S l)]) : WiR K A Rr (KH.iEnS tr) Γ l.length (fun i d => ∃ c, l[i]? = some c ∧ d = .tup [.int i, .str (S [c])]) := fun σ H a e R q =>
  h σ H a e _ fun vs H1 s1 h1 => by
    obtain ⟨v, e1, h2⟩ := dtl1 h1
    have h3 : v = .str (S l) := h2
    subst h3
    refine ⟨S l, e1, q _ H1 s1 ⟨fun _ => True, fun i H2 v H3 => ∃ T x, v = .ref T ∧ H2 T = none ∧ H3 = upd H2 T (.tup [.int (i : Nat), x]) ∧ ∃ c, l[i]? = some c ∧ x = .str ⟨#[c]⟩,
      ⟨fun i H2 hi _ => ⟨by simpa using hi, trivial⟩, fun H2 _ => ⟨by simp, trivial⟩, fun i H2 v H3 hi _ z => ?_⟩, fun _ _ => trivial, fun i H2 v H3 hi s2 z => ?_⟩⟩
    · obtain ⟨T, x, z1, z2, z3, c, z4, z5⟩ := z
      exact ⟨T, x, z1, z2, z3, c, by simpa using z4, z5⟩
    · obtain ⟨T, x, z1, z2, z3, c, z4, z5⟩ := z
      subst z1 z3 z5
      obtain ⟨s3, h4⟩ := pair_new (K := K) (c := .int (i : Nat)) (c' := .str (S [c])) z2 rfl rfl
      exact ⟨s3, _, ⟨c, z4, rfl⟩, h4⟩
theorem wi_enT {l : List D} (h : Ea K A tr Γ [.tup l]) : WiR K A Same (KH.iEnT K tr) Γ l.length (fun i d => ∃ c, l[i]? = some c ∧ d = .tup [.int i, c]) := fun σ H a e R q =>
  h σ H a e _ fun vs H1 s1 h1 => by
    obtain ⟨v, e1, p, xs, e2, h2, h3⟩ := dtl1 h1
    subst e2
    refine ⟨p, xs, e1, SqT.of h2, q _ H1 s1 ⟨fun H2 => SqT K H2 p xs, fun i H2 v H3 => ∃ T x, v = .ref T ∧ H2 T = none ∧ H3 = upd H2 T (.tup [.int (i : Nat), x]) ∧ xs[i]? = some x,
      ⟨fun i H2 hi g => ⟨by rw [h3.length]; exact hi, g⟩, fun H2 g => ⟨h3.length.symm, g⟩, fun i H2 v H3 hi _ z => z⟩, fun H2 s2 => seqT s2 (SqT.of h2), fun i H2 v H3 hi s2 z => ?_⟩⟩
    obtain ⟨T, x, z1, z2, z3, z4⟩ := z
    subst z1 z3
    obtain ⟨d, h5, h6⟩ := h3.back z4
    obtain ⟨s3, h4⟩ := pair_new (K := K) (c := .int (i : Nat)) (c' := d) z2 rfl (h6.mono s2)
    exact ⟨s3, _, ⟨d, h5, rfl⟩, h4⟩
theorem wi_enL {l : List D} (h : Ea K A tr Γ [.lst l]) : WiR K A Same (iEnum K tr) Γ l.length (fun i d => ∃ c, l[i]? = some c ∧ d = .tup [.int i, c]) := fun σ H a e R q =>
  h σ H a e _ fun vs H1 s1 h1 => by
    obtain ⟨v, e1, p, xs, e2, h2, h3⟩ := dtl1 h1
    subst e2
    refine ⟨p, xs, e1, SqL.of h2, q _ H1 s1 ⟨_, _, by rw [← h3.length]; exact walk_enum (K := K) (a := p) (xs := xs), fun H2 s2 => SqL.of (s2 _ _ h2), fun i H2 v H3 hi s2 z => ?_⟩⟩
    obtain ⟨T, w1, w2, z1, z2, z3, z4, z5⟩ := z
    have z4' : V.int (i : Nat) = w1 := Option.some.inj z4
    subst z1 z3 z4'
    obtain ⟨d, h5, h6⟩ := h3.back z5
    obtain ⟨s3, h4⟩ := pair_new (K := K) (c := .int (i : Nat)) (c' := d) z2 rfl (h6.mono s2)
    exact ⟨s3, _, ⟨d, h5, rfl⟩, h4⟩
/-! for -/
theorem rn_forS {wi : TI} {g : TG} {t : TS} {js : List Nat} {out : D → List D} {okd : D → Prop} {Y : Nat → D → Prop} (Γf : Nat → Ga) (hw : WiR K A Same wi Γ n Y) (hg : TgOk K g js out okd) (h0 : leG Γ (Γf 0))
    (hs : ∀ i d, i < n → Y i d → okd d ∧ ∃ Γ', Rn K A t (setAll (Γf i) js (out d)) (.nx Γ') ∧ leG Γ' (Γf (i + 1))) : Rn K A (tFor wi g t) Γ (.nx (Γf n)) := by
  intro σ H E a e k
  refine hw σ H a e _ fun J H1 s1 w => ?_
  obtain ⟨G, Z, W, hG, hZ⟩ := w
  refine for_it W (fun i σ' H' => Same H1 H' ∧ Slots K H' σ' (Γf i)) ⟨Same.refl H1, (e.mono s1).le h0⟩ (fun i σ' H' _ q => hG H' q.1) (fun i x σ' H' H2 hi q y => ?_) (fun σ' H' q => k σ' H' (s1.trans q.1) q.2)
  obtain ⟨s2, d, yd, hd⟩ := hZ i H' x H2 hi q.1 y
  obtain ⟨ok, Γ', h1, h2⟩ := hs i d hi yd
  refine hg d x σ' H2 (Γf i) _ ok hd (q.2.mono s2) fun σ2 e2 _ _ => ?_
  exact h1 σ2 H2 _ (A.st _ _ ((s1.trans q.1).trans s2) a) e2 fun σ3 H3 s3 e3 => ⟨(q.1.trans s2).trans s3, e3.le h2⟩
/-! comprehensions -/
/-- a new list comes -/
def Ef (K : PySem.W.Frag) (A : Hy) (te : TE) (Γ : Ga) (l : List D) : Prop := ∀ σ H, A.p H → Slots K H σ Γ → ∀ Q : VK, (∀ b ys H', Same H H' → H b = none → H' b = some (.lst ys) → DtL K H' l ys → Q (.ref b) H') → te σ H Q
theorem Ef.ev {l : List D} (h : Ef K A te Γ l) : Ev K A te Γ (.lst l) := fun σ H a e Q q => h σ H a e Q fun b ys H' s _ h1 h2 => q _ H' s ⟨b, ys, rfl, h1, h2⟩
theorem none_back {H H' : Hp} {b : Addr} (s : Same H H') (h : H' b = none) : H b = none := by
  cases z : H b with
  | none => rfl
  | some o => rw [s _ _ z] at h; cases h
theorem ef_lst {ds : List D} (h : Ea K A tr Γ ds) (hl : ds.length ≤ sizeLine := by (simp only [List.length_cons, List.length_nil]; decide)) : Ef K A (tLst tr) Γ ds := fun σ H a e Q q =>
  h σ H a e _ fun vs H1 s1 h1 => ⟨by rw [h1.length]; exact hl, fun p hp => q p vs _ (s1.trans (Same.new hp)) (none_back s1 hp) upd_same (h1.mono (Same.new hp))⟩
theorem ef_lc {wi : TI} {g : TG} {tt : TT} {vs js : List Nat} {out : D → List D} {okd : D → Prop} {Y : Nat → D → Prop} (acc : Nat → List D) (hw : WiR K A Same wi Γ n Y) (hg : TgOk K g js out okd) (hj : ∀ j ∈ js, j ∈ vs)
    (h0 : acc 0 = []) (hl : ∀ i, i ≤ n → (acc i).length ≤ i) (hn : n ≤ 100000) (hf : ∀ i, i ≤ n → fzL (acc i) = true)
    (hs : ∀ i d, i < n → Y i d → okd d ∧ ∃ b, Et K A tt (setAll (wipeG Γ vs) js (out d)) b ∧ (b = false → acc (i + 1) = acc i) ∧ (b = true → ∃ y, Ev K A te (setAll (wipeG Γ vs) js (out d)) y ∧ acc (i + 1) = acc i ++ [y])) :
    Ef K A (tLc wi g tt te vs) Γ (acc n) := by
  intro σ H a e Q q
  refine hw σ H a e _ fun J H1 s1 w => ?_
  obtain ⟨G, Z, W, hG, hZ⟩ := w
  intro D0 hD
  have hne : ∀ {H' : Hp} {ys : List V}, H' D0 = some (.lst ys) → ∀ xs, H' D0 ≠ some (.tup xs) := fun e1 xs e2 => by rw [e1] at e2; cases e2
  have keep : ∀ {H' : Hp} {o : HO}, Same H1 H' → Same H1 (upd H' D0 o) := fun s b u e1 => by
    rw [upd_ne (ne_of_none e1 hD)]
    exact s b u e1
  refine lc_it W (fun i H' => Same H1 H' ∧ ∃ ys, H' D0 = some (.lst ys) ∧ DtL K H' (acc i) ys) ⟨keep (Same.refl H1), [], upd_same, by rw [h0]; exact rfl⟩ (fun i H' _ q => hG H' q.1) (fun i x H' H2 hi p y => ?_) (fun H' p => ?_)
  · obtain ⟨p1, ys, p2, p3⟩ := p
    obtain ⟨s2, d, yd, hd⟩ := hZ i H' x H2 hi p1 y
    obtain ⟨ok, b, ht, hb0, hb1⟩ := hs i d hi yd
    have e2 : Slots K H2 (L2.wipe σ vs) (wipeG Γ vs) := (e.mono (s1.trans (p1.trans s2))).wipe vs
    refine hg d x _ H2 (wipeG Γ vs) _ ok hd e2 fun σ2 e3 l3 k3 => ⟨?_, ?_⟩
    · rw [← wipe_twice σ vs]
      exact wipe_congr l3 fun i hi => k3 i fun z => hi (hj i z)
    · refine ht σ2 H2 (A.st _ _ (s1.trans (p1.trans s2)) a) e3 _ fun H3 s3 => ?_
      have sy : Same H1 H3 := (p1.trans s2).trans s3
      cases b with
      | false =>
        rw [if_neg (by decide), hb0 rfl]
        exact ⟨sy, ys, s3 _ _ (s2 _ _ p2), p3.mono (s2.trans s3)⟩
      | true =>
        rw [if_pos rfl]
        obtain ⟨yd, hy, ea⟩ := hb1 rfl
        refine hy σ2 H3 (A.st _ _ (s1.trans sy) a) (e3.mono s3) _ fun u H4 s4 h4 => ?_
        have g1 : H4 D0 = some (.lst ys) := s4 _ _ (s3 _ _ (s2 _ _ p2))
        have f1 := hf (i + 1) hi
        rw [ea, fzL_app] at f1
        have f2 := Bool.and_eq_true_iff.mp f1
        have f3 : yd.fz = true := (Bool.and_eq_true_iff.mp f2.2).1
        refine ⟨ys, g1, ?_, keep (sy.trans s4), ys ++ [u], upd_same, ?_⟩
        · rw [p3.length]
          exact Nat.lt_of_le_of_lt (hl i (Nat.le_of_lt hi)) (Nat.lt_of_lt_of_le hi (small hn))
        · rw [ea]
          have z := fz_upd (o := .lst (ys ++ [u])) (hne g1)
          exact ((p3.mono ((s2.trans s3).trans s4)).fzm z _ _ f2.1).app ⟨u, [], rfl, h4.fzm z _ _ f3, rfl⟩
  · obtain ⟨p1, ys, p2, p3⟩ := p
    exact q D0 ys H' (s1.trans p1) (none_back s1 hD) p2 p3
/-- all of a list of truths -/
theorem DtL.bls : ∀ {l : List Bool} {H : Hp} {xs : List V}, DtL K H (l.map D.bl) xs → xs = l.map V.bl
  | [], _, _, h => h
  | b :: l, _, _, h => by
    obtain ⟨v, r, e1, h1, h2⟩ := h
    rw [e1, show v = .bl b from h1, DtL.bls h2]
    rfl
theorem ev_all {l : List Bool} (h : Ea K A tr Γ [.lst (l.map .bl)]) : Ev K A (tCB (rAll K) tr) Γ (.bl (l.all id)) :=
  ev_cb h fun H vs _ e Q q => by
    obtain ⟨v, e1, p, xs, e2, h2, h3⟩ := dtl1 e
    subst e2
    have e3 := h3.bls
    subst e3
    exact ⟨p, l, e1, SqL.of h2, q _ H (Same.refl H) rfl⟩
/-- tuple(list), tuple(tuple) -/
theorem ev_tupL {l : List D} (h : Ea K A tr Γ [.lst l]) : Ev K A (tCB (fun xs H Q => ∃ p ys, xs = [.ref p] ∧ ((SqL K H p ys ∧ ∀ l, H l = none → Q (.ref l) (upd H l (.tup ys))) ∨ (SqT K H p ys ∧ Q (.ref p) H))) tr) Γ (.tup l) :=
  ev_cb h fun H vs _ e Q q => by
    obtain ⟨v, e1, p, xs, e2, h2, h3⟩ := dtl1 e
    subst e2
    exact ⟨p, xs, e1, .inl ⟨SqL.of h2, fun b hb => q _ _ (Same.new hb) ⟨b, xs, rfl, upd_same, h3.mono (Same.new hb)⟩⟩⟩
/-- list[::-1] -/
theorem DtL.rev : ∀ {l : List D} {H : Hp} {xs : List V}, DtL K H l xs → DtL K H l.reverse xs.reverse
  | [], _, _, h => by rw [show _ = [] from h]; exact rfl
  | d :: l, _, _, h => by
    obtain ⟨v, r, e1, h1, h2⟩ := h
    rw [e1, List.reverse_cons, List.reverse_cons]
    exact (DtL.rev h2).app ⟨v, [], rfl, h1, rfl⟩
theorem ev_revL {l : List D} (h : Ev K A te Γ (.lst l)) : Ev K A (tRevL K te) Γ (.lst l.reverse) := fun σ H a e Q q =>
  h σ H a e _ fun v H1 s1 h1 => by
    obtain ⟨p, xs, e2, h2, h3⟩ := h1
    exact ⟨p, xs, e2, SqL.of h2, fun b hb => q _ _ (s1.trans (Same.new hb)) ⟨b, _, rfl, upd_same, (h3.mono (Same.new hb)).rev⟩⟩
/-- text.join(list of texts) -/
theorem ev_join {a : Str} {l : List Str} {tr : TE} (ha : Ev K A ta Γ (.str a)) (hb : Ev K A tr Γ (.lst (l.map .str))) (hl : (l.map (·.length)).sum + l.length * a.length ≤ 16777216) :
    Ev K A (tM1 (fun x xs H Q => ∃ a p, ∃ ys : List Str, x = .str a ∧ xs = [.ref p] ∧ (SqL K H p (ys.map V.str) ∨ SqT K H p (ys.map V.str)) ∧
      (ys.map (·.length)).sum + ys.length * a.length ≤ 16777216 ∧ Q (.str (Txt.join a ys)) H) ta tr) Γ (.str (Txt.join a l)) := fun σ H p e Q q =>
  ha σ H p e _ fun v H1 s1 h1 => ⟨⟨a, h1⟩, hb σ H1 (A.st _ _ s1 p) (e.mono s1) _ fun u H2 s2 h2 => by
    obtain ⟨b, xs, e2, h3, h4⟩ := h2
    have e3 := h4.strs_eq
    subst e3
    have e4 : v = .str a := h1
    rw [e2, e4]
    exact ⟨a, b, l, rfl, rfl, .inl (SqL.of h3), hl, q _ H2 (s1.trans s2) rfl⟩⟩
theorem et_yes : Et K A tYes Γ true := fun σ H _ _ Q q => q H (Same.refl H)
theorem leG_wipe (Γ : Ga) : ∀ js, leG Γ (wipeG Γ js)
  | [] => leG_refl Γ
  | j :: js => by
    have h : ∀ {a b : Ga} (i : Nat), leG a b → leG a (b.set i none) := fun {a b} => by
      induction a generalizing b with
      | nil => intro i h; cases b with
        | nil => exact trivial
        | cons y b => exact h.elim
      | cons x a ih => intro i h; cases b with
        | nil => exact h.elim
        | cons y b => cases i with
          | zero => exact ⟨.inl rfl, h.2⟩
          | succ i => exact ⟨h.1, ih i h.2⟩
    exact h j (leG_wipe Γ js)
/-- a loop that leaves nothing -/
theorem rn_forW {wi : TI} {g : TG} {t : TS} {js : List Nat} {out : D → List D} {okd : D → Prop} {Y : Nat → D → Prop} (hw : WiR K A Same wi Γ n Y) (hg : TgOk K g js out okd)
    (hs : ∀ i d, i < n → Y i d → okd d ∧ ∃ Γ', Rn K A t (setAll (wipeG Γ js) js (out d)) (.nx Γ') ∧ leG Γ' (wipeG Γ js)) : Rn K A (tFor wi g t) Γ (.nx (wipeG Γ js)) :=
  rn_forS (fun _ => wipeG Γ js) hw hg (leG_wipe Γ js) hs
/-- a comprehension without tests -/
theorem ef_lcM {α : Type} {wi : TI} {g : TG} {vs js : List Nat} {out : D → List D} {okd : D → Prop} {Y : Nat → D → Prop} (src : List α) (f : α → D) (hw : WiR K A Same wi Γ n Y) (hg : TgOk K g js out okd) (hj : ∀ j ∈ js, j ∈ vs)
    (hn : src.length = n) (hm : n ≤ 100000) (hf : ∀ c, c ∈ src → (f c).fz = true) (hs : ∀ i d, i < n → Y i d → okd d ∧ ∃ c, src[i]? = some c ∧ Ev K A te (setAll (wipeG Γ vs) js (out d)) (f c)) :
    Ef K A (tLc wi g tYes te vs) Γ (src.map f) := by
  have fz : ∀ l : List α, (∀ c, c ∈ l → (f c).fz = true) → fzL (l.map f) = true := fun l => by
    induction l with
    | nil => exact fun _ => rfl
    | cons c l ih => exact fun h => Bool.and_eq_true_iff.mpr ⟨h c List.mem_cons_self, ih fun b hb => h b (List.mem_cons_of_mem _ hb)⟩
  have h := ef_lc (te := te) (tt := tYes) (fun i => (src.take i).map f) hw hg hj rfl (fun i _ => by rw [List.length_map]; exact List.length_take_le ..) hm (fun i _ => fz _ fun c hc => hf c (List.mem_of_mem_take hc)) fun i d hi y => by
    obtain ⟨ok, c, h1, h2⟩ := hs i d hi y
    refine ⟨ok, true, et_yes, (fun z => nomatch z), fun _ => ⟨f c, h2, ?_⟩⟩
    rw [List.take_add_one, h1]
    simp
  rw [← hn, List.take_length] at h
  exact h
theorem ev_lcM {α : Type} {wi : TI} {g : TG} {vs js : List Nat} {out : D → List D} {okd : D → Prop} {Y : Nat → D → Prop} (src : List α) (f : α → D) (hw : WiR K A Same wi Γ n Y) (hg : TgOk K g js out okd) (hj : ∀ j ∈ js, j ∈ vs)
    (hn : src.length = n) (hm : n ≤ 100000) (hf : ∀ c, c ∈ src → (f c).fz = true) (hs : ∀ i d, i < n → Y i d → okd d ∧ ∃ c, src[i]? = some c ∧ Ev K A te (setAll (wipeG Γ vs) js (out d)) (f c)) :
    Ev K A (tLc wi g tYes te vs) Γ (.lst (src.map f)) := (ef_lcM src f hw hg hj hn hm hf hs).ev
theorem ev_lcB {α : Type} {wi : TI} {g : TG} {vs js : List Nat} {out : D → List D} {okd : D → Prop} {Y : Nat → D → Prop} (src : List α) (f : α → Bool) (hw : WiR K A Same wi Γ n Y) (hg : TgOk K g js out okd) (hj : ∀ j ∈ js, j ∈ vs)
    (hn : src.length = n) (hm : n ≤ 100000) (hs : ∀ i d, i < n → Y i d → okd d ∧ ∃ c, src[i]? = some c ∧ Ev K A te (setAll (wipeG Γ vs) js (out d)) (.bl (f c))) :
    Ev K A (tLc wi g tYes te vs) Γ (.lst ((src.map f).map D.bl)) := by
  rw [List.map_map]
  exact ev_lcM src (D.bl ∘ f) hw hg hj hn hm (fun _ _ => rfl) hs
theorem ef_lcN {α : Type} {tl : TE} {g : TG} {vs js : List Nat} {out : D → List D} {okd : D → Prop} (src : List α) (f0 f : α → D) (hw : Ev K A tl Γ (.lst (src.map f0))) (hg : TgOk K g js out okd) (hj : ∀ j ∈ js, j ∈ vs)
    (hm : src.length ≤ 100000) (hf : ∀ c, c ∈ src → (f c).fz = true) (hs : ∀ c, okd (f0 c) ∧ Ev K A te (setAll (wipeG Γ vs) js (out (f0 c))) (f c)) :
    Ef K A (tLc (iList K tl) g tYes te vs) Γ (src.map f) :=
  ef_lcM src f (wi_lst hw) hg hj (by rw [List.length_map]) (by rw [List.length_map]; exact hm) hf fun i d hi h => by
    rw [List.getElem?_map] at h
    cases hn : src[i]? with
    | none => rw [hn] at h; cases h
    | some c =>
      rw [hn] at h
      have e : f0 c = d := Option.some.inj h
      subst e
      exact ⟨(hs c).1, c, rfl, (hs c).2⟩
theorem ev_lcN {α : Type} {tl : TE} {g : TG} {vs js : List Nat} {out : D → List D} {okd : D → Prop} (src : List α) (f0 f : α → D) (hw : Ev K A tl Γ (.lst (src.map f0))) (hg : TgOk K g js out okd) (hj : ∀ j ∈ js, j ∈ vs)
    (hm : src.length ≤ 100000) (hf : ∀ c, c ∈ src → (f c).fz = true) (hs : ∀ c, okd (f0 c) ∧ Ev K A te (setAll (wipeG Γ vs) js (out (f0 c))) (f c)) :
    Ev K A (tLc (iList K tl) g tYes te vs) Γ (.lst (src.map f)) := (ef_lcN src f0 f hw hg hj hm hf hs).ev
/-- nothing to walk -/
theorem ev_lc0 {wi : TI} {g : TG} {tt : TT} {vs : List Nat} {Y : Nat → D → Prop} (hw : WiR K A Same wi Γ 0 Y) : Ev K A (tLc wi g tt te vs) Γ (.lst []) := by
  intro σ H a e Q q
  refine hw σ H a e _ fun J H1 s1 w => ?_
  obtain ⟨G, Z, W, hG, hZ⟩ := w
  intro D0 hD
  exact lc_it W (fun i H' => H' = upd H1 D0 (.lst [])) rfl (fun i H' _ q => hG H' (by rw [q]; exact Same.new hD)) (fun i x H' H2 hi _ _ => absurd hi (Nat.not_lt_zero _)) fun H' z => by
    rw [z]
    exact q _ _ (s1.trans (Same.new hD)) ⟨D0, [], rfl, upd_same, rfl⟩
theorem ev_lc0B {wi : TI} {g : TG} {tt : TT} {vs : List Nat} {Y : Nat → D → Prop} (hw : WiR K A Same wi Γ 0 Y) : Ev K A (tLc wi g tt te vs) Γ (.lst (([] : List Bool).map D.bl)) := ev_lc0 hw
theorem wi_zip0 {tr : TA} {l : List D} (h : Ea K A tr Γ [.tup [], .tup l]) : WiR K A Same (RZ.iZipA K tr) Γ 0 (fun _ _ => False) := fun σ H a e R q =>
  h σ H a e _ fun vs H1 s1 h1 => by
    obtain ⟨v, w, e1, h2, h3⟩ := dtl2 h1
    obtain ⟨p, xs, e2, h4, h5⟩ := h2
    obtain ⟨p', ys, e3, h6, h7⟩ := h3
    subst e2 e3
    have e5 : xs = [] := h5
    subst e5
    refine ⟨p, p', [], ys, e1, .inr ⟨SqT.of h4, SqT.of h6, q _ H1 s1 ⟨fun H2 => SqT K H2 p [] ∧ SqT K H2 p' ys, fun _ _ _ _ => True, ⟨fun i H2 hi _ => absurd hi (Nat.not_lt_zero _), fun H2 g => ⟨[], ys, g.1, g.2, .inl (Nat.le_refl _)⟩, fun i H2 v H3 hi => absurd hi (Nat.not_lt_zero _)⟩, fun H2 s2 => ⟨seqT s2 (SqT.of h4), seqT s2 (SqT.of h6)⟩, fun i H2 v H3 hi => absurd hi (Nat.not_lt_zero _)⟩⟩⟩
theorem rn_as {Γ1 : Ga} {t : TS} {o : Oc} (e : Γ = Γ1) (h : Rn K A t Γ1 o) : Rn K A t Γ o := by subst e; exact h
theorem rn_ifJ {i j : Nat} {b p p' : Bool} {l l' : List D} {c : TT} {t u : TS} {Γ1 Γ2 : Ga} (hc : Et K A c Γ b) (h1 : b = true → Rn K A t Γ (.nx Γ1)) (h2 : b = false → Rn K A u Γ (.nx Γ2)) (e1 : Γ1 = (Γ.set i (some (.bl p))).set j (some (.lst l)))
    (e2 : Γ2 = (Γ.set i (some (.bl p'))).set j (some (.lst l'))) : Rn K A (tIfS c t u) Γ (.nx ((Γ.set i (some (.bl (if b = true then p else p')))).set j (some (.lst (if b = true then l else l'))))) := by
  subst e1 e2
  cases b
  · exact rn_if hc (fun z => nomatch z) h2
  · exact rn_if hc h1 (fun z => nomatch z)
/-! promises told by a relation of the arguments' data and what comes -/
/-- a def that changes nothing -/
def spR (K : PySem.W.Frag) (R : List D → D → Prop) : Sp := fun vs H Q _ => ∃ ds d, R ds d ∧ DtL K H ds vs ∧ ∀ v H', Same H H' → Dt K H' d v → Q v H'
theorem spR_len {R : List D → D → Prop} {n : Nat} (h : ∀ ds d, R ds d → ds.length = n) (vs : List V) (H : Hp) (Q : VK) (E : XK) (q : spR K R vs H Q E) : vs.length = n := by
  obtain ⟨ds, d, h1, h2, _⟩ := q
  rw [h2.length, h ds d h1]
theorem ev_callR {R : List D → D → Prop} {sp : Sp} {E : XK} {tr : TA} {ds : List D} (hs : sp = spR K R) (h : Ea K A tr Γ ds) (hr : R ds d) : Ev K A (tCall sp [] E tr) Γ d := by
  subst hs
  exact fun σ H a e Q q => h σ H a e _ fun vs H1 s1 h1 => ⟨ds, d, hr, by rw [List.append_nil]; exact h1, fun v H2 s2 h2 => q v H2 (s1.trans s2) h2⟩
theorem spR_by {R : List D → D → Prop} (N : List Str) {ts : TS} {H : Hp} {E : XK} (h : ∀ ds d, R ds d → Rn K Hy.tt ts (gst N.length ds) (.rt d)) (vs : List V) (Q : VK) (q : spR K R vs H Q E) : ts { nx := fun _ H' => Q .non H', rt := Q } (L2.start N vs) H := by
  obtain ⟨ds, d, h1, h2, h3⟩ := q
  exact h ds d h1 _ H _ trivial (Slots.start h2) h3
/-- a def that hands nothing back -/
theorem spR_byN {R : List D → D → Prop} (N : List Str) {ts : TS} {H : Hp} {E : XK} (h : ∀ ds d, R ds d → d = .non ∧ ∃ Γ', Rn K Hy.tt ts (gst N.length ds) (.nx Γ')) (vs : List V) (Q : VK) (q : spR K R vs H Q E) : ts { nx := fun _ H' => Q .non H', rt := Q } (L2.start N vs) H := by
  obtain ⟨ds, d, h1, h2, h3⟩ := q
  obtain ⟨e, Γ', h4⟩ := h ds d h1
  refine h4 _ H _ trivial (Slots.start h2) fun σ' H' s _ => h3 _ H' s ?_
  rw [e]
  rfl
/-- the same, the heap being known -/
def spH (K : PySem.W.Frag) (R : Hp → List D → D → Prop) : Sp := fun vs H Q _ => ∃ ds d, R H ds d ∧ DtL K H ds vs ∧ ∀ v H', Same H H' → Dt K H' d v → Q v H'
theorem spH_len {R : Hp → List D → D → Prop} {n : Nat} (h : ∀ H ds d, R H ds d → ds.length = n) (vs : List V) (H : Hp) (Q : VK) (E : XK) (q : spH K R vs H Q E) : vs.length = n := by
  obtain ⟨ds, d, h1, h2, _⟩ := q
  rw [h2.length, h H ds d h1]
theorem ev_callH {R : Hp → List D → D → Prop} {sp : Sp} {E : XK} {tr : TA} {ds : List D} (hs : sp = spH K R) (h : Ea K A tr Γ ds) (hr : ∀ H, A.p H → R H ds d) : Ev K A (tCall sp [] E tr) Γ d := by
  subst hs
  exact fun σ H a e Q q => h σ H a e _ fun vs H1 s1 h1 => ⟨ds, d, hr H1 (A.st _ _ s1 a), by rw [List.append_nil]; exact h1, fun v H2 s2 h2 => q v H2 (s1.trans s2) h2⟩
/-- an instance at p, of C, without the attribute m -/
def Obj (p C : Addr) (m : Str) (H : Hp) : Prop := ∃ dx fs, H p = some (.ins C dx fs) ∧ fs.lookup m = none
theorem ev_methH {R : Hp → List D → D → Prop} {sp : Sp} {E : XK} {tr : TA} {ds : List D} {C p : Addr} {m : Str} (hs : sp = spH K R) (ho : Ev K A ta Γ (.adr p)) (hc : ∀ H, A.p H → Obj p C m H) (h : Ea K A tr Γ ds)
    (hr : ∀ H, A.p H → R H (.adr p :: ds) d) : Ev K A (tMeth C m sp [] E ta tr) Γ d := by
  subst hs
  exact fun σ H a e Q q => ho σ H a e _ fun v H1 s1 h1 => by
    have e1 : v = .ref p := h1
    subst e1
    obtain ⟨dx, fs, h2, h3⟩ := hc H1 (A.st _ _ s1 a)
    exact ⟨p, dx, fs, rfl, h2, h3, h σ H1 (A.st _ _ s1 a) (e.mono s1) _ fun vs H2 s2 h4 => ⟨_, d, hr H2 (A.st _ _ (s1.trans s2) a), by rw [List.append_nil]; exact ⟨_, _, rfl, rfl, h4⟩, fun v H3 s3 h5 => q v H3 ((s1.trans s2).trans s3) h5⟩⟩
theorem spH_by {R : Hp → List D → D → Prop} (N : List Str) {ts : TS} {H : Hp} {E : XK} (h : ∀ ds d, R H ds d → ∃ A : Hy, A.p H ∧ Rn K A ts (gst N.length ds) (.rt d)) (vs : List V) (Q : VK) (q : spH K R vs H Q E) : ts { nx := fun _ H' => Q .non H', rt := Q } (L2.start N vs) H := by
  obtain ⟨ds, d, h1, h2, h3⟩ := q
  obtain ⟨A, a, h4⟩ := h ds d h1
  exact h4 _ H _ a (Slots.start h2) h3
/-- a def that hands back a new list -/
def spFr (K : PySem.W.Frag) (R : List D → List D → Prop) : Sp := fun vs H Q _ => ∃ ds l, R ds l ∧ DtL K H ds vs ∧ ∀ b ys H', Same H H' → H b = none → H' b = some (.lst ys) → DtL K H' l ys → Q (.ref b) H'
theorem spFr_len {R : List D → List D → Prop} {n : Nat} (h : ∀ ds l, R ds l → ds.length = n) (vs : List V) (H : Hp) (Q : VK) (E : XK) (q : spFr K R vs H Q E) : vs.length = n := by
  obtain ⟨ds, l, h1, h2, _⟩ := q
  rw [h2.length, h ds l h1]
theorem ef_callF {R : List D → List D → Prop} {sp : Sp} {E : XK} {ds l : List D} (hs : sp = spFr K R) (h : Ea K A tr Γ ds) (hr : R ds l) : Ef K A (tCall sp [] E tr) Γ l := by
  subst hs
  exact fun σ H a e Q q => h σ H a e _ fun vs H1 s1 h1 => ⟨ds, l, hr, by rw [List.append_nil]; exact h1, fun b ys H2 s2 nb eb hy => q b ys H2 (s1.trans s2) (none_back s1 nb) eb hy⟩
theorem spFr_ret {R : List D → List D → Prop} (N : List Str) {H : Hp} {E : XK} (h : ∀ ds l, R ds l → Ef K Hy.tt te (gst N.length ds) l) (vs : List V) (Q : VK) (q : spFr K R vs H Q E) : tRet te { nx := fun _ H' => Q .non H', rt := Q } (L2.start N vs) H := by
  obtain ⟨ds, l, h1, h2, h3⟩ := q
  exact h ds l h1 _ H trivial (Slots.start h2) Q fun b ys H' s nb eb hy => h3 b ys H' s nb eb hy
end
end KD

/-! part KW -/
set_option Elab.async false
set_option linter.all false
set_option maxRecDepth 100000
set_option maxHeartbeats 4000000
/-! books, manners and stands as data -/
namespace KD
open PySem PySem.Spec PyProof.Rows L2
def nmP : KM.PutW → Str
  | .always => "always"
  | .free => "free"
  | .never => "never"
theorem nmP_always (x : KM.PutW) : decide (nmP x = ("always" : Str)) = decide (x = .always) := by cases x <;> decide +kernel
theorem nmP_free (x : KM.PutW) : decide (nmP x = ("free" : Str)) = decide (x = .free) := by cases x <;> decide +kernel
theorem nmP_never (x : KM.PutW) : decide (nmP x = ("never" : Str)) = decide (x = .never) := by cases x <;> decide +kernel
theorem nmP_inj {x y : KM.PutW} (h : nmP x = nmP y) : x = y := by revert h; cases x <;> cases y <;> decide +kernel
def nmQ : KM.QuoW → Str
  | .always => "always"
  | .apart => "apart"
  | .never => "never"
theorem nmQ_always (x : KM.QuoW) : decide (nmQ x = ("always" : Str)) = decide (x = .always) := by cases x <;> decide +kernel
theorem nmQ_apart (x : KM.QuoW) : decide (nmQ x = ("apart" : Str)) = decide (x = .apart) := by cases x <;> decide +kernel
theorem nmQ_never (x : KM.QuoW) : decide (nmQ x = ("never" : Str)) = decide (x = .never) := by cases x <;> decide +kernel
theorem nmQ_inj {x y : KM.QuoW} (h : nmQ x = nmQ y) : x = y := by revert h; cases x <;> cases y <;> decide +kernel
def nmI : KM.InsW → Str
  | .same => "same"
  | .none => "none"
theorem nmI_same (x : KM.InsW) : decide (nmI x = ("same" : Str)) = decide (x = .same) := by cases x <;> decide +kernel
theorem nmI_none (x : KM.InsW) : decide (nmI x = ("none" : Str)) = decide (x = .none) := by cases x <;> decide +kernel
theorem nmI_inj {x y : KM.InsW} (h : nmI x = nmI y) : x = y := by revert h; cases x <;> cases y <;> decide +kernel
def nmO : KM.OvrW → Str
  | .own => "own"
  | .any => "any"
  | .never => "never"
theorem nmO_own (x : KM.OvrW) : decide (nmO x = ("own" : Str)) = decide (x = .own) := by cases x <;> decide +kernel
theorem nmO_any (x : KM.OvrW) : decide (nmO x = ("any" : Str)) = decide (x = .any) := by cases x <;> decide +kernel
theorem nmO_never (x : KM.OvrW) : decide (nmO x = ("never" : Str)) = decide (x = .never) := by cases x <;> decide +kernel
theorem nmO_inj {x y : KM.OvrW} (h : nmO x = nmO y) : x = y := by revert h; cases x <;> cases y <;> decide +kernel
def nmB : KM.BakW → Str
  | .own => "own"
  | .any => "any"
  | .one => "one"
theorem nmB_own (x : KM.BakW) : decide (nmB x = ("own" : Str)) = decide (x = .own) := by cases x <;> decide +kernel
theorem nmB_any (x : KM.BakW) : decide (nmB x = ("any" : Str)) = decide (x = .any) := by cases x <;> decide +kernel
theorem nmB_one (x : KM.BakW) : decide (nmB x = ("one" : Str)) = decide (x = .one) := by cases x <;> decide +kernel
theorem nmB_inj {x y : KM.BakW} (h : nmB x = nmB y) : x = y := by revert h; cases x <;> cases y <;> decide +kernel
def nmF : KM.FgtW → Str
  | .never => "never"
  | .line => "line"
theorem nmF_never (x : KM.FgtW) : decide (nmF x = ("never" : Str)) = decide (x = .never) := by cases x <;> decide +kernel
theorem nmF_line (x : KM.FgtW) : decide (nmF x = ("line" : Str)) = decide (x = .line) := by cases x <;> decide +kernel
theorem nmF_inj {x y : KM.FgtW} (h : nmF x = nmF y) : x = y := by revert h; cases x <;> cases y <;> decide +kernel
def nmPl : KM.PlaceW → Str
  | .out => "out"
  | .in_ => "in"
  | .word => "word"
theorem nmPl_out (x : KM.PlaceW) : decide (nmPl x = ("out" : Str)) = decide (x = .out) := by cases x <;> decide +kernel
theorem nmPl_in_ (x : KM.PlaceW) : decide (nmPl x = ("in" : Str)) = decide (x = .in_) := by cases x <;> decide +kernel
theorem nmPl_word (x : KM.PlaceW) : decide (nmPl x = ("word" : Str)) = decide (x = .word) := by cases x <;> decide +kernel
theorem nmPl_inj {x y : KM.PlaceW} (h : nmPl x = nmPl y) : x = y := by revert h; cases x <;> cases y <;> decide +kernel
def nmCo : KM.CountW → Str
  | .even => "even"
  | .odd => "odd"
theorem nmCo_even (x : KM.CountW) : decide (nmCo x = ("even" : Str)) = decide (x = .even) := by cases x <;> decide +kernel
theorem nmCo_odd (x : KM.CountW) : decide (nmCo x = ("odd" : Str)) = decide (x = .odd) := by cases x <;> decide +kernel
theorem nmCo_inj {x y : KM.CountW} (h : nmCo x = nmCo y) : x = y := by revert h; cases x <;> cases y <;> decide +kernel
def nmBe : KM.BeforeW → Str
  | .letter => "letter"
  | .quote => "quote"
  | .other => "other"
theorem nmBe_letter (x : KM.BeforeW) : decide (nmBe x = ("letter" : Str)) = decide (x = .letter) := by cases x <;> decide +kernel
theorem nmBe_quote (x : KM.BeforeW) : decide (nmBe x = ("quote" : Str)) = decide (x = .quote) := by cases x <;> decide +kernel
theorem nmBe_other (x : KM.BeforeW) : decide (nmBe x = ("other" : Str)) = decide (x = .other) := by cases x <;> decide +kernel
theorem nmBe_inj {x y : KM.BeforeW} (h : nmBe x = nmBe y) : x = y := by revert h; cases x <;> cases y <;> decide +kernel
def nmNe : KM.NearW → Str
  | .closer => "closer"
  | .quote => "quote"
  | .rest => "rest"
theorem nmNe_closer (x : KM.NearW) : decide (nmNe x = ("closer" : Str)) = decide (x = .closer) := by cases x <;> decide +kernel
theorem nmNe_quote (x : KM.NearW) : decide (nmNe x = ("quote" : Str)) = decide (x = .quote) := by cases x <;> decide +kernel
theorem nmNe_rest (x : KM.NearW) : decide (nmNe x = ("rest" : Str)) = decide (x = .rest) := by cases x <;> decide +kernel
theorem nmNe_inj {x y : KM.NearW} (h : nmNe x = nmNe y) : x = y := by revert h; cases x <;> cases y <;> decide +kernel
def nmRe : KM.RestW → Str
  | .blank => "blank"
  | .closer => "closer"
  | .end_ => "end"
  | .quote => "quote"
  | .wall => "wall"
theorem nmRe_blank (x : KM.RestW) : decide (nmRe x = ("blank" : Str)) = decide (x = .blank) := by cases x <;> decide +kernel
theorem nmRe_closer (x : KM.RestW) : decide (nmRe x = ("closer" : Str)) = decide (x = .closer) := by cases x <;> decide +kernel
theorem nmRe_end_ (x : KM.RestW) : decide (nmRe x = ("end" : Str)) = decide (x = .end_) := by cases x <;> decide +kernel
theorem nmRe_quote (x : KM.RestW) : decide (nmRe x = ("quote" : Str)) = decide (x = .quote) := by cases x <;> decide +kernel
theorem nmRe_wall (x : KM.RestW) : decide (nmRe x = ("wall" : Str)) = decide (x = .wall) := by cases x <;> decide +kernel
theorem nmRe_inj {x y : KM.RestW} (h : nmRe x = nmRe y) : x = y := by revert h; cases x <;> cases y <;> decide +kernel
theorem wP_always : nmP .always = ("always" : Str) := rfl
theorem wP_free : nmP .free = ("free" : Str) := rfl
theorem wP_never : nmP .never = ("never" : Str) := rfl
theorem wQ_always : nmQ .always = ("always" : Str) := rfl
theorem wQ_apart : nmQ .apart = ("apart" : Str) := rfl
theorem wQ_never : nmQ .never = ("never" : Str) := rfl
theorem wI_same : nmI .same = ("same" : Str) := rfl
theorem wI_none : nmI .none = ("none" : Str) := rfl
theorem wO_own : nmO .own = ("own" : Str) := rfl
theorem wO_any : nmO .any = ("any" : Str) := rfl
theorem wO_never : nmO .never = ("never" : Str) := rfl
theorem wB_own : nmB .own = ("own" : Str) := rfl
theorem wB_any : nmB .any = ("any" : Str) := rfl
theorem wB_one : nmB .one = ("one" : Str) := rfl
theorem wF_never : nmF .never = ("never" : Str) := rfl
theorem wF_line : nmF .line = ("line" : Str) := rfl
theorem wPl_out : nmPl .out = ("out" : Str) := rfl
theorem wPl_in_ : nmPl .in_ = ("in" : Str) := rfl
theorem wPl_word : nmPl .word = ("word" : Str) := rfl
theorem wCo_even : nmCo .even = ("even" : Str) := rfl
theorem wCo_odd : nmCo .odd = ("odd" : Str) := rfl
theorem wBe_letter : nmBe .letter = ("letter" : Str) := rfl
theorem wBe_quote : nmBe .quote = ("quote" : Str) := rfl
theorem wBe_other : nmBe .other = ("other" : Str) := rfl
theorem wNe_closer : nmNe .closer = ("closer" : Str) := rfl
theorem wNe_quote : nmNe .quote = ("quote" : Str) := rfl
theorem wNe_rest : nmNe .rest = ("rest" : Str) := rfl
theorem wRe_blank : nmRe .blank = ("blank" : Str) := rfl
theorem wRe_closer : nmRe .closer = ("closer" : Str) := rfl
theorem wRe_end_ : nmRe .end_ = ("end" : Str) := rfl
theorem wRe_quote : nmRe .quote = ("quote" : Str) := rfl
theorem wRe_wall : nmRe .wall = ("wall" : Str) := rfl
def bookD (B : KM.Book) : D := .tup [.str (nmP B.p), .str (nmQ B.q), .str (nmI B.i), .str (nmO B.o), .str (nmB B.b), .str (nmF B.f)]
def wayD (M : KM.Way) : D := .tup [.bl M.slips, .bl M.words, .bl M.later]
def standD (s : KM.Stand) : D := .tup [.str (nmPl s.place), .str (nmCo s.count), .str (nmBe s.before), .str (nmNe s.near), .str (nmRe s.rest)]
theorem fz_stand (s : KM.Stand) : (standD s).fz = true := rfl
theorem fz_book (B : KM.Book) : (bookD B).fz = true := rfl
theorem fz_way (M : KM.Way) : (wayD M).fz = true := rfl
section
variable {K : PySem.W.Frag} {A : Hy} {Γ : Ga} {te : TE}
theorem ev_flip {c : KM.CountW} (h : Ev K A te Γ (.str (nmCo c))) : Ev K A (tDGet (tDisp [(tC (.str "even"), tC (.str "odd")), (tC (.str "odd"), tC (.str "even"))]) te) Γ (.str (nmCo (KM.flip c))) := fun σ H a e Q q => by
  intro p hp
  have s1 : Same H (upd H p (.dK [])) := Same.new hp
  refine ⟨upd_same, [(.inr "even", .str "odd"), (.inr "odd", .str "even")], rfl, by decide, ?_⟩
  have s2 : Same H (upd (upd H p (.dK [])) p (.dK (mergeK [] [(.inr "even", .str "odd"), (.inr "odd", .str "even")]))) := by
    rw [upd_upd]
    exact Same.new hp
  refine h σ _ (A.st _ _ s2 a) (e.mono s2) _ fun v H1 s3 h1 => ?_
  have h2 : v = .str (nmCo c) := h1
  subst h2
  refine ⟨p, .str (nmCo (KM.flip c)), rfl, .inl ⟨_, .inr (nmCo c), .inl (s3 _ _ upd_same), rfl, ?_⟩, q _ H1 (s2.trans s3) rfl⟩
  cases c
  · exact congrArg some (by decide +kernel)
  · exact congrArg some (by decide +kernel)
end
end KD

/-! part K1 -/
set_option Elab.async false
set_option linter.all false
set_option maxRecDepth 100000
set_option maxHeartbeats 4000000
namespace KH
open PySem PySem.Spec PyProof.Rows L2 KD
section
variable {P : Program} {w : World} {K : PySem.W.Frag} {mg : Str → Option Value} {base : Heap}
/-! ### signs.py -/
/-- a def of a text of at most one sign -/
abbrev oneR (f : List Nat → D) : List D → D → Prop := fun ds d => ∃ l : List Nat, ds = [.str (S l)] ∧ d = f l ∧ l.length ≤ 1
theorem len_one {f : List Nat → D} (ds : List D) (d : D) (h : oneR f ds d) : ds.length = 1 := by obtain ⟨l, e, _⟩ := h; rw [e]; rfl
theorem len1 {l : List Nat} (hl : l.length ≤ 1) (h : (!decide (l = [])) = true) : l.length = 1 := by
  have h1 : l ≠ [] := by simpa using h
  have := List.length_pos_iff.mpr h1
  omega
theorem cases1 {l : List Nat} (hl : l.length ≤ 1) : l = [] ∨ ∃ c, l = [c] := by
  match l, hl with
  | [], _ => exact .inl rfl
  | [c], _ => exact .inr ⟨c, rfl⟩
  | _ :: _ :: _, h => exact absurd h (by simp)
def oneB (f : Nat → Bool) : List Nat → Bool
  | [c] => f c
  | _ => false
theorem abc (c : Nat) : decide (c ∈ [97, 98, 99, 100, 101, 102, 103, 104, 105, 106, 107, 108, 109, 110, 111, 112, 113, 114, 115, 116, 117, 118, 119, 120, 121, 122]) = KM.ltr c := by
  have all : ∀ k, k < 26 → decide (97 + k ∈ [97, 98, 99, 100, 101, 102, 103, 104, 105, 106, 107, 108, 109, 110, 111, 112, 113, 114, 115, 116, 117, 118, 119, 120, 121, 122]) = true := by decide
  unfold KM.ltr
  by_cases h1 : 97 ≤ c
  · by_cases h2 : c ≤ 122
    · rw [decide_eq_true h1, decide_eq_true h2]
      have := all (c - 97) (by omega)
      rw [show 97 + (c - 97) = c by omega] at this
      exact this
    · rw [decide_eq_false h2, Bool.and_false]
      refine decide_eq_false fun z => h2 ?_
      simp at z
      omega
  · rw [decide_eq_false h1, Bool.false_and]
    refine decide_eq_false fun z => h1 ?_
    simp at z
    omega
theorem beq_dec (a b : Nat) : (a == b) = decide (a = b) := by
  by_cases h : a = b
  · rw [h]; simp
  · rw [decide_eq_false h]; simpa using h
def sp_is_letter (K : PySem.W.Frag) : Sp := spR K (oneR fun l => .bl (oneB KM.ltr l))
theorem sc_is_letter : FnScope ["sign"] ["sign"] (defScope s_is_letter) := ⟨rfl, rfl, rfl, by decide +kernel, rfl, by decide +kernel, by decide +kernel⟩
theorem cal_is_letter (T : Tx K mg) : C8.Cal P w K mg base 1 "is_letter" (sp_is_letter K) [] :=
  cal_of T.d_is_letter T.g_is_letter sc_is_letter (fun _ _ _ _ _ _ us hl => match us, hl with | [_], _ => rfl)
    (spR_len len_one) fun cdv A outer s H E hr => ⟨_, (pss_one (ps_ret (pe_and (pe_cmpR op_ne (pv 0) pe_str (nomark _)) (pe_one (pe_cmpR op_in_sign (pv 0) (pe_gS (by rfl) T.c_LETTERS) (by rfl)))))), spR_by _ fun ds d ⟨l, e, e2, hl⟩ => by
      subst e e2
      show Rn _ _ _ [_] _; refine (rn_ret (ev_as (ev_andV (ev_neL (ev_var rfl) (ev_lit (l := []) (by decide +kernel))) (fun h1 => (ev_inL (ev_var rfl) (ev_lit (l := [97, 98, 99, 100, 101, 102, 103, 104, 105, 106, 107, 108, 109, 110, 111, 112, 113, 114, 115, 116, 117, 118, 119, 120, 121, 122]) (by decide +kernel)) ?_))) ?_))
      · exact len1 hl h1
      · rcases cases1 hl with e | ⟨c, e⟩ <;> subst e
        · rfl
        · exact congrArg D.bl (abc c)⟩
def sp_is_closing (K : PySem.W.Frag) : Sp := spR K (oneR fun l => .bl (oneB KM.closing l))
theorem sc_is_closing : FnScope ["sign"] ["sign"] (defScope s_is_closing) := ⟨rfl, rfl, rfl, by decide +kernel, rfl, by decide +kernel, by decide +kernel⟩
theorem cal_is_closing (T : Tx K mg) : C8.Cal P w K mg base 1 "is_closing" (sp_is_closing K) [] :=
  cal_of T.d_is_closing T.g_is_closing sc_is_closing (fun _ _ _ _ _ _ us hl => match us, hl with | [_], _ => rfl)
    (spR_len len_one) fun cdv A outer s H E hr => ⟨_, (pss_one (ps_ret (pe_and (pe_cmpR op_ne (pv 0) pe_str (nomark _)) (pe_one (pe_cmpR op_in_sign (pv 0) (pe_op op_add_str (pe_gS (by rfl) T.c_CLOSERS) (pe_gS (by rfl) T.c_QUOTE)) (by rfl)))))), spR_by _ fun ds d ⟨l, e, e2, hl⟩ => by
      subst e e2
      show Rn _ _ _ [_] _; refine (rn_ret (ev_as (ev_andV (ev_neL (ev_var rfl) (ev_lit (l := []) (by decide +kernel))) (fun h1 => (ev_inL (ev_var rfl) (ev_addL (ev_lit (l := [41, 93]) (by decide +kernel)) (ev_lit (l := [39]) (by decide +kernel)) ?_) ?_))) ?_))
      · decide
      · exact len1 hl h1
      · rcases cases1 hl with e | ⟨c, e⟩ <;> subst e
        · rfl
        · refine congrArg D.bl ?_
          show decide (c ∈ [41, 93, 39]) = KM.closing c
          simp [KM.closing, KM.cls, beq_dec, Bool.or_assoc]⟩
theorem free_mem (c : Nat) : decide (c ∈ [41, 93, 39, 32, 47]) = KM.free1 (some c) := by
  simp [KM.free1, KM.cls, beq_dec, Bool.or_assoc]
def sp_is_free (K : PySem.W.Frag) : Sp := spR K (oneR fun l => .bl (KM.free1 l.head?))
theorem sc_is_free : FnScope ["sign"] ["sign"] (defScope s_is_free) := ⟨rfl, rfl, rfl, by decide +kernel, rfl, by decide +kernel, by decide +kernel⟩
theorem cal_is_free (T : Tx K mg) : C8.Cal P w K mg base 1 "is_free" (sp_is_free K) [] :=
  cal_of T.d_is_free T.g_is_free sc_is_free (fun _ _ _ _ _ _ us hl => match us, hl with | [_], _ => rfl)
    (spR_len len_one) fun cdv A outer s H E hr => ⟨_, (pss_one (ps_ret (pe_or (pe_cmpR op_eq (pv 0) pe_str (nomark _)) (pe_one (pe_cmpR op_in_sign (pv 0) (pe_op op_add_str (pe_op op_add_str (pe_op op_add_str (pe_gS (by rfl) T.c_CLOSERS) (pe_gS (by rfl) T.c_QUOTE)) (pe_gS (by rfl) T.c_BLANK)) (pe_gS (by rfl) T.c_LINE)) (by rfl)))))), spR_by _ fun ds d ⟨l, e, e2, hl⟩ => by
      subst e e2
      show Rn _ _ _ [_] _; refine (rn_ret (ev_as (ev_orV (ev_eqL (ev_var rfl) (ev_lit (l := []) (by decide +kernel))) (fun h1 => (ev_inL (ev_var rfl) (ev_addL (ev_addL (ev_addL (ev_lit (l := [41, 93]) (by decide +kernel)) (ev_lit (l := [39]) (by decide +kernel)) ?_) (ev_lit (l := [32]) (by decide +kernel)) ?_) (ev_lit (l := [47]) (by decide +kernel)) ?_) ?_))) ?_))
      all_goals first | decide | skip
      · exact len1 hl (by rw [h1]; rfl)
      · rcases cases1 hl with e | ⟨c, e⟩ <;> subst e
        · rfl
        · exact congrArg D.bl (free_mem c)⟩
def cloL (l : List Nat) : List Nat := match l.head? with
  | some c => (KM.clo c).toList
  | none => []
def sp_closer_of (K : PySem.W.Frag) : Sp := spR K (oneR fun l => .str (S (cloL l)))
theorem cases_op {l : List Nat} (hl : l.length ≤ 1) (h : (!decide (l = []) && decide (l.headD 0 ∈ [40, 91])) = true) : l = [40] ∨ l = [91] := by
  rcases cases1 hl with e | ⟨c, e⟩ <;> subst e
  · cases h
  · simpa using h
theorem sc_closer_of : FnScope ["sign"] ["sign"] (defScope s_closer_of) := ⟨rfl, rfl, rfl, by decide +kernel, rfl, by decide +kernel, by decide +kernel⟩
theorem cal_closer_of (T : Tx K mg) : C8.Cal P w K mg base 1 "closer_of" (sp_closer_of K) [] :=
  cal_of T.d_closer_of T.g_closer_of sc_closer_of (fun _ _ _ _ _ _ us hl => match us, hl with | [_], _ => rfl)
    (spR_len len_one) fun cdv A outer s H E hr => ⟨_, (pss_cons (ps_if (pt_cmpR op_eq (pv 0) (pe_gS (by rfl) T.c_QUOTE) (nomark _)) (pss_one (ps_ret (pe_gS (by rfl) T.c_QUOTE))) pss_nil) (pss_one (ps_ret (pe_ifExp (PW.pt (pw_and (pt_cmpR op_ne (pv 0) pe_str (nomark _)) (pw_and1 (pt_cmpR op_in_sign (pv 0) (pe_gS (by rfl) T.c_OPENERS) (by rfl))))) (pe_ix ix_str (pe_gS (by rfl) T.c_CLOSERS) (pe_m1 PySem.F.slot_str_index PySem.F.type_str_index mt_sindex (pe_gS (by rfl) T.c_OPENERS) (pv 0)) (fun _ _ => rfl)) pe_str)))), spR_by _ fun ds d ⟨l, e, e2, hl⟩ => by
      subst e e2
      show Rn _ _ _ [_] _; refine (rn_ifs (et_test (ev_eqL (ev_var rfl) (ev_lit (l := [39]) (by decide +kernel)))) (fun h1 => (rn_out (rn_ret (ev_as (ev_lit (l := [39]) (by decide +kernel)) ?_)))) (fun h1 => (rn_nx (rn_ret (ev_as (ev_ifL (et_and (et_test (ev_neL (ev_var rfl) (ev_lit (l := []) (by decide +kernel)))) (fun h2 => (et_test (ev_inL (ev_var rfl) (ev_lit (l := [40, 91]) (by decide +kernel)) ?_)))) (fun h3 => (ev_ixS1 (ev_lit (l := [41, 93]) (by decide +kernel)) (ev_idxO (ev_lit (l := [40, 91]) (by decide +kernel)) (ev_var rfl) ?_) ?_ ?_)) (fun h3 => (ev_lit (l := []) (by decide +kernel)))) ?_)))))
      all_goals first | decide | skip
      · have e : l = [39] := by simpa using h1
        subst e
        rfl
      · exact len1 hl h2
      · exact cases_op hl h3
      · rcases cases_op hl h3 with e | e <;> subst e <;> decide
      · rcases cases1 hl with e | ⟨c, e⟩ <;> subst e
        · rfl
        · have h39 : c ≠ 39 := by simpa using h1
          by_cases h40 : c = 40
          · subst h40; rfl
          · by_cases h91 : c = 91
            · subst h91; rfl
            · refine congrArg (fun z => D.str (S z)) ?_
              show (if (!decide ([c] = []) && decide (c ∈ [40, 91])) = true then _ else []) = _
              rw [if_neg (by simp [h40, h91])]
              simp [cloL, KM.clo, h39, h40, h91]⟩
def sp_is_within (K : PySem.W.Frag) : Sp := spR K fun ds d => ∃ l : List Nat, ds = [.str (S l)] ∧ d = .bl (KM.within l) ∧ l.length ≤ 1000
theorem sc_is_within : FnScope ["left", "many"] ["left"] (defScope s_is_within) := ⟨rfl, rfl, rfl, by decide +kernel, rfl, by decide +kernel, by decide +kernel⟩
theorem cal_is_within (T : Tx K mg) : C8.Cal P w K mg base 1 "is_within" (sp_is_within K) [] :=
  cal_of T.d_is_within T.g_is_within sc_is_within (fun _ _ _ _ _ _ us hl => match us, hl with | [_], _ => rfl)
    (spR_len fun ds d ⟨l, e, _⟩ => by rw [e]; rfl) fun cdv A outer s H E hr => ⟨_, (pss_cons (ps_set (i := 1) sc_is_within.nd rfl (Or.inl rfl) (pe_m1 PySem.F.slot_str_count PySem.F.type_str_count mt_count (pe_slice C8.sl_txt (pv 0) (po_some (pe_op op_add (pe_m1 PySem.F.slot_str_rfind PySem.F.type_str_rfind mt_rfind (pv 0) (pe_gS (by rfl) T.c_LINE)) pe_int)) po_none) (pe_gS (by rfl) T.c_QUOTE))) (pss_one (ps_ret (pe_cmpR op_eq (pe_op op_sub (pv 1) (pe_op op_mul pe_int (pe_op op_fdiv (pv 1) pe_int))) pe_int (nomark _))))), spR_by _ fun ds d ⟨l, e, e2, hl⟩ => by
      subst e e2
      show Rn _ _ _ [_, _] _; refine (rn_seq (Γ1 := [_, _]) (rn_set (ev_count (ev_slFrom (ev_var rfl) (ev_add (ev_rfind (ev_var rfl) (ev_lit (l := [47]) (by decide +kernel))) ev_int) ?_ ?_) (ev_lit (l := [39]) (by decide +kernel)))) (rn_ret (ev_as (ev_eqI (ev_sub (ev_var rfl) (ev_rI ev_int (ev_rI (ev_var rfl) ev_int ?_) ?_)) ev_int) ?_)))
      · omega
      · exact rfind_nn l 47
      · exact ⟨by decide, by decide⟩
      · exact .inl ⟨by decide, by decide⟩
      · refine congrArg D.bl ?_
        show decide (Txt.count (S (l.drop (Txt.rfind (S l) (S [47]) + 1).toNat)) (S [39]) - 2 * (Txt.count (S (l.drop (Txt.rfind (S l) (S [47]) + 1).toNat)) (S [39]) / 2) = 1) = KM.within l
        rw [count_S, parity, within_seg]⟩
/-! a text's signs -/
theorem signs_mem (c : Nat) : decide (c ∈ [40, 91, 41, 93, 39, 32, 47, 97, 98, 99, 100, 101, 102, 103, 104, 105, 106, 107, 108, 109, 110, 111, 112, 113, 114, 115, 116, 117, 118, 119, 120, 121, 122]) = KM.sgn c := by
  have h := abc c
  have e : [40, 91, 41, 93, 39, 32, 47, 97, 98, 99, 100, 101, 102, 103, 104, 105, 106, 107, 108, 109, 110, 111, 112, 113, 114, 115, 116, 117, 118, 119, 120, 121, 122] = [40, 91, 41, 93, 39, 32, 47] ++ [97, 98, 99, 100, 101, 102, 103, 104, 105, 106, 107, 108, 109, 110, 111, 112, 113, 114, 115, 116, 117, 118, 119, 120, 121, 122] := rfl
  rw [e]
  unfold KM.sgn
  rw [← h]
  simp only [List.mem_append, Bool.decide_or]
  simp [KM.opn, KM.cls, beq_dec, Bool.or_assoc]
/-- a key: a sign, or "back" -/
def keyS (n : Nat) : Str := if n = 0 then S [98, 97, 99, 107] else S [n]
def keyOk (n : Nat) : Prop := n = 0 ∨ KM.sgn n = true
theorem sgn_ne0 {n : Nat} (h : KM.sgn n = true) : n ≠ 0 := by
  intro z; subst z; revert h; decide
def sp_is_sign (K : PySem.W.Frag) : Sp := spR K fun ds d => ∃ n, ds = [.str (keyS n)] ∧ d = .bl (!decide (n = 0)) ∧ keyOk n
theorem sc_is_sign : FnScope ["value"] ["value"] (defScope s_is_sign) := ⟨rfl, rfl, rfl, by decide +kernel, rfl, by decide +kernel, by decide +kernel⟩
theorem cal_is_sign (T : Tx K mg) : C8.Cal P w K mg base 1 "is_sign" (sp_is_sign K) [] :=
  cal_of T.d_is_sign T.g_is_sign sc_is_sign (fun _ _ _ _ _ _ us hl => match us, hl with | [_], _ => rfl)
    (spR_len fun ds d ⟨n, e, _⟩ => by rw [e]; rfl) fun cdv A outer s H E hr => ⟨_, (pss_one (ps_ret (pe_and (pe_callB call_isi (by rfl) T.b_isinstance (by decide +kernel) (pa_cons (pv 0) (pa_cons (pe_gT (n := "str") (by rfl) T.b_str (by decide +kernel)) pa_nil))) (pe_and (pe_cmpR op_eq (pe_callB call_len (by rfl) T.b_len PySem.boot_len (pa_cons (pv 0) pa_nil)) pe_int (nomark _)) (pe_one (pe_cmpR op_in_sign (pv 0) (pe_gS (by rfl) T.c_SIGNS) (by rfl))))))), spR_by _ fun ds d ⟨n, e, e2, hn⟩ => by
      subst e e2
      by_cases h0 : n = 0
      · subst h0
        show Rn _ _ _ [_] _; refine (rn_ret (ev_as (ev_andV (ev_isi (b := true) (ea_cons (ev_var rfl) (ea_cons ev_ty ea_nil)) rfl (by decide +kernel)) (fun h1 => (ev_andV (ev_eqI (ev_lenS1 (ea_cons (ev_var rfl) ea_nil) ?_) ev_int) (fun h2 => (ev_inL (ev_var rfl) (ev_lit (l := [40, 91, 41, 93, 39, 32, 47, 97, 98, 99, 100, 101, 102, 103, 104, 105, 106, 107, 108, 109, 110, 111, 112, 113, 114, 115, 116, 117, 118, 119, 120, 121, 122]) (by decide +kernel)) ?_))))) ?_))
        · decide
        · exact absurd h2 (by decide)
        · rfl
      · have hs : KM.sgn n = true := hn.resolve_left h0
        have ek : keyS n = S [n] := if_neg h0
        rw [ek]
        show Rn _ _ _ [_] _; refine (rn_ret (ev_as (ev_andV (ev_isi (b := true) (ea_cons (ev_var rfl) (ea_cons ev_ty ea_nil)) rfl (by decide +kernel)) (fun h1 => (ev_andV (ev_eqI (ev_lenS1 (ea_cons (ev_var rfl) ea_nil) ?_) ev_int) (fun h2 => (ev_inL (ev_var rfl) (ev_lit (l := [40, 91, 41, 93, 39, 32, 47, 97, 98, 99, 100, 101, 102, 103, 104, 105, 106, 107, 108, 109, 110, 111, 112, 113, 114, 115, 116, 117, 118, 119, 120, 121, 122]) (by decide +kernel)) ?_))))) ?_))
        · show 1 ≤ 100000
          decide
        · rfl
        · refine congrArg D.bl ?_
          exact ((congrArg (fun b => true && (true && b)) (signs_mem n)).trans (by rw [hs])).trans (by rw [decide_eq_false h0]; rfl)⟩
/-! is_text, need_text -/
theorem all_map {α : Type} {l : List α} {f : α → Bool} (h : ∀ c ∈ l, f c = true) : (l.map f).all id = true := List.all_eq_true.mpr fun b hb => by
  obtain ⟨c, h6, h7⟩ := List.mem_map.mp hb
  rw [← h7]
  exact h c h6
/-- a text that may stand behind -/
def okT (l : List Nat) : Prop := l.length ≤ 200 ∧ ∀ c ∈ l, KM.sgn c = true
def sp_is_text (K : PySem.W.Frag) : Sp := spR K fun ds d => ∃ l : List Nat, ds = [.str (S l)] ∧ d = .bl true ∧ okT l
theorem sc_is_text : FnScope ["value", "sign"] ["value"] (defScope s_is_text) := ⟨rfl, rfl, rfl, by decide +kernel, rfl, by decide +kernel, by decide +kernel⟩
theorem cal_is_text (T : Tx K mg) : C8.Cal P w K mg base 1 "is_text" (sp_is_text K) [] :=
  cal_of T.d_is_text T.g_is_text sc_is_text (fun _ _ _ _ _ _ us hl => match us, hl with | [_], _ => rfl)
    (spR_len fun ds d ⟨l, e, _⟩ => by rw [e]; rfl) fun cdv A outer s H E hr => ⟨_, (pss_one (ps_ret (pe_and (pe_callB call_isi (by rfl) T.b_isinstance (by decide +kernel) (pa_cons (pv 0) (pa_cons (pe_gT (n := "str") (by rfl) T.b_str (by decide +kernel)) pa_nil))) (pe_and (pe_cmpR op_le (pe_callB call_len (by rfl) T.b_len PySem.boot_len (pa_cons (pv 0) pa_nil)) (pe_gI (by rfl) T.c_MOST_TEXT) (nomark _)) (pe_one (pe_callB (cr_all rfl) (by rfl) T.b_all (by decide +kernel) (pa_cons (pe_lc (own := [("sign", 1)]) rfl sc_is_text.nd (pi_str (pv 0)) (blkOk_by (N := ["value", "sign"]) (sc := defScope s_is_text) (by decide +kernel)) (fun _ _ _ _ _ => (pg_name (i := 1) sc_is_text.nd rfl (Or.inl rfl))) (fun _ _ _ _ _ => pts_nil) (fun _ _ _ _ _ => (pe_cmpR op_in_sign (pv 1) (pe_gS (by rfl) T.c_SIGNS) (by rfl)))) pa_nil))))))), spR_by _ fun ds d ⟨l, e, e2, hl, hc⟩ => by
      subst e e2
      show Rn _ _ _ [_, _] _; refine (rn_ret (ev_as (ev_andV (ev_isi (b := true) (ea_cons (ev_var rfl) (ea_cons ev_ty ea_nil)) rfl (by decide +kernel)) (fun h1 => (ev_andV (ev_cmpI (ev_lenS1 (ea_cons (ev_var rfl) ea_nil) ?_) ev_int) (fun h2 => (ev_all (ea_cons (ev_lcB l KM.sgn (wi_str (ev_var rfl)) (tg_name 1) (by decide) rfl (by omega) ?_) ea_nil)))))) ?_))
      · omega
      · intro i d hi ⟨c, h4, e⟩
        subst e
        refine ⟨trivial, c, h4, ev_as (ev_inL (ev_var rfl) (ev_lit (l := [40, 91, 41, 93, 39, 32, 47, 97, 98, 99, 100, 101, 102, 103, 104, 105, 106, 107, 108, 109, 110, 111, 112, 113, 114, 115, 116, 117, 118, 119, 120, 121, 122]) (by decide +kernel)) rfl) ?_⟩
        exact congrArg D.bl (signs_mem c)
      · refine congrArg D.bl ?_
        rw [decide_eq_true (show (l.length : Int) ≤ 200 by omega), all_map hc]
        rfl⟩
def sp_need_text (K : PySem.W.Frag) : Sp := spR K fun ds d => ∃ l : List Nat, ds = [.str (S l)] ∧ d = .non ∧ okT l
theorem sc_need_text : FnScope ["text", "place", "sign"] ["text"] (defScope s_need_text) := ⟨rfl, rfl, rfl, by decide +kernel, rfl, by decide +kernel, by decide +kernel⟩
theorem cal_need_text (T : Tx K mg) : C8.Cal P w K mg base 1 "need_text" (sp_need_text K) [] :=
  cal_of T.d_need_text T.g_need_text sc_need_text (fun _ _ _ _ _ _ us hl => match us, hl with | [_], _ => rfl)
    (spR_len fun ds d ⟨l, e, _⟩ => by rw [e]; rfl) fun cdv A outer s H E hr => ⟨_, (pss_cons (ps_if (PW.pt (pw_or (pt_not (pt_val (pe_callB call_isi (by rfl) T.b_isinstance (by decide +kernel) (pa_cons (pv 0) (pa_cons (pe_gT (n := "str") (by rfl) T.b_str (by decide +kernel)) pa_nil))))) (pw_or1 (pt_cmpR op_gt (pe_callB call_len (by rfl) T.b_len PySem.boot_len (pa_cons (pv 0) pa_nil)) (pe_gI (by rfl) T.c_MOST_TEXT) (nomark _))))) (pss_one ps_never) pss_nil) (pss_one (ps_for PassesOwn.never rfl (pi_enumS (by rfl) T.b_enumerate (pa_cons (pv 0) pa_nil)) (pg_tup (n := 2) rfl (pgs_cons (pg_name (i := 1) sc_need_text.nd rfl (Or.inl rfl)) (pgs_cons (pg_name (i := 2) sc_need_text.nd rfl (Or.inl rfl)) pgs_nil))) (pss_one (ps_if (pt_cmpR op_notIn_sign (pv 2) (pe_gS (by rfl) T.c_SIGNS) (by rfl)) (pss_one ps_never) pss_nil))))), spR_byN _ fun ds d ⟨l, e, e2, hl, hc⟩ => by
      subst e e2
      refine ⟨rfl, ?_⟩
      apply Exists.intro
      show Rn _ _ _ [_, _, _] _; refine (rn_ifs (et_or (et_not (et_B (ev_isi (b := true) (ea_cons (ev_var rfl) (ea_cons ev_ty ea_nil)) rfl (by decide +kernel)))) (fun h1 => (et_test (ev_cmpI (ev_lenS1 (ea_cons (ev_var rfl) ea_nil) ?_) ev_int)))) (fun h2 => (rn_absurd ?_)) (fun h2 => (rn_nx (rn_forW (wi_enS (ea_cons (ev_var rfl) ea_nil)) (tg_tup 2 [1, 2]) ?_))))
      · omega
      · have : (l.length : Int) > 200 := by simpa using h2
        omega
      · intro i d hi ⟨c, h4, e⟩
        subst e
        refine ⟨⟨rfl, rfl, rfl⟩, _, rn_if (et_test (ev_notinL (ev_var rfl) (ev_lit (l := [40, 91, 41, 93, 39, 32, 47, 97, 98, 99, 100, 101, 102, 103, 104, 105, 106, 107, 108, 109, 110, 111, 112, 113, 114, 115, 116, 117, 118, 119, 120, 121, 122]) (by decide +kernel)) rfl)) (fun h => rn_never ?_) (fun _ => rn_next), ⟨.inr rfl, .inl rfl, .inl rfl, trivial⟩⟩
        have h5 : (!KM.sgn c) = true := (congrArg (fun b => !b) (signs_mem c)).symm.trans h
        rw [hc c (List.mem_of_getElem? h4)] at h5
        cases h5⟩
end
end KH

/-! part K2 -/
set_option Elab.async false
set_option linter.all false
set_option maxRecDepth 100000
set_option maxHeartbeats 4000000
namespace KH
open PySem PySem.Spec PyProof.Rows L2 KD
section
variable {P : Program} {w : World} {K : PySem.W.Frag} {mg : Str → Option Value} {base : Heap}
/-! ### the law's own words -/
def sp_is_true (K : PySem.W.Frag) : Sp := spR K fun ds d => ∃ B M, ds = [bookD B, wayD M] ∧ d = .bl (KM.isTrue B M)
theorem sc_is_true : FnScope ["_law_rules", "_law_way", "_law_put", "_law_quote", "_law_inside", "_law_over", "_law_back", "_law_forget", "_law_slips", "_law_words", "_law_later_here"] ["_law_rules", "_law_way"] (defScope s_is_true) := ⟨rfl, rfl, rfl, by decide +kernel, rfl, by decide +kernel, by decide +kernel⟩
theorem cal_is_true (T : Tx K mg) : C8.Cal P w K mg base 1 "_law_is_true" (sp_is_true K) [] :=
  cal_of T.d_is_true T.g_is_true sc_is_true (fun _ _ _ _ _ _ us hl => match us, hl with | [_, _], _ => rfl)
    (spR_len fun ds d ⟨_, _, e, _⟩ => by rw [e]; rfl) fun cdv A outer s H E hr => ⟨_, (pss_cons (ps_asg (pv 0) (pg_tup (n := 6) rfl (pgs_cons (pg_name (i := 2) sc_is_true.nd rfl (Or.inl rfl)) (pgs_cons (pg_name (i := 3) sc_is_true.nd rfl (Or.inl rfl)) (pgs_cons (pg_name (i := 4) sc_is_true.nd rfl (Or.inl rfl)) (pgs_cons (pg_name (i := 5) sc_is_true.nd rfl (Or.inl rfl)) (pgs_cons (pg_name (i := 6) sc_is_true.nd rfl (Or.inl rfl)) (pgs_cons (pg_name (i := 7) sc_is_true.nd rfl (Or.inl rfl)) pgs_nil)))))))) (pss_cons (ps_asg (pv 1) (pg_tup (n := 3) rfl (pgs_cons (pg_name (i := 8) sc_is_true.nd rfl (Or.inl rfl)) (pgs_cons (pg_name (i := 9) sc_is_true.nd rfl (Or.inl rfl)) (pgs_cons (pg_name (i := 10) sc_is_true.nd rfl (Or.inl rfl)) pgs_nil))))) (pss_cons (ps_if (PW.pt (pw_and (pt_cmpR op_eq (pv 5) pe_str (nomark _)) (pw_and1 (pt_val (pv 10))))) (pss_one (ps_ret pe_bl)) pss_nil) (pss_cons (ps_if (PW.pt (pw_and (pt_cmpR op_eq (pv 2) pe_str (nomark _)) (pw_and1 (pt_cmpR op_eq (pv 3) pe_str (nomark _))))) (pss_one (ps_ret (pe_or (pe_cmpR op_ne (pv 6) pe_str (nomark _)) (pe_or (pe_not (pv 8)) (pe_one (pe_not (pv 10))))))) pss_nil) (pss_cons (ps_if (PW.pt (pw_or (pt_val (pv 9)) (pw_or1 (pt_cmpR op_eq (pv 5) pe_str (nomark _))))) (pss_one (ps_ret pe_bl)) pss_nil) (pss_cons (ps_if (pt_cmpR op_eq (pv 4) pe_str (nomark _)) (pss_one (ps_ret (pe_and (pe_cmpR op_eq (pv 2) pe_str (nomark _)) (pe_and (pe_cmpR op_eq (pv 3) pe_str (nomark _)) (pe_one (pe_not (pv 8))))))) pss_nil) (pss_cons (ps_if (PW.pt (pw_and (pt_val (pv 8)) (pw_and1 (PW.pt (pw_or (pt_cmpR op_eq (pv 6) pe_str (nomark _)) (pw_or1 (PW.pt (pw_and (pt_cmpR op_eq (pv 6) pe_str (nomark _)) (pw_and1 (pt_val (pv 10))))))))))) (pss_one (ps_ret pe_bl)) pss_nil) (pss_one (ps_ret (pe_or (pe_cmpR op_eq (pv 7) pe_str (nomark _)) (pe_or (pe_cmpR op_eq (pv 5) pe_str (nomark _)) (pe_one (pe_and (pe_cmpR op_eq (pv 2) pe_str (nomark _)) (pe_one (pe_not (pv 8)))))))))))))))), spR_by _ <| by
      rintro ds d ⟨B, M, rfl, rfl⟩
      show Rn _ _ _ [_, _, _, _, _, _, _, _, _, _, _] _; refine (rn_seq (Γ1 := [_, _, _, _, _, _, _, _, _, _, _]) (rn_unp (is := [2, 3, 4, 5, 6, 7]) (ev_var rfl) rfl rfl rfl) (rn_seq (Γ1 := [_, _, _, _, _, _, _, _, _, _, _]) (rn_unp (is := [8, 9, 10]) (ev_var rfl) rfl rfl rfl) (rn_ifs (et_and (et_test (ev_as (ev_eqS (ev_var rfl) ev_str) (congrArg D.bl (nmO_any _)))) (fun h1 => (et_B (ev_var rfl)))) (fun h2 => (rn_out (rn_ret (ev_as ev_bl ?_)))) (fun h2 => (rn_nx (rn_ifs (et_and (et_test (ev_as (ev_eqS (ev_var rfl) ev_str) (congrArg D.bl (nmP_never _)))) (fun h3 => (et_test (ev_as (ev_eqS (ev_var rfl) ev_str) (congrArg D.bl (nmQ_never _)))))) (fun h4 => (rn_out (rn_ret (ev_as (ev_orV (ev_as (ev_neS (ev_var rfl) ev_str) (congrArg (fun z => D.bl (!z)) (nmB_any _))) (fun h5 => (ev_orV (ev_notV (ev_var rfl)) (fun h6 => (ev_notV (ev_var rfl)))))) ?_)))) (fun h4 => (rn_nx (rn_ifs (et_or (et_B (ev_var rfl)) (fun h7 => (et_test (ev_as (ev_eqS (ev_var rfl) ev_str) (congrArg D.bl (nmO_never _)))))) (fun h8 => (rn_out (rn_ret (ev_as ev_bl ?_)))) (fun h8 => (rn_nx (rn_ifs (et_test (ev_as (ev_eqS (ev_var rfl) ev_str) (congrArg D.bl (nmI_same _)))) (fun h9 => (rn_out (rn_ret (ev_as (ev_andV (ev_as (ev_eqS (ev_var rfl) ev_str) (congrArg D.bl (nmP_never _))) (fun h10 => (ev_andV (ev_as (ev_eqS (ev_var rfl) ev_str) (congrArg D.bl (nmQ_always _))) (fun h11 => (ev_notV (ev_var rfl)))))) ?_)))) (fun h9 => (rn_nx (rn_ifs (et_and (et_B (ev_var rfl)) (fun h12 => (et_or (et_test (ev_as (ev_eqS (ev_var rfl) ev_str) (congrArg D.bl (nmB_one _)))) (fun h13 => (et_and (et_test (ev_as (ev_eqS (ev_var rfl) ev_str) (congrArg D.bl (nmB_any _)))) (fun h14 => (et_B (ev_var rfl)))))))) (fun h15 => (rn_out (rn_ret (ev_as ev_bl ?_)))) (fun h15 => (rn_nx (rn_ret (ev_as (ev_orV (ev_as (ev_eqS (ev_var rfl) ev_str) (congrArg D.bl (nmF_never _))) (fun h16 => (ev_orV (ev_as (ev_eqS (ev_var rfl) ev_str) (congrArg D.bl (nmO_any _))) (fun h17 => (ev_andV (ev_as (ev_eqS (ev_var rfl) ev_str) (congrArg D.bl (nmP_never _))) (fun h18 => (ev_notV (ev_var rfl)))))))) ?_)))))))))))))))))))
      all_goals
        refine congrArg D.bl ?_
        try simp only [decide_eq_true_eq, decide_eq_false_iff_not] at *
        simp [KM.isTrue, *]⟩
def sp_forgets (K : PySem.W.Frag) : Sp := spR K fun ds d => ∃ B s, ds = [bookD B, standD s] ∧ d = .bl (KM.forgets B s)
theorem sc_forgets : FnScope ["_law_rules", "_law_stand"] ["_law_rules", "_law_stand"] (defScope s_forgets) := ⟨rfl, rfl, rfl, by decide +kernel, rfl, by decide +kernel, by decide +kernel⟩
theorem cal_forgets (T : Tx K mg) : C8.Cal P w K mg base 1 "_law_forgets" (sp_forgets K) [] :=
  cal_of T.d_forgets T.g_forgets sc_forgets (fun _ _ _ _ _ _ us hl => match us, hl with | [_, _], _ => rfl)
    (spR_len fun ds d ⟨_, _, e, _⟩ => by rw [e]; rfl) fun cdv A outer s H E hr => ⟨_, (pss_one (ps_ret (pe_and (pe_cmpR op_eq (pe_ix ix_tup (pv 0) pe_int (fun _ _ => rfl)) pe_str (nomark _)) (pe_and (pe_cmpR op_eq (pe_ix ix_tup (pv 0) pe_int (fun _ _ => rfl)) pe_str (nomark _)) (pe_one (pe_cmpR op_ne (pe_ix ix_tup (pv 1) pe_int (fun _ _ => rfl)) pe_str (nomark _))))))), spR_by _ <| by
      rintro ds d ⟨B, t, rfl, rfl⟩
      show Rn _ _ _ [_, _] _; refine (rn_ret (ev_as (ev_andV (ev_as (ev_eqS (ev_ixT (ev_var rfl) ev_int rfl) ev_str) (congrArg D.bl (nmF_line _))) (fun h1 => (ev_andV (ev_as (ev_eqS (ev_ixT (ev_var rfl) ev_int rfl) ev_str) (congrArg D.bl (nmO_own _))) (fun h2 => (ev_as (ev_neS (ev_ixT (ev_var rfl) ev_int rfl) ev_str) (congrArg (fun z => D.bl (!z)) (nmNe_rest _))))))) ?_))
      rfl⟩
def sp_puts (K : PySem.W.Frag) : Sp := spR K fun ds d => ∃ B s l, ds = [bookD B, standD s, .str (S l)] ∧ d = .bl (if decide (l = [40]) = true then KM.putsO B s else KM.putsQ B s)
theorem sc_puts : FnScope ["_law_rules", "_law_stand", "_law_sign", "_law_room", "_law_place", "_law_count", "_law_before", "_law_near", "_law_rest"] ["_law_rules", "_law_stand", "_law_sign"] (defScope s_puts) := ⟨rfl, rfl, rfl, by decide +kernel, rfl, by decide +kernel, by decide +kernel⟩
theorem cal_puts (T : Tx K mg) : C8.Cal P w K mg base 1 "_law_puts" (sp_puts K) [] :=
  cal_of T.d_puts T.g_puts sc_puts (fun _ _ _ _ _ _ us hl => match us, hl with | [_, _, _], _ => rfl)
    (spR_len fun ds d ⟨_, _, _, e, _⟩ => by rw [e]; rfl) fun cdv A outer s H E hr => ⟨_, (pss_cons (ps_asg (pv 1) (pg_tup (n := 5) rfl (pgs_cons (pg_name (i := 4) sc_puts.nd rfl (Or.inl rfl)) (pgs_cons (pg_name (i := 5) sc_puts.nd rfl (Or.inl rfl)) (pgs_cons (pg_name (i := 6) sc_puts.nd rfl (Or.inl rfl)) (pgs_cons (pg_name (i := 7) sc_puts.nd rfl (Or.inl rfl)) (pgs_cons (pg_name (i := 8) sc_puts.nd rfl (Or.inl rfl)) pgs_nil))))))) (pss_cons (ps_set (i := 3) sc_puts.nd rfl (Or.inl rfl) (pe_or (pe_cmpR op_ne (pv 7) pe_str (nomark _)) (pe_one (pe_cmpR op_ne (pv 8) pe_str (nomark _))))) (pss_cons (ps_if (PW.pt (pw_and (pt_cmpR op_eq (pe_ix ix_tup (pv 0) pe_int (fun _ _ => rfl)) pe_str (nomark _)) (pw_and1 (pt_cmpR op_eq (pv 5) pe_str (nomark _))))) (pss_one (ps_ret pe_bl)) pss_nil) (pss_cons (ps_if (pt_cmpR op_eq (pv 2) pe_str (nomark _)) (pss_one (ps_ret (pe_or (pe_cmpR op_eq (pe_ix ix_tup (pv 0) pe_int (fun _ _ => rfl)) pe_str (nomark _)) (pe_one (pe_and (pe_cmpR op_eq (pe_ix ix_tup (pv 0) pe_int (fun _ _ => rfl)) pe_str (nomark _)) (pe_one (pv 3))))))) pss_nil) (pss_one (ps_ret (pe_or (pe_cmpR op_eq (pe_ix ix_tup (pv 0) pe_int (fun _ _ => rfl)) pe_str (nomark _)) (pe_one (pe_and (pe_cmpR op_eq (pe_ix ix_tup (pv 0) pe_int (fun _ _ => rfl)) pe_str (nomark _)) (pe_and (pv 3) (pe_one (pe_cmpR op_eq (pv 6) pe_str (nomark _))))))))))))), spR_by _ <| by
      rintro ds d ⟨B, t, l, rfl, rfl⟩
      show Rn _ _ _ [_, _, _, _, _, _, _, _, _] _; refine (rn_seq (Γ1 := [_, _, _, _, _, _, _, _, _]) (rn_unp (is := [4, 5, 6, 7, 8]) (ev_var rfl) rfl rfl rfl) (rn_seq (Γ1 := [_, _, _, _, _, _, _, _, _]) (rn_set (ev_orV (ev_as (ev_neS (ev_var rfl) ev_str) (congrArg (fun z => D.bl (!z)) (nmNe_rest _))) (fun h1 => (ev_as (ev_neS (ev_var rfl) ev_str) (congrArg (fun z => D.bl (!z)) (nmRe_wall _)))))) (rn_ifs (et_and (et_test (ev_as (ev_eqS (ev_ixT (ev_var rfl) ev_int rfl) ev_str) (congrArg D.bl (nmI_none _)))) (fun h2 => (et_test (ev_as (ev_eqS (ev_var rfl) ev_str) (congrArg D.bl (nmCo_odd _)))))) (fun h3 => (rn_out (rn_ret (ev_as ev_bl ?_)))) (fun h3 => (rn_nx (rn_ifs (et_test (ev_eqL (ev_var rfl) (ev_lit (l := [40]) (by decide +kernel)))) (fun h4 => (rn_out (rn_ret (ev_as (ev_orV (ev_as (ev_eqS (ev_ixT (ev_var rfl) ev_int rfl) ev_str) (congrArg D.bl (nmP_always _))) (fun h5 => (ev_andV (ev_as (ev_eqS (ev_ixT (ev_var rfl) ev_int rfl) ev_str) (congrArg D.bl (nmP_free _))) (fun h6 => (ev_var rfl))))) ?_)))) (fun h4 => (rn_nx (rn_ret (ev_as (ev_orV (ev_as (ev_eqS (ev_ixT (ev_var rfl) ev_int rfl) ev_str) (congrArg D.bl (nmQ_always _))) (fun h7 => (ev_andV (ev_as (ev_eqS (ev_ixT (ev_var rfl) ev_int rfl) ev_str) (congrArg D.bl (nmQ_apart _))) (fun h8 => (ev_andV (ev_var rfl) (fun h9 => (ev_as (ev_eqS (ev_var rfl) ev_str) (congrArg D.bl (nmBe_other _))))))))) ?_))))))))))
      all_goals
        refine congrArg D.bl ?_
        try simp only [decide_eq_true_eq, decide_eq_false_iff_not] at *
        simp [KM.putsO, KM.putsQ, KM.room, *]⟩
def nearL (l : List KM.NearW) : D := .lst (l.map fun n => .str (nmNe n))
def standL (l : List KM.Stand) : D := .lst (l.map standD)
def sp_bared (K : PySem.W.Frag) : Sp := spR K fun ds d => ∃ B, ds = [bookD B] ∧ d = nearL (KM.bared B)
theorem sc_bared : FnScope ["_law_rules"] ["_law_rules"] (defScope s_bared) := ⟨rfl, rfl, rfl, by decide +kernel, rfl, by decide +kernel, by decide +kernel⟩
theorem cal_bared (T : Tx K mg) : C8.Cal P w K mg base 1 "_law_bared" (sp_bared K) [] :=
  cal_of T.d_bared T.g_bared sc_bared (fun _ _ _ _ _ _ us hl => match us, hl with | [_], _ => rfl)
    (spR_len fun ds d ⟨_, e, _⟩ => by rw [e]; rfl) fun cdv A outer s H E hr => ⟨_, (pss_one (ps_ret (pe_op op_cat (pe_lst (pa_cons pe_str pa_nil)) (pe_op op_rep (pe_lst (pa_cons pe_str pa_nil)) (pe_callTy call_int1 (by rfl) T.b_int (by decide +kernel) (pa_cons (pe_cmpR op_ne (pe_ix ix_tup (pv 0) pe_int (fun _ _ => rfl)) pe_str (nomark _)) pa_nil)))))), spR_by _ <| by
      rintro ds d ⟨B, rfl, rfl⟩
      show Rn _ _ _ [_] _; refine (rn_ret (ev_as (ev_cat (ev_lst (ea_cons ev_str ea_nil)) (ev_rep (ev_lst (ea_cons ev_str ea_nil)) (ev_intB (ea_cons (ev_as (ev_neS (ev_ixT (ev_var rfl) ev_int rfl) ev_str) (congrArg (fun z => D.bl (!z)) (nmP_never _))) ea_nil)) ?_) ?_) ?_))
      · cases decide (B.p = .never) <;> decide
      · cases decide (B.p = .never) <;> decide
      · unfold KM.bared
        cases decide (B.p = .never) <;> rfl⟩
def withD (s : KM.Stand) (b : Str) (ns : List D) : List D := ns.map fun n => .tup [.str (nmPl s.place), .str (nmCo s.count), .str b, n, .str (nmRe s.rest)]
theorem fz_mem : ∀ {l : List D}, fzL l = true → ∀ d ∈ l, d.fz = true
  | [], _, _, h => by cases h
  | c :: l, q, d, h => by
    have q' := Bool.and_eq_true_iff.mp q
    rcases List.mem_cons.mp h with e | e
    · rw [e]; exact q'.1
    · exact fz_mem q'.2 d e
theorem fz_near : ∀ l : List KM.NearW, fzL (l.map fun n => D.str (nmNe n)) = true
  | [] => rfl
  | _ :: l => fz_near l
def sp_with (K : PySem.W.Frag) : Sp := spR K fun ds d => ∃ s b ns, ds = [standD s, .str b, .lst ns] ∧ d = .lst (withD s b ns) ∧ ns.length ≤ 100 ∧ fzL ns = true
theorem sc_with : FnScope ["_law_stand", "_law_before", "_law_nears", "_law_near"] ["_law_stand", "_law_before", "_law_nears"] (defScope s_with) := ⟨rfl, rfl, rfl, by decide +kernel, rfl, by decide +kernel, by decide +kernel⟩
theorem cal_with (T : Tx K mg) : C8.Cal P w K mg base 1 "_law_with" (sp_with K) [] :=
  cal_of T.d_with T.g_with sc_with (fun _ _ _ _ _ _ us hl => match us, hl with | [_, _, _], _ => rfl)
    (spR_len fun ds d ⟨_, _, _, e, _⟩ => by rw [e]; rfl) fun cdv A outer s H E hr => ⟨_, (pss_one (ps_ret (pe_lc (own := [("_law_near", 3)]) rfl sc_with.nd (pi_list (pv 2)) (blkOk_by (N := ["_law_stand", "_law_before", "_law_nears", "_law_near"]) (sc := defScope s_with) (by decide +kernel)) (fun _ _ _ _ _ => (pg_name (i := 3) sc_with.nd rfl (Or.inl rfl))) (fun _ _ _ _ _ => pts_nil) (fun _ _ _ _ _ => (pe_tup (pa_cons (pe_ix (ix_tupK (K := K) rfl) (pv 0) pe_int (fun _ _ => rfl)) (pa_cons (pe_ix (ix_tupK (K := K) rfl) (pv 0) pe_int (fun _ _ => rfl)) (pa_cons (pv 1) (pa_cons (pv 3) (pa_cons (pe_ix (ix_tupK (K := K) rfl) (pv 0) pe_int (fun _ _ => rfl)) pa_nil)))))))))), spR_by _ <| by
      rintro ds d ⟨t, b, ns, rfl, rfl, hl, hf⟩
      show Rn _ _ _ [_, _, _, _] _; refine (rn_ret (ev_as (ev_lcM ns (fun n => .tup [.str (nmPl t.place), .str (nmCo t.count), .str b, n, .str (nmRe t.rest)]) (wi_lst (ev_var rfl)) (tg_name 3) (by decide) rfl (by omega) ?_ ?_) ?_))
      · intro c hc
        show (true && (true && (true && (c.fz && (true && true))))) = true
        rw [fz_mem hf c hc]
        rfl
      · intro i d hi h
        exact ⟨trivial, d, h, ev_tup (ea_cons (ev_ixT (ev_var rfl) ev_int rfl) (ea_cons (ev_ixT (ev_var rfl) ev_int rfl) (ea_cons (ev_var rfl) (ea_cons (ev_var rfl) (ea_cons (ev_ixT (ev_var rfl) ev_int rfl) ea_nil)))))⟩
      · rfl⟩
theorem len_bared (B : KM.Book) : (KM.bared B).length ≤ 2 := by
  unfold KM.bared
  cases decide (B.p = .never) <;> decide
theorem len_withD (s : KM.Stand) (b : Str) (ns : List D) : (withD s b ns).length = ns.length := List.length_map ..
theorem rep_if (b : Bool) (ds : List D) : (List.replicate (if b = true then (1 : Int) else 0).toNat ds).flatten = if b = true then ds else [] := by cases b <;> simp
theorem fz_if (b : Bool) (l m : List D) : fzL (if b = true then l else m) = if b = true then fzL l else fzL m := by cases b <;> rfl
theorem if_len (b : Bool) (l m : List D) : (if b = true then l else m).length = if b = true then l.length else m.length := by cases b <;> rfl
theorem rep_ok (b : Bool) (l : List D) (h : l.length ≤ 10) : -(2 ^ 63) ≤ (if b = true then (1 : Int) else 0) ∧ (if b = true then (1 : Int) else 0) < 2 ^ 63 ∧ l.length * (if b = true then (1 : Int) else 0).toNat ≤ sizeLine := by
  have e : (10 : Nat) ≤ sizeLine := by decide
  cases b
  · exact ⟨by decide, by decide, by show l.length * 0 ≤ _; omega⟩
  · exact ⟨by decide, by decide, by show l.length * 1 ≤ _; omega⟩
def cameD (x : List KM.Stand × Bool) : D := .tup [standL x.1, .bl x.2]
def sp_plain_come (K : PySem.W.Frag) : Sp := spR K fun ds d => ∃ B s, ds = [bookD B, standD s] ∧ d = cameD (KM.plainC B s)
theorem sc_plain_come : FnScope ["_law_rules", "_law_stand", "_law_found", "_law_bad", "_law_place", "_law_count", "_law_before", "_law_near", "_law_rest"] ["_law_rules", "_law_stand"] (defScope s_plain_come) := ⟨rfl, rfl, rfl, by decide +kernel, rfl, by decide +kernel, by decide +kernel⟩
theorem cal_plain_come (T : Tx K mg) : C8.Cal P w K mg base 2 "_law_plain_come" (sp_plain_come K) [] :=
  cal_of T.d_plain_come T.g_plain_come sc_plain_come (fun _ _ _ _ _ _ us hl => match us, hl with | [_, _], _ => rfl)
    (spR_len fun ds d ⟨_, _, e, _⟩ => by rw [e]; rfl) fun cdv A outer s H E hr => ⟨_, (pss_cons (ps_asg (pv 1) (pg_tup (n := 5) rfl (pgs_cons (pg_name (i := 4) sc_plain_come.nd rfl (Or.inl rfl)) (pgs_cons (pg_name (i := 5) sc_plain_come.nd rfl (Or.inl rfl)) (pgs_cons (pg_name (i := 6) sc_plain_come.nd rfl (Or.inl rfl)) (pgs_cons (pg_name (i := 7) sc_plain_come.nd rfl (Or.inl rfl)) (pgs_cons (pg_name (i := 8) sc_plain_come.nd rfl (Or.inl rfl)) pgs_nil))))))) (pss_cons (ps_set (i := 2) sc_plain_come.nd rfl (Or.inl rfl) (pe_lst (pa_cons (pe_tup (pa_cons (pe_ifExp (pt_cmpR op_eq (pv 4) pe_str (nomark _)) pe_str (pv 4)) (pa_cons (pv 5) (pa_cons pe_str (pa_cons (pv 7) (pa_cons (pv 8) pa_nil)))))) pa_nil))) (pss_cons (ps_if (pt_cmpR op_eq (pv 4) pe_str (nomark _)) (pss_one (ps_ret (pe_tup (pa_cons (pv 2) (pa_cons pe_bl pa_nil))))) pss_nil) (pss_cons (ps_set (i := 2) sc_plain_come.nd rfl (Or.inl rfl) (pe_op op_cat (pv 2) (C8.pe_c (cal_with T) hr (by decide) (by rfl) (pa_cons (pv 1) (pa_cons pe_str (pa_cons (pe_lst (pa_cons (pv 7) pa_nil)) pa_nil)))))) (pss_cons (ps_set (i := 3) sc_plain_come.nd rfl (Or.inl rfl) (pe_and (pe_cmpR op_eq (pv 4) pe_str (nomark _)) (pe_one (C8.pe_c (cal_forgets T) hr (by decide) (by rfl) (pa_cons (pv 0) (pa_cons (pv 1) pa_nil)))))) (pss_one (ps_ret (pe_tup (pa_cons (pe_op op_cat (pv 2) (pe_op op_rep (pe_lst (pa_cons (pe_tup (pa_cons pe_str (pa_cons pe_str (pa_cons pe_str (pa_cons (pv 7) (pa_cons (pv 8) pa_nil)))))) pa_nil)) (pe_callTy call_int1 (by rfl) T.b_int (by decide +kernel) (pa_cons (pe_and (pe_cmpR op_eq (pv 4) pe_str (nomark _)) (pe_one (pe_not (pv 3)))) pa_nil)))) (pa_cons (pv 3) pa_nil)))))))))), spR_by _ <| by
      rintro ds d ⟨B, t, rfl, rfl⟩
      clear hr
      show Rn _ _ _ [_, _, _, _, _, _, _, _, _] _; refine (rn_seq (Γ1 := [_, _, _, _, _, _, _, _, _]) (rn_unp (is := [4, 5, 6, 7, 8]) (ev_var rfl) rfl rfl rfl) (rn_seq (Γ1 := [_, _, _, _, _, _, _, _, _]) (rn_set (ev_lst (ea_cons (ev_tup (ea_cons (ev_ifS (et_test (ev_as (ev_eqS (ev_var rfl) ev_str) (congrArg D.bl (nmPl_word _)))) (fun h1 => ev_str) (fun h1 => (ev_var rfl))) (ea_cons (ev_var rfl) (ea_cons ev_str (ea_cons (ev_var rfl) (ea_cons (ev_var rfl) ea_nil)))))) ea_nil))) (rn_ifs (et_test (ev_as (ev_eqS (ev_var rfl) ev_str) (congrArg D.bl (nmPl_word _)))) (fun h2 => (rn_out (rn_ret (ev_as (ev_tup (ea_cons (ev_var rfl) (ea_cons ev_bl ea_nil))) ?_)))) (fun h2 => (rn_nx (rn_seq (Γ1 := [_, _, _, _, _, _, _, _, _]) (rn_set (ev_cat (ev_var rfl) (ev_callR rfl (ea_cons (ev_var rfl) (ea_cons ev_str (ea_cons (ev_lst (ea_cons (ev_var rfl) ea_nil)) ea_nil))) ⟨_, _, _, rfl, rfl, ?_, ?_⟩) ?_)) (rn_seq (Γ1 := [_, _, _, _, _, _, _, _, _]) (rn_set (ev_andV (ev_as (ev_eqS (ev_var rfl) ev_str) (congrArg D.bl (nmPl_out _))) (fun h3 => (ev_callR rfl (ea_cons (ev_var rfl) (ea_cons (ev_var rfl) ea_nil)) ⟨_, _, rfl, rfl⟩)))) (rn_ret (ev_as (ev_tup (ea_cons (ev_cat (ev_var rfl) (ev_rep (ev_lst (ea_cons (ev_tup (ea_cons ev_str (ea_cons ev_str (ea_cons ev_str (ea_cons (ev_var rfl) (ea_cons (ev_var rfl) ea_nil)))))) ea_nil)) (ev_intB (ea_cons (ev_andV (ev_as (ev_eqS (ev_var rfl) ev_str) (congrArg D.bl (nmPl_out _))) (fun h4 => (ev_notV (ev_var rfl)))) ea_nil)) ?_) ?_) (ea_cons (ev_var rfl) ea_nil))) ?_)))))))))
      all_goals first
        | exact rep_ok _ _ (by simp)
        | (simp only [fz_if, fzL, D.fz, fzL_app, fz_near, Bool.and_self, ite_self]; done)
        | (have hb := len_bared B
           refine small ?_
           simp only [List.length_cons, List.length_nil, List.length_append, List.length_map, len_withD, rep_if, if_len]
           repeat' split
           all_goals omega)
        | (have hb := len_bared B
           simp only [List.length_cons, List.length_nil, List.length_append, List.length_map, len_withD, rep_if, if_len]
           repeat' split
           all_goals omega)
        | (simp only [decide_eq_true_eq, decide_eq_false_iff_not, rep_if] at *
           simp [cameD, nearL, standL, standD, withD, KM.with_, KM.plainC, wP_always, wP_free, wP_never, wQ_always, wQ_apart, wQ_never, wI_same, wI_none, wO_own, wO_any, wO_never, wB_own, wB_any, wB_one, wF_never, wF_line, wPl_out, wPl_in_, wPl_word, wCo_even, wCo_odd, wBe_letter, wBe_quote, wBe_other, wNe_closer, wNe_quote, wNe_rest, wRe_blank, wRe_closer, wRe_end_, wRe_quote, wRe_wall, *]
           try done
           try (repeat' split)
           all_goals simp_all [standD, wP_always, wP_free, wP_never, wQ_always, wQ_apart, wQ_never, wI_same, wI_none, wO_own, wO_any, wO_never, wB_own, wB_any, wB_one, wF_never, wF_line, wPl_out, wPl_in_, wPl_word, wCo_even, wCo_odd, wBe_letter, wBe_quote, wBe_other, wNe_closer, wNe_quote, wNe_rest, wRe_blank, wRe_closer, wRe_end_, wRe_quote, wRe_wall]
           all_goals first | rfl | (rename_i z; rcases z with z | z <;> simp_all))⟩
def sp_bracket_come (K : PySem.W.Frag) : Sp := spR K fun ds d => ∃ B s, ds = [bookD B, standD s] ∧ d = cameD (KM.bracketC B s)
theorem sc_bracket_come : FnScope ["_law_rules", "_law_stand", "_law_put", "_law_bad", "_law_found", "_law_wrong", "_law_place", "_law_count", "_law_before", "_law_near", "_law_rest"] ["_law_rules", "_law_stand"] (defScope s_bracket_come) := ⟨rfl, rfl, rfl, by decide +kernel, rfl, by decide +kernel, by decide +kernel⟩
theorem cal_bracket_come (T : Tx K mg) : C8.Cal P w K mg base 2 "_law_bracket_come" (sp_bracket_come K) [] :=
  cal_of T.d_bracket_come T.g_bracket_come sc_bracket_come (fun _ _ _ _ _ _ us hl => match us, hl with | [_, _], _ => rfl)
    (spR_len fun ds d ⟨_, _, e, _⟩ => by rw [e]; rfl) fun cdv A outer s H E hr => ⟨_, (pss_cons (ps_asg (pv 1) (pg_tup (n := 5) rfl (pgs_cons (pg_name (i := 6) sc_bracket_come.nd rfl (Or.inl rfl)) (pgs_cons (pg_name (i := 7) sc_bracket_come.nd rfl (Or.inl rfl)) (pgs_cons (pg_name (i := 8) sc_bracket_come.nd rfl (Or.inl rfl)) (pgs_cons (pg_name (i := 9) sc_bracket_come.nd rfl (Or.inl rfl)) (pgs_cons (pg_name (i := 10) sc_bracket_come.nd rfl (Or.inl rfl)) pgs_nil))))))) (pss_cons (ps_if (pt_cmpR op_eq (pv 6) pe_str (nomark _)) (pss_one (ps_ret (pe_tup (pa_cons (pe_lst pa_nil) (pa_cons pe_bl pa_nil))))) pss_nil) (pss_cons (ps_set (i := 2) sc_bracket_come.nd rfl (Or.inl rfl) (C8.pe_c (cal_puts T) hr (by decide) (by rfl) (pa_cons (pv 0) (pa_cons (pv 1) (pa_cons pe_str pa_nil))))) (pss_cons (ps_set (i := 3) sc_bracket_come.nd rfl (Or.inl rfl) (pe_and (pe_cmpR op_eq (pv 6) pe_str (nomark _)) (pe_one (pv 2)))) (pss_cons (ps_set (i := 4) sc_bracket_come.nd rfl (Or.inl rfl) (pe_ifExp (pt_val (pv 3)) (pe_lst pa_nil) (C8.pe_c (cal_with T) hr (by decide) (by rfl) (pa_cons (pv 1) (pa_cons pe_str (pa_cons (pe_lst (pa_cons (pe_ifExp (pt_val (pv 2)) pe_str (pv 9)) pa_nil)) pa_nil)))))) (pss_cons (ps_if (PW.pt (pw_and (pt_cmpR op_eq (pv 9) pe_str (nomark _)) (pw_and1 (pt_cmpR op_ne (pe_ix ix_tup (pv 0) pe_int (fun _ _ => rfl)) pe_str (nomark _))))) (pss_one (ps_ret (pe_tup (pa_cons (pe_op op_cat (pv 4) (C8.pe_c (cal_with T) hr (by decide) (by rfl) (pa_cons (pv 1) (pa_cons pe_str (pa_cons (pe_op op_cat (pe_lst (pa_cons pe_str pa_nil)) (C8.pe_c (cal_bared T) hr (by decide) (by rfl) (pa_cons (pv 0) pa_nil))) pa_nil))))) (pa_cons (pv 3) pa_nil))))) pss_nil) (pss_cons (ps_set (i := 5) sc_bracket_come.nd rfl (Or.inl rfl) (pe_or (pe_and (pe_cmpR op_eq (pv 9) pe_str (nomark _)) (pe_and (pe_cmpR op_eq (pv 10) pe_str (nomark _)) (pe_one (pe_cmpR op_eq (pe_ix ix_tup (pv 0) pe_int (fun _ _ => rfl)) pe_str (nomark _))))) (pe_one (pe_and (pe_cmpR op_eq (pv 9) pe_str (nomark _)) (pe_one (pe_cmpR op_eq (pv 6) pe_str (nomark _))))))) (pss_one (ps_ret (pe_tup (pa_cons (pe_op op_cat (pv 4) (pe_ifExp (pt_val (pv 5)) (pe_lst pa_nil) (C8.pe_c (cal_with T) hr (by decide) (by rfl) (pa_cons (pv 1) (pa_cons pe_str (pa_cons (pe_lst (pa_cons (pv 9) pa_nil)) pa_nil)))))) (pa_cons (pe_or (pv 3) (pe_one (pv 5))) pa_nil)))))))))))), spR_by _ <| by
      rintro ds d ⟨B, t, rfl, rfl⟩
      clear hr
      show Rn _ _ _ [_, _, _, _, _, _, _, _, _, _, _] _; refine (rn_seq (Γ1 := [_, _, _, _, _, _, _, _, _, _, _]) (rn_unp (is := [6, 7, 8, 9, 10]) (ev_var rfl) rfl rfl rfl) (rn_ifs (et_test (ev_as (ev_eqS (ev_var rfl) ev_str) (congrArg D.bl (nmPl_word _)))) (fun h1 => (rn_out (rn_ret (ev_as (ev_tup (ea_cons (ev_lst ea_nil) (ea_cons ev_bl ea_nil))) ?_)))) (fun h1 => (rn_nx (rn_seq (Γ1 := [_, _, _, _, _, _, _, _, _, _, _]) (rn_set (ev_callR rfl (ea_cons (ev_var rfl) (ea_cons (ev_var rfl) (ea_cons (ev_lit (l := [40]) (by decide +kernel)) ea_nil))) ⟨_, _, _, rfl, rfl⟩)) (rn_seq (Γ1 := [_, _, _, _, _, _, _, _, _, _, _]) (rn_set (ev_andV (ev_as (ev_eqS (ev_var rfl) ev_str) (congrArg D.bl (nmPl_in_ _))) (fun h2 => (ev_var rfl)))) (rn_seq (Γ1 := [_, _, _, _, _, _, _, _, _, _, _]) (rn_set (ev_ifLst (et_B (ev_var rfl)) (fun h3 => (ev_lst ea_nil)) (fun h3 => (ev_callR rfl (ea_cons (ev_var rfl) (ea_cons ev_str (ea_cons (ev_lst (ea_cons (ev_ifS (et_B (ev_var rfl)) (fun h4 => ev_str) (fun h4 => (ev_var rfl))) ea_nil)) ea_nil))) ⟨_, _, _, rfl, rfl, ?_, ?_⟩)))) (rn_ifs (et_and (et_test (ev_as (ev_eqS (ev_var rfl) ev_str) (congrArg D.bl (nmNe_closer _)))) (fun h5 => (et_test (ev_as (ev_neS (ev_ixT (ev_var rfl) ev_int rfl) ev_str) (congrArg (fun z => D.bl (!z)) (nmO_never _)))))) (fun h6 => (rn_out (rn_ret (ev_as (ev_tup (ea_cons (ev_cat (ev_var rfl) (ev_callR rfl (ea_cons (ev_var rfl) (ea_cons ev_str (ea_cons (ev_cat (ev_lst (ea_cons ev_str ea_nil)) (ev_callR rfl (ea_cons (ev_var rfl) ea_nil) ⟨_, rfl, rfl⟩) ?_) ea_nil))) ⟨_, _, _, rfl, rfl, ?_, ?_⟩) ?_) (ea_cons (ev_var rfl) ea_nil))) ?_)))) (fun h6 => (rn_nx (rn_seq (Γ1 := [_, _, _, _, _, _, _, _, _, _, _]) (rn_set (ev_orV (ev_andV (ev_as (ev_eqS (ev_var rfl) ev_str) (congrArg D.bl (nmNe_rest _))) (fun h7 => (ev_andV (ev_as (ev_eqS (ev_var rfl) ev_str) (congrArg D.bl (nmRe_closer _))) (fun h8 => (ev_as (ev_eqS (ev_ixT (ev_var rfl) ev_int rfl) ev_str) (congrArg D.bl (nmO_any _))))))) (fun h9 => (ev_andV (ev_as (ev_eqS (ev_var rfl) ev_str) (congrArg D.bl (nmNe_closer _))) (fun h10 => (ev_as (ev_eqS (ev_var rfl) ev_str) (congrArg D.bl (nmPl_out _)))))))) (rn_ret (ev_as (ev_tup (ea_cons (ev_cat (ev_var rfl) (ev_ifLst (et_B (ev_var rfl)) (fun h11 => (ev_lst ea_nil)) (fun h11 => (ev_callR rfl (ea_cons (ev_var rfl) (ea_cons ev_str (ea_cons (ev_lst (ea_cons (ev_var rfl) ea_nil)) ea_nil))) ⟨_, _, _, rfl, rfl, ?_, ?_⟩))) ?_) (ea_cons (ev_orV (ev_var rfl) (fun h12 => (ev_var rfl))) ea_nil))) ?_)))))))))))))
      all_goals first
        | exact rep_ok _ _ (by simp)
        | (simp only [fz_if, fzL, D.fz, fzL_app, fz_near, Bool.and_self, ite_self]; done)
        | (have hb := len_bared B
           refine small ?_
           simp only [List.length_cons, List.length_nil, List.length_append, List.length_map, len_withD, rep_if, if_len]
           repeat' split
           all_goals omega)
        | (have hb := len_bared B
           simp only [List.length_cons, List.length_nil, List.length_append, List.length_map, len_withD, rep_if, if_len]
           repeat' split
           all_goals omega)
        | (simp only [decide_eq_true_eq, decide_eq_false_iff_not, rep_if] at *
           simp [cameD, nearL, standL, standD, withD, KM.with_, KM.bracketC, wP_always, wP_free, wP_never, wQ_always, wQ_apart, wQ_never, wI_same, wI_none, wO_own, wO_any, wO_never, wB_own, wB_any, wB_one, wF_never, wF_line, wPl_out, wPl_in_, wPl_word, wCo_even, wCo_odd, wBe_letter, wBe_quote, wBe_other, wNe_closer, wNe_quote, wNe_rest, wRe_blank, wRe_closer, wRe_end_, wRe_quote, wRe_wall, *]
           try done
           try (repeat' split)
           all_goals simp_all [standD, wP_always, wP_free, wP_never, wQ_always, wQ_apart, wQ_never, wI_same, wI_none, wO_own, wO_any, wO_never, wB_own, wB_any, wB_one, wF_never, wF_line, wPl_out, wPl_in_, wPl_word, wCo_even, wCo_odd, wBe_letter, wBe_quote, wBe_other, wNe_closer, wNe_quote, wNe_rest, wRe_blank, wRe_closer, wRe_end_, wRe_quote, wRe_wall]
           all_goals first | rfl | (rename_i z; rcases z with z | z <;> simp_all))⟩
end
end KH

/-! part K2s -/
set_option Elab.async false
set_option linter.all false
set_option maxRecDepth 100000
set_option maxHeartbeats 4000000
namespace KH
open PySem PySem.Spec PyProof.Rows L2 KD
section
variable {P : Program} {w : World} {K : PySem.W.Frag} {mg : Str → Option Value} {base : Heap}
def sp_slips_come (K : PySem.W.Frag) : Sp := spR K fun ds d => ∃ B s, ds = [bookD B, standD s] ∧ d = cameD (KM.slipsC B s)
theorem sc_slips_come : FnScope ["_law_rules", "_law_stand", "_law_bad", "_law_found", "_law_place", "_law_count", "_law_before", "_law_near", "_law_rest", "_law_stay", "_law_low", "_law_quoted"] ["_law_rules", "_law_stand"] (defScope s_slips_come) := ⟨rfl, rfl, rfl, by decide +kernel, rfl, by decide +kernel, by decide +kernel⟩
theorem cal_slips_come (T : Tx K mg) : C8.Cal P w K mg base 2 "_law_slips_come" (sp_slips_come K) [] :=
  cal_of T.d_slips_come T.g_slips_come sc_slips_come (fun _ _ _ _ _ _ us hl => match us, hl with | [_, _], _ => rfl)
    (spR_len fun ds d ⟨_, _, e, _⟩ => by rw [e]; rfl) fun cdv A outer s H E hr => ⟨_, (pss_cons (ps_asg (pv 1) (pg_tup (n := 5) rfl (pgs_cons (pg_name (i := 4) sc_slips_come.nd rfl (Or.inl rfl)) (pgs_cons (pg_name (i := 5) sc_slips_come.nd rfl (Or.inl rfl)) (pgs_cons (pg_name (i := 6) sc_slips_come.nd rfl (Or.inl rfl)) (pgs_cons (pg_name (i := 7) sc_slips_come.nd rfl (Or.inl rfl)) (pgs_cons (pg_name (i := 8) sc_slips_come.nd rfl (Or.inl rfl)) pgs_nil))))))) (pss_cons (ps_par3 (i := 3) (j := 2) (l := 9) (by rfl) sc_slips_come.nd rfl rfl rfl (by decide) (by decide) (by decide) rfl rfl rfl (pa_cons (pe_lst pa_nil) (pa_cons (C8.pe_c (cal_forgets T) hr (by decide) (by rfl) (pa_cons (pv 0) (pa_cons (pv 1) pa_nil))) (pa_cons (pe_cmpR op_eq (pv 7) pe_str (nomark _)) pa_nil))) (by rfl)) (pss_cons (ps_par (i := 10) (j := 11) (by rfl) sc_slips_come.nd rfl rfl (by decide) rfl rfl (pa_cons (pe_and (pe_cmpR op_eq (pv 7) pe_str (nomark _)) (pe_one (pe_cmpR op_eq (pv 8) pe_str (nomark _)))) (pa_cons (pe_and (pe_cmpR op_eq (pv 7) pe_str (nomark _)) (pe_one (pe_cmpR op_eq (pv 8) pe_str (nomark _)))) pa_nil)) (by rfl)) (pss_cons (ps_if (pt_val (C8.pe_c (cal_puts T) hr (by decide) (by rfl) (pa_cons (pv 0) (pa_cons (pv 1) (pa_cons pe_str pa_nil))))) (pss_one (ps_set (i := 2) sc_slips_come.nd rfl (Or.inl rfl) (pe_or (pv 2) (pe_one (pe_cmpR op_eq (pe_ix ix_tup (pv 0) pe_int (fun _ _ => rfl)) pe_str (nomark _)))))) (pss_cons (ps_set (i := 2) sc_slips_come.nd rfl (Or.inl rfl) (pe_or (pv 2) (pe_one (pe_and (pv 10) (pe_one (pe_cmpR op_eq (pe_ix ix_tup (pv 0) pe_int (fun _ _ => rfl)) pe_str (nomark _))))))) (pss_one (ps_set (i := 3) sc_slips_come.nd rfl (Or.inl rfl) (pe_op op_cat (pv 3) (pe_ifExp (PW.pt (pw_and (pt_val (pv 9)) (pw_and1 (pt_cmpR op_ne (pe_ix ix_tup (pv 0) pe_int (fun _ _ => rfl)) pe_str (nomark _))))) (pe_op op_cat (pe_lst (pa_cons pe_str pa_nil)) (C8.pe_c (cal_bared T) hr (by decide) (by rfl) (pa_cons (pv 0) pa_nil))) (pe_lst pa_nil))))))) (pss_cons (ps_set (i := 2) sc_slips_come.nd rfl (Or.inl rfl) (pe_or (pv 2) (pe_one (pe_and (pv 10) (pe_one (pe_cmpR op_eq (pe_ix ix_tup (pv 0) pe_int (fun _ _ => rfl)) pe_str (nomark _))))))) (pss_cons (ps_set (i := 3) sc_slips_come.nd rfl (Or.inl rfl) (pe_op op_cat (pv 3) (pe_ifExp (PW.pt (pw_and (pt_val (pv 9)) (pw_and1 (pt_cmpR op_ne (pe_ix ix_tup (pv 0) pe_int (fun _ _ => rfl)) pe_str (nomark _))))) (pe_op op_cat (pe_lst (pa_cons pe_str pa_nil)) (C8.pe_c (cal_bared T) hr (by decide) (by rfl) (pa_cons (pv 0) pa_nil))) (pe_lst pa_nil)))) (pss_cons (ps_if (PW.pt (pw_and (pt_val (pv 11)) (pw_and1 (pt_cmpR op_eq (pe_ix ix_tup (pv 0) pe_int (fun _ _ => rfl)) pe_str (nomark _))))) (pss_one (ps_set (i := 2) sc_slips_come.nd rfl (Or.inl rfl) pe_bl)) (pss_one (ps_if (PW.pt (pw_and (pt_cmpR op_eq (pv 7) pe_str (nomark _)) (pw_and1 (pt_cmpR op_ne (pe_ix ix_tup (pv 0) pe_int (fun _ _ => rfl)) pe_str (nomark _))))) (pss_cons (ps_set (i := 3) sc_slips_come.nd rfl (Or.inl rfl) (pe_op op_cat (pv 3) (C8.pe_c (cal_bared T) hr (by decide) (by rfl) (pa_cons (pv 0) pa_nil)))) (pss_one (ps_set (i := 2) sc_slips_come.nd rfl (Or.inl rfl) (pe_or (pv 2) (pe_one (pe_and (pe_cmpR op_eq (pe_ix ix_tup (pv 0) pe_int (fun _ _ => rfl)) pe_str (nomark _)) (pe_one (pe_cmpR op_eq (pv 8) pe_str (nomark _))))))))) (pss_one (ps_if (pt_val (C8.pe_c (cal_puts T) hr (by decide) (by rfl) (pa_cons (pv 0) (pa_cons (pv 1) (pa_cons pe_str pa_nil))))) (pss_one (ps_set (i := 2) sc_slips_come.nd rfl (Or.inl rfl) (pe_or (pv 2) (pe_one (pe_cmpR op_eq (pe_ix ix_tup (pv 0) pe_int (fun _ _ => rfl)) pe_str (nomark _)))))) (pss_cons (ps_set (i := 2) sc_slips_come.nd rfl (Or.inl rfl) (pe_or (pv 2) (pe_one (pe_and (pv 11) (pe_one (pe_cmpR op_eq (pe_ix ix_tup (pv 0) pe_int (fun _ _ => rfl)) pe_str (nomark _))))))) (pss_one (ps_set (i := 3) sc_slips_come.nd rfl (Or.inl rfl) (pe_op op_cat (pv 3) (pe_ifExp (PW.pt (pw_and (pt_cmpR op_eq (pv 7) pe_str (nomark _)) (pw_and1 (pt_cmpR op_ne (pe_ix ix_tup (pv 0) pe_int (fun _ _ => rfl)) pe_str (nomark _))))) (C8.pe_c (cal_bared T) hr (by decide) (by rfl) (pa_cons (pv 0) pa_nil)) (pe_lst pa_nil))))))))))) (pss_one (ps_ret (pe_tup (pa_cons (C8.pe_c (cal_with T) hr (by decide) (by rfl) (pa_cons (pv 1) (pa_cons (pv 6) (pa_cons (pv 3) pa_nil)))) (pa_cons (pv 2) pa_nil)))))))))))), spR_by _ <| by
      rintro ds d ⟨B, t, rfl, rfl⟩
      clear hr
      show Rn _ _ _ [_, _, _, _, _, _, _, _, _, _, _, _] _; refine (rn_seq (Γ1 := [_, _, _, _, _, _, _, _, _, _, _, _]) (rn_unp (is := [4, 5, 6, 7, 8]) (ev_var rfl) rfl rfl rfl) (rn_seq (Γ1 := [_, _, _, _, _, _, _, _, _, _, _, _]) (rn_par3 (ea_cons (ev_lst ea_nil) (ea_cons (ev_callR rfl (ea_cons (ev_var rfl) (ea_cons (ev_var rfl) ea_nil)) ⟨_, _, rfl, rfl⟩) (ea_cons (ev_as (ev_eqS (ev_var rfl) ev_str) (congrArg D.bl (nmNe_closer _))) ea_nil)))) (rn_seq (Γ1 := [_, _, _, _, _, _, _, _, _, _, _, _]) (rn_par (ea_cons (ev_andV (ev_as (ev_eqS (ev_var rfl) ev_str) (congrArg D.bl (nmNe_rest _))) (fun h1 => (ev_as (ev_eqS (ev_var rfl) ev_str) (congrArg D.bl (nmRe_closer _))))) (ea_cons (ev_andV (ev_as (ev_eqS (ev_var rfl) ev_str) (congrArg D.bl (nmNe_rest _))) (fun h2 => (ev_as (ev_eqS (ev_var rfl) ev_str) (congrArg D.bl (nmRe_quote _))))) ea_nil))) (rn_seq (Γ1 := [_, _, _, _, _, _, _, _, _, _, _, _]) (rn_ifJ (i := 2) (j := 3) (et_B (ev_callR rfl (ea_cons (ev_var rfl) (ea_cons (ev_var rfl) (ea_cons (ev_lit (l := [40]) (by decide +kernel)) ea_nil))) ⟨_, _, _, rfl, rfl⟩)) (fun h3 => (rn_set (ev_orV (ev_var rfl) (fun h4 => (ev_as (ev_eqS (ev_ixT (ev_var rfl) ev_int rfl) ev_str) (congrArg D.bl (nmB_one _))))))) (fun h3 => (rn_seq (Γ1 := [_, _, _, _, _, _, _, _, _, _, _, _]) (rn_set (ev_orV (ev_var rfl) (fun h5 => (ev_andV (ev_var rfl) (fun h6 => (ev_as (ev_eqS (ev_ixT (ev_var rfl) ev_int rfl) ev_str) (congrArg D.bl (nmB_any _)))))))) (rn_set (ev_cat (ev_var rfl) (ev_ifLst (et_and (et_B (ev_var rfl)) (fun h7 => (et_test (ev_as (ev_neS (ev_ixT (ev_var rfl) ev_int rfl) ev_str) (congrArg (fun z => D.bl (!z)) (nmB_one _)))))) (fun h8 => (ev_cat (ev_lst (ea_cons ev_str ea_nil)) (ev_callR rfl (ea_cons (ev_var rfl) ea_nil) ⟨_, rfl, rfl⟩) ?_)) (fun h8 => (ev_lst ea_nil))) ?_)))) rfl rfl) (rn_seq (Γ1 := [_, _, _, _, _, _, _, _, _, _, _, _]) (rn_set (ev_orV (ev_var rfl) (fun h9 => (ev_andV (ev_var rfl) (fun h10 => (ev_as (ev_eqS (ev_ixT (ev_var rfl) ev_int rfl) ev_str) (congrArg D.bl (nmO_any _)))))))) (rn_seq (Γ1 := [_, _, _, _, _, _, _, _, _, _, _, _]) (rn_set (ev_cat (ev_var rfl) (ev_ifLst (et_and (et_B (ev_var rfl)) (fun h11 => (et_test (ev_as (ev_neS (ev_ixT (ev_var rfl) ev_int rfl) ev_str) (congrArg (fun z => D.bl (!z)) (nmO_never _)))))) (fun h12 => (ev_cat (ev_lst (ea_cons ev_str ea_nil)) (ev_callR rfl (ea_cons (ev_var rfl) ea_nil) ⟨_, rfl, rfl⟩) ?_)) (fun h12 => (ev_lst ea_nil))) ?_)) (rn_ifs (et_and (et_B (ev_var rfl)) (fun h13 => (et_test (ev_as (ev_eqS (ev_ixT (ev_var rfl) ev_int rfl) ev_str) (congrArg D.bl (nmO_any _)))))) (fun h14 => (rn_seq (Γ1 := [_, _, _, _, _, _, _, _, _, _, _, _]) (rn_set ev_bl) (rn_ret (ev_as (ev_tup (ea_cons (ev_callR rfl (ea_cons (ev_var rfl) (ea_cons (ev_var rfl) (ea_cons (ev_var rfl) ea_nil))) ⟨_, _, _, rfl, rfl, ?_, ?_⟩) (ea_cons (ev_var rfl) ea_nil))) ?_)))) (fun h14 => (rn_ifs (et_and (et_test (ev_as (ev_eqS (ev_var rfl) ev_str) (congrArg D.bl (nmNe_quote _)))) (fun h15 => (et_test (ev_as (ev_neS (ev_ixT (ev_var rfl) ev_int rfl) ev_str) (congrArg (fun z => D.bl (!z)) (nmO_never _)))))) (fun h16 => (rn_seq3 (rn_seq (Γ1 := [_, _, _, _, _, _, _, _, _, _, _, _]) (rn_set (ev_cat (ev_var rfl) (ev_callR rfl (ea_cons (ev_var rfl) ea_nil) ⟨_, rfl, rfl⟩) ?_)) (rn_seq (Γ1 := [_, _, _, _, _, _, _, _, _, _, _, _]) (rn_set (ev_orV (ev_var rfl) (fun h17 => (ev_andV (ev_as (ev_eqS (ev_ixT (ev_var rfl) ev_int rfl) ev_str) (congrArg D.bl (nmB_any _))) (fun h18 => (ev_as (ev_eqS (ev_var rfl) ev_str) (congrArg D.bl (nmRe_quote _)))))))) (rn_ret (ev_as (ev_tup (ea_cons (ev_callR rfl (ea_cons (ev_var rfl) (ea_cons (ev_var rfl) (ea_cons (ev_var rfl) ea_nil))) ⟨_, _, _, rfl, rfl, ?_, ?_⟩) (ea_cons (ev_var rfl) ea_nil))) ?_)))))) (fun h16 => (rn_ifs (et_B (ev_callR rfl (ea_cons (ev_var rfl) (ea_cons (ev_var rfl) (ea_cons (ev_lit (l := [39]) (by decide +kernel)) ea_nil))) ⟨_, _, _, rfl, rfl⟩)) (fun h19 => (rn_seq (Γ1 := [_, _, _, _, _, _, _, _, _, _, _, _]) (rn_set (ev_orV (ev_var rfl) (fun h20 => (ev_as (ev_eqS (ev_ixT (ev_var rfl) ev_int rfl) ev_str) (congrArg D.bl (nmB_one _)))))) (rn_ret (ev_as (ev_tup (ea_cons (ev_callR rfl (ea_cons (ev_var rfl) (ea_cons (ev_var rfl) (ea_cons (ev_var rfl) ea_nil))) ⟨_, _, _, rfl, rfl, ?_, ?_⟩) (ea_cons (ev_var rfl) ea_nil))) ?_)))) (fun h19 => (rn_seq3 (rn_seq (Γ1 := [_, _, _, _, _, _, _, _, _, _, _, _]) (rn_set (ev_orV (ev_var rfl) (fun h21 => (ev_andV (ev_var rfl) (fun h22 => (ev_as (ev_eqS (ev_ixT (ev_var rfl) ev_int rfl) ev_str) (congrArg D.bl (nmB_any _)))))))) (rn_seq (Γ1 := [_, _, _, _, _, _, _, _, _, _, _, _]) (rn_set (ev_cat (ev_var rfl) (ev_ifLst (et_and (et_test (ev_as (ev_eqS (ev_var rfl) ev_str) (congrArg D.bl (nmNe_quote _)))) (fun h23 => (et_test (ev_as (ev_neS (ev_ixT (ev_var rfl) ev_int rfl) ev_str) (congrArg (fun z => D.bl (!z)) (nmB_one _)))))) (fun h24 => (ev_callR rfl (ea_cons (ev_var rfl) ea_nil) ⟨_, rfl, rfl⟩)) (fun h24 => (ev_lst ea_nil))) ?_)) (rn_ret (ev_as (ev_tup (ea_cons (ev_callR rfl (ea_cons (ev_var rfl) (ea_cons (ev_var rfl) (ea_cons (ev_var rfl) ea_nil))) ⟨_, _, _, rfl, rfl, ?_, ?_⟩) (ea_cons (ev_var rfl) ea_nil))) ?_)))))))))))))))))
      all_goals first
        | exact rep_ok _ _ (by simp)
        | (simp only [fz_if, fzL, D.fz, fzL_app, fz_near, Bool.and_self, ite_self]; done)
        | (have hb := len_bared B
           refine small ?_
           simp only [List.length_cons, List.length_nil, List.length_append, List.length_map, len_withD, rep_if, if_len]
           repeat' split
           all_goals omega)
        | (have hb := len_bared B
           simp only [List.length_cons, List.length_nil, List.length_append, List.length_map, len_withD, rep_if, if_len]
           repeat' split
           all_goals omega)
        | (simp only [decide_eq_true_eq, decide_eq_false_iff_not, rep_if] at *
           simp [cameD, nearL, standL, standD, withD, KM.with_, KM.slipsC, wP_always, wP_free, wP_never, wQ_always, wQ_apart, wQ_never, wI_same, wI_none, wO_own, wO_any, wO_never, wB_own, wB_any, wB_one, wF_never, wF_line, wPl_out, wPl_in_, wPl_word, wCo_even, wCo_odd, wBe_letter, wBe_quote, wBe_other, wNe_closer, wNe_quote, wNe_rest, wRe_blank, wRe_closer, wRe_end_, wRe_quote, wRe_wall, *]
           try done
           try (repeat' split)
           all_goals simp_all [standD, wP_always, wP_free, wP_never, wQ_always, wQ_apart, wQ_never, wI_same, wI_none, wO_own, wO_any, wO_never, wB_own, wB_any, wB_one, wF_never, wF_line, wPl_out, wPl_in_, wPl_word, wCo_even, wCo_odd, wBe_letter, wBe_quote, wBe_other, wNe_closer, wNe_quote, wNe_rest, wRe_blank, wRe_closer, wRe_end_, wRe_quote, wRe_wall]
           all_goals first | rfl | (rename_i z; rcases z with z | z <;> simp_all))⟩
/-- a quote is typed -/
def sp_quote_come (K : PySem.W.Frag) : Sp := spR K fun ds d => ∃ B M s, ds = [bookD B, wayD M, standD s] ∧ d = cameD (KM.quoteC B M s)
theorem sc_quote_come : FnScope ["_law_rules", "_law_way", "_law_stand", "_law_swallows", "_law_word", "_law_place", "_law_count", "_law_before", "_law_near", "_law_rest", "_law_other", "_law_put", "_law_thing"] ["_law_rules", "_law_way", "_law_stand"] (defScope s_quote_come) := ⟨rfl, rfl, rfl, by decide +kernel, rfl, by decide +kernel, by decide +kernel⟩
theorem cal_quote_come (T : Tx K mg) : C8.Cal P w K mg base 2 "_law_quote_come" (sp_quote_come K) [] :=
  cal_of T.d_quote_come T.g_quote_come sc_quote_come (fun _ _ _ _ _ _ us hl => match us, hl with | [_, _, _], _ => rfl)
    (spR_len fun ds d ⟨_, _, _, e, _⟩ => by rw [e]; rfl) fun cdv A outer s H E hr => ⟨_, (pss_cons (ps_asg (pv 2) (pg_tup (n := 5) rfl (pgs_cons (pg_name (i := 5) sc_quote_come.nd rfl (Or.inl rfl)) (pgs_cons (pg_name (i := 6) sc_quote_come.nd rfl (Or.inl rfl)) (pgs_cons (pg_name (i := 7) sc_quote_come.nd rfl (Or.inl rfl)) (pgs_cons (pg_name (i := 8) sc_quote_come.nd rfl (Or.inl rfl)) (pgs_cons (pg_name (i := 9) sc_quote_come.nd rfl (Or.inr rfl)) pgs_nil))))))) (pss_cons (ps_if (pt_cmpR op_eq (pv 5) pe_str (nomark _)) (pss_one (ps_ret (pe_tup (pa_cons (pe_lst pa_nil) (pa_cons pe_bl pa_nil))))) pss_nil) (pss_cons (ps_asg (pe_tup (pa_cons (pe_dget (hu_of hr) (pe_disp (pps_cons pe_str pe_str (pps_cons pe_str pe_str pps_nil)) (by rfl) (by rfl) (fun z => by cases z) (by decide)) (pv 6) (fun _ _ => rfl)) (pa_cons (C8.pe_c (cal_puts T) hr (by decide) (by rfl) (pa_cons (pv 0) (pa_cons (pv 2) (pa_cons pe_str pa_nil)))) pa_nil))) (pg_tup (n := 2) rfl (pgs_cons (pg_name (i := 10) sc_quote_come.nd rfl (Or.inr rfl)) (pgs_cons (pg_name (i := 11) sc_quote_come.nd rfl (Or.inl rfl)) pgs_nil)))) (pss_cons (ps_set (i := 3) sc_quote_come.nd rfl (Or.inl rfl) (pe_and (pe_cmpR op_eq (pv 8) pe_str (nomark _)) (pe_and (pe_cmpR op_eq (pv 9) pe_str (nomark _)) (pe_one (pe_cmpR op_eq (pe_ix ix_tup (pv 0) pe_int (fun _ _ => rfl)) pe_str (nomark _)))))) (pss_cons (ps_if (PW.pt (pw_and (pt_cmpR op_eq (pv 5) pe_str (nomark _)) (pw_and1 (pt_cmpR op_eq (pv 8) pe_str (nomark _))))) (pss_cons (ps_if (pt_cmpR op_eq (pe_ix ix_tup (pv 0) pe_int (fun _ _ => rfl)) pe_str (nomark _)) (pss_one (ps_ret (pe_tup (pa_cons (pe_lst pa_nil) (pa_cons pe_bl pa_nil))))) pss_nil) (pss_one (ps_ret (pe_tup (pa_cons (pe_lc (own := [("_law_thing", 12)]) rfl sc_quote_come.nd (pi_list (C8.pe_c (cal_bared T) hr (by decide) (by rfl) (pa_cons (pv 0) pa_nil))) (blkOk_by (N := ["_law_rules", "_law_way", "_law_stand", "_law_swallows", "_law_word", "_law_place", "_law_count", "_law_before", "_law_near", "_law_rest", "_law_other", "_law_put", "_law_thing"]) (sc := defScope s_quote_come) (by decide +kernel)) (fun _ _ _ _ _ => (pg_name (i := 12) sc_quote_come.nd rfl (Or.inl rfl))) (fun _ _ _ _ _ => pts_nil) (fun _ _ _ _ _ => (pe_tup (pa_cons pe_str (pa_cons (pv 10) (pa_cons pe_str (pa_cons (pv 12) (pa_cons (pv 9) pa_nil)))))))) (pa_cons pe_bl pa_nil)))))) pss_nil) (pss_cons (ps_if (pt_cmpR op_eq (pv 5) pe_str (nomark _)) (pss_one (ps_ret (pe_ifExp (PW.pt (pw_or (pt_val (pv 3)) (pw_or1 (pt_val (pv 11))))) (pe_tup (pa_cons (pe_lst pa_nil) (pa_cons pe_bl pa_nil))) (pe_tup (pa_cons (pe_lst (pa_cons (pe_tup (pa_cons pe_str (pa_cons (pv 10) (pa_cons pe_str (pa_cons (pv 8) (pa_cons (pv 9) pa_nil)))))) pa_nil)) (pa_cons pe_bl pa_nil)))))) pss_nil) (pss_cons (ps_set (i := 4) sc_quote_come.nd rfl (Or.inl rfl) (pe_and (pe_ix ix_tup (pv 1) pe_int (fun _ _ => rfl)) (pe_one (pe_cmpR op_eq (pv 7) pe_str (nomark _))))) (pss_cons (ps_if (PW.pt (pw_or (pt_val (pv 3)) (pw_or1 (PW.pt (pw_and (pt_val (pv 4)) (pw_and1 (pt_val (pv 11)))))))) (pss_one (ps_ret (pe_tup (pa_cons (pe_lst pa_nil) (pa_cons pe_bl pa_nil))))) pss_nil) (pss_one (ps_ret (pe_tup (pa_cons (pe_lst (pa_cons (pe_tup (pa_cons (pe_ifExp (pt_val (pv 4)) pe_str pe_str) (pa_cons (pv 10) (pa_cons pe_str (pa_cons (pe_ifExp (pt_val (pv 11)) pe_str (pv 8)) (pa_cons (pv 9) pa_nil)))))) pa_nil)) (pa_cons pe_bl pa_nil))))))))))))), spR_by _ <| by
      rintro ds d ⟨B, M, t, rfl, rfl⟩
      clear hr
      have hb := len_bared B
      show Rn _ _ _ [_, _, _, _, _, _, _, _, _, _, _, _, _] _; refine (rn_seq (Γ1 := [_, _, _, _, _, _, _, _, _, _, _, _, _]) (rn_unp (is := [5, 6, 7, 8, 9]) (ev_var rfl) rfl rfl rfl) (rn_ifs (et_test (ev_as (ev_eqS (ev_var rfl) ev_str) (congrArg D.bl (nmPl_word _)))) (fun h1 => (rn_out (rn_ret (ev_as (ev_tup (ea_cons (ev_lst ea_nil) (ea_cons ev_bl ea_nil))) ?_)))) (fun h1 => (rn_nx (rn_seq (Γ1 := [_, _, _, _, _, _, _, _, _, _, _, _, _]) (rn_unp (is := [10, 11]) (ev_tup (ea_cons (ev_flip (ev_var rfl)) (ea_cons (ev_callR rfl (ea_cons (ev_var rfl) (ea_cons (ev_var rfl) (ea_cons (ev_lit (l := [39]) (by decide +kernel)) ea_nil))) ⟨_, _, _, rfl, rfl⟩) ea_nil))) rfl rfl rfl) (rn_seq (Γ1 := [_, _, _, _, _, _, _, _, _, _, _, _, _]) (rn_set (ev_andV (ev_as (ev_eqS (ev_var rfl) ev_str) (congrArg D.bl (nmNe_rest _))) (fun h2 => (ev_andV (ev_as (ev_eqS (ev_var rfl) ev_str) (congrArg D.bl (nmRe_quote _))) (fun h3 => (ev_as (ev_eqS (ev_ixT (ev_var rfl) ev_int rfl) ev_str) (congrArg D.bl (nmO_any _)))))))) (rn_ifs (et_and (et_test (ev_as (ev_eqS (ev_var rfl) ev_str) (congrArg D.bl (nmPl_in_ _)))) (fun h4 => (et_test (ev_as (ev_eqS (ev_var rfl) ev_str) (congrArg D.bl (nmNe_quote _)))))) (fun h5 => (rn_seq3 (rn_ifs (et_test (ev_as (ev_eqS (ev_ixT (ev_var rfl) ev_int rfl) ev_str) (congrArg D.bl (nmO_never _)))) (fun h6 => (rn_out (rn_ret (ev_as (ev_tup (ea_cons (ev_lst ea_nil) (ea_cons ev_bl ea_nil))) ?_)))) (fun h6 => (rn_nx (rn_out (rn_ret (ev_as (ev_tup (ea_cons (ev_lcN (KM.bared B) _ (fun n => standD ⟨.out, KM.flip t.count, .quote, n, t.rest⟩) (ev_callR rfl (ea_cons (ev_var rfl) ea_nil) ⟨_, rfl, rfl⟩) (tg_name 12) (by decide) (by omega) (fun _ _ => rfl) (fun c => ⟨trivial, ev_tup (ea_cons ev_str (ea_cons (ev_var rfl) (ea_cons ev_str (ea_cons (ev_var rfl) (ea_cons (ev_var rfl) ea_nil)))))⟩)) (ea_cons ev_bl ea_nil))) ?_)))))))) (fun h5 => (rn_nx (rn_ifs (et_test (ev_as (ev_eqS (ev_var rfl) ev_str) (congrArg D.bl (nmPl_in_ _)))) (fun h7 => (rn_out (rn_ret (ev_as (ev_if (et_or (et_B (ev_var rfl)) (fun h8 => (et_B (ev_var rfl)))) (fun h9 => (ev_tup (ea_cons (ev_lst ea_nil) (ea_cons ev_bl ea_nil)))) (fun h9 => (ev_tup (ea_cons (ev_lst (ea_cons (ev_tup (ea_cons ev_str (ea_cons (ev_var rfl) (ea_cons ev_str (ea_cons (ev_var rfl) (ea_cons (ev_var rfl) ea_nil)))))) ea_nil)) (ea_cons ev_bl ea_nil))))) ?_)))) (fun h7 => (rn_nx (rn_seq (Γ1 := [_, _, _, _, _, _, _, _, _, _, _, _, _]) (rn_set (ev_andV (ev_ixT (ev_var rfl) ev_int rfl) (fun h10 => (ev_as (ev_eqS (ev_var rfl) ev_str) (congrArg D.bl (nmBe_letter _)))))) (rn_ifs (et_or (et_B (ev_var rfl)) (fun h11 => (et_and (et_B (ev_var rfl)) (fun h12 => (et_B (ev_var rfl)))))) (fun h13 => (rn_out (rn_ret (ev_as (ev_tup (ea_cons (ev_lst ea_nil) (ea_cons ev_bl ea_nil))) ?_)))) (fun h13 => (rn_nx (rn_ret (ev_as (ev_tup (ea_cons (ev_lst (ea_cons (ev_tup (ea_cons (ev_ifS (et_B (ev_var rfl)) (fun h14 => ev_str) (fun h14 => ev_str)) (ea_cons (ev_var rfl) (ea_cons ev_str (ea_cons (ev_ifS (et_B (ev_var rfl)) (fun h15 => ev_str) (fun h15 => (ev_var rfl))) (ea_cons (ev_var rfl) ea_nil)))))) ea_nil)) (ea_cons ev_bl ea_nil))) ?_))))))))))))))))))
      all_goals first
        | exact rep_ok _ _ (by simp)
        | (simp only [fz_if, fzL, D.fz, fzL_app, fz_near, Bool.and_self, ite_self]; done)
        | (have hb := len_bared B
           refine small ?_
           simp only [List.length_cons, List.length_nil, List.length_append, List.length_map, len_withD, rep_if, if_len]
           repeat' split
           all_goals omega)
        | (have hb := len_bared B
           simp only [List.length_cons, List.length_nil, List.length_append, List.length_map, len_withD, rep_if, if_len]
           repeat' split
           all_goals omega)
        | (simp only [decide_eq_true_eq, decide_eq_false_iff_not, rep_if] at *
           simp [cameD, nearL, standL, standD, withD, KM.with_, KM.quoteC, wP_always, wP_free, wP_never, wQ_always, wQ_apart, wQ_never, wI_same, wI_none, wO_own, wO_any, wO_never, wB_own, wB_any, wB_one, wF_never, wF_line, wPl_out, wPl_in_, wPl_word, wCo_even, wCo_odd, wBe_letter, wBe_quote, wBe_other, wNe_closer, wNe_quote, wNe_rest, wRe_blank, wRe_closer, wRe_end_, wRe_quote, wRe_wall, *]
           try done
           try (repeat' split)
           all_goals simp_all [standD, wP_always, wP_free, wP_never, wQ_always, wQ_apart, wQ_never, wI_same, wI_none, wO_own, wO_any, wO_never, wB_own, wB_any, wB_one, wF_never, wF_line, wPl_out, wPl_in_, wPl_word, wCo_even, wCo_odd, wBe_letter, wBe_quote, wBe_other, wNe_closer, wNe_quote, wNe_rest, wRe_blank, wRe_closer, wRe_end_, wRe_quote, wRe_wall]
           all_goals first | rfl | (rename_i z; rcases z with z | z <;> simp_all))⟩
def sp_first (K : PySem.W.Frag) : Sp := spFr K fun ds l => ∃ M, ds = [wayD M] ∧ l = (KM.firsts M).map standD
theorem sc_first : FnScope ["_law_way", "_law_rest"] ["_law_way"] (defScope s_first) := ⟨rfl, rfl, rfl, by decide +kernel, rfl, by decide +kernel, by decide +kernel⟩
theorem cal_first (T : Tx K mg) : C8.Cal P w K mg base 1 "_law_first" (sp_first K) [] :=
  cal_of T.d_first T.g_first sc_first (fun _ _ _ _ _ _ us hl => match us, hl with | [_], _ => rfl)
    (spFr_len fun ds l ⟨_, e, _⟩ => by rw [e]; rfl) fun cdv A outer s H E hr => ⟨_, (pss_one (ps_ret (pe_lc (own := [("_law_rest", 1)]) rfl sc_first.nd (pi_list (pe_ifExp (pt_val (pe_ix ix_tup (pv 0) pe_int (fun _ _ => rfl))) (pe_lst (pa_cons pe_str (pa_cons pe_str (pa_cons pe_str (pa_cons pe_str (pa_cons pe_str pa_nil)))))) (pe_lst (pa_cons pe_str pa_nil)))) (blkOk_by (N := ["_law_way", "_law_rest"]) (sc := defScope s_first) (by decide +kernel)) (fun _ _ _ _ _ => (pg_name (i := 1) sc_first.nd rfl (Or.inl rfl))) (fun _ _ _ _ _ => pts_nil) (fun _ _ _ _ _ => (pe_tup (pa_cons pe_str (pa_cons pe_str (pa_cons pe_str (pa_cons pe_str (pa_cons (pv 1) pa_nil)))))))))), spFr_ret _ <| by
      rintro ds d ⟨M, rfl, rfl⟩
      clear hr
      show Ef _ _ _ [_, _] _
      have e1 : (KM.firsts M).map standD = (if M.later = true then [KM.RestW.blank, .closer, .end_, .quote, .wall] else [.end_]).map fun r => standD ⟨.out, .even, .other, .rest, r⟩ := by
        unfold KM.firsts
        rw [List.map_map]
        rfl
      rw [e1]
      refine ef_lcN (if M.later = true then [KM.RestW.blank, .closer, .end_, .quote, .wall] else [.end_]) (fun r => .str (nmRe r)) (fun r => standD ⟨.out, .even, .other, .rest, r⟩)
        (ev_as (ev_ifLst (et_B (ev_ixT (ev_var rfl) ev_int rfl)) (fun _ => ev_lst (ea_cons ev_str (ea_cons ev_str (ea_cons ev_str (ea_cons ev_str (ea_cons ev_str ea_nil)))))) (fun _ => ev_lst (ea_cons ev_str ea_nil))) ?_) (tg_name 1) (by decide) ?_ (fun _ _ => rfl) (fun c => ⟨trivial, ev_tup (ea_cons ev_str (ea_cons ev_str (ea_cons ev_str (ea_cons ev_str (ea_cons (ev_var rfl) ea_nil)))))⟩)
      · cases M.later <;> rfl
      · cases M.later <;> decide⟩
end
end KH

/-! part K2r -/
set_option Elab.async false
set_option linter.all false
set_option maxRecDepth 100000
set_option maxHeartbeats 4000000
namespace KH
open PySem PySem.Spec PyProof.Rows L2 KD
section
variable {P : Program} {w : World} {K : PySem.W.Frag} {mg : Str → Option Value} {base : Heap}
/-! the law's own reading -/
theorem tk1 (l : List Nat) (c : Nat) : decide (List.take (Int.toNat 1) l = [c]) = decide (l.head? = some c) := by
  cases l with
  | nil => rfl
  | cons a l => simp
theorem m_abc (c : Nat) : decide ([c].headD 0 ∈ [97, 98, 99, 100, 101, 102, 103, 104, 105, 106, 107, 108, 109, 110, 111, 112, 113, 114, 115, 116, 117, 118, 119, 120, 121, 122]) = KM.ltr c := abc c
theorem m_cls (c : Nat) : decide ([c].headD 0 ∈ [41, 93]) = KM.cls c := by simp [KM.cls, beq_dec]
theorem m_opn (c : Nat) : decide ([c].headD 0 ∈ [40, 91]) = KM.opn c := by simp [KM.opn, beq_dec]
theorem m_eq (a b : Nat) : decide ([a] = [b]) = decide (a = b) := by simp
theorem d_1 (l : List Nat) : l.drop (Int.toNat 1) = l.tail := by cases l <;> rfl
theorem opt1 {o : Option Nat} (h : (!decide (o.toList = [])) = true) : o.toList.length = 1 := by cases o <;> simp_all
theorem opn_or {c : Nat} (h : decide ([c].headD 0 ∈ [40, 91]) = true) : [c] = [40] ∨ [c] = [91] := by simpa using h
theorem m_bef (o : Option Nat) : (!decide (o.toList = []) && decide (o.toList.headD 0 ∈ [97, 98, 99, 100, 101, 102, 103, 104, 105, 106, 107, 108, 109, 110, 111, 112, 113, 114, 115, 116, 117, 118, 119, 120, 121, 122])) = (o.map KM.ltr).getD false := by
  cases o with
  | none => rfl
  | some c => exact abc c
def rdD (r : KM.Rd) : D := .tup [.str (S r.needs), .str (S r.before.toList), .bl r.opn]
def sp_can (K : PySem.W.Frag) : Sp := spR K fun ds d => ∃ (r : KM.Rd) (b : Bool) (c : Nat), ds = [.str (S r.needs), .str (S r.before.toList), .bl r.opn, .bl b, .str (S [c])] ∧ d = .bl (r.can c) ∧ r.needs.length ≤ 1000
theorem sc_can : FnScope ["_law_needs_so", "_law_before", "_law_open_so", "_law_words", "_law_sign"] ["_law_needs_so", "_law_before", "_law_open_so", "_law_words", "_law_sign"] (defScope s_can) := ⟨rfl, rfl, rfl, by decide +kernel, rfl, by decide +kernel, by decide +kernel⟩
theorem cal_can (T : Tx K mg) : C8.Cal P w K mg base 1 "_law_can" (sp_can K) [] :=
  cal_of T.d_can T.g_can sc_can (fun _ _ _ _ _ _ us hl => match us, hl with | [_, _, _, _, _], _ => rfl)
    (spR_len fun ds d ⟨_, _, _, e, _⟩ => by rw [e]; rfl) fun cdv A outer s H E hr => ⟨_, (pss_cons (ps_if (pt_cmpR op_eq (pe_slice C8.sl_txt (pv 0) po_none (po_some pe_int)) pe_str (nomark _)) (pss_one (ps_ret (pe_cmpR op_ne (pv 4) pe_str (nomark _)))) pss_nil) (pss_cons (ps_if (pt_val (pv 2)) (pss_one (ps_ret (pe_cmpR op_in_sign (pv 4) pe_str (by rfl)))) pss_nil) (pss_one (ps_ret (pe_or (pe_cmpR op_notIn_sign (pv 4) pe_str (by rfl)) (pe_one (pe_cmpR op_eq (pe_slice C8.sl_txt (pv 0) po_none (po_some pe_int)) (pv 4) (nomark _)))))))), spR_by _ <| by
      rintro ds d ⟨r, b, c, rfl, rfl, hl⟩
      clear hr
      show Rn _ _ _ [_, _, _, _, _] _; refine (rn_ifs (et_test (ev_eqL (ev_slTo (ev_var rfl) ev_int ?_ ?_) (ev_lit (l := [39]) (by decide +kernel)))) (fun h1 => (rn_out (rn_ret (ev_as (ev_neL (ev_var rfl) (ev_lit (l := [47]) (by decide +kernel))) ?_)))) (fun h1 => (rn_nx (rn_ifs (et_B (ev_var rfl)) (fun h2 => (rn_out (rn_ret (ev_as (ev_inL (ev_var rfl) (ev_lit (l := [97, 98, 99, 100, 101, 102, 103, 104, 105, 106, 107, 108, 109, 110, 111, 112, 113, 114, 115, 116, 117, 118, 119, 120, 121, 122]) (by decide +kernel)) ?_) ?_)))) (fun h2 => (rn_nx (rn_ret (ev_as (ev_orV (ev_notinL (ev_var rfl) (ev_lit (l := [41, 93]) (by decide +kernel)) ?_) (fun h3 => (ev_eqL (ev_slTo (ev_var rfl) ev_int ?_ ?_) (ev_var rfl)))) ?_))))))))
      all_goals first
        | omega
        | decide
        | rfl
        | (refine congrArg D.bl ?_
           simp only [tk1, m_abc, m_cls, m_eq] at *
           simp_all [KM.Rd.can, KM.Rd.quoted])⟩
def sp_read (K : PySem.W.Frag) : Sp := spR K fun ds d => ∃ (r : KM.Rd) (b : Bool) (c : Nat), ds = [rdD r, .bl b, .str (S [c])] ∧ d = rdD (r.read b c) ∧ r.needs.length ≤ 1000
theorem sc_read : FnScope ["_law_state", "_law_words", "_law_sign", "_law_letter", "_law_needs_so", "_law_before", "_law_open_so"] ["_law_state", "_law_words", "_law_sign"] (defScope s_read) := ⟨rfl, rfl, rfl, by decide +kernel, rfl, by decide +kernel, by decide +kernel⟩
theorem cal_read (T : Tx K mg) : C8.Cal P w K mg base 1 "_law_read" (sp_read K) [] :=
  cal_of T.d_read T.g_read sc_read (fun _ _ _ _ _ _ us hl => match us, hl with | [_, _, _], _ => rfl)
    (spR_len fun ds d ⟨_, _, _, e, _⟩ => by rw [e]; rfl) fun cdv A outer s H E hr => ⟨_, (pss_cons (ps_asg (pv 0) (pg_tup (n := 3) rfl (pgs_cons (pg_name (i := 4) sc_read.nd rfl (Or.inl rfl)) (pgs_cons (pg_name (i := 5) sc_read.nd rfl (Or.inl rfl)) (pgs_cons (pg_name (i := 6) sc_read.nd rfl (Or.inl rfl)) pgs_nil))))) (pss_cons (ps_set (i := 3) sc_read.nd rfl (Or.inl rfl) (pe_and (pe_cmpR op_ne (pv 5) pe_str (nomark _)) (pe_one (pe_cmpR op_in_sign (pv 5) pe_str (by rfl))))) (pss_cons (ps_if (pt_cmpR op_eq (pe_slice C8.sl_txt (pv 4) po_none (po_some pe_int)) pe_str (nomark _)) (pss_one (ps_ret (pe_tup (pa_cons (pe_ifExp (pt_cmpR op_eq (pv 2) pe_str (nomark _)) (pe_slice C8.sl_txt (pv 4) (po_some pe_int) po_none) (pv 4)) (pa_cons (pv 2) (pa_cons pe_bl pa_nil)))))) pss_nil) (pss_cons (ps_if (PW.pt (pw_and (pt_cmpR op_eq (pv 2) pe_str (nomark _)) (pw_and (pt_val (pv 1)) (pw_and1 (pt_val (pv 3)))))) (pss_one (ps_ret (pe_tup (pa_cons (pv 4) (pa_cons (pv 2) (pa_cons pe_bl pa_nil)))))) pss_nil) (pss_cons (ps_if (pt_cmpR op_in_sign (pv 2) pe_str (by rfl)) (pss_one (ps_ret (pe_tup (pa_cons (pe_op op_add_str (pe_ix ix_str pe_str (pe_m1 PySem.F.slot_str_index PySem.F.type_str_index mt_sindex pe_str (pv 2)) (fun _ _ => rfl)) (pv 4)) (pa_cons (pv 2) (pa_cons pe_bl pa_nil)))))) pss_nil) (pss_cons (ps_if (pt_cmpR op_eq (pv 2) pe_str (nomark _)) (pss_one (ps_ret (pe_tup (pa_cons (pe_op op_add_str pe_str (pv 4)) (pa_cons (pv 2) (pa_cons pe_bl pa_nil)))))) pss_nil) (pss_one (ps_ret (pe_tup (pa_cons (pe_ifExp (pt_cmpR op_in_sign (pv 2) pe_str (by rfl)) (pe_slice C8.sl_txt (pv 4) (po_some pe_int) po_none) (pv 4)) (pa_cons (pv 2) (pa_cons pe_bl pa_nil)))))))))))), spR_by _ <| by
      rintro ds d ⟨r, b, c, rfl, rfl, hl⟩
      clear hr
      show Rn _ _ _ [_, _, _, _, _, _, _] _; refine (rn_seq (Γ1 := [_, _, _, _, _, _, _]) (rn_unp (is := [4, 5, 6]) (ev_var rfl) rfl rfl rfl) (rn_seq (Γ1 := [_, _, _, _, _, _, _]) (rn_set (ev_andV (ev_neL (ev_var rfl) (ev_lit (l := []) (by decide +kernel))) (fun h1 => (ev_inL (ev_var rfl) (ev_lit (l := [97, 98, 99, 100, 101, 102, 103, 104, 105, 106, 107, 108, 109, 110, 111, 112, 113, 114, 115, 116, 117, 118, 119, 120, 121, 122]) (by decide +kernel)) ?_)))) (rn_ifs (et_test (ev_eqL (ev_slTo (ev_var rfl) ev_int ?_ ?_) (ev_lit (l := [39]) (by decide +kernel)))) (fun h2 => (rn_out (rn_ret (ev_as (ev_tup (ea_cons (ev_ifL (et_test (ev_eqL (ev_var rfl) (ev_lit (l := [39]) (by decide +kernel)))) (fun h3 => (ev_slFrom (ev_var rfl) ev_int ?_ ?_)) (fun h3 => (ev_var rfl))) (ea_cons (ev_var rfl) (ea_cons ev_bl ea_nil)))) ?_)))) (fun h2 => (rn_nx (rn_ifs (et_and (et_test (ev_eqL (ev_var rfl) (ev_lit (l := [39]) (by decide +kernel)))) (fun h4 => (et_and (et_B (ev_var rfl)) (fun h5 => (et_B (ev_var rfl)))))) (fun h6 => (rn_out (rn_ret (ev_as (ev_tup (ea_cons (ev_var rfl) (ea_cons (ev_var rfl) (ea_cons ev_bl ea_nil)))) ?_)))) (fun h6 => (rn_nx (rn_ifs (et_test (ev_inL (ev_var rfl) (ev_lit (l := [40, 91]) (by decide +kernel)) ?_)) (fun h7 => (rn_out (rn_ret (ev_as (ev_tup (ea_cons (ev_addL (ev_ixS1 (ev_lit (l := [41, 93]) (by decide +kernel)) (ev_idxO (ev_lit (l := [40, 91]) (by decide +kernel)) (ev_var rfl) ?_) ?_ ?_) (ev_var rfl) ?_) (ea_cons (ev_var rfl) (ea_cons ev_bl ea_nil)))) ?_)))) (fun h7 => (rn_nx (rn_ifs (et_test (ev_eqL (ev_var rfl) (ev_lit (l := [39]) (by decide +kernel)))) (fun h8 => (rn_out (rn_ret (ev_as (ev_tup (ea_cons (ev_addL (ev_lit (l := [39]) (by decide +kernel)) (ev_var rfl) ?_) (ea_cons (ev_var rfl) (ea_cons ev_bl ea_nil)))) ?_)))) (fun h8 => (rn_nx (rn_ret (ev_as (ev_tup (ea_cons (ev_ifL (et_test (ev_inL (ev_var rfl) (ev_lit (l := [41, 93]) (by decide +kernel)) ?_)) (fun h9 => (ev_slFrom (ev_var rfl) ev_int ?_ ?_)) (fun h9 => (ev_var rfl))) (ea_cons (ev_var rfl) (ea_cons ev_bl ea_nil)))) ?_))))))))))))))))
      all_goals first
        | omega
        | decide
        | rfl
        | exact opt1 h1
        | exact opn_or h7
        | (show _ + _ ≤ _; simp only [List.length_cons, List.length_nil]; omega)
        | (rcases opn_or h7 with e | e <;> rw [e] <;> decide)
        | (rcases r with ⟨needs, before, opn⟩
           simp only [m_bef, tk1, m_cls, m_opn, m_eq, d_1, KM.Rd.read, KM.Rd.quoted, rdD] at *
           simp_all [KM.clo, KM.opn, KM.cls] <;> first | (rcases h7 with e | e <;> subst e <;> simp_all) | (cases b <;> simp_all))⟩
end
end KH

/-! part KQ -/
set_option Elab.async false
set_option linter.all false
set_option maxRecDepth 100000
set_option maxHeartbeats 4000000
/-! data compared -/
namespace KD
open PySem PySem.Spec PyProof.Rows L2
mutual
def D.py : D → PyData
  | .non => .none
  | .bl b => .bool b
  | .int i => .int i
  | .str x => .str x
  | .ty _ => .none
  | .adr _ => .none
  | .tup l => .tuple (pyL l)
  | .kt l => .tuple (pyL l)
  | .lst l => .list (pyL l)
def pyL : List D → List PyData
  | [] => []
  | d :: l => d.py :: pyL l
end
mutual
def D.pok : D → Bool
  | .str x => PyData.strOk x
  | .ty _ => false
  | .adr _ => false
  | .tup l => pokL l
  | .kt l => pokL l
  | .lst l => pokL l
  | _ => true
def pokL : List D → Bool
  | [] => true
  | d :: l => d.pok && pokL l
end
mutual
def D.dep : D → Nat
  | .tup l => depL l + 1
  | .kt l => depL l + 1
  | .lst l => depL l + 1
  | _ => 0
def depL : List D → Nat
  | [] => 0
  | d :: l => max d.dep (depL l)
end
theorem pokL_mem : ∀ {l : List D}, (∀ d ∈ l, d.pok = true) → pokL l = true
  | [], _ => rfl
  | d :: l, h => Bool.and_eq_true_iff.mpr ⟨h d List.mem_cons_self, pokL_mem fun c hc => h c (List.mem_cons_of_mem _ hc)⟩
theorem depL_le {k : Nat} : ∀ {l : List D}, (∀ d ∈ l, d.dep ≤ k) → depL l ≤ k
  | [], _ => Nat.zero_le _
  | d :: l, h => Nat.max_le.mpr ⟨h d List.mem_cons_self, depL_le fun c hc => h c (List.mem_cons_of_mem _ hc)⟩
mutual
theorem dep_py : ∀ d : D, d.py.depth = d.dep
  | .non => by simp [D.py, D.dep, PyData.depth]
  | .bl _ => by simp [D.py, D.dep, PyData.depth]
  | .int _ => by simp [D.py, D.dep, PyData.depth]
  | .str _ => by simp [D.py, D.dep, PyData.depth]
  | .ty _ => by simp [D.py, D.dep, PyData.depth]
  | .adr _ => by simp [D.py, D.dep, PyData.depth]
  | .tup l => by simp [D.py, D.dep, PyData.depth, depL_py l]
  | .kt l => by simp [D.py, D.dep, PyData.depth, depL_py l]
  | .lst l => by simp [D.py, D.dep, PyData.depth, depL_py l]
theorem depL_py : ∀ l : List D, PyData.depthAll (pyL l) = depL l
  | [] => by simp [pyL, depL, PyData.depthAll]
  | d :: l => by simp [pyL, depL, PyData.depthAll, dep_py d, depL_py l]
end
mutual
theorem lay_py : ∀ d : D, d.pok = true → d.py.canLay0 = true
  | .non, _ => by simp [D.py, PyData.canLay0]
  | .bl _, _ => by simp [D.py, PyData.canLay0]
  | .int _, _ => by simp [D.py, PyData.canLay0]
  | .str x, h => by
    have h' : PyData.strOk x = true := h
    simpa [D.py, PyData.canLay0] using h'
  | .ty _, h => by cases h
  | .adr _, h => by cases h
  | .tup l, h => by simpa [D.py, PyData.canLay0] using layL_py l h
  | .kt l, h => by simpa [D.py, PyData.canLay0] using layL_py l h
  | .lst l, h => by simpa [D.py, PyData.canLay0] using layL_py l h
theorem layL_py : ∀ l : List D, pokL l = true → PyData.canLayAll0 (pyL l) = true
  | [], _ => by simp [pyL, PyData.canLayAll0]
  | d :: l, h => by
    have h' := Bool.and_eq_true_iff.mp h
    simp [pyL, PyData.canLayAll0, lay_py d h'.1, layL_py l h'.2]
end
theorem shaped_py {d : D} (h : d.pok = true) (hd : d.dep ≤ 64) : SeqAt.shaped d.py = true := by
  unfold SeqAt.shaped
  rw [lay_py d h, dep_py d, decide_eq_true hd]
  rfl
section
variable {K : PySem.W.Frag} {H : Hp}
mutual
theorem dp_py : ∀ (d : D) (v : V), d.pok = true → Dt K H d v → Dp K H v d.py
  | .non, _, _, h => by rw [show _ = V.non from h]; exact .non
  | .bl b, _, _, h => by rw [show _ = V.bl b from h]; exact .bl b
  | .int i, _, _, h => by rw [show _ = V.int i from h]; exact .int i
  | .str x, _, _, h => by rw [show _ = V.str x from h]; exact .str x
  | .ty _, _, q, _ => by cases q
  | .adr _, _, q, _ => by cases q
  | .tup l, _, q, h => by
    obtain ⟨a, xs, e, h1, h2⟩ := h
    rw [e]
    exact .tup (SqT.of h1) (dpL_py l xs q h2)
  | .kt l, _, q, h => by
    obtain ⟨a, xs, e, h1, h2⟩ := h
    rw [e]
    exact .tup h1 (dpL_py l xs q h2)
  | .lst l, _, q, h => by
    obtain ⟨a, xs, e, h1, h2⟩ := h
    rw [e]
    exact .lst (SqL.of h1) (dpL_py l xs q h2)
theorem dpL_py : ∀ (l : List D) (xs : List V), pokL l = true → DtL K H l xs → DpAll K H xs (pyL l)
  | [], _, _, h => by rw [show _ = [] from h]; exact .nil
  | d :: l, _, q, h => by
    obtain ⟨v, r, e, h1, h2⟩ := h
    have q' := Bool.and_eq_true_iff.mp q
    rw [e]
    exact .cons (dp_py d v q'.1 h1) (dpL_py l r q'.2 h2)
end
end
section
variable {K : PySem.W.Frag} {A : Hy} {Γ : Ga} {ta tb : TE} {x y : D}
theorem ev_eqDD (ha : Ev K A ta Γ x) (hb : Ev K A tb Γ y) (hx : x.pok = true ∧ x.dep ≤ 64) (hy : y.pok = true ∧ y.dep ≤ 64) : Ev K A (tOp (rEqD K) ta tb) Γ (.bl (PyData.eqv x.py y.py)) :=
  ev_op ha hb fun H v u _ e1 e2 Q q => ⟨x.py, y.py, dp_py x v hx.1 e1, dp_py y u hy.1 e2, shaped_py hx.1 hx.2, shaped_py hy.1 hy.2, q _ H (Same.refl H) rfl⟩
theorem ev_neDD (ha : Ev K A ta Γ x) (hb : Ev K A tb Γ y) (hx : x.pok = true ∧ x.dep ≤ 64) (hy : y.pok = true ∧ y.dep ≤ 64) : Ev K A (tOp (rNeD K) ta tb) Γ (.bl (!PyData.eqv x.py y.py)) :=
  ev_op ha hb fun H v u _ e1 e2 Q q => ⟨x.py, y.py, dp_py x v hx.1 e1, dp_py y u hy.1 e2, shaped_py hx.1 hx.2, shaped_py hy.1 hy.2, q _ H (Same.refl H) rfl⟩
theorem eqv_nil (l : List D) : PyData.eqv (D.lst l).py (D.lst []).py = l.isEmpty := by
  cases l <;> simp [D.py, pyL, PyData.eqv, PyData.eqvAll]
/-- a list is empty or not -/
theorem ev_neNil {l : List D} (ha : Ev K A ta Γ (.lst l)) (hb : Ev K A tb Γ (.lst [])) (hx : pokL l = true ∧ depL l ≤ 63) : Ev K A (tOp (rNeD K) ta tb) Γ (.bl (!l.isEmpty)) :=
  ev_as (ev_neDD ha hb ⟨hx.1, Nat.succ_le_succ hx.2⟩ ⟨rfl, by decide⟩) (by rw [eqv_nil])
theorem eqv_str (a b : Str) : PyData.eqv (.str a) (.str b) = decide (a = b) := by
  simp only [PyData.eqv]
  by_cases h : a = b
  · rw [h]; simp
  · rw [decide_eq_false h]; simpa using h
/-- a tuple of texts is one text alone -/
theorem eqv_one (l : List Str) (s : Str) : PyData.eqv (D.tup (l.map .str)).py (D.tup [.str s]).py = decide (l = [s]) := by
  match l with
  | [] => simp [D.py, pyL, PyData.eqv, PyData.eqvAll]
  | [a] =>
    simp only [D.py, pyL, PyData.eqv, PyData.eqvAll, List.map_cons, List.map_nil, Bool.and_true]
    have := eqv_str a s
    simp only [PyData.eqv] at this
    rw [this]
    simp
  | a :: b :: r => simp [D.py, pyL, PyData.eqv, PyData.eqvAll]
end
end KD
namespace KH
open PySem PySem.Spec PyProof.Rows L2
/-- not in a tuple -/
def rNotInTD (K : PySem.W.Frag) : R2 := fun x y H Q => ∃ d ds, Dp K H x d ∧ Dp K H y (.tuple ds) ∧ SeqAt.shaped d = true ∧ SeqAt.shaped (.tuple ds) = true ∧ Q (.bl (!ds.any fun z => PyData.eqv z d)) H
theorem op_notInTD {X : Cx} (hu : X.A.units + 65 < cLine) : OpR X (compareOp .NotIn) (rNotInTD X.K) := by
  intro pins s σ H x y v u Q I rx ry ⟨d, ds, dpx, dpy, shx, shy, q⟩
  obtain ⟨as, readx⟩ := Dp.reads I d x v dpx rx
  obtain ⟨bs, ready⟩ := Dp.reads I (.tuple ds) y u dpy ry
  refine SeqAt.notIn_tuple_reads ready readx (SeqAt.canLay_of_shaped shy) (SeqAt.canLay_of_shaped shx) ?_ ⟨.bl _, H, I, rfl, q⟩
  have := SeqAt.depth_of_shaped shx
  have : min (PyData.depthAll ds) d.depth ≤ d.depth := Nat.min_le_right _ _
  omega
end KH

/-! part KG -/
set_option Elab.async false
set_option linter.all false
set_option maxRecDepth 100000
set_option maxHeartbeats 4000000
/-! rows of keys, while loops that change nothing -/
namespace KD
open PySem PySem.Spec PyProof.Rows L2
def kD (n : Nat) : D := .str (KH.keyS n)
def keysD (ks : List Nat) : D := .tup (ks.map kD)
theorem fz_keys : ∀ ks : List Nat, fzL (ks.map kD) = true
  | [] => rfl
  | _ :: ks => fz_keys ks
theorem keyS_sgn {n : Nat} (h : n ≠ 0) : KH.keyS n = S [n] := if_neg h
theorem keyS_eq (n : Nat) (hn : n < 1114112) : decide (KH.keyS n = S [98, 97, 99, 107]) = decide (n = 0) := by
  by_cases h : n = 0
  · rw [h]; rfl
  · rw [keyS_sgn h, decide_eq_false h]
    refine decide_eq_false fun z => ?_
    have := SX.S_inj z
    simp at this
theorem strOk_key {n : Nat} (hn : n < 1114112) : PyData.strOk (KH.keyS n) = true := by
  by_cases h : n = 0
  · rw [h]; decide +kernel
  · rw [keyS_sgn h]
    show (#[n] : Array Nat).all (· < 0x110000) = true
    simp [hn]
theorem pok_keys {ks : List Nat} (h : ∀ n ∈ ks, n < 1114112) : pokL (ks.map kD) = true := pokL_mem fun d hd => by
  obtain ⟨n, h1, h2⟩ := List.mem_map.mp hd
  rw [← h2]
  exact strOk_key (h n h1)
theorem dep_keys (ks : List Nat) : depL (ks.map kD) ≤ 0 := depL_le fun d hd => by
  obtain ⟨n, h1, h2⟩ := List.mem_map.mp hd
  rw [← h2]
  exact Nat.le_refl _
theorem cut_nat {α : Type} (l : List α) (a b : Nat) : (l.drop (HT.sIx l.length 0 (some (a : Int)))).take (HT.sIx l.length l.length (some (b : Int)) - HT.sIx l.length 0 (some (a : Int))) = (l.drop a).take (b - a) := by
  rw [HT.sIx_nat, HT.sIx_nat]
  by_cases ha : a ≤ l.length
  · rw [show min a l.length = a from Nat.min_eq_left ha]
    by_cases hb : b ≤ l.length
    · rw [show min b l.length = b from Nat.min_eq_left hb]
    · rw [show min b l.length = l.length from Nat.min_eq_right (by omega), List.take_of_length_le (by rw [List.length_drop]; omega), List.take_of_length_le (by rw [List.length_drop]; omega)]
  · rw [show min a l.length = l.length from Nat.min_eq_right (by omega), List.drop_of_length_le (Nat.le_refl _), List.drop_of_length_le (by omega), List.take_nil, List.take_nil]
theorem cut_one (ks : List Nat) (a : Nat) : cutD (ks.map kD) (some (a : Int)) (some ((a : Int) + 1)) = (ks[a]?).toList.map kD := by
  have e : cutD (ks.map kD) (some (a : Int)) (some ((a : Int) + 1)) = ((ks.map kD).drop a).take (a + 1 - a) := cut_nat (ks.map kD) a (a + 1)
  rw [e, Nat.add_sub_cancel_left, ← List.map_drop, ← List.map_take]
  congr 1
  by_cases h : a < ks.length
  · rw [List.drop_eq_getElem_cons h, List.getElem?_eq_getElem h]; rfl
  · rw [List.drop_of_length_le (by omega), List.getElem?_eq_none (by omega)]; rfl
theorem cut_to (ks : List Nat) (b : Nat) : cutD (ks.map kD) none (some (b : Int)) = (ks.take b).map kD := by
  have e := cut_nat (ks.map kD) 0 b
  rw [List.drop_zero, Nat.sub_zero] at e
  show (List.drop 0 (ks.map kD)).take (HT.sIx _ _ (some (b : Int)) - 0) = _
  have e0 : HT.sIx (ks.map kD).length 0 (some ((0 : Nat) : Int)) = 0 := by rw [HT.sIx_nat]; exact Nat.zero_min _
  rw [e0] at e
  rw [e, List.map_take]
theorem eqv_back {ks : List Nat} (hk : ∀ n ∈ ks, n < 1114112) (a : Nat) : PyData.eqv (D.tup (cutD (ks.map kD) (some (a : Int)) (some ((a : Int) + 1)))).py (D.tup [.str (S [98, 97, 99, 107])]).py = decide (ks[a]? = some 0) := by
  rw [cut_one]
  have e := eqv_one ((ks[a]?).toList.map KH.keyS) (S [98, 97, 99, 107])
  rw [List.map_map] at e
  rw [show (D.str ∘ KH.keyS) = kD from rfl] at e
  rw [e]
  cases h : ks[a]? with
  | none => rfl
  | some n =>
    have e2 := keyS_eq n (hk n (List.mem_of_getElem? h))
    show decide ([KH.keyS n] = [S [98, 97, 99, 107]]) = decide (some n = some 0)
    rw [show decide ([KH.keyS n] = [S [98, 97, 99, 107]]) = decide (KH.keyS n = S [98, 97, 99, 107]) by simp, e2]
    simp
section
variable {K : PySem.W.Frag} {A : Hy} {Γ : Ga} {ta tb t0 : TE} {tl th : TO} {i j : Int} {a : Nat} {s : Str} {ks : List Nat}
theorem pok_cut (hk : ∀ n ∈ ks, n < 1114112) : pokL (cutD (ks.map kD) (some (a : Int)) (some ((a : Int) + 1))) = true ∧ depL (cutD (ks.map kD) (some (a : Int)) (some ((a : Int) + 1))) ≤ 0 := by
  rw [cut_one]
  refine ⟨pok_keys fun n hn => ?_, dep_keys _⟩
  cases h : ks[a]? with
  | none => rw [h] at hn; cases hn
  | some m =>
    rw [h] at hn
    have : n = m := by simpa using hn
    rw [this]
    exact hk m (List.mem_of_getElem? h)
/-- keys[i:i + 1] == ("back",) -/
theorem ev_isBack (h1 : Ev K A t0 Γ (keysD ks)) (hl : Eo K A tl Γ (some i)) (hh : Eo K A th Γ (some j)) (hb : Ev K A tb Γ (.tup [.str s])) (hs : s = S [98, 97, 99, 107]) (hi : i = (a : Int)) (hj : j = (a : Int) + 1) (hk : ∀ n ∈ ks, n < 1114112) :
    Ev K A (tOp (rEqD K) (tSl (rSlA K) t0 tl th) tb) Γ (.bl (decide (ks[a]? = some 0))) := by
  subst hi hj hs
  have p := pok_cut (a := a) hk
  exact ev_as (ev_eqDD (ev_slA h1 hl hh) hb ⟨p.1, Nat.succ_le_succ (Nat.le_trans p.2 (by decide))⟩ ⟨by decide +kernel, by decide⟩) (by rw [eqv_back hk])
theorem ev_noBack (h1 : Ev K A t0 Γ (keysD ks)) (hl : Eo K A tl Γ (some i)) (hh : Eo K A th Γ (some j)) (hb : Ev K A tb Γ (.tup [.str s])) (hs : s = S [98, 97, 99, 107]) (hi : i = (a : Int)) (hj : j = (a : Int) + 1) (hk : ∀ n ∈ ks, n < 1114112) :
    Ev K A (tOp (rNeD K) (tSl (rSlA K) t0 tl th) tb) Γ (.bl (!decide (ks[a]? = some 0))) := by
  subst hi hj hs
  have p := pok_cut (a := a) hk
  exact ev_as (ev_neDD (ev_slA h1 hl hh) hb ⟨p.1, Nat.succ_le_succ (Nat.le_trans p.2 (by decide))⟩ ⟨by decide +kernel, by decide⟩) (by rw [eqv_back hk])
/-- keys[i] -/
theorem ev_key {n : Nat} (h1 : Ev K A t0 Γ (keysD ks)) (hb : Ev K A tb Γ (.int i)) (hi : i = (a : Int)) (hn : ks[a]? = some n) : Ev K A (tOp (rIxT K) t0 tb) Γ (.str (KH.keyS n)) :=
  ev_ixT h1 hb (by
    subst hi
    have ha : a < (ks.map kD).length := by rw [List.length_map]; exact (List.getElem?_eq_some_iff.mp hn).1
    show atI (ks.map kD) (a : Int) = _
    rw [atI_of (by omega) (by omega) D.non, Int.toNat_natCast, List.getD_eq_getElem?_getD, List.getElem?_map, hn]
    rfl) rfl
/-! while -/
theorem rn_whileN {c : TT} {t : TS} (n : Nat) (Γf : Nat → Ga) (h0 : leG Γ (Γf 0)) (hc : ∀ m, m ≤ n → Et K A c (Γf m) (decide (m < n))) (hs : ∀ m, m < n → ∃ Γ', Rn K A t (Γf m) (.nx Γ') ∧ leG Γ' (Γf (m + 1))) : Rn K A (tWhile c t) Γ (.nx (Γf n)) := by
  intro σ H E p e k
  refine ⟨fun r σ' H' => ∃ m, m ≤ n ∧ r = n - m ∧ Same H H' ∧ Slots K H' σ' (Γf m), ⟨n, 0, Nat.zero_le _, rfl, Same.refl H, e.le h0⟩, fun r σ' H' ⟨m, hm, hr, s1, e1⟩ => ?_⟩
  refine hc m hm σ' H' (A.st _ _ s1 p) e1 _ fun H1 s2 => ?_
  by_cases hl : m < n
  · rw [decide_eq_true hl, if_pos rfl]
    obtain ⟨Γ', h1, h2⟩ := hs m hl
    refine ⟨_, fun _ _ z => z, h1 σ' H1 _ (A.st _ _ (s1.trans s2) p) (e1.mono s2) fun σ2 H2 s3 e2 => ⟨n - (m + 1), by omega, m + 1, hl, rfl, (s1.trans s2).trans s3, e2.le h2⟩⟩
  · rw [decide_eq_false hl, if_neg (by decide)]
    have : m = n := by omega
    subst this
    exact k σ' H1 (s1.trans s2) (e1.mono s2)
end
end KD

/-! part K3 -/
set_option Elab.async false
set_option linter.all false
set_option maxRecDepth 100000
set_option maxHeartbeats 4000000
namespace KH
open PySem PySem.Spec PyProof.Rows L2 KD
section
variable {P : Program} {w : World} {K : PySem.W.Frag} {mg : Str → Option Value} {base : Heap}
/-! a row of keys that is typed with a manner -/
def Row (M : KM.Way) (us : List KM.Un) : Prop := KM.oks M KM.Rd.start us = true ∧ (KM.flat us).length ≤ 400
theorem Row.sgn {M : KM.Way} {us : List KM.Un} (h : Row M us) : ∀ u ∈ us, KM.sgn u.c = true := KM.oks_sgn M us _ h.1
theorem Row.len {M : KM.Way} {us : List KM.Un} (h : Row M us) : us.length ≤ 400 := Nat.le_trans (KM.flat_len us) h.2
theorem Row.take {M : KM.Way} {us : List KM.Un} (h : Row M us) (j : Nat) : Row M (us.take j) := by
  refine ⟨KM.oks_take M us _ j h.1, Nat.le_trans ?_ h.2⟩
  exact KM.pos_le
theorem flat_ok : ∀ {us : List KM.Un}, (∀ u ∈ us, KM.sgn u.c = true) → ∀ n ∈ KM.flat us, n = 0 ∨ KM.sgn n = true
  | [], _, n, h => by cases h
  | .sg c :: us, hs, n, h => by
    rcases List.mem_cons.mp (show n ∈ c :: KM.flat us from h) with e | e
    · rw [e]; exact .inr (hs _ List.mem_cons_self)
    · exact flat_ok (fun u hu => hs u (List.mem_cons_of_mem _ hu)) n e
  | .sl c :: us, hs, n, h => by
    rcases List.mem_cons.mp (show n ∈ c :: 0 :: KM.flat us from h) with e | e
    · rw [e]; exact .inr (hs _ List.mem_cons_self)
    · rcases List.mem_cons.mp e with e | e
      · exact .inl e
      · exact flat_ok (fun u hu => hs u (List.mem_cons_of_mem _ hu)) n e
theorem Row.lt {M : KM.Way} {us : List KM.Un} (h : Row M us) : ∀ n ∈ KM.flat us, n < 1114112 := fun n hn => by
  rcases flat_ok h.sgn n hn with e | e
  · omega
  · have := KM.sgn_lt e
    omega
theorem Row.nz {M : KM.Way} {us : List KM.Un} (h : Row M us) : ∀ u ∈ us, u.c ≠ 0 := fun u hu => KM.sgn_nz (h.sgn u hu)
theorem Row.needs {M : KM.Way} {us : List KM.Un} (h : Row M us) (j : Nat) : (KM.rds M.words KM.Rd.start (us.take j)).needs.length ≤ 1000 := by
  have h1 := KM.needs_rds M.words (us.take j) KM.Rd.start
  have h2 := (h.take j).len
  have h3 : KM.Rd.start.needs.length = 0 := rfl
  omega
def sp_needs_behind (K : PySem.W.Frag) : Sp := spR K fun ds d => ∃ M us, ds = [wayD M, keysD (KM.flat us)] ∧ d = .str (S (KM.rds M.words KM.Rd.start us).needs) ∧ Row M us
theorem sc_needs_behind : FnScope ["_law_way", "_law_keys", "_law_state", "_law_k"] ["_law_way", "_law_keys"] (defScope s_needs_behind) := ⟨rfl, rfl, rfl, by decide +kernel, rfl, by decide +kernel, by decide +kernel⟩
theorem cal_needs_behind (T : Tx K mg) : C8.Cal P w K mg base 2 "_law_needs_behind" (sp_needs_behind K) [] :=
  cal_of T.d_needs_behind T.g_needs_behind sc_needs_behind (fun _ _ _ _ _ _ us hl => match us, hl with | [_, _], _ => rfl)
    (spR_len fun ds d ⟨_, _, e, _⟩ => by rw [e]; rfl) fun cdv A outer s H E hr => ⟨_, (pss_cons (ps_asg (pe_tup (pa_cons (pe_tup (pa_cons pe_str (pa_cons pe_str (pa_cons pe_bl pa_nil)))) (pa_cons pe_int pa_nil))) (pg_tup (n := 2) rfl (pgs_cons (pg_name (i := 2) sc_needs_behind.nd rfl (Or.inl rfl)) (pgs_cons (pg_name (i := 3) sc_needs_behind.nd rfl (Or.inl rfl)) pgs_nil)))) (pss_cons (ps_while PassesOwn.never (pt_cmpR op_lt (pv 3) (pe_callB call_len (by rfl) T.b_len PySem.boot_len (pa_cons (pv 1) pa_nil)) (nomark _)) (pss_cons (ps_if (pt_cmpR (op_neD (hu64 hr)) (pe_slice sl_tupA (pv 1) (po_some (pe_op op_add (pv 3) pe_int)) (po_some (pe_op op_add (pv 3) pe_int))) (pe_tup (pa_cons pe_str pa_nil)) (nomark _)) (pss_one (ps_set (i := 2) sc_needs_behind.nd rfl (Or.inl rfl) (C8.pe_c (cal_read T) hr (by decide) (by rfl) (pa_cons (pv 2) (pa_cons (pe_ix ix_tup (pv 0) pe_int (fun _ _ => rfl)) (pa_cons (pe_ix ix_tup (pv 1) (pv 3) (fun _ _ => rfl)) pa_nil)))))) pss_nil) (pss_one (ps_set (i := 3) sc_needs_behind.nd rfl (Or.inl rfl) (pe_op op_add (pv 3) (pe_ifExp (pt_cmpR (op_eqD (hu64 hr)) (pe_slice sl_tupA (pv 1) (po_some (pe_op op_add (pv 3) pe_int)) (po_some (pe_op op_add (pv 3) pe_int))) (pe_tup (pa_cons pe_str pa_nil)) (nomark _)) pe_int pe_int)))))) (pss_one (ps_ret (pe_ix ix_tup (pv 2) pe_int (fun _ _ => rfl)))))), spR_by _ <| by
      rintro ds d ⟨M, us, rfl, rfl, hr⟩
      show Rn _ _ _ [_, _, _, _] _; refine (rn_seq (Γ1 := [_, _, _, _]) (rn_unp (is := [2, 3]) (ev_tup (ea_cons (ev_tup (ea_cons (ev_lit (l := []) (by decide +kernel)) (ea_cons (ev_lit (l := []) (by decide +kernel)) (ea_cons ev_bl ea_nil)))) (ea_cons ev_int ea_nil))) rfl rfl rfl) (rn_seq (Γ1 := [_, _, _, _]) (rn_whileN us.length (fun m => [some (wayD M), some (keysD (KM.flat us)), some (rdD (KM.rds M.words KM.Rd.start (us.take m))), some (.int (KM.pos us m : Nat))]) ?_ ?_ ?_) (rn_ret (ev_as (ev_ixT (ev_var rfl) ev_int rfl) ?_))))
      · rw [KM.pos_zero]
        exact leG_refl _
      · intro m hm
        refine et_test (ev_as (ev_cmpI (ev_var rfl) (ev_lenT (ea_cons (ev_var rfl) ea_nil))) ?_)
        refine congrArg D.bl ?_
        show decide (((KM.pos us m : Nat) : Int) < (((KM.flat us).map kD).length : Nat)) = _
        rw [List.length_map, ← KM.pos_lt_iff hm]
        simp
      · intro m hm
        have hu : us[m]? = some us[m] := List.getElem?_eq_getElem hm
        have kn := KM.key_next hr.nz hu
        have rd := KM.rds_succ M.words KM.Rd.start hu
        have ps := KM.pos_succ hu
        have ka := KM.key_at hu
        have nz := hr.nz _ (List.getElem_mem hm)
        have nl := hr.needs m
        generalize us[m] = u at hu kn rd ps ka nz
        show ∃ Γ', Rn _ _ _ [_, _, _, _] _ ∧ _
        refine ⟨[some (wayD M), some (keysD (KM.flat us)), some (rdD (KM.rds M.words KM.Rd.start (us.take (m + 1)))), some (.int (KM.pos us (m + 1) : Nat))], ?_, leG_refl _⟩
        refine rn_seq (Γ1 := [some (wayD M), some (keysD (KM.flat us)), some (rdD (KM.rds M.words KM.Rd.start (us.take (m + 1)))), some (.int (KM.pos us m : Nat))])
          (rn_if (et_test (ev_noBack (a := KM.pos us m + 1) (ev_var rfl) (eo_some (ev_add (ev_var rfl) ev_int)) (eo_some (ev_add (ev_var rfl) ev_int)) (ev_tup (ea_cons ev_str ea_nil)) (by decide +kernel) (by omega) (by omega) hr.lt)) (fun h => ?_) (fun h => ?_))
          ?_
        · rw [kn] at h
          cases u with
          | sl c => cases h
          | sg c =>
            rw [rd]
            exact rn_set (ev_callR rfl (ea_cons (ev_var rfl) (ea_cons (ev_ixT (ev_var rfl) ev_int rfl) (ea_cons (ev_as (ev_key (ev_var rfl) (ev_var rfl) rfl ka) (congrArg D.str (keyS_sgn nz))) ea_nil))) ⟨_, _, _, rfl, rfl, nl⟩)
        · rw [kn] at h
          cases u with
          | sg c => cases h
          | sl c =>
            rw [rd]
            exact rn_next
        · refine rn_set (ev_as (ev_add (ev_var rfl) (ev_ifI (et_test (ev_isBack (a := KM.pos us m + 1) (ev_var rfl) (eo_some (ev_add (ev_var rfl) ev_int)) (eo_some (ev_add (ev_var rfl) ev_int)) (ev_tup (ea_cons ev_str ea_nil)) (by decide +kernel) (by omega) (by omega) hr.lt)) (fun _ => ev_int) (fun _ => ev_int))) ?_)
          rw [kn, ps]
          cases u.isSl <;> simp
      · rw [List.take_length]⟩
end
end KH

/-! part K4 -/
set_option Elab.async false
set_option linter.all false
set_option maxRecDepth 100000
set_option maxHeartbeats 4000000
namespace KH
open PySem PySem.Spec PyProof.Rows L2 KD
section
variable {P : Program} {w : World} {K : PySem.W.Frag} {mg : Str → Option Value} {base : Heap}
/-! whether what is left over is part of what was needed -/
def eat (l : List Nat) (c : Nat) : List Nat := if l.head? = some c then l.tail else l
theorem eat_nil : ∀ n : List Nat, n.foldl eat [] = []
  | [] => rfl
  | _ :: n => eat_nil n
theorem eat_sub : ∀ (n e : List Nat), e.Sublist n → n.foldl eat e = []
  | [], e, h => List.sublist_nil.mp h
  | c :: n, e, h => by
    show n.foldl eat (eat e c) = []
    cases h with
    | cons _ h =>
      refine eat_sub n _ ?_
      unfold eat
      split
      · exact (List.tail_sublist e).trans h
      · exact h
    | cons_cons _ h =>
      refine eat_sub n _ ?_
      unfold eat
      split
      · exact h
      · rename_i z
        exact absurd rfl z
def sp_is_part (K : PySem.W.Frag) : Sp := spR K fun ds d => ∃ e R n : List Nat, ds = [.str (S (e ++ R)), .str (S R), .str (S n)] ∧ d = .bl true ∧ e.Sublist n ∧ (e ++ R).length ≤ 1000 ∧ n.length ≤ 1000
theorem sc_is_part : FnScope ["_law_far", "_law_later_here", "_law_needs_so", "_law_many", "_law_some", "_law_sign"] ["_law_far", "_law_later_here", "_law_needs_so"] (defScope s_is_part) := ⟨rfl, rfl, rfl, by decide +kernel, rfl, by decide +kernel, by decide +kernel⟩
theorem cal_is_part (T : Tx K mg) : C8.Cal P w K mg base 1 "_law_is_part" (sp_is_part K) [] :=
  cal_of T.d_is_part T.g_is_part sc_is_part (fun _ _ _ _ _ _ us hl => match us, hl with | [_, _, _], _ => rfl)
    (spR_len fun ds d ⟨_, _, _, e, _⟩ => by rw [e]; rfl) fun cdv A outer s H E hr => ⟨_, (pss_cons (ps_set (i := 3) sc_is_part.nd rfl (Or.inl rfl) (pe_op op_sub (pe_callB call_len (by rfl) T.b_len PySem.boot_len (pa_cons (pv 0) pa_nil)) (pe_callB call_len (by rfl) T.b_len PySem.boot_len (pa_cons (pv 1) pa_nil)))) (pss_cons (ps_if (PW.pt (pw_or (pt_cmpR op_lt (pv 3) pe_int (nomark _)) (pw_or1 (pt_cmpR op_ne (pe_slice C8.sl_txt (pv 0) (po_some (pv 3)) po_none) (pv 1) (nomark _))))) (pss_one (ps_ret pe_bl)) pss_nil) (pss_cons (ps_set (i := 4) sc_is_part.nd rfl (Or.inl rfl) (pe_slice C8.sl_txt (pv 0) po_none (po_some (pv 3)))) (pss_cons (ps_for PassesOwn.never rfl (pi_str (pv 2)) (pg_name (i := 5) sc_is_part.nd rfl (Or.inl rfl)) (pss_one (ps_if (pt_cmpR op_eq (pe_slice C8.sl_txt (pv 4) po_none (po_some pe_int)) (pv 5) (nomark _)) (pss_one (ps_set (i := 4) sc_is_part.nd rfl (Or.inl rfl) (pe_slice C8.sl_txt (pv 4) (po_some pe_int) po_none))) pss_nil))) (pss_one (ps_ret (pe_cmpR op_eq (pv 4) pe_str (nomark _)))))))), spR_by _ <| by
      rintro ds d ⟨e, R, n, rfl, rfl, hs, hl, hn⟩
      clear hr
      have lR : R.length ≤ 1000 := by rw [List.length_append] at hl; omega
      have i1 : (((e ++ R).length : Int) - (R.length : Int)).toNat = e.length := by rw [List.length_append]; omega
      have i0 : 0 ≤ ((e ++ R).length : Int) - (R.length : Int) := by rw [List.length_append]; omega
      have tk : (e ++ R).take (((e ++ R).length : Int) - (R.length : Int)).toNat = e := by rw [i1, List.take_left]
      show Rn _ _ _ [_, _, _, _, _, _] _; refine (rn_seq (Γ1 := [_, _, _, _, _, _]) (rn_set (ev_sub (ev_lenS1 (ea_cons (ev_var rfl) ea_nil) ?_) (ev_lenS1 (ea_cons (ev_var rfl) ea_nil) ?_))) (rn_ifs (et_or (et_test (ev_cmpI (ev_var rfl) ev_int)) (fun h1 => (et_test (ev_neL (ev_slFrom (ev_var rfl) (ev_var rfl) ?_ ?_) (ev_var rfl))))) (fun h2 => (rn_out (rn_ret (ev_as ev_bl ?_)))) (fun h2 => (rn_nx (rn_seq (Γ1 := [_, _, _, _, _, _]) (rn_set (ev_slTo (ev_var rfl) (ev_var rfl) ?_ ?_)) (rn_seq (Γ1 := [_, _, _, _, _, _]) (rn_forS (fun m => [some (.str (S (e ++ R))), some (.str (S R)), some (.str (S n)), some (.int (((e ++ R).length : Int) - (R.length : Int))), some (.str (S ((n.take m).foldl eat e))), none]) (wi_str (ev_var rfl)) (tg_name 5) ?_ ?_) (rn_ret (ev_as (ev_eqL (ev_var rfl) (ev_lit (l := []) (by decide +kernel))) ?_))))))))
      · omega
      · omega
      · omega
      · exact i0
      · rw [i1, List.drop_left, decide_eq_false (by omega)] at h2
        simp at h2
      · omega
      · exact i0
      · exact ⟨.inr rfl, .inr rfl, .inr rfl, .inr rfl, .inr (by rw [tk]; rfl), .inl rfl, trivial⟩
      · rintro m d hm ⟨c, hc, rfl⟩
        have st : (n.take (m + 1)).foldl eat e = eat ((n.take m).foldl eat e) c := by rw [List.take_add_one, hc, List.foldl_append]; rfl
        have le : ((n.take m).foldl eat e).length ≤ 100000 := by
          have : ∀ (q l : List Nat), (q.foldl eat l).length ≤ l.length := fun q => by
            induction q with
            | nil => exact fun l => Nat.le_refl _
            | cons a q ih =>
              intro l
              refine Nat.le_trans (ih (eat l a)) ?_
              unfold eat
              split
              · rw [List.length_tail]; omega
              · exact Nat.le_refl _
          have h1 := this (n.take m) e
          rw [List.length_append] at hl
          omega
        show _ ∧ ∃ Γ', Rn _ _ _ [_, _, _, _, _, _] _ ∧ _
        refine ⟨trivial, [some (.str (S (e ++ R))), some (.str (S R)), some (.str (S n)), some (.int (((e ++ R).length : Int) - (R.length : Int))), some (.str (S ((n.take (m + 1)).foldl eat e))), some (.str (S [c]))], ?_, ⟨.inr rfl, .inr rfl, .inr rfl, .inr rfl, .inr rfl, .inl rfl, trivial⟩⟩
        rw [st]
        generalize (n.take m).foldl eat e = z at le
        refine rn_if (et_test (ev_eqL (ev_slTo (ev_var rfl) ev_int le (by decide)) (ev_var rfl))) (fun h => ?_) (fun h => ?_)
        · rw [tk1] at h
          unfold eat
          rw [if_pos (of_decide_eq_true h), ← d_1]
          exact rn_set (ev_slFrom (ev_var rfl) ev_int le (by decide))
        · rw [tk1] at h
          unfold eat
          rw [if_neg (of_decide_eq_false h)]
          exact rn_next
      · rw [List.take_length, eat_sub n e hs]
        rfl⟩
/-! ### books.py -/
def sp_need_manner (K : PySem.W.Frag) : Sp := spR K fun ds d => ∃ M, ds = [wayD M] ∧ d = wayD M
theorem sc_need_manner : FnScope ["manner", "word"] ["manner"] (defScope s_need_manner) := ⟨rfl, rfl, rfl, by decide +kernel, rfl, by decide +kernel, by decide +kernel⟩
theorem cal_need_manner (T : Tx K mg) : C8.Cal P w K mg base 1 "need_manner" (sp_need_manner K) [] :=
  cal_of T.d_need_manner T.g_need_manner sc_need_manner (fun _ _ _ _ _ _ us hl => match us, hl with | [_], _ => rfl)
    (spR_len fun ds d ⟨_, e, _⟩ => by rw [e]; rfl) fun cdv A outer s H E hr => ⟨_, (pss_cons (ps_if (PW.pt (pw_or (pt_not (pt_val (pe_callB call_isi (by rfl) T.b_isinstance (by decide +kernel) (pa_cons (pv 0) (pa_cons (pe_gT (n := "tuple") (by rfl) T.b_tuple (by decide +kernel)) pa_nil))))) (pw_or (pt_cmpR op_ne (pe_callB call_len (by rfl) T.b_len PySem.boot_len (pa_cons (pv 0) pa_nil)) pe_int (nomark _)) (pw_or1 (pt_not (pt_val (pe_callB (cr_all rfl) (by rfl) T.b_all (by decide +kernel) (pa_cons (pe_lc (own := [("word", 1)]) rfl sc_need_manner.nd (pi_tup (pv 0)) (blkOk_by (N := ["manner", "word"]) (sc := defScope s_need_manner) (by decide +kernel)) (fun _ _ _ _ _ => (pg_name (i := 1) sc_need_manner.nd rfl (Or.inl rfl))) (fun _ _ _ _ _ => pts_nil) (fun _ _ _ _ _ => (pe_callB (call_isiK (K := K) rfl) (by rfl) T.b_isinstance (by decide +kernel) (pa_cons (pv 1) (pa_cons (pe_gT (n := "bool") (by rfl) T.b_bool (by decide +kernel)) pa_nil))))) pa_nil)))))))) (pss_one ps_never) pss_nil) (pss_one (ps_ret (pv 0)))), spR_by _ <| by
      rintro ds d ⟨M, rfl, rfl⟩
      clear hr
      show Rn _ _ _ [_, _] _; refine (rn_ifs (et_or (et_not (et_B (ev_isi (b := true) (ea_cons (ev_var rfl) (ea_cons ev_ty ea_nil)) rfl (by decide +kernel)))) (fun h1 => (et_or (et_test (ev_neI (ev_lenT (ea_cons (ev_var rfl) ea_nil)) ev_int)) (fun h2 => (et_not (et_B (ev_all (ea_cons (ev_lcB [M.slips, M.words, M.later] (fun _ => true) (wi_tup (ev_var rfl)) (tg_name 1) (by decide) rfl (show 3 ≤ 100000 by decide) ?_) ea_nil)))))))) (fun h3 => (rn_absurd ?_)) (fun h3 => (rn_nx (rn_ret (ev_as (ev_var rfl) ?_)))))
      · intro i d hi h
        have hi' : i < 3 := hi
        match i, hi' with
        | 0, _ => cases h; exact ⟨trivial, M.slips, rfl, ev_isi (b := true) (ea_cons (ev_var rfl) (ea_cons ev_ty ea_nil)) rfl (by decide +kernel)⟩
        | 1, _ => cases h; exact ⟨trivial, M.words, rfl, ev_isi (b := true) (ea_cons (ev_var rfl) (ea_cons ev_ty ea_nil)) rfl (by decide +kernel)⟩
        | 2, _ => cases h; exact ⟨trivial, M.later, rfl, ev_isi (b := true) (ea_cons (ev_var rfl) (ea_cons ev_ty ea_nil)) rfl (by decide +kernel)⟩
      · cases h3
      · rfl⟩
def sp_need_book (K : PySem.W.Frag) : Sp := spR K fun ds d => ∃ B, ds = [bookD B] ∧ d = bookD B
theorem sc_need_book : FnScope ["book", "place", "choice"] ["book"] (defScope s_need_book) := ⟨rfl, rfl, rfl, by decide +kernel, rfl, by decide +kernel, by decide +kernel⟩
theorem cal_need_book (T : Tx K mg) : C8.Cal P w K mg base 1 "need_book" (sp_need_book K) [] :=
  cal_of T.d_need_book T.g_need_book sc_need_book (fun _ _ _ _ _ _ us hl => match us, hl with | [_], _ => rfl)
    (spR_len fun ds d ⟨_, e, _⟩ => by rw [e]; rfl) fun cdv A outer s H E hr => ⟨_, (pss_cons (ps_if (PW.pt (pw_or (pt_not (pt_val (pe_callB call_isi (by rfl) T.b_isinstance (by decide +kernel) (pa_cons (pv 0) (pa_cons (pe_gT (n := "tuple") (by rfl) T.b_tuple (by decide +kernel)) pa_nil))))) (pw_or1 (pt_cmpR op_ne (pe_callB call_len (by rfl) T.b_len PySem.boot_len (pa_cons (pv 0) pa_nil)) (pe_callB call_len (by rfl) T.b_len PySem.boot_len (pa_cons (pe_glob (v := .ref (He.ga K "CHOICES")) (by rfl) T.g_CHOICES rfl) pa_nil)) (nomark _))))) (pss_one ps_never) pss_nil) (pss_cons (ps_for PassesOwn.never rfl (pi_enumT (by rfl) T.b_enumerate (pa_cons (pv 0) pa_nil)) (pg_tup (n := 2) rfl (pgs_cons (pg_name (i := 1) sc_need_book.nd rfl (Or.inl rfl)) (pgs_cons (pg_name (i := 2) sc_need_book.nd rfl (Or.inl rfl)) pgs_nil))) (pss_one (ps_if (PW.pt (pw_or (pt_not (pt_val (pe_callB call_isi (by rfl) T.b_isinstance (by decide +kernel) (pa_cons (pv 2) (pa_cons (pe_gT (n := "str") (by rfl) T.b_str (by decide +kernel)) pa_nil))))) (pw_or1 (pt_cmpR op_notIn_seq (pv 2) (pe_ix ix_tup (pe_glob (v := .ref (He.ga K "CHOICES")) (by rfl) T.g_CHOICES rfl) (pv 1) (fun _ _ => rfl)) (by rfl))))) (pss_one ps_never) pss_nil))) (pss_one (ps_ret (pv 0))))), spR_by _ <| by
      rintro ds d ⟨B, rfl, rfl⟩
      clear hr
      show Rn _ _ _ [_, _, _] _; refine (rn_ifs (et_or (et_not (et_B (ev_isi (b := true) (ea_cons (ev_var rfl) (ea_cons ev_ty ea_nil)) rfl (by decide +kernel)))) (fun h1 => (et_test (ev_neI (ev_lenT (ea_cons (ev_var rfl) ea_nil)) (ev_lenT (ea_cons (ev_c T.cho) ea_nil)))))) (fun h2 => (rn_absurd ?_)) (fun h2 => (rn_nx (rn_seq (Γ1 := [_, _, _]) (rn_forW (wi_enT (ea_cons (ev_var rfl) ea_nil)) (tg_tup 2 [1, 2]) ?_) (rn_ret (ev_as (ev_var rfl) ?_))))))
      · exact absurd h2 (by show ¬ (!true || !decide (((6 : Nat) : Int) = ((6 : Nat) : Int))) = true; decide)
      · rintro i d hi ⟨c, hc, rfl⟩
        have hi' : i < 6 := hi
        show _ ∧ ∃ Γ', Rn _ _ _ [_, _, _] _ ∧ _
        match i, hi' with
        | 0, _ =>
          cases hc
          refine ⟨⟨rfl, rfl, rfl⟩, _, rn_if (et_or (et_not (et_B (ev_isi (b := true) (ea_cons (ev_var rfl) (ea_cons ev_ty ea_nil)) rfl (by decide +kernel)))) (fun _ => et_test (ev_notinT (ev_var rfl) (ev_ixT (ev_c T.cho) (ev_var rfl) rfl)))) (fun h => rn_absurd ?_) (fun _ => rn_next), ⟨.inr rfl, .inl rfl, .inl rfl, trivial⟩⟩
          generalize B.p = x at h
          cases x <;> revert h <;> decide +kernel
        | 1, _ =>
          cases hc
          refine ⟨⟨rfl, rfl, rfl⟩, _, rn_if (et_or (et_not (et_B (ev_isi (b := true) (ea_cons (ev_var rfl) (ea_cons ev_ty ea_nil)) rfl (by decide +kernel)))) (fun _ => et_test (ev_notinT (ev_var rfl) (ev_ixT (ev_c T.cho) (ev_var rfl) rfl)))) (fun h => rn_absurd ?_) (fun _ => rn_next), ⟨.inr rfl, .inl rfl, .inl rfl, trivial⟩⟩
          generalize B.q = x at h
          cases x <;> revert h <;> decide +kernel
        | 2, _ =>
          cases hc
          refine ⟨⟨rfl, rfl, rfl⟩, _, rn_if (et_or (et_not (et_B (ev_isi (b := true) (ea_cons (ev_var rfl) (ea_cons ev_ty ea_nil)) rfl (by decide +kernel)))) (fun _ => et_test (ev_notinT (ev_var rfl) (ev_ixT (ev_c T.cho) (ev_var rfl) rfl)))) (fun h => rn_absurd ?_) (fun _ => rn_next), ⟨.inr rfl, .inl rfl, .inl rfl, trivial⟩⟩
          generalize B.i = x at h
          cases x <;> revert h <;> decide +kernel
        | 3, _ =>
          cases hc
          refine ⟨⟨rfl, rfl, rfl⟩, _, rn_if (et_or (et_not (et_B (ev_isi (b := true) (ea_cons (ev_var rfl) (ea_cons ev_ty ea_nil)) rfl (by decide +kernel)))) (fun _ => et_test (ev_notinT (ev_var rfl) (ev_ixT (ev_c T.cho) (ev_var rfl) rfl)))) (fun h => rn_absurd ?_) (fun _ => rn_next), ⟨.inr rfl, .inl rfl, .inl rfl, trivial⟩⟩
          generalize B.o = x at h
          cases x <;> revert h <;> decide +kernel
        | 4, _ =>
          cases hc
          refine ⟨⟨rfl, rfl, rfl⟩, _, rn_if (et_or (et_not (et_B (ev_isi (b := true) (ea_cons (ev_var rfl) (ea_cons ev_ty ea_nil)) rfl (by decide +kernel)))) (fun _ => et_test (ev_notinT (ev_var rfl) (ev_ixT (ev_c T.cho) (ev_var rfl) rfl)))) (fun h => rn_absurd ?_) (fun _ => rn_next), ⟨.inr rfl, .inl rfl, .inl rfl, trivial⟩⟩
          generalize B.b = x at h
          cases x <;> revert h <;> decide +kernel
        | 5, _ =>
          cases hc
          refine ⟨⟨rfl, rfl, rfl⟩, _, rn_if (et_or (et_not (et_B (ev_isi (b := true) (ea_cons (ev_var rfl) (ea_cons ev_ty ea_nil)) rfl (by decide +kernel)))) (fun _ => et_test (ev_notinT (ev_var rfl) (ev_ixT (ev_c T.cho) (ev_var rfl) rfl)))) (fun h => rn_absurd ?_) (fun _ => rn_next), ⟨.inr rfl, .inl rfl, .inl rfl, trivial⟩⟩
          generalize B.f = x at h
          cases x <;> revert h <;> decide +kernel
      · rfl⟩
/-! ### keys, pages -/
def sp_is_key (K : PySem.W.Frag) : Sp := spR K fun ds d => ∃ n, ds = [.str (keyS n)] ∧ d = .bl true ∧ keyOk n
theorem sc_is_key : FnScope ["value"] ["value"] (defScope s_is_key) := ⟨rfl, rfl, rfl, by decide +kernel, rfl, by decide +kernel, by decide +kernel⟩
theorem cal_is_key (T : Tx K mg) : C8.Cal P w K mg base 2 "is_key" (sp_is_key K) [] :=
  cal_of T.d_is_key T.g_is_key sc_is_key (fun _ _ _ _ _ _ us hl => match us, hl with | [_], _ => rfl)
    (spR_len fun ds d ⟨_, e, _⟩ => by rw [e]; rfl) fun cdv A outer s H E hr => ⟨_, (pss_one (ps_ret (pe_or (C8.pe_c (cal_is_sign T) hr (by decide) (by rfl) (pa_cons (pv 0) pa_nil)) (pe_one (pe_and (pe_callB call_isi (by rfl) T.b_isinstance (by decide +kernel) (pa_cons (pv 0) (pa_cons (pe_gT (n := "str") (by rfl) T.b_str (by decide +kernel)) pa_nil))) (pe_one (pe_cmpR op_in_seq (pv 0) (pe_tup (pa_cons (pe_gS (by rfl) T.c_BACK) (pa_cons (pe_gS (by rfl) T.c_RIGHT) (pa_cons (pe_gS (by rfl) T.c_END) pa_nil)))) (by rfl)))))))), spR_by _ <| by
      rintro ds d ⟨n, rfl, rfl, hn⟩
      show Rn _ _ _ [_] _; refine (rn_ret (ev_as (ev_orV (ev_callR rfl (ea_cons (ev_var rfl) ea_nil) ⟨_, rfl, rfl, ?_⟩) (fun h1 => (ev_andV (ev_isi (b := true) (ea_cons (ev_var rfl) (ea_cons ev_ty ea_nil)) rfl (by decide +kernel)) (fun h2 => (ev_inT (ev_var rfl) (ev_tup (ea_cons (ev_lit (l := [98, 97, 99, 107]) (by decide +kernel)) (ea_cons (ev_lit (l := [114, 105, 103, 104, 116]) (by decide +kernel)) (ea_cons (ev_lit (l := [101, 110, 100]) (by decide +kernel)) ea_nil))))))))) ?_))
      · refine congrArg D.bl ?_
        by_cases h : n = 0
        · subst h; decide +kernel
        · rw [decide_eq_false h]; rfl
      · exact hn⟩
def sp_need_keys (K : PySem.W.Frag) : Sp := spR K fun ds d => ∃ ks, ds = [keysD ks] ∧ d = .non ∧ ks.length ≤ 400 ∧ ∀ n ∈ ks, keyOk n
theorem sc_need_keys : FnScope ["keys", "place", "key"] ["keys"] (defScope s_need_keys) := ⟨rfl, rfl, rfl, by decide +kernel, rfl, by decide +kernel, by decide +kernel⟩
theorem cal_need_keys (T : Tx K mg) : C8.Cal P w K mg base 3 "need_keys" (sp_need_keys K) [] :=
  cal_of T.d_need_keys T.g_need_keys sc_need_keys (fun _ _ _ _ _ _ us hl => match us, hl with | [_], _ => rfl)
    (spR_len fun ds d ⟨_, e, _⟩ => by rw [e]; rfl) fun cdv A outer s H E hr => ⟨_, (pss_cons (ps_if (PW.pt (pw_or (pt_not (pt_val (pe_callB call_isi (by rfl) T.b_isinstance (by decide +kernel) (pa_cons (pv 0) (pa_cons (pe_gT (n := "tuple") (by rfl) T.b_tuple (by decide +kernel)) pa_nil))))) (pw_or1 (pt_cmpR op_gt (pe_callB call_len (by rfl) T.b_len PySem.boot_len (pa_cons (pv 0) pa_nil)) (pe_gI (by rfl) T.c_MOST_KEYS) (nomark _))))) (pss_one ps_never) pss_nil) (pss_one (ps_for PassesOwn.never rfl (pi_enumT (by rfl) T.b_enumerate (pa_cons (pv 0) pa_nil)) (pg_tup (n := 2) rfl (pgs_cons (pg_name (i := 1) sc_need_keys.nd rfl (Or.inl rfl)) (pgs_cons (pg_name (i := 2) sc_need_keys.nd rfl (Or.inl rfl)) pgs_nil))) (pss_one (ps_if (pt_not (pt_val (C8.pe_c (cal_is_key T) hr (by decide) (by rfl) (pa_cons (pv 2) pa_nil)))) (pss_one ps_never) pss_nil))))), spR_byN _ fun ds d ⟨ks, e, e2, hl, hk⟩ => by
      subst e e2
      refine ⟨rfl, ?_⟩
      apply Exists.intro
      show Rn _ _ _ [_, _, _] _; refine (rn_ifs (et_or (et_not (et_B (ev_isi (b := true) (ea_cons (ev_var rfl) (ea_cons ev_ty ea_nil)) rfl (by decide +kernel)))) (fun h1 => (et_test (ev_cmpI (ev_lenT (ea_cons (ev_var rfl) ea_nil)) ev_int)))) (fun h2 => (rn_absurd ?_)) (fun h2 => (rn_nx (rn_forW (wi_enT (ea_cons (ev_var rfl) ea_nil)) (tg_tup 2 [1, 2]) ?_))))
      · have h3 : decide ((400 : Int) < ((ks.map kD).length : Nat)) = true := h2
        rw [List.length_map] at h3
        have := of_decide_eq_true h3
        omega
      · rintro i d hi ⟨c, hc, rfl⟩
        rw [List.getElem?_map] at hc
        cases hn : ks[i]? with
        | none => rw [hn] at hc; cases hc
        | some n =>
          rw [hn] at hc
          have e : kD n = c := Option.some.inj hc
          subst e
          show _ ∧ ∃ Γ', Rn _ _ _ [_, _, _] _ ∧ _
          exact ⟨⟨rfl, rfl, rfl⟩, _, rn_if (et_not (et_B (ev_callR rfl (ea_cons (ev_var rfl) ea_nil) ⟨_, rfl, rfl, hk n (List.mem_of_getElem? hn)⟩))) (fun h => rn_absurd (by cases h)) (fun _ => rn_next), ⟨.inr rfl, .inl rfl, .inl rfl, trivial⟩⟩⟩
def sp_is_place_in (K : PySem.W.Frag) : Sp := fun _ _ _ _ => False
theorem sc_is_place_in : FnScope ["value", "text"] ["value", "text"] (defScope s_is_place_in) := ⟨rfl, rfl, rfl, by decide +kernel, rfl, by decide +kernel, by decide +kernel⟩
theorem cal_is_place_in (T : Tx K mg) : C8.Cal P w K mg base 2 "is_place_in" (sp_is_place_in K) [] :=
  cal_of T.d_is_place_in T.g_is_place_in sc_is_place_in (fun _ _ _ _ _ _ us hl => match us, hl with | [_, _], _ => rfl)
    (fun _ _ _ _ h => h.elim) fun cdv A outer s H E hr => ⟨tNever, pss_never, fun _ _ h => h.elim⟩
/-- a page that is typed in from its start -/
def pageD (R : List Nat) : D := .tup [.str (S []), .str (S R), .tup []]
def sp_is_page (K : PySem.W.Frag) : Sp := spR K fun ds d => ∃ R, ds = [pageD R] ∧ d = .bl true ∧ okT R
theorem sc_is_page : FnScope ["value", "one", "other", "place"] ["value"] (defScope s_is_page) := ⟨rfl, rfl, rfl, by decide +kernel, rfl, by decide +kernel, by decide +kernel⟩
theorem cal_is_page (T : Tx K mg) : C8.Cal P w K mg base 3 "is_page" (sp_is_page K) [] :=
  cal_of T.d_is_page T.g_is_page sc_is_page (fun _ _ _ _ _ _ us hl => match us, hl with | [_], _ => rfl)
    (spR_len fun ds d ⟨_, e, _⟩ => by rw [e]; rfl) fun cdv A outer s H E hr => ⟨_, (pss_cons (ps_if (PW.pt (pw_or (pt_not (pt_val (pe_callB call_isi (by rfl) T.b_isinstance (by decide +kernel) (pa_cons (pv 0) (pa_cons (pe_gT (n := "tuple") (by rfl) T.b_tuple (by decide +kernel)) pa_nil))))) (pw_or (pt_cmpR op_ne (pe_callB call_len (by rfl) T.b_len PySem.boot_len (pa_cons (pv 0) pa_nil)) pe_int (nomark _)) (pw_or (pt_not (pt_val (C8.pe_c (cal_is_text T) hr (by decide) (by rfl) (pa_cons (pe_ix ix_tup (pv 0) pe_int (fun _ _ => rfl)) pa_nil)))) (pw_or1 (pt_not (pt_val (C8.pe_c (cal_is_text T) hr (by decide) (by rfl) (pa_cons (pe_ix ix_tup (pv 0) pe_int (fun _ _ => rfl)) pa_nil))))))))) (pss_one (ps_ret pe_bl)) pss_nil) (pss_cons (ps_if (PW.pt (pw_or (pt_not (pt_val (pe_callB call_isi (by rfl) T.b_isinstance (by decide +kernel) (pa_cons (pe_ix ix_tup (pv 0) pe_int (fun _ _ => rfl)) (pa_cons (pe_gT (n := "tuple") (by rfl) T.b_tuple (by decide +kernel)) pa_nil))))) (pw_or1 (pt_not (pt_val (pe_callB (cr_all rfl) (by rfl) T.b_all (by decide +kernel) (pa_cons (pe_lc (own := [("place", 3)]) rfl sc_is_page.nd (pi_tup (pe_ix ix_tup (pv 0) pe_int (fun _ _ => rfl))) (blkOk_by (N := ["value", "one", "other", "place"]) (sc := defScope s_is_page) (by decide +kernel)) (fun _ _ _ _ _ => (pg_name (i := 3) sc_is_page.nd rfl (Or.inl rfl))) (fun _ _ _ _ _ => pts_nil) (fun _ _ _ _ _ => (C8.pe_c (cal_is_place_in T) hr (by decide) (by rfl) (pa_cons (pv 3) (pa_cons (pe_ix (ix_tupK (K := K) rfl) (pv 0) pe_int (fun _ _ => rfl)) pa_nil))))) pa_nil))))))) (pss_one (ps_ret pe_bl)) pss_nil) (pss_one (ps_ret (pe_callB (cr_all rfl) (by rfl) T.b_all (by decide +kernel) (pa_cons (pe_lc (own := [("one", 1), ("other", 2)]) rfl sc_is_page.nd (RZ.pi_zipA (by rfl) T.b_zip (pa_cons (pe_ix ix_tup (pv 0) pe_int (fun _ _ => rfl)) (pa_cons (pe_slice sl_tupA (pe_ix ix_tup (pv 0) pe_int (fun _ _ => rfl)) (po_some pe_int) po_none) pa_nil))) (blkOk_by (N := ["value", "one", "other", "place"]) (sc := defScope s_is_page) (by decide +kernel)) (fun _ _ _ _ _ => by exact (pg_tupK (K := K) (n := 2) rfl rfl (pgs_cons (pg_name (i := 1) sc_is_page.nd rfl (Or.inl rfl)) (pgs_cons (pg_name (i := 2) sc_is_page.nd rfl (Or.inl rfl)) pgs_nil)))) (fun _ _ _ _ _ => pts_nil) (fun _ _ _ _ _ => (pe_cmpR op_lt (pv 1) (pv 2) (nomark _)))) pa_nil)))))), spR_by _ <| by
      rintro ds d ⟨R, rfl, rfl, hR⟩
      show Rn _ _ _ [_, _, _, _] _; refine (rn_ifs (et_or (et_not (et_B (ev_isi (b := true) (ea_cons (ev_var rfl) (ea_cons ev_ty ea_nil)) rfl (by decide +kernel)))) (fun h1 => (et_or (et_test (ev_neI (ev_lenT (ea_cons (ev_var rfl) ea_nil)) ev_int)) (fun h2 => (et_or (et_not (et_B (ev_callR rfl (ea_cons (ev_ixT (ev_var rfl) ev_int rfl) ea_nil) ⟨_, rfl, rfl, ?_⟩))) (fun h3 => (et_not (et_B (ev_callR rfl (ea_cons (ev_ixT (ev_var rfl) ev_int rfl) ea_nil) ⟨_, rfl, rfl, ?_⟩))))))))) (fun h4 => (rn_out (rn_ret (ev_as ev_bl ?_)))) (fun h4 => (rn_nx (rn_ifs (et_or (et_not (et_B (ev_isi (b := true) (ea_cons (ev_ixT (ev_var rfl) ev_int rfl) (ea_cons ev_ty ea_nil)) rfl (by decide +kernel)))) (fun h5 => (et_not (et_B (ev_all (ea_cons (ev_lc0B (wi_tup (e0 := .tup []) (ev_ixT (e := pageD R) (ev_var rfl) ev_int rfl))) ea_nil)))))) (fun h6 => (rn_out (rn_ret (ev_as ev_bl ?_)))) (fun h6 => (rn_nx (rn_ret (ev_as (ev_all (ea_cons (ev_lc0B (wi_zip0 (ea_cons (ev_ixT (e := pageD R) (ev_var rfl) ev_int rfl) (ea_cons (ev_slA (ev_ixT (e := pageD R) (ev_var rfl) ev_int rfl) (eo_some ev_int) eo_none) ea_nil)))) ea_nil)) ?_))))))))
      all_goals first
        | exact hR
        | rfl
        | exact absurd (show false = true from h4) (by decide)
        | exact absurd (show false = true from h6) (by decide)
        | exact ⟨by decide, fun c hc => by cases hc⟩⟩
def sp_need_page (K : PySem.W.Frag) : Sp := spR K fun ds d => ∃ R, ds = [pageD R] ∧ d = .non ∧ okT R
theorem sc_need_page : FnScope ["page"] ["page"] (defScope s_need_page) := ⟨rfl, rfl, rfl, by decide +kernel, rfl, by decide +kernel, by decide +kernel⟩
theorem cal_need_page (T : Tx K mg) : C8.Cal P w K mg base 4 "need_page" (sp_need_page K) [] :=
  cal_of T.d_need_page T.g_need_page sc_need_page (fun _ _ _ _ _ _ us hl => match us, hl with | [_], _ => rfl)
    (spR_len fun ds d ⟨_, e, _⟩ => by rw [e]; rfl) fun cdv A outer s H E hr => ⟨_, (pss_one (ps_if (pt_not (pt_val (C8.pe_c (cal_is_page T) hr (by decide) (by rfl) (pa_cons (pv 0) pa_nil)))) (pss_one ps_never) pss_nil)), spR_byN _ fun ds d ⟨R, e, e2, hR⟩ => by
      subst e e2
      refine ⟨rfl, ?_⟩
      apply Exists.intro
      show Rn _ _ _ [_] _; refine (rn_if (et_not (et_B (ev_callR rfl (ea_cons (ev_var rfl) ea_nil) ⟨_, rfl, rfl, ?_⟩))) (fun h1 => (rn_absurd ?_)) (fun h1 => rn_next))
      · exact hR
      · cases h1⟩
def sp_need_behind (K : PySem.W.Frag) : Sp := spR K fun ds d => ∃ M R, ds = [wayD M, .str (S R)] ∧ d = .non ∧ okT R ∧ (M.later = true ∨ R = [])
theorem sc_need_behind : FnScope ["manner", "behind"] ["manner", "behind"] (defScope s_need_behind) := ⟨rfl, rfl, rfl, by decide +kernel, rfl, by decide +kernel, by decide +kernel⟩
theorem cal_need_behind (T : Tx K mg) : C8.Cal P w K mg base 2 "need_behind" (sp_need_behind K) [] :=
  cal_of T.d_need_behind T.g_need_behind sc_need_behind (fun _ _ _ _ _ _ us hl => match us, hl with | [_, _], _ => rfl)
    (spR_len fun ds d ⟨_, _, e, _⟩ => by rw [e]; rfl) fun cdv A outer s H E hr => ⟨_, (pss_cons (ps_expr (C8.pe_c (cal_need_text T) hr (by decide) (by rfl) (pa_cons (pv 1) pa_nil))) (pss_one (ps_if (PW.pt (pw_and (pt_cmpR op_ne (pv 1) pe_str (nomark _)) (pw_and1 (pt_not (pt_val (pe_ix ix_tup (pv 0) pe_int (fun _ _ => rfl))))))) (pss_one ps_never) pss_nil))), spR_byN _ fun ds d ⟨M, R, e, e2, hR, hM⟩ => by
      subst e e2
      refine ⟨rfl, ?_⟩
      apply Exists.intro
      show Rn _ _ _ [_, _] _; refine (rn_seq (Γ1 := [_, _]) (rn_drop (ev_callR rfl (ea_cons (ev_var rfl) ea_nil) ⟨_, rfl, rfl, ?_⟩)) (rn_if (et_and (et_test (ev_neL (ev_var rfl) (ev_lit (l := []) (by decide +kernel)))) (fun h1 => (et_not (et_B (ev_ixT (ev_var rfl) ev_int rfl))))) (fun h2 => (rn_absurd ?_)) (fun h2 => rn_next)))
      · exact hR
      · rcases hM with e | e
        · rw [e, Bool.not_true, Bool.and_false] at h2
          cases h2
        · subst e
          cases h2⟩
def sp_kind_of (K : PySem.W.Frag) : Sp := spR K fun ds d => ∃ R, ds = [.str (S R)] ∧ d = .str (nmRe (KM.restOf R)) ∧ R.length ≤ 1
theorem sc_kind_of : FnScope ["sign"] ["sign"] (defScope s_kind_of) := ⟨rfl, rfl, rfl, by decide +kernel, rfl, by decide +kernel, by decide +kernel⟩
theorem cal_kind_of (T : Tx K mg) : C8.Cal P w K mg base 2 "kind_of" (sp_kind_of K) [] :=
  cal_of T.d_kind_of T.g_kind_of sc_kind_of (fun _ _ _ _ _ _ us hl => match us, hl with | [_], _ => rfl)
    (spR_len fun ds d ⟨_, e, _⟩ => by rw [e]; rfl) fun cdv A outer s H E hr => ⟨_, (pss_cons (ps_if (pt_cmpR op_eq (pv 0) pe_str (nomark _)) (pss_one (ps_ret (pe_gS (by rfl) T.c_NOTHING))) pss_nil) (pss_cons (ps_if (pt_cmpR op_in_sign (pv 0) (pe_gS (by rfl) T.c_CLOSERS) (by rfl)) (pss_one (ps_ret (pe_gS (by rfl) T.c_CLOSER))) pss_nil) (pss_cons (ps_if (pt_cmpR op_eq (pv 0) (pe_gS (by rfl) T.c_QUOTE) (nomark _)) (pss_one (ps_ret (pe_gS (by rfl) T.c_QUOTED))) pss_nil) (pss_one (ps_ret (pe_ifExp (pt_val (C8.pe_c (cal_is_free T) hr (by decide) (by rfl) (pa_cons (pv 0) pa_nil))) (pe_gS (by rfl) T.c_BLANK_SIGN) (pe_gS (by rfl) T.c_WALL))))))), spR_by _ <| by
      rintro ds d ⟨R, rfl, rfl, hl⟩
      show Rn _ _ _ [_] _; refine (rn_ifs (et_test (ev_eqL (ev_var rfl) (ev_lit (l := []) (by decide +kernel)))) (fun h1 => (rn_out (rn_ret (ev_as ev_str ?_)))) (fun h1 => (rn_nx (rn_ifs (et_test (ev_inL (ev_var rfl) (ev_lit (l := [41, 93]) (by decide +kernel)) ?_)) (fun h2 => (rn_out (rn_ret (ev_as ev_str ?_)))) (fun h2 => (rn_nx (rn_ifs (et_test (ev_eqL (ev_var rfl) (ev_lit (l := [39]) (by decide +kernel)))) (fun h3 => (rn_out (rn_ret (ev_as ev_str ?_)))) (fun h3 => (rn_nx (rn_ret (ev_as (ev_ifS (et_B (ev_callR rfl (ea_cons (ev_var rfl) ea_nil) ⟨_, rfl, rfl, ?_⟩)) (fun h4 => ev_str) (fun h4 => ev_str)) ?_)))))))))))
      · have e : R = [] := of_decide_eq_true h1
        subst e
        rfl
      all_goals (rcases cases1 hl with e | ⟨c, e⟩ <;> subst e)
      all_goals first
        | exact absurd h1 (by decide)
        | rfl
        | exact Nat.le_refl _
        | (rw [m_cls] at h2
           try simp only [m_eq] at *
           refine congrArg D.str ?_
           simp_all [KM.restOf, nmRe] <;> (by_cases hf : KM.free1 (some c) = true <;> simp [hf]))⟩
def sp_word_before (K : PySem.W.Frag) : Sp := spR K fun ds d => ∃ l, ds = [.str (S l)] ∧ d = .str (nmBe (KM.beforeOf l)) ∧ l.length ≤ 1000
theorem sc_word_before : FnScope ["left"] ["left"] (defScope s_word_before) := ⟨rfl, rfl, rfl, by decide +kernel, rfl, by decide +kernel, by decide +kernel⟩
theorem cal_word_before (T : Tx K mg) : C8.Cal P w K mg base 2 "word_before" (sp_word_before K) [] :=
  cal_of T.d_word_before T.g_word_before sc_word_before (fun _ _ _ _ _ _ us hl => match us, hl with | [_], _ => rfl)
    (spR_len fun ds d ⟨_, e, _⟩ => by rw [e]; rfl) fun cdv A outer s H E hr => ⟨_, (pss_cons (ps_if (pt_val (C8.pe_c (cal_is_letter T) hr (by decide) (by rfl) (pa_cons (pe_slice C8.sl_txt (pv 0) (po_some (pe_un un_neg pe_int)) po_none) pa_nil))) (pss_one (ps_ret (pe_gS (by rfl) T.c_LETTER))) pss_nil) (pss_one (ps_ret (pe_ifExp (pt_cmpR op_eq (pe_slice C8.sl_txt (pv 0) (po_some (pe_un un_neg pe_int)) po_none) (pe_gS (by rfl) T.c_QUOTE) (nomark _)) (pe_gS (by rfl) T.c_QUOTED) (pe_gS (by rfl) T.c_PLAIN))))), spR_by _ <| by
      rintro ds d ⟨l, rfl, rfl, hl⟩
      have e1 : oneB KM.ltr (last1 l) = KM.lastLtr l := by
        rw [last1_eq]
        unfold KM.lastLtr
        cases l.getLast? <;> rfl
      have e2 : decide (last1 l = [39]) = decide (l.getLast? = some 39) := by
        rw [last1_eq]
        cases l.getLast? with
        | none => rfl
        | some c => simp
      show Rn _ _ _ [_] _; refine (rn_ifs (et_B (ev_callR rfl (ea_cons (ev_slLast (ev_var rfl) ?_) ea_nil) ⟨_, rfl, rfl, ?_⟩)) (fun h1 => (rn_out (rn_ret (ev_as ev_str ?_)))) (fun h1 => (rn_nx (rn_ret (ev_as (ev_ifS (et_test (ev_eqL (ev_slLast (ev_var rfl) ?_) (ev_lit (l := [39]) (by decide +kernel)))) (fun h2 => ev_str) (fun h2 => ev_str)) ?_)))))
      · omega
      · rw [last1_eq]
        cases l.getLast? <;> simp
      · rw [e1] at h1
        unfold KM.beforeOf
        rw [if_pos h1]
        rfl
      · omega
      · rw [e1] at h1
        rw [e2]
        unfold KM.beforeOf
        rw [h1]
        by_cases h : l.getLast? = some 39
        · rw [decide_eq_true h, if_pos h]
          rfl
        · rw [decide_eq_false h, if_neg h]
          rfl⟩
end
end KH

/-! part KZ -/
set_option Elab.async false
set_option linter.all false
set_option maxRecDepth 100000
set_option maxHeartbeats 4000000
/-! code that changes what stands: what it keeps, what it leaves -/
namespace KD
open PySem PySem.Spec PyProof.Rows L2
/-- a relation of heaps, the data that live through it -/
structure Rel (K : PySem.W.Frag) where
  r : Hp → Hp → Prop
  refl : ∀ H, r H H
  trans : ∀ {H H' H''}, r H H' → r H' H'' → r H H''
  same : ∀ {H H'}, Same H H' → r H H'
  ok : D → Bool
  mono : ∀ {d v H H'}, ok d = true → r H H' → Dt K H d v → Dt K H' d v
def relF (K : PySem.W.Frag) : Rel K := ⟨Fz, Fz.refl, Fz.trans, Fz.of, D.fz, fun h r q => Dt.fzm r _ _ h q⟩
def okG {K : PySem.W.Frag} (L : Rel K) : Ga → Bool
  | [] => true
  | none :: Γ => okG L Γ
  | some d :: Γ => L.ok d && okG L Γ
theorem okG_c {K : PySem.W.Frag} {L : Rel K} {d : D} {Γ : Ga} (h : L.ok d = true) (g : okG L Γ = true) : okG L (some d :: Γ) = true := Bool.and_eq_true_iff.mpr ⟨h, g⟩
theorem okG_at {K : PySem.W.Frag} {L : Rel K} : ∀ {Γ : Ga}, okG L Γ = true → ∀ (i : Nat) (d : D), Γ[i]? = some (some d) → L.ok d = true
  | none :: Γ, h, 0, d, q => by cases q
  | none :: Γ, h, i + 1, d, q => okG_at (Γ := Γ) h i d q
  | some c :: Γ, h, 0, d, q => by
    have e : c = d := Option.some.inj (Option.some.inj q)
    rw [← e]
    exact (Bool.and_eq_true_iff.mp h).1
  | some c :: Γ, h, i + 1, d, q => okG_at (Γ := Γ) (Bool.and_eq_true_iff.mp h).2 i d q
section
variable {K : PySem.W.Frag} (L : Rel K)
theorem Slots.rel {L : Rel K} {H H' : Hp} {σ : L2.St} {Γ : Ga} (e : Slots K H σ Γ) (g : okG L Γ = true) (r : L.r H H') : Slots K H' σ Γ :=
  ⟨e.len, fun i d q => let ⟨v, h1, h2⟩ := e.at_ i d q; ⟨v, h1, L.mono (okG_at g i d q) r h2⟩⟩
/-- an expression: B of what comes and the heap behind -/
def Se (A : Hp → Prop) (te : TE) (Γ : Ga) (B : D → Hp → Prop) : Prop := ∀ σ H, A H → Slots K H σ Γ → ∀ Q : VK, (∀ d v H', L.r H H' → B d H' → Dt K H' d v → Q v H') → te σ H Q
/-- a statement: N of the slots and the heap behind, R of what is handed back -/
def Ss (A : Hp → Prop) (ts : TS) (Γ : Ga) (N : Ga → Hp → Prop) (R : D → Hp → Prop) : Prop := ∀ σ H (E : Ends), A H → Slots K H σ Γ →
  (∀ Γ' σ' H', L.r H H' → N Γ' H' → Slots K H' σ' Γ' → E.nx σ' H') → (∀ d v H', L.r H H' → R d H' → Dt K H' d v → E.rt v H') → ts E σ H
end
section
variable {K : PySem.W.Frag} {L : Rel K} {A B : Hp → Prop} {Y : Hy} {Γ Γ' Γ1 : Ga} {ta tb te : TE} {t u v : TS} {d x y : D} {N : Ga → Hp → Prop} {R : D → Hp → Prop} {b : Bool} {c : TT}
theorem se_of {B : D → Hp → Prop} (h : Ev K Y te Γ d) (hb : ∀ H, Y.p H → B d H) : Se L Y.p te Γ B := fun σ H a e Q q =>
  h σ H a e Q fun v H' s h1 => q d v H' (L.same s) (hb H' (Y.st _ _ s a)) h1
theorem se_mono {B B' : D → Hp → Prop} (h : Se L A te Γ B) (hb : ∀ d H, B d H → B' d H) : Se L A te Γ B' := fun σ H a e Q q =>
  h σ H a e Q fun d v H' r b h1 => q d v H' r (hb d H' b) h1
/-- the first part changes nothing, the second may -/
theorem se_op2 {r : R2} {B1 B2 : D → Hp → Prop} (ha : Ev K Y ta Γ x) (hx : L.ok x = true) (hb : Se L Y.p tb Γ B1) (hr : ∀ H v u y, B1 y H → Dt K H x v → Dt K H y u → ∀ Q : VK, (∀ d z H', Same H H' → B2 d H' → Dt K H' d z → Q z H') → r v u H Q) :
    Se L Y.p (tOp r ta tb) Γ B2 := fun σ H a e Q q =>
  ha σ H a e _ fun v H1 s1 h1 => hb σ H1 (Y.st _ _ s1 a) (e.mono s1) _ fun y u H2 r2 b2 h2 =>
    hr H2 v u y b2 (L.mono hx r2 h1) h2 Q fun d z H3 s3 b3 h3 => q d z H3 (L.trans (L.same s1) (L.trans r2 (L.same s3))) b3 h3
/-- the first part may change, the second not -/
theorem se_op1 {r : R2} {B1 B2 : D → Hp → Prop} (ha : Se L A ta Γ B1) (g : okG L Γ = true) (hr : ∀ x σ H v, B1 x H → Dt K H x v → Slots K H σ Γ → ∀ Q : VK, (∀ d z H', Same H H' → B2 d H' → Dt K H' d z → Q z H') → tb σ H fun u H2 => r v u H2 Q) :
    Se L A (tOp r ta tb) Γ B2 := fun σ H a e Q q =>
  ha σ H a e _ fun x v H1 r1 b1 h1 => hr x σ H1 v b1 h1 (e.rel g r1) Q fun d z H3 s3 b3 h3 => q d z H3 (L.trans r1 (L.same s3)) b3 h3
theorem ss_mono {A' : Hp → Prop} {N' : Ga → Hp → Prop} {R' : D → Hp → Prop} (h : Ss L A t Γ N R) (ha : ∀ H, A' H → A H) (hn : ∀ G H, N G H → N' G H) (hr : ∀ d H, R d H → R' d H) : Ss L A' t Γ N' R' := fun σ H E a e k kr =>
  h σ H E (ha H a) e (fun G σ' H' r n e' => k G σ' H' r (hn G H' n) e') (fun d v H' r q h1 => kr d v H' r (hr d H' q) h1)
theorem ss_next (h : ∀ H, A H → N Γ H) : Ss L A tNext Γ N R := fun σ H E a e k _ => k Γ σ H (L.refl H) (h H a) e
theorem ss_seq {N1 : Ga → Hp → Prop} (h1 : Ss L A t Γ N1 R) (h2 : ∀ G, Ss L (N1 G) u G N R) : Ss L A (tSeq t u) Γ N R := fun σ H E a e k kr =>
  h1 σ H { E with nx := u E } a e (fun G σ' H' r n e' => h2 G σ' H' E n e' (fun G2 σ2 H2 r2 n2 e2 => k G2 σ2 H2 (L.trans r r2) n2 e2) (fun d v H2 r2 q h => kr d v H2 (L.trans r r2) q h)) kr
/-- on to one known row of slots -/
theorem ss_to (h1 : Ss L A t Γ (fun G H => G = Γ1 ∧ B H) R) (h2 : Ss L B u Γ1 N R) : Ss L A (tSeq t u) Γ N R :=
  ss_seq h1 fun G σ H E a => by
    obtain ⟨e, b⟩ := a
    subst e
    exact h2 σ H E b
theorem ss_toE {ι : Type} {Γi : ι → Ga} {Bi : ι → Hp → Prop} (h1 : Ss L A t Γ (fun G H => ∃ i, G = Γi i ∧ Bi i H) R) (h2 : ∀ i, Ss L (Bi i) u (Γi i) N R) : Ss L A (tSeq t u) Γ N R :=
  ss_seq h1 fun G σ H E a => by
    obtain ⟨i, e, b⟩ := a
    subst e
    exact h2 i σ H E b
theorem ss_nx (h : Ss L A u Γ N R) : Ss L A (tSeq tNext u) Γ N R := ss_to (ss_next fun H a => ⟨rfl, a⟩) h
theorem ss_seq3 (h : Ss L A (tSeq t (tSeq u v)) Γ N R) : Ss L A (tSeq (tSeq t u) v) Γ N R := h
theorem ss_rn {R : D → Hp → Prop} (h : Rn K Y t Γ (.nx Γ')) (hn : ∀ H, Y.p H → N Γ' H) : Ss L Y.p t Γ N R := fun σ H E a e k _ =>
  h σ H E a e fun σ' H' s e' => k Γ' σ' H' (L.same s) (hn H' (Y.st _ _ s a)) e'
theorem ss_rt (h : Rn K Y t Γ (.rt d)) (hr : ∀ H, Y.p H → R d H) : Ss L Y.p t Γ N R := fun σ H E a e _ kr =>
  h σ H E a e fun v H' s h' => kr d v H' (L.same s) (hr H' (Y.st _ _ s a)) h'
theorem ss_out (h : Ss L A t Γ (fun _ _ => False) R) : Ss L A (tSeq t u) Γ N R := fun σ H E a e _ kr =>
  h σ H { E with nx := u E } a e (fun _ _ _ _ n _ => n.elim) kr
theorem ss_absurd (h : False) : Ss L A t Γ N R := h.elim
theorem ss_if (hc : Et K Y c Γ b) (h1 : b = true → Ss L Y.p t Γ N R) (h2 : b = false → Ss L Y.p u Γ N R) : Ss L Y.p (tIfS c t u) Γ N R := fun σ H E a e k kr =>
  hc σ H a e _ fun H1 s1 => by
    have k' := fun G σ' H' (r : L.r H1 H') (n : N G H') e' => k G σ' H' (L.trans (L.same s1) r) n e'
    have kr' := fun d v H' (r : L.r H1 H') (q : R d H') h => kr d v H' (L.trans (L.same s1) r) q h
    cases b with
    | true => exact h1 rfl σ H1 E (Y.st _ _ s1 a) (e.mono s1) k' kr'
    | false => exact h2 rfl σ H1 E (Y.st _ _ s1 a) (e.mono s1) k' kr'
theorem ss_ifs (hc : Et K Y c Γ b) (h1 : b = true → Ss L Y.p (tSeq t v) Γ N R) (h2 : b = false → Ss L Y.p (tSeq u v) Γ N R) : Ss L Y.p (tSeq (tIfS c t u) v) Γ N R := fun σ H E a e k kr =>
  hc σ H a e _ fun H1 s1 => by
    have k' := fun G σ' H' (r : L.r H1 H') (n : N G H') e' => k G σ' H' (L.trans (L.same s1) r) n e'
    have kr' := fun d v H' (r : L.r H1 H') (q : R d H') h => kr d v H' (L.trans (L.same s1) r) q h
    cases b with
    | true => exact h1 rfl σ H1 E (Y.st _ _ s1 a) (e.mono s1) k' kr'
    | false => exact h2 rfl σ H1 E (Y.st _ _ s1 a) (e.mono s1) k' kr'
theorem ss_set {B : D → Hp → Prop} {i : Nat} (h : Se L A te Γ B) (g : okG L Γ = true) (hn : ∀ d H, B d H → N (Γ.set i (some d)) H) : Ss L A (tAsg te (gName i)) Γ N R := fun σ H E a e k _ =>
  h σ H a e _ fun d v H' r b h' => k _ _ H' r (hn d H' b) ((e.rel g r).set h')
theorem ss_ret (h : Se L A te Γ R) : Ss L A (tRet te) Γ N R := fun σ H E a e _ kr => h σ H a e _ fun d v H' r b h' => kr d v H' r b h'
theorem ss_retN (h : ∀ H, A H → R .non H) : Ss L A tRetN Γ N R := fun σ H E a e _ kr => kr .non .non H (L.refl H) (h H a) rfl
theorem ss_drop {B : D → Hp → Prop} (h : Se L A te Γ B) (g : okG L Γ = true) (hn : ∀ d H, B d H → N Γ H) : Ss L A (tDrop te) Γ N R := fun σ H E a e k _ =>
  h σ H a e _ fun d v H' r b h' => k Γ σ H' r (hn d H' b) (e.rel g r)
theorem ss_par3c {B : D → Hp → Prop} {i j l : Nat} {v2 v3 : V} {d2 d3 : D} (h : Se L A te Γ B) (g : okG L Γ = true) (h2 : ∀ H, Dt K H d2 v2) (h3 : ∀ H, Dt K H d3 v3) (hn : ∀ d H, B d H → N (((Γ.set i (some d)).set j (some d2)).set l (some d3)) H) :
    Ss L A (tPar3 i j l (tCons te (tCons (tC v2) (tCons (tC v3) tNil)))) Γ N R := fun σ H E a e k _ =>
  h σ H a e _ fun d v H' r b h' => ⟨v, v2, v3, rfl, k _ _ H' r (hn d H' b) ((((e.rel g r).set h').set (h2 H')).set (h3 H'))⟩
theorem rn_augI {i : Nat} {p q : Int} (hv : Γ[i]? = some (some (.int p))) (h : Ev K Y te Γ (.int q)) : Rn K Y (tAug i te (ipI fun i j => i + j)) Γ (.nx (Γ.set i (some (.int (p + q))))) := fun σ H E a e k => by
  obtain ⟨v, h1, h2⟩ := e.at_ i _ hv
  refine ⟨v, h1, h σ H a e _ fun u H1 s1 h3 => ⟨p, q, h2, h3, k _ H1 s1 ((e.mono s1).set rfl)⟩⟩
theorem rn_augS {i : Nat} {p q : List Nat} (hv : Γ[i]? = some (some (.str (S p)))) (h : Ev K Y te Γ (.str (S q))) (hl : p.length + q.length ≤ 100000) : Rn K Y (tAug i te KH.ipS) Γ (.nx (Γ.set i (some (.str (S (p ++ q)))))) := fun σ H E a e k => by
  obtain ⟨v, h1, h2⟩ := e.at_ i _ hv
  refine ⟨v, h1, h σ H a e _ fun u H1 s1 h3 => ⟨S p, S q, h2, h3, by rw [S_len, S_len]; exact small hl, k _ H1 s1 ((e.mono s1).set (by rw [S_cat]; rfl))⟩⟩
/-! loops -/
theorem ss_for {n : Nat} {wi : TI} {g : TG} {js : List Nat} {out : D → List D} {okd : D → Prop} {Z : Nat → D → Prop} (I : Nat → Ga → Hp → Prop) (hw : WiR K Y L.r wi Γ n Z) (hg : TgOk K g js out okd) (h0 : ∀ H, Y.p H → I 0 Γ H)
    (hst : ∀ i G H H', Same H H' → I i G H → I i G H')
    (hs : ∀ i d G, i < n → Z i d → okd d ∧ Ss L (I i G) t (setAll G js (out d)) (fun G' H => ∃ G'', leG G' G'' ∧ I (i + 1) G'' H) R)
    (hn : ∀ G H, I n G H → N G H) : Ss L Y.p (tFor wi g t) Γ N R := by
  intro σ H E a e k kr
  refine hw σ H a e _ fun J H1 s1 w => ?_
  obtain ⟨Gd, Zd, W, hG, hZ⟩ := w
  refine for_it W (fun i σ' H' => L.r H1 H' ∧ ∃ G, I i G H' ∧ Slots K H' σ' G) ⟨L.refl H1, Γ, h0 H1 (Y.st _ _ s1 a), e.mono s1⟩ (fun i σ' H' _ q => hG H' q.1) (fun i x σ' H' H2 hi q z => ?_) (fun σ' H' ⟨r, G, i1, e1⟩ => k G σ' H' (L.trans (L.same s1) r) (hn G H' i1) e1)
  obtain ⟨r1, G, i1, e1⟩ := q
  obtain ⟨s2, d, zd, hd⟩ := hZ i H' x H2 hi r1 z
  obtain ⟨ok, h⟩ := hs i d G hi zd
  refine hg d x σ' H2 G _ ok hd (e1.mono s2) fun σ2 e2 _ _ => ?_
  refine h σ2 H2 _ (hst i G _ _ s2 i1) e2 (fun G' σ3 H3 r3 ⟨G'', l3, i3⟩ e3 => ⟨L.trans (L.trans r1 (L.same s2)) r3, G'', i3, e3.le l3⟩) (fun d v H3 r3 q3 h3 => kr d v H3 (L.trans (L.trans (L.same s1) (L.trans r1 (L.same s2))) r3) q3 h3)
/-- while, the turns told by a measure -/
theorem ss_while {c : TT} (I : Nat → Ga → Hy) (n0 : Nat) (h0 : ∀ H, A H → (I n0 Γ).p H) (bf : Nat → Ga → Bool) (hc : ∀ n G, (∃ H, (I n G).p H) → Et K (I n G) c G (bf n G))
    (hs : ∀ n G, (∃ H, (I n G).p H) → bf n G = true → Ss L (I n G).p t G (fun G' H => ∃ m G'', m < n ∧ leG G' G'' ∧ (I m G'').p H) R) (hn : ∀ n G H, (I n G).p H → bf n G = false → N G H) : Ss L A (tWhile c t) Γ N R := by
  intro σ H E a e k kr
  refine ⟨fun n σ' H' => L.r H H' ∧ ∃ G, (I n G).p H' ∧ Slots K H' σ' G, ⟨n0, L.refl H, Γ, h0 H a, e⟩, fun n σ1 H1 ⟨r1, G, i1, e1⟩ => ?_⟩
  refine hc n G ⟨H1, i1⟩ σ1 H1 i1 e1 _ fun H2 s2 => ?_
  by_cases hb : bf n G = true
  · rw [if_pos hb]
    refine ⟨_, fun _ _ z => z, hs n G ⟨H1, i1⟩ hb σ1 H2 _ ((I n G).st _ _ s2 i1) (e1.mono s2) (fun G' σ3 H3 r3 ⟨m, G'', lt, le, i3⟩ e3 => ⟨m, lt, L.trans r1 (L.trans (L.same s2) r3), G'', i3, e3.le le⟩)
      (fun d v H3 r3 q3 h3 => kr d v H3 (L.trans r1 (L.trans (L.same s2) r3)) q3 h3)⟩
  · rw [if_neg hb]
    exact k G σ1 H2 (L.trans r1 (L.same s2)) (hn n G H2 ((I n G).st _ _ s2 i1) (by simpa using hb)) (e1.mono s2)
/-! promises -/
def spS (L : Rel K) (P : Hp → List D → (D → Hp → Prop) → Prop) : Sp := fun vs H Q _ => ∃ ds B, P H ds B ∧ DtL K H ds vs ∧ ∀ d v H', L.r H H' → B d H' → Dt K H' d v → Q v H'
theorem spS_len {P : Hp → List D → (D → Hp → Prop) → Prop} {n : Nat} (h : ∀ H ds B, P H ds B → ds.length = n) (vs : List V) (H : Hp) (Q : VK) (E : XK) (q : spS L P vs H Q E) : vs.length = n := by
  obtain ⟨ds, B, h1, h2, _⟩ := q
  rw [h2.length, h H ds B h1]
theorem se_call {P : Hp → List D → (D → Hp → Prop) → Prop} {sp : Sp} {E : XK} {tr : TA} {ds : List D} {B : D → Hp → Prop} (hs : sp = spS L P) (h : Ea K Y tr Γ ds) (hr : ∀ H, Y.p H → P H ds B) : Se L Y.p (tCall sp [] E tr) Γ B := by
  subst hs
  exact fun σ H a e Q q => h σ H a e _ fun vs H1 s1 h1 => ⟨ds, B, hr H1 (Y.st _ _ s1 a), by rw [List.append_nil]; exact h1, fun d v H2 r2 b h2 => q d v H2 (L.trans (L.same s1) r2) b h2⟩
theorem se_meth {P : Hp → List D → (D → Hp → Prop) → Prop} {sp : Sp} {E : XK} {tr : TA} {ds : List D} {B : D → Hp → Prop} {C p : Addr} {m : Str} (hs : sp = spS L P) (ho : Ev K Y ta Γ (.adr p)) (hc : ∀ H, Y.p H → Obj p C m H) (h : Ea K Y tr Γ ds)
    (hr : ∀ H, Y.p H → P H (.adr p :: ds) B) : Se L Y.p (tMeth C m sp [] E ta tr) Γ B := by
  subst hs
  exact fun σ H a e Q q => ho σ H a e _ fun v H1 s1 h1 => by
    have e1 : v = .ref p := h1
    subst e1
    obtain ⟨dx, fs, h2, h3⟩ := hc H1 (Y.st _ _ s1 a)
    exact ⟨p, dx, fs, rfl, h2, h3, h σ H1 (Y.st _ _ s1 a) (e.mono s1) _ fun vs H2 s2 h4 => ⟨_, B, hr H2 (Y.st _ _ (s1.trans s2) a), by rw [List.append_nil]; exact ⟨_, _, rfl, rfl, h4⟩, fun d v H3 r3 b h5 => q d v H3 (L.trans (L.same (s1.trans s2)) r3) b h5⟩⟩
theorem spS_by {P : Hp → List D → (D → Hp → Prop) → Prop} (Nm : List Str) {ts : TS} {H : Hp} {E : XK} (h : ∀ ds B, P H ds B → ∃ A : Hp → Prop, A H ∧ Ss L A ts (gst Nm.length ds) (fun _ H' => B .non H') B) (vs : List V) (Q : VK) (q : spS L P vs H Q E) :
    ts { nx := fun _ H' => Q .non H', rt := Q } (L2.start Nm vs) H := by
  obtain ⟨ds, B, h1, h2, h3⟩ := q
  obtain ⟨A, a, h4⟩ := h ds B h1
  exact h4 _ H _ a (Slots.start h2) (fun G σ' H' r n _ => h3 .non .non H' r n rfl) h3
/-- while, n turns, the slots told by the turn -/
theorem ss_whileN {c : TT} (n : Nat) (I : Nat → Hy) (Γf : Nat → Ga) (h0 : leG Γ (Γf 0)) (hA : ∀ H, A H → (I 0).p H) (hc : ∀ m, m ≤ n → Et K (I m) c (Γf m) (decide (m < n)))
    (hs : ∀ m, m < n → Ss L (I m).p t (Γf m) (fun G' H => leG G' (Γf (m + 1)) ∧ (I (m + 1)).p H) R) (hn : ∀ H, (I n).p H → N (Γf n) H) : Ss L A (tWhile c t) Γ N R := by
  intro σ H E a e k kr
  refine ⟨fun q σ' H' => ∃ m, m ≤ n ∧ q = n - m ∧ L.r H H' ∧ (I m).p H' ∧ Slots K H' σ' (Γf m), ⟨n, 0, Nat.zero_le _, rfl, L.refl H, hA H a, e.le h0⟩, fun q σ1 H1 ⟨m, hm, hq, r1, i1, e1⟩ => ?_⟩
  refine hc m hm σ1 H1 i1 e1 _ fun H2 s2 => ?_
  by_cases hl : m < n
  · rw [decide_eq_true hl, if_pos rfl]
    exact ⟨_, fun _ _ z => z, hs m hl σ1 H2 _ ((I m).st _ _ s2 i1) (e1.mono s2) (fun G' σ3 H3 r3 ⟨le, i3⟩ e3 => ⟨n - (m + 1), by omega, m + 1, hl, rfl, L.trans r1 (L.trans (L.same s2) r3), i3, e3.le le⟩)
      (fun d v H3 r3 q3 h3 => kr d v H3 (L.trans r1 (L.trans (L.same s2) r3)) q3 h3)⟩
  · rw [decide_eq_false hl, if_neg (by decide)]
    have e2 : m = n := by omega
    subst e2
    exact k _ σ1 H2 (L.trans r1 (L.same s2)) (hn H2 ((I m).st _ _ s2 i1)) (e1.mono s2)
/-- a loop whose slots are told by the turn -/
theorem ss_forN {n : Nat} {wi : TI} {g : TG} {js : List Nat} {out : D → List D} {okd : D → Prop} {Z : Nat → D → Prop} (I : Nat → Hy) (Γf : Nat → Ga) (hw : WiR K Y L.r wi Γ n Z) (hg : TgOk K g js out okd) (h0 : leG Γ (Γf 0)) (hA : ∀ H, Y.p H → (I 0).p H)
    (hs : ∀ i d, i < n → Z i d → okd d ∧ Ss L (I i).p t (setAll (Γf i) js (out d)) (fun G' H => leG G' (Γf (i + 1)) ∧ (I (i + 1)).p H) R) (hn : ∀ H, (I n).p H → N (Γf n) H) : Ss L Y.p (tFor wi g t) Γ N R := by
  intro σ H E a e k kr
  refine hw σ H a e _ fun J H1 s1 w => ?_
  obtain ⟨Gd, Zd, W, hG, hZ⟩ := w
  refine for_it W (fun i σ' H' => L.r H1 H' ∧ (I i).p H' ∧ Slots K H' σ' (Γf i)) ⟨L.refl H1, hA H1 (Y.st _ _ s1 a), (e.mono s1).le h0⟩ (fun i σ' H' _ q => hG H' q.1) (fun i x σ' H' H2 hi q z => ?_) (fun σ' H' ⟨r, i1, e1⟩ => k _ σ' H' (L.trans (L.same s1) r) (hn H' i1) e1)
  obtain ⟨r1, i1, e1⟩ := q
  obtain ⟨s2, d, zd, hd⟩ := hZ i H' x H2 hi r1 z
  obtain ⟨ok, h⟩ := hs i d hi zd
  refine hg d x σ' H2 (Γf i) _ ok hd (e1.mono s2) fun σ2 e2 _ _ => ?_
  exact h σ2 H2 _ ((I i).st _ _ s2 i1) e2 (fun G' σ3 H3 r3 ⟨l3, i3⟩ e3 => ⟨L.trans (L.trans r1 (L.same s2)) r3, i3, e3.le l3⟩) (fun d v H3 r3 q3 h3 => kr d v H3 (L.trans (L.trans (L.same s1) (L.trans r1 (L.same s2))) r3) q3 h3)
/-- a def that changes only what it made itself -/
theorem spR_byS {Rr : List D → D → Prop} (Nm : List Str) {ts : TS} {H : Hp} {E : XK} (h : ∀ ds d, Rr ds d → Ss (relF K) (fun H' => Same H H') ts (gst Nm.length ds) (fun _ H' => d = .non ∧ Same H H') (fun d' H' => d' = d ∧ Same H H')) (vs : List V) (Q : VK) (q : spR K Rr vs H Q E) :
    ts { nx := fun _ H' => Q .non H', rt := Q } (L2.start Nm vs) H := by
  obtain ⟨ds, d, h1, h2, h3⟩ := q
  refine h ds d h1 _ H _ (Same.refl H) (Slots.start h2) (fun G σ' H' r n _ => h3 _ H' n.2 ?_) (fun d' v H' r n hd => h3 v H' n.2 ?_)
  · rw [n.1]; rfl
  · rw [← n.1]; exact hd
def sameY (H : Hp) : Hy := ⟨fun H' => Same H H', fun _ _ s h => h.trans s⟩
end
end KD

/-! part K5 -/
set_option Elab.async false
set_option linter.all false
set_option maxRecDepth 100000
set_option maxHeartbeats 4000000
namespace KH
open PySem PySem.Spec PyProof.Rows L2 KD
/-! an instance of C at a with the attributes fs; H0: a heap that stands below -/
def objY (H0 : Hp) (a C : Addr) (fs : List (Str × V)) : Hy := ⟨fun H => Same H0 H ∧ H0 a = none ∧ ∃ dx, H a = some (.ins C dx fs), fun H H' s h => ⟨h.1.trans s, h.2.1, let ⟨dx, e⟩ := h.2.2; ⟨dx, s _ _ e⟩⟩⟩
section
variable {K : PySem.W.Frag} {H0 : Hp} {a C : Addr} {fs fs' : List (Str × V)} {Γ : Ga} {ta tv : TE} {f m : Str} {v : V} {d : D} {R : D → Hp → Prop}
theorem objY_obj (h : fs.lookup m = none) : ∀ H, (objY H0 a C fs).p H → Obj a C m H := fun H p => let ⟨dx, e⟩ := p.2.2; ⟨dx, fs, e, h⟩
theorem ev_at (cl : Cls K C) (na : NoAttr K C f) (ho : Ev K (objY H0 a C fs) ta Γ (.adr a)) (hl : fs.lookup f = some v) (hv : ∀ H, Dt K H d v) : Ev K (objY H0 a C fs) (tFld K ta f) Γ d :=
  ev_fld ho fun H p => let ⟨dx, e⟩ := p.2.2; ⟨C, dx, fs, v, e, cl, na, hl, hv H⟩
theorem ss_fldO (cl : Cls K C) (na : NoAttr K C f) (ho : Ev K (objY H0 a C fs) ta Γ (.adr a)) (hv : Ev K (objY H0 a C fs) tv Γ d) (hd : ∀ H u, Dt K H d u → u = v) (hl : fs.length < 1000) (hf : putF f v fs = fs') (g : okG (relF K) Γ = true) :
    Ss (relF K) (objY H0 a C fs).p (sFld K ta tv f) Γ (fun G H => G = Γ ∧ (objY H0 a C fs').p H) R := fun σ H E p e k _ =>
  hv σ H p e _ fun y H1 s1 h1 => ho σ H1 ((objY H0 a C fs).st _ _ s1 p) (e.mono s1) _ fun x H2 s2 h2 => by
    have e1 : x = .ref a := h2
    have e2 := hd _ _ h1
    subst e1 e2 hf
    obtain ⟨b0, n0, dx, q⟩ := (objY H0 a C fs).st _ _ (s1.trans s2) p
    have fz : Fz H2 (upd H2 a (.ins C dx (putF f y fs))) := fz_upd fun xs z => by rw [q] at z; cases z
    refine ⟨a, C, dx, fs, rfl, q, cl, na, hl, k Γ σ _ ((Fz.of (s1.trans s2)).trans fz) ⟨rfl, ?_, n0, dx, upd_same⟩ ((e.mono (s1.trans s2)).rel g fz)⟩
    intro b o z
    rw [upd_ne (ne_of_none z n0)]
    exact b0 _ _ z
end
section
variable {P : Program} {w : World} {K : PySem.W.Frag} {mg : Str → Option Value} {base : Heap}
/-! ### meant.py -/
def rdF (w n b o : V) : List (Str × V) := [("has_words", w), ("needs", n), ("before", b), ("is_open", o)]
theorem rdF_w (w n b o : V) : (rdF w n b o).lookup ("has_words" : Str) = some w := by simp [rdF, List.lookup]
theorem ne1 : (("needs" : Str) == ("has_words" : Str)) = false := by decide +kernel
theorem ne2 : (("before" : Str) == ("has_words" : Str)) = false := by decide +kernel
theorem ne3 : (("before" : Str) == ("needs" : Str)) = false := by decide +kernel
theorem ne4 : (("is_open" : Str) == ("has_words" : Str)) = false := by decide +kernel
theorem ne5 : (("is_open" : Str) == ("needs" : Str)) = false := by decide +kernel
theorem ne6 : (("is_open" : Str) == ("before" : Str)) = false := by decide +kernel
theorem rdF_n (w n b o : V) : (rdF w n b o).lookup ("needs" : Str) = some n := by simp [rdF, List.lookup, ne1]
theorem rdF_b (w n b o : V) : (rdF w n b o).lookup ("before" : Str) = some b := by simp [rdF, List.lookup, ne2, ne3]
theorem rdF_o (w n b o : V) : (rdF w n b o).lookup ("is_open" : Str) = some o := by simp [rdF, List.lookup, ne4, ne5, ne6]
theorem nq {f g : Str} (h : (g == f) = false) : f ≠ g := fun e => by rw [e] at h; simp at h
theorem rdP_n (w n b o v : V) : putF "needs" v (rdF w n b o) = rdF w v b o := by
  unfold rdF putF
  rw [if_neg (nq ne1)]
  unfold putF
  rw [if_pos rfl]
theorem rdP_b (w n b o v : V) : putF "before" v (rdF w n b o) = rdF w n v o := by
  unfold rdF putF
  rw [if_neg (nq ne2)]
  unfold putF
  rw [if_neg (nq ne3)]
  unfold putF
  rw [if_pos rfl]
theorem rdP_o (w n b o v : V) : putF "is_open" v (rdF w n b o) = rdF w n b v := by
  unfold rdF putF
  rw [if_neg (nq ne4)]
  unfold putF
  rw [if_neg (nq ne5)]
  unfold putF
  rw [if_neg (nq ne6)]
  unfold putF
  rw [if_pos rfl]
theorem rdN_q (w n b o : V) : (rdF w n b o).lookup ("is_quoted" : Str) = none := by
  have h1 : (("is_quoted" : Str) == ("has_words" : Str)) = false := by decide +kernel
  have h2 : (("is_quoted" : Str) == ("needs" : Str)) = false := by decide +kernel
  have h3 : (("is_quoted" : Str) == ("before" : Str)) = false := by decide +kernel
  have h4 : (("is_quoted" : Str) == ("is_open" : Str)) = false := by decide +kernel
  simp [rdF, List.lookup, h1, h2, h3, h4]
theorem rdN_c (w n b o : V) : (rdF w n b o).lookup ("can_read" : Str) = none := by
  have h1 : (("can_read" : Str) == ("has_words" : Str)) = false := by decide +kernel
  have h2 : (("can_read" : Str) == ("needs" : Str)) = false := by decide +kernel
  have h3 : (("can_read" : Str) == ("before" : Str)) = false := by decide +kernel
  have h4 : (("can_read" : Str) == ("is_open" : Str)) = false := by decide +kernel
  simp [rdF, List.lookup, h1, h2, h3, h4]
theorem rdN_r (w n b o : V) : (rdF w n b o).lookup ("read" : Str) = none := by
  have h1 : (("read" : Str) == ("has_words" : Str)) = false := by decide +kernel
  have h2 : (("read" : Str) == ("needs" : Str)) = false := by decide +kernel
  have h3 : (("read" : Str) == ("before" : Str)) = false := by decide +kernel
  have h4 : (("read" : Str) == ("is_open" : Str)) = false := by decide +kernel
  simp [rdF, List.lookup, h1, h2, h3, h4]
/-- a reading at a -/
def rdY (K : PySem.W.Frag) (H0 : Hp) (a : Addr) (b : Bool) (r : KM.Rd) : Hy := objY H0 a (He.ga K "Reading") (rdF (.bl b) (.str (S r.needs.reverse)) (.str (S r.before.toList)) (.bl r.opn))
section
variable {H0 : Hp} {a : Addr} {b o : Bool} {r : KM.Rd} {Γ : Ga} {ta tv : TE} {R : D → Hp → Prop} {l : List Nat} {c : Nat} {mg' : Str → Option Value}
theorem rd_words (T : Tx K mg) (ho : Ev K (rdY K H0 a b r) ta Γ (.adr a)) : Ev K (rdY K H0 a b r) (tFld K ta "has_words") Γ (.bl b) := ev_at (v := .bl b) T.cl_Reading T.na_Reading_has_words ho (rdF_w _ _ _ _) fun _ => rfl
theorem rd_needs (T : Tx K mg) (ho : Ev K (rdY K H0 a b r) ta Γ (.adr a)) : Ev K (rdY K H0 a b r) (tFld K ta "needs") Γ (.str (S r.needs.reverse)) := ev_at (v := .str (S r.needs.reverse)) T.cl_Reading T.na_Reading_needs ho (rdF_n _ _ _ _) fun _ => rfl
theorem rd_before (T : Tx K mg) (ho : Ev K (rdY K H0 a b r) ta Γ (.adr a)) : Ev K (rdY K H0 a b r) (tFld K ta "before") Γ (.str (S r.before.toList)) := ev_at (v := .str (S r.before.toList)) T.cl_Reading T.na_Reading_before ho (rdF_b _ _ _ _) fun _ => rfl
theorem rd_opn (T : Tx K mg) (ho : Ev K (rdY K H0 a b r) ta Γ (.adr a)) : Ev K (rdY K H0 a b r) (tFld K ta "is_open") Γ (.bl r.opn) := ev_at (v := .bl r.opn) T.cl_Reading T.na_Reading_is_open ho (rdF_o _ _ _ _) fun _ => rfl
theorem ss_rdN (T : Tx K mg) (ho : Ev K (rdY K H0 a b r) ta Γ (.adr a)) (hv : Ev K (rdY K H0 a b r) tv Γ (.str (S l))) (g : okG (relF K) Γ = true) :
    Ss (relF K) (rdY K H0 a b r).p (sFld K ta tv "needs") Γ (fun G H => G = Γ ∧ (rdY K H0 a b ⟨l.reverse, r.before, r.opn⟩).p H) R :=
  ss_fldO T.cl_Reading T.na_Reading_needs ho hv (fun _ _ h => h) (by show 4 < 1000; decide) (by rw [rdP_n, List.reverse_reverse]) g
theorem ss_rdB (T : Tx K mg) (ho : Ev K (rdY K H0 a b r) ta Γ (.adr a)) (hv : Ev K (rdY K H0 a b r) tv Γ (.str (S [c]))) (g : okG (relF K) Γ = true) :
    Ss (relF K) (rdY K H0 a b r).p (sFld K ta tv "before") Γ (fun G H => G = Γ ∧ (rdY K H0 a b ⟨r.needs, some c, r.opn⟩).p H) R :=
  ss_fldO T.cl_Reading T.na_Reading_before ho hv (fun _ _ h => h) (by show 4 < 1000; decide) (rdP_b _ _ _ _ _) g
theorem ss_rdO (T : Tx K mg) (ho : Ev K (rdY K H0 a b r) ta Γ (.adr a)) (hv : Ev K (rdY K H0 a b r) tv Γ (.bl o)) (g : okG (relF K) Γ = true) :
    Ss (relF K) (rdY K H0 a b r).p (sFld K ta tv "is_open") Γ (fun G H => G = Γ ∧ (rdY K H0 a b ⟨r.needs, r.before, o⟩).p H) R :=
  ss_fldO T.cl_Reading T.na_Reading_is_open ho hv (fun _ _ h => h) (by show 4 < 1000; decide) (rdP_o _ _ _ _ _) g
theorem ss_rdA (T : Tx K mg) (ho : Ev K (rdY K H0 a b r) ta Γ (.adr a)) (hv : Ev K (rdY K H0 a b r) tv Γ (.str (S l))) (hl : r.needs.length + l.length ≤ 100000) (g : okG (relF K) Γ = true) :
    Ss (relF K) (rdY K H0 a b r).p (sFldAug K ta tv rAddS "needs") Γ (fun G H => G = Γ ∧ (rdY K H0 a b ⟨l.reverse ++ r.needs, r.before, r.opn⟩).p H) R := fun σ H E p e k _ =>
  ho σ H p e _ fun x H1 s1 h1 => by
    have e1 : x = .ref a := h1
    subst e1
    have p1 := (rdY K H0 a b r).st _ _ s1 p
    obtain ⟨_, _, dx, q⟩ := id p1
    refine ⟨a, _, dx, _, _, rfl, q, T.cl_Reading, T.na_Reading_needs, rdF_n _ _ _ _, hv σ H1 p1 (e.mono s1) _ fun y H2 s2 h2 => ?_⟩
    have e2 : y = .str (S l) := h2
    subst e2
    obtain ⟨b2, n2, dx2, q2⟩ := (rdY K H0 a b r).st _ _ s2 p1
    refine ⟨_, _, rfl, rfl, by rw [S_len, S_len, List.length_reverse]; exact small hl, dx2, _, q2, by show 4 < 1000; decide, ?_⟩
    rw [rdP_n]
    have e3 : S r.needs.reverse ++ S l = S (l.reverse ++ r.needs).reverse := by rw [S_cat, List.reverse_append, List.reverse_reverse]
    rw [e3]
    have fz : ∀ o, Fz H2 (upd H2 a o) := fun o => fz_upd fun xs z => by rw [q2] at z; cases z
    refine k Γ σ _ ((Fz.of (s1.trans s2)).trans (fz _)) ⟨rfl, ?_, n2, dx2, upd_same⟩ ((e.mono (s1.trans s2)).rel g (fz _))
    intro b' o' z
    rw [upd_ne (ne_of_none z n2)]
    exact b2 _ _ z
end
theorem last_rev (l : List Nat) : last1 l.reverse = l.head?.toList := by
  rw [last1_eq]
  simp
def sp_Reading_is_quoted (K : PySem.W.Frag) : Sp := spH K fun H ds d => ∃ H0 a b r, (rdY K H0 a b r).p H ∧ ds = [.adr a] ∧ d = .bl r.quoted ∧ r.needs.length ≤ 1000
theorem sc_Reading_is_quoted : FnScope ["self"] ["self"] (defScope s_Reading_is_quoted) := ⟨rfl, rfl, rfl, by decide +kernel, rfl, by decide +kernel, by decide +kernel⟩
theorem met_Reading_is_quoted (T : Tx K mg) : C8.Met P w K mg base 1 (He.ga K "Reading") "is_quoted" (sp_Reading_is_quoted K) [] :=
  met_of T.d_Reading_is_quoted T.cl_Reading T.me_Reading_is_quoted sc_Reading_is_quoted (fun _ _ _ _ _ _ us hl => match us, hl with | [_], _ => rfl)
    (spH_len fun H ds d ⟨_, _, _, _, _, e, _⟩ => by rw [e]; rfl) fun cdv A outer s H E hr => ⟨_, (pss_one (ps_ret (pe_cmpR op_eq (pe_slice C8.sl_txt (pe_fld (pv 0) rfl) (po_some (pe_un un_neg pe_int)) po_none) (pe_gS (by rfl) T.c_QUOTE) (nomark _)))), spH_by _ <| by
      rintro ds d ⟨H0, a, b, r, hY, rfl, rfl, hl⟩
      refine ⟨_, hY, ?_⟩
      show Rn _ _ _ [_] _
      refine rn_ret (ev_as (ev_eqL (ev_slLast (rd_needs T (ev_var rfl)) ?_) (ev_lit (l := [39]) (by decide +kernel))) ?_)
      · rw [List.length_reverse]
        omega
      · refine congrArg D.bl ?_
        rw [last_rev]
        unfold KM.Rd.quoted
        cases r.needs.head? with
        | none => rfl
        | some c => simp⟩
def sp_is_whole (K : PySem.W.Frag) : Sp := spH K fun H ds d => ∃ H0 a b r, (rdY K H0 a b r).p H ∧ ds = [.adr a] ∧ d = .bl r.whole ∧ r.needs.length ≤ 1000
theorem sc_is_whole : FnScope ["reading"] ["reading"] (defScope s_is_whole) := ⟨rfl, rfl, rfl, by decide +kernel, rfl, by decide +kernel, by decide +kernel⟩
theorem cal_is_whole (T : Tx K mg) : C8.Cal P w K mg base 1 "is_whole" (sp_is_whole K) [] :=
  cal_of T.d_is_whole T.g_is_whole sc_is_whole (fun _ _ _ _ _ _ us hl => match us, hl with | [_], _ => rfl)
    (spH_len fun H ds d ⟨_, _, _, _, _, e, _⟩ => by rw [e]; rfl) fun cdv A outer s H E hr => ⟨_, (pss_one (ps_ret (pe_and (pe_cmpR op_eq (pe_fld (pv 0) rfl) pe_str (nomark _)) (pe_one (pe_not (pe_fld (pv 0) rfl)))))), spH_by _ <| by
      rintro ds d ⟨H0, a, b, r, hY, rfl, rfl, hl⟩
      refine ⟨_, hY, ?_⟩
      show Rn _ _ _ [_] _
      refine rn_ret (ev_as (ev_andV (ev_eqL (rd_needs T (ev_var rfl)) (ev_lit (l := []) (by decide +kernel))) (fun _ => ev_notV (rd_opn T (ev_var rfl)))) ?_)
      refine congrArg D.bl ?_
      unfold KM.Rd.whole
      rw [show decide (r.needs.reverse = []) = decide (r.needs = []) by simp]⟩
def sp_Reading_can_read (K : PySem.W.Frag) : Sp := spH K fun H ds d => ∃ H0 a b r c, (rdY K H0 a b r).p H ∧ ds = [.adr a, .str (S [c])] ∧ d = .bl (r.can c) ∧ r.needs.length ≤ 1000
theorem sc_Reading_can_read : FnScope ["self", "sign"] ["self", "sign"] (defScope s_Reading_can_read) := ⟨rfl, rfl, rfl, by decide +kernel, rfl, by decide +kernel, by decide +kernel⟩
theorem met_Reading_can_read (T : Tx K mg) : C8.Met P w K mg base 2 (He.ga K "Reading") "can_read" (sp_Reading_can_read K) [] :=
  met_of T.d_Reading_can_read T.cl_Reading T.me_Reading_can_read sc_Reading_can_read (fun _ _ _ _ _ _ us hl => match us, hl with | [_, _], _ => rfl)
    (spH_len fun H ds d ⟨_, _, _, _, _, _, e, _⟩ => by rw [e]; rfl) fun cdv A outer s H E hr => ⟨_, (pss_cons (ps_if (pt_val (C8.pe_mt0 (met_Reading_is_quoted T) hr (by decide) (pv 0))) (pss_one (ps_ret (pe_cmpR op_ne (pv 1) (pe_gS (by rfl) T.c_LINE) (nomark _)))) pss_nil) (pss_cons (ps_if (pt_val (pe_fld (pv 0) rfl)) (pss_one (ps_ret (C8.pe_c (cal_is_letter T) hr (by decide) (by rfl) (pa_cons (pv 1) pa_nil)))) pss_nil) (pss_one (ps_ret (pe_or (pe_cmpR op_notIn_sign (pv 1) (pe_gS (by rfl) T.c_CLOSERS) (by rfl)) (pe_one (pe_cmpR op_eq (pe_slice C8.sl_txt (pe_fld (pv 0) rfl) (po_some (pe_un un_neg pe_int)) po_none) (pv 1) (nomark _)))))))), spH_by _ <| by
      rintro ds d ⟨H0, a, b, r, c, hY, rfl, rfl, hl⟩
      refine ⟨_, hY, ?_⟩
      clear hY
      show Rn _ _ _ [_, _] _
      refine rn_ifs (et_B (ev_methH rfl (ev_var rfl) (objY_obj (rdN_q _ _ _ _)) ea_nil (fun H p => ⟨H0, a, b, r, p, rfl, rfl, hl⟩))) (fun h1 => rn_out (rn_ret (ev_as (ev_neL (ev_var rfl) (ev_lit (l := [47]) (by decide +kernel))) ?_)))
        (fun h1 => rn_nx (rn_ifs (et_B (rd_opn T (ev_var rfl))) (fun h2 => rn_out (rn_ret (ev_as (ev_callR rfl (ea_cons (ev_var rfl) ea_nil) ⟨_, rfl, rfl, Nat.le_refl _⟩) ?_)))
        (fun h2 => rn_nx (rn_ret (ev_as (ev_orV (ev_notinL (ev_var rfl) (ev_lit (l := [41, 93]) (by decide +kernel)) rfl) (fun h3 => ev_eqL (ev_slLast (rd_needs T (ev_var rfl)) ?_) (ev_var rfl))) ?_)))))
      · unfold KM.Rd.can
        rw [if_pos h1, m_eq]
      · unfold KM.Rd.can
        rw [if_neg (by rw [h1]; decide), if_pos h2]
        rfl
      · rw [List.length_reverse]; omega
      · unfold KM.Rd.can
        rw [if_neg (by rw [h1]; decide), if_neg (by rw [h2]; decide), m_cls, last_rev]
        refine congrArg (fun z => D.bl (!KM.cls c || z)) ?_
        cases r.needs.head? with
        | none => rfl
        | some d => simp⟩
theorem nopn {r : KM.Rd} (hw : r.opn = true → r.quoted = false) (h : r.quoted = true) : r.opn = false := by
  cases e : r.opn with
  | false => rfl
  | true => rw [hw e] at h; cases h
theorem word_if (c : Nat) (b : Bool) (o : Option Nat) : (decide ([c] = [39]) && (b && oneB KM.ltr o.toList)) = (decide (c = 39) && b && (o.map KM.ltr).getD false) := by
  rw [m_eq, Bool.and_assoc]
  cases o <;> rfl
theorem clo_some {c : Nat} (h : decide ([c].headD 0 ∈ [40, 91] ++ [39]) = true) : ∃ d, KM.clo c = some d := by
  have h' : c = 40 ∨ c = 91 ∨ c = 39 := by simpa using h
  rcases h' with e | e | e <;> subst e <;> exact ⟨_, rfl⟩
theorem clo_none {c : Nat} (h : decide ([c].headD 0 ∈ [40, 91] ++ [39]) = false) : KM.clo c = none := by
  have h' : ¬ (c = 40 ∨ c = 91 ∨ c = 39) := by simpa using h
  unfold KM.clo
  rw [if_neg (fun e => h' (.inr (.inr e))), if_neg (fun e => h' (.inl e)), if_neg (fun e => h' (.inr (.inl e)))]
theorem rd_quoted_can {r : KM.Rd} {H0 : Hp} {a : Addr} {b : Bool} {Γ : Ga} {ta : TE} {k : Nat} (ho : Ev K (rdY K H0 a b r) ta Γ (.adr a)) (hl : r.needs.length ≤ 1000) :
    Ev K (rdY K H0 a b r) (tMeth (He.ga K "Reading") "is_quoted" (sp_Reading_is_quoted K) [] C8.E0 ta tNil) Γ (.bl r.quoted) :=
  ev_methH rfl ho (objY_obj (rdN_q _ _ _ _)) ea_nil (fun H p => ⟨H0, a, b, r, p, rfl, rfl, hl⟩)
def sp_Reading_read (K : PySem.W.Frag) : Sp := spS (relF K) fun H ds B => ∃ H0 a b r c, (rdY K H0 a b r).p H ∧ ds = [.adr a, .str (S [c])] ∧ B = (fun d H' => d = .non ∧ (rdY K H0 a b (r.read b c)).p H') ∧ r.needs.length ≤ 1000 ∧ (r.opn = true → r.quoted = false)
theorem sc_Reading_read : FnScope ["self", "sign"] ["self", "sign"] (defScope s_Reading_read) := ⟨rfl, rfl, rfl, by decide +kernel, rfl, by decide +kernel, by decide +kernel⟩
theorem met_Reading_read (T : Tx K mg) : C8.Met P w K mg base 2 (He.ga K "Reading") "read" (sp_Reading_read K) [] :=
  met_of T.d_Reading_read T.cl_Reading T.me_Reading_read sc_Reading_read (fun _ _ _ _ _ _ us hl => match us, hl with | [_, _], _ => rfl)
    (spS_len fun H ds B ⟨_, _, _, _, _, _, e, _⟩ => by rw [e]; rfl) fun cdv A outer s H E hr => ⟨_, (pss_cons (ps_if (pt_val (C8.pe_mt0 (met_Reading_is_quoted T) hr (by decide) (pv 0))) (pss_one (ps_if (pt_cmpR op_eq (pv 1) (pe_gS (by rfl) T.c_QUOTE) (nomark _)) (pss_one (ps_fld (pv 0) (pe_slice C8.sl_txt (pe_fld (pv 0) rfl) po_none (po_some (pe_un un_neg pe_int))) rfl)) pss_nil)) (pss_one (ps_if (PW.pt (pw_and (pt_cmpR op_eq (pv 1) (pe_gS (by rfl) T.c_QUOTE) (nomark _)) (pw_and (pt_val (pe_fld (pv 0) rfl)) (pw_and1 (pt_val (C8.pe_c (cal_is_letter T) hr (by decide) (by rfl) (pa_cons (pe_fld (pv 0) rfl) pa_nil))))))) (pss_one (ps_fld (pv 0) pe_bl rfl)) (pss_cons (ps_fld (pv 0) pe_bl rfl) (pss_one (ps_if (pt_cmpR op_in_sign (pv 1) (pe_op op_add_str (pe_gS (by rfl) T.c_OPENERS) (pe_gS (by rfl) T.c_QUOTE)) (by rfl)) (pss_one (ps_fldaug (pv 0) (C8.pe_c (cal_closer_of T) hr (by decide) (by rfl) (pa_cons (pv 1) pa_nil)) in_addS)) (pss_one (ps_if (pt_cmpR op_in_sign (pv 1) (pe_gS (by rfl) T.c_CLOSERS) (by rfl)) (pss_one (ps_fld (pv 0) (pe_slice C8.sl_txt (pe_fld (pv 0) rfl) po_none (po_some (pe_un un_neg pe_int))) rfl)) pss_nil)))))))) (pss_one (ps_fld (pv 0) (pv 1) rfl))), spS_by _ <| by
      rintro ds B ⟨H0, a, b, r, c, hY, rfl, rfl, hl, hw⟩
      refine ⟨_, hY, ?_⟩
      clear hY
      show Ss _ _ _ [some (.adr a), some (.str (S [c]))] _ _
      -- the last statement
      have fin : ∀ r' : KM.Rd, (⟨r'.needs, some c, r'.opn⟩ : KM.Rd) = r.read b c → Ss (relF K) (rdY K H0 a b r').p (sFld K (tVar 0) (tVar 1) "before") [some (.adr a), some (.str (S [c]))] (fun _ H' => (D.non = .non ∧ (rdY K H0 a b (r.read b c)).p H')) (fun d H' => d = .non ∧ (rdY K H0 a b (r.read b c)).p H') := fun r' e =>
        ss_mono (ss_rdB T (ev_var rfl) (ev_var rfl) rfl) (fun _ h => h) (fun G H' ⟨_, h⟩ => ⟨rfl, e ▸ h⟩) (fun _ _ h => h)
      refine ss_ifs (et_B (ev_methH rfl (ev_var rfl) (objY_obj (rdN_q _ _ _ _)) ea_nil (fun H p => ⟨H0, a, b, r, p, rfl, rfl, hl⟩)))
        (fun h1 => ss_ifs (et_test (ev_eqL (ev_var rfl) (ev_lit (l := [39]) (by decide +kernel)))) (fun h2 => ?_) (fun h2 => ?_))
        (fun h1 => ss_ifs (et_and (et_test (ev_eqL (ev_var rfl) (ev_lit (l := [39]) (by decide +kernel)))) (fun h3 => (et_and (et_B (rd_words T (ev_var rfl))) (fun h4 => (et_B (ev_callR rfl (ea_cons (rd_before T (ev_var rfl)) ea_nil) ⟨_, rfl, rfl, ?_⟩)))))) (fun h5 => ?_) (fun h5 => ?_))
      · have hc : c = 39 := by simpa using h2
        refine ss_to (ss_rdN T (ev_var rfl) (ev_slInit (rd_needs T (ev_var rfl)) (by rw [List.length_reverse]; omega)) rfl) (fin _ ?_)
        unfold KM.Rd.read
        rw [if_pos h1, if_pos hc, List.dropLast_reverse, List.reverse_reverse]
        show (⟨_, _, r.opn⟩ : KM.Rd) = _
        rw [nopn hw h1]
      · have hc : c ≠ 39 := by simpa using h2
        refine ss_nx (fin r ?_)
        unfold KM.Rd.read
        rw [if_pos h1, if_neg hc, nopn hw h1]
      · cases r.before <;> simp
      · refine ss_to (ss_rdO T (ev_var rfl) ev_bl rfl) (fin _ ?_)
        unfold KM.Rd.read
        rw [if_neg (by rw [h1]; decide), if_pos (by rw [← word_if]; exact h5)]
      · have h6 : ¬ (decide (c = 39) && b && (r.before.map KM.ltr).getD false) = true := by rw [← word_if, h5]; decide
        have nr : r.read b c = ⟨match KM.clo c with | some d => d :: r.needs | none => if KM.cls c = true then r.needs.tail else r.needs, some c, false⟩ := by
          unfold KM.Rd.read
          rw [if_neg (by rw [h1]; decide), if_neg h6] <;> rfl
        refine ss_seq3 (ss_to (ss_rdO T (ev_var rfl) ev_bl rfl) ?_)
        refine ss_ifs (et_test (ev_inL (ev_var rfl) (ev_addL (ev_lit (l := [40, 91]) (by decide +kernel)) (ev_lit (l := [39]) (by decide +kernel)) (by decide)) rfl))
          (fun h7 => ss_to (ss_rdA T (ev_var rfl) (ev_callR rfl (ea_cons (ev_var rfl) ea_nil) ⟨_, rfl, rfl, Nat.le_refl _⟩) ?_ rfl) (fin _ ?_))
          (fun h7 => ss_ifs (et_test (ev_inL (ev_var rfl) (ev_lit (l := [41, 93]) (by decide +kernel)) rfl))
            (fun h8 => ss_to (ss_rdN T (ev_var rfl) (ev_slInit (rd_needs T (ev_var rfl)) (by rw [List.length_reverse]; exact Nat.le_trans hl (by decide))) rfl) (fin _ ?_)) (fun h8 => ss_nx (fin _ ?_)))
        · have : (cloL [c]).length ≤ 1 := by
            show (KM.clo c).toList.length ≤ 1
            cases KM.clo c <;> simp
          show r.needs.length + _ ≤ _
          omega
        · rw [nr]
          obtain ⟨d, hd⟩ := clo_some h7
          show (⟨(KM.clo c).toList.reverse ++ r.needs, _, _⟩ : KM.Rd) = _
          rw [hd]
          rfl
        · rw [nr, clo_none h7, List.dropLast_reverse, List.reverse_reverse]
          rw [m_cls] at h8
          rw [h8]
          rfl
        · rw [nr, clo_none h7]
          rw [m_cls] at h8
          rw [h8]
          rfl⟩
/-- an instance is made: nothing stood there -/
def newY (H0 : Hp) (a C : Addr) : Hy := objY H0 a C []
def sp_Reading_init (K : PySem.W.Frag) : Sp := spS (relF K) fun H ds B => ∃ H0 a b, (newY H0 a (He.ga K "Reading")).p H ∧ ds = [.adr a, .bl b] ∧ B = (fun d H' => d = .non ∧ (rdY K H0 a b KM.Rd.start).p H')
theorem putF_len (f : Str) (v : V) : ∀ fs : List (Str × V), (putF f v fs).length ≤ fs.length + 1
  | [] => Nat.le_refl _
  | (g, x) :: r => by
    unfold putF
    split
    · exact Nat.le_succ _
    · exact Nat.succ_le_succ (putF_len f v r)
theorem rd_init (w n b o : V) : putF "is_open" o (putF "before" b (putF "needs" n (putF "has_words" w []))) = rdF w n b o := by
  have h1 : putF "has_words" w [] = [(("has_words" : Str), w)] := rfl
  have h2 : putF "needs" n [(("has_words" : Str), w)] = [(("has_words" : Str), w), (("needs" : Str), n)] := by
    unfold putF
    rw [if_neg (nq ne1)]
    rfl
  have h3 : putF "before" b [(("has_words" : Str), w), (("needs" : Str), n)] = [(("has_words" : Str), w), (("needs" : Str), n), (("before" : Str), b)] := by
    unfold putF
    rw [if_neg (nq ne2)]
    unfold putF
    rw [if_neg (nq ne3)]
    rfl
  have h4 : putF "is_open" o [(("has_words" : Str), w), (("needs" : Str), n), (("before" : Str), b)] = rdF w n b o := by
    unfold putF
    rw [if_neg (nq ne4)]
    unfold putF
    rw [if_neg (nq ne5)]
    unfold putF
    rw [if_neg (nq ne6)]
    rfl
  rw [h1, h2, h3, h4]
theorem sc_Reading_init : FnScope ["self", "has_words"] ["self", "has_words"] (defScope s_Reading_init) := ⟨rfl, rfl, rfl, by decide +kernel, rfl, by decide +kernel, by decide +kernel⟩
theorem mak_Reading (T : Tx K mg) : C8.Mak P w K mg base 1 "Reading" (He.ga K "Reading") (sp_Reading_init K) [] :=
  mak_of T.d_Reading_init T.mk_Reading T.g_Reading sc_Reading_init (fun _ _ _ _ _ _ us hl => match us, hl with | [_, _], _ => rfl)
    (spS_len fun H ds B ⟨_, _, _, _, e, _⟩ => by rw [e]; rfl) fun cdv A outer s H E hr => ⟨_, (pss_cons (ps_fld (pv 0) (pv 1) rfl) (pss_cons (ps_fld (pv 0) pe_str rfl) (pss_cons (ps_fld (pv 0) pe_str rfl) (pss_one (ps_fld (pv 0) pe_bl rfl))))), spS_by _ <| by
      rintro ds B ⟨H0, a, b, hY, rfl, rfl⟩
      refine ⟨_, hY, ?_⟩
      clear hY
      show Ss _ _ _ [some (.adr a), some (.bl b)] _ _
      refine ss_to (ss_fldO (v := .bl b) T.cl_Reading T.na_Reading_has_words (ev_var rfl) (ev_var rfl) (fun _ _ h => h) (by decide) rfl rfl) ?_
      refine ss_to (ss_fldO (v := .str (S [])) T.cl_Reading T.na_Reading_needs (ev_var rfl) (ev_lit (l := []) (by decide +kernel)) (fun _ _ h => h) (by show 1 < 1000; decide) rfl rfl) ?_
      refine ss_to (ss_fldO (v := .str (S [])) T.cl_Reading T.na_Reading_before (ev_var rfl) (ev_lit (l := []) (by decide +kernel)) (fun _ _ h => h) ?_ rfl rfl) ?_
      · have h1 := putF_len "has_words" (.bl b) []
        have h2 := putF_len "needs" (.str (S [])) (putF "has_words" (.bl b) [])
        have h3 : ([] : List (Str × V)).length = 0 := rfl
        omega
      · refine ss_mono (ss_fldO (v := .bl false) T.cl_Reading T.na_Reading_is_open (ev_var rfl) ev_bl (fun _ _ h => h) ?_ (rd_init _ _ _ _) rfl) (fun _ h => h) (fun G H' ⟨_, h⟩ => ⟨rfl, h⟩) (fun _ _ h => h)
        have h1 := putF_len "has_words" (.bl b) []
        have h2 := putF_len "needs" (.str (S [])) (putF "has_words" (.bl b) [])
        have h3 := putF_len "before" (.str (S [])) (putF "needs" (.str (S [])) (putF "has_words" (.bl b) []))
        have h4 : ([] : List (Str × V)).length = 0 := rfl
        omega⟩
end
end KH

/-! part K6 -/
set_option Elab.async false
set_option linter.all false
set_option maxRecDepth 100000
set_option maxHeartbeats 4000000
namespace KH
open PySem PySem.Spec PyProof.Rows L2 KD
/-! readings read -/
def rdl (b : Bool) (r : KM.Rd) (l : List Nat) : KM.Rd := l.foldl (KM.Rd.read b) r
def canl (b : Bool) : KM.Rd → List Nat → Bool
  | _, [] => true
  | r, c :: l => r.can c && canl b (r.read b c) l
theorem rds_txt (b : Bool) : ∀ (us : List KM.Un) (r : KM.Rd), KM.rds b r us = rdl b r (KM.txt us)
  | [], _ => rfl
  | .sg c :: us, r => rds_txt b us (r.read b c)
  | .sl c :: us, r => rds_txt b us r
theorem canl_txt (M : KM.Way) : ∀ (us : List KM.Un) (r : KM.Rd), KM.oks M r us = true → canl M.words r (KM.txt us) = true
  | [], _, _ => rfl
  | .sg c :: us, r, h => by
    have h' := Bool.and_eq_true_iff.mp h
    exact Bool.and_eq_true_iff.mpr ⟨(Bool.and_eq_true_iff.mp h'.1).2, canl_txt M us _ h'.2⟩
  | .sl c :: us, r, h => canl_txt M us r (Bool.and_eq_true_iff.mp h).2
theorem txt_len : ∀ us : List KM.Un, (KM.txt us).length ≤ us.length
  | [] => Nat.le_refl _
  | .sg c :: us => Nat.succ_le_succ (txt_len us)
  | .sl c :: us => Nat.le_trans (txt_len us) (Nat.le_succ _)
theorem rdl_succ {b : Bool} {r : KM.Rd} {l : List Nat} {i c : Nat} (h : l[i]? = some c) : rdl b r (l.take (i + 1)) = (rdl b r (l.take i)).read b c := by
  unfold rdl
  rw [List.take_add_one, h, List.foldl_append]
  rfl
theorem canl_at {b : Bool} : ∀ {l : List Nat} {r : KM.Rd} {i c : Nat}, canl b r l = true → l[i]? = some c → (rdl b r (l.take i)).can c = true
  | [], _, _, _, _, h => by cases h
  | a :: l, r, 0, c, h, e => by
    have e' : a = c := Option.some.inj e
    rw [← e']
    exact (Bool.and_eq_true_iff.mp h).1
  | a :: l, r, i + 1, c, h, e => canl_at (l := l) (r := r.read b a) (Bool.and_eq_true_iff.mp h).2 e
theorem needs_rdl (b : Bool) : ∀ (l : List Nat) (r : KM.Rd), (rdl b r l).needs.length ≤ r.needs.length + l.length
  | [], _ => Nat.le_refl _
  | c :: l, r => by
    have h1 := needs_rdl b l (r.read b c)
    have h2 := KM.needs_read b r c
    show (rdl b (r.read b c) l).needs.length ≤ _
    rw [List.length_cons]
    omega
/-- a word stands open out of quotes alone -/
def wok (r : KM.Rd) : Prop := r.opn = true → r.quoted = false
theorem wok_read {b : Bool} {r : KM.Rd} (c : Nat) (h : wok r) : wok (r.read b c) := by
  unfold wok KM.Rd.read
  split
  · exact fun z => by cases z
  · rename_i h1
    split
    · intro _
      show decide (r.needs.head? = some 39) = false
      exact by simpa [KM.Rd.quoted] using h1
    · exact fun z => by cases z
theorem wok_rdl (b : Bool) : ∀ (l : List Nat) (r : KM.Rd), wok r → wok (rdl b r l)
  | [], _, h => h
  | c :: l, r, h => wok_rdl b l _ (wok_read c h)
theorem wok_start : wok KM.Rd.start := fun z => by cases z
section
variable {K : PySem.W.Frag} {Y : Hy} {Hs : Hp} {Γ : Ga} {tr : TA} {ds : List D} {C : Addr} {sp : Sp} {E : XK}
theorem se_make {Pr : Hp → List D → (D → Hp → Prop) → Prop} {B : Addr → Hp → Prop} (hs : sp = spS (relF K) Pr) (h : Ea K Y tr Γ ds) (hY : ∀ H, Y.p H → Same Hs H) (hP : ∀ a H, (newY Hs a C).p H → Pr H (.adr a :: ds) (fun d H' => d = .non ∧ B a H')) :
    Se (relF K) Y.p (tMake C sp [] E tr) Γ (fun d H' => ∃ a, d = .adr a ∧ B a H') := by
  subst hs
  intro σ H p e Q q
  refine h σ H p e _ fun vs H1 s1 h1 => fun x dx hx hdx hne => ?_
  have b1 := hY H1 (Y.st _ _ s1 p)
  have nx : Hs x = none := by
    cases z : Hs x with
    | none => rfl
    | some o => rw [b1 _ _ z] at hx; cases hx
  have s2 : Same H1 (upd H1 dx (.own x)) := Same.new hdx
  have hx2 : upd H1 dx (.own x) x = none := by rw [upd_ne (fun z => hne z.symm)]; exact hx
  have s3 : Same H1 (upd (upd H1 dx (.own x)) x (.ins C dx [])) := s2.trans (Same.new hx2)
  refine ⟨.adr x :: ds, _, hP x _ ⟨b1.trans s3, nx, dx, upd_same⟩, ?_, fun d v H' r b hv => ?_⟩
  · rw [List.append_nil]
    exact ⟨_, _, rfl, rfl, h1.mono s3⟩
  · obtain ⟨e1, b2⟩ := b
    subst e1
    exact ⟨hv, q (.adr x) (.ref x) H' ((Fz.of (s1.trans s3)).trans r) ⟨x, rfl, b2⟩ rfl⟩
end
section
variable {P : Program} {w : World} {K : PySem.W.Frag} {mg : Str → Option Value} {base : Heap}
def sp_read_all (K : PySem.W.Frag) : Sp := spS (relF K) fun H ds B => ∃ b l, ds = [.str (S l), .bl b] ∧ B = (fun d H' => ∃ a, d = .tup [.adr a, .non] ∧ (rdY K H a b (rdl b KM.Rd.start l)).p H') ∧ canl b KM.Rd.start l = true ∧ l.length ≤ 900
theorem sc_read_all : FnScope ["text", "has_words", "reading", "place", "sign"] ["text", "has_words"] (defScope s_read_all) := ⟨rfl, rfl, rfl, by decide +kernel, rfl, by decide +kernel, by decide +kernel⟩
theorem cal_read_all (T : Tx K mg) : C8.Cal P w K mg base 3 "read_all" (sp_read_all K) [] :=
  cal_of T.d_read_all T.g_read_all sc_read_all (fun _ _ _ _ _ _ us hl => match us, hl with | [_, _], _ => rfl)
    (spS_len fun H ds B ⟨_, _, e, _⟩ => by rw [e]; rfl) fun cdv A outer s H E hr => ⟨_, (pss_cons (ps_set (i := 2) sc_read_all.nd rfl (Or.inl rfl) (C8.pe_mk (mak_Reading T) hr (by decide) (by rfl) (pa_cons (pv 1) pa_nil))) (pss_cons (ps_for PassesOwn.never rfl (pi_enumS (by rfl) T.b_enumerate (pa_cons (pv 0) pa_nil)) (pg_tup (n := 2) rfl (pgs_cons (pg_name (i := 3) sc_read_all.nd rfl (Or.inl rfl)) (pgs_cons (pg_name (i := 4) sc_read_all.nd rfl (Or.inl rfl)) pgs_nil))) (pss_cons (ps_if (pt_not (pt_val (C8.pe_mt (met_Reading_can_read T) hr (by decide) (pv 2) (pa_cons (pv 4) pa_nil)))) (pss_one (ps_ret (pe_tup (pa_cons (pv 2) (pa_cons (pv 3) pa_nil))))) pss_nil) (pss_one (ps_expr (C8.pe_mt (met_Reading_read T) hr (by decide) (pv 2) (pa_cons (pv 4) pa_nil)))))) (pss_one (ps_ret (pe_tup (pa_cons (pv 2) (pa_cons pe_non pa_nil))))))), spS_by _ <| by
      rintro ds B ⟨b, l, rfl, rfl, hc, hl⟩
      refine ⟨(sameY H).p, Same.refl H, ?_⟩
      show Ss _ _ _ [some (.str (S l)), some (.bl b), none, none, none] _ _
      refine ss_toE (Γi := fun a => [some (.str (S l)), some (.bl b), some (.adr a), none, none]) (Bi := fun a => (rdY K H a b KM.Rd.start).p)
        (ss_set (se_make (Hs := H) (B := fun a H' => (rdY K H a b KM.Rd.start).p H') rfl (ea_cons (ev_var rfl) ea_nil) (fun _ h => h) (fun a H' h => ⟨H, a, b, h, rfl, rfl⟩)) rfl (fun d H' ⟨a, e, h⟩ => ⟨a, by rw [e]; rfl, h⟩)) fun a => ?_
      have bd : ∀ i, (rdl b KM.Rd.start (l.take i)).needs.length ≤ 1000 := fun i => by
        have h1 := needs_rdl b (l.take i) KM.Rd.start
        have h2 : (l.take i).length ≤ l.length := List.length_take_le' ..
        have h3 : KM.Rd.start.needs.length = 0 := rfl
        omega
      refine ss_to (Γ1 := [some (.str (S l)), some (.bl b), some (.adr a), none, none]) (B := (rdY K H a b (rdl b KM.Rd.start (l.take l.length))).p)
        (ss_forN (fun i => rdY K H a b (rdl b KM.Rd.start (l.take i))) (fun _ => [some (.str (S l)), some (.bl b), some (.adr a), none, none]) (wi_enS (ea_cons (ev_var rfl) ea_nil)) (tg_tup 2 [3, 4]) (leG_refl _) (fun _ h => h) ?_ (fun H' h => ⟨rfl, h⟩))
        (ss_rt (rn_ret (ev_tup (ea_cons (ev_var rfl) (ea_cons ev_non ea_nil)))) (fun H' h => ⟨a, rfl, by rw [List.take_length] at h; exact h⟩))
      rintro i d hi ⟨c, hci, rfl⟩
      refine ⟨⟨rfl, rfl, rfl⟩, ?_⟩
      show Ss _ _ _ [some (.str (S l)), some (.bl b), some (.adr a), some (.int i), some (.str (S [c]))] _ _
      refine ss_ifs (et_not (et_B (ev_methH rfl (ev_var rfl) (objY_obj (rdN_c _ _ _ _)) (ea_cons (ev_var rfl) ea_nil) (fun H' p => ⟨H, a, b, _, c, p, rfl, rfl, bd i⟩)))) (fun h => ss_absurd ?_)
        (fun _ => ss_nx (ss_drop (se_meth rfl (ev_var rfl) (objY_obj (rdN_r _ _ _ _)) (ea_cons (ev_var rfl) ea_nil) (fun H' p => ⟨H, a, b, _, c, p, rfl, rfl, bd i, wok_rdl b _ _ wok_start⟩)) rfl (fun d H' ⟨_, h⟩ => ⟨⟨.inr rfl, .inr rfl, .inr rfl, .inl rfl, .inl rfl, trivial⟩, by rw [rdl_succ hci]; exact h⟩)))
      rw [canl_at hc hci] at h
      cases h⟩
/-! ### typings.py -/
def sp_typed_in (K : PySem.W.Frag) : Sp := spR K fun ds d => ∃ M us, ds = [wayD M, keysD (KM.flat us)] ∧ d = .tup [.str (S (KM.txt us)), if (KM.rds M.words KM.Rd.start us).whole = true then .non else .int ((KM.flat us).length : Nat)] ∧ Row M us
theorem sc_typed_in : FnScope ["manner", "keys", "reading", "text", "place", "key", "is_slip"] ["manner", "keys"] (defScope s_typed_in) := ⟨rfl, rfl, rfl, by decide +kernel, rfl, by decide +kernel, by decide +kernel⟩
theorem cal_typed_in (T : Tx K mg) : C8.Cal P w K mg base 3 "typed_in" (sp_typed_in K) [] :=
  cal_of T.d_typed_in T.g_typed_in sc_typed_in (fun _ _ _ _ _ _ us hl => match us, hl with | [_, _], _ => rfl)
    (spR_len fun ds d ⟨_, _, e, _⟩ => by rw [e]; rfl) fun cdv A outer s H E hr => ⟨_, (pss_cons (ps_par3 (i := 2) (j := 3) (l := 4) (by rfl) sc_typed_in.nd rfl rfl rfl (by decide) (by decide) (by decide) rfl rfl rfl (pa_cons (C8.pe_mk (mak_Reading T) hr (by decide) (by rfl) (pa_cons (pe_ix ix_tup (pv 0) pe_int (fun _ _ => rfl)) pa_nil)) (pa_cons pe_str (pa_cons pe_int pa_nil))) (by rfl)) (pss_cons (ps_while PassesOwn.never (pt_cmpR op_lt (pv 4) (pe_callB call_len (by rfl) T.b_len PySem.boot_len (pa_cons (pv 1) pa_nil)) (nomark _)) (pss_cons (ps_par (i := 5) (j := 6) (by rfl) sc_typed_in.nd rfl rfl (by decide) rfl rfl (pa_cons (pe_ix ix_tup (pv 1) (pv 4) (fun _ _ => rfl)) (pa_cons (pe_cmpR (op_eqD (hu64 hr)) (pe_slice sl_tupA (pv 1) (po_some (pe_op op_add (pv 4) pe_int)) (po_some (pe_op op_add (pv 4) pe_int))) (pe_tup (pa_cons (pe_gS (by rfl) T.c_BACK) pa_nil)) (nomark _)) pa_nil)) (by rfl)) (pss_cons (ps_if (PW.pt (pw_or (pt_not (pt_val (C8.pe_c (cal_is_sign T) hr (by decide) (by rfl) (pa_cons (pv 5) pa_nil)))) (pw_or1 (PW.pt (pw_and (pt_val (pv 6)) (pw_and1 (pt_not (pt_val (pe_ix ix_tup (pv 0) pe_int (fun _ _ => rfl)))))))))) (pss_one (ps_ret (pe_tup (pa_cons (pv 3) (pa_cons (pe_ifExp (pt_not (pt_val (C8.pe_c (cal_is_sign T) hr (by decide) (by rfl) (pa_cons (pv 5) pa_nil)))) (pv 4) (pe_op op_add (pv 4) pe_int)) pa_nil))))) pss_nil) (pss_cons (ps_if (PW.pt (pw_and (pt_not (pt_val (pv 6))) (pw_and1 (pt_not (pt_val (C8.pe_mt (met_Reading_can_read T) hr (by decide) (pv 2) (pa_cons (pv 5) pa_nil))))))) (pss_one (ps_ret (pe_tup (pa_cons (pv 3) (pa_cons (pv 4) pa_nil))))) pss_nil) (pss_cons (ps_if (pt_not (pt_val (pv 6))) (pss_cons (ps_expr (C8.pe_mt (met_Reading_read T) hr (by decide) (pv 2) (pa_cons (pv 5) pa_nil))) (pss_one (ps_aug (i := 3) sc_typed_in.nd rfl (Or.inl rfl) (pv 5) ip_addS))) pss_nil) (pss_one (ps_aug (i := 4) sc_typed_in.nd rfl (Or.inl rfl) (pe_ifExp (pt_val (pv 6)) pe_int pe_int) ip_add))))))) (pss_one (ps_ret (pe_tup (pa_cons (pv 3) (pa_cons (pe_ifExp (pt_val (C8.pe_c (cal_is_whole T) hr (by decide) (by rfl) (pa_cons (pv 2) pa_nil))) pe_non (pe_callB call_len (by rfl) T.b_len PySem.boot_len (pa_cons (pv 1) pa_nil))) pa_nil))))))), spR_byS _ <| by
      rintro ds d ⟨M, us, rfl, rfl, hR⟩
      show Ss _ _ _ [some (wayD M), some (keysD (KM.flat us)), none, none, none, none, none] _ _
      have bd : ∀ m, (KM.rds M.words KM.Rd.start (us.take m)).needs.length ≤ 1000 := hR.needs
      have wk : ∀ m, wok (KM.rds M.words KM.Rd.start (us.take m)) := fun m => by rw [rds_txt]; exact wok_rdl _ _ _ wok_start
      refine ss_toE (Γi := fun a => [some (wayD M), some (keysD (KM.flat us)), some (.adr a), some (.str (S [])), some (.int 0), none, none]) (Bi := fun a => (rdY K H a M.words KM.Rd.start).p)
        (ss_par3c (se_make (Y := sameY H) (Hs := H) (B := fun a H' => (rdY K H a M.words KM.Rd.start).p H') rfl (ea_cons (ev_ixT (ev_var rfl) ev_int rfl) ea_nil) (fun _ h => h) (fun a H' h => ⟨H, a, M.words, h, rfl, rfl⟩)) (okG_c rfl (okG_c (fz_keys _) rfl))
          (d2 := .str (S [])) (d3 := .int 0) (fun _ => by show V.str _ = V.str _; exact congrArg V.str (by decide +kernel)) (fun _ => rfl) (fun d H' ⟨a, e, h⟩ => ⟨a, by rw [e]; rfl, h⟩)) fun a => ?_
      refine ss_to (Γ1 := [some (wayD M), some (keysD (KM.flat us)), some (.adr a), some (.str (S (KM.txt (us.take us.length)))), some (.int (KM.pos us us.length : Nat)), none, none]) (B := (rdY K H a M.words (KM.rds M.words KM.Rd.start (us.take us.length))).p)
        (ss_whileN us.length (fun m => rdY K H a M.words (KM.rds M.words KM.Rd.start (us.take m))) (fun m => [some (wayD M), some (keysD (KM.flat us)), some (.adr a), some (.str (S (KM.txt (us.take m)))), some (.int (KM.pos us m : Nat)), none, none]) ?_ (fun _ h => h) ?_ ?_ (fun H' h => ⟨rfl, h⟩))
        (ss_rt (rn_ret (ev_tup (ea_cons (ev_var rfl) (ea_cons (ev_if (et_B (ev_callH rfl (ea_cons (ev_var rfl) ea_nil) (fun H' p => ⟨H, a, _, _, p, rfl, rfl, bd _⟩))) (fun _ => ev_non) (fun _ => ev_lenT (ea_cons (ev_var rfl) ea_nil))) ea_nil)))) (fun H' h => ⟨?_, h.1⟩))
      · rw [KM.pos_zero]
        exact leG_refl _
      · intro m hm
        refine et_test (ev_as (ev_cmpI (ev_var rfl) (ev_lenT (ea_cons (ev_var rfl) ea_nil))) ?_)
        refine congrArg D.bl ?_
        show decide (((KM.pos us m : Nat) : Int) < (((KM.flat us).map kD).length : Nat)) = _
        rw [List.length_map, ← KM.pos_lt_iff hm]
        simp
      · intro m hm
        have hu : us[m]? = some us[m] := List.getElem?_eq_getElem hm
        have kn := KM.key_next hR.nz hu
        have rd := KM.rds_succ M.words KM.Rd.start hu
        have ps := KM.pos_succ hu
        have ka := KM.key_at hu
        have nz := hR.nz _ (List.getElem_mem hm)
        have sg := hR.sgn _ (List.getElem_mem hm)
        have ok := KM.oks_at M us KM.Rd.start m _ hR.1 hu
        have tx := KM.txt_succ hu
        have tl : (KM.txt (us.take m)).length ≤ 400 := Nat.le_trans (txt_len _) (Nat.le_trans (List.length_take_le' ..) hR.len)
        generalize us[m] = u at hu kn rd ps ka nz ok tx sg
        refine ss_to (Γ1 := [some (wayD M), some (keysD (KM.flat us)), some (.adr a), some (.str (S (KM.txt (us.take m)))), some (.int (KM.pos us m : Nat)), some (.str (keyS u.c)), some (.bl u.isSl)])
          (ss_rn (rn_par (ea_cons (ev_key (ev_var rfl) (ev_var rfl) rfl ka) (ea_cons (ev_as (ev_isBack (a := KM.pos us m + 1) (ev_var rfl) (eo_some (ev_add (ev_var rfl) ev_int)) (eo_some (ev_add (ev_var rfl) ev_int)) (ev_tup (ea_cons ev_str ea_nil)) (by decide +kernel) (by omega) (by omega) hR.lt) (congrArg D.bl kn)) ea_nil))) (fun H' h => ⟨rfl, h⟩)) ?_
        refine ss_ifs (et_or (et_not (et_B (ev_callR rfl (ea_cons (ev_var rfl) ea_nil) ⟨_, rfl, rfl, .inr sg⟩))) (fun _ => et_and (et_B (ev_var rfl)) (fun _ => et_not (et_B (ev_ixT (ev_var rfl) ev_int rfl))))) (fun h => ss_absurd ?_) (fun _ => ss_nx ?_)
        · rw [decide_eq_false nz] at h
          cases u with
          | sg c => cases h
          | sl c =>
            have := (Bool.and_eq_true_iff.mp ok).2
            rw [this] at h
            cases h
        · have kc : keyS u.c = S [u.c] := keyS_sgn nz
          have last : ∀ (Γ0 : Ga) (b : Bool), Γ0 = [some (wayD M), some (keysD (KM.flat us)), some (.adr a), some (.str (S (KM.txt (us.take (m + 1))))), some (.int (KM.pos us m : Nat)), some (.str (keyS u.c)), some (.bl u.isSl)] →
              Ss (relF K) (rdY K H a M.words (KM.rds M.words KM.Rd.start (us.take (m + 1)))).p (tAug 4 (tIf (tB (tVar 6)) (tC (.int 2)) (tC (.int 1))) (ipI fun i j => i + j)) Γ0 (fun G' H' => leG G' [some (wayD M), some (keysD (KM.flat us)), some (.adr a), some (.str (S (KM.txt (us.take (m + 1))))), some (.int (KM.pos us (m + 1) : Nat)), none, none] ∧ (rdY K H a M.words (KM.rds M.words KM.Rd.start (us.take (m + 1)))).p H')
                (fun d' H' => d' = D.tup [D.str (S (KM.txt us)), if (KM.rds M.words KM.Rd.start us).whole = true then D.non else D.int ((KM.flat us).length : Nat)] ∧ Same H H') := fun Γ0 b e => by
            subst e
            refine ss_rn (rn_augI rfl (ev_ifI (et_B (ev_var rfl)) (fun _ => ev_int) (fun _ => ev_int))) (fun H' h => ⟨⟨.inr rfl, .inr rfl, .inr rfl, .inr rfl, .inr ?_, .inl rfl, .inl rfl, trivial⟩, h⟩)
            rw [ps]
            cases u.isSl <;> rfl
          cases u with
          | sg c =>
            have can : KM.Rd.can (KM.rds M.words KM.Rd.start (us.take m)) c = true := (Bool.and_eq_true_iff.mp ok).2
            refine ss_ifs (et_and (et_not (et_B (ev_var rfl))) (fun _ => et_not (et_B (ev_methH rfl (ev_var rfl) (objY_obj (rdN_c _ _ _ _)) (ea_cons (ev_as (ev_var rfl) (congrArg D.str kc)) ea_nil) (fun H' p => ⟨H, a, _, _, c, p, rfl, rfl, bd m⟩))))) (fun h => ss_absurd (by rw [can] at h; cases h)) (fun _ => ss_nx ?_)
            refine ss_ifs (et_not (et_B (ev_var rfl))) (fun _ => ?_) (fun h => by cases h)
            refine ss_seq3 (ss_to (ss_drop (se_meth rfl (ev_var rfl) (objY_obj (rdN_r _ _ _ _)) (ea_cons (ev_as (ev_var rfl) (congrArg D.str kc)) ea_nil) (fun H' p => ⟨H, a, _, _, c, p, rfl, rfl, bd m, wk m⟩)) (okG_c rfl (okG_c (fz_keys _) rfl)) (fun d H' ⟨_, h⟩ => ⟨rfl, h⟩)) ?_)
            show Ss _ (rdY K H a M.words ((KM.rds M.words KM.Rd.start (us.take m)).read M.words c)).p _ _ _ _
            rw [show (KM.rds M.words KM.Rd.start (us.take m)).read M.words c = KM.rds M.words KM.Rd.start (us.take (m + 1)) from rd.symm]
            exact ss_to (ss_rn (rn_augS rfl (ev_as (ev_var rfl) (congrArg D.str kc)) (by show _ + 1 ≤ _; omega)) (fun H' h => ⟨rfl, h⟩)) (last _ false (by rw [tx]; rfl))
          | sl c =>
            refine ss_ifs (et_and (b := true) (et_not (et_B (ev_var rfl))) (fun h => et_absurd (by cases h))) (fun h => by cases h) (fun _ => ss_nx ?_)
            refine ss_ifs (et_not (et_B (ev_var rfl))) (fun h => by cases h) (fun _ => ss_nx ?_)
            rw [show KM.rds M.words KM.Rd.start (us.take m) = KM.rds M.words KM.Rd.start (us.take (m + 1)) from rd.symm]
            exact last _ true (by rw [tx]; simp [KM.Un.isSl])
      · rw [List.take_length]
        show D.tup [_, if _ then _ else D.int (((KM.flat us).map kD).length : Nat)] = _
        rw [List.length_map]⟩
theorem Row.keys {M : KM.Way} {us : List KM.Un} (h : Row M us) : ∀ n ∈ KM.flat us, keyOk n := flat_ok h.sgn
/-- a row that is meant whole -/
def Whole (M : KM.Way) (us : List KM.Un) : Prop := Row M us ∧ (KM.rds M.words KM.Rd.start us).whole = true
def sp_typed (K : PySem.W.Frag) : Sp := spR K fun ds d => ∃ M us, ds = [wayD M, keysD (KM.flat us)] ∧ d = .str (S (KM.txt us)) ∧ Whole M us
theorem sc_typed : FnScope ["manner", "keys", "text", "place"] ["manner", "keys"] (defScope s_typed) := ⟨rfl, rfl, rfl, by decide +kernel, rfl, by decide +kernel, by decide +kernel⟩
theorem cal_typed (T : Tx K mg) : C8.Cal P w K mg base 4 "typed" (sp_typed K) [] :=
  cal_of T.d_typed T.g_typed sc_typed (fun _ _ _ _ _ _ us hl => match us, hl with | [_, _], _ => rfl)
    (spR_len fun ds d ⟨_, _, e, _⟩ => by rw [e]; rfl) fun cdv A outer s H E hr => ⟨_, (pss_cons (ps_expr (C8.pe_c (cal_need_manner T) hr (by decide) (by rfl) (pa_cons (pv 0) pa_nil))) (pss_cons (ps_expr (C8.pe_c (cal_need_keys T) hr (by decide) (by rfl) (pa_cons (pv 1) pa_nil))) (pss_cons (ps_asg (C8.pe_c (cal_typed_in T) hr (by decide) (by rfl) (pa_cons (pv 0) (pa_cons (pv 1) pa_nil))) (pg_tup (n := 2) rfl (pgs_cons (pg_name (i := 2) sc_typed.nd rfl (Or.inl rfl)) (pgs_cons (pg_name (i := 3) sc_typed.nd rfl (Or.inl rfl)) pgs_nil)))) (pss_cons (ps_if (pt_cmp (pc_notN (pv 3)) rfl) (pss_one ps_never) pss_nil) (pss_one (ps_ret (pv 2))))))), spR_by _ <| by
      rintro ds d ⟨M, us, rfl, rfl, hW⟩
      show Rn _ _ _ [_, _, _, _] _; refine (rn_seq (Γ1 := [_, _, _, _]) (rn_drop (ev_callR rfl (ea_cons (ev_var rfl) ea_nil) ⟨_, rfl, rfl⟩)) (rn_seq (Γ1 := [_, _, _, _]) (rn_drop (ev_callR rfl (ea_cons (ev_var rfl) ea_nil) ⟨_, rfl, rfl, ?_, ?_⟩)) (rn_seq (Γ1 := [_, _, _, _]) (rn_unp (is := [2, 3]) (ev_callR rfl (ea_cons (ev_var rfl) (ea_cons (ev_var rfl) ea_nil)) ⟨_, _, rfl, rfl, ?_⟩) rfl rfl rfl) (rn_ifs (et_B (ev_notN (ev_var rfl))) (fun h1 => (rn_absurd ?_)) (fun h1 => (rn_nx (rn_ret (ev_as (ev_var rfl) ?_))))))))
      · exact hW.1.2
      · exact hW.1.keys
      · exact hW.1
      · rw [hW.2] at h1
        cases h1
      · rfl⟩
def sp_is_typing (K : PySem.W.Frag) : Sp := spR K fun ds d => ∃ M us, ds = [wayD M, keysD (KM.flat us)] ∧ d = .bl true ∧ Whole M us
theorem sc_is_typing : FnScope ["manner", "keys"] ["manner", "keys"] (defScope s_is_typing) := ⟨rfl, rfl, rfl, by decide +kernel, rfl, by decide +kernel, by decide +kernel⟩
theorem cal_is_typing (T : Tx K mg) : C8.Cal P w K mg base 4 "is_typing" (sp_is_typing K) [] :=
  cal_of T.d_is_typing T.g_is_typing sc_is_typing (fun _ _ _ _ _ _ us hl => match us, hl with | [_, _], _ => rfl)
    (spR_len fun ds d ⟨_, _, e, _⟩ => by rw [e]; rfl) fun cdv A outer s H E hr => ⟨_, (pss_cons (ps_expr (C8.pe_c (cal_need_manner T) hr (by decide) (by rfl) (pa_cons (pv 0) pa_nil))) (pss_cons (ps_expr (C8.pe_c (cal_need_keys T) hr (by decide) (by rfl) (pa_cons (pv 1) pa_nil))) (pss_one (ps_ret (pe_cmp (pc_isN (pe_ix ix_tup (C8.pe_c (cal_typed_in T) hr (by decide) (by rfl) (pa_cons (pv 0) (pa_cons (pv 1) pa_nil))) pe_int (fun _ _ => rfl))) rfl))))), spR_by _ <| by
      rintro ds d ⟨M, us, rfl, rfl, hW⟩
      show Rn _ _ _ [_, _] _; refine (rn_seq (Γ1 := [_, _]) (rn_drop (ev_callR rfl (ea_cons (ev_var rfl) ea_nil) ⟨_, rfl, rfl⟩)) (rn_seq (Γ1 := [_, _]) (rn_drop (ev_callR rfl (ea_cons (ev_var rfl) ea_nil) ⟨_, rfl, rfl, ?_, ?_⟩)) (rn_ret (ev_as (ev_isN (ev_ixT (ev_callR rfl (ea_cons (ev_var rfl) (ea_cons (ev_var rfl) ea_nil)) ⟨_, _, rfl, rfl, ?_⟩) ev_int rfl)) ?_))))
      · exact hW.1.2
      · exact hW.1.keys
      · rw [hW.2]
        rfl
      · exact hW.1⟩
end
end KH

/-! part K7 -/
set_option Elab.async false
set_option linter.all false
set_option maxRecDepth 100000
set_option maxHeartbeats 4000000
namespace KH
open PySem PySem.Spec PyProof.Rows L2 KD
/-! ### pages.py: a page at a -/
def pgF (l r : V) : List (Str × V) := [("left", l), ("right", r)]
theorem np1 : (("right" : Str) == ("left" : Str)) = false := by decide +kernel
theorem pgF_l (l r : V) : (pgF l r).lookup ("left" : Str) = some l := by simp [pgF, List.lookup]
theorem pgF_r (l r : V) : (pgF l r).lookup ("right" : Str) = some r := by simp [pgF, List.lookup, np1]
theorem pgP_l (l r v : V) : putF "left" v (pgF l r) = pgF v r := by
  unfold pgF putF
  rw [if_pos rfl]
theorem pgP_r (l r v : V) : putF "right" v (pgF l r) = pgF l v := by
  unfold pgF putF
  rw [if_neg (nq np1)]
  unfold putF
  rw [if_pos rfl]
theorem pgN (l r : V) (m : Str) (h1 : (m == ("left" : Str)) = false) (h2 : (m == ("right" : Str)) = false) : (pgF l r).lookup m = none := by simp [pgF, List.lookup, h1, h2]
def itD (x : Nat × Bool) : D := .tup [.str (S [x.1]), .bl x.2]
def rightD (r : List (Nat × Bool)) : List D := r.reverse.map itD
theorem rightD_cons (x : Nat × Bool) (r : List (Nat × Bool)) : rightD (x :: r) = rightD r ++ [itD x] := by
  unfold rightD
  rw [List.reverse_cons, List.map_append]
  rfl
theorem fz_right (r : List (Nat × Bool)) : fzL (rightD r) = true := by
  induction r with
  | nil => rfl
  | cons x r ih =>
    rw [rightD_cons, fzL_app, ih]
    rfl
def PgOk (pg : KM.Pg) : Prop := pg.left.length ≤ 900 ∧ pg.right.length ≤ 900 ∧ ∀ x ∈ pg.right, x.1 < 1114112
theorem pok_right {r : List (Nat × Bool)} (h : ∀ x ∈ r, x.1 < 1114112) : pokL (rightD r) = true ∧ depL (rightD r) ≤ 63 := by
  refine ⟨pokL_mem fun d hd => ?_, depL_le fun d hd => ?_⟩
  · obtain ⟨x, h1, h2⟩ := List.mem_map.mp hd
    rw [← h2]
    have hx := h x (List.mem_reverse.mp h1)
    show (PyData.strOk (S [x.1]) && true) = true
    rw [Bool.and_true]
    show (#[x.1] : Array Nat).all (· < 0x110000) = true
    simp [hx]
  · obtain ⟨x, h1, h2⟩ := List.mem_map.mp hd
    rw [← h2]
    exact (by decide : (itD (0, false)).dep ≤ 63)
def pgC (K : PySem.W.Frag) : Addr := He.ga K "Page"
def pgY (K : PySem.W.Frag) (H0 : Hp) (a : Addr) (pg : KM.Pg) : Hy :=
  ⟨fun H => Same H0 H ∧ H0 a = none ∧ ∃ dx b xs, H a = some (.ins (pgC K) dx (pgF (.str (S pg.left)) (.ref b))) ∧ H0 b = none ∧ H b = some (.lst xs) ∧ DtL K H (rightD pg.right) xs,
   fun H H' s h => ⟨h.1.trans s, h.2.1, let ⟨dx, b, xs, h1, h2, h3, h4⟩ := h.2.2; ⟨dx, b, xs, s _ _ h1, h2, s _ _ h3, h4.mono s⟩⟩⟩
section
variable {P : Program} {w : World} {K : PySem.W.Frag} {mg : Str → Option Value} {base : Heap}
variable {H0 : Hp} {a : Addr} {pg : KM.Pg} {Γ : Ga} {ta tv : TE} {R : D → Hp → Prop} {l : List Nat}
theorem pg_obj {m : Str} (h1 : (m == ("left" : Str)) = false := by decide +kernel) (h2 : (m == ("right" : Str)) = false := by decide +kernel) : ∀ H, (pgY K H0 a pg).p H → Obj a (pgC K) m H := fun H p => let ⟨dx, b, xs, e, _⟩ := p.2.2; ⟨dx, _, e, pgN _ _ m h1 h2⟩
theorem pg_left (T : Tx K mg) (ho : Ev K (pgY K H0 a pg) ta Γ (.adr a)) : Ev K (pgY K H0 a pg) (tFld K ta "left") Γ (.str (S pg.left)) :=
  ev_fld ho fun H p => let ⟨dx, b, xs, e, _⟩ := p.2.2; ⟨_, dx, _, .str (S pg.left), e, T.cl_Page, T.na_Page_left, pgF_l _ _, rfl⟩
theorem pg_right (T : Tx K mg) (ho : Ev K (pgY K H0 a pg) ta Γ (.adr a)) : Ev K (pgY K H0 a pg) (tFld K ta "right") Γ (.lst (rightD pg.right)) :=
  ev_fld ho fun H p => let ⟨dx, b, xs, e, _, h3, h4⟩ := p.2.2; ⟨_, dx, _, .ref b, e, T.cl_Page, T.na_Page_right, pgF_r _ _, b, xs, rfl, h3, h4⟩
theorem right_any (T : Tx K mg) (ho : Ev K (pgY K H0 a pg) ta Γ (.adr a)) (ok : PgOk pg) : Ev K (pgY K H0 a pg) (tOp (rNeD K) (tFld K ta "right") (tLst tNil)) Γ (.bl (!pg.right.isEmpty)) :=
  ev_as (ev_neNil (pg_right T ho) (ev_lst ea_nil) (pok_right ok.2.2)) (by
    refine congrArg (fun z => D.bl (!z)) ?_
    cases h : pg.right with
    | nil => rfl
    | cons x r =>
      rw [rightD_cons]
      simp)
theorem right_last (T : Tx K mg) (ho : Ev K (pgY K H0 a pg) ta Γ (.adr a)) {x : Nat × Bool} {r : List (Nat × Bool)} (h : pg.right = x :: r) : Ev K (pgY K H0 a pg) (tOp (rIxL K) (tFld K ta "right") (tUn (rU fun i => .int (-i)) (tC (.int 1)))) Γ (itD x) :=
  ev_ixL (pg_right T ho) (ev_neg ev_int) (by rw [h, rightD_cons]; exact atI_last _ _)
def sp_Page_is_next_own (K : PySem.W.Frag) : Sp := spH K fun H ds d => ∃ H0 a pg, (pgY K H0 a pg).p H ∧ ds = [.adr a] ∧ d = .bl (KM.nxtOwn pg.right) ∧ PgOk pg
theorem sc_Page_is_next_own : FnScope ["self"] ["self"] (defScope s_Page_is_next_own) := ⟨rfl, rfl, rfl, by decide +kernel, rfl, by decide +kernel, by decide +kernel⟩
theorem met_Page_is_next_own (T : Tx K mg) : C8.Met P w K mg base 1 (He.ga K "Page") "is_next_own" (sp_Page_is_next_own K) [] :=
  met_of T.d_Page_is_next_own T.cl_Page T.me_Page_is_next_own sc_Page_is_next_own (fun _ _ _ _ _ _ us hl => match us, hl with | [_], _ => rfl)
    (spH_len fun H ds d ⟨_, _, _, _, e, _⟩ => by rw [e]; rfl) fun cdv A outer s H E hr => ⟨_, (pss_one (ps_ret (pe_and (pe_cmpR (op_neD (hu64 hr)) (pe_fld (pv 0) rfl) (pe_lst pa_nil) (nomark _)) (pe_one (pe_ix ix_tup (pe_ix ix_list (pe_fld (pv 0) rfl) (pe_un un_neg pe_int) (fun _ _ => rfl)) pe_int (fun _ _ => rfl)))))), spH_by _ <| by
      rintro ds d ⟨H0, a, pg, hY, rfl, rfl, ok⟩
      refine ⟨_, hY, ?_⟩
      clear hY
      show Rn _ _ _ [_] _
      cases hp : pg.right with
      | nil => exact rn_ret (ev_as (ev_andV (b := false) (right_any T (ev_var rfl) ok) (fun h => by rw [hp] at h; cases h)) (by rw [hp]; rfl))
      | cons x r => exact rn_ret (ev_as (ev_andV (right_any T (ev_var rfl) ok) (fun h => ev_ixT (right_last T (ev_var rfl) hp) ev_int rfl)) (by rw [hp]; rfl))⟩
def sp_Page_next_sign (K : PySem.W.Frag) : Sp := spH K fun H ds d => ∃ H0 a pg, (pgY K H0 a pg).p H ∧ ds = [.adr a] ∧ d = .str (S (KM.nxt pg.right).toList) ∧ PgOk pg
theorem sc_Page_next_sign : FnScope ["self"] ["self"] (defScope s_Page_next_sign) := ⟨rfl, rfl, rfl, by decide +kernel, rfl, by decide +kernel, by decide +kernel⟩
theorem met_Page_next_sign (T : Tx K mg) : C8.Met P w K mg base 1 (He.ga K "Page") "next_sign" (sp_Page_next_sign K) [] :=
  met_of T.d_Page_next_sign T.cl_Page T.me_Page_next_sign sc_Page_next_sign (fun _ _ _ _ _ _ us hl => match us, hl with | [_], _ => rfl)
    (spH_len fun H ds d ⟨_, _, _, _, e, _⟩ => by rw [e]; rfl) fun cdv A outer s H E hr => ⟨_, (pss_one (ps_ret (pe_ifExp (pt_cmpR (op_neD (hu64 hr)) (pe_fld (pv 0) rfl) (pe_lst pa_nil) (nomark _)) (pe_ix ix_tup (pe_ix ix_list (pe_fld (pv 0) rfl) (pe_un un_neg pe_int) (fun _ _ => rfl)) pe_int (fun _ _ => rfl)) pe_str))), spH_by _ <| by
      rintro ds d ⟨H0, a, pg, hY, rfl, rfl, ok⟩
      refine ⟨_, hY, ?_⟩
      clear hY
      show Rn _ _ _ [_] _
      cases hp : pg.right with
      | nil => exact rn_ret (ev_as (ev_ifL (a := []) (et_test (right_any T (ev_var rfl) ok)) (fun h => by rw [hp] at h; cases h) (fun _ => ev_lit (l := []) (by decide +kernel))) (by rw [hp]; rfl))
      | cons x r => exact rn_ret (ev_as (ev_ifL (a := [x.1]) (et_test (right_any T (ev_var rfl) ok)) (fun h => ev_ixT (right_last T (ev_var rfl) hp) ev_int rfl) (fun _ => ev_lit (l := []) (by decide +kernel))) (by rw [hp]; rfl))⟩
def sp_Page_does_put (K : PySem.W.Frag) : Sp := spH K fun H ds d => ∃ H0 a pg B c, (pgY K H0 a pg).p H ∧ ds = [.adr a, bookD B, .str (S [c])] ∧ d = .bl (KM.puts B pg c) ∧ PgOk pg
theorem sc_Page_does_put : FnScope ["self", "book", "sign", "before"] ["self", "book", "sign"] (defScope s_Page_does_put) := ⟨rfl, rfl, rfl, by decide +kernel, rfl, by decide +kernel, by decide +kernel⟩
theorem met_Page_does_put (T : Tx K mg) : C8.Met P w K mg base 2 (He.ga K "Page") "does_put" (sp_Page_does_put K) [] :=
  met_of T.d_Page_does_put T.cl_Page T.me_Page_does_put sc_Page_does_put (fun _ _ _ _ _ _ us hl => match us, hl with | [_, _, _], _ => rfl)
    (spH_len fun H ds d ⟨_, _, _, _, _, _, e, _⟩ => by rw [e]; rfl) fun cdv A outer s H E hr => ⟨_, (pss_cons (ps_if (PW.pt (pw_and (pt_cmpR op_ne (pe_ix ix_tup (pv 1) pe_int (fun _ _ => rfl)) (pe_gS (by rfl) T.c_SAME) (nomark _)) (pw_and1 (pt_val (C8.pe_c (cal_is_within T) hr (by decide) (by rfl) (pa_cons (pe_fld (pv 0) rfl) pa_nil)))))) (pss_one (ps_ret pe_bl)) pss_nil) (pss_cons (ps_if (pt_cmpR op_in_sign (pv 2) (pe_gS (by rfl) T.c_OPENERS) (by rfl)) (pss_one (ps_ret (pe_or (pe_cmpR op_eq (pe_ix ix_tup (pv 1) pe_int (fun _ _ => rfl)) (pe_gS (by rfl) T.c_ALWAYS) (nomark _)) (pe_one (pe_and (pe_cmpR op_eq (pe_ix ix_tup (pv 1) pe_int (fun _ _ => rfl)) (pe_gS (by rfl) T.c_FREE) (nomark _)) (pe_one (C8.pe_c (cal_is_free T) hr (by decide) (by rfl) (pa_cons (C8.pe_mt0 (met_Page_next_sign T) hr (by decide) (pv 0)) pa_nil)))))))) pss_nil) (pss_cons (ps_if (pt_cmpR op_ne (pe_ix ix_tup (pv 1) pe_int (fun _ _ => rfl)) (pe_gS (by rfl) T.c_APART) (nomark _)) (pss_one (ps_ret (pe_cmpR op_eq (pe_ix ix_tup (pv 1) pe_int (fun _ _ => rfl)) (pe_gS (by rfl) T.c_ALWAYS) (nomark _)))) pss_nil) (pss_cons (ps_set (i := 3) sc_Page_does_put.nd rfl (Or.inl rfl) (pe_slice C8.sl_txt (pe_fld (pv 0) rfl) (po_some (pe_un un_neg pe_int)) po_none)) (pss_one (ps_ret (pe_and (C8.pe_c (cal_is_free T) hr (by decide) (by rfl) (pa_cons (C8.pe_mt0 (met_Page_next_sign T) hr (by decide) (pv 0)) pa_nil)) (pe_and (pe_not (C8.pe_c (cal_is_letter T) hr (by decide) (by rfl) (pa_cons (pv 3) pa_nil))) (pe_one (pe_cmpR op_ne (pv 3) (pe_gS (by rfl) T.c_QUOTE) (nomark _))))))))))), spH_by _ <| by
      rintro ds d ⟨H0, a, pg, B, c, hY, rfl, rfl, ok⟩
      refine ⟨_, hY, ?_⟩
      clear hY
      have e1 : oneB KM.ltr (last1 pg.left) = KM.lastLtr pg.left := by
        rw [last1_eq]
        unfold KM.lastLtr
        cases pg.left.getLast? <;> rfl
      have e2 : decide (last1 pg.left = [39]) = decide (pg.left.getLast? = some 39) := by
        rw [last1_eq]
        cases pg.left.getLast? with
        | none => rfl
        | some c => simp
      have e3 : (KM.nxt pg.right).toList.head? = KM.nxt pg.right := by cases KM.nxt pg.right <;> rfl
      have l1 : (last1 pg.left).length ≤ 1 := by rw [last1_eq]; cases pg.left.getLast? <;> simp
      have l2 : (KM.nxt pg.right).toList.length ≤ 1 := by cases KM.nxt pg.right <;> simp
      have l3 : pg.left.length ≤ 1000 := Nat.le_trans ok.1 (by decide)
      have l4 : pg.left.length ≤ 100000 := Nat.le_trans ok.1 (by decide)
      show Rn _ _ _ [_, _, _, _] _; refine (rn_ifs (et_and (et_test (ev_as (ev_neS (ev_ixT (ev_var rfl) ev_int rfl) ev_str) (congrArg (fun z => D.bl (!z)) (nmI_same _)))) (fun h1 => (et_B (ev_callR rfl (ea_cons (pg_left T (ev_var rfl)) ea_nil) ⟨_, rfl, rfl, ?_⟩)))) (fun h2 => (rn_out (rn_ret (ev_as ev_bl ?_)))) (fun h2 => (rn_nx (rn_ifs (et_test (ev_inL (ev_var rfl) (ev_lit (l := [40, 91]) (by decide +kernel)) ?_)) (fun h3 => (rn_out (rn_ret (ev_as (ev_orV (ev_as (ev_eqS (ev_ixT (ev_var rfl) ev_int rfl) ev_str) (congrArg D.bl (nmP_always _))) (fun h4 => (ev_andV (ev_as (ev_eqS (ev_ixT (ev_var rfl) ev_int rfl) ev_str) (congrArg D.bl (nmP_free _))) (fun h5 => (ev_callR rfl (ea_cons (ev_methH rfl (ev_var rfl) pg_obj ea_nil (fun H p => ⟨_, _, _, p, rfl, rfl, ok⟩)) ea_nil) ⟨_, rfl, rfl, ?_⟩))))) ?_)))) (fun h3 => (rn_nx (rn_ifs (et_test (ev_as (ev_neS (ev_ixT (ev_var rfl) ev_int rfl) ev_str) (congrArg (fun z => D.bl (!z)) (nmQ_apart _)))) (fun h6 => (rn_out (rn_ret (ev_as (ev_as (ev_eqS (ev_ixT (ev_var rfl) ev_int rfl) ev_str) (congrArg D.bl (nmQ_always _))) ?_)))) (fun h6 => (rn_nx (rn_seq (Γ1 := [_, _, _, _]) (rn_set (ev_slLast (pg_left T (ev_var rfl)) ?_)) (rn_ret (ev_as (ev_andV (ev_callR rfl (ea_cons (ev_methH rfl (ev_var rfl) pg_obj ea_nil (fun H p => ⟨_, _, _, p, rfl, rfl, ok⟩)) ea_nil) ⟨_, rfl, rfl, ?_⟩) (fun h7 => (ev_andV (ev_notV (ev_callR rfl (ea_cons (ev_var rfl) ea_nil) ⟨_, rfl, rfl, ?_⟩)) (fun h8 => (ev_neL (ev_var rfl) (ev_lit (l := [39]) (by decide +kernel))))))) ?_))))))))))))
      all_goals first
        | exact l1
        | exact l2
        | exact l3
        | exact l4
        | rfl
        | (refine congrArg D.bl ?_
           simp only [m_opn, e1, e2, e3] at *
           simp_all [KM.puts] <;> (by_cases hi : B.i = .same <;> simp_all))⟩
/-! what changes a page -/
theorem dtl_snoc {H : Hp} {d : D} : ∀ {l : List D} {xs : List V}, DtL K H (l ++ [d]) xs → ∃ ys u, xs = ys ++ [u] ∧ DtL K H l ys ∧ Dt K H d u
  | [], _, h => by
    obtain ⟨v, e, h1⟩ := dtl1 h
    exact ⟨[], v, e, rfl, h1⟩
  | c :: l, _, h => by
    obtain ⟨v, r, e, h1, h2⟩ := h
    obtain ⟨ys, u, e2, h3, h4⟩ := dtl_snoc h2
    exact ⟨v :: ys, u, by rw [e, e2]; rfl, ⟨v, ys, rfl, h1, h3⟩, h4⟩
/-- the page's own list gets other items -/
theorem pg_list {H : Hp} {dx b : Addr} {xs ys : List V} {r : List (Nat × Bool)} (p : Same H0 H) (n : H0 a = none) (e : H a = some (.ins (pgC K) dx (pgF (.str (S pg.left)) (.ref b)))) (nb : H0 b = none) (eb : H b = some (.lst xs))
    (h : DtL K H (rightD r) ys) : (pgY K H0 a ⟨pg.left, r⟩).p (upd H b (.lst ys)) ∧ Fz H (upd H b (.lst ys)) := by
  have fz : Fz H (upd H b (.lst ys)) := fz_upd fun zs z => by rw [eb] at z; cases z
  have ne : a ≠ b := fun z => by rw [← z, e] at eb; cases eb
  refine ⟨⟨fun c o z => ?_, n, dx, b, ys, ?_, nb, upd_same, h.fzm fz _ _ (fz_right r)⟩, fz⟩
  · rw [upd_ne (ne_of_none z nb)]
    exact p _ _ z
  · rw [upd_ne ne]
    exact e
/-- the page gets other attributes -/
theorem pg_attr {H : Hp} {dx b : Addr} {xs : List V} {r : List (Nat × Bool)} {l : List Nat} {fs : List (Str × V)} {dx' : Addr} (p : Same H0 H) (n : H0 a = none) (e : H a = some (.ins (pgC K) dx' fs)) (nb : H0 b = none) (eb : H b = some (.lst xs))
    (h : DtL K H (rightD r) xs) : (pgY K H0 a ⟨l, r⟩).p (upd H a (.ins (pgC K) dx (pgF (.str (S l)) (.ref b)))) ∧ Fz H (upd H a (.ins (pgC K) dx (pgF (.str (S l)) (.ref b)))) := by
  have fz : Fz H (upd H a (.ins (pgC K) dx (pgF (.str (S l)) (.ref b)))) := fz_upd fun zs z => by rw [e] at z; cases z
  have ne : b ≠ a := fun z => by rw [z, e] at eb; cases eb
  refine ⟨⟨fun c o z => ?_, n, dx, b, xs, upd_same, nb, ?_, h.fzm fz _ _ (fz_right r)⟩, fz⟩
  · rw [upd_ne (ne_of_none z n)]
    exact p _ _ z
  · rw [upd_ne ne]
    exact eb
theorem se_pgPop (T : Tx K mg) (ho : Ev K (pgY K H0 a pg) ta Γ (.adr a)) {x : Nat × Bool} {r : List (Nat × Bool)} (h : pg.right = x :: r) :
    Se (relF K) (pgY K H0 a pg).p (tBM0 K "list" rPop (tFld K ta "right")) Γ (fun d H => d = itD x ∧ (pgY K H0 a ⟨pg.left, r⟩).p H) := fun σ H p e Q q =>
  ho σ H p e _ fun v H1 s1 h1 => by
    have e1 : v = .ref a := h1
    subst e1
    obtain ⟨b0, n, dx, b, xs, ea, nb, eb, hx⟩ := (pgY K H0 a pg).st _ _ s1 p
    rw [h, rightD_cons] at hx
    obtain ⟨ys, u, exs, hy, hu⟩ := dtl_snoc hx
    subst exs
    obtain ⟨py, fz⟩ := pg_list b0 n ea nb eb hy
    refine ⟨a, pgC K, dx, _, .ref b, rfl, ea, T.cl_Page, T.na_Page_right, pgF_r _ _, .inl ⟨rfl, _, SqL.of eb⟩, b, ys ++ [u], u, rfl, rfl, eb, by simp, ?_⟩
    rw [List.dropLast_concat]
    exact q (itD x) u _ ((Fz.of s1).trans fz) ⟨rfl, py⟩ (hu.fzm fz _ _ rfl)
theorem se_pgAdd (T : Tx K mg) (ho : Ev K (pgY K H0 a pg) ta Γ (.adr a)) {x : Nat × Bool} {tr : TA} (hr : Ea K (pgY K H0 a pg) tr Γ [itD x]) (ok : pg.right.length ≤ 900) :
    Se (relF K) (pgY K H0 a pg).p (tBM K "list" rAppend (tFld K ta "right") tr) Γ (fun d H => d = .non ∧ (pgY K H0 a ⟨pg.left, x :: pg.right⟩).p H) := fun σ H p e Q q =>
  ho σ H p e _ fun v H1 s1 h1 => by
    have e1 : v = .ref a := h1
    subst e1
    have p1 := (pgY K H0 a pg).st _ _ s1 p
    obtain ⟨b0, n, dx, b, xs, ea, nb, eb, hx⟩ := id p1
    refine ⟨a, pgC K, dx, _, .ref b, rfl, ea, T.cl_Page, T.na_Page_right, pgF_r _ _, .inl ⟨rfl, _, SqL.of eb⟩, hr σ H1 p1 (e.mono s1) _ fun vs H2 s2 h2 => ?_⟩
    obtain ⟨u, e2, hu⟩ := dtl1 h2
    subst e2
    have hy : DtL K H2 (rightD (x :: pg.right)) (xs ++ [u]) := by
      rw [rightD_cons]
      exact (hx.mono s2).app ⟨u, [], rfl, hu, rfl⟩
    obtain ⟨py, fz⟩ := pg_list (b0.trans s2) n (s2 _ _ ea) nb (s2 _ _ eb) hy
    refine ⟨b, xs, u, rfl, rfl, s2 _ _ eb, ?_, q .non .non _ ((Fz.of (s1.trans s2)).trans fz) ⟨rfl, py⟩ rfl⟩
    rw [hx.length]
    unfold rightD
    rw [List.length_map, List.length_reverse]
    exact Nat.lt_of_le_of_lt ok (by decide)
theorem ss_pgL (T : Tx K mg) (ho : Ev K (pgY K H0 a pg) ta Γ (.adr a)) (hv : Ev K (pgY K H0 a pg) tv Γ (.str (S l))) (g : okG (relF K) Γ = true) :
    Ss (relF K) (pgY K H0 a pg).p (sFld K ta tv "left") Γ (fun G H => G = Γ ∧ (pgY K H0 a ⟨l, pg.right⟩).p H) R := fun σ H E p e k _ =>
  hv σ H p e _ fun y H1 s1 h1 => ho σ H1 ((pgY K H0 a pg).st _ _ s1 p) (e.mono s1) _ fun x H2 s2 h2 => by
    have e1 : x = .ref a := h2
    have e2 : y = .str (S l) := h1
    subst e1 e2
    obtain ⟨b0, n, dx, b, xs, ea, nb, eb, hx⟩ := (pgY K H0 a pg).st _ _ (s1.trans s2) p
    obtain ⟨py, fz⟩ := pg_attr (dx := dx) (l := l) b0 n ea nb eb hx
    refine ⟨a, pgC K, dx, _, rfl, ea, T.cl_Page, T.na_Page_left, by show 2 < 1000; decide, ?_⟩
    rw [pgP_l]
    exact k Γ σ _ ((Fz.of (s1.trans s2)).trans fz) ⟨rfl, py⟩ ((e.mono (s1.trans s2)).rel g fz)
theorem ss_pgA (T : Tx K mg) {r : List (Nat × Bool)} (ho : Ev K (pgY K H0 a pg) ta Γ (.adr a)) (hv : Se (relF K) (pgY K H0 a pg).p tv Γ (fun d H => d = .str (S l) ∧ (pgY K H0 a ⟨pg.left, r⟩).p H)) (g : okG (relF K) Γ = true) (hl : pg.left.length + l.length ≤ 100000) :
    Ss (relF K) (pgY K H0 a pg).p (sFldAug K ta tv rAddS "left") Γ (fun G H => G = Γ ∧ (pgY K H0 a ⟨pg.left ++ l, r⟩).p H) R := fun σ H E p e k _ =>
  ho σ H p e _ fun x H1 s1 h1 => by
    have e1 : x = .ref a := h1
    subst e1
    have p1 := (pgY K H0 a pg).st _ _ s1 p
    obtain ⟨b0, n, dx, b, xs, ea, nb, eb, hx⟩ := id p1
    refine ⟨a, pgC K, dx, _, _, rfl, ea, T.cl_Page, T.na_Page_left, pgF_l _ _, hv σ H1 p1 (e.mono s1) _ fun d y H2 r2 ⟨ed, p2⟩ hy => ?_⟩
    subst ed
    have e2 : y = .str (S l) := hy
    subst e2
    obtain ⟨b2, n2, dx2, b', ys, ea2, nb2, eb2, hx2⟩ := p2
    refine ⟨_, _, rfl, rfl, by rw [S_len, S_len]; exact small hl, dx2, _, ea2, by show 2 < 1000; decide, ?_⟩
    rw [pgP_l, S_cat]
    obtain ⟨py, fz⟩ := pg_attr (dx := dx2) (l := pg.left ++ l) b2 n2 ea2 nb2 eb2 hx2
    exact k Γ σ _ (((Fz.of s1).trans r2).trans fz) ⟨rfl, py⟩ (((e.mono s1).rel g r2).rel g fz)
theorem ss_pgR (T : Tx K mg) {r : List (Nat × Bool)} (ho : Ev K (pgY K H0 a pg) ta Γ (.adr a)) (hv : Ef K (pgY K H0 a pg) tv Γ (rightD r)) (g : okG (relF K) Γ = true) :
    Ss (relF K) (pgY K H0 a pg).p (sFld K ta tv "right") Γ (fun G H => G = Γ ∧ (pgY K H0 a ⟨pg.left, r⟩).p H) R := fun σ H E p e k _ =>
  hv σ H p e _ fun b' ys H1 s1 nb' eb' hy => ho σ H1 ((pgY K H0 a pg).st _ _ s1 p) (e.mono s1) _ fun x H2 s2 h2 => by
    have e1 : x = .ref a := h2
    subst e1
    obtain ⟨b0, n, dx, b, xs, ea, nb, eb, hx⟩ := (pgY K H0 a pg).st _ _ (s1.trans s2) p
    obtain ⟨py, fz⟩ := pg_attr (dx := dx) (l := pg.left) b0 n ea (none_back p.1 nb') (s2 _ _ eb') (hy.mono s2)
    refine ⟨a, pgC K, dx, _, rfl, ea, T.cl_Page, T.na_Page_right, by show 2 < 1000; decide, ?_⟩
    rw [pgP_r]
    exact k Γ σ _ ((Fz.of (s1.trans s2)).trans fz) ⟨rfl, py⟩ ((e.mono (s1.trans s2)).rel g fz)
/-- one over -/
def over (pg : KM.Pg) : KM.Pg := match pg.right with
  | [] => pg
  | x :: r => ⟨pg.left ++ [x.1], r⟩
def sp_Page_go_over (K : PySem.W.Frag) : Sp := spS (relF K) fun H ds B => ∃ H0 a pg, (pgY K H0 a pg).p H ∧ ds = [.adr a] ∧ B = (fun d H' => d = .non ∧ (pgY K H0 a (over pg)).p H') ∧ PgOk pg
theorem sc_Page_go_over : FnScope ["self"] ["self"] (defScope s_Page_go_over) := ⟨rfl, rfl, rfl, by decide +kernel, rfl, by decide +kernel, by decide +kernel⟩
theorem met_Page_go_over (T : Tx K mg) : C8.Met P w K mg base 1 (He.ga K "Page") "go_over" (sp_Page_go_over K) [] :=
  met_of T.d_Page_go_over T.cl_Page T.me_Page_go_over sc_Page_go_over (fun _ _ _ _ _ _ us hl => match us, hl with | [_], _ => rfl)
    (spS_len fun H ds B ⟨_, _, _, _, e, _⟩ => by rw [e]; rfl) fun cdv A outer s H E hr => ⟨_, (pss_one (ps_if (pt_cmpR (op_neD (hu64 hr)) (pe_fld (pv 0) rfl) (pe_lst pa_nil) (nomark _)) (pss_one (ps_fldaug (pv 0) (pe_ix ix_tup (pe_bm0 PySem.F.plainAttrs_list PySem.F.slot_list_pop PySem.F.type_list_pop mt_pop (pe_fld (pv 0) rfl)) pe_int (fun _ _ => rfl)) in_addS)) pss_nil)), spS_by _ <| by
      rintro ds B ⟨H0, a, pg, hY, rfl, rfl, ok⟩
      refine ⟨_, hY, ?_⟩
      clear hY
      show Ss _ _ _ [some (.adr a)] _ _
      cases hp : pg.right with
      | nil =>
        have eo : over pg = pg := by unfold over; rw [hp]
        refine ss_if (et_test (right_any T (ev_var rfl) ok)) (fun h => by rw [hp] at h; cases h) (fun _ => ss_next fun H' h => ⟨rfl, by rw [eo]; exact h⟩)
      | cons x r =>
        have eo : over pg = ⟨pg.left ++ [x.1], r⟩ := by unfold over; rw [hp]
        refine ss_if (et_test (right_any T (ev_var rfl) ok)) (fun _ => ?_) (fun h => by rw [hp] at h; cases h)
        have hl : pg.left.length + [x.1].length ≤ 100000 := by
          have := ok.1
          show _ + 1 ≤ _
          omega
        refine ss_mono (ss_pgA (l := [x.1]) (r := r) T (ev_var rfl) (se_op1 (B1 := fun d H => d = itD x ∧ (pgY K H0 a ⟨pg.left, r⟩).p H) (se_pgPop T (ev_var rfl) hp) rfl ?_) rfl hl) (fun _ h => h) (fun G H' h => ⟨rfl, by rw [eo]; exact h.2⟩) (fun _ _ h => h)
        · rintro d σ H' v ⟨ed, p⟩ hv _ Q q
          subst ed
          obtain ⟨b, xs, e1, h2, h3⟩ := hv
          obtain ⟨w1, r1, e2, h4, h5⟩ := h3
          obtain ⟨w2, r2, e3, h6, h7⟩ := h5
          have e4 : r2 = [] := h7
          subst e1 e2 e3 e4
          exact ⟨b, _, 0, w1, rfl, rfl, SqT.of h2, rfl, q _ _ H' (Same.refl H') ⟨rfl, p⟩ h4⟩⟩
end
end KH

/-! part K8 -/
set_option Elab.async false
set_option linter.all false
set_option maxRecDepth 100000
set_option maxHeartbeats 4000000
namespace KH
open PySem PySem.Spec PyProof.Rows L2 KD
section
variable {P : Program} {w : World} {K : PySem.W.Frag} {mg : Str → Option Value} {base : Heap}
theorem nxt_eq (o : Option Nat) (c : Nat) : decide (o.toList = [c]) = decide (o = some c) := by cases o <;> simp
def sp_Page_go_back (K : PySem.W.Frag) : Sp := spS (relF K) fun H ds B => ∃ H0 a pg Bk, (pgY K H0 a pg).p H ∧ ds = [.adr a, bookD Bk] ∧ B = (fun d H' => d = .non ∧ (pgY K H0 a (KM.back Bk pg)).p H') ∧ PgOk pg
theorem sc_Page_go_back : FnScope ["self", "book", "closer", "does_match"] ["self", "book"] (defScope s_Page_go_back) := ⟨rfl, rfl, rfl, by decide +kernel, rfl, by decide +kernel, by decide +kernel⟩
theorem met_Page_go_back (T : Tx K mg) : C8.Met P w K mg base 2 (He.ga K "Page") "go_back" (sp_Page_go_back K) [] :=
  met_of T.d_Page_go_back T.cl_Page T.me_Page_go_back sc_Page_go_back (fun _ _ _ _ _ _ us hl => match us, hl with | [_, _], _ => rfl)
    (spS_len fun H ds B ⟨_, _, _, _, _, e, _⟩ => by rw [e]; rfl) fun cdv A outer s H E hr => ⟨_, (pss_one (ps_if (pt_cmpR op_ne (pe_fld (pv 0) rfl) pe_str (nomark _)) (pss_cons (ps_set (i := 2) sc_Page_go_back.nd rfl (Or.inl rfl) (C8.pe_c (cal_closer_of T) hr (by decide) (by rfl) (pa_cons (pe_ix ix_str (pe_fld (pv 0) rfl) (pe_un un_neg pe_int) (fun _ _ => rfl)) pa_nil))) (pss_cons (ps_fld (pv 0) (pe_slice C8.sl_txt (pe_fld (pv 0) rfl) po_none (po_some (pe_un un_neg pe_int))) rfl) (pss_cons (ps_set (i := 3) sc_Page_go_back.nd rfl (Or.inl rfl) (pe_and (pe_cmpR op_ne (pv 2) pe_str (nomark _)) (pe_one (pe_cmpR op_eq (C8.pe_mt0 (met_Page_next_sign T) hr (by decide) (pv 0)) (pv 2) (nomark _))))) (pss_one (ps_if (PW.pt (pw_and (pt_val (pv 3)) (pw_and1 (PW.pt (pw_or (pt_cmpR op_eq (pe_ix ix_tup (pv 1) pe_int (fun _ _ => rfl)) (pe_gS (by rfl) T.c_ANY) (nomark _)) (pw_or1 (PW.pt (pw_and (pt_cmpR op_eq (pe_ix ix_tup (pv 1) pe_int (fun _ _ => rfl)) (pe_gS (by rfl) T.c_OWN) (nomark _)) (pw_and1 (pt_val (C8.pe_mt0 (met_Page_is_next_own T) hr (by decide) (pv 0)))))))))))) (pss_one (ps_expr (pe_bm0 PySem.F.plainAttrs_list PySem.F.slot_list_pop PySem.F.type_list_pop mt_pop (pe_fld (pv 0) rfl)))) pss_nil))))) pss_nil)), spS_by _ <| by
      rintro ds B ⟨H0, a, pg, Bk, hY, rfl, rfl, ok⟩
      refine ⟨_, hY, ?_⟩
      clear hY
      show Ss _ _ _ [some (.adr a), some (bookD Bk), none, none] _ _
      have l4 : pg.left.length ≤ 100000 := Nat.le_trans ok.1 (by decide)
      refine ss_if (et_test (ev_neL (pg_left T (ev_var rfl)) (ev_lit (l := []) (by decide +kernel)))) (fun h1 => ?_) (fun h1 => ?_)
      · have hne : pg.left ≠ [] := by simpa using h1
        obtain ⟨c, hc⟩ : ∃ c, pg.left.getLast? = some c := ⟨_, List.getLast?_eq_getLast hne⟩
        have mt : (!decide (cloL [c] = []) && decide ((KM.nxt pg.right).toList = cloL [c])) = ((KM.clo c).isSome && decide (KM.nxt pg.right = KM.clo c)) := by
          show (!decide ((KM.clo c).toList = []) && decide ((KM.nxt pg.right).toList = (KM.clo c).toList)) = _
          cases KM.clo c with
          | none => rfl
          | some d =>
            rw [show decide ((KM.nxt pg.right).toList = (some d).toList) = decide (KM.nxt pg.right = some d) from nxt_eq _ _]
            rfl
        have ok1 : PgOk ⟨pg.left.dropLast, pg.right⟩ := ⟨by show pg.left.dropLast.length ≤ 900; rw [List.length_dropLast]; have := ok.1; omega, ok.2⟩
        have bk : KM.back Bk pg = ⟨pg.left.dropLast, if KM.takes Bk pg.right c = true then pg.right.tail else pg.right⟩ := by unfold KM.back; rw [hc]
        refine ss_to (Γ1 := [some (.adr a), some (bookD Bk), some (.str (S (cloL [c]))), none]) (ss_rn (rn_set (ev_as (ev_callR rfl (ea_cons (ev_ixLast (pg_left T (ev_var rfl)) (ev_neg ev_int) l4 hne) ea_nil) ⟨_, rfl, rfl, Nat.le_refl _⟩) (by rw [hc]; rfl))) (fun H' h => ⟨rfl, h⟩)) ?_
        refine ss_to (ss_pgL T (ev_var rfl) (ev_slInit (pg_left T (ev_var rfl)) l4) rfl) ?_
        refine ss_to (Γ1 := [some (.adr a), some (bookD Bk), some (.str (S (cloL [c]))), some (.bl ((KM.clo c).isSome && decide (KM.nxt pg.right = KM.clo c)))])
          (ss_rn (rn_set (ev_as (ev_andV (ev_neL (ev_var rfl) (ev_lit (l := []) (by decide +kernel))) (fun _ => ev_eqL (ev_methH rfl (ev_var rfl) pg_obj ea_nil (fun H' p => ⟨_, _, _, p, rfl, rfl, ok1⟩)) (ev_var rfl))) (congrArg D.bl mt))) (fun H' h => ⟨rfl, h⟩)) ?_
        refine ss_if (b := KM.takes Bk pg.right c) (et_and (et_B (ev_var rfl)) (fun _ => et_or (et_test (ev_as (ev_eqS (ev_ixT (ev_var rfl) ev_int rfl) ev_str) (congrArg D.bl (nmB_any _)))) (fun _ => et_and (et_test (ev_as (ev_eqS (ev_ixT (ev_var rfl) ev_int rfl) ev_str) (congrArg D.bl (nmB_own _)))) (fun _ => et_B (ev_methH rfl (ev_var rfl) pg_obj ea_nil (fun H' p => ⟨_, _, _, p, rfl, rfl, ok1⟩)))))) (fun h => ?_) (fun h => ?_)
        · have hn : ∃ x r, pg.right = x :: r := by
            cases hp : pg.right with
            | nil =>
              rw [hp] at h
              unfold KM.takes at h
              have h2 := (Bool.and_eq_true_iff.mp (Bool.and_eq_true_iff.mp h).1)
              have h3 : KM.nxt ([] : List (Nat × Bool)) = KM.clo c := of_decide_eq_true h2.2
              have h4 : KM.nxt ([] : List (Nat × Bool)) = none := rfl
              rw [← h3, h4] at h2
              cases h2.1
            | cons x r => exact ⟨x, r, rfl⟩
          obtain ⟨x, r, hp⟩ := hn
          refine ss_drop (se_pgPop (pg := ⟨pg.left.dropLast, pg.right⟩) T (ev_var rfl) hp) rfl (fun d H' p => ⟨rfl, ?_⟩)
          rw [bk, if_pos h, hp]
          exact p.2
        · refine ss_next fun H' p => ⟨rfl, ?_⟩
          rw [bk, if_neg (by rw [h]; decide)]
          exact p
      · have he : pg.left = [] := by simpa using h1
        refine ss_next fun H' p => ⟨rfl, ?_⟩
        have bk : KM.back Bk pg = pg := by unfold KM.back; rw [he]; rfl
        rw [bk]
        exact p⟩
theorem right_map (r : List (Nat × Bool)) (f : Nat × Bool → Nat × Bool) : rightD (r.map f) = r.reverse.map fun x => itD (f x) := by
  unfold rightD
  rw [← List.map_reverse, List.map_map]
  rfl
theorem lay_eq (Bk : KM.Book) (pg : KM.Pg) (c : Nat) : KM.lay Bk pg c = if ((KM.clo c).isSome && KM.puts Bk pg c) = true then ((KM.clo c).getD 0, true) :: pg.right else pg.right := by
  unfold KM.lay
  cases KM.clo c with
  | none => rfl
  | some d => cases KM.puts Bk pg c <;> rfl
theorem lay_lt {Bk : KM.Book} {pg : KM.Pg} {c : Nat} (h : ∀ x ∈ pg.right, x.1 < 1114112) : ∀ x ∈ KM.lay Bk pg c, x.1 < 1114112 := by
  have hd : (KM.clo c).getD 0 < 1114112 := by
    unfold KM.clo
    split
    · decide
    · split
      · decide
      · split
        · decide
        · decide
  rw [lay_eq]
  split
  · intro x hx
    rcases List.mem_cons.mp hx with e | e
    · rw [e]; exact hd
    · exact h x e
  · exact h
def sp_Page_type_sign (K : PySem.W.Frag) : Sp := spS (relF K) fun H ds B => ∃ H0 a pg Bk c, (pgY K H0 a pg).p H ∧ ds = [.adr a, bookD Bk, .str (S [c])] ∧ B = (fun d H' => d = .non ∧ (pgY K H0 a (KM.typeS Bk pg c)).p H') ∧ PgOk pg
theorem sc_Page_type_sign : FnScope ["self", "book", "sign", "does_match", "closer", "is_put", "other", "is_own"] ["self", "book", "sign"] (defScope s_Page_type_sign) := ⟨rfl, rfl, rfl, by decide +kernel, rfl, by decide +kernel, by decide +kernel⟩
theorem met_Page_type_sign (T : Tx K mg) : C8.Met P w K mg base 3 (He.ga K "Page") "type_sign" (sp_Page_type_sign K) [] :=
  met_of T.d_Page_type_sign T.cl_Page T.me_Page_type_sign sc_Page_type_sign (fun _ _ _ _ _ _ us hl => match us, hl with | [_, _, _], _ => rfl)
    (spS_len fun H ds B ⟨_, _, _, _, _, _, e, _⟩ => by rw [e]; rfl) fun cdv A outer s H E hr => ⟨_, (pss_cons (ps_set (i := 3) sc_Page_type_sign.nd rfl (Or.inl rfl) (pe_and (C8.pe_c (cal_is_closing T) hr (by decide) (by rfl) (pa_cons (pv 2) pa_nil)) (pe_one (pe_cmpR op_eq (C8.pe_mt0 (met_Page_next_sign T) hr (by decide) (pv 0)) (pv 2) (nomark _))))) (pss_cons (ps_if (PW.pt (pw_and (pt_val (pv 3)) (pw_and1 (PW.pt (pw_or (pt_cmpR op_eq (pe_ix ix_tup (pv 1) pe_int (fun _ _ => rfl)) (pe_gS (by rfl) T.c_ANY) (nomark _)) (pw_or1 (PW.pt (pw_and (pt_cmpR op_eq (pe_ix ix_tup (pv 1) pe_int (fun _ _ => rfl)) (pe_gS (by rfl) T.c_OWN) (nomark _)) (pw_and1 (pt_val (C8.pe_mt0 (met_Page_is_next_own T) hr (by decide) (pv 0)))))))))))) (pss_cons (ps_expr (C8.pe_mt0 (met_Page_go_over T) hr (by decide) (pv 0))) (pss_one ps_retN)) pss_nil) (pss_cons (ps_set (i := 4) sc_Page_type_sign.nd rfl (Or.inl rfl) (C8.pe_c (cal_closer_of T) hr (by decide) (by rfl) (pa_cons (pv 2) pa_nil))) (pss_cons (ps_set (i := 5) sc_Page_type_sign.nd rfl (Or.inl rfl) (pe_and (pe_cmpR op_ne (pv 4) pe_str (nomark _)) (pe_one (C8.pe_mt (met_Page_does_put T) hr (by decide) (pv 0) (pa_cons (pv 1) (pa_cons (pv 2) pa_nil)))))) (pss_cons (ps_fldaug (pv 0) (pv 2) in_addS) (pss_cons (ps_if (pt_val (pv 5)) (pss_one (ps_expr (pe_bm PySem.F.plainAttrs_list PySem.F.slot_list_append PySem.F.type_list_append mt_append (pe_fld (pv 0) rfl) (pa_cons (pe_tup (pa_cons (pv 4) (pa_cons pe_bl pa_nil))) pa_nil)))) pss_nil) (pss_one (ps_if (PW.pt (pw_and (pt_cmpR op_eq (pv 2) (pe_gS (by rfl) T.c_LINE) (nomark _)) (pw_and1 (pt_cmpR op_eq (pe_ix ix_tup (pv 1) pe_int (fun _ _ => rfl)) (pe_gS (by rfl) T.c_AT_LINES) (nomark _))))) (pss_one (ps_fld (pv 0) (pe_lc (own := [("other", 6), ("is_own", 7)]) rfl sc_Page_type_sign.nd (pi_list (pe_fld (pv 0) rfl)) (blkOk_by (N := ["self", "book", "sign", "does_match", "closer", "is_put", "other", "is_own"]) (sc := defScope s_Page_type_sign) (by decide +kernel)) (fun _ _ _ _ _ => by exact (pg_tupK (K := K) (n := 2) rfl rfl (pgs_cons (pg_name (i := 6) sc_Page_type_sign.nd rfl (Or.inl rfl)) (pgs_cons (pg_name (i := 7) sc_Page_type_sign.nd rfl (Or.inl rfl)) pgs_nil)))) (fun _ _ _ _ _ => pts_nil) (fun _ _ _ _ _ => (pe_tup (pa_cons (pv 6) (pa_cons pe_bl pa_nil))))) rfl)) pss_nil)))))))), spS_by _ <| by
      rintro ds B ⟨H0, a, pg, Bk, c, hY, rfl, rfl, ok⟩
      refine ⟨_, hY, ?_⟩
      clear hY
      show Ss _ _ _ [some (.adr a), some (bookD Bk), some (.str (S [c])), none, none, none, none, none] _ _
      have g8 : ∀ (p q : Bool) (l : List Nat), okG (relF K) [some (.adr a), some (bookD Bk), some (.str (S [c])), some (.bl p), some (.str (S l)), some (.bl q), none, none] = true := fun _ _ _ => rfl
      refine ss_to (Γ1 := [some (.adr a), some (bookD Bk), some (.str (S [c])), some (.bl (KM.closing c && decide (KM.nxt pg.right = some c))), none, none, none, none])
        (ss_rn (rn_set (ev_as (ev_andV (ev_callR rfl (ea_cons (ev_var rfl) ea_nil) ⟨_, rfl, rfl, Nat.le_refl _⟩) (fun _ => ev_eqL (ev_methH rfl (ev_var rfl) pg_obj ea_nil (fun H' p => ⟨_, _, _, p, rfl, rfl, ok⟩)) (ev_var rfl))) (by rw [nxt_eq]; rfl))) (fun H' h => ⟨rfl, h⟩)) ?_
      refine ss_ifs (b := KM.goesOver Bk pg c) (et_and (et_B (ev_var rfl)) (fun _ => et_or (et_test (ev_as (ev_eqS (ev_ixT (ev_var rfl) ev_int rfl) ev_str) (congrArg D.bl (nmO_any _)))) (fun _ => et_and (et_test (ev_as (ev_eqS (ev_ixT (ev_var rfl) ev_int rfl) ev_str) (congrArg D.bl (nmO_own _)))) (fun _ => et_B (ev_methH rfl (ev_var rfl) pg_obj ea_nil (fun H' p => ⟨_, _, _, p, rfl, rfl, ok⟩)))))) (fun h => ?_) (fun h => ss_nx ?_)
      · have ty : KM.typeS Bk pg c = over pg := by
          unfold KM.typeS
          rw [if_pos h]
          unfold KM.goesOver at h
          have h2 := of_decide_eq_true (Bool.and_eq_true_iff.mp (Bool.and_eq_true_iff.mp h).1).2
          unfold over
          cases hp : pg.right with
          | nil => rw [hp] at h2; cases h2
          | cons x r =>
            rw [hp] at h2
            have h3 : x.1 = c := Option.some.inj h2
            show (⟨pg.left ++ [c], r⟩ : KM.Pg) = ⟨pg.left ++ [x.1], r⟩
            rw [h3]
        refine ss_seq3 (ss_to (Γ1 := [some (.adr a), some (bookD Bk), some (.str (S [c])), some (.bl (KM.closing c && decide (KM.nxt pg.right = some c))), none, none, none, none]) (B := (pgY K H0 a (over pg)).p)
          (ss_drop (se_meth rfl (ev_var rfl) pg_obj ea_nil (fun H' p => ⟨_, _, _, p, rfl, rfl, ok⟩)) rfl (fun d H' p => ⟨rfl, p.2⟩)) (ss_out (ss_retN fun H' p => ⟨rfl, by rw [ty]; exact p⟩)))
      · have l4 : pg.left.length + [c].length ≤ 100000 := by have := ok.1; show _ + 1 ≤ _; omega
        have ne : (!decide (cloL [c] = [])) = (KM.clo c).isSome := by
          show (!decide ((KM.clo c).toList = [])) = _
          cases KM.clo c <;> rfl
        have ty : KM.typeS Bk pg c = ⟨pg.left ++ [c], if (decide (c = 47) && decide (Bk.f = .line)) = true then (KM.lay Bk pg c).map (fun x => (x.1, false)) else KM.lay Bk pg c⟩ := by
          unfold KM.typeS
          rw [if_neg (by rw [h]; decide)]
        generalize (KM.closing c && decide (KM.nxt pg.right = some c)) = dm
        refine ss_to (Γ1 := [some (.adr a), some (bookD Bk), some (.str (S [c])), some (.bl dm), some (.str (S (cloL [c]))), none, none, none]) (ss_rn (rn_set (ev_callR rfl (ea_cons (ev_var rfl) ea_nil) ⟨_, rfl, rfl, Nat.le_refl _⟩)) (fun H' h => ⟨rfl, h⟩)) ?_
        refine ss_to (Γ1 := [some (.adr a), some (bookD Bk), some (.str (S [c])), some (.bl dm), some (.str (S (cloL [c]))), some (.bl ((KM.clo c).isSome && KM.puts Bk pg c)), none, none])
          (ss_rn (rn_set (ev_as (ev_andV (ev_neL (ev_var rfl) (ev_lit (l := []) (by decide +kernel))) (fun _ => ev_methH rfl (ev_var rfl) pg_obj (ea_cons (ev_var rfl) (ea_cons (ev_var rfl) ea_nil)) (fun H' p => ⟨_, _, _, _, _, p, rfl, rfl, ok⟩))) (by rw [ne]))) (fun H' h => ⟨rfl, h⟩)) ?_
        refine ss_to (ss_pgA (l := [c]) (r := pg.right) T (ev_var rfl) (se_of (ev_var rfl) (fun H' p => ⟨rfl, p⟩)) (g8 _ _ _) l4) ?_
        have ll : (KM.lay Bk pg c).length ≤ 901 := by
          rw [lay_eq]
          have := ok.2.1
          split
          · show _ + 1 ≤ _; omega
          · omega
        refine ss_to (Γ1 := [some (.adr a), some (bookD Bk), some (.str (S [c])), some (.bl dm), some (.str (S (cloL [c]))), some (.bl ((KM.clo c).isSome && KM.puts Bk pg c)), none, none]) (B := (pgY K H0 a ⟨pg.left ++ [c], KM.lay Bk pg c⟩).p)
          (ss_if (et_B (ev_var rfl)) (fun h => ?_) (fun h => ss_next fun H' p => ⟨rfl, ?_⟩)) ?_
        · obtain ⟨d, hd⟩ : ∃ d, KM.clo c = some d := by
            cases hc : KM.clo c with
            | none => rw [hc] at h; cases h
            | some d => exact ⟨d, rfl⟩
          have lt : KM.lay Bk pg c = (d, true) :: pg.right := by rw [lay_eq, h, hd]; rfl
          refine ss_drop (se_pgAdd (pg := ⟨pg.left ++ [c], pg.right⟩) (x := (d, true)) T (ev_var rfl) (ea_cons (ev_as (ev_tup (ea_cons (ev_var rfl) (ea_cons ev_bl ea_nil))) ?_) ea_nil) ok.2.1) (g8 _ _ _) (fun d' H' p => ⟨rfl, ?_⟩)
          · show D.tup [.str (S (KM.clo c).toList), _] = _
            rw [hd]
            rfl
          · rw [lt]
            exact p.2
        · rw [lay_eq, h]
          exact p
        · refine ss_if (et_and (et_test (ev_eqL (ev_var rfl) (ev_lit (l := [47]) (by decide +kernel)))) (fun _ => et_test (ev_as (ev_eqS (ev_ixT (ev_var rfl) ev_int rfl) ev_str) (congrArg D.bl (nmF_line _))))) (fun h => ?_) (fun h => ?_)
          · rw [m_eq] at h
            refine ss_mono (ss_pgR (pg := ⟨pg.left ++ [c], KM.lay Bk pg c⟩) (r := (KM.lay Bk pg c).map fun x => (x.1, false)) T (ev_var rfl) ?_ (g8 _ _ _)) (fun _ p => p) (fun G H' p => ⟨rfl, ?_⟩) (fun _ _ p => p)
            · rw [right_map]
              exact ef_lcN (KM.lay Bk pg c).reverse itD (fun x => itD (x.1, false)) (pg_right T (ev_var rfl)) (tg_tup 2 [6, 7]) (by decide) (by rw [List.length_reverse]; omega) (fun _ _ => rfl) (fun x => ⟨⟨rfl, rfl, rfl⟩, ev_tup (ea_cons (ev_var rfl) (ea_cons ev_bl ea_nil))⟩)
            · rw [ty, if_pos h]
              exact p.2
          · rw [m_eq] at h
            refine ss_next fun H' p => ⟨rfl, ?_⟩
            rw [ty, if_neg (by rw [h]; decide)]
            exact p⟩
end
end KH

/-! part K9 -/
set_option Elab.async false
set_option linter.all false
set_option maxRecDepth 100000
set_option maxHeartbeats 4000000
namespace KH
open PySem PySem.Spec PyProof.Rows L2 KD
/-- one key -/
def pressK (B : KM.Book) (pg : KM.Pg) (n : Nat) : KM.Pg := if n = 0 then KM.back B pg else KM.typeS B pg n
section
variable {P : Program} {w : World} {K : PySem.W.Frag} {mg : Str → Option Value} {base : Heap}
def sp_Page_press (K : PySem.W.Frag) : Sp := spS (relF K) fun H ds B => ∃ H0 a pg Bk n, (pgY K H0 a pg).p H ∧ ds = [.adr a, bookD Bk, kD n] ∧ B = (fun d H' => d = .non ∧ (pgY K H0 a (pressK Bk pg n)).p H') ∧ PgOk pg ∧ keyOk n
theorem sc_Page_press : FnScope ["self", "book", "key"] ["self", "book", "key"] (defScope s_Page_press) := ⟨rfl, rfl, rfl, by decide +kernel, rfl, by decide +kernel, by decide +kernel⟩
theorem met_Page_press (T : Tx K mg) : C8.Met P w K mg base 4 (He.ga K "Page") "press" (sp_Page_press K) [] :=
  met_of T.d_Page_press T.cl_Page T.me_Page_press sc_Page_press (fun _ _ _ _ _ _ us hl => match us, hl with | [_, _, _], _ => rfl)
    (spS_len fun H ds B ⟨_, _, _, _, _, _, e, _⟩ => by rw [e]; rfl) fun cdv A outer s H E hr => ⟨_, (pss_one (ps_if (pt_cmpR op_eq (pv 2) (pe_gS (by rfl) T.c_BACK) (nomark _)) (pss_one (ps_expr (C8.pe_mt (met_Page_go_back T) hr (by decide) (pv 0) (pa_cons (pv 1) pa_nil)))) (pss_one (ps_if (pt_cmpR op_eq (pv 2) (pe_gS (by rfl) T.c_RIGHT) (nomark _)) (pss_one (ps_expr (C8.pe_mt0 (met_Page_go_over T) hr (by decide) (pv 0)))) (pss_one (ps_if (pt_cmpR op_eq (pv 2) (pe_gS (by rfl) T.c_END) (nomark _)) (pss_one (ps_while PassesOwn.never (pt_val (C8.pe_mt0 (met_Page_is_next_own T) hr (by decide) (pv 0))) (pss_one (ps_expr (C8.pe_mt0 (met_Page_go_over T) hr (by decide) (pv 0)))))) (pss_one (ps_expr (C8.pe_mt (met_Page_type_sign T) hr (by decide) (pv 0) (pa_cons (pv 1) (pa_cons (pv 2) pa_nil))))))))))), spS_by _ <| by
      rintro ds B ⟨H0, a, pg, Bk, n, hY, rfl, rfl, ok, hn⟩
      refine ⟨_, hY, ?_⟩
      clear hY
      show Ss _ _ _ [some (.adr a), some (bookD Bk), some (.str (keyS n))] _ _
      have lt : n < 1114112 := by
        rcases hn with e | e
        · omega
        · have := KM.sgn_lt e; omega
      have no : ∀ l : List Nat, l.length ≠ 1 → n ≠ 0 → keyS n ≠ S l := fun l hl h z => by
        rw [keyS_sgn h] at z
        have e := SX.S_inj z
        rw [← e] at hl
        exact hl rfl
      refine ss_if (b := decide (n = 0)) (et_test (ev_as (ev_eqS (ev_var rfl) (ev_lit (l := [98, 97, 99, 107]) (by decide +kernel))) (congrArg D.bl (keyS_eq n lt)))) (fun h => ?_) (fun h => ?_)
      · have h0 : n = 0 := of_decide_eq_true h
        refine ss_drop (se_meth rfl (ev_var rfl) pg_obj (ea_cons (ev_var rfl) ea_nil) (fun H' p => ⟨H0, a, pg, Bk, p, rfl, rfl, ok⟩)) rfl (fun d H' p => ⟨rfl, ?_⟩)
        unfold pressK
        rw [if_pos h0]
        exact p.2
      · have h0 : n ≠ 0 := of_decide_eq_false h
        refine ss_if (b := false) (et_test (ev_as (ev_eqS (ev_var rfl) (ev_lit (l := [114, 105, 103, 104, 116]) (by decide +kernel))) (congrArg D.bl (decide_eq_false (no _ (by decide) h0))))) (fun z => by cases z) (fun _ => ?_)
        refine ss_if (b := false) (et_test (ev_as (ev_eqS (ev_var rfl) (ev_lit (l := [101, 110, 100]) (by decide +kernel))) (congrArg D.bl (decide_eq_false (no _ (by decide) h0))))) (fun z => by cases z) (fun _ => ?_)
        refine ss_drop (se_meth rfl (ev_var rfl) pg_obj (ea_cons (ev_var rfl) (ea_cons (ev_as (ev_var rfl) (congrArg D.str (keyS_sgn h0))) ea_nil)) (fun H' p => ⟨H0, a, pg, Bk, n, p, rfl, rfl, ok⟩)) rfl (fun d H' p => ⟨rfl, ?_⟩)
        unfold pressK
        rw [if_neg h0]
        exact p.2⟩
section
variable {H0 : Hp} {a : Addr} {pg : KM.Pg} {Γ : Ga} {ta tb tv te : TE} {R : D → Hp → Prop} {l : List Nat} {A : Hy}
theorem ef_revL {l : List D} (h : Ev K A te Γ (.lst l)) : Ef K A (tRevL K te) Γ l.reverse := fun σ H a e Q q =>
  h σ H a e _ fun v H1 s1 h1 => by
    obtain ⟨p, xs, e2, h2, h3⟩ := h1
    exact ⟨p, xs, e2, SqL.of h2, fun b hb => q b _ _ (s1.trans (Same.new hb)) (none_back s1 hb) upd_same (h3.mono (Same.new hb)).rev⟩
theorem ev_inNil {i : Int} (ha : Ev K A ta Γ (.int i)) (hb : Ev K A tb Γ (.tup [])) : Ev K A (tOp (rIn K false) ta tb) Γ (.bl false) :=
  ev_op ha hb fun H v u _ e1 e2 Q q => by
    obtain ⟨p, xs, e3, h3, h4⟩ := e2
    have e4 : xs = [] := h4
    subst e4
    have e6 : v = .int i := e1
    subst e6
    exact ⟨p, [], e3, .inr (SqT.of h3), rfl, rfl, q _ H (Same.refl H) rfl⟩
theorem ss_pgNew (T : Tx K mg) {r : List (Nat × Bool)} (ho : Ev K (objY H0 a (pgC K) [("left", .str (S l))]) ta Γ (.adr a)) (hv : Ef K (objY H0 a (pgC K) [("left", .str (S l))]) tv Γ (rightD r)) (g : okG (relF K) Γ = true) :
    Ss (relF K) (objY H0 a (pgC K) [("left", .str (S l))]).p (sFld K ta tv "right") Γ (fun G H => G = Γ ∧ (pgY K H0 a ⟨l, r⟩).p H) R := fun σ H E p e k _ =>
  hv σ H p e _ fun b' ys H1 s1 nb' eb' hy => ho σ H1 ((objY H0 a (pgC K) [("left", .str (S l))]).st _ _ s1 p) (e.mono s1) _ fun x H2 s2 h2 => by
    have e1 : x = .ref a := h2
    subst e1
    obtain ⟨b0, n, dx, ea⟩ := (objY H0 a (pgC K) [("left", .str (S l))]).st _ _ (s1.trans s2) p
    refine ⟨a, pgC K, dx, _, rfl, ea, T.cl_Page, T.na_Page_right, by show 1 < 1000; decide, ?_⟩
    have ep : putF "right" (.ref b') [("left", .str (S l))] = pgF (.str (S l)) (.ref b') := by
      unfold putF
      rw [if_neg (nq np1)]
      rfl
    rw [ep]
    have fz : Fz H2 (upd H2 a (.ins (pgC K) dx (pgF (.str (S l)) (.ref b')))) := fz_upd fun zs z => by rw [ea] at z; cases z
    have ne : b' ≠ a := fun z => by
      obtain ⟨_, _, dx0, q⟩ := p
      rw [z, q] at nb'
      cases nb'
    refine k Γ σ _ ((Fz.of (s1.trans s2)).trans fz) ⟨rfl, fun c o z => ?_, n, dx, b', ys, upd_same, none_back p.1 nb', ?_, (hy.mono s2).fzm fz _ _ (fz_right r)⟩ ((e.mono (s1.trans s2)).rel g fz)
    · rw [upd_ne (ne_of_none z n)]
      exact b0 _ _ z
    · rw [upd_ne ne]
      exact s2 _ _ eb'
end
theorem wi_enLm {α : Type} {src : List α} {f : α → D} {A : Hy} {Γ : Ga} {tr : TA} (h : Ea K A tr Γ [.lst (src.map f)]) : WiR K A Same (iEnum K tr) Γ src.length (fun i d => ∃ c, (src.map f)[i]? = some c ∧ d = .tup [.int i, c]) := by
  have := wi_enL h
  rw [List.length_map] at this
  exact this
def sp_Page_init (K : PySem.W.Frag) : Sp := spS (relF K) fun H ds B => ∃ H0 a R, (newY H0 a (pgC K)).p H ∧ ds = [.adr a, pageD R] ∧ B = (fun d H' => d = .non ∧ (pgY K H0 a (KM.Pg.start R)).p H') ∧ R.length ≤ 900
theorem sc_Page_init : FnScope ["self", "page", "place", "sign"] ["self", "page"] (defScope s_Page_init) := ⟨rfl, rfl, rfl, by decide +kernel, rfl, by decide +kernel, by decide +kernel⟩
theorem mak_Page (T : Tx K mg) : C8.Mak P w K mg base 1 "Page" (He.ga K "Page") (sp_Page_init K) [] :=
  mak_of T.d_Page_init T.mk_Page T.g_Page sc_Page_init (fun _ _ _ _ _ _ us hl => match us, hl with | [_, _], _ => rfl)
    (spS_len fun H ds B ⟨_, _, _, _, e, _⟩ => by rw [e]; rfl) fun cdv A outer s H E hr => ⟨_, (pss_cons (ps_fld (pv 0) (pe_ix ix_tup (pv 1) pe_int (fun _ _ => rfl)) rfl) (pss_one (ps_fld (pv 0) (pe_revL (pe_lc (own := [("place", 2), ("sign", 3)]) rfl sc_Page_init.nd (pi_enumS (by rfl) T.b_enumerate (pa_cons (pe_ix ix_tup (pv 1) pe_int (fun _ _ => rfl)) pa_nil)) (blkOk_by (N := ["self", "page", "place", "sign"]) (sc := defScope s_Page_init) (by decide +kernel)) (fun _ _ _ _ _ => by exact (pg_tupK (K := K) (n := 2) rfl rfl (pgs_cons (pg_name (i := 2) sc_Page_init.nd rfl (Or.inl rfl)) (pgs_cons (pg_name (i := 3) sc_Page_init.nd rfl (Or.inl rfl)) pgs_nil)))) (fun _ _ _ _ _ => pts_nil) (fun _ _ _ _ _ => (pe_tup (pa_cons (pv 3) (pa_cons (pe_cmpR (op_in_seqK (K := K) rfl) (pv 2) (pe_ix (ix_tupK (K := K) rfl) (pv 1) pe_int (fun _ _ => rfl)) (by rfl)) pa_nil)))))) rfl))), spS_by _ <| by
      rintro ds B ⟨H0, a, R, hY, rfl, rfl, hl⟩
      refine ⟨_, hY, ?_⟩
      clear hY
      show Ss _ _ _ [some (.adr a), some (pageD R), none, none] _ _
      refine ss_to (ss_fldO (v := .str (S [])) T.cl_Page T.na_Page_left (ev_var rfl) (ev_ixT (e := pageD R) (ev_var rfl) ev_int rfl) (fun _ _ h => h) (by decide) rfl rfl) ?_
      have e0 : rightD (R.map fun c => (c, false)) = (R.map fun c => itD (c, false)).reverse := by
        unfold rightD
        rw [← List.map_reverse, List.map_map, ← List.map_reverse]
        rfl
      refine ss_mono (ss_pgNew (l := []) (r := R.map fun c => (c, false)) T (ev_var rfl) ?_ rfl) (fun _ h => h) (fun G H' h => ⟨rfl, h.2⟩) (fun _ _ h => h)
      rw [e0]
      refine ef_revL (ev_lcM R (fun c => itD (c, false)) (wi_enS (ea_cons (ev_ixT (e := pageD R) (ev_var rfl) ev_int rfl) ea_nil)) (tg_tup 2 [2, 3]) (by decide) rfl (by omega) (fun _ _ => rfl) ?_)
      rintro i d hi ⟨c, hc, rfl⟩
      exact ⟨⟨rfl, rfl, rfl⟩, c, hc, ev_tup (ea_cons (ev_var rfl) (ea_cons (ev_inNil (ev_var rfl) (ev_ixT (e := pageD R) (ev_var rfl) ev_int rfl)) ea_nil))⟩⟩
theorem join_one0 : ∀ l : List Nat, Str.join (S []) (l.map fun c => S [c]) = S l
  | [] => rfl
  | [c] => rfl
  | c :: d :: l => by
    have ih := join_one0 (d :: l)
    show S [c] ++ S [] ++ Str.join (S []) ((d :: l).map fun c => S [c]) = _
    rw [ih, S_cat, S_cat]
    rfl
theorem join_one (l : List Nat) : Txt.join (S []) (l.map fun c => S [c]) = S l := (StrLaws.glued_eq_join (S []) (l.map fun c => S [c])).trans (join_one0 l)
theorem sum_one : ∀ l : List Nat, ((l.map fun c => S [c]).map (·.length)).sum = l.length
  | [] => rfl
  | c :: l => by
    rw [List.map_cons, List.map_cons, List.sum_cons, sum_one l, S_len]
    show 1 + l.length = l.length + 1
    omega
theorem right_rev (r : List (Nat × Bool)) : (rightD r).reverse = r.map itD := by
  unfold rightD
  rw [← List.map_reverse, List.reverse_reverse]
def rtx (pg : KM.Pg) : List Nat := pg.right.map (·.1)
def sp_Page_right_text (K : PySem.W.Frag) : Sp := spH K fun H ds d => ∃ H0 a pg, (pgY K H0 a pg).p H ∧ ds = [.adr a] ∧ d = .str (S (rtx pg)) ∧ PgOk pg
theorem sc_Page_right_text : FnScope ["self", "sign", "is_own"] ["self"] (defScope s_Page_right_text) := ⟨rfl, rfl, rfl, by decide +kernel, rfl, by decide +kernel, by decide +kernel⟩
theorem met_Page_right_text (T : Tx K mg) : C8.Met P w K mg base 1 (He.ga K "Page") "right_text" (sp_Page_right_text K) [] :=
  met_of T.d_Page_right_text T.cl_Page T.me_Page_right_text sc_Page_right_text (fun _ _ _ _ _ _ us hl => match us, hl with | [_], _ => rfl)
    (spH_len fun H ds d ⟨_, _, _, _, e, _⟩ => by rw [e]; rfl) fun cdv A outer s H E hr => ⟨_, (pss_one (ps_ret (pe_join pe_str (pe_lc (own := [("sign", 1), ("is_own", 2)]) rfl sc_Page_right_text.nd (pi_list (pe_revL (pe_fld (pv 0) rfl))) (blkOk_by (N := ["self", "sign", "is_own"]) (sc := defScope s_Page_right_text) (by decide +kernel)) (fun _ _ _ _ _ => by exact (pg_tupK (K := K) (n := 2) rfl rfl (pgs_cons (pg_name (i := 1) sc_Page_right_text.nd rfl (Or.inl rfl)) (pgs_cons (pg_name (i := 2) sc_Page_right_text.nd rfl (Or.inl rfl)) pgs_nil)))) (fun _ _ _ _ _ => pts_nil) (fun _ _ _ _ _ => (pv 1)))))), spH_by _ <| by
      rintro ds d ⟨H0, a, pg, hY, rfl, rfl, ok⟩
      refine ⟨_, hY, ?_⟩
      clear hY
      show Rn _ _ _ [_, _, _] _
      have e1 : pg.right.map (fun x => D.str (S [x.1])) = ((rtx pg).map fun c => S [c]).map D.str := by
        unfold rtx
        rw [List.map_map, List.map_map]
        rfl
      have l1 := ok.2.1
      refine rn_ret (ev_as (ev_join (a := S []) (l := (rtx pg).map fun c => S [c]) (ev_lit (l := []) (by decide +kernel)) (ev_as (ev_lcN pg.right itD (fun x => .str (S [x.1])) (ev_as (ev_revL (pg_right T (ev_var rfl))) (congrArg D.lst (right_rev _))) (tg_tup 2 [1, 2]) (by decide) (by omega) (fun _ _ => rfl) (fun x => ⟨⟨rfl, rfl, rfl⟩, ev_var rfl⟩)) (congrArg D.lst e1)) ?_) (by rw [join_one]))
      rw [sum_one]
      unfold rtx
      rw [List.length_map, List.length_map, S_len]
      show pg.right.length + pg.right.length * 0 ≤ _
      omega⟩
def ownB (pg : KM.Pg) (j : Nat) : Bool := (pg.right[j]?.map (·.2)).getD false
def ownD (pg : KM.Pg) (n : Nat) : List D := ((List.range n).filter (ownB pg)).map fun j => .int (j : Nat)
theorem fz_own (pg : KM.Pg) (n : Nat) : fzL (ownD pg n) = true := by
  unfold ownD
  generalize (List.range n).filter (ownB pg) = l
  induction l with
  | nil => rfl
  | cons x l ih => exact ih
theorem own_succ (pg : KM.Pg) (n : Nat) : ownD pg (n + 1) = if ownB pg n = true then ownD pg n ++ [.int (n : Nat)] else ownD pg n := by
  unfold ownD
  rw [List.range_succ, List.filter_append]
  by_cases h : ownB pg n = true
  · rw [if_pos h, List.filter_cons_of_pos h, List.filter_nil, List.map_append]
    rfl
  · rw [if_neg h, List.filter_cons_of_neg h, List.filter_nil, List.append_nil]
theorem own_len (pg : KM.Pg) (n : Nat) : (ownD pg n).length ≤ n := by
  unfold ownD
  rw [List.length_map]
  have := List.length_filter_le (ownB pg) (List.range n)
  rw [List.length_range] at this
  exact this
def toldD (pg : KM.Pg) : D := .tup [.str (S pg.left), .str (S (rtx pg)), .tup (ownD pg pg.right.length)]
def sp_Page_told (K : PySem.W.Frag) : Sp := spH K fun H ds d => ∃ H0 a pg, (pgY K H0 a pg).p H ∧ ds = [.adr a] ∧ d = toldD pg ∧ PgOk pg
theorem sc_Page_told : FnScope ["self", "owns", "place", "pair"] ["self"] (defScope s_Page_told) := ⟨rfl, rfl, rfl, by decide +kernel, rfl, by decide +kernel, by decide +kernel⟩
theorem met_Page_told (T : Tx K mg) : C8.Met P w K mg base 2 (He.ga K "Page") "told" (sp_Page_told K) [] :=
  met_of T.d_Page_told T.cl_Page T.me_Page_told sc_Page_told (fun _ _ _ _ _ _ us hl => match us, hl with | [_], _ => rfl)
    (spH_len fun H ds d ⟨_, _, _, _, e, _⟩ => by rw [e]; rfl) fun cdv A outer s H E hr => ⟨_, (pss_cons (ps_set (i := 1) sc_Page_told.nd rfl (Or.inl rfl) (pe_callTy call_tuple_of (by rfl) T.b_tuple (by decide +kernel) (pa_cons (pe_lc (own := [("place", 2), ("pair", 3)]) rfl sc_Page_told.nd (pi_enum (by rfl) T.b_enumerate (pa_cons (pe_revL (pe_fld (pv 0) rfl)) pa_nil)) (blkOk_by (N := ["self", "owns", "place", "pair"]) (sc := defScope s_Page_told) (by decide +kernel)) (fun _ _ _ _ _ => by exact (pg_tupK (K := K) (n := 2) rfl rfl (pgs_cons (pg_name (i := 2) sc_Page_told.nd rfl (Or.inl rfl)) (pgs_cons (pg_name (i := 3) sc_Page_told.nd rfl (Or.inl rfl)) pgs_nil)))) (fun _ _ _ _ _ => (pts_one (pt_val (pe_ix (ix_tupK (K := K) rfl) (pv 3) pe_int (fun _ _ => rfl))))) (fun _ _ _ _ _ => (pv 2))) pa_nil))) (pss_one (ps_ret (pe_tup (pa_cons (pe_fld (pv 0) rfl) (pa_cons (C8.pe_mt0 (met_Page_right_text T) hr (by decide) (pv 0)) (pa_cons (pv 1) pa_nil))))))), spH_by _ <| by
      rintro ds d ⟨H0, a, pg, hY, rfl, rfl, ok⟩
      refine ⟨_, hY, ?_⟩
      clear hY
      show Rn _ _ _ [_, _, _, _] _
      have l1 := ok.2.1
      refine rn_seq (Γ1 := [_, _, _, _]) (rn_set (ev_tupL (l := ownD pg pg.right.length) (ea_cons (ef_lc (n := pg.right.length) (ownD pg) (wi_enLm (src := pg.right) (f := itD) (ea_cons (ev_as (ev_revL (pg_right T (ev_var rfl))) (congrArg D.lst (right_rev _))) ea_nil)) (tg_tup 2 [2, 3]) (by decide) rfl (fun i _ => own_len pg i) (by omega) (fun i _ => fz_own pg i) ?_).ev ea_nil)))
        (rn_ret (ev_tup (ea_cons (pg_left T (ev_var rfl)) (ea_cons (ev_methH rfl (ev_var rfl) pg_obj ea_nil (fun H' p => ⟨_, _, _, p, rfl, rfl, ok⟩)) (ea_cons (ev_var rfl) ea_nil)))))
      rintro i d hi ⟨c, hc, rfl⟩
      rw [List.getElem?_map] at hc
      obtain ⟨x, hx⟩ : ∃ x, pg.right[i]? = some x := ⟨_, List.getElem?_eq_getElem hi⟩
      rw [hx] at hc
      have e : itD x = c := Option.some.inj hc
      subst e
      have ob : ownB pg i = x.2 := by unfold ownB; rw [hx]; rfl
      refine ⟨⟨rfl, rfl, rfl⟩, x.2, et_B (ev_ixT (e := itD x) (ev_var rfl) ev_int rfl), fun h => ?_, fun h => ⟨.int (i : Nat), ev_var rfl, ?_⟩⟩
      · rw [own_succ, ob, h, if_neg (by decide)]
      · rw [own_succ, ob, h, if_pos rfl]⟩
end
end KH

/-! part K10 -/
set_option Elab.async false
set_option linter.all false
set_option maxRecDepth 100000
set_option maxHeartbeats 4000000
namespace KH
open PySem PySem.Spec PyProof.Rows L2 KD
/-! bounds of pages, keys pressed one after the other -/
structure Pb (pg : KM.Pg) (i m : Nat) : Prop where
  l : pg.left.length ≤ i
  r : pg.right.length ≤ m + i
  c : ∀ x ∈ pg.right, x.1 < 1114112
theorem Pb.start {R : List Nat} (h : ∀ c ∈ R, KM.sgn c = true) : Pb (KM.Pg.start R) 0 R.length := ⟨Nat.le_refl _, by show (R.map _).length ≤ _; rw [List.length_map]; omega, fun x hx => by
  obtain ⟨c, hc, e⟩ := List.mem_map.mp (show x ∈ R.map _ from hx)
  rw [← e]
  have := KM.sgn_lt (h c hc)
  show c < _
  omega⟩
theorem lay_len (B : KM.Book) (pg : KM.Pg) (c : Nat) : (KM.lay B pg c).length ≤ pg.right.length + 1 := by
  rw [lay_eq]
  split
  · exact Nat.le_refl _
  · exact Nat.le_succ _
theorem Pb.type {B : KM.Book} {pg : KM.Pg} {i m : Nat} (h : Pb pg i m) (c : Nat) : Pb (KM.typeS B pg c) (i + 1) m := by
  have h1 := h.l
  have h2 := h.r
  have h3 := lay_len B pg c
  have h4 := lay_lt (Bk := B) (c := c) h.c
  unfold KM.typeS
  split
  · refine ⟨?_, ?_, fun x hx => h.c x (List.mem_of_mem_tail hx)⟩
    · show (pg.left ++ [c]).length ≤ _
      rw [List.length_append]; show _ + 1 ≤ _; omega
    · show pg.right.tail.length ≤ _
      rw [List.length_tail]; omega
  · refine ⟨?_, ?_, ?_⟩
    · show (pg.left ++ [c]).length ≤ _
      rw [List.length_append]; show _ + 1 ≤ _; omega
    · show (if _ then _ else _ : List (Nat × Bool)).length ≤ _
      split
      · rw [List.length_map]; omega
      · omega
    · intro x hx
      have hx' : x ∈ (if (decide (c = 47) && decide (B.f = .line)) = true then (KM.lay B pg c).map (fun x => (x.1, false)) else KM.lay B pg c) := hx
      split at hx'
      · obtain ⟨y, hy, e⟩ := List.mem_map.mp hx'
        rw [← e]
        exact h4 y hy
      · exact h4 x hx'
theorem Pb.back {B : KM.Book} {pg : KM.Pg} {i m : Nat} (h : Pb pg i m) : Pb (KM.back B pg) (i + 1) m := by
  have h1 := h.l
  have h2 := h.r
  unfold KM.back
  split
  · exact ⟨by omega, by omega, h.c⟩
  · refine ⟨?_, ?_, ?_⟩
    · show pg.left.dropLast.length ≤ _
      rw [List.length_dropLast]; omega
    · show (if _ then _ else _ : List (Nat × Bool)).length ≤ _
      split
      · rw [List.length_tail]; omega
      · omega
    · intro x hx
      rename_i c _
      have hx' : x ∈ (if KM.takes B pg.right c = true then pg.right.tail else pg.right) := hx
      split at hx'
      · exact h.c x (List.mem_of_mem_tail hx')
      · exact h.c x hx'
theorem Pb.press {B : KM.Book} {pg : KM.Pg} {i m : Nat} (h : Pb pg i m) (n : Nat) : Pb (pressK B pg n) (i + 1) m := by
  unfold pressK
  split
  · exact h.back
  · exact h.type n
def pressN (B : KM.Book) (pg : KM.Pg) (ks : List Nat) : KM.Pg := ks.foldl (pressK B) pg
theorem press_succ {B : KM.Book} {pg : KM.Pg} {ks : List Nat} {i n : Nat} (h : ks[i]? = some n) : pressN B pg (ks.take (i + 1)) = pressK B (pressN B pg (ks.take i)) n := by
  unfold pressN
  rw [List.take_add_one, h, List.foldl_append]
  rfl
theorem pressN_pb {B : KM.Book} {m : Nat} : ∀ (ks : List Nat) {pg : KM.Pg} {i : Nat}, Pb pg i m → Pb (pressN B pg ks) (i + ks.length) m
  | [], _, _, h => h
  | n :: ks, pg, i, h => by
    have := pressN_pb (B := B) ks (h.press (B := B) n)
    rw [List.length_cons, show i + (ks.length + 1) = i + 1 + ks.length by omega]
    exact this
theorem press_flat (B : KM.Book) : ∀ (us : List KM.Un) (pg : KM.Pg), (∀ u ∈ us, u.c ≠ 0) → pressN B pg (KM.flat us) = KM.pgs B pg us
  | [], _, _ => rfl
  | .sg c :: us, pg, h => by
    have hc : c ≠ 0 := h (.sg c) List.mem_cons_self
    show pressN B (pressK B pg c) (KM.flat us) = KM.pgs B (KM.typeS B pg c) us
    rw [show pressK B pg c = KM.typeS B pg c from if_neg hc]
    exact press_flat B us _ fun u hu => h u (List.mem_cons_of_mem _ hu)
  | .sl c :: us, pg, h => by
    have hc : c ≠ 0 := h (.sl c) List.mem_cons_self
    show pressN B (pressK B (pressK B pg c) 0) (KM.flat us) = KM.pgs B (KM.back B (KM.typeS B pg c)) us
    rw [show pressK B pg c = KM.typeS B pg c from if_neg hc, show pressK B (KM.typeS B pg c) 0 = KM.back B (KM.typeS B pg c) from if_pos rfl]
    exact press_flat B us _ fun u hu => h u (List.mem_cons_of_mem _ hu)
theorem Pb.ok {pg : KM.Pg} {i m : Nat} (h : Pb pg i m) (hi : i ≤ 400) (hm : m ≤ 200) : PgOk pg := by
  have h1 := h.l
  have h2 := h.r
  exact ⟨by omega, by omega, h.c⟩
theorem press_ok {B : KM.Book} {R ks : List Nat} (hR : okT R) (hl : ks.length ≤ 400) : PgOk (pressN B (KM.Pg.start R) ks) := by
  have := pressN_pb (B := B) ks (Pb.start hR.2)
  exact this.ok (by omega) hR.1
section
variable {P : Program} {w : World} {K : PySem.W.Frag} {mg : Str → Option Value} {base : Heap}
section
variable {Γ : Ga} {a : Addr} {G : Hp} {Bk : KM.Book} {R ks : List Nat} {te ta tb : TE} {L : Rel K} {A : Hp → Prop} {Y : Hy}
theorem wi_keys (h : Ev K Y te Γ (keysD ks)) : WiR K Y Fz (iTup K te) Γ ks.length (fun i d => ∃ n, ks[i]? = some n ∧ d = kD n) := fun σ H p e Rr q => by
  have := wi_tupF h (fz_keys ks) σ H p e Rr
  rw [List.length_map] at this
  refine this fun J H' s ⟨G, Z, w, hG, hZ⟩ => q J H' s ⟨G, Z, w, hG, fun i H2 v H3 hi r z => ?_⟩
  obtain ⟨s2, d, hd, hv⟩ := hZ i H2 v H3 hi r z
  rw [List.getElem?_map] at hd
  obtain ⟨n, hn⟩ : ∃ n, ks[i]? = some n := ⟨_, List.getElem?_eq_getElem hi⟩
  rw [hn] at hd
  have e : kD n = d := Option.some.inj hd
  subst e
  exact ⟨s2, _, ⟨n, hn, rfl⟩, hv⟩
/-- all keys pressed -/
theorem ss_press {iP iB iK j : Nat} {Rr : D → Hp → Prop} (hK : Γ[iK]? = some (some (keysD ks))) (h1 : ∀ n, (Γ.set j (some (kD n)))[iP]? = some (some (.adr a))) (h2 : ∀ n, (Γ.set j (some (kD n)))[iB]? = some (some (bookD Bk))) (h3 : ∀ n, (Γ.set j (some (kD n)))[j]? = some (some (kD n)))
    (le : ∀ n, leG (Γ.set j (some (kD n))) Γ) (g : ∀ n, okG (relF K) (Γ.set j (some (kD n))) = true) (hR : okT R) (hl : ks.length ≤ 400) (hk : ∀ n ∈ ks, keyOk n) :
    Ss (relF K) (pgY K G a (KM.Pg.start R)).p (tFor (iTup K (tVar iK)) (gName j) (tDrop (tMeth (He.ga K "Page") "press" (sp_Page_press K) [] C8.E0 (tVar iP) (tCons (tVar iB) (tCons (tVar j) tNil))))) Γ (fun G' H' => G' = Γ ∧ (pgY K G a (pressN Bk (KM.Pg.start R) ks)).p H') Rr := by
  refine ss_mono (ss_forN (n := ks.length) (N := fun G' H' => G' = Γ ∧ (pgY K G a (pressN Bk (KM.Pg.start R) (ks.take ks.length))).p H') (fun i => pgY K G a (pressN Bk (KM.Pg.start R) (ks.take i))) (fun _ => Γ) (wi_keys (ev_var hK)) (tg_name j) (leG_refl _) (fun _ h => h) ?_ (fun H' h => ⟨rfl, h⟩)) (fun _ h => h) (fun _ _ h => by rw [List.take_length] at h; exact h) (fun _ _ h => h)
  rintro i d hi ⟨n, hn, rfl⟩
  refine ⟨trivial, ?_⟩
  show Ss _ _ _ (Γ.set j (some (kD n))) _ _
  have ok : PgOk (pressN Bk (KM.Pg.start R) (ks.take i)) := press_ok hR (Nat.le_trans (List.length_take_le' ..) hl)
  refine ss_drop (se_meth rfl (ev_var (h1 n)) pg_obj (ea_cons (ev_var (h2 n)) (ea_cons (ev_var (h3 n)) ea_nil)) (fun H' p => ⟨G, a, _, Bk, n, p, rfl, rfl, ok, hk n (List.mem_of_getElem? hn)⟩)) (g n) (fun d H' p => ⟨le n, ?_⟩)
  rw [press_succ hn]
  exact p.2
theorem se_callX {Pp : Hp → List D → (D → Hp → Prop) → Prop} {sp : Sp} {E : XK} {tr : TA} {ds : List D} {B : D → Hp → Prop} (hs : sp = spS L Pp) (h : Ea K Y tr Γ ds) (hr : ∀ H, Y.p H → ∃ B', Pp H ds B' ∧ ∀ d H', L.r H H' → B' d H' → B d H') : Se L Y.p (tCall sp [] E tr) Γ B := by
  subst hs
  refine fun σ H p e Q q => h σ H p e _ fun vs H1 s1 h1 => ?_
  obtain ⟨B', hp, hb⟩ := hr H1 (Y.st _ _ s1 p)
  exact ⟨ds, B', hp, by rw [List.append_nil]; exact h1, fun d v H2 r2 b h2 => q d v H2 (L.trans (L.same s1) r2) (hb d H2 r2 b) h2⟩
theorem ss_par2 {i j : Nat} {B1 : D → Hp → Prop} {B2 : D → D → Hp → Prop} {N : Ga → Hp → Prop} {Rr : D → Hp → Prop} (h1 : Se L A ta Γ B1) (g : okG L Γ = true) (h2 : ∀ x, Se L (B1 x) tb Γ (B2 x)) (hx : ∀ x H, B1 x H → L.ok x = true) (hn : ∀ x y H, B2 x y H → N ((Γ.set i (some x)).set j (some y)) H) :
    Ss L A (tPar i j (tCons ta (tCons tb tNil))) Γ N Rr := fun σ H E a e k _ => h1 σ H a e _ fun x v H1 r1 b1 hv => h2 x σ H1 b1 (e.rel g r1) _ fun y u H2 r2 b2 hu =>
  ⟨v, u, rfl, k _ _ H2 (L.trans r1 r2) (hn x y H2 b2) (((e.rel g (L.trans r1 r2)).set (L.mono (hx x H1 b1) r2 hv)).set hu)⟩
theorem ss_fact {F : Prop} {t : TS} {N : Ga → Hp → Prop} {Rr : D → Hp → Prop} (h : F → Ss L A t Γ N Rr) : Ss L (fun H => F ∧ A H) t Γ N Rr := fun σ H E a => h a.1 σ H E a.2
end
def sp_pressed (K : PySem.W.Frag) : Sp := spR K fun ds d => ∃ Bk R ks, ds = [bookD Bk, pageD R, keysD ks] ∧ d = toldD (pressN Bk (KM.Pg.start R) ks) ∧ okT R ∧ ks.length ≤ 400 ∧ ∀ n ∈ ks, keyOk n
theorem sc_pressed : FnScope ["book", "page", "keys", "found", "key"] ["book", "page", "keys"] (defScope s_pressed) := ⟨rfl, rfl, rfl, by decide +kernel, rfl, by decide +kernel, by decide +kernel⟩
theorem cal_pressed (T : Tx K mg) : C8.Cal P w K mg base 5 "pressed" (sp_pressed K) [] :=
  cal_of T.d_pressed T.g_pressed sc_pressed (fun _ _ _ _ _ _ us hl => match us, hl with | [_, _, _], _ => rfl)
    (spR_len fun ds d ⟨_, _, _, e, _⟩ => by rw [e]; rfl) fun cdv A outer s H E hr => ⟨_, (pss_cons (ps_expr (C8.pe_c (cal_need_book T) hr (by decide) (by rfl) (pa_cons (pv 0) pa_nil))) (pss_cons (ps_expr (C8.pe_c (cal_need_page T) hr (by decide) (by rfl) (pa_cons (pv 1) pa_nil))) (pss_cons (ps_expr (C8.pe_c (cal_need_keys T) hr (by decide) (by rfl) (pa_cons (pv 2) pa_nil))) (pss_cons (ps_set (i := 3) sc_pressed.nd rfl (Or.inl rfl) (C8.pe_mk (mak_Page T) hr (by decide) (by rfl) (pa_cons (pv 1) pa_nil))) (pss_cons (ps_for PassesOwn.never rfl (pi_tup (pv 2)) (pg_name (i := 4) sc_pressed.nd rfl (Or.inl rfl)) (pss_one (ps_expr (C8.pe_mt (met_Page_press T) hr (by decide) (pv 3) (pa_cons (pv 0) (pa_cons (pv 4) pa_nil)))))) (pss_one (ps_ret (C8.pe_mt0 (met_Page_told T) hr (by decide) (pv 3))))))))), spR_byS _ <| by
      rintro ds d ⟨Bk, R, ks, rfl, rfl, hR, hl, hk⟩
      have l9 : R.length ≤ 900 := Nat.le_trans hR.1 (by decide)
      have ok : PgOk (pressN Bk (KM.Pg.start R) ks) := press_ok hR hl
      show Ss _ (sameY H).p _ [some (bookD Bk), some (pageD R), some (keysD ks), none, none] _ _
      have g : ∀ x y, okG (relF K) [some (bookD Bk), some (pageD R), some (keysD ks), x, y] = okG (relF K) [x, y] := fun x y => by
        show (true && (true && (fzL (ks.map kD) && _))) = _
        rw [fz_keys]
        rfl
      refine ss_to (ss_rn (Γ' := [some (bookD Bk), some (pageD R), some (keysD ks), none, none]) (rn_drop (ev_callR rfl (ea_cons (ev_var rfl) ea_nil) ⟨_, rfl, rfl⟩)) (fun H' h => ⟨rfl, h⟩)) ?_
      refine ss_to (ss_rn (Γ' := [some (bookD Bk), some (pageD R), some (keysD ks), none, none]) (rn_drop (ev_callR rfl (ea_cons (ev_var rfl) ea_nil) ⟨_, rfl, rfl, hR⟩)) (fun H' h => ⟨rfl, h⟩)) ?_
      refine ss_to (ss_rn (Γ' := [some (bookD Bk), some (pageD R), some (keysD ks), none, none]) (rn_drop (ev_callR rfl (ea_cons (ev_var rfl) ea_nil) ⟨_, rfl, rfl, hl, hk⟩)) (fun H' h => ⟨rfl, h⟩)) ?_
      refine ss_toE (Γi := fun a => [some (bookD Bk), some (pageD R), some (keysD ks), some (.adr a), none]) (Bi := fun a => (pgY K H a (KM.Pg.start R)).p)
        (ss_set (se_make (Y := sameY H) (Hs := H) (B := fun a H' => (pgY K H a (KM.Pg.start R)).p H') rfl (ea_cons (ev_var rfl) ea_nil) (fun _ h => h) (fun a H' h => ⟨H, a, R, h, rfl, rfl, l9⟩)) (g _ _) (fun d H' ⟨a, e, h⟩ => ⟨a, by rw [e]; rfl, h⟩)) fun a => ?_
      refine ss_to (ss_press (Bk := Bk) (ks := ks) rfl (fun _ => rfl) (fun _ => rfl) (fun _ => rfl) (fun _ => ⟨.inr rfl, .inr rfl, .inr rfl, .inr rfl, .inl rfl, trivial⟩) (fun n => g _ _) hR hl hk) ?_
      exact ss_rt (rn_ret (ev_methH rfl (ev_var rfl) pg_obj ea_nil (fun H' p => ⟨_, _, _, p, rfl, rfl, ok⟩))) (fun H' p => ⟨rfl, p.1⟩)⟩
def sp_behind_all (K : PySem.W.Frag) : Sp := spR K fun ds d => ∃ Bk R ks, ds = [bookD Bk, .str (S R), keysD ks] ∧ d = .str (S (rtx (pressN Bk (KM.Pg.start R) ks))) ∧ okT R ∧ ks.length ≤ 400 ∧ ∀ n ∈ ks, keyOk n
theorem sc_behind_all : FnScope ["book", "behind", "keys", "page", "key"] ["book", "behind", "keys"] (defScope s_behind_all) := ⟨rfl, rfl, rfl, by decide +kernel, rfl, by decide +kernel, by decide +kernel⟩
theorem cal_behind_all (T : Tx K mg) : C8.Cal P w K mg base 5 "behind_all" (sp_behind_all K) [] :=
  cal_of T.d_behind_all T.g_behind_all sc_behind_all (fun _ _ _ _ _ _ us hl => match us, hl with | [_, _, _], _ => rfl)
    (spR_len fun ds d ⟨_, _, _, e, _⟩ => by rw [e]; rfl) fun cdv A outer s H E hr => ⟨_, (pss_cons (ps_set (i := 3) sc_behind_all.nd rfl (Or.inl rfl) (C8.pe_mk (mak_Page T) hr (by decide) (by rfl) (pa_cons (pe_tup (pa_cons pe_str (pa_cons (pv 1) (pa_cons (pe_tup pa_nil) pa_nil)))) pa_nil))) (pss_cons (ps_for PassesOwn.never rfl (pi_tup (pv 2)) (pg_name (i := 4) sc_behind_all.nd rfl (Or.inl rfl)) (pss_one (ps_expr (C8.pe_mt (met_Page_press T) hr (by decide) (pv 3) (pa_cons (pv 0) (pa_cons (pv 4) pa_nil)))))) (pss_one (ps_ret (C8.pe_mt0 (met_Page_right_text T) hr (by decide) (pv 3)))))), spR_byS _ <| by
      rintro ds d ⟨Bk, R, ks, rfl, rfl, hR, hl, hk⟩
      have l9 : R.length ≤ 900 := Nat.le_trans hR.1 (by decide)
      have ok : PgOk (pressN Bk (KM.Pg.start R) ks) := press_ok hR hl
      show Ss _ (sameY H).p _ [some (bookD Bk), some (.str (S R)), some (keysD ks), none, none] _ _
      have g : ∀ x y, okG (relF K) [some (bookD Bk), some (.str (S R)), some (keysD ks), x, y] = okG (relF K) [x, y] := fun x y => by
        show (true && (true && (fzL (ks.map kD) && _))) = _
        rw [fz_keys]
        rfl
      refine ss_toE (Γi := fun a => [some (bookD Bk), some (.str (S R)), some (keysD ks), some (.adr a), none]) (Bi := fun a => (pgY K H a (KM.Pg.start R)).p)
        (ss_set (se_make (Y := sameY H) (Hs := H) (ds := [pageD R]) (B := fun a H' => (pgY K H a (KM.Pg.start R)).p H') rfl (ea_cons (ev_tup (ea_cons (ev_lit (l := []) (by decide +kernel)) (ea_cons (ev_var rfl) (ea_cons (ev_tup ea_nil) ea_nil)))) ea_nil) (fun _ h => h) (fun a H' h => ⟨H, a, R, h, rfl, rfl, l9⟩)) (g _ _) (fun d H' ⟨a, e, h⟩ => ⟨a, by rw [e]; rfl, h⟩)) fun a => ?_
      refine ss_to (ss_press (Bk := Bk) (ks := ks) rfl (fun _ => rfl) (fun _ => rfl) (fun _ => rfl) (fun _ => ⟨.inr rfl, .inr rfl, .inr rfl, .inr rfl, .inl rfl, trivial⟩) (fun n => g _ _) hR hl hk) ?_
      exact ss_rt (rn_ret (ev_methH rfl (ev_var rfl) pg_obj ea_nil (fun H' p => ⟨_, _, _, p, rfl, rfl, ok⟩))) (fun H' p => ⟨rfl, p.1⟩)⟩
/-- what is asked of a turn's data -/
structure TurnOk (M : KM.Way) (R : List Nat) (us : List KM.Un) : Prop where
  w : Whole M us
  r : okT R
  m : M.later = true ∨ R = []
def sp_left_over (K : PySem.W.Frag) : Sp := spR K fun ds d => ∃ Bk M R us, ds = [bookD Bk, wayD M, .str (S R), keysD (KM.flat us)] ∧ d = .str (S (rtx (KM.pgs Bk (KM.Pg.start R) us))) ∧ TurnOk M R us
theorem sc_left_over : FnScope ["book", "manner", "behind", "keys"] ["book", "manner", "behind", "keys"] (defScope s_left_over) := ⟨rfl, rfl, rfl, by decide +kernel, rfl, by decide +kernel, by decide +kernel⟩
theorem cal_left_over (T : Tx K mg) : C8.Cal P w K mg base 6 "left_over" (sp_left_over K) [] :=
  cal_of T.d_left_over T.g_left_over sc_left_over (fun _ _ _ _ _ _ us hl => match us, hl with | [_, _, _, _], _ => rfl)
    (spR_len fun ds d ⟨_, _, _, _, e, _⟩ => by rw [e]; rfl) fun cdv A outer s H E hr => ⟨_, (pss_cons (ps_expr (C8.pe_c (cal_need_book T) hr (by decide) (by rfl) (pa_cons (pv 0) pa_nil))) (pss_cons (ps_expr (C8.pe_c (cal_need_manner T) hr (by decide) (by rfl) (pa_cons (pv 1) pa_nil))) (pss_cons (ps_expr (C8.pe_c (cal_need_behind T) hr (by decide) (by rfl) (pa_cons (pv 1) (pa_cons (pv 2) pa_nil)))) (pss_cons (ps_expr (C8.pe_c (cal_typed T) hr (by decide) (by rfl) (pa_cons (pv 1) (pa_cons (pv 3) pa_nil)))) (pss_one (ps_ret (C8.pe_c (cal_behind_all T) hr (by decide) (by rfl) (pa_cons (pv 0) (pa_cons (pv 2) (pa_cons (pv 3) pa_nil)))))))))), spR_by _ <| by
      rintro ds d ⟨Bk, M, R, us, rfl, rfl, ⟨hW, hR, hM⟩⟩
      show Rn _ _ _ [some (bookD Bk), some (wayD M), some (.str (S R)), some (keysD (KM.flat us))] _
      refine rn_seq (Γ1 := [_, _, _, _]) (rn_drop (ev_callR rfl (ea_cons (ev_var rfl) ea_nil) ⟨_, rfl, rfl⟩)) ?_
      refine rn_seq (Γ1 := [_, _, _, _]) (rn_drop (ev_callR rfl (ea_cons (ev_var rfl) ea_nil) ⟨_, rfl, rfl⟩)) ?_
      refine rn_seq (Γ1 := [_, _, _, _]) (rn_drop (ev_callR rfl (ea_cons (ev_var rfl) (ea_cons (ev_var rfl) ea_nil)) ⟨_, _, rfl, rfl, hR, hM⟩)) ?_
      refine rn_seq (Γ1 := [_, _, _, _]) (rn_drop (ev_callR rfl (ea_cons (ev_var rfl) (ea_cons (ev_var rfl) ea_nil)) ⟨_, _, rfl, rfl, hW⟩)) ?_
      exact rn_ret (ev_callR rfl (ea_cons (ev_var rfl) (ea_cons (ev_var rfl) (ea_cons (ev_var rfl) ea_nil))) ⟨_, _, _, rfl, by rw [press_flat Bk us _ hW.1.nz], hR, hW.1.2, hW.1.keys⟩)⟩
def sp_harms (K : PySem.W.Frag) : Sp := spR K fun ds d => ∃ Bk M R us, ds = [bookD Bk, wayD M, .str (S R), keysD (KM.flat us)] ∧ d = .bl (!decide (rtx (KM.pgs Bk (KM.Pg.start R) us) = R)) ∧ TurnOk M R us
theorem sc_harms : FnScope ["book", "manner", "behind", "keys"] ["book", "manner", "behind", "keys"] (defScope s_harms) := ⟨rfl, rfl, rfl, by decide +kernel, rfl, by decide +kernel, by decide +kernel⟩
theorem cal_harms (T : Tx K mg) : C8.Cal P w K mg base 7 "harms" (sp_harms K) [] :=
  cal_of T.d_harms T.g_harms sc_harms (fun _ _ _ _ _ _ us hl => match us, hl with | [_, _, _, _], _ => rfl)
    (spR_len fun ds d ⟨_, _, _, _, e, _⟩ => by rw [e]; rfl) fun cdv A outer s H E hr => ⟨_, (pss_one (ps_ret (pe_cmpR op_ne (C8.pe_c (cal_left_over T) hr (by decide) (by rfl) (pa_cons (pv 0) (pa_cons (pv 1) (pa_cons (pv 2) (pa_cons (pv 3) pa_nil))))) (pv 2) (nomark _)))), spR_by _ <| by
      rintro ds d ⟨Bk, M, R, us, rfl, rfl, hT⟩
      show Rn _ _ _ [some (bookD Bk), some (wayD M), some (.str (S R)), some (keysD (KM.flat us))] _
      exact rn_ret (ev_neL (ev_callR rfl (ea_cons (ev_var rfl) (ea_cons (ev_var rfl) (ea_cons (ev_var rfl) (ea_cons (ev_var rfl) ea_nil)))) ⟨_, _, _, _, rfl, rfl, hT⟩) (ev_var rfl))⟩
end
end KH

/-! part K11 -/
set_option Elab.async false
set_option linter.all false
set_option maxRecDepth 100000
set_option maxHeartbeats 4000000
namespace KH
open PySem PySem.Spec PyProof.Rows L2 KD
section
variable {P : Program} {w : World} {K : PySem.W.Frag} {mg : Str → Option Value} {base : Heap}
def rdFr (b : Bool) (r : KM.Rd) : List (Str × V) := rdF (.bl b) (.str (S r.needs.reverse)) (.str (S r.before.toList)) (.bl r.opn)
theorem rd_of {G H : Hp} {a rb dx : Addr} {pg : KM.Pg} {b : Bool} {r : KM.Rd} (hG : G rb = some (.ins (He.ga K "Reading") dx (rdFr b r))) (p : (pgY K G a pg).p H) : (rdY K (fun c => if c = rb then none else G c) rb b r).p H := by
  refine ⟨fun c o z => ?_, if_pos rfl, dx, p.1 _ _ hG⟩
  have z' : (if c = rb then none else G c) = some o := z
  by_cases h : c = rb
  · rw [if_pos h] at z'; cases z'
  · rw [if_neg h] at z'; exact p.1 _ _ z'
theorem near_right (pg : KM.Pg) (R : List Nat) : decide ((R.length : Int) < ((rightD pg.right).length : Int)) = decide (R.length < pg.right.length) := by
  unfold rightD
  rw [List.length_map, List.length_reverse]
  simp
theorem rest_one (R : List Nat) : KM.restOf (R.take 1) = KM.restOf R := by cases R <;> rfl
def sp_stand_in (K : PySem.W.Frag) : Sp := spR K fun ds d => ∃ Bk M R us, ds = [bookD Bk, wayD M, .str (S R), keysD (KM.flat us), .str (S (KM.txt us))] ∧ d = standD (KM.standOf (KM.pgs Bk (KM.Pg.start R) us) (KM.rds M.words KM.Rd.start us) R) ∧ Row M us ∧ okT R
theorem sc_stand_in : FnScope ["book", "manner", "behind", "keys", "text", "key", "place", "thing", "page", "reading"] ["book", "manner", "behind", "keys", "text"] (defScope s_stand_in) := ⟨rfl, rfl, rfl, by decide +kernel, rfl, by decide +kernel, by decide +kernel⟩
theorem cal_stand_in (T : Tx K mg) : C8.Cal P w K mg base 5 "stand_in" (sp_stand_in K) [] :=
  cal_of T.d_stand_in T.g_stand_in sc_stand_in (fun _ _ _ _ _ _ us hl => match us, hl with | [_, _, _, _, _], _ => rfl)
    (spR_len fun ds d ⟨_, _, _, _, e, _⟩ => by rw [e]; rfl) fun cdv A outer s H E hr => ⟨_, (pss_cons (ps_par (i := 8) (j := 9) (by rfl) sc_stand_in.nd rfl rfl (by decide) rfl rfl (pa_cons (C8.pe_mk (mak_Page T) hr (by decide) (by rfl) (pa_cons (pe_tup (pa_cons pe_str (pa_cons (pv 2) (pa_cons (pe_tup pa_nil) pa_nil)))) pa_nil)) (pa_cons (pe_ix ix_tup (C8.pe_c (cal_read_all T) hr (by decide) (by rfl) (pa_cons (pv 4) (pa_cons (pe_ix ix_tup (pv 1) pe_int (fun _ _ => rfl)) pa_nil))) pe_int (fun _ _ => rfl)) pa_nil)) (by rfl)) (pss_cons (ps_for PassesOwn.never rfl (pi_tup (pv 3)) (pg_name (i := 5) sc_stand_in.nd rfl (Or.inl rfl)) (pss_one (ps_expr (C8.pe_mt (met_Page_press T) hr (by decide) (pv 8) (pa_cons (pv 0) (pa_cons (pv 5) pa_nil)))))) (pss_cons (ps_set (i := 6) sc_stand_in.nd rfl (Or.inl rfl) (pe_ifExp (pt_val (C8.pe_mt0 (met_Reading_is_quoted T) hr (by decide) (pv 9))) (pe_gS (by rfl) T.c_IN) (pe_ifExp (pt_val (pe_fld (pv 9) rfl)) (pe_gS (by rfl) T.c_WORD) (pe_gS (by rfl) T.c_OUT)))) (pss_cons (ps_set (i := 7) sc_stand_in.nd rfl (Or.inl rfl) (pe_gS (by rfl) T.c_REST)) (pss_cons (ps_if (pt_cmpR op_gt (pe_callB call_len (by rfl) T.b_len PySem.boot_len (pa_cons (pe_fld (pv 8) rfl) pa_nil)) (pe_callB call_len (by rfl) T.b_len PySem.boot_len (pa_cons (pv 2) pa_nil)) (nomark _)) (pss_one (ps_set (i := 7) sc_stand_in.nd rfl (Or.inl rfl) (pe_ifExp (pt_cmpR op_eq (C8.pe_mt0 (met_Page_next_sign T) hr (by decide) (pv 8)) (pe_gS (by rfl) T.c_QUOTE) (nomark _)) (pe_gS (by rfl) T.c_QUOTED) (pe_gS (by rfl) T.c_CLOSER)))) pss_nil) (pss_one (ps_ret (pe_tup (pa_cons (pv 6) (pa_cons (pe_ifExp (pt_val (C8.pe_c (cal_is_within T) hr (by decide) (by rfl) (pa_cons (pe_fld (pv 8) rfl) pa_nil))) (pe_gS (by rfl) T.c_ODD) (pe_gS (by rfl) T.c_EVEN)) (pa_cons (C8.pe_c (cal_word_before T) hr (by decide) (by rfl) (pa_cons (pe_fld (pv 8) rfl) pa_nil)) (pa_cons (pv 7) (pa_cons (C8.pe_c (cal_kind_of T) hr (by decide) (by rfl) (pa_cons (pe_slice C8.sl_txt (pv 2) po_none (po_some pe_int)) pa_nil)) pa_nil))))))))))))), spR_byS _ <| by
      rintro ds d ⟨Bk, M, R, us, rfl, rfl, hW, hR⟩
      have l9 : R.length ≤ 900 := Nat.le_trans hR.1 (by decide)
      have hl : (KM.flat us).length ≤ 400 := hW.2
      have ok : PgOk (pressN Bk (KM.Pg.start R) (KM.flat us)) := press_ok hR hl
      rw [press_flat Bk us _ hW.nz] at ok
      have tl : (KM.txt us).length ≤ 900 := Nat.le_trans (txt_len us) (Nat.le_trans hW.len (by decide))
      have cl : canl M.words KM.Rd.start (KM.txt us) = true := canl_txt M us _ hW.1
      have nd : (KM.rds M.words KM.Rd.start us).needs.length ≤ 1000 := by
        have := hW.needs us.length
        rw [List.take_length] at this
        exact this
      show Ss _ (sameY H).p _ [some (bookD Bk), some (wayD M), some (.str (S R)), some (keysD (KM.flat us)), some (.str (S (KM.txt us))), none, none, none, none, none] _ _
      have g : ∀ Δ : Ga, okG (relF K) Δ = true → okG (relF K) (some (bookD Bk) :: some (wayD M) :: some (.str (S R)) :: some (keysD (KM.flat us)) :: some (.str (S (KM.txt us))) :: Δ) = true := fun Δ h => okG_c rfl (okG_c rfl (okG_c rfl (okG_c (fz_keys _) (okG_c rfl h))))
      refine ss_toE (ι := Addr × Addr × Hp × Addr) (Γi := fun i => [some (bookD Bk), some (wayD M), some (.str (S R)), some (keysD (KM.flat us)), some (.str (S (KM.txt us))), none, none, none, some (.adr i.1), some (.adr i.2.1)])
        (Bi := fun i H' => (Same H i.2.2.1 ∧ i.2.2.1 i.2.1 = some (.ins (He.ga K "Reading") i.2.2.2 (rdFr M.words (rdl M.words KM.Rd.start (KM.txt us))))) ∧ (pgY K i.2.2.1 i.1 (KM.Pg.start R)).p H')
        (ss_par2 (B1 := fun x H' => ∃ a, x = .adr a ∧ (pgY K H a (KM.Pg.start R)).p H')
          (B2 := fun x y H' => ∃ i : Addr × Addr × Hp × Addr, x = .adr i.1 ∧ y = .adr i.2.1 ∧ (Same H i.2.2.1 ∧ i.2.2.1 i.2.1 = some (.ins (He.ga K "Reading") i.2.2.2 (rdFr M.words (rdl M.words KM.Rd.start (KM.txt us))))) ∧ (pgY K i.2.2.1 i.1 (KM.Pg.start R)).p H')
          (se_make (Y := sameY H) (Hs := H) (ds := [pageD R]) (B := fun a H' => (pgY K H a (KM.Pg.start R)).p H') rfl (ea_cons (ev_tup (ea_cons (ev_lit (l := []) (by decide +kernel)) (ea_cons (ev_var rfl) (ea_cons (ev_tup ea_nil) ea_nil)))) ea_nil) (fun _ h => h) (fun a H' h => ⟨H, a, R, h, rfl, rfl, l9⟩))
          (g _ rfl) (fun x => ?_) (fun x H' ⟨a, e, _⟩ => by rw [e]; rfl) (fun x y H' ⟨i, e1, e2, f⟩ => ⟨i, by rw [e1, e2]; rfl, f⟩))
        (fun ⟨a, rb, G, dx⟩ => ss_fact fun ⟨sG, hG⟩ => ?_)
      · refine se_op1 (L := relF K) (A := fun H' => ∃ a, x = .adr a ∧ (pgY K H a (KM.Pg.start R)).p H') (B1 := fun d H' => ∃ i : Addr × Addr × Hp × Addr, x = .adr i.1 ∧ d = .tup [.adr i.2.1, .non] ∧ (Same H i.2.2.1 ∧ i.2.2.1 i.2.1 = some (.ins (He.ga K "Reading") i.2.2.2 (rdFr M.words (rdl M.words KM.Rd.start (KM.txt us))))) ∧ (pgY K i.2.2.1 i.1 (KM.Pg.start R)).p H')
          (se_callX (Y := ⟨fun H' => ∃ a, x = .adr a ∧ (pgY K H a (KM.Pg.start R)).p H', fun H1 H2 s ⟨a, e, p⟩ => ⟨a, e, (pgY K H a (KM.Pg.start R)).st _ _ s p⟩⟩) rfl (ds := [.str (S (KM.txt us)), .bl M.words]) (ea_cons (ev_var rfl) (ea_cons (ev_ixT (e := wayD M) (ev_var rfl) ev_int rfl) ea_nil)) ?_) (g _ rfl) ?_
        · rintro H1 ⟨a, e, p⟩
          refine ⟨_, ⟨M.words, KM.txt us, rfl, rfl, cl, tl⟩, ?_⟩
          rintro d H' _ ⟨rb, ed, s1, n1, dx, e2⟩
          obtain ⟨p0, na, dp, lb, xs, ea, nl, el, hx⟩ := p
          have nra : rb ≠ a := fun z => by rw [z, ea] at n1; cases n1
          have nrl : rb ≠ lb := fun z => by rw [z, el] at n1; cases n1
          refine ⟨(a, rb, (fun c => if c = a ∨ c = lb then none else H' c), dx), e, ed, ⟨fun c o z => ?_, ?_⟩, fun c o z => ?_, if_pos (.inl rfl), dp, lb, xs, s1 _ _ ea, if_pos (.inr rfl), s1 _ _ el, hx.mono s1⟩
          · show (if c = a ∨ c = lb then none else H' c) = some o
            rw [if_neg]
            · exact s1 _ _ (p0 _ _ z)
            · rintro (q | q)
              · rw [q, na] at z; cases z
              · rw [q, nl] at z; cases z
          · show (if rb = a ∨ rb = lb then none else H' rb) = _
            rw [if_neg (fun q => q.elim nra nrl)]
            exact e2
          · have z' : (if c = a ∨ c = lb then none else H' c) = some o := z
            by_cases q : c = a ∨ c = lb
            · rw [if_pos q] at z'; cases z'
            · rw [if_neg q] at z'; exact z'
        · rintro d σ H' v ⟨i, e1, ed, f⟩ hv _ Q q
          subst ed
          obtain ⟨b, xs, e2, h2, h3⟩ := hv
          obtain ⟨w1, r1, e3, h4, h5⟩ := h3
          obtain ⟨w2, r2, e4, h6, h7⟩ := h5
          have e5 : r2 = [] := h7
          subst e2 e3 e4 e5
          exact ⟨b, _, 0, w1, rfl, rfl, SqT.of h2, rfl, q (.adr i.2.1) _ H' (Same.refl H') ⟨i, e1, rfl, f⟩ h4⟩
      · have ov : Ev K (pgY K G a (KM.pgs Bk (KM.Pg.start R) us)) (tFld K (tVar 9) "is_open") [some (bookD Bk), some (wayD M), some (.str (S R)), some (keysD (KM.flat us)), some (.str (S (KM.txt us))), none, none, none, some (.adr a), some (.adr rb)] (.bl (KM.rds M.words KM.Rd.start us).opn) := by
          refine ev_fld (p := rb) (ev_var rfl) fun H' p => ⟨_, dx, _, .bl (rdl M.words KM.Rd.start (KM.txt us)).opn, p.1 _ _ hG, T.cl_Reading, T.na_Reading_is_open, rdF_o _ _ _ _, ?_⟩
          rw [rds_txt]
          rfl
        refine ss_to (ss_press (Bk := Bk) (ks := KM.flat us) (iP := 8) (iB := 0) (iK := 3) (j := 5) rfl (fun _ => rfl) (fun _ => rfl) (fun _ => rfl) (fun _ => ⟨.inr rfl, .inr rfl, .inr rfl, .inr rfl, .inr rfl, .inl rfl, .inr rfl, .inr rfl, .inr rfl, .inr rfl, trivial⟩) (fun n => g _ rfl) hR hl hW.keys) ?_
        rw [press_flat Bk us _ hW.nz]
        clear hr
        generalize hpg : KM.pgs Bk (KM.Pg.start R) us = pg at ok ov ⊢
        have qv : ∀ H', (pgY K G a pg).p H' → Obj rb (He.ga K "Reading") "is_quoted" H' := fun H' p => ⟨dx, _, p.1 _ _ hG, rdN_q _ _ _ _⟩
        refine ss_rt (Y := pgY K G a pg) (d := standD (KM.standOf pg (KM.rds M.words KM.Rd.start us) R)) ?_ (fun H' p => ⟨rfl, sG.trans p.1⟩)
        have l3 : pg.left.length ≤ 1000 := Nat.le_trans ok.1 (by decide)
        refine rn_seq (Γ1 := [some (bookD Bk), some (wayD M), some (.str (S R)), some (keysD (KM.flat us)), some (.str (S (KM.txt us))), none, some (.str (nmPl (KM.placeOf (KM.rds M.words KM.Rd.start us)))), none, some (.adr a), some (.adr rb)])
          (rn_set (ev_as (ev_ifS (b := (KM.rds M.words KM.Rd.start us).quoted) (et_B (ev_methH rfl (ev_var rfl) qv ea_nil (fun H' p => ⟨_, rb, M.words, _, rd_of hG p, rfl, by rw [rds_txt], by rw [← rds_txt]; exact nd⟩))) (fun _ => ev_str) (fun _ => ev_ifS (et_B ov) (fun _ => ev_str) (fun _ => ev_str))) ?_)) ?_
        · unfold KM.placeOf
          cases (KM.rds M.words KM.Rd.start us).quoted
          · cases (KM.rds M.words KM.Rd.start us).opn <;> rfl
          · rfl
        refine rn_seq (Γ1 := [some (bookD Bk), some (wayD M), some (.str (S R)), some (keysD (KM.flat us)), some (.str (S (KM.txt us))), none, some (.str (nmPl (KM.placeOf (KM.rds M.words KM.Rd.start us)))), some (.str (nmNe .rest)), some (.adr a), some (.adr rb)]) (rn_set ev_str) ?_
        refine rn_seq (Γ1 := [some (bookD Bk), some (wayD M), some (.str (S R)), some (keysD (KM.flat us)), some (.str (S (KM.txt us))), none, some (.str (nmPl (KM.placeOf (KM.rds M.words KM.Rd.start us)))), some (.str (nmNe (KM.nearAt pg R))), some (.adr a), some (.adr rb)])
          (rn_if (b := decide (R.length < pg.right.length)) (et_test (ev_as (ev_cmpI (ev_lenL (ea_cons (pg_right T (ev_var rfl)) ea_nil)) (ev_lenS1 (ea_cons (ev_var rfl) ea_nil) (by omega))) (congrArg D.bl (near_right pg R))))
            (fun h => rn_set (ev_as (ev_ifS (et_test (ev_eqL (ev_methH rfl (ev_var rfl) pg_obj ea_nil (fun H' p => ⟨_, _, _, p, rfl, rfl, ok⟩)) (ev_lit (l := [39]) (by decide +kernel)))) (fun _ => ev_str) (fun _ => ev_str)) ?_)) (fun h => rn_as ?_ rn_next)) ?_
        · rw [nxt_eq]
          unfold KM.nearAt
          rw [if_pos (of_decide_eq_true h)]
          by_cases hq : KM.nxt pg.right = some 39
          · rw [if_pos hq, decide_eq_true hq]; rfl
          · rw [if_neg hq, decide_eq_false hq]; rfl
        · unfold KM.nearAt
          rw [if_neg (of_decide_eq_false h)]
        refine rn_ret (ev_as (ev_tup (ea_cons (ev_var rfl) (ea_cons (ev_ifS (et_B (ev_callR rfl (ea_cons (pg_left T (ev_var rfl)) ea_nil) ⟨_, rfl, rfl, l3⟩)) (fun _ => ev_str) (fun _ => ev_str)) (ea_cons (ev_callR rfl (ea_cons (pg_left T (ev_var rfl)) ea_nil) ⟨_, rfl, rfl, l3⟩) (ea_cons (ev_var rfl) (ea_cons (ev_callR rfl (ea_cons (ev_slTo (ev_var rfl) ev_int (by omega) (by decide)) ea_nil) ⟨_, rfl, rfl, List.length_take_le ..⟩) ea_nil)))))) ?_)
        show D.tup [_, _, _, _, .str (nmRe (KM.restOf (R.take 1)))] = _
        rw [rest_one]
        unfold standD KM.standOf KM.countOf
        cases KM.within pg.left <;> rfl⟩
def sp_stand_behind (K : PySem.W.Frag) : Sp := spR K fun ds d => ∃ Bk M R us, ds = [bookD Bk, wayD M, .str (S R), keysD (KM.flat us)] ∧ d = standD (KM.standOf (KM.pgs Bk (KM.Pg.start R) us) (KM.rds M.words KM.Rd.start us) R) ∧ Row M us ∧ okT R ∧ (M.later = true ∨ R = [])
theorem sc_stand_behind : FnScope ["book", "manner", "behind", "keys", "text", "place"] ["book", "manner", "behind", "keys"] (defScope s_stand_behind) := ⟨rfl, rfl, rfl, by decide +kernel, rfl, by decide +kernel, by decide +kernel⟩
theorem cal_stand_behind (T : Tx K mg) : C8.Cal P w K mg base 6 "stand_behind" (sp_stand_behind K) [] :=
  cal_of T.d_stand_behind T.g_stand_behind sc_stand_behind (fun _ _ _ _ _ _ us hl => match us, hl with | [_, _, _, _], _ => rfl)
    (spR_len fun ds d ⟨_, _, _, _, e, _⟩ => by rw [e]; rfl) fun cdv A outer s H E hr => ⟨_, (pss_cons (ps_expr (C8.pe_c (cal_need_book T) hr (by decide) (by rfl) (pa_cons (pv 0) pa_nil))) (pss_cons (ps_expr (C8.pe_c (cal_need_manner T) hr (by decide) (by rfl) (pa_cons (pv 1) pa_nil))) (pss_cons (ps_expr (C8.pe_c (cal_need_behind T) hr (by decide) (by rfl) (pa_cons (pv 1) (pa_cons (pv 2) pa_nil)))) (pss_cons (ps_expr (C8.pe_c (cal_need_keys T) hr (by decide) (by rfl) (pa_cons (pv 3) pa_nil))) (pss_cons (ps_asg (C8.pe_c (cal_typed_in T) hr (by decide) (by rfl) (pa_cons (pv 1) (pa_cons (pv 3) pa_nil))) (pg_tup (n := 2) rfl (pgs_cons (pg_name (i := 4) sc_stand_behind.nd rfl (Or.inl rfl)) (pgs_cons (pg_name (i := 5) sc_stand_behind.nd rfl (Or.inl rfl)) pgs_nil)))) (pss_cons (ps_if (PW.pt (pw_and (pt_cmp (pc_notN (pv 5)) rfl) (pw_and1 (pt_cmpR op_ne (pv 5) (pe_callB call_len (by rfl) T.b_len PySem.boot_len (pa_cons (pv 3) pa_nil)) (nomark _))))) (pss_one ps_never) pss_nil) (pss_one (ps_ret (C8.pe_c (cal_stand_in T) hr (by decide) (by rfl) (pa_cons (pv 0) (pa_cons (pv 1) (pa_cons (pv 2) (pa_cons (pv 3) (pa_cons (pv 4) pa_nil)))))))))))))), spR_by _ <| by
      rintro ds d ⟨Bk, M, R, us, rfl, rfl, hW, hR, hM⟩
      clear hr
      show Rn _ _ _ [some (bookD Bk), some (wayD M), some (.str (S R)), some (keysD (KM.flat us)), none, none] _
      refine rn_seq (Γ1 := [_, _, _, _, _, _]) (rn_drop (ev_callR rfl (ea_cons (ev_var rfl) ea_nil) ⟨_, rfl, rfl⟩)) ?_
      refine rn_seq (Γ1 := [_, _, _, _, _, _]) (rn_drop (ev_callR rfl (ea_cons (ev_var rfl) ea_nil) ⟨_, rfl, rfl⟩)) ?_
      refine rn_seq (Γ1 := [_, _, _, _, _, _]) (rn_drop (ev_callR rfl (ea_cons (ev_var rfl) (ea_cons (ev_var rfl) ea_nil)) ⟨_, _, rfl, rfl, hR, hM⟩)) ?_
      refine rn_seq (Γ1 := [_, _, _, _, _, _]) (rn_drop (ev_callR rfl (ea_cons (ev_var rfl) ea_nil) ⟨_, rfl, rfl, hW.2, hW.keys⟩)) ?_
      refine rn_seq (Γ1 := [some (bookD Bk), some (wayD M), some (.str (S R)), some (keysD (KM.flat us)), some (.str (S (KM.txt us))), some (if (KM.rds M.words KM.Rd.start us).whole = true then .non else .int ((KM.flat us).length : Nat))])
        (rn_unp (is := [4, 5]) (ev_callR rfl (ea_cons (ev_var rfl) (ea_cons (ev_var rfl) ea_nil)) ⟨_, _, rfl, rfl, hW⟩) rfl rfl rfl) ?_
      cases hw : (KM.rds M.words KM.Rd.start us).whole with
      | true => exact rn_ifs (b := false) (et_and (a := false) (b := true) (et_B (ev_as (ev_notN (ev_var rfl)) rfl)) (fun h => et_absurd (by cases h))) (fun h => by cases h) (fun _ => rn_nx (rn_ret (ev_callR rfl (ea_cons (ev_var rfl) (ea_cons (ev_var rfl) (ea_cons (ev_var rfl) (ea_cons (ev_var rfl) (ea_cons (ev_var rfl) ea_nil))))) ⟨Bk, M, R, us, rfl, rfl, hW, hR⟩)))
      | false =>
        refine rn_ifs (b := false) (et_and (a := true) (et_B (ev_as (ev_notN (ev_var rfl)) rfl)) (fun _ => et_test (ev_as (ev_neI (ev_var rfl) (ev_lenT (ea_cons (ev_var rfl) ea_nil))) ?_))) (fun h => by cases h) (fun _ => rn_nx (rn_ret (ev_callR rfl (ea_cons (ev_var rfl) (ea_cons (ev_var rfl) (ea_cons (ev_var rfl) (ea_cons (ev_var rfl) (ea_cons (ev_var rfl) ea_nil))))) ⟨Bk, M, R, us, rfl, rfl, hW, hR⟩)))
        refine congrArg D.bl ?_
        show (!decide ((((KM.flat us).length : Nat) : Int) = (((KM.flat us).map kD).length : Nat))) = false
        rw [List.length_map, decide_eq_true rfl]
        rfl⟩
end
end KH

/-! part KY -/
set_option Elab.async false
set_option linter.all false
set_option maxRecDepth 100000
set_option maxHeartbeats 4000000
/-! code that draws: a state that changes at two places, tests and arguments that change what stands -/
namespace KD
open PySem PySem.Spec PyProof.Rows L2
/-- where the state stands: the dict, its list of great cells, its list of cells -/
structure Ad where
  a : Addr
  g : Addr
  c : Addr
def Kp (m : Ad) (H H' : Hp) : Prop := ∀ c o, c ≠ m.a → c ≠ m.g → H c = some o → H' c = some o
theorem Kp.refl {m : Ad} (H : Hp) : Kp m H H := fun _ _ _ _ h => h
theorem Kp.trans {m : Ad} {H H' H'' : Hp} (h : Kp m H H') (h' : Kp m H' H'') : Kp m H H'' := fun c o x y z => h' c o x y (h c o x y z)
theorem Kp.of {m : Ad} {H H' : Hp} (h : Same H H') : Kp m H H' := fun c o _ _ z => h c o z
structure Fr (m : Ad) where
  p : Hp → Prop
  st : ∀ H H', Fz H H' → Kp m H H' → p H → p H'
def mKV (cl g : Addr) (k : Int) : List (Key × V) := [(.inr "cells", .ref cl), (.inr "great", .ref g), (.inr "spot", .int k)]
structure MX (m : Ad) (k : Nat) (cells gs : List Int) (H : Hp) : Prop where
  d : H m.a = some (.dK (mKV m.c m.g k))
  ne : m.c ≠ m.g
  c : H m.c = some (.lst (cells.map V.int))
  n : cells.length = 64
  b : ∀ x ∈ cells, 0 ≤ x ∧ x < 2147483647
  g : H m.g = some (.lst (gs.map V.int))
  s : gs.length ≤ 63
theorem MX.st {m : Ad} {k : Nat} {cells gs : List Int} {H H' : Hp} (s : Same H H') (x : MX m k cells gs H) : MX m k cells gs H' := ⟨s _ _ x.d, x.ne, s _ _ x.c, x.n, x.b, s _ _ x.g, x.s⟩
theorem MX.nca {m : Ad} {k : Nat} {cells gs : List Int} {H : Hp} (x : MX m k cells gs H) : m.c ≠ m.a := fun z => by
  have := x.c
  rw [z, x.d] at this
  cases this
theorem MX.nga {m : Ad} {k : Nat} {cells gs : List Int} {H : Hp} (x : MX m k cells gs H) : m.g ≠ m.a := fun z => by
  have := x.g
  rw [z, x.d] at this
  cases this
def mAt (m : Ad) (N : Nat) (H : Hp) : Prop := ∃ k cells gs, k ≤ N ∧ MX m k cells gs H
theorem mAt.st {m : Ad} {N : Nat} {H H' : Hp} (s : Same H H') (x : mAt m N H) : mAt m N H' := let ⟨k, cs, gs, h1, h2⟩ := x; ⟨k, cs, gs, h1, h2.st s⟩
theorem mAt.le {m : Ad} {N N' : Nat} {H : Hp} (x : mAt m N H) (h : N ≤ N') : mAt m N' H := let ⟨k, cs, gs, h1, h2⟩ := x; ⟨k, cs, gs, Nat.le_trans h1 h, h2⟩
/-- a new place is none of the state's -/
theorem mAt.free {m : Ad} {N : Nat} {H : Hp} {b : Addr} (x : mAt m N H) (h : H b = none) : b ≠ m.a ∧ b ≠ m.g ∧ b ≠ m.c := by
  obtain ⟨k, cs, gs, h1, x⟩ := x
  refine ⟨fun z => ?_, fun z => ?_, fun z => ?_⟩
  · rw [z, x.d] at h; cases h
  · rw [z, x.g] at h; cases h
  · rw [z, x.c] at h; cases h
theorem mAt.upd {m : Ad} {N : Nat} {H : Hp} {b : Addr} {o : HO} (x : mAt m N H) (ha : b ≠ m.a) (hg : b ≠ m.g) (hc : b ≠ m.c) : mAt m N (upd H b o) := by
  obtain ⟨k, cs, gs, h1, x⟩ := x
  exact ⟨k, cs, gs, h1, by rw [upd_ne (fun z => ha z.symm)]; exact x.d, x.ne, by rw [upd_ne (fun z => hc z.symm)]; exact x.c, x.n, x.b, by rw [upd_ne (fun z => hg z.symm)]; exact x.g, x.s⟩
def FY {m : Ad} (F : Fr m) (N : Nat) : Hy := ⟨fun H => F.p H ∧ mAt m N H, fun H H' s h => ⟨F.st _ _ (Fz.of s) (Kp.of s) h.1, h.2.st s⟩⟩
def F0 (H0 : Hp) (m : Ad) : Fr m := ⟨fun H => Kp m H0 H, fun _ _ _ k h => h.trans k⟩
section
variable {K : PySem.W.Frag} {m : Ad} {F : Fr m} {N N' c : Nat} {A A' : Hp → Prop} {Y : Hy} {Γ Γ1 : Ga} {ta tb te : TE} {tr : TA} {d x y : D} {b : Addr} {H0 : Hp} {l : List D} {Rr : List D → (D → Prop) → Prop} {es : List D} {Po : D → Prop} {t u v : TS} {tt tu : TT} {Nn : Ga → Hp → Prop} {R : D → Hp → Prop}
/-- the promise of a def that draws at most c numbers -/
def spM (K : PySem.W.Frag) (c : Nat) (Rr : List D → (D → Prop) → Prop) : Sp := spS (relF K) fun H ds B => ∃ m N es Po, mAt m N H ∧ N + c ≤ 100000 ∧ ds = .adr m.a :: es ∧ Rr es Po ∧ B = fun d H' => Po d ∧ mAt m (N + c) H' ∧ Kp m H H'
theorem spM_len {n : Nat} (h : ∀ es Po, Rr es Po → es.length + 1 = n) (vs : List V) (H : Hp) (Q : VK) (E : XK) (q : spM K c Rr vs H Q E) : vs.length = n :=
  spS_len (fun H ds B ⟨_, _, es, Po, _, _, e, r, _⟩ => by rw [e]; exact h es Po r) vs H Q E q
theorem spM_by (Nm : List Str) {ts : TS} {H : Hp} {E : XK} (h : ∀ m N es Po, Rr es Po → N + c ≤ 100000 → mAt m N H → Ss (relF K) (FY (F0 H m) N).p ts (gst Nm.length (.adr m.a :: es)) (fun _ _ => False) (fun d H' => Po d ∧ (FY (F0 H m) (N + c)).p H')) (vs : List V) (Q : VK) (q : spM K c Rr vs H Q E) :
    ts { nx := fun _ H' => Q .non H', rt := Q } (L2.start Nm vs) H := by
  refine spS_by Nm (fun ds B q => ?_) vs Q q
  obtain ⟨m, N, es, Po, hm, hN, e1, hR, e2⟩ := q
  subst e1 e2
  exact ⟨_, ⟨Kp.refl H, hm⟩, ss_mono (h m N es Po hR hN hm) (fun _ h => h) (fun _ _ h => h.elim) (fun d H' h => ⟨h.1, h.2.2, h.2.1⟩)⟩
theorem se_callM {sp : Sp} {E : XK} (hs : sp = spM K c Rr) (h : Ea K (FY F N) tr Γ (.adr m.a :: es)) (hR : Rr es Po) (hN : N + c ≤ 100000) : Se (relF K) (FY F N).p (tCall sp [] E tr) Γ (fun d H' => Po d ∧ (FY F (N + c)).p H') := by
  subst hs
  refine fun σ H p e Q q => h σ H p e _ fun vs H1 s1 h1 => ?_
  have p1 := (FY F N).st _ _ s1 p
  exact ⟨_, _, ⟨m, N, es, Po, p1.2, hN, rfl, hR, rfl⟩, by rw [List.append_nil]; exact h1, fun d v H2 r2 b h2 => q d v H2 ((Fz.of s1).trans r2) ⟨b.1, F.st _ _ r2 b.2.2 p1.1, b.2.1⟩ h2⟩
/-! a list of the def's own at b -/
def Fl (K : PySem.W.Frag) (H0 : Hp) (m : Ad) (b : Addr) (l : List D) : Fr m := ⟨fun H => Kp m H0 H ∧ H0 b = none ∧ b ≠ m.a ∧ b ≠ m.g ∧ b ≠ m.c ∧ fzL l = true ∧ ∃ xs, H b = some (.lst xs) ∧ DtL K H l xs,
  fun H H' f k h => ⟨h.1.trans k, h.2.1, h.2.2.1, h.2.2.2.1, h.2.2.2.2.1, h.2.2.2.2.2.1, let ⟨xs, e1, e2⟩ := h.2.2.2.2.2.2; ⟨xs, k _ _ h.2.2.1 h.2.2.2.1 e1, e2.fzm f _ _ h.2.2.2.2.2.1⟩⟩⟩
theorem fl_at {H : Hp} (p : (FY (Fl K H0 m b l) N).p H) : Dt K H (.lst l) (.ref b) := let ⟨xs, e1, e2⟩ := p.1.2.2.2.2.2.2; ⟨b, xs, rfl, e1, e2⟩
theorem fl_f0 {H : Hp} (p : (FY (Fl K H0 m b l) N).p H) : (FY (F0 H0 m) N).p H := ⟨p.1.1, p.2⟩
theorem ev_lA (h : Ev K (FY (Fl K H0 m b l) N) te Γ (.adr b)) : Ev K (FY (Fl K H0 m b l) N) te Γ (.lst l) := fun σ H p e Q q => h σ H p e Q fun v H1 s1 hv => q v H1 s1 (by
  have e1 : v = .ref b := hv
  rw [e1]
  exact fl_at ((FY (Fl K H0 m b l) N).st _ _ s1 p))
theorem kp_upd {H : Hp} {o : HO} (k : Kp m H0 H) (n : H0 b = none) : Kp m H0 (upd H b o) := fun c o' h1 h2 z => by
  rw [upd_ne (ne_of_none z n)]
  exact k c o' h1 h2 z
theorem se_app (ho : Ev K (FY (Fl K H0 m b l) N) ta Γ (.adr b)) (hr : Ea K (FY (Fl K H0 m b l) N) tr Γ [d]) (hf : d.fz = true) (hl : l.length < 100000) :
    Se (relF K) (FY (Fl K H0 m b l) N).p (tBM K "list" rAppend ta tr) Γ (fun y H => y = .non ∧ (FY (Fl K H0 m b (l ++ [d])) N).p H) := fun σ H p e Q q =>
  ho σ H p e _ fun v H1 s1 h1 => by
    have e1 : v = .ref b := h1
    subst e1
    have p1 := (FY (Fl K H0 m b l) N).st _ _ s1 p
    obtain ⟨⟨k0, n0, na, ng, nc, fl, xs, eb, hx⟩, hm⟩ := id p1
    refine ⟨.inl ⟨rfl, _, SqL.of eb⟩, hr σ H1 p1 (e.mono s1) _ fun vs H2 s2 h2 => ?_⟩
    obtain ⟨u, e2, hu⟩ := dtl1 h2
    subst e2
    have eb2 := s2 _ _ eb
    have fz : Fz H2 (upd H2 b (.lst (xs ++ [u]))) := fz_upd fun zs z => by rw [eb2] at z; cases z
    refine ⟨b, xs, u, rfl, rfl, eb2, ?_, q .non .non _ ((Fz.of (s1.trans s2)).trans fz) ⟨rfl, ⟨kp_upd (k0.trans (Kp.of s2)) n0, n0, na, ng, nc, ?_, xs ++ [u], upd_same, ?_⟩, (hm.st s2).upd na ng nc⟩ rfl⟩
    · rw [hx.length]
      exact Nat.lt_of_lt_of_le hl (small (Nat.le_refl _))
    · rw [fzL_app, fl]
      show (true && (d.fz && true)) = true
      rw [hf]; rfl
    · exact ((hx.mono s2).fzm fz _ _ fl).app ⟨u, [], rfl, hu.fzm fz _ _ hf, rfl⟩
theorem fresh0 {H : Hp} (k : Kp m H0 H) (hm : mAt m N H) (h : H b = none) : H0 b = none := by
  cases z : H0 b with
  | none => rfl
  | some o =>
    obtain ⟨h1, h2, _⟩ := hm.free h
    rw [k _ _ h1 h2 z] at h
    cases h
/-- a new list -/
theorem se_newF (h : Ef K (FY (F0 H0 m) N) te Γ l) (hf : fzL l = true) : Se (relF K) (FY (F0 H0 m) N).p te Γ (fun d H' => ∃ b, d = .adr b ∧ (FY (Fl K H0 m b l) N).p H') := fun σ H p e Q q =>
  h σ H p e Q fun b ys H' s nb eb hy => by
    obtain ⟨h1, h2, h3⟩ := p.2.free nb
    exact q (.adr b) (.ref b) H' (Fz.of s) ⟨b, rfl, ⟨p.1.trans (Kp.of s), fresh0 p.1 p.2 nb, h1, h2, h3, hf, ys, eb, hy⟩, p.2.st s⟩ rfl
/-! arguments, tests, that change what stands -/
def Sa (K : PySem.W.Frag) (A : Hp → Prop) (tr : TA) (Γ : Ga) (B : List D → Hp → Prop) : Prop := ∀ σ H, A H → Slots K H σ Γ → ∀ Q : List V → Hp → Prop, (∀ ds vs H', Fz H H' → B ds H' → DtL K H' ds vs → Q vs H') → tr σ H Q
def Sb (K : PySem.W.Frag) (A : Hp → Prop) (tt : TT) (Γ : Ga) (B : Bool → Hp → Prop) : Prop := ∀ σ H, A H → Slots K H σ Γ → ∀ Q : Bool → Hp → Prop, (∀ b H', Fz H H' → B b H' → Q b H') → tt σ H Q
theorem sa_nil {B : List D → Hp → Prop} (h : ∀ H, A H → B [] H) : Sa K A tNil Γ B := fun σ H a _ Q q => q [] [] H (Fz.refl H) (h H a) rfl
theorem sa_of {B : List D → Hp → Prop} (h : Ea K Y tr Γ es) (hb : ∀ H, Y.p H → B es H) : Sa K Y.p tr Γ B := fun σ H a e Q q => h σ H a e Q fun vs H' s h1 => q es vs H' (Fz.of s) (hb H' (Y.st _ _ s a)) h1
theorem sa_cons {B1 : D → Hp → Prop} {B : List D → Hp → Prop} (h : Se (relF K) A ta Γ B1) (g : okG (relF K) Γ = true) (hx : ∀ x H, B1 x H → x.fz = true) (h2 : ∀ x, Sa K (B1 x) tr Γ (fun ds H => B (x :: ds) H)) : Sa K A (tCons ta tr) Γ B := fun σ H a e Q q =>
  h σ H a e _ fun x v H1 r1 b1 hv => h2 x σ H1 b1 (e.rel g r1) _ fun ds vs H2 r2 b2 hd => q (x :: ds) (v :: vs) H2 (Fz.trans r1 r2) b2 ⟨v, vs, rfl, hv.fzm r2 _ _ (hx x H1 b1), hd⟩
theorem se_tup {B : List D → Hp → Prop} (h : Sa K A tr Γ B) (hl : ∀ ds H, B ds H → ds.length ≤ 100000) (hst : ∀ ds H H', Same H H' → B ds H → B ds H') : Se (relF K) A (tTup tr) Γ (fun d H => ∃ ds, d = .tup ds ∧ B ds H) := fun σ H a e Q q =>
  h σ H a e _ fun ds vs H1 r1 b1 hd => ⟨by rw [hd.length]; exact small (hl ds H1 b1), fun p hp => q (.tup ds) _ _ (Fz.trans r1 (Fz.of (Same.new hp))) ⟨ds, rfl, hst ds _ _ (Same.new hp) b1⟩ ⟨p, vs, rfl, upd_same, hd.mono (Same.new hp)⟩⟩
theorem sb_of {b : Bool} {B : Bool → Hp → Prop} (h : Et K Y tt Γ b) (hb : ∀ H, Y.p H → B b H) : Sb K Y.p tt Γ B := fun σ H a e Q q => h σ H a e Q fun H' s => q b H' (Fz.of s) (hb H' (Y.st _ _ s a))
theorem sb_test {B : Bool → Hp → Prop} (h : Se (relF K) A te Γ (fun d H => ∃ b, d = .bl b ∧ B b H)) : Sb K A (tTest te) Γ B := fun σ H a e Q q =>
  h σ H a e _ fun d v H1 r1 ⟨b, ed, hb⟩ hv => by
    subst ed
    exact ⟨b, hv, q b H1 r1 hb⟩
theorem sb_and {b : Bool} {B : Bool → Hp → Prop} (h1 : Et K Y tt Γ b) (hf : b = false → ∀ H, Y.p H → B false H) (h2 : b = true → Sb K Y.p tu Γ B) : Sb K Y.p (tAnd tt tu) Γ B := fun σ H a e Q q =>
  h1 σ H a e _ fun H1 s1 => by
    cases b with
    | true => exact h2 rfl σ H1 (Y.st _ _ s1 a) (e.mono s1) Q fun b H' r hb => q b H' (Fz.trans (Fz.of s1) r) hb
    | false => exact q false H1 (Fz.of s1) (hf rfl H1 (Y.st _ _ s1 a))
theorem ss_ifB {B : Bool → Hp → Prop} (hc : Sb K A tt Γ B) (g : okG (relF K) Γ = true) (h1 : Ss (relF K) (B true) t Γ Nn R) (h2 : Ss (relF K) (B false) u Γ Nn R) : Ss (relF K) A (tIfS tt t u) Γ Nn R := fun σ H E a e k kr =>
  hc σ H a e _ fun b H1 r1 hb => by
    have k' := fun G σ' H' (r : Fz H1 H') (n : Nn G H') e' => k G σ' H' (Fz.trans r1 r) n e'
    have kr' := fun d v H' (r : Fz H1 H') (q : R d H') h => kr d v H' (Fz.trans r1 r) q h
    have e1 : Slots K H1 σ Γ := Slots.rel (L := relF K) e g r1
    cases b with
    | true => exact h1 σ H1 E hb e1 k' kr'
    | false => exact h2 σ H1 E hb e1 k' kr'
theorem r_of {r : R2} (h : ∀ (Y : Hy) (ta tb : TE), Ev K Y ta [] x → Ev K Y tb [] y → Ev K Y (tOp r ta tb) [] d) {H : Hp} {v u : V} (hv : Dt K H x v) (hu : Dt K H y u) (Q : VK) (q : ∀ z H', Same H H' → Dt K H' d z → Q z H') : r v u H Q :=
  h (sameY H) (tC v) (tC u) (fun σ H1 s _ Q q => q v H1 (Same.refl _) (hv.mono s)) (fun σ H1 s _ Q q => q u H1 (Same.refl _) (hu.mono s)) [] H (Same.refl H) ⟨rfl, fun i d q => by cases q⟩ Q q
/-- the right part changes what stands -/
theorem se_opR {r : R2} {B1 B2 : D → Hp → Prop} (ha : Ev K Y ta Γ x) (hx : x.fz = true) (hb : Se (relF K) Y.p tb Γ B1)
    (h : ∀ y H, B1 y H → ∃ x' d, (∀ v, Dt K H x v → Dt K H x' v) ∧ (∀ (Y : Hy) (ta tb : TE), Ev K Y ta [] x' → Ev K Y tb [] y → Ev K Y (tOp r ta tb) [] d) ∧ ∀ H', Same H H' → B2 d H') : Se (relF K) Y.p (tOp r ta tb) Γ B2 :=
  se_op2 ha hx hb fun H v u y b1 hv hu Q q => by
    obtain ⟨x', d, h1, h2, h3⟩ := h y H b1
    exact r_of h2 (h1 v hv) hu Q fun z H' s hz => q d z H' s (h3 H' s) hz
/-- the left part changes what stands, the right one is a constant -/
theorem se_opc {r : R2} {B1 B2 : D → Hp → Prop} {cv : V} (ha : Se (relF K) A ta Γ B1) (g : okG (relF K) Γ = true) (hy : ∀ H, Dt K H y cv)
    (h : ∀ x H, B1 x H → ∃ d, (∀ (Y : Hy) (ta tb : TE), Ev K Y ta [] x → Ev K Y tb [] y → Ev K Y (tOp r ta tb) [] d) ∧ ∀ H', Same H H' → B2 d H') : Se (relF K) A (tOp r ta (tC cv)) Γ B2 :=
  se_op1 ha g fun x σ H v b1 hv _ Q q => by
    obtain ⟨d, h2, h3⟩ := h x H b1
    exact r_of h2 hv (hy H) Q fun z H' s hz => q d z H' s (h3 H' s) hz
/-- range over a drawn number -/
theorem ss_forE {B1 : D → Hp → Prop} {gt : TG} (h : Se (relF K) A ta Γ B1) (g : okG (relF K) Γ = true) (h2 : ∀ d H, B1 d H → ∃ j : Int, d = .int j) (h3 : ∀ j : Int, Ss (relF K) (B1 (.int j)) (tFor (iRng1 (tCons (tC (.int j)) tNil)) gt t) Γ Nn R) :
    Ss (relF K) A (tFor (iRng1 (tCons ta tNil)) gt t) Γ Nn R := fun σ H E a e k kr => h σ H a e _ fun d v H1 r1 b1 hv => by
  obtain ⟨j, ed⟩ := h2 d H1 b1
  subst ed
  have ev : v = .int j := hv
  subst ev
  exact h3 j σ H1 E b1 (Slots.rel (L := relF K) e g r1) (fun G σ' H' r n e' => k G σ' H' (Fz.trans r1 r) n e') (fun d v H' r q hd => kr d v H' (Fz.trans r1 r) q hd)
/-- list + [..], the new items drawn -/
theorem se_catE {P : List D → Prop} (ho : Ev K (FY (Fl K H0 m b l) N) ta Γ (.adr b)) (g : okG (relF K) Γ = true) (hr : Sa K (FY (Fl K H0 m b l) N).p tr Γ (fun ds H => P ds ∧ (FY (Fl K H0 m b l) N').p H)) (hP : ∀ ds, P ds → fzL ds = true ∧ ds.length ≤ 100) (hl : l.length ≤ 10000) :
    Se (relF K) (FY (Fl K H0 m b l) N).p (tOp rCat ta (tLst tr)) Γ (fun d H => ∃ b' ds, P ds ∧ d = .adr b' ∧ (FY (Fl K H0 m b' (l ++ ds)) N').p H) := fun σ H p e Q q =>
  ho σ H p e _ fun v H1 s1 h1 => by
    have e1 : v = .ref b := h1
    subst e1
    refine hr σ H1 ((FY (Fl K H0 m b l) N).st _ _ s1 p) (e.mono s1) _ fun ds vs H2 r2 ⟨hp, p2⟩ hd => ?_
    obtain ⟨hf, hn⟩ := hP ds hp
    refine ⟨by rw [hd.length]; exact small (by omega), fun p1 hp1 => ?_⟩
    have s3 : Same H2 (upd H2 p1 (.lst vs)) := Same.new hp1
    obtain ⟨⟨k0, n0, na, ng, nc, fl, xs, eb, hx⟩, hm⟩ := (FY (Fl K H0 m b l) N').st _ _ s3 p2
    refine ⟨b, p1, xs, vs, rfl, rfl, eb, upd_same, by rw [hx.length, hd.length]; exact small (by omega), fun p2 hp2 => ?_⟩
    have s4 : Same (upd H2 p1 (.lst vs)) (upd (upd H2 p1 (.lst vs)) p2 (.lst (xs ++ vs))) := Same.new hp2
    obtain ⟨f1, f2, f3⟩ := hm.free hp2
    refine q (.adr p2) (.ref p2) _ (Fz.trans (Fz.of s1) (Fz.trans r2 (Fz.of (s3.trans s4)))) ⟨p2, ds, hp, rfl, ⟨k0.trans (Kp.of s4), fresh0 k0 hm hp2, f1, f2, f3, ?_, xs ++ vs, upd_same, (hx.app (hd.mono s3)).mono s4⟩, hm.st s4⟩ rfl
    rw [fzL_app, fl, hf]
    rfl
/-- a comprehension that draws one number an item -/
theorem se_lcE {src : List D} {gt : TG} {js vs : List Nat} {out : D → List D} {okd : D → Prop} {tl : TE} {Pe : Nat → D → Prop} (hw : Ev K (FY (F0 H0 m) N) tl Γ (.lst src)) (hg : TgOk K gt js out okd) (hj : ∀ j ∈ js, j ∈ vs) (g : okG (relF K) (wipeG Γ vs) = true)
    (hsf : fzL src = true) (hs0 : ∀ d, src[0]? = some d → d.isT = true) (hn : src.length ≤ 100000) (hpf : ∀ i y, Pe i y → y.fz = true)
    (hs : ∀ i d, src[i]? = some d → okd d ∧ ∀ F' : Fr m, Se (relF K) (FY F' (N + i)).p te (setAll (wipeG Γ vs) js (out d)) (fun y H => Pe i y ∧ (FY F' (N + (i + 1))).p H)) (hg2 : okG (relF K) Γ = true) :
    Se (relF K) (FY (F0 H0 m) N).p (tLc (iList K tl) gt tYes te vs) Γ (fun d H => ∃ ys, d = .lst ys ∧ ys.length = src.length ∧ fzL ys = true ∧ (∀ i y, ys[i]? = some y → Pe i y) ∧ (FY (F0 H0 m) (N + src.length)).p H) := by
  intro σ H a e Q q
  refine hw σ H a e _ fun v H1 s1 h1 => ?_
  obtain ⟨p, xs, e1, ep, hx⟩ := h1
  subst e1
  have a1 := (FY (F0 H0 m) N).st _ _ s1 a
  refine ⟨p, rfl, ⟨xs, SqL.of ep⟩, ?_⟩
  intro D0 hD
  obtain ⟨da, dg, dc⟩ := a1.2.free hD
  have hD0 := fresh0 a1.1 a1.2 hD
  have pD : p ≠ D0 := fun z => by rw [z, hD] at ep; cases ep
  have pa : p ≠ m.a := fun z => by
    obtain ⟨k, cs, gs, _, x⟩ := a1.2
    rw [z, x.d] at ep
    cases ep
  have pg : src ≠ [] → p ≠ m.g := fun hne z => by
    obtain ⟨k, cs, gs, _, x⟩ := a1.2
    rw [z, x.g] at ep
    have exs : gs.map V.int = xs := by injection ep with ep; injection ep
    cases src with
    | nil => exact hne rfl
    | cons d0 src =>
      have t0 := hs0 d0 rfl
      obtain ⟨v0, r0, e0, hv0, _⟩ := hx
      obtain ⟨b0, ys0, eq0, _⟩ := hv0.seq t0
      rw [e0, eq0] at exs
      cases gs with
      | nil => cases exs
      | cons g0 gs =>
        rw [List.map_cons] at exs
        injection exs with e1 _
        cases e1
  have lx := hx.length
  by_cases hne : src = []
  · subst hne
    have exs : xs = [] := hx
    subst exs
    exact lc_it (walk_list (K := K) (a := p) (xs := [])) (fun i H' => H' = upd H1 D0 (.lst [])) rfl (fun i H' _ z => by rw [z]; exact SqL.of (by rw [upd_ne pD]; exact ep)) (fun i x H' H2 hi _ _ => absurd hi (Nat.not_lt_zero _)) fun H' z => by
      rw [z]
      exact q (.lst []) _ _ (Fz.of (s1.trans (Same.new hD))) ⟨[], rfl, rfl, rfl, (fun i y z => by cases z), (FY (F0 H0 m) N).st _ _ (Same.new hD) a1⟩ ⟨D0, [], rfl, upd_same, rfl⟩
  have pg := pg hne
  -- what holds behind i items
  let Fi : List D → Fr m := fun ys => ⟨fun H' => Kp m H0 H' ∧ fzL ys = true ∧ H' p = some (.lst xs) ∧ DtL K H' src xs ∧ ∃ acc, H' D0 = some (.lst acc) ∧ DtL K H' ys acc, fun H2 H3 f k h => ⟨h.1.trans k, h.2.1, k _ _ pa pg h.2.2.1, h.2.2.2.1.fzm f _ _ hsf, let ⟨acc, e1, e2⟩ := h.2.2.2.2; ⟨acc, k _ _ da dg e1, e2.fzm f _ _ h.2.1⟩⟩⟩
  refine lc_it (walk_list (K := K) (a := p) (xs := xs)) (fun i H' => Fz H1 H' ∧ ∃ ys, ys.length = i ∧ (∀ j y, ys[j]? = some y → Pe j y) ∧ (FY (Fi ys) (N + i)).p H') ?_ ?_ ?_ ?_
  · refine ⟨Fz.of (Same.new hD), [], rfl, (fun j y z => by cases z), ⟨a1.1.trans (Kp.of (Same.new hD)), rfl, Same.new hD _ _ ep, hx.mono (Same.new hD), [], upd_same, rfl⟩, a1.2.st (Same.new hD)⟩
  · rintro i H' _ ⟨_, ys, _, _, f, _⟩
    exact SqL.of f.2.2.1
  · rintro i x H' H2 hi ⟨f1, ys, ly, hy, f⟩ z
    obtain ⟨e2, h4⟩ := z
    subst e2
    obtain ⟨d, h5, h6⟩ := f.1.2.2.2.1.back h4
    obtain ⟨ok, hse⟩ := hs i d h5
    have e3 : Slots K H2 (L2.wipe σ vs) (wipeG Γ vs) := (Slots.rel (L := relF K) e hg2 (Fz.trans (Fz.of s1) f1)).wipe vs
    refine hg d x _ H2 (wipeG Γ vs) _ ok h6 e3 fun σ2 e4 l3 k3 => ⟨?_, ?_⟩
    · rw [← wipe_twice σ vs]
      exact wipe_congr l3 fun i hi => k3 i fun z => hi (hj i z)
    · refine et_yes (K := K) (A := Hy.tt) σ2 H2 trivial e4 _ fun H3 s3 => ?_
      rw [if_pos rfl]
      refine hse (Fi ys) σ2 H3 ((FY (Fi ys) (N + i)).st _ _ s3 f) (e4.mono s3) _ fun y u H4 r4 ⟨hp, f4⟩ hu => ?_
      obtain ⟨⟨k4, fy, ep4, hx4, acc, eD, hacc⟩, m4⟩ := id f4
      have fzu : Fz H4 (upd H4 D0 (.lst (acc ++ [u]))) := fz_upd fun zs z => by rw [eD] at z; cases z
      refine ⟨acc, eD, ?_, Fz.trans f1 (Fz.trans (Fz.of s3) (Fz.trans r4 fzu)), ys ++ [y], by rw [List.length_append, ly]; rfl, ?_, ⟨kp_upd k4 hD0, ?_, ?_, hx4.fzm fzu _ _ hsf, acc ++ [u], upd_same, (hacc.fzm fzu _ _ fy).app ⟨u, [], rfl, hu.fzm fzu _ _ (hpf i y hp), rfl⟩⟩, m4.upd da dg dc⟩
      · rw [hacc.length, ly]
        rw [lx] at hi
        exact Nat.lt_of_lt_of_le hi (small hn)
      · intro j w hw
        by_cases hjl : j < ys.length
        · rw [List.getElem?_append_left hjl] at hw
          exact hy j w hw
        · rw [List.getElem?_append_right (by omega)] at hw
          have : j = i := by
            have := (List.getElem?_eq_some_iff.mp hw).1
            have : j - ys.length < 1 := this
            omega
          subst this
          rw [ly, Nat.sub_self] at hw
          have e9 : y = w := Option.some.inj hw
          rw [← e9]
          exact hp
      · rw [fzL_app, fy]
        show (true && (y.fz && true)) = true
        rw [hpf i y hp]
        rfl
      · rw [upd_ne pD]
        exact ep4
  · rintro H' ⟨f1, ys, ly, hy, ⟨k4, fy, ep4, hx4, acc, eD, hacc⟩, m4⟩
    rw [lx] at ly m4
    exact q (.lst ys) _ H' (Fz.trans (Fz.of s1) f1) ⟨ys, rfl, ly, fy, hy, k4, m4⟩ ⟨D0, acc, rfl, eD, hacc⟩
/-- tuple(list), the list drawn -/
theorem se_tupL {B : D → Hp → Prop} (h : Se (relF K) A te Γ (fun d H => ∃ l, d = .lst l ∧ ∀ H', Same H H' → B (.tup l) H')) :
    Se (relF K) A (tCB (fun xs H Q => ∃ p ys, xs = [.ref p] ∧ ((SqL K H p ys ∧ ∀ l, H l = none → Q (.ref l) (upd H l (.tup ys))) ∨ (SqT K H p ys ∧ Q (.ref p) H))) (tCons te tNil)) Γ B := fun σ H a e Q q =>
  h σ H a e _ fun d v H1 r1 ⟨l, ed, hb⟩ hv => by
    subst ed
    obtain ⟨p, xs, e2, h2, h3⟩ := hv
    subst e2
    exact ⟨p, xs, rfl, .inl ⟨SqL.of h2, fun b hb' => q (.tup l) _ _ (Fz.trans r1 (Fz.of (Same.new hb'))) (hb _ (Same.new hb')) ⟨b, xs, rfl, upd_same, h3.mono (Same.new hb')⟩⟩⟩
theorem ss_parE {i j : Nat} {B2 : D → Hp → Prop} (h1 : Ev K Y ta Γ x) (hx : x.fz = true) (h2 : Se (relF K) Y.p tb Γ B2) (g : okG (relF K) Γ = true) (hn : ∀ y H, B2 y H → Nn ((Γ.set i (some x)).set j (some y)) H) :
    Ss (relF K) Y.p (tPar i j (tCons ta (tCons tb tNil))) Γ Nn R := fun σ H E a e k _ => h1 σ H a e _ fun v H1 s1 hv => h2 σ H1 (Y.st _ _ s1 a) (e.mono s1) _ fun y u H2 r2 b2 hu =>
  ⟨v, u, rfl, k _ _ H2 (Fz.trans (Fz.of s1) r2) (hn y H2 b2) (((Slots.rel (L := relF K) (e.mono s1) g r2).set (hv.fzm r2 _ _ hx)).set hu)⟩
theorem ss_par3E {i j n : Nat} {tc : TE} {B1 B2 B3 : D → Hp → Prop} (h1 : Se (relF K) A ta Γ B1) (g : okG (relF K) Γ = true) (hx1 : ∀ x H, B1 x H → x.fz = true) (h2 : ∀ x, Se (relF K) (B1 x) tb Γ (B2 )) (hx2 : ∀ x H, B2 x H → x.fz = true) (h3 : ∀ x, Se (relF K) (B2 x) tc Γ B3) (F1 F2 : D → Prop)
    (e1 : ∀ x H, B1 x H → F1 x) (e2 : ∀ x H, B2 x H → F2 x) (hn : ∀ x y z H, F1 x → F2 y → B3 z H → Nn (((Γ.set i (some x)).set j (some y)).set n (some z)) H) :
    Ss (relF K) A (tPar3 i j n (tCons ta (tCons tb (tCons tc tNil)))) Γ Nn R := fun σ H E a e k _ => h1 σ H a e _ fun x v H1 r1 b1 hv => h2 x σ H1 b1 (Slots.rel (L := relF K) e g r1) _ fun y u H2 r2 b2 hu =>
  h3 y σ H2 b2 (Slots.rel (L := relF K) e g (Fz.trans r1 r2)) _ fun z w H3 r3 b3 hw =>
  ⟨v, u, w, rfl, k _ _ H3 (Fz.trans r1 (Fz.trans r2 r3)) (hn x y z H3 (e1 x H1 b1) (e2 y H2 b2) b3) ((((Slots.rel (L := relF K) e g (Fz.trans r1 (Fz.trans r2 r3))).set (hv.fzm (Fz.trans r2 r3) _ _ (hx1 x H1 b1))).set (hu.fzm r3 _ _ (hx2 y H2 b2))).set hw)⟩
theorem se_if {b : Bool} {B : D → Hp → Prop} (hc : Et K Y tt Γ b) (h1 : b = true → Se (relF K) Y.p ta Γ B) (h2 : b = false → Se (relF K) Y.p tb Γ B) : Se (relF K) Y.p (tIf tt ta tb) Γ B := fun σ H a e Q q => hc σ H a e _ fun H1 s1 => by
  have q' := fun d v H' (r : Fz H1 H') (x : B d H') h => q d v H' (Fz.trans (Fz.of s1) r) x h
  cases b with
  | true => exact h1 rfl σ H1 (Y.st _ _ s1 a) (e.mono s1) Q q'
  | false => exact h2 rfl σ H1 (Y.st _ _ s1 a) (e.mono s1) Q q'
theorem ss_unpE {is : List Nat} {n : Nat} {B : D → Hp → Prop} (h : Se (relF K) A te Γ B) (g : okG (relF K) Γ = true) (ht : ∀ d H, B d H → d.isT = true ∧ is.length = d.items.length ∧ d.items.length = n ∧ Nn (setAll Γ is d.items) H) : Ss (relF K) A (tAsg te (gTup K n (gNs is))) Γ Nn R := fun σ H E a e k _ =>
  h σ H a e _ fun d v H1 r1 b1 hv => by
    obtain ⟨t1, t2, t3, t4⟩ := ht d H1 b1
    obtain ⟨b, xs, e1, h2, h3⟩ := hv.seq t1
    exact ⟨b, xs, e1, h2, h3.length.trans t3, gNs_run is t2 h3 (Slots.rel (L := relF K) e g r1) fun σ' e' => k _ σ' H1 r1 t4 e'⟩
theorem FY.le {H : Hp} (p : (FY F N).p H) (h : N ≤ N') : (FY F N').p H := ⟨p.1, p.2.le h⟩
end
end KD

/-! part K12 -/
set_option Elab.async false
set_option linter.all false
set_option maxRecDepth 100000
set_option maxHeartbeats 4000000
namespace KH
open PySem PySem.Spec PyProof.Rows L2 KD
section
variable {P : Program} {w : World} {K : PySem.W.Frag} {mg : Str → Option Value} {base : Heap}
/-! numbers drawn -/
def mixI (x n : Int) : Int := (x * (1 + 2 * n) * 48271 % 2147483647 + 7919 * n * n + 104729 * n) * 69621 % 2147483629 / 7
theorem mixI_lt (x n : Int) : 0 ≤ mixI x n ∧ mixI x n < 2147483647 := by
  unfold mixI
  omega
def sp_mixed (K : PySem.W.Frag) : Sp := spR K fun ds d => ∃ x n : Int, ds = [.int x, .int n] ∧ d = .int (mixI x n) ∧ (0 ≤ x ∧ x < 2 ^ 40) ∧ 0 ≤ n ∧ n < 2 ^ 20
theorem sc_mixed : FnScope ["_law_cell", "_law_n", "_law_blend"] ["_law_cell", "_law_n"] (defScope s_mixed) := ⟨rfl, rfl, rfl, by decide +kernel, rfl, by decide +kernel, by decide +kernel⟩
theorem cal_mixed (T : Tx K mg) : C8.Cal P w K mg base 1 "_law_mixed" (sp_mixed K) [] :=
  cal_of T.d_mixed T.g_mixed sc_mixed (fun _ _ _ _ _ _ us hl => match us, hl with | [_, _], _ => rfl)
    (spR_len fun ds d ⟨_, _, e, _⟩ => by rw [e]; rfl) fun cdv A outer s H E hr => ⟨_, (pss_cons (ps_set (i := 2) sc_mixed.nd rfl (Or.inl rfl) (pe_op op_add (pe_op op_add (pe_op op_mod (pe_callTy call_int1 (by rfl) T.b_int (by decide +kernel) (pa_cons (pe_op op_mul (pe_op op_mul (pv 0) (pe_op op_add pe_int (pe_op op_mul pe_int (pv 1)))) pe_int) pa_nil)) pe_int) (pe_op op_mul (pe_op op_mul pe_int (pv 1)) (pv 1))) (pe_op op_mul pe_int (pv 1)))) (pss_one (ps_ret (pe_op op_fdiv (pe_op op_mod (pe_callTy call_int1 (by rfl) T.b_int (by decide +kernel) (pa_cons (pe_op op_mul (pv 2) pe_int) pa_nil)) pe_int) pe_int)))), spR_by _ <| by
      rintro ds d ⟨x, n, rfl, rfl, ⟨x0, x1⟩, n0, n1⟩
      clear hr
      show Rn _ _ _ [_, _, _] _; refine (rn_seq (Γ1 := [_, _, _]) (rn_set (ev_add (ev_add (ev_rI (ev_intI (ea_cons (ev_rI (ev_rI (ev_var rfl) (ev_add ev_int (ev_rI ev_int (ev_var rfl) ?_)) ?_) ev_int ?_) ea_nil)) ev_int ?_) (ev_rI (ev_rI ev_int (ev_var rfl) ?_) (ev_var rfl) ?_)) (ev_rI ev_int (ev_var rfl) ?_))) (rn_ret (ev_as (ev_rI (ev_rI (ev_intI (ea_cons (ev_rI (ev_var rfl) ev_int ?_) ea_nil)) ev_int ?_) ev_int ?_) ?_)))
      all_goals first
        | exact .inl ⟨by omega, by omega⟩
        | exact .inr ⟨by decide, by decide⟩
        | exact (by decide : (0 : Int) < 2147483647)
        | exact (by decide : (0 : Int) < 2147483629)
        | exact ⟨by decide, by decide⟩
        | rfl⟩
section
variable {m : Ad} {k N : Nat} {cs gs : List Int} {H0 : Hp} {Γ : Ga} {ta tb tv te : TE} {Y : Hy} {l : List D} {b : Addr} {L : Rel K} {Nn : Ga → Hp → Prop} {R : D → Hp → Prop} {t : TS} {d : D}
def XY (H0 : Hp) (m : Ad) (k : Nat) (cs gs : List Int) : Hy := ⟨fun H => Kp m H0 H ∧ MX m k cs gs H, fun _ _ s h => ⟨h.1.trans (Kp.of s), h.2.st s⟩⟩
theorem ss_ex {ι : Type} {A : ι → Hp → Prop} (h : ∀ i, Ss L (A i) t Γ Nn R) : Ss L (fun H => ∃ i, A i H) t Γ Nn R := fun σ H E a => h a.choose σ H E a.choose_spec
theorem ev_lstA (h : Ev K Y te Γ (.adr b)) (hb : ∀ H, Y.p H → Dt K H (.lst l) (.ref b)) : Ev K Y te Γ (.lst l) := fun σ H p e Q q => h σ H p e Q fun v H1 s1 hv => q v H1 s1 (by
  have e1 : v = .ref b := hv
  rw [e1]
  exact hb H1 (Y.st _ _ s1 p))
theorem ev_mg {nm : Str} {v : V} (ho : Ev K (XY H0 m k cs gs) ta Γ (.adr m.a)) (hv : valV (mKV m.c m.g k) (.inr nm) = some v) (hd : ∀ H, Dt K H d v) : Ev K (XY H0 m k cs gs) (tDGet ta (tC (.str nm))) Γ d := fun σ H p e Q q =>
  ho σ H p e _ fun x H1 s1 h1 => ⟨m.a, v, h1, hv ▸ DGet.k (k := .inr nm) ((XY H0 m k cs gs).st _ _ s1 p).2.d, q v H1 s1 (hd H1)⟩
theorem kne1 : ¬ ((.inr ("cells" : Str) : Key) = .inr ("great" : Str)) := by decide +kernel
theorem kne2 : ¬ ((.inr ("cells" : Str) : Key) = .inr ("spot" : Str)) := by decide +kernel
theorem kne3 : ¬ ((.inr ("great" : Str) : Key) = .inr ("spot" : Str)) := by decide +kernel
theorem ixN_at {n j : Nat} (hj : j < n) : ixN n (j : Int) = some j := by
  unfold ixN
  rw [if_pos (by omega), if_pos (by omega), Int.toNat_natCast]
theorem mv_cells (c g : Addr) (k : Int) : valV (mKV c g k) (.inr ("cells" : Str)) = some (.ref c) := valV_pos rfl
theorem mv_great (c g : Addr) (k : Int) : valV (mKV c g k) (.inr ("great" : Str)) = some (.ref g) := (valV_neg kne1).trans (valV_pos rfl)
theorem mv_spot (c g : Addr) (k : Int) : valV (mKV c g k) (.inr ("spot" : Str)) = some (.int k) := (valV_neg kne2).trans ((valV_neg kne3).trans (valV_pos rfl))
theorem put_spot (c g : Addr) (k j : Int) : putK (mKV c g k) (.inr ("spot" : Str)) (.int j) = mKV c g j := by
  unfold putK
  have h : ((mKV c g k).any fun kv => decide (kv.1 = .inr ("spot" : Str))) = true := by rw [valV_any, mv_spot]; rfl
  rw [if_pos h]
  unfold mKV
  rw [List.map_cons, List.map_cons, List.map_cons, List.map_nil, if_neg kne2, if_neg kne3, if_pos rfl]
theorem kp_updA {H : Hp} {o : HO} (h : Kp m H0 H) : Kp m H0 (upd H m.a o) := fun c o' h1 h2 z => by
  rw [upd_ne h1]
  exact h c o' h1 h2 z
theorem kp_updG {H : Hp} {o : HO} (h : Kp m H0 H) : Kp m H0 (upd H m.g o) := fun c o' h1 h2 z => by
  rw [upd_ne h2]
  exact h c o' h1 h2 z
theorem ss_mput {k' : Nat} (ho : Ev K (XY H0 m k cs gs) ta Γ (.adr m.a)) (hv : Ev K (XY H0 m k cs gs) tv Γ (.int k')) (g : okG (relF K) Γ = true) :
    Ss (relF K) (XY H0 m k cs gs).p (sDPut ta (tC (.str "spot")) tv) Γ (fun G H => G = Γ ∧ (XY H0 m k' cs gs).p H) R := fun σ H E p e q _ =>
  hv σ H p e _ fun y H1 s1 h1 => ho σ H1 ((XY H0 m k cs gs).st _ _ s1 p) (e.mono s1) _ fun x H2 s2 h2 => by
    obtain ⟨kp, x2⟩ := (XY H0 m k cs gs).st _ _ (s1.trans s2) p
    have e1 : y = .int k' := h1
    subst e1
    have fz : Fz H2 (upd H2 m.a (.dK (mKV m.c m.g k'))) := fz_upd fun zs z => by rw [x2.d] at z; cases z
    have dp := DPut.k (k := .inr ("spot" : Str)) (v := .int k') x2.d (by show 3 < sizeLine; decide)
    rw [put_spot] at dp
    exact ⟨m.a, _, h2, dp, q Γ σ _ (Fz.trans (Fz.of (s1.trans s2)) fz) ⟨rfl, kp_updA kp, upd_same, x2.ne, by rw [upd_ne x2.nca]; exact x2.c, x2.n, x2.b, by rw [upd_ne x2.nga]; exact x2.g, x2.s⟩ (Slots.rel (L := relF K) (e.mono (s1.trans s2)) g fz)⟩
theorem dt_ints {H : Hp} : ∀ xs : List Int, DtL K H (xs.map D.int) (xs.map V.int)
  | [] => rfl
  | x :: xs => ⟨.int x, xs.map V.int, rfl, rfl, dt_ints xs⟩
theorem pok_ints (xs : List Int) : pokL (xs.map D.int) = true ∧ depL (xs.map D.int) ≤ 63 := ⟨pokL_mem fun d hd => by
  obtain ⟨x, _, e⟩ := List.mem_map.mp hd
  rw [← e]; rfl, depL_le fun d hd => by
  obtain ⟨x, _, e⟩ := List.mem_map.mp hd
  rw [← e]; exact Nat.zero_le _⟩
theorem ev_gr (h : Ev K (XY H0 m k cs gs) te Γ (.adr m.g)) : Ev K (XY H0 m k cs gs) te Γ (.lst (gs.map D.int)) := ev_lstA h fun H p => ⟨m.g, _, rfl, p.2.g, dt_ints gs⟩
theorem ev_ce (h : Ev K (XY H0 m k cs gs) te Γ (.adr m.c)) : Ev K (XY H0 m k cs gs) te Γ (.lst (cs.map D.int)) := ev_lstA h fun H p => ⟨m.c, _, rfl, p.2.c, dt_ints cs⟩
theorem atI_int {xs : List Int} {i : Nat} (h : i < xs.length) : atI (xs.map D.int) (i : Int) = some (.int xs[i]) := by
  unfold atI
  rw [ixN_at (by rw [List.length_map]; exact h)]
  show (xs.map D.int)[i]? = _
  rw [List.getElem?_map, List.getElem?_eq_getElem h]
  rfl
theorem ss_gset {h : Nat} {y : Int} {ti to : TE} (hv : Ev K (XY H0 m k cs gs) tv Γ (.int y)) (ho : Ev K (XY H0 m k cs gs) to Γ (.adr m.g)) (hi : Ev K (XY H0 m k cs gs) ti Γ (.int h)) (hl : h < gs.length) (g : okG (relF K) Γ = true) :
    Ss (relF K) (XY H0 m k cs gs).p (tAsg tv (gSub to ti rSetL)) Γ (fun G H => G = Γ ∧ (XY H0 m k cs (gs.set h y)).p H) R := fun σ H E p e q _ =>
  hv σ H p e _ fun v H1 s1 h1 => ho σ H1 ((XY H0 m k cs gs).st _ _ s1 p) (e.mono s1) _ fun x H2 s2 h2 => hi σ H2 ((XY H0 m k cs gs).st _ _ (s1.trans s2) p) (e.mono (s1.trans s2)) _ fun i H3 s3 h3 => by
    obtain ⟨kp, x2⟩ := (XY H0 m k cs gs).st _ _ ((s1.trans s2).trans s3) p
    have e1 : v = .int y := h1
    subst e1
    have fz : Fz H3 (upd H3 m.g (.lst ((gs.map V.int).set h (.int y)))) := fz_upd fun zs z => by rw [x2.g] at z; cases z
    refine ⟨m.g, gs.map V.int, (h : Int), h, h2, h3, x2.g, ixN_at (by rw [List.length_map]; exact hl), q Γ σ _ (Fz.trans (Fz.of ((s1.trans s2).trans s3)) fz) ⟨rfl, kp_updG kp, ?_, x2.ne, ?_, x2.n, x2.b, ?_, by rw [List.length_set]; exact x2.s⟩ (Slots.rel (L := relF K) (e.mono ((s1.trans s2).trans s3)) g fz)⟩
    · rw [upd_ne (fun z => x2.nga z.symm)]; exact x2.d
    · rw [upd_ne x2.ne]; exact x2.c
    · rw [upd_same, List.map_set]
end
def Drawn (L : Nat) (d : D) : Prop := ∃ j : Nat, j < L ∧ d = .int (j : Int)
def sp_draw (K : PySem.W.Frag) : Sp := spM K 1 fun es Po => ∃ L : Nat, 0 < L ∧ L < 1000000 ∧ es = [.int (L : Int)] ∧ Po = Drawn L
theorem sc_draw : FnScope ["_law_m", "_law_limit", "_law_n", "_law_lot", "_law_here", "_law_cell"] ["_law_m", "_law_limit"] (defScope s_draw) := ⟨rfl, rfl, rfl, by decide +kernel, rfl, by decide +kernel, by decide +kernel⟩
theorem cal_draw (T : Tx K mg) : C8.Cal P w K mg base 2 "_law_draw" (sp_draw K) [] :=
  cal_of T.d_draw T.g_draw sc_draw (fun _ _ _ _ _ _ us hl => match us, hl with | [_, _], _ => rfl)
    (spM_len fun es Po ⟨_, _, _, e, _⟩ => by rw [e]; rfl) fun cdv A outer s H E hr => ⟨_, (pss_cons (ps_set (i := 2) sc_draw.nd rfl (Or.inl rfl) (pe_dget (hu_of hr) (pv 0) pe_str (fun _ _ => rfl))) (pss_cons (ps_dput (hu_of hr) (pv 0) pe_str (pe_op op_add (pv 2) pe_int) rfl) (pss_cons (ps_if (pt_cmpR (op_neD (hu64 hr)) (pe_dget (hu_of hr) (pv 0) pe_str (fun _ _ => rfl)) (pe_lst pa_nil) (nomark _)) (pss_cons (ps_set (i := 3) sc_draw.nd rfl (Or.inl rfl) (pe_dget (hu_of hr) (pv 0) pe_str (fun _ _ => rfl))) (pss_cons (ps_set (i := 4) sc_draw.nd rfl (Or.inl rfl) (pe_op op_mod (pe_callTy call_int1 (by rfl) T.b_int (by decide +kernel) (pa_cons (pv 2) pa_nil)) (pe_callB call_len (by rfl) T.b_len PySem.boot_len (pa_cons (pv 3) pa_nil)))) (pss_cons (ps_set (i := 5) sc_draw.nd rfl (Or.inl rfl) (pe_ix ix_list (pv 3) (pv 4) (fun _ _ => rfl))) (pss_one (ps_if (pt_cmpR op_gt (pv 5) pe_int (nomark _)) (pss_cons (ps_asg (pe_op op_fdiv (pv 5) (pv 1)) (pg_sub (pv 3) (pv 4) set_list)) (pss_one (ps_ret (pe_op op_mod (pe_callTy call_int1 (by rfl) T.b_int (by decide +kernel) (pa_cons (pv 5) pa_nil)) (pv 1))))) pss_nil))))) pss_nil) (pss_cons (ps_set (i := 3) sc_draw.nd rfl (Or.inl rfl) (pe_dget (hu_of hr) (pv 0) pe_str (fun _ _ => rfl))) (pss_one (ps_ret (pe_op op_mod (pe_callTy call_int1 (by rfl) T.b_int (by decide +kernel) (pa_cons (C8.pe_c (cal_mixed T) hr (by decide) (by rfl) (pa_cons (C8.pe_c (cal_mixed T) hr (by decide) (by rfl) (pa_cons (pe_op op_add (pe_ix ix_list (pv 3) (pe_op op_mod (pe_callTy call_int1 (by rfl) T.b_int (by decide +kernel) (pa_cons (pv 2) pa_nil)) pe_int) (fun _ _ => rfl)) (pe_op op_mul pe_int (pe_op op_fdiv (pv 2) pe_int))) (pa_cons (pv 2) pa_nil))) (pa_cons (pe_op op_add (pv 2) pe_int) pa_nil))) pa_nil)) (pv 1)))))))), spM_by _ <| by
      rintro m N es Po ⟨L, h0, h1, rfl, rfl⟩ hN hm
      clear hr
      show Ss _ _ _ [some (.adr m.a), some (.int (L : Int)), none, none, none, none] _ _
      refine ss_mono (A := fun H' => ∃ i : Nat × List Int × List Int, i.1 ≤ N ∧ (XY H m i.1 i.2.1 i.2.2).p H') (N := fun _ _ => False) (R := fun d H' => Drawn L d ∧ ∃ i : Nat × List Int × List Int, i.1 ≤ N + 1 ∧ (XY H m i.1 i.2.1 i.2.2).p H') (ss_ex fun ⟨k, cs, gs⟩ => ss_fact fun hk => ?_)
        (fun H' ⟨f, k, cs, gs, hk, x⟩ => ⟨(k, cs, gs), hk, f, x⟩) (fun _ _ h => h.elim) (fun d H' ⟨hd, ⟨k, cs, gs⟩, hk, f, x⟩ => ⟨hd, f, k, cs, gs, hk, x⟩)
      have hk' : k ≤ N := hk
      show Ss _ (XY H m k cs gs).p _ _ _ _
      -- what comes behind a remainder
      have fin : ∀ z : Int, Drawn L (.int (z % (L : Int))) := fun z => by
        have a1 := Int.emod_nonneg z (b := (L : Int)) (by omega)
        have a2 := Int.emod_lt_of_pos z (b := (L : Int)) (by omega)
        exact ⟨(z % (L : Int)).toNat, by omega, by congr 1; omega⟩
      have hLp : (0 : Int) < (L : Int) := by omega
      refine ss_to (ss_rn (Γ' := [some (.adr m.a), some (.int (L : Int)), some (.int (k : Int)), none, none, none]) (rn_set (ev_mg (ev_var rfl) (mv_spot _ _ _) (fun _ => rfl))) (fun H' h => ⟨rfl, h⟩)) ?_
      refine ss_to (ss_mput (k' := k + 1) (ev_var rfl) (ev_as (ev_add (ev_var rfl) ev_int) rfl) rfl) ?_
      refine ss_toE (ι := (Option D × Option D × Option D) × List Int) (Γi := fun i => [some (.adr m.a), some (.int (L : Int)), some (.int (k : Int)), i.1.1, i.1.2.1, i.1.2.2]) (Bi := fun i => (XY H m (k + 1) cs i.2).p)
        (ss_if (et_test (ev_neNil (ev_gr (ev_mg (ev_var rfl) (mv_great _ _ _) (fun _ => rfl))) (ev_lst ea_nil) (pok_ints gs))) (fun hg => ?_) (fun _ => ss_next fun H' h => ⟨((none, none, none), gs), rfl, h⟩)) (fun ⟨⟨o3, o4, o5⟩, gs'⟩ => ?_)
      · have gl : 0 < gs.length := by
          cases gs with
          | nil => cases hg
          | cons x r => exact Nat.succ_pos _
        refine ss_to (ss_rn (Γ' := [some (.adr m.a), some (.int (L : Int)), some (.int (k : Int)), some (.adr m.g), none, none]) (rn_set (ev_mg (ev_var rfl) (mv_great _ _ _) (fun _ => rfl))) (fun H' h => ⟨rfl, h⟩)) ?_
        have hmod : k % gs.length < gs.length := Nat.mod_lt _ gl
        refine ss_to (ss_rn (Γ' := [some (.adr m.a), some (.int (L : Int)), some (.int (k : Int)), some (.adr m.g), some (.int ((k % gs.length : Nat) : Int)), none]) (rn_set (ev_as (ev_rI (ev_intI (ea_cons (ev_var rfl) ea_nil)) (ev_lenL (ea_cons (ev_gr (ev_var rfl)) ea_nil)) ?_) ?_)) (fun H' h => ⟨rfl, h⟩)) ?_
        · rw [List.length_map]; omega
        · rw [List.length_map]; rfl
        refine ss_to (ss_rn (Γ' := [some (.adr m.a), some (.int (L : Int)), some (.int (k : Int)), some (.adr m.g), some (.int ((k % gs.length : Nat) : Int)), some (.int gs[k % gs.length])]) (rn_set (ev_ixL (ev_gr (ev_var rfl)) (ev_var rfl) (atI_int hmod))) (fun H' h => ⟨rfl, h⟩)) ?_
        refine ss_if (et_test (ev_cmpI (ev_var rfl) ev_int)) (fun _ => ?_) (fun _ => ss_next fun H' h => ⟨((_, _, _), gs), rfl, h⟩)
        refine ss_to (ss_gset (h := k % gs.length) (ev_rI (ev_var rfl) (ev_var rfl) ⟨hLp, by omega⟩) (ev_var rfl) (ev_var rfl) hmod rfl) ?_
        exact ss_rt (rn_ret (ev_rI (ev_intI (ea_cons (ev_var rfl) ea_nil)) (ev_var rfl) hLp)) (fun H' h => ⟨fin _, (k + 1, cs, _), Nat.succ_le_succ hk', h⟩)
      · show Ss _ (XY H m (k + 1) cs gs').p _ [some (.adr m.a), some (.int (L : Int)), some (.int (k : Int)), o3, o4, o5] _ _
        refine ss_to (ss_rn (Γ' := [some (.adr m.a), some (.int (L : Int)), some (.int (k : Int)), some (.adr m.c), o4, o5]) (rn_set (ev_mg (ev_var rfl) (mv_cells _ _ _) (fun _ => rfl))) (fun H' h => ⟨rfl, h⟩)) ?_
        by_cases hcs : cs.length = 64 ∧ ∀ x ∈ cs, 0 ≤ x ∧ x < 2147483647
        · have hmod : k % 64 < cs.length := by rw [hcs.1]; exact Nat.mod_lt _ (by decide)
          have hc := hcs.2 _ (List.getElem_mem hmod)
          refine ss_rt (rn_ret (ev_rI (ev_intI (ea_cons (ev_callR rfl (ea_cons (ev_callR rfl (ea_cons (ev_add (ev_ixL (ev_ce (ev_var rfl)) (ev_as (ev_rI (ev_intI (ea_cons (ev_var rfl) ea_nil)) ev_int ?_) (d' := .int ((k % 64 : Nat) : Int)) rfl) (atI_int hmod)) (ev_rI ev_int (ev_rI (ev_var rfl) ev_int ?_) ?_)) (ea_cons (ev_var rfl) ea_nil)) ⟨_, _, rfl, rfl, ?_, ?_, ?_⟩) (ea_cons (ev_add (ev_var rfl) ev_int) ea_nil)) ⟨_, _, rfl, rfl, ?_, ?_, ?_⟩) ea_nil)) (ev_var rfl) hLp)) (fun H' h => ⟨fin _, (k + 1, cs, gs'), Nat.succ_le_succ hk', h⟩)
          · exact (by decide : (0 : Int) < 64)
          · exact ⟨by decide, by decide⟩
          · exact .inl ⟨by decide, by decide⟩
          · omega
          · omega
          · omega
          · have := mixI_lt (cs[k % 64] + 31 * ((k : Int) / 64)) k
            omega
          · omega
          · omega
        · exact fun σ H1 E p => absurd ⟨p.2.n, p.2.b⟩ hcs⟩
end
end KH

/-! part K13 -/
set_option Elab.async false
set_option linter.all false
set_option maxRecDepth 100000
set_option maxHeartbeats 4000000
namespace KH
open PySem PySem.Spec PyProof.Rows L2 KD
section
variable {P : Program} {w : World} {K : PySem.W.Frag} {mg : Str → Option Value} {base : Heap}
section
variable {m : Ad} {F : Fr m} {N L : Nat} {Γ : Ga} {ta : TE} {z c : Int} {l : List Nat} {s : Str}
/-- a drawn number compared with a number -/
theorem se_drawEq (L : Nat) (hm : Ev K (FY F N) ta Γ (.adr m.a)) (hz : z = (L : Int)) (h0 : 0 < L) (h1 : L < 1000000) (hN : N + 1 ≤ 100000) (g : okG (relF K) Γ = true) :
    Se (relF K) (FY F N).p (tOp rEq (tCall (sp_draw K) [] C8.E0 (tCons ta (tCons (tC (.int z)) tNil))) (tC (.int c))) Γ (fun d H => ∃ b, d = .bl b ∧ (FY F (N + 1)).p H) :=
  se_opc (y := .int c) (se_callM rfl (ea_cons hm (ea_cons (ev_c fun _ => by rw [hz]; rfl) ea_nil)) ⟨L, h0, h1, rfl, rfl⟩ hN) g (fun _ => rfl) fun x H ⟨⟨j, _, ex⟩, p⟩ => by
    subst ex
    exact ⟨_, fun Y ta tb ha hb => ev_eqI ha hb, fun H' s => ⟨_, rfl, (FY F (N + 1)).st _ _ s p⟩⟩
theorem atI_S {l : List Nat} {j : Nat} (h : j < l.length) : atI (S l).cps.toList (j : Int) = some l[j] := by
  unfold atI
  have e : (S l).cps.toList = l := rfl
  rw [e, ixN_at h]
  exact List.getElem?_eq_getElem h
/-- a drawn sign of a text -/
theorem se_drawS (l : List Nat) (hm : Ev K (FY F N) ta Γ (.adr m.a)) (hs : s = S l) (hz : z = (l.length : Int)) (h0 : 0 < l.length) (h1 : l.length < 1000) (hN : N + 1 ≤ 100000) :
    Se (relF K) (FY F N).p (tOp rIxS (tC (.str s)) (tCall (sp_draw K) [] C8.E0 (tCons ta (tCons (tC (.int z)) tNil)))) Γ (fun d H => ∃ c, c ∈ l ∧ d = .str (S [c]) ∧ (FY F (N + 1)).p H) := by
  subst hs
  refine se_opR (x := .str (S l)) ev_str rfl (se_callM rfl (ea_cons hm (ea_cons (ev_c fun _ => by rw [hz]; rfl) ea_nil)) ⟨l.length, h0, by omega, rfl, rfl⟩ hN) fun y H ⟨⟨j, hj, ey⟩, p⟩ => ?_
  subst ey
  exact ⟨_, .str (S [l[j]]), fun _ h => h, fun Y ta tb ha hb => ev_ixS ha hb (by rw [S_len]; exact small (by omega)) (atI_S hj), fun H' s => ⟨l[j], List.getElem_mem hj, rfl, (FY F (N + 1)).st _ _ s p⟩⟩
end
def menusL : List D := [.tup [.str "always", .str "free", .str "never"], .tup [.str "always", .str "apart", .str "never"], .tup [.str "same", .str "none"], .tup [.str "own", .str "any", .str "never"], .tup [.str "own", .str "any", .str "one"], .tup [.str "never", .str "line"]]
def sp_menus (K : PySem.W.Frag) : Sp := spR K fun ds d => ds = [] ∧ d = .lst menusL
theorem sc_menus : FnScope ["_law_some"] [] (defScope s_menus) := ⟨rfl, rfl, rfl, by decide +kernel, rfl, by decide +kernel, by decide +kernel⟩
theorem cal_menus (T : Tx K mg) : C8.Cal P w K mg base 1 "_law_menus" (sp_menus K) [] :=
  cal_of T.d_menus T.g_menus sc_menus (fun _ _ _ _ _ _ us hl => match us, hl with | [], _ => rfl)
    (spR_len fun ds d ⟨e, _⟩ => by rw [e]; rfl) fun cdv A outer s H E hr => ⟨_, (pss_cons (ps_set (i := 0) sc_menus.nd rfl (Or.inl rfl) (pe_lst (pa_cons (pe_tup (pa_cons pe_str (pa_cons pe_str (pa_cons pe_str pa_nil)))) (pa_cons (pe_tup (pa_cons pe_str (pa_cons pe_str (pa_cons pe_str pa_nil)))) (pa_cons (pe_tup (pa_cons pe_str (pa_cons pe_str pa_nil))) (pa_cons (pe_tup (pa_cons pe_str (pa_cons pe_str (pa_cons pe_str pa_nil)))) pa_nil)))))) (pss_one (ps_ret (pe_op op_cat (pv 0) (pe_lst (pa_cons (pe_tup (pa_cons pe_str (pa_cons pe_str (pa_cons pe_str pa_nil)))) (pa_cons (pe_tup (pa_cons pe_str (pa_cons pe_str pa_nil))) pa_nil))))))), spR_by _ <| by
      rintro ds d ⟨rfl, rfl⟩
      show Rn _ _ _ [_] _; refine (rn_seq (Γ1 := [_]) (rn_set (ev_lst (ea_cons (ev_tup (ea_cons (ev_lit (l := [97, 108, 119, 97, 121, 115]) (by decide +kernel)) (ea_cons (ev_lit (l := [102, 114, 101, 101]) (by decide +kernel)) (ea_cons (ev_lit (l := [110, 101, 118, 101, 114]) (by decide +kernel)) ea_nil)))) (ea_cons (ev_tup (ea_cons (ev_lit (l := [97, 108, 119, 97, 121, 115]) (by decide +kernel)) (ea_cons (ev_lit (l := [97, 112, 97, 114, 116]) (by decide +kernel)) (ea_cons (ev_lit (l := [110, 101, 118, 101, 114]) (by decide +kernel)) ea_nil)))) (ea_cons (ev_tup (ea_cons (ev_lit (l := [115, 97, 109, 101]) (by decide +kernel)) (ea_cons (ev_lit (l := [110, 111, 110, 101]) (by decide +kernel)) ea_nil))) (ea_cons (ev_tup (ea_cons (ev_lit (l := [111, 119, 110]) (by decide +kernel)) (ea_cons (ev_lit (l := [97, 110, 121]) (by decide +kernel)) (ea_cons (ev_lit (l := [110, 101, 118, 101, 114]) (by decide +kernel)) ea_nil)))) ea_nil)))))) (rn_ret (ev_as (ev_cat (ev_var rfl) (ev_lst (ea_cons (ev_tup (ea_cons (ev_lit (l := [111, 119, 110]) (by decide +kernel)) (ea_cons (ev_lit (l := [97, 110, 121]) (by decide +kernel)) (ea_cons (ev_lit (l := [111, 110, 101]) (by decide +kernel)) ea_nil)))) (ea_cons (ev_tup (ea_cons (ev_lit (l := [110, 101, 118, 101, 114]) (by decide +kernel)) (ea_cons (ev_lit (l := [108, 105, 110, 101]) (by decide +kernel)) ea_nil))) ea_nil))) ?_) ?_)))
      all_goals first
        | rfl
        | (show 4 + 2 ≤ sizeLine; decide)⟩
def sp_book (K : PySem.W.Frag) : Sp := spM K 6 fun es Po => es = [] ∧ Po = fun d => ∃ B, d = bookD B
theorem isP {y : D} (h : y ∈ [D.str "always", .str "free", .str "never"]) : ∃ x, y = .str (nmP x) := by
  rcases List.mem_cons.mp h with e | h
  · exact ⟨.always, e⟩
  rcases List.mem_cons.mp h with e | h
  · exact ⟨.free, e⟩
  rcases List.mem_cons.mp h with e | h
  · exact ⟨.never, e⟩
  cases h
theorem isQ {y : D} (h : y ∈ [D.str "always", .str "apart", .str "never"]) : ∃ x, y = .str (nmQ x) := by
  rcases List.mem_cons.mp h with e | h
  · exact ⟨.always, e⟩
  rcases List.mem_cons.mp h with e | h
  · exact ⟨.apart, e⟩
  rcases List.mem_cons.mp h with e | h
  · exact ⟨.never, e⟩
  cases h
theorem isI {y : D} (h : y ∈ [D.str "same", .str "none"]) : ∃ x, y = .str (nmI x) := by
  rcases List.mem_cons.mp h with e | h
  · exact ⟨.same, e⟩
  rcases List.mem_cons.mp h with e | h
  · exact ⟨.none, e⟩
  cases h
theorem isO {y : D} (h : y ∈ [D.str "own", .str "any", .str "never"]) : ∃ x, y = .str (nmO x) := by
  rcases List.mem_cons.mp h with e | h
  · exact ⟨.own, e⟩
  rcases List.mem_cons.mp h with e | h
  · exact ⟨.any, e⟩
  rcases List.mem_cons.mp h with e | h
  · exact ⟨.never, e⟩
  cases h
theorem isBk {y : D} (h : y ∈ [D.str "own", .str "any", .str "one"]) : ∃ x, y = .str (nmB x) := by
  rcases List.mem_cons.mp h with e | h
  · exact ⟨.own, e⟩
  rcases List.mem_cons.mp h with e | h
  · exact ⟨.any, e⟩
  rcases List.mem_cons.mp h with e | h
  · exact ⟨.one, e⟩
  cases h
theorem isF {y : D} (h : y ∈ [D.str "never", .str "line"]) : ∃ x, y = .str (nmF x) := by
  rcases List.mem_cons.mp h with e | h
  · exact ⟨.never, e⟩
  rcases List.mem_cons.mp h with e | h
  · exact ⟨.line, e⟩
  cases h
def inMenu (i : Nat) (y : D) : Prop := ∃ d, menusL[i]? = some d ∧ y ∈ d.items
theorem menu_at {i : Nat} {d : D} (h : menusL[i]? = some d) : d ∈ menusL := List.mem_of_getElem? h
theorem menu_ok {d : D} (h : d ∈ menusL) : d.isT = true ∧ d.fz = true ∧ 0 < d.items.length ∧ d.items.length ≤ 3 ∧ ∀ y ∈ d.items, y.fz = true := by
  have key : ∀ d ∈ menusL, d.isT = true ∧ d.fz = true ∧ 0 < d.items.length ∧ d.items.length ≤ 3 ∧ (d.items.all D.fz) = true := by
    intro d h
    simp only [menusL, List.mem_cons, List.not_mem_nil, or_false] at h
    rcases h with e | e | e | e | e | e <;> subst e <;> exact ⟨rfl, rfl, by decide, by decide, rfl⟩
  obtain ⟨a, b, c, e, f⟩ := key d h
  exact ⟨a, b, c, e, fun y hy => List.all_eq_true.mp f y hy⟩
theorem book_of {ys : List D} (hl : ys.length = 6) (h : ∀ i y, ys[i]? = some y → inMenu i y) : ∃ B, D.tup ys = bookD B := by
  match ys, hl with
  | [y0, y1, y2, y3, y4, y5], _ =>
    obtain ⟨d0, e0, h0⟩ := h 0 y0 rfl
    obtain ⟨d1, e1, h1⟩ := h 1 y1 rfl
    obtain ⟨d2, e2, h2⟩ := h 2 y2 rfl
    obtain ⟨d3, e3, h3⟩ := h 3 y3 rfl
    obtain ⟨d4, e4, h4⟩ := h 4 y4 rfl
    obtain ⟨d5, e5, h5⟩ := h 5 y5 rfl
    cases e0; cases e1; cases e2; cases e3; cases e4; cases e5
    obtain ⟨b0, q0⟩ := isP h0
    obtain ⟨b1, q1⟩ := isQ h1
    obtain ⟨b2, q2⟩ := isI h2
    obtain ⟨b3, q3⟩ := isO h3
    obtain ⟨b4, q4⟩ := isBk h4
    obtain ⟨b5, q5⟩ := isF h5
    exact ⟨⟨b0, b1, b2, b3, b4, b5⟩, by rw [q0, q1, q2, q3, q4, q5]; rfl⟩
theorem atI_D {xs : List D} {i : Nat} (h : i < xs.length) : atI xs (i : Int) = some xs[i] := by
  unfold atI
  rw [ixN_at h]
  exact List.getElem?_eq_getElem h
theorem sc_book : FnScope ["_law_m", "_law_words"] ["_law_m"] (defScope s_book) := ⟨rfl, rfl, rfl, by decide +kernel, rfl, by decide +kernel, by decide +kernel⟩
theorem cal_book (T : Tx K mg) : C8.Cal P w K mg base 3 "_law_book" (sp_book K) [] :=
  cal_of T.d_book T.g_book sc_book (fun _ _ _ _ _ _ us hl => match us, hl with | [_], _ => rfl)
    (spM_len fun es Po ⟨e, _⟩ => by rw [e]; rfl) fun cdv A outer s H E hr => ⟨_, (pss_one (ps_ret (pe_callTy call_tuple_of (by rfl) T.b_tuple (by decide +kernel) (pa_cons (pe_lc (own := [("_law_words", 1)]) rfl sc_book.nd (pi_list (pe_c0 (cal_menus T) hr (by decide) (by rfl))) (blkOk_by (N := ["_law_m", "_law_words"]) (sc := defScope s_book) (by decide +kernel)) (fun _ _ _ _ _ => (pg_name (i := 1) sc_book.nd rfl (Or.inl rfl))) (fun _ _ _ _ _ => pts_nil) (fun _ _ _ _ _ => (pe_ix (ix_tupK (K := K) rfl) (pv 1) (C8.pe_c (cal_draw T) hr (by decide) (by rfl) (pa_cons (pv 0) (pa_cons (pe_callB (call_lenK (K := K) rfl) (by rfl) T.b_len PySem.boot_len (pa_cons (pv 1) pa_nil)) pa_nil))) (fun _ _ => rfl)))) pa_nil)))), spM_by _ <| by
      rintro m N es Po ⟨rfl, rfl⟩ hN hm
      clear hr
      show Ss _ _ _ [some (.adr m.a), none] _ _
      refine ss_ret (se_tupL (se_mono (se_lcE (src := menusL) (Pe := inMenu) (ev_callR rfl ea_nil ⟨rfl, rfl⟩) (tg_name 1) (by decide) rfl rfl (fun d h => (menu_ok (menu_at h)).1) (by decide) (fun i y ⟨d, h1, h2⟩ => (menu_ok (menu_at h1)).2.2.2.2 y h2) (fun i d hd => ⟨trivial, fun F' => ?_⟩) rfl) ?_))
      · obtain ⟨t1, t2, t3, t4, t5⟩ := menu_ok (menu_at hd)
        show Se _ _ _ [some (.adr m.a), some d] _
        have hi : i < 6 := (List.getElem?_eq_some_iff.mp hd).1
        refine se_opR (x := d) (ev_var rfl) t2 (se_callM rfl (ea_cons (ev_var rfl) (ea_cons (ev_lenT (ea_cons (ev_var rfl) ea_nil) t1) ea_nil)) ⟨d.items.length, t3, by omega, rfl, rfl⟩ (by omega)) fun y H' ⟨⟨j, hj, ey⟩, p⟩ => ?_
        subst ey
        exact ⟨d, d.items[j], fun _ h => h, fun Y ta tb ha hb => ev_ixT ha hb (atI_D hj) t1, fun H2 s => ⟨⟨d, hd, List.getElem_mem hj⟩, (FY F' _).st _ _ s p⟩⟩
      · rintro d H' ⟨ys, rfl, hl, hf, hp, p⟩
        obtain ⟨B, hB⟩ := book_of hl hp
        exact ⟨ys, rfl, fun H2 s => ⟨⟨B, hB⟩, (FY (F0 H m) (N + 6)).st _ _ s p⟩⟩⟩
def sp_manner (K : PySem.W.Frag) : Sp := spM K 3 fun es Po => es = [] ∧ Po = fun d => ∃ M, d = wayD M
theorem sc_manner : FnScope ["_law_m"] ["_law_m"] (defScope s_manner) := ⟨rfl, rfl, rfl, by decide +kernel, rfl, by decide +kernel, by decide +kernel⟩
theorem cal_manner (T : Tx K mg) : C8.Cal P w K mg base 3 "_law_manner" (sp_manner K) [] :=
  cal_of T.d_manner T.g_manner sc_manner (fun _ _ _ _ _ _ us hl => match us, hl with | [_], _ => rfl)
    (spM_len fun es Po ⟨e, _⟩ => by rw [e]; rfl) fun cdv A outer s H E hr => ⟨_, (pss_one (ps_ret (pe_tup (pa_cons (pe_cmpR op_eq (C8.pe_c (cal_draw T) hr (by decide) (by rfl) (pa_cons (pv 0) (pa_cons pe_int pa_nil))) pe_int (nomark _)) (pa_cons (pe_cmpR op_eq (C8.pe_c (cal_draw T) hr (by decide) (by rfl) (pa_cons (pv 0) (pa_cons pe_int pa_nil))) pe_int (nomark _)) (pa_cons (pe_cmpR op_eq (C8.pe_c (cal_draw T) hr (by decide) (by rfl) (pa_cons (pv 0) (pa_cons pe_int pa_nil))) pe_int (nomark _)) pa_nil)))))), spM_by _ <| by
      rintro m N es Po ⟨rfl, rfl⟩ hN hm
      clear hr
      show Ss _ _ _ [some (.adr m.a)] _ _
      refine ss_ret (se_mono (se_tup (B := fun ds H' => ∃ a b c, ds = [.bl a, .bl b, .bl c] ∧ (FY (F0 H m) (N + 3)).p H') ?_ (fun ds H' ⟨_, _, _, e, _⟩ => by rw [e]; show 3 ≤ 100000; decide) (fun ds H1 H2 s ⟨a, b, c, e, p⟩ => ⟨a, b, c, e, (FY (F0 H m) (N + 3)).st _ _ s p⟩)) (fun d H' ⟨ds, ed, a, b, c, e, p⟩ => ⟨⟨⟨a, b, c⟩, by rw [ed, e]; rfl⟩, p⟩))
      refine sa_cons (se_drawEq 2 (ev_var rfl) rfl (by decide) (by decide) (by omega) rfl) rfl (fun x H' ⟨b, e, _⟩ => by rw [e]; rfl) fun x1 => ?_
      refine fun σ H1 a e => ?_
      obtain ⟨b1, rfl, p1⟩ := a
      refine sa_cons (A := (FY (F0 H m) (N + 1)).p) (se_drawEq 3 (ev_var rfl) rfl (by decide) (by decide) (by omega) rfl) rfl (fun x H' ⟨b, e, _⟩ => by rw [e]; rfl) (fun x2 => ?_) σ H1 p1 e
      refine fun σ H1 a e => ?_
      obtain ⟨b2, rfl, p2⟩ := a
      refine sa_cons (A := (FY (F0 H m) (N + 2)).p) (se_drawEq 2 (ev_var rfl) rfl (by decide) (by decide) (by omega) rfl) rfl (fun x H' ⟨b, e, _⟩ => by rw [e]; rfl) (fun x3 => ?_) σ H1 p2 e
      exact sa_nil fun H' ⟨b3, e3, p3⟩ => ⟨b1, b2, b3, by rw [e3], p3⟩⟩
def sp_true_book (K : PySem.W.Frag) : Sp := spM K 241 fun es Po => ∃ M, es = [wayD M] ∧ Po = fun d => ∃ B, d = bookD B ∧ KM.isTrue B M = true
theorem pok_book (B : KM.Book) : (bookD B).pok = true ∧ (bookD B).dep ≤ 62 := by
  obtain ⟨p, q, i, o, b, f⟩ := B
  refine ⟨?_, by show 1 ≤ 62; decide⟩
  show (PyData.strOk (nmP p) && (PyData.strOk (nmQ q) && (PyData.strOk (nmI i) && (PyData.strOk (nmO o) && (PyData.strOk (nmB b) && (PyData.strOk (nmF f) && true)))))) = true
  have h1 : PyData.strOk (nmP p) = true := by cases p <;> decide +kernel
  have h2 : PyData.strOk (nmQ q) = true := by cases q <;> decide +kernel
  have h3 : PyData.strOk (nmI i) = true := by cases i <;> decide +kernel
  have h4 : PyData.strOk (nmO o) = true := by cases o <;> decide +kernel
  have h5 : PyData.strOk (nmB b) = true := by cases b <;> decide +kernel
  have h6 : PyData.strOk (nmF f) = true := by cases f <;> decide +kernel
  rw [h1, h2, h3, h4, h5, h6]
  rfl
theorem pok_books (bs : List KM.Book) : pokL (bs.map bookD) = true ∧ depL (bs.map bookD) ≤ 63 := ⟨pokL_mem fun d hd => by
  obtain ⟨x, _, e⟩ := List.mem_map.mp hd
  rw [← e]; exact (pok_book x).1, depL_le fun d hd => by
  obtain ⟨x, _, e⟩ := List.mem_map.mp hd
  rw [← e]; exact Nat.le_succ_of_le (pok_book x).2⟩
theorem true_never (M : KM.Way) : KM.isTrue ⟨.never, .never, .none, .own, .own, .never⟩ M = true := by
  obtain ⟨a, b, c⟩ := M
  cases a <;> cases b <;> cases c <;> rfl
theorem sc_true_book : FnScope ["_law_m", "_law_way", "_law_some", "_law_again", "_law_rules"] ["_law_m", "_law_way"] (defScope s_true_book) := ⟨rfl, rfl, rfl, by decide +kernel, rfl, by decide +kernel, by decide +kernel⟩
theorem cal_true_book (T : Tx K mg) : C8.Cal P w K mg base 4 "_law_true_book" (sp_true_book K) [] :=
  cal_of T.d_true_book T.g_true_book sc_true_book (fun _ _ _ _ _ _ us hl => match us, hl with | [_, _], _ => rfl)
    (spM_len fun es Po ⟨_, e, _⟩ => by rw [e]; rfl) fun cdv A outer s H E hr => ⟨_, (pss_cons (ps_set (i := 2) sc_true_book.nd rfl (Or.inl rfl) (pe_lst pa_nil)) (pss_cons (ps_for PassesOwn.never rfl (pi_range1 rfl T.b_range (pa_cons pe_int pa_nil)) (pg_name (i := 3) sc_true_book.nd rfl (Or.inl rfl)) (pss_cons (ps_set (i := 4) sc_true_book.nd rfl (Or.inl rfl) (C8.pe_c (cal_book T) hr (by decide) (by rfl) (pa_cons (pv 0) pa_nil))) (pss_cons (ps_set (i := 4) sc_true_book.nd rfl (Or.inl rfl) (pe_ifExp (pt_cmpR op_eq (pe_op op_mod (pv 3) pe_int) pe_int (nomark _)) (pe_op op_catA (pe_tup (pa_cons (pe_ix ix_tup (pv 4) pe_int (fun _ _ => rfl)) (pa_cons (pe_ix ix_tup (pv 4) pe_int (fun _ _ => rfl)) (pa_cons pe_str (pa_cons pe_str pa_nil))))) (pe_slice sl_tupA (pv 4) (po_some pe_int) po_none)) (pv 4))) (pss_one (ps_if (pt_val (C8.pe_c (cal_is_true T) hr (by decide) (by rfl) (pa_cons (pv 4) (pa_cons (pv 1) pa_nil)))) (pss_one (ps_expr (pe_bm PySem.F.plainAttrs_list PySem.F.slot_list_append PySem.F.type_list_append mt_append (pv 2) (pa_cons (pv 4) pa_nil)))) pss_nil))))) (pss_one (ps_ret (pe_ifExp (pt_cmpR (op_neD (hu64 hr)) (pv 2) (pe_lst pa_nil) (nomark _)) (pe_ix ix_list (pv 2) (C8.pe_c (cal_draw T) hr (by decide) (by rfl) (pa_cons (pv 0) (pa_cons (pe_callB call_len (by rfl) T.b_len PySem.boot_len (pa_cons (pv 2) pa_nil)) pa_nil))) (fun _ _ => rfl)) (pe_tup (pa_cons pe_str (pa_cons pe_str (pa_cons pe_str (pa_cons pe_str (pa_cons pe_str (pa_cons pe_str pa_nil)))))))))))), spM_by _ <| by
      rintro m N es Po ⟨M, rfl, rfl⟩ hN hm
      clear hr
      show Ss _ _ _ [some (.adr m.a), some (wayD M), none, none, none] _ _
      refine ss_toE (ι := Addr) (Γi := fun b => [some (.adr m.a), some (wayD M), some (.adr b), none, none]) (Bi := fun b => (FY (Fl K H m b []) N).p)
        (ss_set (se_newF (ef_lst ea_nil) rfl) rfl (fun d H' ⟨b, e, p⟩ => ⟨b, by rw [e]; rfl, p⟩)) fun b => ?_
      refine ss_toE (ι := List KM.Book) (Γi := fun _ => [some (.adr m.a), some (wayD M), some (.adr b), none, none]) (Bi := fun bs H' => ((∀ B ∈ bs, KM.isTrue B M = true) ∧ bs.length ≤ 40) ∧ (FY (Fl K H m b (bs.map bookD)) (N + 240)).p H')
        (ss_for (Y := FY (Fl K H m b []) N) (n := 40) (fun i G H' => ∃ bs : List KM.Book, (G = [some (.adr m.a), some (wayD M), some (.adr b), none, none] ∧ (∀ B ∈ bs, KM.isTrue B M = true) ∧ bs.length ≤ i) ∧ (FY (Fl K H m b (bs.map bookD)) (N + 6 * i)).p H')
          (wi_rng1 (j := 40) (ea_cons ev_int ea_nil) (by decide)) (tg_name 3) (fun H' p => ⟨[], ⟨rfl, (fun B h => by cases h), Nat.le_refl _⟩, p⟩) (fun i G H1 H2 s ⟨bs, h, p⟩ => ⟨bs, h, (FY (Fl K H m b (bs.map bookD)) (N + 6 * i)).st _ _ s p⟩) ?_ (fun G H' ⟨bs, ⟨e, h1, h2⟩, p⟩ => ⟨bs, e, ⟨h1, h2⟩, p⟩)) (fun bs => ss_fact fun ⟨hb, hl⟩ => ?_)
      · rintro i d G hi rfl
        refine ⟨trivial, ss_ex fun bs => ss_fact fun ⟨eG, hb, hl⟩ => ?_⟩
        subst eG
        show Ss _ (FY (Fl K H m b (bs.map bookD)) (N + 6 * i)).p _ [some (.adr m.a), some (wayD M), some (.adr b), some (.int (i : Int)), none] _ _
        refine ss_toE (ι := KM.Book) (Γi := fun B => [some (.adr m.a), some (wayD M), some (.adr b), some (.int (i : Int)), some (bookD B)]) (Bi := fun B => (FY (Fl K H m b (bs.map bookD)) (N + 6 * i + 6)).p)
          (ss_set (se_callM rfl (ea_cons (ev_var rfl) ea_nil) ⟨rfl, rfl⟩ (by omega)) rfl (fun d H' ⟨⟨B, e⟩, p⟩ => ⟨B, by rw [e]; rfl, p⟩)) fun B => ?_
        refine ss_toE (ι := KM.Book) (Γi := fun B => [some (.adr m.a), some (wayD M), some (.adr b), some (.int (i : Int)), some (bookD B)]) (Bi := fun B => (FY (Fl K H m b (bs.map bookD)) (N + 6 * i + 6)).p)
          (ss_rn (Γ' := [some (.adr m.a), some (wayD M), some (.adr b), some (.int (i : Int)), some (bookD (if decide ((i : Int) % 2 = 1) = true then ⟨B.p, B.q, .none, .own, B.b, B.f⟩ else B))]) (rn_set (ev_as (ev_if (et_test (ev_eqI (ev_rI (ev_var rfl) ev_int (by decide)) ev_int)) (fun _ => ev_catA (ev_tup (ea_cons (ev_ixT (e := bookD B) (ev_var rfl) ev_int rfl) (ea_cons (ev_ixT (e := bookD B) (ev_var rfl) ev_int rfl) (ea_cons ev_str (ea_cons ev_str ea_nil))))) (ev_slA (ev_var rfl) (eo_some ev_int) eo_none) (by show 4 + 2 ≤ sizeLine; decide)) (fun _ => ev_var rfl)) ?_)) (fun H' h => ⟨_, rfl, h⟩)) fun B' => ?_
        · cases decide ((i : Int) % 2 = 1) <;> rfl
        refine ss_if (et_B (ev_callR rfl (ea_cons (ev_var rfl) (ea_cons (ev_var rfl) ea_nil)) ⟨_, _, rfl, rfl⟩)) (fun ht => ?_) (fun _ => ss_next fun H' p => ⟨[some (.adr m.a), some (wayD M), some (.adr b), none, none], ⟨.inr rfl, .inr rfl, .inr rfl, .inl rfl, .inl rfl, trivial⟩, bs, ⟨rfl, hb, Nat.le_succ_of_le hl⟩, p⟩)
        refine ss_drop (se_app (d := bookD B') (ev_var rfl) (ea_cons (ev_var rfl) ea_nil) rfl (by rw [List.length_map]; omega)) rfl (fun d H' p => ⟨[some (.adr m.a), some (wayD M), some (.adr b), none, none], ⟨.inr rfl, .inr rfl, .inr rfl, .inl rfl, .inl rfl, trivial⟩, bs ++ [B'], ⟨rfl, fun B hB => ?_, by rw [List.length_append]; exact Nat.succ_le_succ hl⟩, ?_⟩)
        · rcases List.mem_append.mp hB with h | h
          · exact hb B h
          · rw [List.mem_singleton.mp h]; exact ht
        · rw [List.map_append]
          exact p.2
      · show Ss _ (FY (Fl K H m b (bs.map bookD)) (N + 240)).p _ [some (.adr m.a), some (wayD M), some (.adr b), none, none] _ _
        refine ss_ret (se_if (et_test (ev_neNil (ev_lA (ev_var rfl)) (ev_lst ea_nil) (pok_books bs))) (fun hne => ?_) (fun _ => ?_))
        · have h0 : 0 < bs.length := by
            cases bs with
            | nil => cases hne
            | cons x r => exact Nat.succ_pos _
          refine se_opR (x := .adr b) (ev_var rfl) rfl (se_callM rfl (ea_cons (ev_var rfl) (ea_cons (ev_lenL (ea_cons (ev_lA (ev_var rfl)) ea_nil)) ea_nil)) ⟨(bs.map bookD).length, by rw [List.length_map]; exact h0, by rw [List.length_map]; omega, rfl, rfl⟩ (by omega)) fun y H' ⟨⟨j, hj, ey⟩, p⟩ => ?_
          subst ey
          have hj' : j < bs.length := by rw [List.length_map] at hj; exact hj
          refine ⟨.lst (bs.map bookD), bookD bs[j], fun v hv => ?_, fun Y ta tb ha hb => ev_ixL ha hb ?_, fun H2 s => ⟨⟨bs[j], rfl, hb _ (List.getElem_mem hj')⟩, fl_f0 ((FY (Fl K H m b (bs.map bookD)) (N + 241)).st _ _ s p)⟩⟩
          · have ev : v = .ref b := hv
            rw [ev]
            exact fl_at p
          · rw [atI_D hj, List.getElem_map]
        · refine se_of (d := bookD ⟨.never, .never, .none, .own, .own, .never⟩) (ev_tup (ea_cons ev_str (ea_cons ev_str (ea_cons ev_str (ea_cons ev_str (ea_cons ev_str (ea_cons ev_str ea_nil))))))) (fun H' p => ⟨⟨_, rfl, true_never M⟩, FY.le (fl_f0 p) (by omega)⟩)⟩
end
end KH

/-! part K14 -/
set_option Elab.async false
set_option linter.all false
set_option maxRecDepth 100000
set_option maxHeartbeats 4000000
namespace KH
open PySem PySem.Spec PyProof.Rows L2 KD
/-! rows of keys: what may be added -/
theorem oks_snoc (M : KM.Way) (u : KM.Un) : ∀ (us : List KM.Un) (r : KM.Rd), KM.oks M r (us ++ [u]) = (KM.oks M r us && u.ok M (KM.rds M.words r us))
  | [], r => by
    show (u.ok M r && true) = (true && u.ok M r)
    rw [Bool.and_true, Bool.true_and]
  | v :: us, r => by
    show (v.ok M r && KM.oks M (v.rd M.words r) (us ++ [u])) = (v.ok M r && KM.oks M (v.rd M.words r) us && u.ok M (KM.rds M.words (v.rd M.words r) us))
    rw [oks_snoc M u us, Bool.and_assoc]
theorem rds_snoc (b : Bool) (u : KM.Un) (us : List KM.Un) (r : KM.Rd) : KM.rds b r (us ++ [u]) = u.rd b (KM.rds b r us) := by
  unfold KM.rds
  rw [List.foldl_append]
  rfl
theorem flat_snoc (us : List KM.Un) (u : KM.Un) : KM.flat (us ++ [u]) = KM.flat us ++ u.keys := by
  rw [KM.flat_app]
  show _ ++ (u.keys ++ []) = _
  rw [List.append_nil]
theorem flat_le : ∀ us : List KM.Un, (KM.flat us).length ≤ 2 * us.length
  | [] => Nat.le_refl _
  | .sg c :: us => by
    have := flat_le us
    show (KM.flat us).length + 1 ≤ 2 * (us.length + 1)
    omega
  | .sl c :: us => by
    have := flat_le us
    show (KM.flat us).length + 1 + 1 ≤ 2 * (us.length + 1)
    omega
/-- what is needed is closers and quotes -/
def nok (r : KM.Rd) : Prop := wok r ∧ ∀ c ∈ r.needs, c = 39 ∨ KM.cls c = true
theorem nok_start : nok KM.Rd.start := ⟨wok_start, fun c h => by cases h⟩
theorem nok_read {b : Bool} {r : KM.Rd} (c : Nat) (h : nok r) : nok (r.read b c) := by
  refine ⟨wok_read c h.1, ?_⟩
  have ht : ∀ d ∈ r.needs.tail, d = 39 ∨ KM.cls d = true := fun d hd => h.2 d (List.mem_of_mem_tail hd)
  unfold KM.Rd.read
  split
  · intro d hd
    have hd' : d ∈ (if c = 39 then r.needs.tail else r.needs) := hd
    split at hd'
    · exact ht d hd'
    · exact h.2 d hd'
  · split
    · exact h.2
    · intro d hd
      have hd' : d ∈ (match KM.clo c with | some d => d :: r.needs | none => if KM.cls c = true then r.needs.tail else r.needs) := hd
      cases hc : KM.clo c with
      | some e =>
        rw [hc] at hd'
        rcases List.mem_cons.mp hd' with q | q
        · rw [q]
          unfold KM.clo at hc
          split at hc
          · exact .inl (Option.some.inj hc).symm
          · split at hc
            · right; rw [← Option.some.inj hc]; rfl
            · split at hc
              · right; rw [← Option.some.inj hc]; rfl
              · cases hc
        · exact h.2 d q
      | none =>
        rw [hc] at hd'
        have hd2 : d ∈ (if KM.cls c = true then r.needs.tail else r.needs) := hd'
        split at hd2
        · exact ht d hd2
        · exact h.2 d hd2
theorem nok_rds (b : Bool) : ∀ (us : List KM.Un) (r : KM.Rd), nok r → nok (KM.rds b r us)
  | [], _, h => h
  | .sg c :: us, r, h => nok_rds b us _ (nok_read c h)
  | .sl c :: us, r, h => nok_rds b us _ h
/-- what comes next where something is needed -/
def nextS (r : KM.Rd) : Nat := if r.opn = true then 97 else r.needs.headD 0
def meas (r : KM.Rd) : Nat := 2 * r.needs.length + if r.opn = true then 1 else 0
theorem next_ok {b : Bool} {r : KM.Rd} (h : nok r) (hm : meas r ≠ 0) : KM.sgn (nextS r) = true ∧ r.can (nextS r) = true ∧ meas (r.read b (nextS r)) < meas r := by
  unfold nextS
  by_cases ho : r.opn = true
  · rw [if_pos ho]
    have hq : r.quoted = false := h.1 ho
    refine ⟨by decide, ?_, ?_⟩
    · unfold KM.Rd.can
      rw [if_neg (by rw [hq]; decide), if_pos ho]
      decide
    · have e : r.read b 97 = ⟨r.needs, some 97, false⟩ := by
        unfold KM.Rd.read
        rw [if_neg (by rw [hq]; decide), if_neg (by simp)]
        rfl
      rw [e]
      unfold meas
      rw [if_pos ho]
      show 2 * r.needs.length + 0 < _
      omega
  · rw [if_neg ho]
    have ho' : r.opn = false := by simpa using ho
    have hne : r.needs ≠ [] := fun z => hm (by unfold meas; rw [z, if_neg ho]; rfl)
    obtain ⟨d, l, hd⟩ := List.exists_cons_of_ne_nil hne
    rw [hd]
    show KM.sgn d = true ∧ r.can d = true ∧ meas (r.read b d) < meas r
    have hk := h.2 d (by rw [hd]; exact List.mem_cons_self)
    have mr : meas r = 2 * (l.length + 1) := by
      unfold meas
      rw [if_neg ho, hd]
      rfl
    by_cases h39 : d = 39
    · subst h39
      have hq : r.quoted = true := by unfold KM.Rd.quoted; rw [hd]; rfl
      refine ⟨by decide, ?_, ?_⟩
      · unfold KM.Rd.can
        rw [if_pos hq]
        decide
      · have e : r.read b 39 = ⟨l, some 39, false⟩ := by
          unfold KM.Rd.read
          rw [if_pos hq, if_pos rfl, hd]
          rfl
        rw [e, mr]
        show 2 * l.length + 0 < _
        omega
    · have hc := hk.resolve_left h39
      have hq : r.quoted = false := by
        unfold KM.Rd.quoted
        rw [hd]
        exact decide_eq_false fun z => h39 (Option.some.inj z)
      have hd2 : d = 41 ∨ d = 93 := by simpa [KM.cls] using hc
      have hcl : KM.clo d = none := by rcases hd2 with e | e <;> subst e <;> rfl
      refine ⟨by rcases hd2 with e | e <;> subst e <;> decide, ?_, ?_⟩
      · unfold KM.Rd.can
        rw [if_neg (by rw [hq]; decide), if_neg ho, hd]
        simp
      · have e : r.read b d = ⟨l, some d, false⟩ := by
          unfold KM.Rd.read
          rw [if_neg (by rw [hq]; decide), if_neg (by simp [h39]), hcl]
          show (⟨if KM.cls d = true then r.needs.tail else r.needs, _, _⟩ : KM.Rd) = _
          rw [if_pos hc, hd]
          rfl
        rw [e, mr]
        show 2 * l.length + 0 < _
        omega
theorem meas_zero {r : KM.Rd} (h : meas r = 0) : r.whole = true := by
  unfold meas at h
  have h1 : r.needs.length = 0 := by omega
  have h2 : ¬ r.opn = true := fun z => by rw [if_pos z] at h; omega
  unfold KM.Rd.whole
  rw [List.length_eq_zero_iff.mp h1]
  simpa using h2
section
variable {P : Program} {w : World} {K : PySem.W.Frag} {mg : Str → Option Value} {base : Heap}
def laterR : List (List Nat) := [[], [41], [39], [97], [32], [93], [40], [47], [39, 39], [39, 41], [41, 40, 39], [97, 41], [39, 97, 98, 41]]
theorem later_ok : ∀ l ∈ laterR, okT l := by
  have : (laterR.all fun l => decide (l.length ≤ 200) && l.all KM.sgn) = true := by decide +kernel
  intro l hl
  have h := List.all_eq_true.mp this l hl
  have h' := Bool.and_eq_true_iff.mp h
  exact ⟨of_decide_eq_true h'.1, fun c hc => List.all_eq_true.mp h'.2 c hc⟩
def sp_later (K : PySem.W.Frag) : Sp := spM K 1 fun es Po => ∃ M, es = [wayD M] ∧ Po = fun d => ∃ R, d = .str (S R) ∧ okT R ∧ (M.later = true ∨ R = [])
theorem sc_later : FnScope ["_law_m", "_law_way", "_law_some"] ["_law_m", "_law_way"] (defScope s_later) := ⟨rfl, rfl, rfl, by decide +kernel, rfl, by decide +kernel, by decide +kernel⟩
theorem cal_later (T : Tx K mg) : C8.Cal P w K mg base 3 "_law_later" (sp_later K) [] :=
  cal_of T.d_later T.g_later sc_later (fun _ _ _ _ _ _ us hl => match us, hl with | [_, _], _ => rfl)
    (spM_len fun es Po ⟨_, e, _⟩ => by rw [e]; rfl) fun cdv A outer s H E hr => ⟨_, (pss_cons (ps_if (pt_not (pt_val (pe_ix ix_tup (pv 1) pe_int (fun _ _ => rfl)))) (pss_one (ps_ret pe_str)) pss_nil) (pss_cons (ps_set (i := 2) sc_later.nd rfl (Or.inl rfl) (pe_lst (pa_cons pe_str (pa_cons pe_str (pa_cons pe_str (pa_cons pe_str (pa_cons pe_str (pa_cons pe_str (pa_cons pe_str (pa_cons pe_str (pa_cons pe_str (pa_cons pe_str (pa_cons pe_str (pa_cons pe_str (pa_cons pe_str pa_nil))))))))))))))) (pss_one (ps_ret (pe_ix ix_list (pv 2) (C8.pe_c (cal_draw T) hr (by decide) (by rfl) (pa_cons (pv 0) (pa_cons (pe_callB call_len (by rfl) T.b_len PySem.boot_len (pa_cons (pv 2) pa_nil)) pa_nil))) (fun _ _ => rfl)))))), spM_by _ <| by
      rintro m N es Po ⟨M, rfl, rfl⟩ hN hm
      clear hr
      show Ss _ _ _ [some (.adr m.a), some (wayD M), none] _ _
      refine ss_ifs (et_not (et_B (ev_ixT (e := wayD M) (ev_var rfl) ev_int rfl))) (fun h => ?_) (fun h => ss_nx ?_)
      · refine ss_out (ss_rt (rn_ret (ev_lit (l := []) (by decide +kernel))) (fun H' p => ⟨⟨[], rfl, later_ok _ (by simp [laterR]), .inr rfl⟩, FY.le p (by omega)⟩))
      · have hM : M.later = true := by simpa using h
        refine ss_toE (ι := Addr) (Γi := fun b => [some (.adr m.a), some (wayD M), some (.adr b)]) (Bi := fun b => (FY (Fl K H m b (laterR.map fun l => .str (S l))) N).p)
          (ss_set (se_newF (l := laterR.map fun l => .str (S l)) (ef_lst (ea_cons (ev_lit (l := []) (by decide +kernel)) (ea_cons (ev_lit (l := [41]) (by decide +kernel)) (ea_cons (ev_lit (l := [39]) (by decide +kernel)) (ea_cons (ev_lit (l := [97]) (by decide +kernel)) (ea_cons (ev_lit (l := [32]) (by decide +kernel)) (ea_cons (ev_lit (l := [93]) (by decide +kernel)) (ea_cons (ev_lit (l := [40]) (by decide +kernel)) (ea_cons (ev_lit (l := [47]) (by decide +kernel)) (ea_cons (ev_lit (l := [39, 39]) (by decide +kernel)) (ea_cons (ev_lit (l := [39, 41]) (by decide +kernel)) (ea_cons (ev_lit (l := [41, 40, 39]) (by decide +kernel)) (ea_cons (ev_lit (l := [97, 41]) (by decide +kernel)) (ea_cons (ev_lit (l := [39, 97, 98, 41]) (by decide +kernel)) ea_nil))))))))))))) (by decide)) rfl) rfl (fun d H' ⟨b, e, p⟩ => ⟨b, by rw [e]; rfl, p⟩)) fun b => ?_
        refine ss_ret (se_opR (x := .adr b) (ev_var rfl) rfl (se_callM rfl (ea_cons (ev_var rfl) (ea_cons (ev_lenL (ea_cons (ev_lA (ev_var rfl)) ea_nil)) ea_nil)) ⟨13, by decide, by decide, rfl, rfl⟩ (by omega)) fun y H' ⟨⟨j, hj, ey⟩, p⟩ => ?_)
        subst ey
        have hj' : j < laterR.length := hj
        refine ⟨.lst (laterR.map fun l => .str (S l)), .str (S laterR[j]), fun v hv => ?_, fun Y ta tb ha hb => ev_ixL ha hb ?_, fun H2 s => ⟨⟨laterR[j], rfl, later_ok _ (List.getElem_mem hj'), .inl hM⟩, fl_f0 ((FY (Fl K H m b (laterR.map fun l => .str (S l))) (N + 1)).st _ _ s p)⟩⟩
        · have ev : v = .ref b := hv
          rw [ev]
          exact fl_at p
        · rw [atI_D (by rw [List.length_map]; exact hj'), List.getElem_map]⟩
end
end KH

/-! part K15 -/
set_option Elab.async false
set_option linter.all false
set_option maxRecDepth 100000
set_option maxHeartbeats 4000000
namespace KH
open PySem PySem.Spec PyProof.Rows L2 KD
section
variable {P : Program} {w : World} {K : PySem.W.Frag} {mg : Str → Option Value} {base : Heap}
/-- what stands behind rows of units -/
abbrev rdu (M : KM.Way) (us : List KM.Un) : KM.Rd := KM.rds M.words KM.Rd.start us
abbrev keyL (us : List KM.Un) : List D := (KM.flat us).map kD
theorem key_snoc_sl (us : List KM.Un) {c : Nat} (hc : c ≠ 0) : keyL (us ++ [.sl c]) = keyL us ++ [.str (S [c]), .str (S [98, 97, 99, 107])] := by
  unfold keyL
  rw [flat_snoc, List.map_append]
  show _ ++ [kD c, kD 0] = _
  unfold kD
  rw [keyS_sgn hc]
  rfl
theorem key_snoc_sg (us : List KM.Un) {c : Nat} (hc : c ≠ 0) : keyL (us ++ [.sg c]) = keyL us ++ [.str (S [c])] := by
  unfold keyL
  rw [flat_snoc, List.map_append]
  show _ ++ [kD c] = _
  unfold kD
  rw [keyS_sgn hc]
theorem key_len (us : List KM.Un) : (keyL us).length ≤ 2 * us.length := by
  unfold keyL
  rw [List.length_map]
  exact flat_le us
theorem needs_le (M : KM.Way) (us : List KM.Un) : (rdu M us).needs.length ≤ us.length := by
  have h := KM.needs_rds M.words us KM.Rd.start
  have h3 : KM.Rd.start.needs.length = 0 := rfl
  show (KM.rds M.words KM.Rd.start us).needs.length ≤ _
  omega
theorem slip_ok' {M : KM.Way} {us : List KM.Un} {c : Nat} (h : KM.oks M KM.Rd.start us = true) (hc : KM.sgn c = true) (hs : M.slips = true) : KM.oks M KM.Rd.start (us ++ [.sl c]) = true := by
  rw [oks_snoc, h]
  show (true && (KM.sgn c && M.slips)) = true
  rw [hc, hs]; rfl
theorem sign_ok' {M : KM.Way} {us : List KM.Un} {c : Nat} (h : KM.oks M KM.Rd.start us = true) (hc : KM.sgn c = true) (hs : (rdu M us).can c = true) : KM.oks M KM.Rd.start (us ++ [.sg c]) = true := by
  rw [oks_snoc, h]
  show (true && (KM.sgn c && (rdu M us).can c)) = true
  rw [hc, hs]; rfl
def sp_row (K : PySem.W.Frag) : Sp := spM K 55 fun es Po => ∃ M, es = [wayD M, .int 18] ∧ Po = fun d => ∃ us, d = .tup [keysD (KM.flat us), rdD (rdu M us)] ∧ KM.oks M KM.Rd.start us = true ∧ us.length ≤ 36
theorem sgn_of {l : List Nat} (h : l.all KM.sgn = true) {c : Nat} (hc : c ∈ l) : KM.sgn c = true := List.all_eq_true.mp h c hc
theorem sc_row : FnScope ["_law_m", "_law_way", "_law_most", "_law_again", "_law_state", "_law_keys", "_law_sign"] ["_law_m", "_law_way", "_law_most"] (defScope s_row) := ⟨rfl, rfl, rfl, by decide +kernel, rfl, by decide +kernel, by decide +kernel⟩
theorem cal_row (T : Tx K mg) : C8.Cal P w K mg base 3 "_law_row" (sp_row K) [] :=
  cal_of T.d_row T.g_row sc_row (fun _ _ _ _ _ _ us hl => match us, hl with | [_, _, _], _ => rfl)
    (spM_len fun es Po ⟨_, e, _⟩ => by rw [e]; rfl) fun cdv A outer s H E hr => ⟨_, (pss_cons (ps_par (i := 4) (j := 5) (by rfl) sc_row.nd rfl rfl (by decide) rfl rfl (pa_cons (pe_tup (pa_cons pe_str (pa_cons pe_str (pa_cons pe_bl pa_nil)))) (pa_cons (pe_lst pa_nil) pa_nil)) (by rfl)) (pss_cons (ps_for PassesOwn.never rfl (pi_range1 rfl T.b_range (pa_cons (C8.pe_c (cal_draw T) hr (by decide) (by rfl) (pa_cons (pv 0) (pa_cons (pe_op op_add (pv 2) pe_int) pa_nil))) pa_nil)) (pg_name (i := 3) sc_row.nd rfl (Or.inl rfl)) (pss_cons (ps_if (PW.pt (pw_and (pt_val (pe_ix ix_tup (pv 1) pe_int (fun _ _ => rfl))) (pw_and1 (pt_cmpR op_eq (C8.pe_c (cal_draw T) hr (by decide) (by rfl) (pa_cons (pv 0) (pa_cons pe_int pa_nil))) pe_int (nomark _))))) (pss_one (ps_set (i := 5) sc_row.nd rfl (Or.inl rfl) (pe_op op_cat (pv 5) (pe_lst (pa_cons (pe_ix ix_str pe_str (C8.pe_c (cal_draw T) hr (by decide) (by rfl) (pa_cons (pv 0) (pa_cons pe_int pa_nil))) (fun _ _ => rfl)) (pa_cons pe_str pa_nil)))))) pss_nil) (pss_cons (ps_set (i := 6) sc_row.nd rfl (Or.inl rfl) (pe_ix ix_str pe_str (C8.pe_c (cal_draw T) hr (by decide) (by rfl) (pa_cons (pv 0) (pa_cons pe_int pa_nil))) (fun _ _ => rfl))) (pss_one (ps_if (pt_val (C8.pe_c (cal_can T) hr (by decide) (by rfl) (pa_cons (pe_ix ix_tup (pv 4) pe_int (fun _ _ => rfl)) (pa_cons (pe_ix ix_tup (pv 4) pe_int (fun _ _ => rfl)) (pa_cons (pe_ix ix_tup (pv 4) pe_int (fun _ _ => rfl)) (pa_cons (pe_ix ix_tup (pv 1) pe_int (fun _ _ => rfl)) (pa_cons (pv 6) pa_nil))))))) (pss_cons (ps_set (i := 4) sc_row.nd rfl (Or.inl rfl) (C8.pe_c (cal_read T) hr (by decide) (by rfl) (pa_cons (pv 4) (pa_cons (pe_ix ix_tup (pv 1) pe_int (fun _ _ => rfl)) (pa_cons (pv 6) pa_nil))))) (pss_one (ps_expr (pe_bm PySem.F.plainAttrs_list PySem.F.slot_list_append PySem.F.type_list_append mt_append (pv 5) (pa_cons (pv 6) pa_nil))))) pss_nil))))) (pss_one (ps_ret (pe_tup (pa_cons (pe_callTy call_tuple_of (by rfl) T.b_tuple (by decide +kernel) (pa_cons (pv 5) pa_nil)) (pa_cons (pv 4) pa_nil))))))), spM_by _ <| by
      rintro m N es Po ⟨M, rfl, rfl⟩ hN hm
      clear hr
      show Ss _ _ _ [some (.adr m.a), some (wayD M), some (.int 18), none, none, none, none] _ _
      refine ss_toE (ι := Addr) (Γi := fun b => [some (.adr m.a), some (wayD M), some (.int 18), none, some (rdD KM.Rd.start), some (.adr b), none]) (Bi := fun b => (FY (Fl K H m b []) N).p)
        (ss_parE (x := rdD KM.Rd.start) (ev_tup (ea_cons (ev_lit (l := []) (by decide +kernel)) (ea_cons (ev_lit (l := []) (by decide +kernel)) (ea_cons ev_bl ea_nil)))) rfl (se_newF (ef_lst ea_nil) rfl) rfl (fun y H' ⟨b, e, p⟩ => ⟨b, by rw [e]; rfl, p⟩)) fun b => ?_
      refine ss_toE (ι := List KM.Un × Addr) (Γi := fun i => [some (.adr m.a), some (wayD M), some (.int 18), none, some (rdD (rdu M i.1)), some (.adr i.2), none]) (Bi := fun i H' => (KM.oks M KM.Rd.start i.1 = true ∧ i.1.length ≤ 36) ∧ (FY (Fl K H m i.2 (keyL i.1)) (N + 55)).p H')
        (ss_forE (B1 := fun d H' => Drawn 19 d ∧ (FY (Fl K H m b []) (N + 1)).p H') (se_callM rfl (ea_cons (ev_var rfl) (ea_cons (ev_as (ev_add (ev_var rfl) ev_int) rfl) ea_nil)) ⟨19, by decide, by decide, rfl, rfl⟩ (by omega)) rfl (fun d H' ⟨⟨j, _, e⟩, _⟩ => ⟨_, e⟩) (fun j => ss_fact fun ⟨jn, hj, ej⟩ => ?_)) (fun ⟨us, b2⟩ => ss_fact fun ⟨hok, hl⟩ => ?_)
      · have ej' : j = (jn : Int) := by injection ej
        subst ej'
        refine ss_for (Y := FY (Fl K H m b []) (N + 1)) (n := jn) (fun i G H' => ∃ q : List KM.Un × Addr, (G = [some (.adr m.a), some (wayD M), some (.int 18), none, some (rdD (rdu M q.1)), some (.adr q.2), none] ∧ KM.oks M KM.Rd.start q.1 = true ∧ q.1.length ≤ 2 * i) ∧ (FY (Fl K H m q.2 (keyL q.1)) (N + 1 + 3 * i)).p H')
          (by have := wi_rng1 (K := K) (A := FY (Fl K H m b []) (N + 1)) (Rr := Fz) (Γ := [some (.adr m.a), some (wayD M), some (.int 18), none, some (rdD KM.Rd.start), some (.adr b), none]) (j := (jn : Int)) (ea_cons ev_int ea_nil) ⟨by omega, by omega⟩; rw [Int.toNat_natCast] at this; exact this) (tg_name 3) (fun H' p => ⟨([], b), ⟨rfl, rfl, Nat.zero_le _⟩, p⟩) (fun i G H1 H2 s ⟨q, h, p⟩ => ⟨q, h, (FY (Fl K H m q.2 (keyL q.1)) (N + 1 + 3 * i)).st _ _ s p⟩) ?_
          (fun G H' ⟨q, ⟨e, h1, h2⟩, p⟩ => ⟨q, e, ⟨h1, by omega⟩, FY.le p (by omega)⟩)
        rintro i d G hi rfl
        refine ⟨trivial, ss_ex fun ⟨us, b2⟩ => ss_fact fun ⟨eG, hok, hl⟩ => ?_⟩
        subst eG
        have hl' : us.length ≤ 2 * i := hl
        have kl := key_len us
        show Ss _ (FY (Fl K H m b2 (keyL us)) (N + 1 + 3 * i)).p _ [some (.adr m.a), some (wayD M), some (.int 18), some (.int (i : Int)), some (rdD (rdu M us)), some (.adr b2), none] _ _
        -- a slip, perhaps
        refine ss_toE (ι := List KM.Un × Addr) (Γi := fun q => [some (.adr m.a), some (wayD M), some (.int 18), some (.int (i : Int)), some (rdD (rdu M q.1)), some (.adr q.2), none]) (Bi := fun q H' => (KM.oks M KM.Rd.start q.1 = true ∧ q.1.length ≤ 2 * i + 1) ∧ (FY (Fl K H m q.2 (keyL q.1)) (N + 1 + 3 * i + 2)).p H')
          (ss_ifB (B := fun z H' => (z = true → M.slips = true) ∧ (FY (Fl K H m b2 (keyL us)) (N + 1 + 3 * i + 1)).p H') (sb_and (b := M.slips) (et_B (ev_ixT (e := wayD M) (ev_var rfl) ev_int rfl)) (fun _ H' p => ⟨(fun z => by cases z), FY.le p (by omega)⟩) (fun hs => sb_test (se_mono (se_drawEq 4 (ev_var rfl) rfl (by decide) (by decide) (by omega) rfl) (fun d H' ⟨z, e, p⟩ => ⟨z, e, fun _ => hs, p⟩)))) rfl
            (ss_fact fun hs => ?_) (ss_fact fun _ => ss_next fun H' p => ⟨(us, b2), rfl, ⟨hok, by show us.length ≤ _; omega⟩, FY.le p (by omega)⟩)) (fun ⟨us1, b3⟩ => ss_fact fun ⟨hok1, hl1⟩ => ?_)
        · refine ss_set (se_catE (P := fun ds => ∃ c, KM.sgn c = true ∧ ds = [.str (S [c]), .str (S [98, 97, 99, 107])]) (N' := N + 1 + 3 * i + 2) (ev_var rfl) rfl ?_ (fun ds ⟨c, _, e⟩ => by rw [e]; exact ⟨rfl, by show 2 ≤ 100; decide⟩) (by omega)) rfl (fun d H' ⟨b', ds, ⟨c, hc, e1⟩, e2, p⟩ => ⟨(us ++ [.sl c], b'), ?_, ⟨slip_ok' hok hc (hs rfl), ?_⟩, ?_⟩)
          · refine sa_cons (se_drawS [97, 32, 47, 40, 41, 39, 91, 93] (ev_var rfl) (by decide +kernel) rfl (by decide) (by decide) (by omega)) rfl (fun x H' ⟨c, _, e, _⟩ => by rw [e]; rfl) fun x => ?_
            refine fun σ H1 a e => ?_
            obtain ⟨c, hc, rfl, p⟩ := a
            exact sa_of (Y := FY (Fl K H m b2 (keyL us)) (N + 1 + 3 * i + 1 + 1)) (ea_cons (ev_lit (l := [98, 97, 99, 107]) (by decide +kernel)) ea_nil) (fun H' p => ⟨⟨c, sgn_of (by decide) hc, rfl⟩, p⟩) σ H1 p e
          · rw [e2]
            show [_, _, _, _, some (rdD (rdu M us)), _, _] = [_, _, _, _, some (rdD (rdu M (us ++ [.sl c]))), _, _]
            rw [show rdu M (us ++ [.sl c]) = rdu M us from rds_snoc M.words (.sl c) us KM.Rd.start]
          · show (us ++ [KM.Un.sl c]).length ≤ _
            rw [List.length_append]; show us.length + 1 ≤ _; omega
          · show (FY (Fl K H m b' (keyL (us ++ [.sl c]))) _).p H'
            rw [key_snoc_sl us (KM.sgn_nz hc), ← e1]
            exact p
        -- a sign
        have hl1' : us1.length ≤ 2 * i + 1 := hl1
        have kl1 := key_len us1
        have nl1 := needs_le M us1
        show Ss _ (FY (Fl K H m b3 (keyL us1)) (N + 1 + 3 * i + 2)).p _ [some (.adr m.a), some (wayD M), some (.int 18), some (.int (i : Int)), some (rdD (rdu M us1)), some (.adr b3), none] _ _
        refine ss_toE (ι := Nat) (Γi := fun c => [some (.adr m.a), some (wayD M), some (.int 18), some (.int (i : Int)), some (rdD (rdu M us1)), some (.adr b3), some (.str (S [c]))]) (Bi := fun c H' => KM.sgn c = true ∧ (FY (Fl K H m b3 (keyL us1)) (N + 1 + 3 * i + 3)).p H')
          (ss_set (se_drawS [97, 97, 98, 32, 47, 40, 91, 39, 39, 41, 93] (ev_var rfl) (by decide +kernel) rfl (by decide) (by decide) (by omega)) rfl (fun d H' ⟨c, hc, e, p⟩ => ⟨c, by rw [e]; rfl, sgn_of (by decide) hc, p⟩)) (fun c => ss_fact fun hc => ?_)
        refine ss_if (et_B (ev_callR rfl (ea_cons (ev_ixT (e := rdD (rdu M us1)) (ev_var rfl) ev_int rfl) (ea_cons (ev_ixT (e := rdD (rdu M us1)) (ev_var rfl) ev_int rfl) (ea_cons (ev_ixT (e := rdD (rdu M us1)) (ev_var rfl) ev_int rfl) (ea_cons (ev_ixT (e := wayD M) (ev_var rfl) ev_int rfl) (ea_cons (ev_var rfl) ea_nil))))) ⟨_, _, _, rfl, rfl, by omega⟩)) (fun hcan => ?_)
          (fun _ => ss_next fun H' p => ⟨[some (.adr m.a), some (wayD M), some (.int 18), none, some (rdD (rdu M us1)), some (.adr b3), none], ⟨.inr rfl, .inr rfl, .inr rfl, .inl rfl, .inr rfl, .inr rfl, .inl rfl, trivial⟩, (us1, b3), ⟨rfl, hok1, by show us1.length ≤ _; omega⟩, FY.le p (by omega)⟩)
        refine ss_to (ss_rn (Γ' := [some (.adr m.a), some (wayD M), some (.int 18), some (.int (i : Int)), some (rdD (rdu M (us1 ++ [.sg c]))), some (.adr b3), some (.str (S [c]))]) (rn_set (ev_as (ev_callR rfl (ea_cons (ev_var rfl) (ea_cons (ev_ixT (e := wayD M) (ev_var rfl) ev_int rfl) (ea_cons (ev_var rfl) ea_nil))) ⟨_, _, _, rfl, rfl, by omega⟩) ?_)) (fun H' h => ⟨rfl, h⟩)) ?_
        · rw [show rdu M (us1 ++ [.sg c]) = (rdu M us1).read M.words c from rds_snoc M.words (.sg c) us1 KM.Rd.start]
        refine ss_drop (se_app (d := .str (S [c])) (ev_var rfl) (ea_cons (ev_var rfl) ea_nil) rfl (by omega)) rfl (fun d H' p => ⟨[some (.adr m.a), some (wayD M), some (.int 18), none, some (rdD (rdu M (us1 ++ [.sg c]))), some (.adr b3), none], ⟨.inr rfl, .inr rfl, .inr rfl, .inl rfl, .inr rfl, .inr rfl, .inl rfl, trivial⟩, (us1 ++ [.sg c], b3), ⟨rfl, sign_ok' hok1 hc hcan, ?_⟩, ?_⟩)
        · show (us1 ++ [KM.Un.sg c]).length ≤ _
          rw [List.length_append]; show us1.length + 1 ≤ _; omega
        · show (FY (Fl K H m b3 (keyL (us1 ++ [.sg c]))) _).p H'
          rw [key_snoc_sg us1 (KM.sgn_nz hc)]
          exact FY.le p.2 (by omega)
      · show Ss _ (FY (Fl K H m b2 (keyL us)) (N + 55)).p _ [some (.adr m.a), some (wayD M), some (.int 18), none, some (rdD (rdu M us)), some (.adr b2), none] _ _
        exact ss_rt (rn_ret (ev_tup (ea_cons (ev_tupL (ea_cons (ev_lA (ev_var rfl)) ea_nil)) (ea_cons (ev_var rfl) ea_nil)))) (fun H' p => ⟨⟨us, rfl, hok, hl⟩, fl_f0 p⟩)⟩
end
end KH

/-! part K16 -/
set_option Elab.async false
set_option linter.all false
set_option maxRecDepth 100000
set_option maxHeartbeats 4000000
namespace KH
open PySem PySem.Spec PyProof.Rows L2 KD
section
variable {P : Program} {w : World} {K : PySem.W.Frag} {mg : Str → Option Value} {base : Heap}
def sp_ended (K : PySem.W.Frag) : Sp := spM K 146 fun es Po => ∃ M us, es = [wayD M, keysD (KM.flat us), rdD (rdu M us)] ∧ (KM.oks M KM.Rd.start us = true ∧ us.length ≤ 36) ∧ Po = fun d => ∃ us', d = keysD (KM.flat us') ∧ Whole M us'
theorem meas_cond (r : KM.Rd) : (r.opn || !decide (r.needs = [])) = decide (meas r ≠ 0) := by
  unfold meas
  cases r.opn with
  | true => simp
  | false =>
    cases hn : r.needs with
    | nil => simp
    | cons a l => simp
theorem sc_ended : FnScope ["_law_m", "_law_way", "_law_keys", "_law_state", "_law_sign"] ["_law_m", "_law_way", "_law_keys", "_law_state"] (defScope s_ended) := ⟨rfl, rfl, rfl, by decide +kernel, rfl, by decide +kernel, by decide +kernel⟩
theorem cal_ended (T : Tx K mg) : C8.Cal P w K mg base 3 "_law_ended" (sp_ended K) [] :=
  cal_of T.d_ended T.g_ended sc_ended (fun _ _ _ _ _ _ us hl => match us, hl with | [_, _, _, _], _ => rfl)
    (spM_len fun es Po ⟨_, _, e, _⟩ => by rw [e]; rfl) fun cdv A outer s H E hr => ⟨_, (pss_cons (ps_while PassesOwn.never (PW.pt (pw_or (pt_val (pe_ix ix_tup (pv 3) pe_int (fun _ _ => rfl))) (pw_or1 (pt_cmpR op_ne (pe_ix ix_tup (pv 3) pe_int (fun _ _ => rfl)) pe_str (nomark _))))) (pss_cons (ps_if (PW.pt (pw_and (pt_val (pe_ix ix_tup (pv 1) pe_int (fun _ _ => rfl))) (pw_and1 (pt_cmpR op_eq (C8.pe_c (cal_draw T) hr (by decide) (by rfl) (pa_cons (pv 0) (pa_cons pe_int pa_nil))) pe_int (nomark _))))) (pss_one (ps_set (i := 2) sc_ended.nd rfl (Or.inl rfl) (pe_op op_catA (pv 2) (pe_tup (pa_cons (pe_ix ix_str pe_str (C8.pe_c (cal_draw T) hr (by decide) (by rfl) (pa_cons (pv 0) (pa_cons pe_int pa_nil))) (fun _ _ => rfl)) (pa_cons pe_str pa_nil)))))) pss_nil) (pss_cons (ps_set (i := 4) sc_ended.nd rfl (Or.inl rfl) (pe_ifExp (pt_val (pe_ix ix_tup (pv 3) pe_int (fun _ _ => rfl))) pe_str (pe_ix ix_str (pe_ix ix_tup (pv 3) pe_int (fun _ _ => rfl)) pe_int (fun _ _ => rfl)))) (pss_cons (ps_set (i := 3) sc_ended.nd rfl (Or.inl rfl) (C8.pe_c (cal_read T) hr (by decide) (by rfl) (pa_cons (pv 3) (pa_cons (pe_ix ix_tup (pv 1) pe_int (fun _ _ => rfl)) (pa_cons (pv 4) pa_nil))))) (pss_one (ps_set (i := 2) sc_ended.nd rfl (Or.inl rfl) (pe_op op_catA (pv 2) (pe_tup (pa_cons (pv 4) pa_nil))))))))) (pss_one (ps_ret (pv 2)))), spM_by _ <| by
      rintro m N es Po ⟨M, us0, rfl, ⟨hok0, hl0⟩, rfl⟩ hN hm
      clear hr
      show Ss _ _ _ [some (.adr m.a), some (wayD M), some (keysD (KM.flat us0)), some (rdD (rdu M us0)), none] _ _
      have m0 : meas (rdu M us0) ≤ 73 := by
        have h1 := needs_le M us0
        unfold meas
        split <;> omega
      have st : ∀ n : Nat, ∀ G H1 H2, Same H1 H2 → (∃ us : List KM.Un, (G = [some (.adr m.a), some (wayD M), some (keysD (KM.flat us)), some (rdD (rdu M us)), none] ∧ KM.oks M KM.Rd.start us = true ∧ meas (rdu M us) = n ∧ n ≤ 73 ∧ us.length + 2 * n ≤ 182 ∧ (KM.flat us).length + 3 * n ≤ 291) ∧ (FY (F0 H m) (N + 2 * (73 - n))).p H1) →
          (∃ us : List KM.Un, (G = [some (.adr m.a), some (wayD M), some (keysD (KM.flat us)), some (rdD (rdu M us)), none] ∧ KM.oks M KM.Rd.start us = true ∧ meas (rdu M us) = n ∧ n ≤ 73 ∧ us.length + 2 * n ≤ 182 ∧ (KM.flat us).length + 3 * n ≤ 291) ∧ (FY (F0 H m) (N + 2 * (73 - n))).p H2) := fun n G H1 H2 s ⟨us, h, p⟩ => ⟨us, h, (FY (F0 H m) _).st _ _ s p⟩
      refine ss_toE (ι := List KM.Un) (Γi := fun us => [some (.adr m.a), some (wayD M), some (keysD (KM.flat us)), some (rdD (rdu M us)), none]) (Bi := fun us H' => Whole M us ∧ (FY (F0 H m) (N + 146)).p H')
        (ss_while (fun n G => ⟨fun H1 => ∃ us : List KM.Un, (G = [some (.adr m.a), some (wayD M), some (keysD (KM.flat us)), some (rdD (rdu M us)), none] ∧ KM.oks M KM.Rd.start us = true ∧ meas (rdu M us) = n ∧ n ≤ 73 ∧ us.length + 2 * n ≤ 182 ∧ (KM.flat us).length + 3 * n ≤ 291) ∧ (FY (F0 H m) (N + 2 * (73 - n))).p H1, st n G⟩)
          (meas (rdu M us0)) (fun H' p => ⟨us0, ⟨rfl, hok0, rfl, m0, by omega, by have := flat_le us0; omega⟩, FY.le p (by omega)⟩) (fun n _ => decide (n ≠ 0)) (fun n G _ => ?_) (fun n G _ hn => ?_) (fun n G H' ⟨us, ⟨e, hok, hn, h73, hl, hf⟩, p⟩ hb => ⟨us, e, ⟨⟨hok, by omega⟩, meas_zero ?_⟩, FY.le p (by omega)⟩)) (fun us => ss_fact fun hW => ?_)
      · rintro σ H1 ⟨us, ⟨eG, hok, hn, _⟩, p⟩ e Q q
        subst eG hn
        refine (et_as (et_or (et_B (ev_ixT (e := rdD (rdu M us)) (ev_var rfl) ev_int rfl)) (fun _ => et_test (ev_neL (a := (rdu M us).needs) (b := []) (ev_ixT (e := rdD (rdu M us)) (ev_var rfl) ev_int rfl) (ev_lit (l := []) (by decide +kernel))))) (meas_cond _) : Et K Hy.tt _ [some (.adr m.a), some (wayD M), some (keysD (KM.flat us)), some (rdD (rdu M us)), none] _) σ H1 trivial e Q q
      · refine ss_ex fun us => ss_fact fun ⟨eG, hok, hme, h73, hl, hf⟩ => ?_
        subst eG
        have hn0 : n ≠ 0 := of_decide_eq_true hn
        have nl := needs_le M us
        have g : ∀ us' : List KM.Un, ∀ x y, okG (relF K) [some (.adr m.a), some (wayD M), some (keysD (KM.flat us')), x, y] = okG (relF K) [x, y] := fun us' x y => by
          show (true && (true && (fzL ((KM.flat us').map kD) && _))) = _
          rw [fz_keys]
          rfl
        refine ss_toE (ι := List KM.Un) (Γi := fun us' => [some (.adr m.a), some (wayD M), some (keysD (KM.flat us')), some (rdD (rdu M us')), none]) (Bi := fun us' H' => (KM.oks M KM.Rd.start us' = true ∧ rdu M us' = rdu M us ∧ us'.length ≤ us.length + 1 ∧ (KM.flat us').length ≤ (KM.flat us).length + 2) ∧ (FY (F0 H m) (N + 2 * (73 - n) + 2)).p H')
          (ss_ifB (B := fun z H' => (z = true → M.slips = true) ∧ (FY (F0 H m) (N + 2 * (73 - n) + 1)).p H') (sb_and (b := M.slips) (et_B (ev_ixT (e := wayD M) (ev_var rfl) ev_int rfl)) (fun _ H' p => ⟨(fun z => by cases z), FY.le p (by omega)⟩) (fun hs => sb_test (se_mono (se_drawEq 5 (ev_var rfl) rfl (by decide) (by decide) (by omega) ((g us _ _).trans rfl)) (fun d H' ⟨z, e, p⟩ => ⟨z, e, fun _ => hs, p⟩)))) ((g us _ _).trans rfl)
            (ss_fact fun hs => ?_) (ss_fact fun _ => ss_next fun H' p => ⟨us, rfl, ⟨hok, rfl, by omega, by omega⟩, FY.le p (by omega)⟩)) (fun us1 => ss_fact fun ⟨hok1, er, hl1, hf1⟩ => ?_)
        · refine ss_set (se_opR (x := keysD (KM.flat us)) (B1 := fun d H' => ∃ ds, d = .tup ds ∧ (∃ c, KM.sgn c = true ∧ ds = [.str (S [c]), .str (S [98, 97, 99, 107])]) ∧ (FY (F0 H m) (N + 2 * (73 - n) + 2)).p H') (B2 := fun d H' => ∃ c, KM.sgn c = true ∧ d = keysD (KM.flat (us ++ [.sl c])) ∧ (FY (F0 H m) (N + 2 * (73 - n) + 2)).p H') (Y := FY (F0 H m) (N + 2 * (73 - n) + 1)) (ev_var rfl) (fz_keys _)
              (se_tup (B := fun ds H' => (∃ c, KM.sgn c = true ∧ ds = [.str (S [c]), .str (S [98, 97, 99, 107])]) ∧ (FY (F0 H m) (N + 2 * (73 - n) + 2)).p H') ?_ (fun ds H' ⟨⟨c, _, e⟩, _⟩ => by rw [e]; show 2 ≤ 100000; decide) (fun ds H1 H2 s ⟨e, p⟩ => ⟨e, (FY (F0 H m) _).st _ _ s p⟩)) (fun y H' ⟨ds, ey, ⟨c, hc, ed⟩, p⟩ => ?_)) ((g us _ _).trans rfl) (fun d H' ⟨c, hc, e, p⟩ => ⟨us ++ [.sl c], ?_, ⟨slip_ok' hok hc (hs rfl), ?_, ?_, ?_⟩, p⟩)
          · refine sa_cons (se_drawS [40, 39, 41, 47] (ev_var rfl) (by decide +kernel) rfl (by decide) (by decide) (by omega)) ((g us _ _).trans rfl) (fun x H' ⟨c, _, e, _⟩ => by rw [e]; rfl) fun x => ?_
            refine fun σ H1 a e => ?_
            obtain ⟨c, hc, rfl, p⟩ := a
            exact sa_of (Y := FY (F0 H m) (N + 2 * (73 - n) + 1 + 1)) (ea_cons (ev_lit (l := [98, 97, 99, 107]) (by decide +kernel)) ea_nil) (fun H' p => ⟨⟨c, sgn_of (by decide) hc, rfl⟩, p⟩) σ H1 p e
          · subst ey ed
            refine ⟨keysD (KM.flat us), .tup (keyL us ++ [.str (S [c]), .str (S [98, 97, 99, 107])]), fun _ h => h, fun Y ta tb ha hb => ev_catA ha hb ?_, fun H2 s => ⟨c, hc, ?_, (FY (F0 H m) _).st _ _ s p⟩⟩
            · show ((KM.flat us).map kD).length + 2 ≤ _
              rw [List.length_map]
              exact small (by omega)
            · rw [← key_snoc_sl us (KM.sgn_nz hc)]
              rfl
          · rw [e]
            show [_, _, _, some (rdD (rdu M us)), _] = [_, _, _, some (rdD (rdu M (us ++ [.sl c]))), _]
            rw [show rdu M (us ++ [.sl c]) = rdu M us from rds_snoc M.words (.sl c) us KM.Rd.start]
          · exact rds_snoc M.words (.sl c) us KM.Rd.start
          · rw [List.length_append]; exact Nat.le_refl _
          · rw [flat_snoc, List.length_append]; exact Nat.le_refl _
        · show Ss _ (FY (F0 H m) (N + 2 * (73 - n) + 2)).p _ [some (.adr m.a), some (wayD M), some (keysD (KM.flat us1)), some (rdD (rdu M us1)), none] _ _
          obtain ⟨nx1, nx2, nx3⟩ := next_ok (b := M.words) (nok_rds M.words us1 _ nok_start) (show meas (rdu M us1) ≠ 0 by rw [er, hme]; exact hn0)
          have nl1 : (rdu M us1).needs.length ≤ 1000 := by rw [er]; omega
          have hop : (rdu M us1).opn = false → (rdu M us1).needs ≠ [] := fun ho z => by
            have h1 : meas (rdu M us1) = 0 := by unfold meas; rw [z, ho]; rfl
            rw [er, hme] at h1
            exact hn0 h1
          refine ss_to (ss_rn (Γ' := [some (.adr m.a), some (wayD M), some (keysD (KM.flat us1)), some (rdD (rdu M us1)), some (.str (S [nextS (rdu M us1)]))]) (rn_set (ev_as (ev_ifL (et_B (ev_ixT (e := rdD (rdu M us1)) (ev_var rfl) ev_int rfl)) (fun _ => ev_lit (l := [97]) (by decide +kernel)) (fun ho => ev_ixS1 (a := (rdu M us1).needs) (ev_ixT (e := rdD (rdu M us1)) (ev_var rfl) ev_int rfl) ev_int (by omega) ⟨by decide, ?_⟩)) ?_)) (fun H' h => ⟨rfl, h⟩)) ?_
          · have := List.length_pos_iff.mpr (hop ho)
            omega
          · unfold nextS
            by_cases ho : (rdu M us1).opn = true
            · rw [if_pos ho, if_pos ho]
            · rw [if_neg ho, if_neg ho]
              cases hd : (rdu M us1).needs with
              | nil => rfl
              | cons a l => rfl
          generalize hc : nextS (rdu M us1) = c at nx1 nx2 nx3
          refine ss_to (ss_rn (Γ' := [some (.adr m.a), some (wayD M), some (keysD (KM.flat us1)), some (rdD (rdu M (us1 ++ [.sg c]))), some (.str (S [c]))]) (rn_set (ev_as (ev_callR rfl (ea_cons (ev_var rfl) (ea_cons (ev_ixT (e := wayD M) (ev_var rfl) ev_int rfl) (ea_cons (ev_var rfl) ea_nil))) ⟨_, _, _, rfl, rfl, nl1⟩) ?_)) (fun H' h => ⟨rfl, h⟩)) ?_
          · rw [show rdu M (us1 ++ [.sg c]) = (rdu M us1).read M.words c from rds_snoc M.words (.sg c) us1 KM.Rd.start]
          refine ss_rn (Γ' := [some (.adr m.a), some (wayD M), some (keysD (KM.flat (us1 ++ [.sg c]))), some (rdD (rdu M (us1 ++ [.sg c]))), some (.str (S [c]))]) (rn_set (ev_as (ev_catA (ev_var rfl) (ev_tup (ea_cons (ev_var rfl) ea_nil)) ?_) ?_)) (fun H' p => ⟨meas (rdu M (us1 ++ [.sg c])), [some (.adr m.a), some (wayD M), some (keysD (KM.flat (us1 ++ [.sg c]))), some (rdD (rdu M (us1 ++ [.sg c]))), none], ?_, ⟨.inr rfl, .inr rfl, .inr rfl, .inr rfl, .inl rfl, trivial⟩, us1 ++ [.sg c], ⟨rfl, sign_ok' hok1 nx1 nx2, rfl, ?_, ?_, ?_⟩, FY.le p ?_⟩)
          · show ((KM.flat us1).map kD).length + 1 ≤ _
            rw [List.length_map]
            exact small (by omega)
          · show D.tup (keyL us1 ++ [.str (S [c])]) = _
            rw [← key_snoc_sg us1 (KM.sgn_nz nx1)]
            rfl
          all_goals (
            have e2 : meas (rdu M (us1 ++ [.sg c])) < n := by
              rw [show rdu M (us1 ++ [.sg c]) = (rdu M us1).read M.words c from rds_snoc M.words (.sg c) us1 KM.Rd.start]
              have nx4 : meas ((rdu M us1).read M.words c) < meas (rdu M us1) := nx3
              rw [er, hme] at nx4
              rw [er]
              exact nx4
            first
              | exact e2
              | omega
              | (rw [List.length_append]; show us1.length + 1 + _ ≤ _; omega)
              | (rw [flat_snoc, List.length_append]; show (KM.flat us1).length + 1 + _ ≤ _; omega))
      · have : n = 0 := by simpa using hb
        rw [hn, this]
      · show Ss _ (FY (F0 H m) (N + 146)).p _ _ _ _
        exact ss_rt (rn_ret (ev_var rfl)) (fun H' p => ⟨⟨us, rfl, hW⟩, p⟩)⟩
def sp_full_row (K : PySem.W.Frag) : Sp := spM K 201 fun es Po => ∃ M, es = [wayD M, .int 18] ∧ Po = fun d => ∃ us, d = keysD (KM.flat us) ∧ Whole M us
theorem sc_full_row : FnScope ["_law_m", "_law_way", "_law_most", "_law_keys", "_law_state"] ["_law_m", "_law_way", "_law_most"] (defScope s_full_row) := ⟨rfl, rfl, rfl, by decide +kernel, rfl, by decide +kernel, by decide +kernel⟩
theorem cal_full_row (T : Tx K mg) : C8.Cal P w K mg base 4 "_law_full_row" (sp_full_row K) [] :=
  cal_of T.d_full_row T.g_full_row sc_full_row (fun _ _ _ _ _ _ us hl => match us, hl with | [_, _, _], _ => rfl)
    (spM_len fun es Po ⟨_, e, _⟩ => by rw [e]; rfl) fun cdv A outer s H E hr => ⟨_, (pss_cons (ps_asg (C8.pe_c (cal_row T) hr (by decide) (by rfl) (pa_cons (pv 0) (pa_cons (pv 1) (pa_cons (pv 2) pa_nil)))) (pg_tup (n := 2) rfl (pgs_cons (pg_name (i := 3) sc_full_row.nd rfl (Or.inl rfl)) (pgs_cons (pg_name (i := 4) sc_full_row.nd rfl (Or.inl rfl)) pgs_nil)))) (pss_one (ps_ret (C8.pe_c (cal_ended T) hr (by decide) (by rfl) (pa_cons (pv 0) (pa_cons (pv 1) (pa_cons (pv 3) (pa_cons (pv 4) pa_nil)))))))), spM_by _ <| by
      rintro m N es Po ⟨M, rfl, rfl⟩ hN hm
      clear hr
      show Ss _ _ _ [some (.adr m.a), some (wayD M), some (.int 18), none, none] _ _
      refine ss_toE (ι := List KM.Un) (Γi := fun us => [some (.adr m.a), some (wayD M), some (.int 18), some (keysD (KM.flat us)), some (rdD (rdu M us))]) (Bi := fun us H' => (KM.oks M KM.Rd.start us = true ∧ us.length ≤ 36) ∧ (FY (F0 H m) (N + 55)).p H')
        (ss_unpE (is := [3, 4]) (se_callM rfl (ea_cons (ev_var rfl) (ea_cons (ev_var rfl) (ea_cons (ev_var rfl) ea_nil))) ⟨M, rfl, rfl⟩ (by omega)) rfl (fun d H' ⟨⟨us, e, h⟩, p⟩ => by subst e; exact ⟨rfl, rfl, rfl, us, rfl, h, p⟩)) (fun us => ss_fact fun h => ?_)
      exact ss_ret (se_mono (se_callM rfl (ea_cons (ev_var rfl) (ea_cons (ev_var rfl) (ea_cons (ev_var rfl) (ea_cons (ev_var rfl) ea_nil)))) ⟨M, us, rfl, h, rfl⟩ (by omega)) (fun d H' ⟨hd, p⟩ => ⟨hd, FY.le p (by omega)⟩))⟩
end
end KH

/-! part K17 -/
set_option Elab.async false
set_option linter.all false
set_option maxRecDepth 100000
set_option maxHeartbeats 4000000
namespace KH
open PySem PySem.Spec PyProof.Rows L2 KD
section
variable {P : Program} {w : World} {K : PySem.W.Frag} {mg : Str → Option Value} {base : Heap}
section
variable {L L' : Rel K} {A : Hp → Prop} {Γ : Ga} {t : TS} {Nn : Ga → Hp → Prop} {R : D → Hp → Prop} {H0 : Hp} {b q : Addr} {fs : List Int} {Y : Hy} {tr : TA} {ta to ti tv te : TE} {xs : List Int} {Rr : Hp → Hp → Prop}
theorem ss_weak (h : ∀ H H', L.r H H' → L'.r H H') (s : Ss L A t Γ Nn R) : Ss L' A t Γ Nn R := fun σ H E a e k kr => s σ H E a e (fun G σ' H' r => k G σ' H' (h _ _ r)) (fun d v H' r => kr d v H' (h _ _ r))
/-- what stood in H0 goes on standing -/
def relS (K : PySem.W.Frag) (H0 : Hp) : Rel K := ⟨fun H H' => Fz H H' ∧ (Same H0 H → Same H0 H'), fun H => ⟨Fz.refl H, id⟩, fun h h' => ⟨Fz.trans h.1 h'.1, fun s => h'.2 (h.2 s)⟩, fun s => ⟨Fz.of s, fun z => z.trans s⟩, D.fz, fun h r q => Dt.fzm r.1 _ _ h q⟩
/-- a list of numbers at b, new since H0 -/
def FoY (H0 : Hp) (b : Addr) (fs : List Int) : Hy := ⟨fun H => Same H0 H ∧ H0 b = none ∧ H b = some (.lst (fs.map V.int)), fun _ _ s h => ⟨h.1.trans s, h.2.1, s _ _ h.2.2⟩⟩
theorem ev_fo (h : Ev K (FoY H0 b fs) te Γ (.adr b)) : Ev K (FoY H0 b fs) te Γ (.lst (fs.map D.int)) := ev_lstA h fun H p => ⟨b, _, rfl, p.2.2, dt_ints fs⟩
theorem ss_fset {h : Nat} {y : Int} (hv : Ev K (FoY H0 b fs) tv Γ (.int y)) (ho : Ev K (FoY H0 b fs) to Γ (.adr b)) (hi : Ev K (FoY H0 b fs) ti Γ (.int h)) (hl : h < fs.length) (g : okG (relS K H0) Γ = true) :
    Ss (relS K H0) (FoY H0 b fs).p (tAsg tv (gSub to ti rSetL)) Γ (fun G H => G = Γ ∧ (FoY H0 b (fs.set h y)).p H) R := fun σ H E p e q _ =>
  hv σ H p e _ fun v H1 s1 h1 => ho σ H1 ((FoY H0 b fs).st _ _ s1 p) (e.mono s1) _ fun x H2 s2 h2 => hi σ H2 ((FoY H0 b fs).st _ _ (s1.trans s2) p) (e.mono (s1.trans s2)) _ fun i H3 s3 h3 => by
    obtain ⟨sm, n0, eb⟩ := (FoY H0 b fs).st _ _ ((s1.trans s2).trans s3) p
    have e1 : v = .int y := h1
    subst e1
    have fz : Fz H3 (upd H3 b (.lst ((fs.map V.int).set h (.int y)))) := fz_upd fun zs z => by rw [eb] at z; cases z
    have sm2 : Same H0 (upd H3 b (.lst ((fs.map V.int).set h (.int y)))) := fun c o z => by
      rw [upd_ne (ne_of_none z n0)]
      exact sm _ _ z
    refine ⟨b, fs.map V.int, (h : Int), h, h2, h3, eb, ixN_at (by rw [List.length_map]; exact hl), q Γ σ _ ((relS K H0).trans ((relS K H0).same ((s1.trans s2).trans s3)) ⟨fz, fun _ => sm2⟩) ⟨rfl, sm2, n0, ?_⟩ (Slots.rel (L := relS K H0) (e.mono ((s1.trans s2).trans s3)) g ⟨fz, fun _ => sm2⟩)⟩
    rw [upd_same, List.map_set]
theorem seqL {H H' : Hp} {a : Addr} {ys : List V} (e : Same H H') (h : SqL K H a ys) : SqL K H' a ys := by
  rcases h with (h | ⟨o, h⟩) | h
  · exact .inl (.inl (e _ _ h))
  · exact .inl (.inr ⟨o, e _ _ h⟩)
  · exact .inr h
/-- enumerate of a list of numbers that stays -/
theorem wi_enA (h : Ea K Y tr Γ [.adr q]) (hY : ∀ H, Y.p H → Same H0 H) (hq : SqL K H0 q (xs.map V.int)) : WiR K Y (relS K H0).r (iEnum K tr) Γ xs.length (fun i d => ∃ c, xs[i]? = some c ∧ d = .tup [.int i, .int c]) := fun σ H a e R k =>
  h σ H a e _ fun vs H1 s1 h1 => by
    obtain ⟨v, e1, h2⟩ := dtl1 h1
    have e2 : v = .ref q := h2
    subst e2
    have sH : Same H0 H1 := hY _ (Y.st _ _ s1 a)
    refine ⟨q, xs.map V.int, e1, seqL sH hq, k _ H1 s1 ⟨_, _, by rw [← List.length_map (f := V.int) (as := xs)]; exact walk_enum (K := K) (a := q) (xs := xs.map V.int), fun H2 s2 => seqL (s2.2 sH) hq, fun i H2 v H3 hi s2 z => ?_⟩⟩
    obtain ⟨T, w1, w2, z1, z2, z3, z4, z5⟩ := z
    have z4' : V.int (i : Nat) = w1 := Option.some.inj z4
    subst z1 z3 z4'
    have z5 : (xs.map V.int)[i]? = some w2 := z5
    rw [List.getElem?_map] at z5
    obtain ⟨x, hx⟩ : ∃ x, xs[i]? = some x := ⟨_, List.getElem?_eq_getElem hi⟩
    rw [hx] at z5
    have z6 : V.int x = w2 := Option.some.inj z5
    subst z6
    obtain ⟨s3, h4⟩ := pair_new (K := K) (c := .int (i : Nat)) (c' := .int x) z2 rfl rfl
    exact ⟨s3, _, ⟨x, hx, rfl⟩, h4⟩
end
theorem ints_of {H : Hp} : ∀ (l : List Int) (zs : List V), DtL K H (l.map D.int) zs → zs = l.map V.int
  | [], _, h => h
  | x :: l, _, h => by
    obtain ⟨v, r, e1, h1, h2⟩ := h
    rw [e1, show v = .int x from h1, ints_of l r h2]
    rfl
def CellsOk (fs : List Int) : Prop := fs.length = 64 ∧ ∀ x ∈ fs, 0 ≤ x ∧ x < 2147483647
theorem CellsOk.set {fs : List Int} (h : CellsOk fs) (i : Nat) (z : Int) : CellsOk (fs.set i (z % 2147483647)) := ⟨by rw [List.length_set]; exact h.1, fun x hx => by
  rcases List.mem_or_eq_of_mem_set hx with e | e
  · exact h.2 x e
  · rw [e]; omega⟩
def start64 : List Int := (List.range 64).map fun (i : Nat) => 17 + (i : Int)
theorem start_ok : CellsOk start64 := ⟨rfl, fun x hx => by
  obtain ⟨i, hi, e⟩ := List.mem_map.mp hx
  have := List.mem_range.mp hi
  omega⟩
def sp_folded (K : PySem.W.Frag) : Sp := spS (relF K) fun H ds B => ∃ (q : Addr) (xs : List Int), ds = [.adr q] ∧ SqL K H q (xs.map V.int) ∧ xs.length ≤ 63 ∧ B = fun d H' => Same H H' ∧ ∃ c fs, d = .adr c ∧ H' c = some (.lst (fs.map V.int)) ∧ CellsOk fs
theorem sc_folded : FnScope ["_law_script", "_law_found", "_law_n", "_law_cell"] ["_law_script"] (defScope s_folded) := ⟨rfl, rfl, rfl, by decide +kernel, rfl, by decide +kernel, by decide +kernel⟩
theorem cal_folded (T : Tx K mg) : C8.Cal P w K mg base 1 "_law_folded" (sp_folded K) [] :=
  cal_of T.d_folded T.g_folded sc_folded (fun _ _ _ _ _ _ us hl => match us, hl with | [_], _ => rfl)
    (spS_len fun H ds B ⟨_, _, e, _⟩ => by rw [e]; rfl) fun cdv A outer s H E hr => ⟨_, (pss_cons (ps_setLc (i := 1) (own := [("_law_n", 2)]) rfl sc_folded.nd rfl rfl (sw_true rfl rfl rfl (by decide +kernel)) (pi_range1 rfl T.b_range (pa_cons pe_int pa_nil)) (blkOk_by (N := ["_law_script", "_law_found", "_law_n", "_law_cell"]) (sc := defScope s_folded) (by decide +kernel)) (fun _ _ _ _ _ => (pg_name (i := 2) sc_folded.nd rfl (Or.inl rfl))) (fun _ _ _ _ _ => pts_nil) (fun _ _ _ _ _ => (pe_op op_add pe_int (pv 2)))) (pss_cons (ps_for PassesOwn.never rfl (pi_enum (by rfl) T.b_enumerate (pa_cons (pv 0) pa_nil)) (pg_tup (n := 2) rfl (pgs_cons (pg_name (i := 2) sc_folded.nd rfl (Or.inl rfl)) (pgs_cons (pg_name (i := 3) sc_folded.nd rfl (Or.inl rfl)) pgs_nil))) (pss_one (ps_asg (pe_op op_mod (pe_callTy call_int1 (by rfl) T.b_int (by decide +kernel) (pa_cons (pe_op op_add (pe_op op_mul (pe_ix ix_list (pv 1) (pe_op op_mod (pe_callTy call_int1 (by rfl) T.b_int (by decide +kernel) (pa_cons (pv 2) pa_nil)) pe_int) (fun _ _ => rfl)) pe_int) (pv 3)) pa_nil)) pe_int) (pg_sub (pv 1) (pe_op op_mod (pe_callTy call_int1 (by rfl) T.b_int (by decide +kernel) (pa_cons (pv 2) pa_nil)) pe_int) set_list)))) (pss_cons (ps_for PassesOwn.never rfl (pi_range2 rfl T.b_range (pa_cons pe_int (pa_cons pe_int pa_nil))) (pg_name (i := 2) sc_folded.nd rfl (Or.inl rfl)) (pss_one (ps_asg (pe_op op_mod (pe_callTy call_int1 (by rfl) T.b_int (by decide +kernel) (pa_cons (pe_op op_add (pe_ix ix_list (pv 1) (pv 2) (fun _ _ => rfl)) (pe_op op_mul (pe_ix ix_list (pv 1) (pe_op op_sub (pv 2) pe_int) (fun _ _ => rfl)) pe_int)) pa_nil)) pe_int) (pg_sub (pv 1) (pv 2) set_list)))) (pss_one (ps_ret (pv 1)))))), spS_by _ <| by
      rintro ds B ⟨q, xs, rfl, eq, hl, rfl⟩
      clear hr
      refine ⟨(sameY H).p, Same.refl H, ?_⟩
      show Ss _ _ _ [some (.adr q), none, none, none] _ _
      obtain ⟨Hs, hHs⟩ : ∃ Hs, Hs = H := ⟨H, rfl⟩
      rw [← hHs] at eq ⊢
      have sHs : Same Hs Hs := Same.refl Hs
      refine ss_weak (L := relS K Hs) (L' := relF K) (fun _ _ h => h.1) ?_
      refine ss_toE (ι := Addr) (Γi := fun b => [some (.adr q), some (.adr b), none, none]) (Bi := fun b => (FoY Hs b start64).p) ?_ fun b => ?_
      · -- the first list
        intro σ H2 E2 a2 e2 k2 _
        have ef := ef_lcM (K := K) (A := sameY Hs) (Γ := [some (.adr q), none, none, none]) (te := tOp (rI0 fun i j => .int (i + j)) (tC (.int 17)) (tVar 2)) (vs := [2]) (List.range 64) (fun (i : Nat) => D.int (17 + (i : Int))) (wi_rng1 (j := 64) (ea_cons ev_int ea_nil) (by decide)) (tg_name 2) (by decide) (by decide) (by decide) (fun _ _ => rfl) (fun i d hi hd => by
          subst hd
          exact ⟨trivial, i, List.getElem?_range (show i < 64 from hi), ev_add ev_int (ev_var rfl)⟩)
        refine ef σ H2 a2 e2 _ fun b ys H3 s3 nb eb hy => ?_
        have sb : Same Hs H3 := a2.trans s3
        refine k2 _ _ H3 ((relS K Hs).same s3) ⟨b, rfl, sb, none_back a2 nb, ?_⟩ ((e2.mono s3).set (d := .adr b) rfl)
        rw [eb]
        have hy' : DtL K H3 (start64.map D.int) ys := by unfold start64; rw [List.map_map]; exact hy
        rw [ints_of _ _ hy']
      · refine ss_toE (ι := List Int) (Γi := fun fs => [some (.adr q), some (.adr b), none, none]) (Bi := fun fs H' => CellsOk fs ∧ (FoY Hs b fs).p H')
          (ss_for (Y := FoY Hs b start64) (n := xs.length) (fun i G H' => ∃ fs, (G = [some (.adr q), some (.adr b), none, none] ∧ CellsOk fs) ∧ (FoY Hs b fs).p H') (wi_enA (ea_cons (ev_var rfl) ea_nil) (fun _ p => p.1) eq) (tg_tup 2 [2, 3]) (fun H' p => ⟨start64, ⟨rfl, start_ok⟩, p⟩) (fun i G Ha Hb s ⟨fs, h, p⟩ => ⟨fs, h, (FoY Hs b fs).st _ _ s p⟩) ?_ (fun G H' ⟨fs, ⟨e, h⟩, p⟩ => ⟨fs, e, h, p⟩)) fun fs => ss_fact fun hfs => ?_
        · rintro i d G hi ⟨c, hc, rfl⟩
          refine ⟨⟨rfl, rfl, rfl⟩, ss_ex fun fs => ss_fact fun ⟨eG, hfs⟩ => ?_⟩
          subst eG
          show Ss _ (FoY Hs b fs).p _ [some (.adr q), some (.adr b), some (.int (i : Int)), some (.int c)] _ _
          have hm : i % 64 < fs.length := by rw [hfs.1]; exact Nat.mod_lt _ (by decide)
          refine ss_mono (ss_fset (h := i % 64) (ev_rI (ev_intI (ea_cons (ev_add (ev_rI (ev_ixL (ev_fo (ev_var rfl)) (ev_as (ev_rI (ev_intI (ea_cons (ev_var rfl) ea_nil)) ev_int (by decide)) (d' := .int ((i % 64 : Nat) : Int)) rfl) (atI_int hm)) ev_int (.inr ⟨by decide, by decide⟩)) (ev_var rfl)) ea_nil)) ev_int (by decide)) (ev_var rfl) (ev_as (ev_rI (ev_intI (ea_cons (ev_var rfl) ea_nil)) ev_int (by decide)) (d' := .int ((i % 64 : Nat) : Int)) rfl) hm rfl) (fun _ p => p) (fun G H' p => ⟨[some (.adr q), some (.adr b), none, none], ?_, _, ⟨rfl, hfs.set _ _⟩, p.2⟩) (fun _ _ p => p)
          rw [p.1]
          exact ⟨.inr rfl, .inr rfl, .inl rfl, .inl rfl, trivial⟩
        · refine ss_toE (ι := List Int) (Γi := fun fs => [some (.adr q), some (.adr b), none, none]) (Bi := fun fs H' => CellsOk fs ∧ (FoY Hs b fs).p H')
            (ss_for (Y := FoY Hs b fs) (n := 63) (fun i G H' => ∃ fs, (G = [some (.adr q), some (.adr b), none, none] ∧ CellsOk fs) ∧ (FoY Hs b fs).p H') (wi_rng2 (i0 := 1) (j := 64) (ea_cons ev_int (ea_cons ev_int ea_nil)) (by decide)) (tg_name 2) (fun H' p => ⟨fs, ⟨rfl, hfs⟩, p⟩) (fun i G Ha Hb s ⟨fs, h, p⟩ => ⟨fs, h, (FoY Hs b fs).st _ _ s p⟩) ?_ (fun G H' ⟨fs, ⟨e, h⟩, p⟩ => ⟨fs, e, h, p⟩)) fun fs => ss_fact fun hfs => ?_
          · rintro i d G hi rfl
            refine ⟨trivial, ss_ex fun fs => ss_fact fun ⟨eG, hfs⟩ => ?_⟩
            subst eG
            show Ss _ (FoY Hs b fs).p _ [some (.adr q), some (.adr b), some (.int (1 + (i : Int))), none] _ _
            have hm : i + 1 < fs.length := by rw [hfs.1]; omega
            have hm0 : i < fs.length := by omega
            have e1 : (1 + (i : Int)) = ((i + 1 : Nat) : Int) := by omega
            have e0 : (1 + (i : Int)) - 1 = ((i : Nat) : Int) := by omega
            refine ss_mono (ss_fset (h := i + 1) (ev_rI (ev_intI (ea_cons (ev_add (ev_ixL (ev_fo (ev_var rfl)) (ev_as (ev_var rfl) (congrArg D.int e1)) (atI_int hm)) (ev_rI (ev_ixL (ev_fo (ev_var rfl)) (ev_as (ev_sub (ev_var rfl) ev_int) (congrArg D.int e0)) (atI_int hm0)) ev_int (.inr ⟨by decide, by decide⟩))) ea_nil)) ev_int (by decide)) (ev_var rfl) (ev_as (ev_var rfl) (congrArg D.int e1)) hm rfl) (fun _ p => p) (fun G H' p => ⟨[some (.adr q), some (.adr b), none, none], ?_, _, ⟨rfl, hfs.set _ _⟩, p.2⟩) (fun _ _ p => p)
            rw [p.1]
            exact ⟨.inr rfl, .inr rfl, .inl rfl, .inl rfl, trivial⟩
          · exact ss_rt (Y := FoY Hs b fs) (rn_ret (ev_var rfl)) (fun H' p => ⟨sHs.trans p.1, b, fs, rfl, p.2.2, hfs⟩)⟩
end
end KH

/-! part K18 -/
set_option Elab.async false
set_option linter.all false
set_option maxRecDepth 100000
set_option maxHeartbeats 4000000
namespace KH
open PySem PySem.Spec PyProof.Rows L2 KD
section
variable {P : Program} {w : World} {K : PySem.W.Frag} {mg : Str → Option Value} {base : Heap}
/-- a walk of a list of numbers that stays -/
theorem wi_lstA {Y : Hy} {Γ : Ga} {te : TE} {q : Addr} {xs : List Int} {H0 : Hp} (h : Ev K Y te Γ (.adr q)) (hY : ∀ H, Y.p H → Same H0 H) (hq : SqL K H0 q (xs.map V.int)) : WiR K Y Same (iList K te) Γ xs.length (fun i d => ∃ x, xs[i]? = some x ∧ d = .int x) := fun σ H a e R k =>
  h σ H a e _ fun v H1 s1 h1 => by
    have e1 : v = .ref q := h1
    have sH : Same H0 H1 := hY _ (Y.st _ _ s1 a)
    refine ⟨q, e1, ⟨_, seqL sH hq⟩, k _ H1 s1 ⟨_, _, by rw [← List.length_map (f := V.int) (as := xs)]; exact walk_list (K := K) (a := q) (xs := xs.map V.int), fun H2 s2 => seqL s2 (seqL sH hq), fun i H2 v H3 hi s2 z => ?_⟩⟩
    obtain ⟨e2, h4⟩ := z
    rw [List.getElem?_map] at h4
    obtain ⟨x, hx⟩ : ∃ x, xs[i]? = some x := ⟨_, List.getElem?_eq_getElem hi⟩
    rw [hx] at h4
    have e3 : V.int x = v := Option.some.inj h4
    rw [e2]
    exact ⟨Same.refl _, .int x, ⟨x, hx, rfl⟩, e3.symm⟩
abbrev kC : Key := .inr ("cells" : Str)
abbrev kG : Key := .inr ("great" : Str)
abbrev kS : Key := .inr ("spot" : Str)
theorem merge_m (c g : Addr) : mergeK [] ([(kC, V.ref c), (kG, .ref g), (kS, .int 0)] : List (Key × V)) = mKV c g 0 := by
  unfold mergeK
  show putK (putK (putK ([] : List (Key × V)) kC (.ref c)) kG (.ref g)) kS (.int 0) = _
  have e1 : putK ([] : List (Key × V)) kC (.ref c) = [(kC, .ref c)] := putK_new _ valV_nil
  have e2 : putK ([(kC, V.ref c)] : List (Key × V)) kG (.ref g) = [(kC, .ref c), (kG, .ref g)] := putK_new _ ((valV_neg kne1).trans valV_nil)
  have e3 : putK ([(kC, V.ref c), (kG, .ref g)] : List (Key × V)) kS (.int 0) = [(kC, .ref c), (kG, .ref g), (kS, .int 0)] := putK_new _ ((valV_neg kne2).trans ((valV_neg kne3).trans valV_nil))
  rw [e1, e2, e3]
  rfl
theorem put_great (c g g' : Addr) : putK (mKV c g 0) (.inr ("great" : Str)) (.ref g') = mKV c g' 0 := by
  unfold putK
  have h : ((mKV c g 0).any fun kv => decide (kv.1 = .inr ("great" : Str))) = true := by rw [valV_any, mv_great]; rfl
  have kne3' : ¬ ((.inr ("spot" : Str) : Key) = .inr ("great" : Str)) := fun z => kne3 z.symm
  rw [if_pos h]
  unfold mKV
  rw [List.map_cons, List.map_cons, List.map_cons, List.map_nil, if_neg kne1, if_pos rfl, if_neg kne3']
structure BX (Hs : Hp) (p c g : Addr) (fs : List Int) (H : Hp) : Prop where
  s : Same Hs H
  n : Hs p = none
  d : H p = some (.dK (mKV c g 0))
  c : H c = some (.lst (fs.map V.int))
def BY (Hs : Hp) (p c g : Addr) (fs : List Int) : Hy := ⟨fun H => BX Hs p c g fs H, fun _ _ s h => ⟨h.s.trans s, h.n, s _ _ h.d, s _ _ h.c⟩⟩
def sp_begun (K : PySem.W.Frag) : Sp := spS (relF K) fun H ds B => ∃ (q : Addr) (xs : List Int), ds = [.adr q] ∧ SqL K H q (xs.map V.int) ∧ xs.length ≤ 63 ∧ B = fun d H' => ∃ m : Ad, d = .adr m.a ∧ mAt m 0 H'
theorem sc_begun : FnScope ["_law_script", "_law_m", "_law_cell"] ["_law_script"] (defScope s_begun) := ⟨rfl, rfl, rfl, by decide +kernel, rfl, by decide +kernel, by decide +kernel⟩
theorem cal_begun (T : Tx K mg) : C8.Cal P w K mg base 2 "_law_begun" (sp_begun K) [] :=
  cal_of T.d_begun T.g_begun sc_begun (fun _ _ _ _ _ _ us hl => match us, hl with | [_], _ => rfl)
    (spS_len fun H ds B ⟨_, _, e, _⟩ => by rw [e]; rfl) fun cdv A outer s H E hr => ⟨_, (pss_cons (ps_set (i := 1) sc_begun.nd rfl (Or.inl rfl) (pe_disp (pps_cons pe_str (C8.pe_c (cal_folded T) hr (by decide) (by rfl) (pa_cons (pv 0) pa_nil)) (pps_cons pe_str (pe_lst pa_nil) (pps_cons pe_str pe_int pps_nil))) (by rfl) (by rfl) (fun z => by cases z) (by decide))) (pss_cons (ps_dput (hu_of hr) (pv 1) pe_str (pe_lc (own := [("_law_cell", 2)]) rfl sc_begun.nd (pi_list (pv 0)) (blkOk_by (N := ["_law_script", "_law_m", "_law_cell"]) (sc := defScope s_begun) (by decide +kernel)) (fun _ _ _ _ _ => (pg_name (i := 2) sc_begun.nd rfl (Or.inl rfl))) (fun _ _ _ _ _ => pts_nil) (fun _ _ _ _ _ => (pe_ifExp (pt_cmpR op_ge (pv 2) (pe_op op_pow pe_int pe_int) (nomark _)) (pv 2) pe_int))) rfl) (pss_one (ps_ret (pv 1))))), spS_by _ <| by
      rintro ds B ⟨q, xs, rfl, eq, hl, rfl⟩
      clear hr
      refine ⟨(sameY H).p, Same.refl H, ?_⟩
      show Ss _ _ _ [some (.adr q), none, none] _ _
      obtain ⟨Hs, hHs⟩ : ∃ Hs, Hs = H := ⟨H, rfl⟩
      rw [← hHs] at eq ⊢
      refine ss_toE (ι := Addr × Addr × Addr × List Int) (Γi := fun i => [some (.adr q), some (.adr i.1), none]) (Bi := fun i H' => CellsOk i.2.2.2 ∧ (BY Hs i.1 i.2.1 i.2.2.1 i.2.2.2).p H') ?_ (fun ⟨p, c, g, fs⟩ => ss_fact fun hfs => ?_)
      · intro σ H2 E2 a2 e2 k2 _ p hp
        have a2' : Same Hs H2 := a2
        have s3 : Same H2 (upd H2 p (.dK [])) := Same.new hp
        have se := se_callX (K := K) (L := relF K) (Y := sameY (upd H2 p (.dK []))) (E := C8.E0) (sp := sp_folded K) (Γ := [some (.adr q), none, none]) (tr := tCons (tVar 0) tNil) (ds := [.adr q]) (B := fun d H' => Same (upd H2 p (.dK [])) H' ∧ ∃ c fs, d = .adr c ∧ H' c = some (.lst (fs.map V.int)) ∧ CellsOk fs) rfl
          (ea_cons (ev_var rfl) ea_nil) (fun H' p' => ⟨_, ⟨q, xs, rfl, seqL ((a2'.trans s3).trans p') eq, hl, rfl⟩, fun d H4 _ ⟨s4, h4⟩ => ⟨Same.trans p' s4, h4⟩⟩)
        refine se σ (upd H2 p (.dK [])) (Same.refl _) (e2.mono s3) _ fun d y H4 r4 ⟨s4, c, fs, ed, ec, hfs⟩ hy => ?_
        subst ed
        have ey : y = .ref c := hy
        subst ey
        refine ⟨by show 0 ≤ sizeLine; decide, fun g hg => ?_⟩
        have s5 : Same H4 (upd H4 g (.lst [])) := Same.new hg
        have ep : upd H4 g (.lst []) p = some (.dK []) := s5 _ _ (s4 _ _ upd_same)
        refine ⟨ep, ([(kC, V.ref c), (kG, .ref g), (kS, .int 0)] : List (Key × V)), rfl, by show 3 ≤ 15; decide, ?_⟩
        rw [merge_m]
        have cp : c ≠ p := fun z => by rw [z, s4 _ _ upd_same] at ec; cases ec
        have hsp : Hs p = none := none_back a2' hp
        have sm : Same Hs (upd (upd H4 g (.lst [])) p (.dK (mKV c g 0))) := fun b o z => by
          rw [upd_ne (ne_of_none z hsp)]
          exact s5 _ _ (s4 _ _ (s3 _ _ (a2' _ _ z)))
        have fz : Fz H2 (upd (upd H4 g (.lst [])) p (.dK (mKV c g 0))) := Fz.trans (Fz.of ((s3.trans s4).trans s5)) (fz_upd fun zs z => by rw [ep] at z; cases z)
        exact k2 _ _ _ fz ⟨(p, c, g, fs), rfl, hfs, sm, hsp, upd_same, by rw [upd_ne cp]; exact s5 _ _ ec⟩ ((Slots.rel (L := relF K) e2 rfl fz).set (d := .adr p) rfl)
      · show Ss _ (BY Hs p c g fs).p _ [some (.adr q), some (.adr p), none] _ _
        refine ss_toE (ι := Ad) (Γi := fun m => [some (.adr q), some (.adr m.a), none]) (Bi := fun m => mAt m 0) ?_ (fun m σ H2 E2 a2 e2 _ kr2 => ?_)
        · intro σ H2 E2 a2 e2 k2 _
          have ef := ef_lcM (K := K) (A := BY Hs p c g fs) (Γ := [some (.adr q), some (.adr p), none]) (te := tIf (tTest (tOp (rI0 fun i j => .bl (decide (j ≤ i))) (tVar 2) (tOp (rI CPow fun i j => .int (i ^ j.toNat)) (tC (.int 10)) (tC (.int 18))))) (tVar 2) (tC (.int 0))) (vs := [2]) xs (fun x => D.int (if decide (10 ^ (18 : Int).toNat ≤ x) = true then x else 0))
            (wi_lstA (ev_var (i := 0) rfl) (fun _ p => p.s) eq) (tg_name 2) (by decide) rfl (by omega) (fun _ _ => rfl) (fun i d hi hd => by
            obtain ⟨x, hx, rfl⟩ := hd
            exact ⟨trivial, x, hx, ev_ifI (et_test (ev_cmpI (ev_var rfl) (ev_rI ev_int ev_int ⟨by decide, by decide, by decide⟩))) (fun _ => ev_var rfl) (fun _ => ev_int)⟩)
          refine ef σ H2 a2 e2 _ fun b ys H3 s3 nb eb hy => ?_
          have x3 := (BY Hs p c g fs).st _ _ s3 a2
          refine (ev_var (K := K) (A := Hy.tt) (i := 1) (d := .adr p) rfl : Ev K Hy.tt (tVar 1) [some (.adr q), some (.adr p), none] (.adr p)) σ H3 trivial (e2.mono s3) _ fun vp H4 s4 hvp => ?_
          have evp : vp = .ref p := hvp
          subst evp
          have x4 := (BY Hs p c g fs).st _ _ s4 x3
          have dp := DPut.k (k := .inr ("great" : Str)) (v := .ref b) x4.d (by show 3 < sizeLine; decide)
          rw [put_great] at dp
          have bp : b ≠ p := fun z => by rw [z, a2.d] at nb; cases nb
          have bc : b ≠ c := fun z => by rw [z, a2.c] at nb; cases nb
          have cp : c ≠ p := fun z => by have := x4.c; rw [z, x4.d] at this; cases this
          have fz : Fz H2 (upd H4 p (.dK (mKV c b 0))) := Fz.trans (Fz.of (s3.trans s4)) (fz_upd fun zs z => by rw [x4.d] at z; cases z)
          have eys : ys = (xs.map fun x => if decide (10 ^ (18 : Int).toNat ≤ x) = true then x else 0).map V.int := ints_of (K := K) (H := H3) _ _ (by rw [List.map_map]; exact hy)
          refine ⟨p, _, rfl, dp, k2 _ _ _ fz ⟨⟨p, b, c⟩, rfl, 0, fs, xs.map fun x => if decide (10 ^ (18 : Int).toNat ≤ x) = true then x else 0, Nat.le_refl _, ?_, fun z => bc z.symm, ?_, hfs.1, hfs.2, ?_, by rw [List.length_map]; exact hl⟩ (Slots.rel (L := relF K) e2 rfl fz)⟩
          · exact upd_same
          · show upd H4 p _ c = _
            rw [upd_ne cp]; exact x4.c
          · show upd H4 p _ b = _
            rw [upd_ne bp, s4 _ _ eb, eys]
        · exact (rn_ret (ev_var rfl) : Rn K Hy.tt _ [some (.adr q), some (.adr m.a), none] (.rt (.adr m.a))) σ H2 E2 trivial e2 fun v H' s h' => kr2 _ v H' (Fz.of s) ⟨m, rfl, a2.st s⟩ h'⟩
end
end KH

/-! part KB -/
set_option Elab.async false
set_option linter.all false
set_option maxRecDepth 100000
set_option maxHeartbeats 4000000
/-! sets of tuples of texts: every tuple that is put in is found in it, and nothing else -/
namespace KB
open PySem PySem.Spec PyProof.Rows L2
abbrev TkS (P : Program) (w : World) (h : Heap) (k : List Str) (b : Addr) : Prop := IsTupleKey (strKind P w) h k b
abbrev hk (P : Program) (w : World) (k : List Str) : Int := tupleKeyHash (strKind P w) k
abbrev Key1 := Addr × List Str
section
variable {P : Program} {w : World} {A : Around} {E : Value → Shared → Prop} {s : Shared} {k : List Str} {b : Addr}
theorem texts_of {vs : List Value} (r : ItemsAre (strKind P w) k vs) : ∀ v ∈ vs, ∃ z t, v = Value.str z t := by
  induction r with
  | nil => exact fun v m => nomatch m
  | @cons z u _ us hu _ ih =>
    intro v m
    rcases List.mem_cons.mp m with c | c
    · obtain ⟨t, c2⟩ := Value.isStrOf_shape (show Value.isStrOf z u = true from hu)
      exact ⟨z, t, c.trans c2⟩
    · exact ih v c
theorem cls_text (n : Nat) (z : Str) (t : Tok) : ofAClassStatement n (.str z t) = pure false := by cases n <;> rfl
theorem hbv_text (n : Nat) (z : Str) (t : Tok) : hashByValue n (.str z t) = pure false := by cases n <;> rfl
theorem cls_tup (x : TkS P w s.heap k b) {Q : Bool → Shared → Prop} (q : Q false s) : wpAny (model P w) A (ofAClassStatement 8 (.ref b)) Q E s := by
  have ty := x.typeIs
  obtain ⟨ob, its, c, ho1, _, hd1, hi1⟩ := x
  unfold ofAClassStatement
  refine wpAny_bind (wpAny_typeOf ty ?_)
  dsimp only
  have tt : (("tuple" : String) == "tuple") = true := by decide
  simp only [tt, if_true, Bool.not_true, Bool.false_eq_true, if_false]
  try refine wpAny_bind (wpAny_pure ?_)
  try simp only [Bool.not_true, Bool.false_eq_true, if_false]
  refine (?_ : wpAny _ _ (seqItems? (.ref b) >>= _) _ _ s)
  refine wpAny_bind (wpAny_seqItems ho1 hd1 ?_)
  dsimp only
  refine wpAny_bind ((?_ : wpAny _ _ (forIn its _ _) _ _ s))
  rw [← Array.forIn_toList]
  refine wpAny_forIn_list _ (fun l r s1 => (r.1 = none ∧ s1 = s) ∧ ∀ v ∈ l, ∃ z t, v = Value.str z t) _ ?_ ?_ _ _ ⟨⟨rfl, rfl⟩, texts_of hi1⟩
  · rintro v l r s1 ⟨⟨_, rfl⟩, al⟩
    obtain ⟨z, t, rfl⟩ := al v List.mem_cons_self
    rw [cls_text]
    refine wpAny_bind (wpAny_pure ?_)
    simp only [Bool.false_eq_true, if_false]
    exact wpAny_pure ⟨⟨rfl, rfl⟩, fun u m => al u (List.mem_cons_of_mem _ m)⟩
  · rintro ⟨r1, r2⟩ s1 ⟨⟨hr, rfl⟩, _⟩
    simp only at hr
    subst hr
    exact wpAny_pure q
/-- whether a tuple's hash is by value: one or the other -/
theorem hbv_tup (x : TkS P w s.heap k b) {Q : Bool → Shared → Prop} (q : ∀ c, Q c s) : wpAny (model P w) A (hashByValue 8 (.ref b)) Q E s := by
  have ty := x.typeIs
  obtain ⟨ob, its, c, ho1, _, hd1, hi1⟩ := x
  unfold hashByValue
  refine wpAny_bind (wpAny_specialOf ty F.slot_tuple_hash.lookup ?_)
  refine (?_ : wpAny _ _ (seqItems? (.ref b) >>= _) _ _ s)
  refine wpAny_bind (wpAny_seqItems ho1 hd1 ?_)
  refine wpAny_bind ((?_ : wpAny _ _ (forIn its _ _) _ _ s))
  rw [← Array.forIn_toList]
  refine wpAny_forIn_list _ (fun l r s1 => (r.1 = none ∧ s1 = s) ∧ ∀ v ∈ l, ∃ z t, v = Value.str z t) _ ?_ ?_ _ _ ⟨⟨rfl, rfl⟩, texts_of hi1⟩
  · rintro v l r s1 ⟨⟨_, rfl⟩, al⟩
    obtain ⟨z, t, rfl⟩ := al v List.mem_cons_self
    rw [hbv_text]
    refine wpAny_bind (wpAny_pure ?_)
    simp only [Bool.not_false, if_true]
    exact wpAny_pure (wpAny_pure (q false))
  · rintro ⟨r1, r2⟩ s1 ⟨⟨hr, rfl⟩, _⟩
    simp only at hr
    subst hr
    exact wpAny_pure (q true)
/-- a search among such tuples is not seen -/
theorem unseen (x : TkS P w s.heap k b) {ys : List Value} (al : ∀ y ∈ ys, ∃ k' c, y = Value.ref c ∧ TkS P w s.heap k' c) {Q : Bool → Shared → Prop} (q : Q false s) :
    wpAny (model P w) A (searchCouldBeSeen (.ref b) ys) Q E s := by
  unfold searchCouldBeSeen
  refine wpAny_bind ?_
  refine wpAny_forIn_list _ (fun l r s1 => (r.1 = none ∧ s1 = s) ∧ ∀ y ∈ l, ∃ k' c, y = Value.ref c ∧ TkS P w s.heap k' c) _ ?_ ?_ _ _ ⟨⟨rfl, rfl⟩, al⟩
  · rintro v l r s1 ⟨⟨_, rfl⟩, al⟩
    obtain ⟨k', c, rfl, y⟩ := al v List.mem_cons_self
    have al' : ∀ y ∈ l, ∃ k' c, y = Value.ref c ∧ TkS P w s1.heap k' c := fun u m => al u (List.mem_cons_of_mem _ m)
    dsimp only
    by_cases very : (b == c || (carriedByValue (.ref b) && carriedByValue (.ref c))) = true
    · exact wp_if_pos very (wpAny_pure ⟨⟨rfl, rfl⟩, al'⟩)
    · refine wp_if_neg very (wpAny_bind (wpAny_eqIsQuiet_tuple x ?_))
      simp only [Bool.not_true, Bool.false_eq_true, if_false]
      refine wpAny_bind (wpAny_eqIsQuiet_tuple y ?_)
      simp only [Bool.not_true, Bool.false_eq_true, if_false]
      refine wpAny_bind (cls_tup x ?_)
      simp only [Bool.false_eq_true, if_false]
      refine wpAny_bind (cls_tup y ?_)
      simp only [Bool.false_eq_true, if_false]
      exact wpAny_pure ⟨⟨rfl, rfl⟩, al'⟩
  · rintro ⟨r1, r2⟩ s1 ⟨⟨hr, rfl⟩, _⟩
    simp only at hr
    subst hr
    exact wpAny_pure q

/-! the table, and what stands in it: rows of the keys ks -/
def rowK (P : Program) (w : World) (p : Key1) : Int × Value := (hk P w p.2, .ref p.1)
structure Bag (P : Program) (w : World) (h : Heap) (a : Addr) (ks : List Key1) (es : Array (Int × Value)) (ep : Nat) (t : SetTable) : Prop where
  ob : ∃ o, h.get? a = some o ∧ o.ExactSet ∧ o.data = .set es ep t
  tab : TabOk t (es.toList.map (·.1))
  el : ∀ r ∈ es.toList, ∃ p ∈ ks, r = rowK P w p
  tk : ∀ p ∈ ks, TkS P w h p.2 p.1
  led : w.params.followText "set-order" = true ∨ t.led = true
  room : es.size * 5 < t.mask * 3
  few : es.size < 64
/-- the key k is in it -/
def In (P : Program) (w : World) (ks : List Key1) (es : Array (Int × Value)) (k : List Str) : Prop := ∃ p ∈ ks, p.2 = k ∧ rowK P w p ∈ es.toList
variable {a : Addr} {ks : List Key1} {es : Array (Int × Value)} {ep : Nat} {t : SetTable}
theorem Bag.sz (B : Bag P w s.heap a ks es ep t) : t.place.size = es.size := by
  have q := B.tab.sz
  rw [List.length_map, Array.length_toList] at q
  exact q
theorem Bag.fits (B : Bag P w s.heap a ks es ep t) : t.fits es.size = true := by
  have q := B.sz
  have r := B.room
  unfold SetTable.fits SetTable.fill
  rw [B.tab.dm, Bool.and_eq_true, beq_iff_eq, decide_eq_true_eq]
  refine ⟨q, ?_⟩
  show t.place.size + 0 ≤ t.mask
  omega
theorem Bag.gives (B : Bag P w s.heap a ks es ep t) : ¬ t.gaveWay = true := by
  unfold SetTable.gaveWay
  rw [mask_odd B.tab.mok]
  decide
theorem Bag.at_ (B : Bag P w s.heap a ks es ep t) {i j : Nat} (e : t.place.toList[i]? = some j) : ∃ p ∈ ks, es[i]? = some (rowK P w p) := by
  have l1 := (List.getElem?_eq_some_iff.mp e).1
  rw [Array.length_toList, B.sz] at l1
  have e2 : es.toList[i]? = some es[i] := by rw [Array.getElem?_toList]; exact Array.getElem?_eq_getElem l1
  obtain ⟨p, hp, er⟩ := B.el _ (List.mem_of_getElem? e2)
  exact ⟨p, hp, by rw [← Array.getElem?_toList, e2, er]⟩
/-- the c-th step of the way -/
abbrev stp (m : Nat) (g : Int) (c : Nat) : SetTable.Probe := nth m (runAt m (SetTable.bits g % (m + 1)) (SetTable.bits g)) c
theorem stp_add (m : Nat) (g : Int) (c q : Nat) : nth m (stp m g c) q = stp m g (c + q) := (nth_add m c _ q).symm
theorem stp_clean (m : Nat) (g : Int) (c : Nat) : (stp m g c).dummy = none := by
  have all : ∀ (n : Nat) (p : SetTable.Probe), p.dummy = none → (nth m p n).dummy = none := fun n => by
    induction n with
    | zero => exact fun p e => e
    | succ n ih =>
      intro p e
      refine ih (adv m p) ?_
      unfold adv
      split <;> exact e
  exact all c _ rfl
/-- THE SEARCH from the c-th step on -/
theorem look (B : Bag P w s.heap a ks es ep t) (x : TkS P w s.heap k b) (hu : A.units < cLine) {K : Nat} (far : K < 10 * SetTable.turns t.mask) (free : way t.mask (hk P w k) K ∉ t.place.toList)
    (full : ∀ c, c < K → way t.mask (hk P w k) c ∈ t.place.toList) {Q : SetFound → Shared → Prop} (qin : In P w ks es k → Q (.there none) s) (qout : Q (.free (way t.mask (hk P w k) K) false) s) :
    ∀ (f c : Nat) (st : Option SetTable.Probe), st.getD (t.probeStart (hk P w k)) = stp t.mask (hk P w k) c → c ≤ K → K - c < f → wpAny (model P w) A (setSearchFrom a (.ref b) (hk P w k) true f st) Q E s
  | 0, _, _, _, _, z => absurd z (Nat.not_lt_zero _)
  | f + 1, c, st, est, hc, hf => by
    obtain ⟨o, oh, ox, od⟩ := B.ob
    rw [setSearchFrom_succ]
    refine wpAny_bind (wpAny_setState_of oh od B.fits ?_)
    dsimp only
    refine wp_if_neg B.gives ?_
    try refine wpAny_bind (wpAny_pure ?_)
    have jat : ∀ q, (nth t.mask (stp t.mask (hk P w k) c) q).j = way t.mask (hk P w k) (c + q) := fun q => congrArg SetTable.Probe.j (stp_add t.mask (hk P w k) c q)
    have spec := go_spec t B.tab.ris B.tab.dm (fun i => (es[i]?.map (·.1)).getD 0) (hk P w k) (10 * SetTable.turns t.mask) (K - c) (stp t.mask (hk P w k) c) (stp_clean _ _ _) (by omega)
      (fun q hq => by rw [jat]; exact full (c + q) (by omega)) (by rw [jat, show c + (K - c) = K by omega]; exact free)
    rcases spec with ⟨q, i, hq, hi, _, _, ans⟩ | ⟨_, ans⟩
    · rw [jat] at hi
      rw [est]
      refine (?_ : wpAny _ _ (match SetTable.probe.go t (fun i => (es[i]?.map (·.1)).getD 0) (hk P w k) (10 * SetTable.turns t.mask) (stp t.mask (hk P w k) c) with | some met => _ | _ => _) _ _ _)
      rw [ans]
      dsimp only
      obtain ⟨p, hp, row⟩ := B.at_ hi
      have y := B.tk p hp
      have pin : rowK P w p ∈ es.toList := by
        have e2 : es.toList[i]? = some (rowK P w p) := by rw [Array.getElem?_toList]; exact row
        exact List.mem_of_getElem? e2
      have rest : wpAny (model P w) A (searchRest a (.ref b) (hk P w k) true f es t (nth t.mask (stp t.mask (hk P w k) c) q).j i (nth t.mask (stp t.mask (hk P w k) c) (q + 1))) Q E s := by
        unfold searchRest
        rw [row]
        dsimp only [rowK]
        refine wpAny_bind (wpAny_holding (wpAny_eqBool_tuple hu y x ?_))
        refine wpAny_bind (wpAny_setState_of oh od B.fits ?_)
        dsimp only
        by_cases same : p.2 = k
        · refine wp_if_pos (by simp [same]) ?_
          exact wpAny_pure (qin ⟨p, hp, same, pin⟩)
        · refine wp_if_neg (by simp [same]) ?_
          try refine wpAny_bind (wpAny_pure ?_)
          rw [sameMem]
          dsimp only
          have live : t.slot (nth t.mask (stp t.mask (hk P w k) c) q).j = .live i := slot_live B.tab.ris (by rw [jat]; exact hi)
          simp only [if_true, live, row]
          dsimp only [rowK]
          refine wpAny_bind (wpAny_isSame_ref_self (wpAny_bind (wpAny_pure ?_)))
          simp only [if_true]
          refine wp_if_neg (by simp [same]) ?_
          exact look B x hu far free full qin qout f (c + (q + 1)) _ (stp_add _ _ _ _) (by omega) (by omega)
      by_cases led : t.led = true
      · refine wp_if_neg (by simp [led]) ?_
        try refine wpAny_bind (wpAny_pure ?_)
        exact rest
      · refine wp_if_pos (by simp [led]) ?_
        refine wpAny_bind (unseen x (fun u m => ?_) ?_)
        · obtain ⟨r, hr, er⟩ := List.mem_map.mp m
          have r1 : r ∈ es ∧ r.1 = hk P w k := by simpa using hr
          have r2 : r ∈ es.toList := by simpa using r1.1
          obtain ⟨p', hp', e'⟩ := B.el r r2
          exact ⟨p'.2, p'.1, by rw [← er, e']; rfl, B.tk p' hp'⟩
        · refine wp_if_neg (by decide) ?_
          try refine wpAny_bind (wpAny_pure ?_)
          exact rest
    · rw [est]
      refine (?_ : wpAny _ _ (match SetTable.probe.go t (fun i => (es[i]?.map (·.1)).getD 0) (hk P w k) (10 * SetTable.turns t.mask) (stp t.mask (hk P w k) c) with | some met => _ | _ => _) _ _ _)
      rw [ans, jat, show c + (K - c) = K by omega]
      dsimp only
      exact wpAny_pure qout
end
end KB

/-! part KB2 -/
set_option Elab.async false
set_option linter.all false
set_option maxRecDepth 100000
set_option maxHeartbeats 4000000
namespace KB
open PySem PySem.Spec PyProof.Rows L2
theorem pick_all (es : Array (Int × Value)) : ∀ l : List Nat, (∀ i ∈ l, i < es.size) → (l.filterMap fun i => es[i]?).map (·.1) = l.map (fun i => (es.map (·.1)).getD i 0)
  | [], _ => rfl
  | i :: l, h => by
    have li := h i List.mem_cons_self
    have e1 : es[i]? = some es[i] := Array.getElem?_eq_getElem li
    have e2 : (es.map (·.1)).getD i 0 = es[i].1 := by
      rw [Array.getD_eq_getD_getElem?, Array.getElem?_map, e1]
      rfl
    rw [List.filterMap_cons_some e1, List.map_cons, List.map_cons, e2, pick_all es l fun j m => h j (List.mem_cons_of_mem _ m)]
theorem pick_range (es : Array (Int × Value)) : ∀ n, n ≤ es.size → ((List.range n).filterMap fun i => es[i]?) = es.toList.take n
  | 0, _ => rfl
  | n + 1, h => by
    have e1 : es[n]? = some es[n] := Array.getElem?_eq_getElem h
    have e2 : es.toList[n]? = some es[n] := by rw [Array.getElem?_toList]; exact e1
    rw [List.range_succ, List.filterMap_append, pick_range es n (Nat.le_of_lt h), List.take_succ, e2]
    congr 1
    rw [List.filterMap_cons_some e1]
    rfl
section
variable {P : Program} {w : World} {A : Around} {E : Value → Shared → Prop} {s : Shared} {k : List Str} {b a : Addr} {ks : List Key1} {es : Array (Int × Value)} {ep : Nat} {t : SetTable}
theorem tk_same {h h' : Heap} {o : Obj} (x : TkS P w h k b) (oh : h.get? a = some o) (od : o.data = .set es ep t) (sb : Heap.SameBut a h h') : TkS P w h' k b := by
  obtain ⟨ob, its, c, h1, h2, h3, h4⟩ := x
  have apart : b ≠ a := by
    intro z
    rw [z, oh] at h1
    rw [← Option.some.inj h1, od] at h3
    cases h3
  exact ⟨ob, its, c, (sb.2 b apart).trans h1, h2, h3, h4⟩
/-- a larger table -/
theorem grow {o : Obj} (oh : s.heap.get? a = some o) (ox : o.ExactSet) (od : o.data = .set es ep t) (size : t.place.size = es.size) (dm : t.dummies = #[]) (fit : es.size ≤ t.mask) (el : ∀ r ∈ es.toList, ∃ p ∈ ks, r = rowK P w p)
    (tk : ∀ p ∈ ks, TkS P w s.heap p.2 p.1) (led : w.params.followText "set-order" = true ∨ t.led = true) (few : es.size < 64) {want M : Nat} (wm : SetTable.sizeAbove want - 1 = M) (mok : MaskOk M) (w128 : SetTable.sizeAbove want ≤ 128) (room : es.size * 5 < M * 3) {Q : Unit → Shared → Prop}
    (q : ∀ h' es' ep' t', Heap.SameBut a s.heap h' → Bag P w h' a ks es' ep' t' → es'.toList.Perm es.toList → Q () { s with heap := h' }) : wpAny (model P w) A (setRelay a want) Q E s := by
  have fits : t.fits es.size = true := by
    unfold SetTable.fits SetTable.fill
    rw [dm, Bool.and_eq_true, beq_iff_eq, decide_eq_true_eq]
    refine ⟨size, ?_⟩
    show t.place.size + 0 ≤ t.mask
    omega
  obtain ⟨t', ord, laid, perm, tab, em, el', ep', dm'⟩ := relaid_ok t (hs := es.map (·.1)) (wanted := want) wm mok (by rw [Array.size_map]; omega)
  rw [Array.size_map] at perm
  have small : ∀ i ∈ ord.toList, i < es.size := fun i m => List.mem_range.mp (perm.mem_iff.mp m)
  have e1 : (ord.filterMap (es[·]?)).toList = ord.toList.filterMap fun i => es[i]? := by
    first
      | exact Array.toList_filterMap ..
      | simp
  have e2 : (ord.filterMap (es[·]?)).toList.map (·.1) = ord.toList.map fun i => (es.map (·.1)).getD i 0 := by rw [e1]; exact pick_all es _ small
  have e3 : (ord.filterMap (es[·]?)).toList.Perm es.toList := by
    rw [e1]
    have := perm.filterMap fun i => es[i]?
    rw [pick_range es es.size (Nat.le_refl _), List.take_of_length_le (by rw [Array.length_toList]; exact Nat.le_refl _)] at this
    exact this
  have e4 : (ord.filterMap (es[·]?)).size = es.size := by
    have := e3.length_eq
    rw [Array.length_toList, Array.length_toList] at this
    exact this
  rw [← e2] at tab
  rw [setRelay_eq]
  refine wpAny_bind (wpAny_setState_of oh od fits ?_)
  dsimp only
  refine wp_if_neg (by rw [sizeLine_eq]; omega) ?_
  try refine wpAny_bind (wpAny_pure ?_)
  rw [laid]
  dsimp only
  refine wpAny_bind ?_
  refine wp_if_neg (by rw [e4]; simp) ?_
  try refine wpAny_bind (wpAny_pure ?_)
  refine wpAny_pure ?_
  dsimp only
  refine wpAny_storeSet_of oh od ?_ (by rw [e4, sizeLine_eq]; omega)
  have sb : Heap.SameBut a s.heap (s.heap.update a (Obj.putSet (ord.filterMap (es[·]?)) t')) := Heap.SameBut.update ..
  refine q _ _ (ep + 1) t' sb ⟨⟨_, store_at oh od, ⟨ox.1, ox.2.1, ox.2.2⟩, rfl⟩, tab, fun r m => el r (e3.mem_iff.mp m), fun p m => tk_same (tk p m) oh od sb, by rw [el']; exact led, ?_, by rw [e4]; exact few⟩ e3
  rw [e4, em]
  exact room
/-- a key is put in -/
theorem add (B : Bag P w s.heap a ks es ep t) (m : (b, k) ∈ ks) (hu : A.units < cLine) (few : es.size + 1 < 64) {Q : Bool → Shared → Prop}
    (q : ∀ c h' es' ep' t', Heap.SameBut a s.heap h' → Bag P w h' a ks es' ep' t' → ((es'.toList = es.toList ∧ In P w ks es k) ∨ es'.toList.Perm (rowK P w (b, k) :: es.toList)) → Q c { s with heap := h' }) :
    wpAny (model P w) A (setAddHashed a (.ref b) (hk P w k)) Q E s := by
  have x : TkS P w s.heap k b := B.tk _ m
  obtain ⟨o, oh, ox, od⟩ := B.ob
  have room := B.room
  have size := B.sz
  obtain ⟨K, far, free, full⟩ := B.tab.first (by rw [List.length_map, Array.length_toList]; omega) (hk P w k)
  have big : K < 100000 := by
    have : 10 * SetTable.turns t.mask ≤ 1420 := by
      unfold SetTable.turns
      rcases B.tab.mok with z | z | z <;> omega
    omega
  unfold setAddHashed
  refine wpAny_holding ?_
  rw [show (100000 : Nat) = 99999 + 1 from rfl, setAddHashedIn_succ]
  refine wpAny_bind (wpAny_setState_of oh od B.fits ?_)
  dsimp only
  refine wp_if_neg (by simp [byScan, Value.scannable]) ?_
  try refine wpAny_bind (wpAny_pure ?_)
  refine wpAny_bind ?_
  unfold setSearch
  refine look B x hu far free full (fun there => ?_) ?_ 100000 0 none rfl (Nat.zero_le _) (by omega)
  · dsimp only
    exact wpAny_pure (q false s.heap es ep t (Heap.SameBut.refl a s.heap) B (.inl ⟨rfl, there⟩))
  · dsimp only
    refine wpAny_bind (wpAny_setState_of oh od B.fits ?_)
    dsimp only
    obtain ⟨p1, p2, p3, p4, p5, p6, p7, p8, p9⟩ := B.tab.put free full
    generalize hput : t.put (way t.mask (hk P w k) K) = pt at p1 p3 p4 p5 p6 p7 p8 p9 ⊢
    obtain ⟨t1, at1⟩ := pt
    dsimp only at p1 p3 p4 p5 p6 p7 p8 p9 ⊢
    subst p1
    -- whatever is known of its hash, the table is the same but for one mark
    suffices core : ∀ c : Bool, wpAny (model P w) A (do
        storeSet a (SetTable.insertAt es (SetTable.below t.place (way t.mask (hk P w k) K)) (hk P w k, Value.ref b)) (if c = true then t1 else { t1 with plain := false })
        if (!false && (if c = true then t1 else { t1 with plain := false }).tooFull) = true then do
          setRelay a (SetTable.grown (es.size + 1))
          pure true
        else pure true) Q E s by
      by_cases pl : t1.plain = true
      · exact wp_if_pos pl (wpAny_bind (hbv_tup x fun c => core c))
      · exact wp_if_neg pl (wpAny_bind (wpAny_pure (core true)))
    intro c
    obtain ⟨t2, ht2⟩ : ∃ t2, t2 = (if c = true then t1 else { t1 with plain := false }) := ⟨_, rfl⟩
    rw [← ht2]
    have same2 : t2.place = t1.place ∧ t2.dummies = t1.dummies ∧ t2.mask = t1.mask ∧ t2.led = t1.led := by
      rw [ht2]
      cases c <;> exact ⟨rfl, rfl, rfl, rfl⟩
    have hp0 : SetTable.below t.place (way t.mask (hk P w k) K) ≤ es.toList.length := by rw [List.length_map] at p2; exact p2
    generalize SetTable.below t.place (way t.mask (hk P w k) K) = j at p3 hp0 ⊢
    have ins : (SetTable.insertAt es j (hk P w k, Value.ref b)).toList = es.toList.take j ++ rowK P w (b, k) :: es.toList.drop j := SetTable.toList_insertAt _ _ _
    have pm : (SetTable.insertAt es j (hk P w k, Value.ref b)).toList.Perm (rowK P w (b, k) :: es.toList) := by rw [ins]; exact put_perm _ _ _
    have hs1 : (SetTable.insertAt es j (hk P w k, Value.ref b)).toList.map (·.1) = (es.toList.map (·.1)).take j ++ hk P w k :: (es.toList.map (·.1)).drop j := by
      rw [ins, List.map_append, List.map_cons, List.map_take, List.map_drop]
      rfl
    rw [← hs1] at p3
    have sz1 : (SetTable.insertAt es j (hk P w k, Value.ref b)).size = es.size + 1 := by
      have := pm.length_eq
      rw [List.length_cons, Array.length_toList, Array.length_toList] at this
      exact this
    generalize SetTable.insertAt es j (hk P w k, Value.ref b) = es1 at pm p3 sz1 ⊢
    have tab2 : TabOk t2 (es1.toList.map (·.1)) := by
      obtain ⟨i1, i2, i3, i4⟩ := same2
      refine ⟨by rw [i1]; exact p3.ris, by rw [i2]; exact p3.dm, by rw [i1]; exact p3.sz, by rw [i3]; exact p3.mok, by rw [i1, i3]; exact p3.bd, by rw [i1, i3]; exact p3.reach⟩
    refine wpAny_bind (wpAny_storeSet_of oh od ?_ (by rw [sz1, sizeLine_eq]; omega))
    have sb : Heap.SameBut a s.heap (s.heap.update a (Obj.putSet es1 t2)) := Heap.SameBut.update ..
    have oh1 := store_at (es' := es1) (t' := t2) oh od
    generalize s.heap.update a (Obj.putSet es1 t2) = h1 at sb oh1 ⊢
    have el1 : ∀ r ∈ es1.toList, ∃ p ∈ ks, r = rowK P w p := fun r hr => by
      rcases List.mem_cons.mp (pm.mem_iff.mp hr) with z | z
      · exact ⟨(b, k), m, z⟩
      · exact B.el r z
    have tk1 : ∀ p ∈ ks, TkS P w h1 p.2 p.1 := fun p hp => tk_same (B.tk p hp) oh od sb
    have led1 : w.params.followText "set-order" = true ∨ t2.led = true := by rw [same2.2.2.2, p5]; exact B.led
    have mk2 : t2.mask = t.mask := same2.2.2.1.trans p4
    have ox1 : ({ o with data := .set es1 (ep + 1) t2 } : Obj).ExactSet := ⟨ox.1, ox.2.1, ox.2.2⟩
    have pl2 : t2.place.size = es1.size := by
      have := tab2.sz
      rw [List.length_map, Array.length_toList] at this
      exact this
    have fill2 : t2.fill = es1.size := by
      unfold SetTable.fill
      rw [tab2.dm, pl2]
      rfl
    by_cases full2 : t2.tooFull = true
    · first
        | (refine wpAny_bind ?_; refine wp_if_pos (by simp [full2]) ?_)
        | (refine wp_if_pos (by simp [full2]) ?_; refine wpAny_bind ?_)
      have ge : (es.size + 1) * 5 ≥ t.mask * 3 := by
        have z := full2
        unfold SetTable.tooFull at z
        rw [decide_eq_true_eq, fill2, sz1, mk2] at z
        exact z
      have two : (t.mask = 7 ∧ es.size = 4) ∨ (t.mask = 31 ∧ es.size = 18) := by
        rcases B.tab.mok with z | z | z <;> rw [z] at ge room
        · exact .inl ⟨z, by omega⟩
        · exact .inr ⟨z, by omega⟩
        · omega
      have go : ∀ M, SetTable.sizeAbove (SetTable.grown (es.size + 1)) - 1 = M → MaskOk M → SetTable.sizeAbove (SetTable.grown (es.size + 1)) ≤ 128 → (es.size + 1) * 5 < M * 3 →
          wpAny (model P w) A (setRelay a (SetTable.grown (es.size + 1))) (fun _ s'' => wpAny (model P w) A (pure true) Q E s'') E { s with heap := h1 } := fun M g1 g2 g3 g4 =>
        grow (s := { s with heap := h1 }) (es := es1) (ks := ks) oh1 ox1 rfl pl2 tab2.dm (by rw [sz1, mk2]; rcases two with ⟨z1, z2⟩ | ⟨z1, z2⟩ <;> omega) el1 tk1 led1 (by rw [sz1]; exact few) g1 g2 g3 (by rw [sz1]; exact g4)
          fun h2 es2 ep2 t3 sb2 B2 pm2 => wpAny_pure (q true h2 es2 ep2 t3 (sb.trans sb2) B2 (.inr (pm2.trans pm)))
      rcases two with ⟨_, z2⟩ | ⟨_, z2⟩
      · exact go 31 (by rw [z2, size_20]) (.inr (.inl rfl)) (by rw [z2, size_20]; decide) (by omega)
      · exact go 127 (by rw [z2, size_76]) (.inr (.inr rfl)) (by rw [z2, size_76]; decide) (by omega)
    · first
        | refine wp_if_neg (by simp [full2]) ?_
        | (refine wpAny_bind ?_; refine wp_if_neg (by simp [full2]) ?_; refine wpAny_pure ?_)
      refine wpAny_pure (q true h1 es1 (ep + 1) t2 sb ⟨⟨_, oh1, ox1, rfl⟩, tab2, el1, tk1, led1, ?_, by rw [sz1]; exact few⟩ (.inr pm))
      have z := full2
      unfold SetTable.tooFull at z
      rw [decide_eq_true_eq, fill2] at z
      omega
end
end KB

/-! part KB3 -/
set_option Elab.async false
set_option linter.all false
set_option maxRecDepth 100000
set_option maxHeartbeats 4000000
namespace KB
open PySem PySem.Spec PyProof.Rows L2
/-- what is in it behind i of the keys -/
structure Put (P : Program) (w : World) (ks : List Key1) (i : Nat) (es : Array (Int × Value)) : Prop where
  few : es.size ≤ i
  all : ∀ p ∈ ks.take i, In P w ks es p.2
section
variable {P : Program} {w : World} {A : Around} {E : Value → Shared → Prop} {s : Shared} {a : Addr} {ks : List Key1} {es : Array (Int × Value)} {ep : Nat} {t : SetTable}
theorem Put.next {i : Nat} {b : Addr} {k : List Str} {es' : Array (Int × Value)} (g : Put P w ks i es) (hp : ks[i]? = some (b, k)) (r : (es'.toList = es.toList ∧ In P w ks es k) ∨ es'.toList.Perm (rowK P w (b, k) :: es.toList)) : Put P w ks (i + 1) es' := by
  have up : ∀ {z : List Str}, In P w ks es z → In P w ks es' z := fun ⟨p, h1, h2, h3⟩ => by
    refine ⟨p, h1, h2, ?_⟩
    rcases r with ⟨e, _⟩ | pm
    · rw [e]; exact h3
    · exact pm.mem_iff.mpr (List.mem_cons_of_mem _ h3)
  refine ⟨?_, fun p m => ?_⟩
  · have f := g.few
    rcases r with ⟨e, _⟩ | pm
    · have := congrArg List.length e
      rw [Array.length_toList, Array.length_toList] at this
      omega
    · have := pm.length_eq
      rw [List.length_cons, Array.length_toList, Array.length_toList] at this
      omega
  · rw [List.take_add_one, hp] at m
    rcases List.mem_append.mp m with z | z
    · exact up (g.all p z)
    · rw [List.mem_singleton.mp (show p ∈ [(b, k)] from z)]
      rcases r with ⟨_, there⟩ | pm
      · exact up there
      · exact ⟨(b, k), List.mem_of_getElem? hp, rfl, pm.mem_iff.mpr List.mem_cons_self⟩
theorem tk_keep {h h' : Heap} {k : List Str} {b : Addr} (x : TkS P w h k b) (kp : ∀ c o, h.get? c = some o → h'.get? c = some o) : TkS P w h' k b := by
  obtain ⟨o, its, n, oh, r⟩ := x
  exact ⟨o, its, n, kp b o oh, r⟩
theorem Bag.keep {h h' : Heap} (B : Bag P w h a ks es ep t) (ka : ∀ o, h.get? a = some o → h'.get? a = some o) (tk : ∀ p ∈ ks, TkS P w h' p.2 p.1) : Bag P w h' a ks es ep t := by
  obtain ⟨o, oh, r⟩ := B.ob
  exact ⟨⟨o, ka o oh, r⟩, B.tab, B.el, tk, B.led, B.room, B.few⟩
abbrev tab0 (w : World) : SetTable := .fresh 0 0 (!w.params.followText "set-order")
abbrev set0 (w : World) : Obj := { cls := .type "set", dict := none, data := .set #[] 0 (tab0 w) }
theorem bag0 {h : Heap} (oh : h.get? a = some (set0 w)) (tk : ∀ p ∈ ks, TkS P w h p.2 p.1) : Bag P w h a ks #[] 0 (tab0 w) where
  ob := ⟨_, oh, ⟨rfl, rfl, rfl⟩, rfl⟩
  tab := ⟨List.Pairwise.nil, rfl, rfl, .inl rfl, fun x hx => (by cases hx), fun i h j hi => (by simp at hi)⟩
  el := fun p hp => (by cases hp)
  tk := tk
  led := by
    show _ ∨ (!w.params.followText "set-order") = true
    cases w.params.followText "set-order" with
    | true => exact .inl rfl
    | false => exact .inr rfl
  room := by
    show 0 * 5 < 7 * 3
    decide
  few := by
    show 0 < 64
    decide
/-- the loop of set(xs) -/
theorem loop {I : Addr} {fp wr : List Addr} {G : Array GenState → Array GenState → Prop} {n : Nat} {Pv : Nat → Value → Prop} {St : Nat → Shared → Prop} {R : Result → Shared → Prop} (W : WalksS P w A.in1 I fp wr G n Pv St) (S : Addr) (out : S ∉ fp) (ks : List Key1)
    (hn : n = ks.length) (few : ks.length < 64) (val : ∀ i v, Pv i v → ∃ p, ks[i]? = some p ∧ v = .ref p.1) (h0 : Heap) (tk0 : ∀ p ∈ ks, TkS P w h0 p.2 p.1) (S0 : h0.get? S = none) (wr0 : ∀ b ∈ wr, h0.get? b = none) (hu : A.in1.units < cLine) :
    ∀ (m i : Nat) (s : Shared), n - i = m → i ≤ n → St i s → (∀ b o, h0.get? b = some o → s.heap.get? b = some o) → (∃ es ep t, Bag P w s.heap S ks es ep t ∧ Put P w ks i es) →
      (∀ s' es ep t, Moved (S :: wr) G s s' → Bag P w s'.heap S ks es ep t → Put P w ks n es → (∀ b o, h0.get? b = some o → s'.heap.get? b = some o) → R (.ok (.ret .none)) s') →
      codeAny (model P w) A (.builtin "set.update.loop" ⟨[.ref S, .ref I], []⟩) R s := by
  have Swr : S ∉ wr := fun z => out (W.sub _ z)
  have more : ∀ b ∈ wr, b ∈ S :: wr := fun b z => List.mem_cons_of_mem _ z
  have moved : ∀ {s s' : Shared}, Moved wr G s s' → (∀ b o, h0.get? b = some o → s.heap.get? b = some o) → ∀ b o, h0.get? b = some o → s'.heap.get? b = some o := fun mv kp b o e =>
    mv.heap b o (fun z => by rw [wr0 b z] at e; cases e) (kp b o e)
  intro m
  induction m with
  | zero =>
    intro i s em hi st kp ⟨es, ep, t, B, g⟩ fin
    have ei : i = n := by omega
    subst ei
    refine codeAny_builtin F.entry_set_update_loop ?_
    rw [Around.under_plainId F.plain_set_update_loop _]
    refine (?_ : wpAny _ A.in1 (pyNext (.ref I) >>= _) _ _ s)
    refine wpAny_bind (W.done s _ _ st fun s' mv => ?_)
    refine (?_ : wpAny _ A.in1 (ret Value.none) _ _ s')
    have kp' := moved mv kp
    exact wpAny_pure (fin s' es ep t (mv.mono more) (B.keep (fun o e => mv.heap S o Swr e) fun p z => tk_keep (tk0 p z) kp') g kp')
  | succ m ih =>
    intro i s em hi st kp ⟨es, ep, t, B, g⟩ fin
    have lt : i < n := by omega
    refine codeAny_builtin F.entry_set_update_loop ?_
    rw [Around.under_plainId F.plain_set_update_loop _]
    refine (?_ : wpAny _ A.in1 (pyNext (.ref I) >>= _) _ _ s)
    refine wpAny_bind (W.item i s _ _ lt st fun v s' pv st' mv => ?_)
    obtain ⟨⟨b, k⟩, hp, rfl⟩ := val i v pv
    have kp' := moved mv kp
    have B' : Bag P w s'.heap S ks es ep t := B.keep (fun o e => mv.heap S o Swr e) fun p z => tk_keep (tk0 p z) kp'
    have x : TkS P w s'.heap k b := B'.tk _ (List.mem_of_getElem? hp)
    refine (?_ : wpAny _ A.in1 (holding [Value.ref b] (setAdd S (.ref b)) >>= _) _ _ s')
    refine wpAny_bind (wpAny_holding ?_)
    unfold setAdd
    refine wpAny_holding (wpAny_bind (wpAny_pyHash_tuple hu x ?_))
    refine add (s := { s' with toks := s'.toks + (k.length + 1) }) B' (List.mem_of_getElem? hp) hu (by have := g.few; omega) fun c h' es' ep' t' sb B2 r => ?_
    have kp2 : ∀ b o, h0.get? b = some o → h'.get? b = some o := fun b o e => (sb.2 b (fun z => by rw [z, S0] at e; cases e)).trans (kp' b o e)
    refine wpAny_pure ⟨plainId_quiet F.plain_set_update_loop _, ih (i + 1) _ (by omega) lt (W.frame _ s' _ _ st' (Nat.le_add_right _ _) fun b hb o e => ?_) kp2 ⟨es', ep', t', B2, g.next hp r⟩ fun s'' es2 ep2 t2 mv2 B3 g3 kp3 => ?_⟩
    · rw [sb.2 b (fun z : b = S => out (by rw [← z]; exact hb))]; exact e
    · refine fin s'' es2 ep2 t2 (Moved.trans W.gtrans ((mv.mono more).then_heap (Nat.le_add_right _ _) fun b o hb e => ?_) mv2) B3 g3 kp3
      rw [sb.2 b (fun z : b = S => hb (by rw [z]; exact List.mem_cons_self))]; exact e
end
end KB

/-! part KB4 -/
set_option Elab.async false
set_option linter.all false
set_option maxRecDepth 100000
set_option maxHeartbeats 8000000
namespace KB
open PySem PySem.Spec PyProof.Rows L2
section
variable {P : Program} {w : World} {A : Around} {E : Value → Shared → Prop} {s : Shared}
/-- what set(xs) has made -/
def Made (P : Program) (w : World) (ks : List Key1) (s : Shared) (s' : Shared) : Prop := ∃ h' tk es ep t, s' = { s with heap := h', toks := tk } ∧ Bag P w h' s.heap.objs.size ks es ep t ∧ Put P w ks ks.length es ∧ ∀ b o, s.heap.get? b = some o → h'.get? b = some o
/-- the walk of a list feeds the new set -/
theorem feed {l : Addr} {items : Array Value} {ks : List Key1} (hh : A.handled = none) (hl : s.heap.IsList l items) (it : items.toList = ks.map fun p => Value.ref p.1) (tk : ∀ p ∈ ks, TkS P w s.heap p.2 p.1) (few : ks.length < 64) (hu : A.units + 2 < cLine) {Fp : PySem.Fin → Shared → Prop}
    (fin : ∀ s', Made P w ks s s' → Fp (.done (.ret .none)) s') : wpAny (model P w) A (Builtin.«set.__init__» ⟨[.ref s.heap.objs.size, .ref l], []⟩) Fp E { s with heap := s.heap.push (set0 w) } := by
  have isz : items.size = ks.length := by
    have q := congrArg List.length it
    rw [Array.length_toList, List.length_map] at q
    exact q
  have new : (s.heap.push (set0 w)).get? s.heap.objs.size = some (set0 w) := Heap.get?_push_size _ rfl
  obtain ⟨ol, hol, hcl, nl, hdl⟩ := hl
  obtain ⟨ocls, odict, odata, oslots⟩ := ol
  simp only at hcl hdl
  subst hcl hdl
  have old : (s.heap.push (set0 w)).get? l = some { cls := .type "list", dict := odict, data := .seq items nl, slots := oslots } := Heap.get?_push_of_some _ hol
  have ty : Shared.TypeIs { s with heap := s.heap.push (set0 w) } (.ref s.heap.objs.size) "set" := ⟨_, new, rfl⟩
  have no1 := F.sub_list_set
  have no2 := F.sub_list_frozenset
  have no3 : (Value.type "list" == Value.type "dict") = false := by decide
  have lst : (s.heap.push (set0 w)).IsList l items := ⟨_, old, rfl, nl, rfl⟩
  unfold Builtin.«set.__init__» noKeywords Builtin.Frozenset.updateFrom
  generalize same : pyIter = it1
  wp_walk
  subst same
  refine wpAny_pyIter_list lst ?_
  refine wpAny_bind (wpAny_runValue ?_)
  have lS : l < s.heap.objs.size := Heap.lt_size hol
  have zz : (s.heap.push (set0 w)).objs.size = s.heap.objs.size + 1 := Heap.size_push ..
  have lI : l ≠ (s.heap.push (set0 w)).objs.size := by rw [zz]; exact Nat.ne_of_lt (Nat.lt_succ_of_lt lS)
  have val : ∀ (i : Nat) (v : Value), items[i]? = some v → ∃ p, ks[i]? = some p ∧ v = .ref p.1 := fun i v hv => by
    have q : items.toList[i]? = some v := by rw [Array.getElem?_toList]; exact hv
    rw [it, List.getElem?_map] at q
    cases e : ks[i]? with
    | none => rw [e] at q; cases q
    | some p => rw [e] at q; exact ⟨p, rfl, (Option.some.inj q).symm⟩
  have nothing : ∀ b, s.heap.objs.size ≤ b → s.heap.get? b = none := fun b hb => by
    cases q : s.heap.get? b with
    | none => rfl
    | some o => exact absurd (Nat.lt_of_lt_of_le (Heap.lt_size q) hb) (Nat.lt_irrefl _)
  refine loop ((Walks.list (by simp [hh]) _ l lI items).toS) s.heap.objs.size (by rw [zz]; simp only [List.mem_cons, List.mem_singleton, List.not_mem_nil, or_false, not_or]; exact ⟨Nat.ne_of_lt (Nat.lt_succ_self _), Nat.ne_of_gt lS⟩) ks isz few val s.heap tk (nothing _ (Nat.le_refl _))
    (fun b hb => nothing b (by rw [List.mem_singleton.mp hb, zz]; exact Nat.le_succ _)) (by show A.units + 1 < cLine; omega) (items.size - 0) 0 _ (by omega) (Nat.zero_le _) ⟨⟨_, Heap.get?_push_size _ rfl, rfl, rfl⟩, (lst.push _)⟩ (fun b o e => Heap.get?_push_of_some _ (Heap.get?_push_of_some _ e)) ?_ ?_
  · exact ⟨#[], 0, _, bag0 (Heap.get?_push_of_some _ new) (fun p m => tk_keep (tk p m) fun b o e => Heap.get?_push_of_some _ (Heap.get?_push_of_some _ e)), Nat.le_refl _, fun p m => by simp at m⟩
  · intro s' es ep t mv B g kp
    obtain ⟨h', g2, d', tk', os'⟩ := s'
    have eg : g2 = s.gens := mv.gens
    have ed : d' = s.drawn := mv.drawn
    have eo : os' = s.os := mv.os
    subst eg ed eo
    rw [isz] at g
    refine (?_ : wpAny _ _ _ _ _ _)
    refine wpAny_pure ?_
    refine (?_ : wpAny _ _ (ret Value.none) _ _ _)
    exact wpAny_pure (fin _ ⟨h', tk', es, ep, t, rfl, B, g, kp⟩)
/-- set(xs), xs a list of tuples of texts -/
theorem call_set {l : Addr} {items : Array Value} {ks : List Key1} {Q : Value → Shared → Prop} (hh : A.handled = none) (hl : s.heap.IsList l items) (it : items.toList = ks.map fun p => Value.ref p.1) (tk : ∀ p ∈ ks, TkS P w s.heap p.2 p.1) (few : ks.length < 64) (hu : A.units + 8 < cLine)
    (q : ∀ s', Made P w ks s s' → Q (.ref s.heap.objs.size) s') : wpAny (model P w) A (call (.type "set") [.ref l]) Q E s := by
  obtain ⟨c, tl, mro⟩ := F.called_set.mro
  have made := F.called_set.made
  have sub := F.called_set.sub
  refine wpAny_call (codeAny_of_tree ?_)
  refine (?_ : wpAny _ _ (callAny (.type "set") _) _ _ _)
  refine wpAny_pure ⟨Code.quiet_builtin _ (by decide +kernel), codeAny_builtin F.entry_type_call ?_⟩
  rw [Around.under_plain (weight_type_call_type "set" [.ref l] []) rfl]
  have n1 := F.called_set.notType
  have n2 := F.called_set.canCreate
  have n3 := F.typeCall_set_1 (.ref l)
  repeat (any_goals (first | assumption | wp_step))
  refine codeAny_mono (code_set_led1 (.ref l) (E := E) (Q₁ := fun obj s₁ => obj = .ref s.heap.objs.size ∧ s₁ = { s with heap := s.heap.push (set0 w) }) ⟨rfl, rfl⟩) fun r s₁ hr => ?_
  cases r with
  | error e => exact hr
  | ok fl =>
    cases fl with
    | ret obj =>
      obtain ⟨rfl, rfl⟩ := hr
      have new : (s.heap.push (set0 w)).get? s.heap.objs.size = some (set0 w) := Heap.get?_push_size _ rfl
      have ty : Shared.TypeIs { s with heap := s.heap.push (set0 w) } (.ref s.heap.objs.size) "set" := ⟨_, new, rfl⟩
      have look1 := F.called_set.init.lookup
      have look2 := F.called_set.init.bind (.ref s.heap.objs.size)
      repeat (any_goals (first | assumption | wp_step))
      refine codeAny_mono (codeAny_call_builtin (R := wants (fun r s₂ => r = .none ∧ Made P w ks s s₂) E) F.called_set.init.plain F.entry_set_init (check_set_init_1 ty ?_)) fun r2 s2 hr2 => ?_
      · exact feed (by first | exact hh | simpa using hh) hl it tk few (by show A.units + 1 + 1 + 2 < cLine; omega) fun s' m => by first | exact ⟨_, rfl, m⟩ | exact ⟨rfl, m⟩ | exact ⟨_, rfl, rfl, m⟩
      · cases r2 with
        | error e => exact hr2
        | ok fl2 =>
          cases fl2 with
          | ret r =>
            obtain ⟨rfl, m⟩ := hr2
            obtain ⟨h', tk', es, ep, t, es2, m'⟩ := id m
            subst es2
            repeat (any_goals (first | assumption | wp_step))
            exact q _ m
          | _ => exact hr2.elim
    | _ => exact hr.elim
end
end KB

/-! part KB5 -/
set_option Elab.async false
set_option linter.all false
set_option maxRecDepth 100000
set_option maxHeartbeats 8000000
namespace KB
open PySem PySem.Spec PyProof.Rows L2
/-! sorted: the same tuples, in some order -/
def enc (p : Key1) : PyData := .tuple (p.2.map .str)
theorem alike_texts : ∀ xs ys : List Str, PySem.W.alikeAll (xs.map .str) (ys.map .str) = true
  | [], _ => by simp [PySem.W.alikeAll]
  | _ :: _, [] => by simp [PySem.W.alikeAll]
  | x :: xs, y :: ys => by
    rw [List.map_cons, List.map_cons, PySem.W.alikeAll, alike_texts xs ys]
    simp [PySem.W.alike]
theorem depth_texts : ∀ xs : List Str, PyData.depthAll (xs.map .str) = 0
  | [] => by simp [PyData.depthAll]
  | x :: xs => by
    rw [List.map_cons, PyData.depthAll, depth_texts xs]
    simp [PyData.depth]
theorem enc_depth (p : Key1) : (enc p).depth = 1 := by
  unfold enc
  simp [PyData.depth, depth_texts]
theorem enc_alike (bs : List Key1) : PySem.W.AllAlike (bs.map enc) := PySem.W.AllAlike.of fun b b' => by
  unfold enc
  simp [PySem.W.alike, alike_texts]
theorem enc_sortable {bs : List Key1} (h : ∀ p ∈ bs, p.2 ≠ []) : PySem.W.Sortable (bs.map enc) := .inl fun d hd => by
  obtain ⟨p, hp, e⟩ := List.mem_map.mp hd
  obtain ⟨x, r, e2⟩ := List.exists_cons_of_ne_nil (h p hp)
  refine ⟨.str x, r.map .str, ?_⟩
  rw [← e]
  unfold enc
  rw [e2]
  rfl
section
variable {P : Program} {w : World} {A : Around} {E : Value → Shared → Prop} {s : Shared}
theorem reads_texts {h : Heap} : ∀ {k : List Str} {us : List Value}, ItemsAre (strKind P w) k us → ∃ as, ReadsAll h us (k.map .str) as
  | _, _, .nil => ⟨[], .nil⟩
  | _, _, .cons r t => by
    obtain ⟨tok, e⟩ := Value.isStrOf_shape (show Value.isStrOf _ _ = true from r)
    obtain ⟨as, h2⟩ := reads_texts t
    subst e
    exact ⟨[] ++ as, .cons (.str _ _) h2⟩
theorem reads_key {h : Heap} {p : Key1} (x : TkS P w h p.2 p.1) : ∃ as, Reads h (.ref p.1) (enc p) as := by
  obtain ⟨o, its, n, oh, oc, od, oi⟩ := x
  obtain ⟨as, r⟩ := reads_texts (h := h) oi
  exact ⟨as, .tuple oh oc od r⟩
theorem each_ref {R : Value → Key1 → Prop} : ∀ {bs : List Key1}, (∀ p ∈ bs, R (.ref p.1) p) → PySem.W.EachIs R (bs.map fun p => Value.ref p.1) bs
  | [], _ => .nil
  | p :: bs, h => .cons (h p List.mem_cons_self) (each_ref fun q hq => h q (List.mem_cons_of_mem _ hq))
theorem refs_each : ∀ {us : List Value} {bs : List Key1}, PySem.W.EachIs (fun v p => v = Value.ref p.1) us bs → us = bs.map fun p => Value.ref p.1
  | _, _, .nil => rfl
  | _, _, .cons h t => by rw [h, refs_each t]; rfl
/-- sorted(xs) of a list -/
theorem sorted_list {l : Addr} {L : List Key1} {Q : Value → Shared → Prop} (hl : s.heap.IsList l (L.map fun p => Value.ref p.1).toArray) (tk : ∀ p ∈ L, TkS P w s.heap p.2 p.1) (ne : ∀ p ∈ L, p.2 ≠ []) (few : L.length ≤ 1000) (hu : A.units + 8 < cLine)
    (q : ∀ L' : List Key1, L'.Perm L → Q (.ref (s.heap.objs.size + 1)) { s with heap := sortedAll s.heap (L.map fun p => Value.ref p.1) (L'.map fun p => Value.ref p.1).toArray }) : wpAny (model P w) A (call (.builtin "sorted") [.ref l]) Q E s :=
  PySem.W.sorted_data (R := fun v p => v = Value.ref p.1) (enc := enc) (bs := L) hl (each_ref fun _ _ => rfl) (each_ref fun p hp => reads_key (tk p hp)) (enc_alike L) (enc_sortable ne) (by rw [sizeLine_eq]; omega) (fun b _ => by rw [enc_depth]; omega) fun out ho eo => by
    rw [refs_each eo]
    exact q _ (List.mergeSort_perm _ _)
/-- sorted(set) -/
theorem sorted_set {a : Addr} {ks : List Key1} {es : Array (Int × Value)} {ep : Nat} {t : SetTable} {Q : Value → Shared → Prop} (B : Bag P w s.heap a ks es ep t) (ne : ∀ p ∈ ks, p.2 ≠ []) (hh : A.handled = none) (hu : A.units + 12 < cLine)
    (q : ∀ s' p (out : Array Value) (c : Nat) (L' : List Key1), (∀ b o, s.heap.get? b = some o → s'.heap.get? b = some o) → s'.gens = s.gens → s'.os = s.os → s.heap.objs.size ≤ p → s'.heap.get? p = some (seqObj "list" out c) → out.toList = L'.map (fun p => Value.ref p.1) →
      L'.length = es.size → (∀ p ∈ L', p ∈ ks) → (∀ r ∈ es.toList, ∃ p ∈ L', r.2 = Value.ref p.1) → Q (.ref p) s') : wpAny (model P w) A (call (.builtin "sorted") [.ref a]) Q E s := by
  obtain ⟨o, oh, ox, od⟩ := B.ob
  have few := B.few
  refine Calls.call_function_entry kind_sorted plain_sorted entry_sorted (args_sorted1 _) ?_
  unfold Builtin.«sorted»
  refine wpAny_bind (m := checkCount "sorted" 1 1 _) (wpAny_pure ?_)
  refine wpAny_bind (collect_set (A := A.in1) hh ⟨o, oh, ox.1, od⟩ B.fits (by unfold scanBound; omega) B.tab.ris B.led fun s1 vs k1 z1 g1 o1 pm => ?_)
  -- the values stand for keys
  have names : ∀ us : List Value, (∀ u ∈ us, ∃ p ∈ ks, u = Value.ref p.1) → ∃ L1 : List Key1, us = L1.map (fun p => Value.ref p.1) ∧ ∀ p ∈ L1, p ∈ ks := fun us => by
    induction us with
    | nil => exact fun _ => ⟨[], rfl, fun p m => nomatch m⟩
    | cons u us ih =>
      intro al
      obtain ⟨p, hp, e⟩ := al u List.mem_cons_self
      obtain ⟨L1, e1, al1⟩ := ih fun v m => al v (List.mem_cons_of_mem _ m)
      refine ⟨p :: L1, by rw [List.map_cons, e, e1], fun r m => ?_⟩
      rcases List.mem_cons.mp m with c | c
      · rw [c]; exact hp
      · exact al1 r c
  obtain ⟨L1, eL, inL⟩ := names vs fun u m => by
    obtain ⟨r, hr, er⟩ := List.mem_map.mp (pm.mem_iff.mp m)
    obtain ⟨p, hp, e⟩ := B.el r hr
    exact ⟨p, hp, by rw [← er, e]; rfl⟩
  have lL : L1.length = es.size := by
    have := pm.length_eq
    rw [eL, List.length_map, List.length_map, Array.length_toList] at this
    exact this
  have back : ∀ r ∈ es.toList, ∃ p ∈ L1, r.2 = Value.ref p.1 := fun r hr => by
    have m : r.2 ∈ vs := pm.mem_iff.mpr (List.mem_map.mpr ⟨r, hr, rfl⟩)
    rw [eL] at m
    obtain ⟨p, hp, e⟩ := List.mem_map.mp m
    exact ⟨p, hp, e.symm⟩
  subst eL
  refine wpAny_bind (wpAny_newList ?_ (by rw [List.length_map, sizeLine_eq]; omega))
  have new : (s1.heap.push (seqObj "list" (L1.map fun p => Value.ref p.1).toArray 0)).get? s1.heap.objs.size = some (seqObj "list" (L1.map fun p => Value.ref p.1).toArray 0) := Heap.get?_push_size _ rfl
  have tk1 : ∀ p ∈ L1, TkS P w (s1.heap.push (seqObj "list" (L1.map fun p => Value.ref p.1).toArray 0)) p.2 p.1 := fun p m => tk_keep (B.tk p (inL p m)) fun b u e => Heap.get?_push_of_some _ (k1 b u e)
  have apart : ∀ p ∈ L1, ∃ as, Reads (s1.heap.push (seqObj "list" (L1.map fun p => Value.ref p.1).toArray 0)) (.ref p.1) (enc p) as ∧ s1.heap.objs.size ∉ as := fun p m => by
    have texts : ∀ {h : Heap} {k : List Str} {us : List Value}, ItemsAre (strKind P w) k us → ReadsAll h us (k.map .str) [] := fun {h k us} r => by
      induction r with
      | nil => exact .nil
      | cons r _ ih =>
        obtain ⟨tok, e⟩ := Value.isStrOf_shape (show Value.isStrOf _ _ = true from r)
        subst e
        exact .cons (as := []) (.str _ _) ih
    obtain ⟨o', its, n, oh', oc, od', oi⟩ := tk1 p m
    exact ⟨[], .tuple oh' oc od' (texts oi), fun z => nomatch z⟩
  refine wpAny_bind (wpAny_holding (PySem.W.list_sort_data (s := { s1 with heap := s1.heap.push (seqObj "list" (L1.map fun p => Value.ref p.1).toArray 0) }) (R := fun v p => v = Value.ref p.1) (enc := enc) (bs := L1) new (each_ref fun _ _ => rfl) (each_ref apart) (enc_alike L1)
    (enc_sortable fun p m => ne p (inL p m)) (by rw [lL, sizeLine_eq]; omega) (fun b _ => by rw [enc_depth]; show A.units + 1 + 1 + 1 < cLine; omega) fun out ho eo => ?_))
  rw [refs_each eo]
  have pm2 := List.mergeSort_perm L1 (PySem.W.dataLe false enc)
  generalize L1.mergeSort (PySem.W.dataLe false enc) = L2 at pm2
  obtain ⟨c, hc⟩ := sortedHeap_at (vs := L1.map fun p => Value.ref p.1) (out := (L2.map fun p => Value.ref p.1).toArray) new
  refine wpAny_pure ⟨_, rfl, q _ s1.heap.objs.size (L2.map fun p => Value.ref p.1).toArray c L2 (fun b u e => ?_) g1 o1 z1 hc rfl (pm2.length_eq.trans lL) (fun p m => inL p (pm2.mem_iff.mp m)) fun r hr => ?_⟩
  · have e2 := k1 b u e
    have lt := Heap.lt_size e2
    refine (sortedHeap_old (Nat.ne_of_lt lt) (by rw [size_push']; exact Nat.lt_succ_of_lt lt)).trans ?_
    exact Heap.get?_push_of_some _ e2
  · obtain ⟨p, hp, e⟩ := back r hr
    exact ⟨p, pm2.mem_iff.mpr hp, e⟩
end
end KB

/-! part KB6 -/
set_option Elab.async false
set_option linter.all false
set_option maxRecDepth 100000
set_option maxHeartbeats 4000000
/-! the rules: set(list), sorted(set), sorted(list), of tuples of texts -/
namespace KB
open PySem PySem.Spec PyProof.Rows L2
def SetO (P : Program) (w : World) (a : Addr) (L : List Key1) : HO := .ext fun h => ∃ es ep t, (∃ o, h.get? a = some o ∧ o.ExactSet ∧ o.data = .set es ep t) ∧ TabOk t (es.toList.map (·.1)) ∧ es.toList = L.map (rowK P w) ∧ (w.params.followText "set-order" = true ∨ t.led = true) ∧ es.size * 5 < t.mask * 3 ∧ es.size < 64
theorem setO_new {P : Program} {w : World} {H : Hp} {h : Heap} {a : Addr} {L : List Key1} {es : Array (Int × Value)} {ep : Nat} {t : SetTable} (B : Bag P w h a L es ep t) (rows : es.toList = L.map (rowK P w)) : ObjOk P w H h a (SetO P w a L) := by
  obtain ⟨o, oh, r⟩ := B.ob
  refine ⟨⟨es, ep, t, ⟨o, oh, r⟩, B.tab, rows, B.led, B.room, B.few⟩, ⟨o, oh⟩, fun h1 h2 z k => ?_⟩
  obtain ⟨es', ep', t', ⟨o', oh', r'⟩, more⟩ := z
  exact ⟨es', ep', t', ⟨o', k o' oh', r'⟩, more⟩
/-- the rows of a bag are rows of some of its keys -/
theorem rows_of {P : Program} {w : World} {ks : List Key1} : ∀ rs : List (Int × Value), (∀ r ∈ rs, ∃ p ∈ ks, r = rowK P w p) → ∃ L : List Key1, rs = L.map (rowK P w) ∧ ∀ p ∈ L, p ∈ ks
  | [], _ => ⟨[], rfl, fun p m => nomatch m⟩
  | r :: rs, al => by
    obtain ⟨p, hp, e⟩ := al r List.mem_cons_self
    obtain ⟨L, e1, al1⟩ := rows_of rs fun v m => al v (List.mem_cons_of_mem _ m)
    refine ⟨p :: L, by rw [List.map_cons, e, e1], fun q m => ?_⟩
    rcases List.mem_cons.mp m with c | c
    · rw [c]; exact hp
    · exact al1 q c
theorem texts_vals {P : Program} {w : World} : ∀ {k : List Str} {us : List Value}, Vals (k.map V.str) us → ItemsAre (strKind P w) k us
  | [], _, .nil => .nil
  | x :: k, _, .cons r t => by
    obtain ⟨tok, e⟩ := (show ∃ t, _ = Value.str x t from r)
    subst e
    exact .cons (strKind_is P w x tok) (texts_vals t)
theorem refs_vals : ∀ {ks : List Key1} {us : List Value}, Vals (ks.map fun p => V.ref p.1) us → us = ks.map fun p => Value.ref p.1
  | [], _, .nil => rfl
  | p :: ks, _, .cons r t => by
    cases r
    rw [refs_vals t]
    rfl
theorem vals_refs1 : ∀ ks : List Key1, Vals (ks.map fun p => V.ref p.1) (ks.map fun p => Value.ref p.1)
  | [] => .nil
  | p :: ks => .cons rfl (vals_refs1 ks)
section
variable {X : Cx}
theorem key_in {pins : List (Addr × Obj)} {σ : L2.St} {H : Hp} {s : Shared} {b : Addr} {k : List Str} (I : L2.Inv X pins σ H s) (h : SqT X.K H b (k.map V.str)) : TkS X.prog X.w s.heap k b := by
  obtain ⟨its, r, ⟨o, oh, oc, n, od⟩, _⟩ := I.tuple h
  exact ⟨o, its.toArray, n, oh, oc, od, by simpa using texts_vals r⟩
def rSetOfS (K : PySem.W.Frag) (P : Program) (w : World) : List V → Hp → VK → Prop := fun xs H Q => ∃ (l : Addr) (ks : List Key1), xs = [V.ref l] ∧ SqL K H l (ks.map fun p => V.ref p.1) ∧ (∀ p ∈ ks, SqT K H p.1 (p.2.map V.str)) ∧ ks.length < 64 ∧
  ∀ a L, H a = none → (∀ p ∈ L, p ∈ ks) → (∀ p ∈ ks, ∃ q ∈ L, q.2 = p.2) → Q (.ref a) (upd H a (SetO P w a L))
theorem cr_setOfS (hc : X.calm = true) (hu : X.A.units + 64 < cLine) : CallR X (.type "set") (rSetOfS X.K X.prog X.w) := by
  intro pins s σ H xs us Q I r h
  obtain ⟨l, ks, rfl, hl, tk, few, q⟩ := h
  rw [Vals.ref1 r]
  obtain ⟨its, rv, pl, _⟩ := I.list hl
  have hn : H s.heap.objs.size = none := I.hok.fresh (Nat.le_refl _)
  refine call_set (P := X.prog) (w := X.w) (ks := ks) (I.ok.hd hc) pl.isList (by simpa using refs_vals rv) (fun p m => key_in I (tk p m)) few (by omega) fun s' ⟨h', tok, es, ep, t, e, B, g, kp⟩ => ?_
  subst e
  obtain ⟨L, rows, inL⟩ := rows_of es.toList B.el
  have B2 : Bag X.prog X.w h' s.heap.objs.size L es ep t := ⟨B.ob, B.tab, fun r m => by
    rw [rows] at m
    obtain ⟨p, hp, e⟩ := List.mem_map.mp m
    exact ⟨p, hp, e.symm⟩, fun p m => B.tk p (inL p m), B.led, B.room, B.few⟩
  refine ⟨.ref s.heap.objs.size, upd H s.heap.objs.size (SetO X.prog X.w s.heap.objs.size L), I.laid (t' := tok) kp (Nat.le_refl _) (setO_new B2 rows), rfl, q _ L hn inL fun p m => ?_⟩
  obtain ⟨p', h1, h2, h3⟩ := g.all p (by rw [List.take_length]; exact m)
  rw [rows] at h3
  obtain ⟨p2, h4, h5⟩ := List.mem_map.mp h3
  refine ⟨p2, h4, ?_⟩
  have e1 : p2.1 = p'.1 := by
    have := congrArg Prod.snd h5
    injection this
  have x1 := B2.tk p2 h4
  have x2 := B.tk p' h1
  rw [e1] at x1
  rw [← h2]
  exact x1.inj x2
def rSortedSS (K : PySem.W.Frag) (P : Program) (w : World) : List V → Hp → VK → Prop := fun vs H Q => ∃ (a : Addr) (L : List Key1), vs = [V.ref a] ∧ H a = some (SetO P w a L) ∧ (∀ p ∈ L, SqT K H p.1 (p.2.map V.str)) ∧ (∀ p ∈ L, p.2 ≠ []) ∧
  ∀ (L' : List Key1) (p : Addr), (∀ z, z ∈ L' ↔ z ∈ L) → L'.length < 64 → H p = none → Q (.ref p) (upd H p (.lst (L'.map fun q => V.ref q.1)))
theorem cr_sortedSS (hc : X.calm = true) (hu : X.A.units + 64 < cLine) : CallR X (.builtin "sorted") (rSortedSS X.K X.prog X.w) := by
  intro pins s σ H vs us Q I r h
  obtain ⟨a, L, rfl, ha, tk, ne, q⟩ := h
  obtain ⟨es, ep, t, ob, tab, rows, led, room, few⟩ := (I.hok a _ ha).1
  have tk' : ∀ p ∈ L, TkS X.prog X.w s.heap p.2 p.1 := fun p m => key_in I (tk p m)
  have B : Bag X.prog X.w s.heap a L es ep t := ⟨ob, tab, fun r m => by
    rw [rows] at m
    obtain ⟨p, hp, e⟩ := List.mem_map.mp m
    exact ⟨p, hp, e.symm⟩, tk', led, room, few⟩
  rw [Vals.ref1 r]
  refine sorted_set B ne (I.ok.hd hc) (by omega) fun s' p out c L' kp g o hp hg hout len sub all => ?_
  have hlen : (L'.map fun q => V.ref q.1).length ≤ sizeLine := by rw [List.length_map, len, sizeLine_eq]; omega
  have hn : H p = none := I.hok.fresh hp
  have hv : Vals (L'.map fun q => V.ref q.1) out.toList := by rw [hout]; exact vals_refs1 L'
  have J : L2.Inv X pins σ (upd H p (.lst (L'.map fun q => V.ref q.1))) { s with heap := s'.heap, gens := s'.gens, drawn := s'.drawn, toks := s'.toks } :=
    I.call (ch := []) (Un.laid kp hp hn) (I.hok.laid kp hp ⟨hlen, out.toList, c, hv, hg⟩) (by rw [g]; exact I.bare) (fun _ z => nomatch z)
  have e : s' = { s with heap := s'.heap, gens := s'.gens, drawn := s'.drawn, toks := s'.toks } := by
    cases s'
    cases s
    cases o
    rfl
  rw [e]
  refine ⟨.ref p, _, J, rfl, q L' p (fun z => ⟨sub z, fun m => ?_⟩) (by rw [len]; exact few) hn⟩
  have hr : rowK X.prog X.w z ∈ es.toList := by rw [rows]; exact List.mem_map.mpr ⟨z, m, rfl⟩
  obtain ⟨p2, h1, h2⟩ := all _ hr
  have e1 : z.1 = p2.1 := by
    have h2' : Value.ref z.1 = Value.ref p2.1 := h2
    injection h2'
  have x1 := tk' z m
  have x2 := tk' p2 (sub p2 h1)
  rw [← e1] at x2
  have e2 : z.2 = p2.2 := x1.inj x2
  have e3 : z = p2 := Prod.ext e1 e2
  rw [e3]
  exact h1
def rSortedLS (K : PySem.W.Frag) : List V → Hp → VK → Prop := fun vs H Q => ∃ (a : Addr) (L : List Key1), vs = [V.ref a] ∧ SqL K H a (L.map fun p => V.ref p.1) ∧ (∀ p ∈ L, SqT K H p.1 (p.2.map V.str)) ∧ (∀ p ∈ L, p.2 ≠ []) ∧ L.length ≤ 1000 ∧
  ∀ (L' : List Key1) (p : Addr), L'.Perm L → H p = none → Q (.ref p) (upd H p (.lst (L'.map fun q => V.ref q.1)))
theorem cr_sortedLS (hc : X.calm = true) (hu : X.A.units + 64 < cLine) : CallR X (.builtin "sorted") (rSortedLS X.K) := by
  intro pins s σ H vs us Q I r h
  obtain ⟨a, L, rfl, hl, tk, ne, few, q⟩ := h
  obtain ⟨its, rv, pl, _⟩ := I.list hl
  have ei := refs_vals rv
  subst ei
  rw [Vals.ref1 r]
  refine sorted_list (P := X.prog) (w := X.w) (L := L) pl.isList (fun p m => key_in I (tk p m)) ne few (by omega) fun L' pm => ?_
  obtain ⟨c, hc⟩ := sortedAll_at s.heap (L.map fun p => Value.ref p.1) (L'.map fun p => Value.ref p.1).toArray
  have hlen : (L'.map fun q => V.ref q.1).length ≤ sizeLine := by rw [List.length_map, pm.length_eq, sizeLine_eq]; omega
  exact ⟨.ref _, upd H (s.heap.objs.size + 1) (.lst (L'.map fun q => V.ref q.1)), I.laid (t' := s.toks) (fun _ _ => sortedAll_old) (Nat.le_succ _) ⟨hlen, L'.map fun p => Value.ref p.1, c, vals_refs1 L', hc⟩, rfl, q _ _ pm (I.hok.fresh (Nat.le_succ _))⟩
end
end KB
namespace KH
open PySem PySem.Spec PyProof.Rows L2
theorem cr_setOfS {X : Cx} (hc : X.calm = true) (hu : X.A.units + 64 < cLine) : CallR X (.type "set") (KB.rSetOfS X.K X.prog X.w) := KB.cr_setOfS hc hu
theorem cr_sortedSS {X : Cx} (hc : X.calm = true) (hu : X.A.units + 64 < cLine) : CallR X (.builtin "sorted") (KB.rSortedSS X.K X.prog X.w) := KB.cr_sortedSS hc hu
theorem cr_sortedLS {X : Cx} (hc : X.calm = true) (hu : X.A.units + 64 < cLine) : CallR X (.builtin "sorted") (KB.rSortedLS X.K) := KB.cr_sortedLS hc hu
end KH

/-! part K19 -/
set_option Elab.async false
set_option linter.all false
set_option maxRecDepth 100000
set_option maxHeartbeats 4000000
namespace KH
open PySem PySem.Spec PyProof.Rows L2 KD KB
/-! stands as rows of texts -/
def nmS (s : KM.Stand) : List Str := [nmPl s.place, nmCo s.count, nmBe s.before, nmNe s.near, nmRe s.rest]
theorem nmS_inj {s t : KM.Stand} (h : nmS s = nmS t) : s = t := by
  obtain ⟨a, b, c, d, e⟩ := s
  obtain ⟨a', b', c', d', e'⟩ := t
  unfold nmS at h
  injection h with h1 h
  injection h with h2 h
  injection h with h3 h
  injection h with h4 h
  injection h with h5 h
  have q1 : a = a' := nmPl_inj h1
  have q2 : b = b' := nmCo_inj h2
  have q3 : c = c' := nmBe_inj h3
  have q4 : d = d' := nmNe_inj h4
  have q5 : e = e' := nmRe_inj h5
  rw [q1, q2, q3, q4, q5]
theorem nmS_ne (s : KM.Stand) : nmS s ≠ [] := fun h => by cases h
theorem standD_eq (s : KM.Stand) : standD s = .tup ((nmS s).map D.str) := rfl
section
variable {K : PySem.W.Frag} {H : Hp}
theorem stand_at {s : KM.Stand} {v : V} (h : Dt K H (standD s) v) : ∃ a, v = .ref a ∧ H a = some (.tup ((nmS s).map V.str)) := by
  rw [standD_eq] at h
  obtain ⟨a, xs, e1, h1, h2⟩ := h
  rw [h2.strs_eq] at h1
  exact ⟨a, e1, h1⟩
theorem stand_of {s : KM.Stand} {a : Addr} (h : H a = some (.tup ((nmS s).map V.str))) : Dt K H (standD s) (.ref a) := by
  rw [standD_eq]
  exact ⟨a, _, rfl, h, DtL.strs _⟩
/-- a row of stands: their places and texts -/
theorem keys_of : ∀ {ss : List KM.Stand} {xs : List V}, DtL K H (ss.map standD) xs → ∃ ks : List Key1, xs = ks.map (fun p => V.ref p.1) ∧ ks.map (·.2) = ss.map nmS ∧ ∀ p ∈ ks, H p.1 = some (.tup (p.2.map V.str))
  | [], _, h => ⟨[], h, rfl, fun p m => nomatch m⟩
  | s :: ss, _, h => by
    obtain ⟨v, r, e, hv, hr⟩ := h
    obtain ⟨a, ea, h1⟩ := stand_at hv
    obtain ⟨ks, e1, e2, al⟩ := keys_of hr
    refine ⟨(a, nmS s) :: ks, by rw [e, ea, e1]; rfl, by rw [List.map_cons, List.map_cons, e2], fun p m => ?_⟩
    rcases List.mem_cons.mp m with c | c
    · rw [c]; exact h1
    · exact al p c
theorem of_keys : ∀ {ks : List Key1}, (∀ p ∈ ks, (∃ s, p.2 = nmS s) ∧ H p.1 = some (.tup (p.2.map V.str))) → ∃ zs : List KM.Stand, ks.map (·.2) = zs.map nmS ∧ DtL K H (zs.map standD) (ks.map fun p => V.ref p.1)
  | [], _ => ⟨[], rfl, rfl⟩
  | p :: ks, h => by
    obtain ⟨⟨s, e⟩, h1⟩ := h p List.mem_cons_self
    obtain ⟨zs, e1, h2⟩ := of_keys fun q m => h q (List.mem_cons_of_mem _ m)
    rw [e] at h1
    exact ⟨s :: zs, by rw [List.map_cons, List.map_cons, e, e1], .ref p.1, _, rfl, stand_of h1, h2⟩
theorem mem_nm {ks : List Key1} {zs : List KM.Stand} (h : ks.map (·.2) = zs.map nmS) {s : KM.Stand} : s ∈ zs ↔ ∃ p ∈ ks, p.2 = nmS s := by
  constructor
  · intro m
    have : nmS s ∈ ks.map (·.2) := by rw [h]; exact List.mem_map.mpr ⟨s, m, rfl⟩
    obtain ⟨p, hp, e⟩ := List.mem_map.mp this
    exact ⟨p, hp, e⟩
  · rintro ⟨p, hp, e⟩
    have : p.2 ∈ zs.map nmS := by rw [← h]; exact List.mem_map.mpr ⟨p, hp, rfl⟩
    obtain ⟨t, ht, e2⟩ := List.mem_map.mp this
    rw [e] at e2
    rw [← nmS_inj e2]
    exact ht
/-- sorted(set(a list of stands)) -/
theorem run_sortSet {Y : Hy} {Γ : Ga} {te : TE} {ss : List KM.Stand} {P : Program} {w : World} (h : Ev K Y te Γ (.lst (ss.map standD))) (few : ss.length < 64) (σ : L2.St) (H : Hp) (a : Y.p H) (e : Slots K H σ Γ) (Q : VK)
    (q : ∀ (zs : List KM.Stand) (v : V) (H' : Hp), Same H H' → (∀ z, z ∈ zs ↔ z ∈ ss) → zs.length < 64 → Dt K H' (.lst (zs.map standD)) v → Q v H') : (tCB (rSortedSS K P w) (tCons (tCB (rSetOfS K P w) (tCons te tNil)) tNil)) σ H Q :=
  h σ H a e _ fun v H1 s1 hv => by
    obtain ⟨l, xs, ev, el, hx⟩ := hv
    obtain ⟨ks, e1, e2, al⟩ := keys_of hx
    subst e1
    have lk : ks.length = ss.length := by
      have := congrArg List.length e2
      rw [List.length_map, List.length_map] at this
      exact this
    refine ⟨l, ks, by rw [ev], SqL.of el, fun p m => SqT.of (al p m), by omega, fun a L ha sub all => ?_⟩
    have s2 : Same H1 (upd H1 a (SetO P w a L)) := Same.new ha
    refine ⟨a, L, rfl, upd_same, fun p m => SqT.of (s2 _ _ (al p (sub p m))), fun p m => ?_, fun L' p same lt hp => ?_⟩
    · have : p.2 ∈ ss.map nmS := by rw [← e2]; exact List.mem_map.mpr ⟨p, sub p m, rfl⟩
      obtain ⟨t, _, et⟩ := List.mem_map.mp this
      rw [← et]
      exact nmS_ne t
    · have s3 : Same (upd H1 a (SetO P w a L)) (upd (upd H1 a (SetO P w a L)) p (.lst (L'.map fun q => V.ref q.1))) := Same.new hp
      have named : ∀ q ∈ L', (∃ s, q.2 = nmS s) ∧ upd (upd H1 a (SetO P w a L)) p (.lst (L'.map fun q => V.ref q.1)) q.1 = some (.tup (q.2.map V.str)) := fun q m => by
        have mk := sub q ((same q).mp m)
        have : q.2 ∈ ss.map nmS := by rw [← e2]; exact List.mem_map.mpr ⟨q, mk, rfl⟩
        obtain ⟨t, _, et⟩ := List.mem_map.mp this
        exact ⟨⟨t, et.symm⟩, s3 _ _ (s2 _ _ (al q mk))⟩
      obtain ⟨zs, e3, h3⟩ := of_keys (K := K) named
      have lz : zs.length = L'.length := by
        have := congrArg List.length e3
        rw [List.length_map, List.length_map] at this
        exact this.symm
      refine q zs _ _ ((s1.trans s2).trans s3) (fun z => ?_) (by omega) ⟨p, _, rfl, upd_same, h3⟩
      rw [mem_nm e3, mem_nm e2]
      constructor
      · rintro ⟨q, m, e4⟩
        exact ⟨q, sub q ((same q).mp m), e4⟩
      · rintro ⟨q, m, e4⟩
        obtain ⟨r, hr, er⟩ := all q m
        exact ⟨r, (same r).mpr hr, er.trans e4⟩
end
theorem bared_le (B : KM.Book) : (KM.bared B).length ≤ 2 := by
  unfold KM.bared
  split <;> simp
theorem with_len (s : KM.Stand) (b : KM.BeforeW) (ns : List KM.NearW) : (KM.with_ s b ns).length = ns.length := List.length_map ..
theorem plain_le (B : KM.Book) (s : KM.Stand) : (KM.plainC B s).1.length ≤ 3 := by
  unfold KM.plainC
  split
  · simp
  · simp only [List.length_append, List.length_cons, with_len, List.length_nil]
    split <;> simp
theorem bracket_le (B : KM.Book) (s : KM.Stand) : (KM.bracketC B s).1.length ≤ 5 := by
  have hb := bared_le B
  unfold KM.bracketC
  split
  · simp
  · simp only
    have l0 : ∀ x : Bool, ∀ n : KM.NearW, (if x = true then ([] : List KM.Stand) else KM.with_ s .other [n]).length ≤ 1 := fun x n => by
      cases x
      · simp [with_len]
      · simp
    split
    · have := l0 (decide (s.place = .in_) && KM.putsO B s) (if KM.putsO B s = true then .closer else s.near)
      simp only [List.length_append, with_len, List.length_cons]
      omega
    · have h1 := l0 (decide (s.place = .in_) && KM.putsO B s) (if KM.putsO B s = true then .closer else s.near)
      have h2 := l0 (decide (s.near = .rest) && (decide (s.rest = .closer) && decide (B.o = .any)) || decide (s.near = .closer) && decide (s.place = .out)) s.near
      simp only [List.length_append]
      omega
theorem quote_le (B : KM.Book) (M : KM.Way) (s : KM.Stand) : (KM.quoteC B M s).1.length ≤ 2 := by
  have hb := bared_le B
  unfold KM.quoteC
  split
  · simp
  · simp only
    split
    · split
      · simp
      · simp only [List.length_map]; exact hb
    · split
      · split <;> simp
      · split <;> simp
theorem slips_le (B : KM.Book) (s : KM.Stand) : (KM.slipsC B s).1.length ≤ 8 := by
  have hb := bared_le B
  have l3 : ∀ x : Bool, (if x = true then KM.NearW.closer :: KM.bared B else []).length ≤ 3 := fun x => by
    cases x
    · simp
    · simp only [if_true, List.length_cons]; omega
  have l2 : ∀ x : Bool, (if x = true then KM.bared B else []).length ≤ 2 := fun x => by
    cases x
    · simp
    · simpa using hb
  have l4 : ∀ x y : Bool, (if x = true then [] else if y = true then KM.NearW.closer :: KM.bared B else []).length ≤ 3 := fun x y => by
    cases x
    · simpa using l3 y
    · simp
  unfold KM.slipsC
  simp only
  have h1 := l4 (KM.putsO B s) (decide (s.near = .closer) && !decide (B.b = .one))
  have h2 := l3 (decide (s.near = .closer) && !decide (B.o = .never))
  have h3 := l2 (decide (s.near = .quote) && !decide (B.b = .one))
  split
  · simp only [with_len, List.length_append]; omega
  · split
    · simp only [with_len, List.length_append]; omega
    · split
      · simp only [with_len, List.length_append]; omega
      · simp only [with_len, List.length_append]; omega
def fourC (B : KM.Book) (M : KM.Way) (s : KM.Stand) : List KM.Stand × Bool := if M.slips = true then KM.slipsC B s else ([], false)
theorem four_le (B : KM.Book) (M : KM.Way) (s : KM.Stand) : (fourC B M s).1.length ≤ 8 := by
  unfold fourC
  split
  · exact slips_le B s
  · simp
theorem come_one (B : KM.Book) (M : KM.Way) (s : KM.Stand) : (KM.come B M s).1 = (KM.plainC B s).1 ++ (KM.bracketC B s).1 ++ (KM.quoteC B M s).1 ++ (fourC B M s).1 := rfl
section
variable {P : Program} {w : World} {K : PySem.W.Frag} {mg : Str → Option Value} {base : Heap}
theorem ss_sorted {Y : Hy} {Γ : Ga} {te : TE} {ss : List KM.Stand} {P : Program} {w : World} {i : Nat} {bad : Bool} {N : Ga → Hp → Prop} {R : D → Hp → Prop} (h : Ev K Y te Γ (.lst (ss.map standD))) (few : ss.length < 64) (hi : Γ[i]? = some (some (.bl bad)))
    (hR : ∀ (zs : List KM.Stand) (H' : Hp), Y.p H' → (∀ z, z ∈ zs ↔ z ∈ ss) → zs.length < 64 → R (cameD (zs, bad)) H') :
    Ss (relF K) Y.p (tRet (tTup (tCons (tCB (rSortedSS K P w) (tCons (tCB (rSetOfS K P w) (tCons te tNil)) tNil)) (tCons (tVar i) tNil)))) Γ N R := fun σ H1 E1 a1 q1 _ kr1 => by
  refine (run_sortSet h few σ H1 a1 q1 _ fun zs v H2 s2 same lz hv => ?_ : (tCB (rSortedSS K P w) (tCons (tCB (rSetOfS K P w) (tCons te tNil)) tNil)) σ H1 _)
  refine (ev_var (A := Hy.tt) hi : Ev K Hy.tt (tVar i) Γ (.bl bad)) σ H2 trivial (q1.mono s2) _ fun u H3 s3 hu => ?_
  refine ⟨by show 2 ≤ sizeLine; decide, fun p hp => ?_⟩
  have s4 : Same H3 (upd H3 p (.tup [v, u])) := Same.new hp
  exact kr1 (cameD (zs, bad)) _ _ (Fz.of ((s2.trans s3).trans s4)) (hR zs _ (Y.st _ _ ((s2.trans s3).trans s4) a1) same lz) ⟨p, [v, u], rfl, upd_same, v, [u], rfl, hv.mono (s3.trans s4), u, [], rfl, hu.mono s4, rfl⟩
def sp_come (K : PySem.W.Frag) : Sp := spS (relF K) fun H ds B => ∃ Bk M st, ds = [bookD Bk, wayD M, standD st] ∧ B = fun d H' => Same H H' ∧ ∃ zs bad, d = cameD (zs, bad) ∧ (∀ z, z ∈ zs ↔ z ∈ (KM.come Bk M st).1) ∧ zs.length < 64
theorem sc_come : FnScope ["_law_rules", "_law_way", "_law_stand", "_law_bad", "_law_one", "_law_two", "_law_three", "_law_four"] ["_law_rules", "_law_way", "_law_stand"] (defScope s_come) := ⟨rfl, rfl, rfl, by decide +kernel, rfl, by decide +kernel, by decide +kernel⟩
theorem cal_come (T : Tx K mg) : C8.Cal P w K mg base 3 "_law_come" (sp_come K) [] :=
  cal_of T.d_come T.g_come sc_come (fun _ _ _ _ _ _ us hl => match us, hl with | [_, _, _], _ => rfl)
    (spS_len fun H ds B ⟨_, _, _, e, _⟩ => by rw [e]; rfl) fun cdv A outer s H E hr => ⟨_, (pss_cons (ps_par (i := 4) (j := 5) (by rfl) sc_come.nd rfl rfl (by decide) rfl rfl (pa_cons (C8.pe_c (cal_plain_come T) hr (by decide) (by rfl) (pa_cons (pv 0) (pa_cons (pv 2) pa_nil))) (pa_cons (C8.pe_c (cal_bracket_come T) hr (by decide) (by rfl) (pa_cons (pv 0) (pa_cons (pv 2) pa_nil))) pa_nil)) (by rfl)) (pss_cons (ps_par (i := 6) (j := 7) (by rfl) sc_come.nd rfl rfl (by decide) rfl rfl (pa_cons (C8.pe_c (cal_quote_come T) hr (by decide) (by rfl) (pa_cons (pv 0) (pa_cons (pv 1) (pa_cons (pv 2) pa_nil)))) (pa_cons (pe_ifExp (pt_val (pe_ix ix_tup (pv 1) pe_int (fun _ _ => rfl))) (C8.pe_c (cal_slips_come T) hr (by decide) (by rfl) (pa_cons (pv 0) (pa_cons (pv 2) pa_nil))) (pe_tup (pa_cons (pe_lst pa_nil) (pa_cons pe_bl pa_nil)))) pa_nil)) (by rfl)) (pss_cons (ps_set (i := 3) sc_come.nd rfl (Or.inl rfl) (pe_or (pe_ix ix_tup (pv 4) pe_int (fun _ _ => rfl)) (pe_or (pe_ix ix_tup (pv 5) pe_int (fun _ _ => rfl)) (pe_or (pe_ix ix_tup (pv 6) pe_int (fun _ _ => rfl)) (pe_one (pe_ix ix_tup (pv 7) pe_int (fun _ _ => rfl))))))) (pss_one (ps_ret (pe_tup (pa_cons (pe_callB (cr_sortedSS rfl (hu64 hr)) (by rfl) T.b_sorted (by decide +kernel) (pa_cons (pe_callTy (cr_setOfS rfl (hu64 hr)) (by rfl) T.b_set (by decide +kernel) (pa_cons (pe_op op_cat (pe_op op_cat (pe_op op_cat (pe_ix ix_tup (pv 4) pe_int (fun _ _ => rfl)) (pe_ix ix_tup (pv 5) pe_int (fun _ _ => rfl))) (pe_ix ix_tup (pv 6) pe_int (fun _ _ => rfl))) (pe_ix ix_tup (pv 7) pe_int (fun _ _ => rfl))) pa_nil)) pa_nil)) (pa_cons (pv 3) pa_nil)))))))), spS_by _ <| by
      rintro ds B ⟨Bk, M, st, rfl, rfl⟩
      refine ⟨(sameY H).p, Same.refl H, ?_⟩
      show Ss _ _ _ [some (bookD Bk), some (wayD M), some (standD st), none, none, none, none, none] _ _
      have h1 := plain_le Bk st
      have h2 := bracket_le Bk st
      have h3 := quote_le Bk M st
      have h4 := four_le Bk M st
      have hc := come_one Bk M st
      obtain ⟨x1, e1⟩ : ∃ x, x = KM.plainC Bk st := ⟨_, rfl⟩
      obtain ⟨x2, e2⟩ : ∃ x, x = KM.bracketC Bk st := ⟨_, rfl⟩
      obtain ⟨x3, e3⟩ : ∃ x, x = KM.quoteC Bk M st := ⟨_, rfl⟩
      obtain ⟨x4, e4⟩ : ∃ x, x = fourC Bk M st := ⟨_, rfl⟩
      rw [← e1] at h1 hc
      rw [← e2] at h2 hc
      rw [← e3] at h3 hc
      rw [← e4] at h4 hc
      refine ss_to (ss_rn (Γ' := [some (bookD Bk), some (wayD M), some (standD st), none, some (cameD (x1)), some (cameD (x2)), none, none]) (rn_par (ea_cons (ev_callR rfl (ea_cons (ev_var rfl) (ea_cons (ev_var rfl) ea_nil)) ⟨_, _, rfl, by rw [e1]⟩) (ea_cons (ev_callR rfl (ea_cons (ev_var rfl) (ea_cons (ev_var rfl) ea_nil)) ⟨_, _, rfl, by rw [e2]⟩) ea_nil))) (fun H' h => ⟨rfl, h⟩)) ?_
      refine ss_to (ss_rn (Γ' := [some (bookD Bk), some (wayD M), some (standD st), none, some (cameD (x1)), some (cameD (x2)), some (cameD (x3)), some (cameD (x4))]) (rn_par (ea_cons (ev_callR rfl (ea_cons (ev_var rfl) (ea_cons (ev_var rfl) (ea_cons (ev_var rfl) ea_nil))) ⟨_, _, _, rfl, by rw [e3]⟩) (ea_cons (ev_as (ev_if (et_B (ev_ixT (e := wayD M) (ev_var rfl) ev_int rfl)) (fun _ => ev_callR rfl (ea_cons (ev_var rfl) (ea_cons (ev_var rfl) ea_nil)) ⟨_, _, rfl, rfl⟩) (fun _ => ev_tup (ea_cons (ev_lst ea_nil) (ea_cons ev_bl ea_nil)))) ?_) ea_nil))) (fun H' h => ⟨rfl, h⟩)) ?_
      · rw [e4]
        unfold fourC
        cases M.slips <;> rfl
      refine ss_to (ss_rn (Γ' := [some (bookD Bk), some (wayD M), some (standD st), some (.bl ((x1).2 || ((x2).2 || ((x3).2 || (x4).2)))), some (cameD (x1)), some (cameD (x2)), some (cameD (x3)), some (cameD (x4))]) (rn_set (ev_orV (ev_ixT (e := cameD (x1)) (ev_var rfl) ev_int rfl) (fun _ => ev_orV (ev_ixT (e := cameD (x2)) (ev_var rfl) ev_int rfl) (fun _ => ev_orV (ev_ixT (e := cameD (x3)) (ev_var rfl) ev_int rfl) (fun _ => ev_ixT (e := cameD (x4)) (ev_var rfl) ev_int rfl))))) (fun H' h => ⟨rfl, h⟩)) ?_
      generalize ((x1).2 || ((x2).2 || ((x3).2 || (x4).2))) = bad
      refine ss_sorted (Y := sameY H) (ss := (KM.come Bk M st).1) (bad := bad) (ev_as (ev_cat (ev_cat (ev_cat (ev_ixT (e := cameD x1) (ev_var rfl) ev_int rfl) (ev_ixT (e := cameD x2) (ev_var rfl) ev_int rfl) ?_) (ev_ixT (e := cameD x3) (ev_var rfl) ev_int rfl) ?_) (ev_ixT (e := cameD x4) (ev_var rfl) ev_int rfl) ?_) ?_) ?_ rfl (fun zs H' s same few => ⟨s, zs, bad, rfl, same, few⟩)
      · rw [List.length_map, List.length_map]; exact small (by omega)
      · rw [List.length_append, List.length_map, List.length_map, List.length_map]; exact small (by omega)
      · rw [List.length_append, List.length_append, List.length_map, List.length_map, List.length_map, List.length_map]; exact small (by omega)
      · rw [hc, List.map_append, List.map_append, List.map_append]
      · rw [hc, List.length_append, List.length_append, List.length_append]; omega⟩
end
end KH

/-! part K20 -/
set_option Elab.async false
set_option linter.all false
set_option maxRecDepth 100000
set_option maxHeartbeats 4000000
namespace KM
/-! there are 270 stands -/
theorem code_lt (s : Stand) : code s < 270 := by
  obtain ⟨p, c, b, n, r⟩ := s
  have h1 : p.n ≤ 2 := by cases p <;> decide
  have h2 : c.n ≤ 1 := by cases c <;> decide
  have h3 : b.n ≤ 2 := by cases b <;> decide
  have h4 : n.n ≤ 2 := by cases n <;> decide
  have h5 : r.n ≤ 4 := by cases r <;> decide
  show (((p.n * 2 + c.n) * 3 + b.n) * 3 + n.n) * 5 + r.n < 270
  omega
theorem code_inj {s t : Stand} (h : code s = code t) : s = t := by
  obtain ⟨p, c, b, n, r⟩ := s
  obtain ⟨p', c', b', n', r'⟩ := t
  have h' : (((p.n * 2 + c.n) * 3 + b.n) * 3 + n.n) * 5 + r.n = (((p'.n * 2 + c'.n) * 3 + b'.n) * 3 + n'.n) * 5 + r'.n := h
  have h2 : c.n ≤ 1 := by cases c <;> decide
  have h3 : b.n ≤ 2 := by cases b <;> decide
  have h4 : n.n ≤ 2 := by cases n <;> decide
  have h5 : r.n ≤ 4 := by cases r <;> decide
  have k2 : c'.n ≤ 1 := by cases c' <;> decide
  have k3 : b'.n ≤ 2 := by cases b' <;> decide
  have k4 : n'.n ≤ 2 := by cases n' <;> decide
  have k5 : r'.n ≤ 4 := by cases r' <;> decide
  have e1 : p = p' := by
    have : p.n = p'.n := by omega
    revert this; cases p <;> cases p' <;> decide
  have e2 : c = c' := by
    have : c.n = c'.n := by omega
    revert this; cases c <;> cases c' <;> decide
  have e3 : b = b' := by
    have : b.n = b'.n := by omega
    revert this; cases b <;> cases b' <;> decide
  have e4 : n = n' := by
    have : n.n = n'.n := by omega
    revert this; cases n <;> cases n' <;> decide
  have e5 : r = r' := by
    have : r.n = r'.n := by omega
    revert this; cases r <;> cases r' <;> decide
  rw [e1, e2, e3, e4, e5]
theorem nodup_le {kn : List Stand} (h : kn.Nodup) : kn.length ≤ 270 := by
  have h1 : (kn.map code).Nodup := List.pairwise_map.mpr (h.imp fun ne e => ne (code_inj e))
  have := L2.nat_nodup_len (kn.map code) (List.range 270) h1 fun x hx => by
    obtain ⟨s, _, e⟩ := List.mem_map.mp hx
    rw [← e]
    exact List.mem_range.mpr (code_lt s)
  rw [List.length_map, List.length_range] at this
  exact this
end KM
namespace KH
open PySem PySem.Spec PyProof.Rows L2 KD KB
section
variable {P : Program} {w : World} {K : PySem.W.Frag} {mg : Str → Option Value} {base : Heap}
def keyK (s : KM.Stand) : List Key := (nmS s).map Sum.inr
theorem keyK_kV (s : KM.Stand) : (keyK s).map kV = (nmS s).map V.str := rfl
theorem keyK_inj {s t : KM.Stand} (h : keyK s = keyK t) : s = t := by
  refine nmS_inj ?_
  have : ∀ {a b : List Str}, a.map (Sum.inr : Str → Key) = b.map Sum.inr → a = b := fun {a} => by
    induction a with
    | nil => intro b h; cases b with
      | nil => rfl
      | cons y b => cases h
    | cons x a ih => intro b h; cases b with
      | nil => cases h
      | cons y b =>
        rw [List.map_cons, List.map_cons] at h
        injection h with h1 h2
        injection h1 with h1
        rw [h1, ih h2]
  exact this h
theorem known_iff {kvs : List (List Key × V)} {kn : List KM.Stand} (h : kvs.map (·.1) = kn.map keyK) (s : KM.Stand) : (valV kvs (keyK s)).isSome = decide (s ∈ kn) := by
  rw [← valV_any]
  by_cases m : s ∈ kn
  · rw [decide_eq_true m]
    have : keyK s ∈ kvs.map (·.1) := by rw [h]; exact List.mem_map.mpr ⟨s, m, rfl⟩
    obtain ⟨kv, hk, e⟩ := List.mem_map.mp this
    exact List.any_eq_true.mpr ⟨kv, hk, decide_eq_true e⟩
  · rw [decide_eq_false m]
    refine Bool.eq_false_iff.mpr fun z => m ?_
    obtain ⟨kv, hk, e⟩ := List.any_eq_true.mp z
    have : keyK s ∈ kvs.map (·.1) := List.mem_map.mpr ⟨kv, hk, of_decide_eq_true e⟩
    rw [h] at this
    obtain ⟨t, ht, e2⟩ := List.mem_map.mp this
    rw [← keyK_inj e2]
    exact ht
structure LX (K : PySem.W.Frag) (Hs : Hp) (kd b : Addr) (kn l : List KM.Stand) (H : Hp) : Prop where
  s : Same Hs H
  n1 : Hs kd = none
  n2 : Hs b = none
  ne : b ≠ kd
  d : ∃ kvs, H kd = some (.dT kvs) ∧ kvs.map (·.1) = kn.map keyK
  l : ∃ xs, H b = some (.lst xs) ∧ DtL K H (l.map standD) xs
def LY (K : PySem.W.Frag) (Hs : Hp) (kd b : Addr) (kn l : List KM.Stand) : Hy := ⟨fun H => LX K Hs kd b kn l H, fun _ _ s h => ⟨h.s.trans s, h.n1, h.n2, h.ne, let ⟨kvs, e, q⟩ := h.d; ⟨kvs, s _ _ e, q⟩, let ⟨xs, e, q⟩ := h.l; ⟨xs, s _ _ e, q.mono s⟩⟩⟩
theorem fz_stands : ∀ l : List KM.Stand, fzL (l.map standD) = true
  | [] => rfl
  | _ :: l => fz_stands l
theorem pok_stand (s : KM.Stand) : (standD s).pok = true ∧ (standD s).dep ≤ 62 := by
  obtain ⟨p, c, b, n, r⟩ := s
  refine ⟨?_, by show 1 ≤ 62; decide⟩
  show (PyData.strOk (nmPl p) && (PyData.strOk (nmCo c) && (PyData.strOk (nmBe b) && (PyData.strOk (nmNe n) && (PyData.strOk (nmRe r) && true))))) = true
  have h1 : PyData.strOk (nmPl p) = true := by cases p <;> decide +kernel
  have h2 : PyData.strOk (nmCo c) = true := by cases c <;> decide +kernel
  have h3 : PyData.strOk (nmBe b) = true := by cases b <;> decide +kernel
  have h4 : PyData.strOk (nmNe n) = true := by cases n <;> decide +kernel
  have h5 : PyData.strOk (nmRe r) = true := by cases r <;> decide +kernel
  rw [h1, h2, h3, h4, h5]
  rfl
theorem pok_stands (l : List KM.Stand) : pokL (l.map standD) = true ∧ depL (l.map standD) ≤ 63 := ⟨pokL_mem fun d hd => by
  obtain ⟨x, _, e⟩ := List.mem_map.mp hd
  rw [← e]; exact (pok_stand x).1, depL_le fun d hd => by
  obtain ⟨x, _, e⟩ := List.mem_map.mp hd
  rw [← e]; exact Nat.le_succ_of_le (pok_stand x).2⟩
section
variable {Hs : Hp} {kd b : Addr} {kn l : List KM.Stand} {s : KM.Stand} {Γ : Ga} {ta tb te : TE} {R : D → Hp → Prop} {Bk : KM.Book} {M : KM.Way}
theorem ev_left (h : Ev K (LY K Hs kd b kn l) te Γ (.adr b)) : Ev K (LY K Hs kd b kn l) te Γ (.lst (l.map standD)) := ev_lstA h fun H p => let ⟨xs, e, q⟩ := p.l; ⟨b, xs, rfl, e, q⟩
theorem same_upd {H : Hp} {c : Addr} {o : HO} (h : Same Hs H) (n : Hs c = none) : Same Hs (upd H c o) := fun x o' z => by
  rw [upd_ne (ne_of_none z n)]
  exact h _ _ z
theorem se_popL (h : Ev K (LY K Hs kd b kn (l ++ [s])) te Γ (.adr b)) : Se (relF K) (LY K Hs kd b kn (l ++ [s])).p (tBM0 K "list" rPop te) Γ (fun d H => d = standD s ∧ (LY K Hs kd b kn l).p H) := fun σ H p e Q q =>
  h σ H p e _ fun v H1 s1 h1 => by
    have e1 : v = .ref b := h1
    subst e1
    obtain ⟨sm, n1, n2, ne, ⟨kvs, ek, hk⟩, xs, eb, hx⟩ := (LY K Hs kd b kn (l ++ [s])).st _ _ s1 p
    rw [List.map_append] at hx
    obtain ⟨ys, u, exs, hy, hu⟩ := dtl_snoc hx
    subst exs
    have fz : Fz H1 (upd H1 b (.lst ys)) := fz_upd fun zs z => by rw [eb] at z; cases z
    refine ⟨.inl ⟨rfl, _, SqL.of eb⟩, b, ys ++ [u], u, rfl, rfl, eb, by simp, ?_⟩
    rw [List.dropLast_concat]
    exact q (standD s) u _ (Fz.trans (Fz.of s1) fz) ⟨rfl, same_upd sm n2, n1, n2, ne, ⟨kvs, by rw [upd_ne ne.symm]; exact ek, hk⟩, ys, upd_same, hy.fzm fz _ _ (fz_stands l)⟩ (hu.fzm fz _ _ rfl)
theorem ev_notKnown (hs : Ev K (LY K Hs kd b kn l) ta Γ (standD s)) (hk : Ev K (LY K Hs kd b kn l) tb Γ (.adr kd)) : Ev K (LY K Hs kd b kn l) (tDNotIn ta tb) Γ (.bl (!decide (s ∈ kn))) := fun σ H p e Q q =>
  hs σ H p e _ fun y H1 s1 hy => hk σ H1 ((LY K Hs kd b kn l).st _ _ s1 p) (e.mono s1) _ fun x H2 s2 hx => by
    obtain ⟨a, ea, at1⟩ := stand_at (hy.mono s2)
    obtain ⟨_, _, _, _, ⟨kvs, ek, hkn⟩, _⟩ := (LY K Hs kd b kn l).st _ _ (s1.trans s2) p
    refine ⟨kd, valV kvs (keyK s), hx, ?_, q _ H2 (s1.trans s2) (by rw [known_iff hkn]; rfl)⟩
    rw [ea]
    exact DGet.t ek (by rw [keyK_kV]; exact at1)
theorem ss_putK (hs : Ev K (LY K Hs kd b kn l) ta Γ (standD s)) (hk : Ev K (LY K Hs kd b kn l) tb Γ (.adr kd)) (new : s ∉ kn) (few : kn.length ≤ 1000) (g : okG (relF K) Γ = true) :
    Ss (relF K) (LY K Hs kd b kn l).p (sDPut tb ta (tC (.bl true))) Γ (fun G H => G = Γ ∧ (LY K Hs kd b (kn ++ [s]) l).p H) R := fun σ H E p e k _ =>
  hk σ H p e _ fun x H1 s1 hx => hs σ H1 ((LY K Hs kd b kn l).st _ _ s1 p) (e.mono s1) _ fun y H2 s2 hy => by
    obtain ⟨a, ea, at1⟩ := stand_at hy
    obtain ⟨sm, n1, n2, ne, ⟨kvs, ek, hkn⟩, xs, eb, hx2⟩ := (LY K Hs kd b kn l).st _ _ (s1.trans s2) p
    have lk : kvs.length = kn.length := by
      have := congrArg List.length hkn
      rw [List.length_map, List.length_map] at this
      exact this
    have dp := DPut.t (k := keyK s) (v := .bl true) ek (by rw [keyK_kV]; exact at1) (by rw [lk]; exact Nat.lt_of_le_of_lt few (by decide))
    have none1 : valV kvs (keyK s) = none := by
      have := known_iff hkn s
      rw [decide_eq_false new] at this
      cases q : valV kvs (keyK s) with
      | none => rfl
      | some z => rw [q] at this; cases this
    rw [putK_new _ none1] at dp
    have fz : Fz H2 (upd H2 kd (.dT (kvs ++ [(keyK s, .bl true)]))) := fz_upd fun zs z => by rw [ek] at z; cases z
    refine ⟨kd, _, hx, by rw [ea]; exact dp, k Γ σ _ (Fz.trans (Fz.of (s1.trans s2)) fz) ⟨rfl, same_upd sm n1, n1, n2, ne, ⟨_, upd_same, ?_⟩, xs, by rw [upd_ne ne]; exact eb, hx2.fzm fz _ _ (fz_stands l)⟩ (Slots.rel (L := relF K) (e.mono (s1.trans s2)) g fz)⟩
    rw [List.map_append, List.map_append, hkn]
    rfl
theorem se_catL {st : KM.Stand} {tr : TA} (ho : Ev K (LY K Hs kd b kn l) ta Γ (.adr b)) (ha : Ea K (LY K Hs kd b kn l) tr Γ [bookD Bk, wayD M, standD st]) (few : l.length ≤ 30000) :
    Se (relF K) (LY K Hs kd b kn l).p (tOp rCat ta (tOp (rIxT K) (tCall (sp_come K) [] C8.E0 tr) (tC (.int 0)))) Γ (fun d H => ∃ b' zs, d = .adr b' ∧ (∀ z, z ∈ zs ↔ z ∈ (KM.come Bk M st).1) ∧ zs.length < 64 ∧ (LY K Hs kd b' kn (l ++ zs)).p H) := fun σ H p e Q q =>
  ho σ H p e _ fun v H1 s1 h1 => by
    have e1 : v = .ref b := h1
    subst e1
    refine ha σ H1 ((LY K Hs kd b kn l).st _ _ s1 p) (e.mono s1) _ fun vs H2 s2 h2 => ?_
    refine ⟨[bookD Bk, wayD M, standD st], _, ⟨Bk, M, st, rfl, rfl⟩, by rw [List.append_nil]; exact h2, fun d u H3 r3 ⟨s3, zs, bad, ed, same, lz⟩ hu => ?_⟩
    subst ed
    obtain ⟨pr, w1, e3, h4, hd⟩ := hu
    obtain ⟨v1, r1, e4, hv1, h6⟩ := hd
    obtain ⟨v2, r2, e5, hv2, h7⟩ := h6
    have e6 : r2 = [] := h7
    subst e3 e4 e5 e6
    obtain ⟨pz, zv, ez, hz, dz⟩ := hv1
    subst ez
    obtain ⟨sm, n1, n2, ne, ⟨kvs, ek, hkn⟩, xs, eb, hx⟩ := (LY K Hs kd b kn l).st _ _ ((s1.trans s2).trans s3) p
    refine ⟨pr, _, 0, .ref pz, rfl, rfl, SqT.of h4, rfl, ?_⟩
    refine ⟨b, pz, xs, zv, rfl, rfl, eb, hz, by rw [hx.length, dz.length, List.length_map, List.length_map]; exact small (by show l.length + zs.length ≤ _; omega), fun p2 hp2 => ?_⟩
    have s4 : Same H3 (upd H3 p2 (.lst (xs ++ zv))) := Same.new hp2
    have d2 : p2 ≠ kd := fun z => by rw [z, ek] at hp2; cases hp2
    refine q (.adr p2) _ _ (Fz.of (((s1.trans s2).trans s3).trans s4)) ⟨p2, zs, rfl, same, lz, sm.trans s4, n1, none_back sm hp2, d2, ⟨kvs, s4 _ _ ek, hkn⟩, xs ++ zv, upd_same, ?_⟩ rfl
    rw [List.map_append]
    exact (hx.app dz).mono s4
end
def Cl (Bk : KM.Book) (M : KM.Way) (kn l : List KM.Stand) : Prop := (∀ s ∈ KM.firsts M, s ∈ kn ∨ s ∈ l) ∧ ∀ s ∈ kn, ∀ t ∈ (KM.come Bk M s).1, t ∈ kn ∨ t ∈ l
theorem Cl.all {Bk : KM.Book} {M : KM.Way} {kn : List KM.Stand} (h : Cl Bk M kn []) {s : KM.Stand} (r : KM.Reach Bk M s) : s ∈ kn := by
  induction r with
  | first m => exact (h.1 _ m).resolve_right fun z => nomatch z
  | next _ m ih => exact (h.2 _ ih _ m).resolve_right fun z => nomatch z
theorem isKeys_row {H : Hp} : ∀ {kvs : List (List Key × V)} {bs : List Addr} {kn : List KM.Stand}, IsKeys H kvs bs → kvs.map (·.1) = kn.map keyK → ∃ L : List Key1, bs = L.map (·.1) ∧ L.map (·.2) = kn.map nmS ∧ ∀ p ∈ L, H p.1 = some (.tup (p.2.map V.str))
  | _, _, [], .nil, _ => ⟨[], rfl, rfl, fun p m => nomatch m⟩
  | _, _, s :: kn, .cons (b := a) h t, e => by
    rw [List.map_cons, List.map_cons] at e
    injection e with e1 e2
    obtain ⟨L, q1, q2, q3⟩ := isKeys_row t e2
    rw [e1, keyK_kV] at h
    refine ⟨(a, nmS s) :: L, by rw [q1]; rfl, by rw [List.map_cons, List.map_cons, q2], fun p m => ?_⟩
    rcases List.mem_cons.mp m with c | c
    · rw [c]; exact h
    · exact q3 p c
  | _, _, [], .cons _ _, e => by cases e
  | _, _, _ :: _, .nil, e => by cases e
def sp_least (K : PySem.W.Frag) : Sp := spS (relF K) fun H ds B => ∃ Bk M, ds = [bookD Bk, wayD M] ∧ B = fun d H' => Same H H' ∧ ∃ zs : List KM.Stand, d = .tup (zs.map standD) ∧ (∀ s, KM.Reach Bk M s → s ∈ zs) ∧ zs.length ≤ 270
theorem sc_least : FnScope ["_law_rules", "_law_way", "_law_known", "_law_left", "_law_stand"] ["_law_rules", "_law_way"] (defScope s_least) := ⟨rfl, rfl, rfl, by decide +kernel, rfl, by decide +kernel, by decide +kernel⟩
theorem cal_least (T : Tx K mg) : C8.Cal P w K mg base 4 "_law_least" (sp_least K) [] :=
  cal_of T.d_least T.g_least sc_least (fun _ _ _ _ _ _ us hl => match us, hl with | [_, _], _ => rfl)
    (spS_len fun H ds B ⟨_, _, e, _⟩ => by rw [e]; rfl) fun cdv A outer s H E hr => ⟨_, (pss_cons (ps_par (i := 2) (j := 3) (by rfl) sc_least.nd rfl rfl (by decide) rfl rfl (pa_cons pe_dnewT (pa_cons (C8.pe_c (cal_first T) hr (by decide) (by rfl) (pa_cons (pv 1) pa_nil)) pa_nil)) (by rfl)) (pss_cons (ps_while PassesOwn.never (pt_cmpR (op_neD (hu64 hr)) (pv 3) (pe_lst pa_nil) (nomark _)) (pss_cons (ps_set (i := 4) sc_least.nd rfl (Or.inl rfl) (pe_bm0 PySem.F.plainAttrs_list PySem.F.slot_list_pop PySem.F.type_list_pop mt_pop (pv 3))) (pss_one (ps_if (pt_cmp (pc_dnotin (hu_of hr) (pv 4) (pv 2))) (pss_cons (ps_dput (hu_of hr) (pv 2) (pv 4) pe_bl rfl) (pss_one (ps_set (i := 3) sc_least.nd rfl (Or.inl rfl) (pe_op op_cat (pv 3) (pe_ix ix_tup (C8.pe_c (cal_come T) hr (by decide) (by rfl) (pa_cons (pv 0) (pa_cons (pv 1) (pa_cons (pv 4) pa_nil)))) pe_int (fun _ _ => rfl)))))) pss_nil)))) (pss_one (ps_ret (pe_callTy call_tuple_of (by rfl) T.b_tuple (by decide +kernel) (pa_cons (pe_callB (cr_sortedLS rfl (hu64 hr)) (by rfl) T.b_sorted (by decide +kernel) (pa_cons (pe_callTy (call_list_dT rfl) (by rfl) T.b_list (by decide +kernel) (pa_cons (pv 2) pa_nil)) pa_nil)) pa_nil)))))), spS_by _ <| by
      rintro ds B ⟨Bk, M, rfl, rfl⟩
      refine ⟨(sameY H).p, Same.refl H, ?_⟩
      show Ss _ _ _ [some (bookD Bk), some (wayD M), none, none, none] _ _
      refine ss_toE (ι := Addr × Addr) (Γi := fun q => [some (bookD Bk), some (wayD M), some (.adr q.1), some (.adr q.2), none]) (Bi := fun q => (LY K H q.1 q.2 [] (KM.firsts M)).p) ?_ fun ⟨kd, b0⟩ => ?_
      · intro σ H1 E1 a1 e1 k1 _ kd hkd
        have s2 : Same H1 (upd H1 kd (.dT [])) := Same.new hkd
        refine (ef_callF (A := sameY H) rfl (ea_cons (ev_var rfl) ea_nil) ⟨M, rfl, rfl⟩ : Ef K (sameY H) _ [some (bookD Bk), some (wayD M), none, none, none] ((KM.firsts M).map standD)) σ _ (Same.trans a1 s2) (e1.mono s2) _ fun b ys H2 s3 nb eb hy => ?_
        have nk : b ≠ kd := fun z => by rw [z, upd_same] at nb; cases nb
        exact ⟨.ref kd, .ref b, rfl, k1 _ _ H2 (Fz.of (s2.trans s3)) ⟨(kd, b), rfl, (Same.trans a1 s2).trans s3, none_back a1 hkd, none_back (Same.trans a1 s2) nb, nk, ⟨[], s3 _ _ upd_same, rfl⟩, ys, eb, hy⟩ (((e1.mono (s2.trans s3)).set (d := .adr kd) rfl).set (d := .adr b) rfl)⟩
      · refine ss_toE (ι := Addr × List KM.Stand) (Γi := fun q => [some (bookD Bk), some (wayD M), some (.adr kd), some (.adr q.1), none]) (Bi := fun q H' => (q.2.Nodup ∧ Cl Bk M q.2 []) ∧ (LY K H kd q.1 q.2 []).p H')
          (ss_while (fun n G => ⟨fun H1 => ∃ q : Addr × List KM.Stand × List KM.Stand, (G = [some (bookD Bk), some (wayD M), some (.adr kd), some (.adr q.1), none] ∧ q.2.1.Nodup ∧ Cl Bk M q.2.1 q.2.2 ∧ n = (270 - q.2.1.length) * 30000 + q.2.2.length ∧ q.2.2.length ≤ 10 + 64 * q.2.1.length) ∧ (LY K H kd q.1 q.2.1 q.2.2).p H1, fun H1 H2 s ⟨q, h, p⟩ => ⟨q, h, (LY K H kd q.1 q.2.1 q.2.2).st _ _ s p⟩⟩)
            (270 * 30000 + (KM.firsts M).length) (fun H' p => ⟨(b0, [], KM.firsts M), ⟨rfl, List.nodup_nil, ⟨fun s m => .inr m, fun s m => nomatch m⟩, rfl, ?_⟩, p⟩) (fun n _ => decide (n % 30000 ≠ 0)) (fun n G _ => ?_) (fun n G _ hn => ?_) (fun n G H' ⟨⟨b, kn, l⟩, ⟨e, nd, cl, en, hl⟩, p⟩ hb => ?_)) (fun ⟨b, kn⟩ => ss_fact fun ⟨nd, cl⟩ => ?_)
        · unfold KM.firsts
          rw [List.length_map]
          split <;> (show _ ≤ 10; decide)
        · rintro σ H1 ⟨⟨b, kn, l⟩, ⟨eG, nd, cl, en, hl⟩, p⟩ e Q q
          subst eG
          have hk : kn.length ≤ 270 := KM.nodup_le nd
          have hl' : l.length ≤ 10 + 64 * kn.length := hl
          have en' : n = (270 - kn.length) * 30000 + l.length := en
          refine (et_as (et_test (ev_neNil (ev_left (ev_var rfl)) (ev_lst ea_nil) (pok_stands l))) ?_ : Et K (LY K H kd b kn l) _ [some (bookD Bk), some (wayD M), some (.adr kd), some (.adr b), none] (decide (n % 30000 ≠ 0))) σ H1 p e Q q
          cases l with
          | nil =>
            have h0 : n % 30000 = 0 := by rw [en']; show ((270 - kn.length) * 30000 + 0) % 30000 = 0; omega
            rw [h0]; rfl
          | cons x l =>
            have h0 : n % 30000 ≠ 0 := by
              rw [List.length_cons] at hl' en'
              omega
            rw [decide_eq_true h0]; rfl
        · refine ss_ex fun ⟨b, kn, l⟩ => ss_fact fun ⟨eG, nd, cl, en, hl⟩ => ?_
          subst eG
          have hk : kn.length ≤ 270 := KM.nodup_le nd
          have hl' : l.length ≤ 10 + 64 * kn.length := hl
          have en' : n = (270 - kn.length) * 30000 + l.length := en
          have hn' : n % 30000 ≠ 0 := of_decide_eq_true hn
          have lne : l ≠ [] := fun z => hn' (by rw [en', z]; show ((270 - kn.length) * 30000 + 0) % 30000 = 0; omega)
          obtain ⟨l1, st, el⟩ : ∃ l1 st, l = l1 ++ [st] := ⟨l.dropLast, l.getLast lne, (List.dropLast_concat_getLast lne).symm⟩
          subst el
          rw [List.length_append] at hl' en'
          have hl1 : l1.length + 1 ≤ 10 + 64 * kn.length := hl'
          have en1 : n = (270 - kn.length) * 30000 + (l1.length + 1) := en'
          show Ss _ (LY K H kd b kn (l1 ++ [st])).p _ [some (bookD Bk), some (wayD M), some (.adr kd), some (.adr b), none] _ _
          refine ss_to (Γ1 := [some (bookD Bk), some (wayD M), some (.adr kd), some (.adr b), some (standD st)]) (B := (LY K H kd b kn l1).p) (ss_set (se_popL (ev_var rfl)) rfl (fun d H' ⟨e, p⟩ => ⟨by rw [e]; rfl, p⟩)) ?_
          refine ss_if (et_B (ev_notKnown (ev_var rfl) (ev_var rfl))) (fun h => ?_) (fun h => ss_next fun H' p => ⟨(270 - kn.length) * 30000 + l1.length, [some (bookD Bk), some (wayD M), some (.adr kd), some (.adr b), none], by omega, ⟨.inr rfl, .inr rfl, .inr rfl, .inr rfl, .inl rfl, trivial⟩, (b, kn, l1), ⟨rfl, nd, ?_, rfl, by show l1.length ≤ 10 + 64 * kn.length; omega⟩, p⟩)
          · have new : st ∉ kn := fun z => by rw [decide_eq_true z] at h; cases h
            refine ss_to (ss_putK (ev_var rfl) (ev_var rfl) new (by omega) rfl) ?_
            refine ss_set (se_catL (Bk := Bk) (M := M) (ev_var rfl) (ea_cons (ev_var rfl) (ea_cons (ev_var rfl) (ea_cons (ev_var rfl) ea_nil))) (by omega)) rfl (fun d H' ⟨b', zs, ed, same, lz, p⟩ => ?_)
            have nd2 : (kn ++ [st]).Nodup := List.nodup_append.mpr ⟨nd, List.nodup_cons.mpr ⟨(fun z => nomatch z), List.nodup_nil⟩, fun a ha c hc z => new (by rw [List.mem_singleton.mp hc] at z; rw [← z]; exact ha)⟩
            have hk2 : (kn ++ [st]).length ≤ 270 := KM.nodup_le nd2
            have lk2 : (kn ++ [st]).length = kn.length + 1 := by rw [List.length_append]; rfl
            rw [lk2] at hk2
            refine ⟨(270 - (kn ++ [st]).length) * 30000 + (l1 ++ zs).length, [some (bookD Bk), some (wayD M), some (.adr kd), some (.adr b'), none], by rw [lk2, List.length_append]; omega, ?_, (b', kn ++ [st], l1 ++ zs), ⟨rfl, nd2, ?_, rfl, ?_⟩, p⟩
            · rw [ed]
              exact ⟨.inr rfl, .inr rfl, .inr rfl, .inr rfl, .inl rfl, trivial⟩
            · have mv : ∀ {z : KM.Stand}, z ∈ kn ∨ z ∈ l1 ++ [st] → z ∈ kn ++ [st] ∨ z ∈ l1 ++ zs := fun {z} h => by
                rcases h with h | h
                · exact .inl (List.mem_append_left _ h)
                · rcases List.mem_append.mp h with h | h
                  · exact .inr (List.mem_append_left _ h)
                  · exact .inl (List.mem_append_right _ h)
              refine ⟨fun z m => mv (cl.1 z m), fun z m t mt => ?_⟩
              rcases List.mem_append.mp m with m | m
              · exact mv (cl.2 z m t mt)
              · rw [List.mem_singleton.mp m] at mt
                exact .inr (List.mem_append_right _ ((same t).mpr mt))
            · show (l1 ++ zs).length ≤ 10 + 64 * (kn ++ [st]).length
              rw [lk2, List.length_append]; omega
          · have old : st ∈ kn := by simpa using h
            have mv : ∀ {z : KM.Stand}, z ∈ kn ∨ z ∈ l1 ++ [st] → z ∈ kn ∨ z ∈ l1 := fun {z} h => by
              rcases h with h | h
              · exact .inl h
              · rcases List.mem_append.mp h with h | h
                · exact .inr h
                · rw [List.mem_singleton.mp h]; exact .inl old
            exact ⟨fun z m => mv (cl.1 z m), fun z m t mt => mv (cl.2 z m t mt)⟩
        · have hb' : n % 30000 = 0 := by simpa using hb
          have hk : kn.length ≤ 270 := KM.nodup_le nd
          have hl' : l.length ≤ 10 + 64 * kn.length := hl
          have en' : n = (270 - kn.length) * 30000 + l.length := en
          have l0 : l = [] := List.length_eq_zero_iff.mp (by omega)
          subst l0
          exact ⟨(b, kn), e, ⟨nd, cl⟩, p⟩
        · have hk : kn.length ≤ 270 := KM.nodup_le nd
          intro σ H1 E1 a1 e1 _ kr1
          obtain ⟨sm, n1, n2, ne, ⟨kvs, ek, hkn⟩, _⟩ := (show LX K H kd b kn [] H1 from a1)
          obtain ⟨v, h1, h2⟩ := e1.at_ 2 _ rfl
          have ev : v = .ref kd := h2
          subst ev
          refine ⟨.ref kd, h1, kd, kvs, rfl, .inl ek, fun p bs hp ik => ?_⟩
          obtain ⟨L, q1, q2, q3⟩ := isKeys_row ik hkn
          have s2 : Same H1 (upd H1 p (.lst (bs.map V.ref))) := Same.new hp
          have lL : L.length = kn.length := by
            have := congrArg List.length q2
            rw [List.length_map, List.length_map] at this
            exact this
          refine ⟨p, L, rfl, SqL.of (by rw [upd_same, q1, List.map_map]; rfl), fun r m => SqT.of (s2 _ _ (q3 r m)), fun r m => ?_, by omega, fun L' p2 pm hp2 => ?_⟩
          · have : r.2 ∈ kn.map nmS := by rw [← q2]; exact List.mem_map.mpr ⟨r, m, rfl⟩
            obtain ⟨t, _, et⟩ := List.mem_map.mp this
            rw [← et]
            exact nmS_ne t
          · have s3 : Same (upd H1 p (.lst (bs.map V.ref))) (upd (upd H1 p (.lst (bs.map V.ref))) p2 (.lst (L'.map fun q => V.ref q.1))) := Same.new hp2
            refine ⟨p2, _, rfl, .inl ⟨SqL.of upd_same, fun p3 hp3 => ?_⟩⟩
            have s4 : Same (upd (upd H1 p (.lst (bs.map V.ref))) p2 (.lst (L'.map fun q => V.ref q.1))) (upd (upd (upd H1 p (.lst (bs.map V.ref))) p2 (.lst (L'.map fun q => V.ref q.1))) p3 (.tup (L'.map fun q => V.ref q.1))) := Same.new hp3
            obtain ⟨zs, e3, h3⟩ := of_keys (K := K) (H := upd (upd (upd H1 p (.lst (bs.map V.ref))) p2 (.lst (L'.map fun q => V.ref q.1))) p3 (.tup (L'.map fun q => V.ref q.1))) (ks := L') fun r m => by
              have m2 := pm.mem_iff.mp m
              have : r.2 ∈ kn.map nmS := by rw [← q2]; exact List.mem_map.mpr ⟨r, m2, rfl⟩
              obtain ⟨t, _, et⟩ := List.mem_map.mp this
              exact ⟨⟨t, et.symm⟩, s4 _ _ (s3 _ _ (s2 _ _ (q3 r m2)))⟩
            have lz : zs.length = kn.length := by
              have := congrArg List.length e3
              rw [List.length_map, List.length_map] at this
              rw [← this, pm.length_eq, lL]
            refine kr1 (.tup (zs.map standD)) _ _ (Fz.of ((s2.trans s3).trans s4)) ⟨((sm.trans s2).trans s3).trans s4, zs, rfl, fun z r => ?_, by omega⟩ ⟨p3, _, rfl, upd_same, h3⟩
            rw [mem_nm e3]
            obtain ⟨r2, m2, e4⟩ := (mem_nm q2).mp (cl.all r)
            exact ⟨r2, pm.mem_iff.mpr m2, e4⟩⟩
end
end KH

/-! part K21 -/
set_option Elab.async false
set_option linter.all false
set_option maxRecDepth 100000
set_option maxHeartbeats 4000000
namespace KM
/-! what stands behind rows of units, by a true book -/
theorem left_txt (B : Book) : ∀ (us : List Un) (pg : Pg), (pgs B pg us).left = pg.left ++ txt us
  | [], pg => (List.append_nil _).symm
  | .sg c :: us, pg => by
    have h : (typeS B pg c).left = pg.left ++ [c] := by unfold typeS; split <;> rfl
    show (pgs B (typeS B pg c) us).left = pg.left ++ (c :: txt us)
    rw [left_txt B us, h, List.append_assoc]
    rfl
  | .sl c :: us, pg => by
    have h : (typeS B pg c).left = pg.left ++ [c] := by unfold typeS; split <;> rfl
    have h2 : (back B (typeS B pg c)).left = pg.left := by
      unfold back
      rw [h]
      simp
    show (pgs B (back B (typeS B pg c)) us).left = pg.left ++ txt us
    rw [left_txt B us, h2]
theorem prefix_ok {B : Book} {M : Way} {R : List Nat} {us : List Un} (hB : isTrue B M = true) (hM : M.later = true ∨ R = []) (ho : oks M Rd.start us = true) :
    ∃ ed, Inv B R (pgs B (Pg.start R) us) (rds M.words Rd.start us) ed ∧ Reach B M (standOf (pgs B (Pg.start R) us) (rds M.words Rd.start us) R) :=
  run_ok (true_safe hB) us _ _ [] (Inv.start B R) (start_stand B M hM) ho
theorem whole_ok {B : Book} {M : Way} {R : List Nat} {us : List Un} (hB : isTrue B M = true) (hM : M.later = true ∨ R = []) (ho : oks M Rd.start us = true) (hw : (rds M.words Rd.start us).whole = true) : (pgs B (Pg.start R) us).right.map (·.1) = R := by
  obtain ⟨ed, I, _⟩ := prefix_ok hB hM ho
  have hn : (rds M.words Rd.start us).needs = [] := of_decide_eq_true (Bool.and_eq_true_iff.mp hw).1
  have hs := I.sub
  rw [hn] at hs
  have he : ed = [] := List.map_eq_nil_iff.mp (List.sublist_nil.mp hs)
  rw [I.right, he, List.nil_append, List.map_map]
  show R.map (fun c => c) = R
  rw [List.map_id']
/-- the keys without slips -/
def plk : List Nat → Nat → List Nat
  | _, 0 => []
  | [], _ + 1 => []
  | a :: r, k + 1 => (if a ≠ 0 ∧ r[0]? ≠ some 0 then [a] else []) ++ plk r k
theorem plk_succ : ∀ {ks : List Nat} {k a : Nat}, ks[k]? = some a → plk ks (k + 1) = plk ks k ++ (if a ≠ 0 ∧ ks[k + 1]? ≠ some 0 then [a] else [])
  | [], _, _, h => by cases h
  | b :: r, 0, a, h => by
    have e : b = a := Option.some.inj h
    subst e
    show (if b ≠ 0 ∧ r[0]? ≠ some 0 then [b] else []) ++ plk r 0 = [] ++ _
    have e0 : plk r 0 = [] := by cases r <;> rfl
    rw [e0, List.append_nil, List.nil_append]
    rfl
  | b :: r, k + 1, a, h => by
    have h' : r[k]? = some a := h
    show (if b ≠ 0 ∧ r[0]? ≠ some 0 then [b] else []) ++ plk r (k + 1) = ((if b ≠ 0 ∧ r[0]? ≠ some 0 then [b] else []) ++ plk r k) ++ _
    rw [plk_succ h', List.append_assoc]
    rfl
theorem plk_flat : ∀ {us : List Un}, (∀ u ∈ us, u.c ≠ 0) → plk (flat us) (flat us).length = txt us
  | [], _ => rfl
  | .sg c :: us, h => by
    have hc : c ≠ 0 := h (.sg c) List.mem_cons_self
    have ih := plk_flat (us := us) fun u m => h u (List.mem_cons_of_mem _ m)
    have h0 : (flat us)[0]? ≠ some 0 := by
      cases us with
      | nil => exact fun z => by cases z
      | cons v us =>
        obtain ⟨r, e⟩ := keys_hd v
        intro z
        have z' : (v.keys ++ flat us)[0]? = some 0 := z
        rw [e] at z'
        exact h v (List.mem_cons_of_mem _ List.mem_cons_self) (Option.some.inj z')
    show (if c ≠ 0 ∧ (flat us)[0]? ≠ some 0 then [c] else []) ++ plk (flat us) (flat us).length = c :: txt us
    rw [if_pos ⟨hc, h0⟩, ih]
    rfl
  | .sl c :: us, h => by
    have ih := plk_flat (us := us) fun u m => h u (List.mem_cons_of_mem _ m)
    show (if c ≠ 0 ∧ (0 :: flat us)[0]? ≠ some 0 then [c] else []) ++ ((if 0 ≠ 0 ∧ (flat us)[0]? ≠ some 0 then [0] else []) ++ plk (flat us) (flat us).length) = txt us
    rw [if_neg (fun z => z.2 rfl), if_neg (fun z => z.1 rfl), ih]
    rfl
theorem plk_len : ∀ (ks : List Nat) (k : Nat), (plk ks k).length ≤ k
  | _, 0 => by
    rename_i ks
    cases ks <;> exact Nat.le_refl _
  | [], _ + 1 => Nat.zero_le _
  | a :: r, k + 1 => by
    have := plk_len r k
    show ((if a ≠ 0 ∧ r[0]? ≠ some 0 then [a] else []) ++ plk r k).length ≤ _
    rw [List.length_append]
    split
    · show 1 + _ ≤ _; omega
    · show 0 + _ ≤ _; omega
end KM
namespace KH
open PySem PySem.Spec PyProof.Rows L2 KD KB
section
variable {P : Program} {w : World} {K : PySem.W.Frag} {mg : Str → Option Value} {base : Heap}
section
variable {Y : Hy} {Γ Γ0 : Ga} {ta tb te : TE} {s : KM.Stand} {zs : List KM.Stand} {L : Rel K} {A : Hp → Prop} {Nn : Ga → Hp → Prop} {R : D → Hp → Prop}
theorem eqv_stand (s : KM.Stand) : PyData.eqv (standD s).py (standD s).py = true := by
  have e : ∀ x : Str, PyData.eqv (.str x) (.str x) = true := fun x => by rw [eqv_str]; exact decide_eq_true rfl
  show PyData.eqv (.tuple [.str _, .str _, .str _, .str _, .str _]) (.tuple [.str _, .str _, .str _, .str _, .str _]) = true
  simp only [PyData.eqv, PyData.eqvAll, beq_self_eq_true, Bool.and_self]
theorem pyL_map : ∀ l : List KM.Stand, pyL (l.map standD) = l.map fun s => (standD s).py
  | [] => rfl
  | s :: l => by
    rw [List.map_cons, List.map_cons]
    show (standD s).py :: pyL (l.map standD) = _
    rw [pyL_map l]
/-- a stand that is in a table -/
theorem ev_notInT (ha : Ev K Y ta Γ (standD s)) (hb : Ev K Y tb Γ (.tup (zs.map standD))) (m : s ∈ zs) : Ev K Y (tOp (rNotInTD K) ta tb) Γ (.bl false) :=
  ev_op ha hb fun H v u _ e1 e2 Q q => by
    have p1 := pok_stand s
    have p2 := pok_stands zs
    have hx : (D.tup (zs.map standD)).pok = true ∧ (D.tup (zs.map standD)).dep ≤ 64 := ⟨p2.1, Nat.succ_le_succ p2.2⟩
    refine ⟨(standD s).py, pyL (zs.map standD), dp_py _ v p1.1 e1, dp_py _ u hx.1 e2, shaped_py p1.1 (by omega), shaped_py hx.1 hx.2, q _ H (Same.refl H) ?_⟩
    have : ((pyL (zs.map standD)).any fun z => PyData.eqv z (standD s).py) = true := by
      rw [pyL_map]
      exact List.any_eq_true.mpr ⟨_, List.mem_map.mpr ⟨s, m, rfl⟩, eqv_stand s⟩
    rw [this]
    rfl
theorem ss_setW {B : D → Hp → Prop} {i : Nat} (h : Se L A te Γ B) (le : leG Γ Γ0) (g : okG L Γ0 = true) (hn : ∀ d H, B d H → Nn (Γ0.set i (some d)) H) : Ss L A (tAsg te (gName i)) Γ Nn R := fun σ H E a e k _ =>
  h σ H a e _ fun d v H' r b h' => k _ _ H' r (hn d H' b) (((e.le le).rel g r).set h')
end
def Ft (m : Ad) : Fr m := ⟨fun _ => True, fun _ _ _ _ h => h⟩
abbrev lastKeys : List KM.Un := [.sg 40, .sg 39, .sl 41, .sg 41, .sg 39, .sl 39, .sg 41]
abbrev lastBook : KM.Book := ⟨.always, .always, .none, .own, .own, .never⟩
abbrev lastWay : KM.Way := ⟨true, false, true⟩
theorem last_ok : TurnOk lastWay [41, 39] lastKeys := ⟨⟨⟨by decide +kernel, by decide +kernel⟩, by decide +kernel⟩, ⟨by decide, fun c hc => by
  have : ([41, 39] : List Nat).all KM.sgn = true := by decide +kernel
  exact List.all_eq_true.mp this c hc⟩, .inl rfl⟩
theorem last_eq : rtx (KM.pgs lastBook (KM.Pg.start [41, 39]) lastKeys) = [41, 39] := by decide +kernel
def sp_law (K : PySem.W.Frag) : Sp := spS (relF K) fun H ds B => ∃ (q : Addr) (xs : List Int), ds = [.adr q] ∧ SqL K H q (xs.map V.int) ∧ xs.length ≤ 63 ∧ B = fun d _ => d = .bl true
/-- a def by its body, its own datum told -/
theorem fnok_of {x : Str} {pa : Arguments} {bd : List Stmt} {sc : Scope} {N ps : List Str} {k : Nat} {sp : Sp} {f : Addr} {fd : FuncData} (F : FunD K x x pa bd sc [] [] f fd) (S : FnScope N ps sc) (len : ∀ vs H Q E, sp vs H Q E → vs.length = ps.length)
    (body : ∀ (cdv : Value) (A : Around) (outer : List PySem.Env) (s : Shared) (H : Hp) (E : XK), Room k (A.deeper (envOfC x sc s.heap.objs.size f cdv)) → ∃ t, PSs (cxOf C8.CX0 P w K mg base N x sc f cdv A outer s H E).nox bd t ∧ ∀ vs Q, sp vs H Q E → t { nx := fun _ H' => Q .non H', rt := Q } (L2.start N vs) H) :
    FnOk P w K mg base C8.CX0 (k + 1) f fd ps sp := F.ok S len fun cdv A outer s H vs Q E hr h => by
  obtain ⟨t, h1, h2⟩ := body cdv A outer s H E hr
  exact ⟨t, h1.nox, h2 vs Q h⟩
theorem sc_law : FnScope ["_law_script", "_law_m", "_law_turn", "_law_rules", "_law_way", "_law_plain_so", "_law_k", "_law_page", "_law_table", "_law_later_here", "_law_keys", "_law_far"] ["_law_script"] (defScope s_law) := ⟨rfl, rfl, rfl, by decide +kernel, rfl, by decide +kernel, by decide +kernel⟩
theorem fn_law (T : Tx K mg) {fd : FuncData} (F : FunD K "law" "law" (defArgs s_law) (defBody s_law) (defScope s_law) [] [] (He.ga K "law") fd) : FnOk P w K mg base C8.CX0 8 (He.ga K "law") fd ["_law_script"] (sp_law K) :=
  fnok_of F sc_law
    (spS_len fun H ds B ⟨_, _, e, _⟩ => by rw [e]; rfl) fun cdv A outer s H E hr => ⟨_, (pss_cons (ps_set (i := 1) sc_law.nd rfl (Or.inl rfl) (C8.pe_c (cal_begun T) hr (by decide) (by rfl) (pa_cons (pv 0) pa_nil))) (pss_cons (ps_for PassesOwn.never rfl (pi_range1 rfl T.b_range (pa_cons pe_int pa_nil)) (pg_name (i := 2) sc_law.nd rfl (Or.inl rfl)) (pss_cons (ps_set (i := 4) sc_law.nd rfl (Or.inl rfl) (C8.pe_c (cal_manner T) hr (by decide) (by rfl) (pa_cons (pv 1) pa_nil))) (pss_cons (ps_par3 (i := 3) (j := 9) (l := 10) (by rfl) sc_law.nd rfl rfl rfl (by decide) (by decide) (by decide) rfl rfl rfl (pa_cons (C8.pe_c (cal_true_book T) hr (by decide) (by rfl) (pa_cons (pv 1) (pa_cons (pv 4) pa_nil))) (pa_cons (C8.pe_c (cal_later T) hr (by decide) (by rfl) (pa_cons (pv 1) (pa_cons (pv 4) pa_nil))) (pa_cons (C8.pe_c (cal_full_row T) hr (by decide) (by rfl) (pa_cons (pv 1) (pa_cons (pv 4) (pa_cons pe_int pa_nil)))) pa_nil))) (by rfl)) (pss_cons (ps_if (PW.pt (pw_or (pt_cmpR op_notBl (C8.pe_c (cal_is_typing T) hr (by decide) (by rfl) (pa_cons (pv 4) (pa_cons (pv 10) pa_nil))) pe_bl (nomark _)) (pw_or1 (pt_cmpR op_ne (C8.pe_c (cal_left_over T) hr (by decide) (by rfl) (pa_cons (pv 3) (pa_cons (pv 4) (pa_cons (pv 9) (pa_cons (pv 10) pa_nil))))) (pv 9) (nomark _))))) (pss_one (ps_ret pe_bl)) pss_nil) (pss_cons (ps_if (pt_cmpR op_notBl (C8.pe_c (cal_harms T) hr (by decide) (by rfl) (pa_cons (pv 3) (pa_cons (pv 4) (pa_cons (pv 9) (pa_cons (pv 10) pa_nil))))) pe_bl (nomark _)) (pss_one (ps_ret pe_bl)) pss_nil) (pss_cons (ps_set (i := 5) sc_law.nd rfl (Or.inl rfl) pe_str) (pss_cons (ps_for PassesOwn.never rfl (pi_range1 rfl T.b_range (pa_cons (pe_callB call_len (by rfl) T.b_len PySem.boot_len (pa_cons (pv 10) pa_nil)) pa_nil)) (pg_name (i := 6) sc_law.nd rfl (Or.inl rfl)) (pss_one (ps_if (PW.pt (pw_and (pt_cmpR op_ne (pe_ix ix_tup (pv 10) (pv 6) (fun _ _ => rfl)) pe_str (nomark _)) (pw_and1 (pt_cmpR (op_neD (hu64 hr)) (pe_slice sl_tupA (pv 10) (po_some (pe_op op_add (pv 6) pe_int)) (po_some (pe_op op_add (pv 6) pe_int))) (pe_tup (pa_cons pe_str pa_nil)) (nomark _))))) (pss_one (ps_set (i := 5) sc_law.nd rfl (Or.inl rfl) (pe_op op_add_str (pv 5) (pe_ix ix_tup (pv 10) (pv 6) (fun _ _ => rfl))))) pss_nil))) (pss_cons (ps_set (i := 7) sc_law.nd rfl (Or.inl rfl) (C8.pe_c (cal_pressed T) hr (by decide) (by rfl) (pa_cons (pv 3) (pa_cons (pe_tup (pa_cons pe_str (pa_cons (pv 9) (pa_cons (pe_tup pa_nil) pa_nil)))) (pa_cons (pv 10) pa_nil))))) (pss_cons (ps_if (PW.pt (pw_or (pt_cmpR op_ne (C8.pe_c (cal_typed T) hr (by decide) (by rfl) (pa_cons (pv 4) (pa_cons (pv 10) pa_nil))) (pv 5) (nomark _)) (pw_or (pt_cmpR op_ne (pe_ix ix_tup (pv 7) pe_int (fun _ _ => rfl)) (pv 5) (nomark _)) (pw_or1 (pt_cmpR op_ne (pe_ix ix_tup (pv 7) pe_int (fun _ _ => rfl)) (pv 9) (nomark _)))))) (pss_one (ps_ret pe_bl)) pss_nil) (pss_cons (ps_set (i := 8) sc_law.nd rfl (Or.inl rfl) (C8.pe_c (cal_least T) hr (by decide) (by rfl) (pa_cons (pv 3) (pa_cons (pv 4) pa_nil)))) (pss_one (ps_for PassesOwn.never rfl (pi_range1 rfl T.b_range (pa_cons (pe_op op_add (pe_callB call_len (by rfl) T.b_len PySem.boot_len (pa_cons (pv 10) pa_nil)) pe_int) pa_nil)) (pg_name (i := 6) sc_law.nd rfl (Or.inl rfl)) (pss_one (ps_if (pt_cmpR (op_neD (hu64 hr)) (pe_slice sl_tupA (pv 10) (po_some (pv 6)) (po_some (pe_op op_add (pv 6) pe_int))) (pe_tup (pa_cons pe_str pa_nil)) (nomark _)) (pss_cons (ps_set (i := 11) sc_law.nd rfl (Or.inl rfl) (pe_ix ix_tup (C8.pe_c (cal_pressed T) hr (by decide) (by rfl) (pa_cons (pv 3) (pa_cons (pe_tup (pa_cons pe_str (pa_cons (pv 9) (pa_cons (pe_tup pa_nil) pa_nil)))) (pa_cons (pe_slice sl_tupA (pv 10) po_none (po_some (pv 6))) pa_nil)))) pe_int (fun _ _ => rfl))) (pss_cons (ps_if (pt_cmpR (op_notInTD (hu65 hr)) (C8.pe_c (cal_stand_behind T) hr (by decide) (by rfl) (pa_cons (pv 3) (pa_cons (pv 4) (pa_cons (pv 9) (pa_cons (pe_slice sl_tupA (pv 10) po_none (po_some (pv 6))) pa_nil))))) (pv 8) (by rfl)) (pss_one (ps_ret pe_bl)) pss_nil) (pss_one (ps_if (pt_not (pt_val (C8.pe_c (cal_is_part T) hr (by decide) (by rfl) (pa_cons (pv 11) (pa_cons (pv 9) (pa_cons (C8.pe_c (cal_needs_behind T) hr (by decide) (by rfl) (pa_cons (pv 4) (pa_cons (pe_slice sl_tupA (pv 10) po_none (po_some (pv 6))) pa_nil))) pa_nil)))))) (pss_one (ps_ret pe_bl)) pss_nil)))) pss_nil)))))))))))))) (pss_cons (ps_set (i := 3) sc_law.nd rfl (Or.inl rfl) (pe_tup (pa_cons pe_str (pa_cons pe_str (pa_cons pe_str (pa_cons pe_str (pa_cons pe_str (pa_cons pe_str pa_nil)))))))) (pss_one (ps_ret (pe_cmpR op_eq (C8.pe_c (cal_left_over T) hr (by decide) (by rfl) (pa_cons (pv 3) (pa_cons (pe_tup (pa_cons pe_bl (pa_cons pe_bl (pa_cons pe_bl pa_nil)))) (pa_cons pe_str (pa_cons (pe_tup (pa_cons pe_str (pa_cons pe_str (pa_cons pe_str (pa_cons pe_str (pa_cons pe_str (pa_cons pe_str (pa_cons pe_str (pa_cons pe_str (pa_cons pe_str pa_nil)))))))))) pa_nil))))) pe_str (nomark _))))))), spS_by _ <| by
      rintro ds B ⟨q, xs, rfl, eq, hl, rfl⟩
      refine ⟨(sameY H).p, Same.refl H, ?_⟩
      show Ss _ _ _ [some (.adr q), none, none, none, none, none, none, none, none, none, none, none] _ _
      refine ss_toE (ι := Ad) (Γi := fun m => [none, some (.adr m.a), none, none, none, none, none, none, none, none, none, none]) (Bi := fun m => (FY (Ft m) 0).p)
        (ss_setW (se_callX (Y := sameY H) (B := fun d H' => ∃ m : Ad, d = .adr m.a ∧ mAt m 0 H') rfl (ea_cons (ev_var rfl) ea_nil) (fun H1 s1 => ⟨_, ⟨q, xs, rfl, seqL s1 eq, hl, rfl⟩, fun d H' _ h => h⟩)) (Γ0 := [none, none, none, none, none, none, none, none, none, none, none, none]) ⟨.inl rfl, .inl rfl, .inl rfl, .inl rfl, .inl rfl, .inl rfl, .inl rfl, .inl rfl, .inl rfl, .inl rfl, .inl rfl, .inl rfl, trivial⟩ rfl (fun d H' ⟨m, e, p⟩ => ⟨m, by rw [e]; rfl, trivial, p⟩)) fun m => ?_
      refine ss_toE (ι := Unit) (Γi := fun _ => [none, some (.adr m.a), none, none, none, none, none, none, none, none, none, none]) (Bi := fun _ => (FY (Ft m) 3600).p)
        (ss_for (Y := FY (Ft m) 0) (n := 8) (fun i G H' => G = [none, some (.adr m.a), none, none, none, none, none, none, none, none, none, none] ∧ (FY (Ft m) (450 * i)).p H') (wi_rng1 (j := 8) (ea_cons ev_int ea_nil) (by decide)) (tg_name 2) (fun H' p => ⟨rfl, p⟩) (fun i G H1 H2 s ⟨e, p⟩ => ⟨e, (FY (Ft m) (450 * i)).st _ _ s p⟩) ?_ (fun G H' ⟨e, p⟩ => ⟨(), e, p⟩)) (fun _ => ?_)
      · rintro i d G hi rfl
        refine ⟨trivial, ss_fact fun eG => ?_⟩
        subst eG
        show Ss _ (FY (Ft m) (450 * i)).p _ [none, some (.adr m.a), some (.int (i : Int)), none, none, none, none, none, none, none, none, none] _ _
        refine ss_toE (ι := KM.Way) (Γi := fun M => [none, some (.adr m.a), some (.int (i : Int)), none, some (wayD M), none, none, none, none, none, none, none]) (Bi := fun M => (FY (Ft m) (450 * i + 3)).p)
          (ss_set (se_callM rfl (ea_cons (ev_var rfl) ea_nil) ⟨rfl, rfl⟩ (by omega)) rfl (fun d H' ⟨⟨M, e⟩, p⟩ => ⟨M, by rw [e]; rfl, p⟩)) fun M => ?_
        refine ss_toE (ι := KM.Book × List Nat × List KM.Un) (Γi := fun q => [none, some (.adr m.a), some (.int (i : Int)), some (bookD q.1), some (wayD M), none, none, none, none, some (.str (S q.2.1)), some (keysD (KM.flat q.2.2)), none]) (Bi := fun q H' => (KM.isTrue q.1 M = true ∧ TurnOk M q.2.1 q.2.2) ∧ (FY (Ft m) (450 * i + 446)).p H')
          (ss_par3E (se_callM rfl (ea_cons (ev_var rfl) (ea_cons (ev_var rfl) ea_nil)) ⟨M, rfl, rfl⟩ (by omega)) rfl (fun x H' ⟨⟨B, e, _⟩, _⟩ => by rw [e]; rfl)
            (B2 := fun d H' => (∃ R, d = .str (S R) ∧ okT R ∧ (M.later = true ∨ R = [])) ∧ (FY (Ft m) (450 * i + 3 + 241 + 1)).p H') (fun x σ H1 a => se_callM rfl (ea_cons (ev_var rfl) (ea_cons (ev_var rfl) ea_nil)) ⟨M, rfl, rfl⟩ (by omega) σ H1 a.2) (fun x H' ⟨⟨R, e, _⟩, _⟩ => by rw [e]; rfl)
            (B3 := fun d H' => (∃ us, d = keysD (KM.flat us) ∧ Whole M us) ∧ (FY (Ft m) (450 * i + 3 + 241 + 1 + 201)).p H') (fun x σ H1 a => se_callM rfl (ea_cons (ev_var rfl) (ea_cons (ev_var rfl) (ea_cons ev_int ea_nil))) ⟨M, rfl, rfl⟩ (by omega) σ H1 a.2)
            (fun d => ∃ B, d = bookD B ∧ KM.isTrue B M = true) (fun d => ∃ R, d = .str (S R) ∧ okT R ∧ (M.later = true ∨ R = [])) (fun _ _ h => h.1) (fun _ _ h => h.1)
            (fun x y z H' ⟨B, e1, hB⟩ ⟨R, e2, hR, hM⟩ ⟨⟨us, e3, hW⟩, p⟩ => ⟨(B, R, us), by rw [e1, e2, e3]; rfl, ⟨hB, hW, hR, hM⟩, p⟩)) (fun ⟨Bk, R, us⟩ => ss_fact fun ⟨hB, hT⟩ => ?_)
        have hW : Whole M us := hT.w
        have hR : okT R := hT.r
        have hM : M.later = true ∨ R = [] := hT.m
        have hB' : KM.isTrue Bk M = true := hB
        have rt : rtx (KM.pgs Bk (KM.Pg.start R) us) = R := KM.whole_ok hB' hM hW.1.1 hW.2
        have lt : (KM.pgs Bk (KM.Pg.start R) us).left = KM.txt us := by rw [KM.left_txt]; rfl
        have pf : pressN Bk (KM.Pg.start R) (KM.flat us) = KM.pgs Bk (KM.Pg.start R) us := press_flat Bk us _ hW.1.nz
        have fl : (KM.flat us).length ≤ 400 := hW.1.2
        show Ss _ (FY (Ft m) (450 * i + 446)).p _ [none, some (.adr m.a), some (.int (i : Int)), some (bookD Bk), some (wayD M), none, none, none, none, some (.str (S R)), some (keysD (KM.flat us)), none] _ _
        -- is typed, leaves over what it should
        refine ss_ifs (b := false) (et_or (a := false) (b := false) (et_test (ev_as (ev_notB (a := true) (b := true) (ev_callR rfl (ea_cons (ev_var rfl) (ea_cons (ev_var rfl) ea_nil)) ⟨_, _, rfl, rfl, hW⟩) ev_bl) rfl)) (fun _ => et_test (ev_as (ev_neL (ev_callR rfl (ea_cons (ev_var rfl) (ea_cons (ev_var rfl) (ea_cons (ev_var rfl) (ea_cons (ev_var rfl) ea_nil)))) ⟨_, _, _, _, rfl, rfl, hT⟩) (ev_var rfl)) (by rw [rt, decide_eq_true rfl]; rfl)))) (fun z => by cases z) (fun _ => ss_nx ?_)
        refine ss_ifs (b := false) (et_test (ev_as (ev_notB (b := false) (ev_callR rfl (ea_cons (ev_var rfl) (ea_cons (ev_var rfl) (ea_cons (ev_var rfl) (ea_cons (ev_var rfl) ea_nil)))) ⟨_, _, _, _, rfl, rfl, hT⟩) ev_bl) (by rw [rt, decide_eq_true rfl]; rfl))) (fun z => by cases z) (fun _ => ss_nx ?_)
        -- the text without slips
        refine ss_to (ss_rn (Γ' := [none, some (.adr m.a), some (.int (i : Int)), some (bookD Bk), some (wayD M), some (.str (S [])), none, none, none, some (.str (S R)), some (keysD (KM.flat us)), none]) (rn_set (ev_lit (l := []) (by decide +kernel))) (fun H' h => ⟨rfl, h⟩)) ?_
        refine ss_to (ss_rn (Γ' := [none, some (.adr m.a), some (.int (i : Int)), some (bookD Bk), some (wayD M), some (.str (S (KM.plk (KM.flat us) (KM.flat us).length))), none, none, none, some (.str (S R)), some (keysD (KM.flat us)), none])
          (rn_forS (n := (KM.flat us).length) (fun k => [none, some (.adr m.a), some (.int (i : Int)), some (bookD Bk), some (wayD M), some (.str (S (KM.plk (KM.flat us) k))), none, none, none, some (.str (S R)), some (keysD (KM.flat us)), none])
            (by
              have := wi_rng1 (K := K) (A := FY (Ft m) (450 * i + 446)) (Rr := Same) (Γ := [none, some (.adr m.a), some (.int (i : Int)), some (bookD Bk), some (wayD M), some (.str (S [])), none, none, none, some (.str (S R)), some (keysD (KM.flat us)), none]) (j := (((KM.flat us).map kD).length : Nat)) (ea_cons (ev_lenT (e := keysD (KM.flat us)) (ea_cons (ev_var (i := 10) rfl) ea_nil)) ea_nil) ⟨by omega, by rw [List.length_map]; omega⟩
              rw [Int.toNat_natCast, List.length_map] at this
              exact this) (tg_name 6) ?_ ?_) (fun H' h => ⟨rfl, h⟩)) ?_
        · have e0 : KM.plk (KM.flat us) 0 = [] := by cases KM.flat us <;> rfl
          rw [e0]
          exact leG_refl _
        · rintro k d hk rfl
          refine ⟨trivial, [none, some (.adr m.a), some (.int (i : Int)), some (bookD Bk), some (wayD M), some (.str (S (KM.plk (KM.flat us) (k + 1)))), some (.int (k : Int)), none, none, some (.str (S R)), some (keysD (KM.flat us)), none], ?_, ⟨.inr rfl, .inr rfl, .inr rfl, .inr rfl, .inr rfl, .inr rfl, .inl rfl, .inr rfl, .inr rfl, .inr rfl, .inr rfl, .inr rfl, trivial⟩⟩
          obtain ⟨n, hn⟩ : ∃ n, (KM.flat us)[k]? = some n := ⟨_, List.getElem?_eq_getElem hk⟩
          have hlt := hW.1.lt n (List.mem_of_getElem? hn)
          have ls := KM.plk_succ hn
          have ll := KM.plk_len (KM.flat us) k
          show Rn K _ _ [none, some (.adr m.a), some (.int (i : Int)), some (bookD Bk), some (wayD M), some (.str (S (KM.plk (KM.flat us) k))), some (.int (k : Int)), none, none, some (.str (S R)), some (keysD (KM.flat us)), none] _
          refine rn_if (b := !decide (n = 0) && !decide ((KM.flat us)[k + 1]? = some 0)) (et_and (et_test (ev_as (ev_neS (ev_key (ev_var rfl) (ev_var rfl) rfl hn) (ev_lit (l := [98, 97, 99, 107]) (by decide +kernel))) (by rw [keyS_eq n hlt]))) (fun _ => et_test (ev_noBack (a := k + 1) (ev_var rfl) (eo_some (ev_add (ev_var rfl) ev_int)) (eo_some (ev_add (ev_var rfl) ev_int)) (ev_tup (ea_cons ev_str ea_nil)) (by decide +kernel) (by omega) (by omega) hW.1.lt))) (fun h => ?_) (fun h => ?_)
          · have h1 := Bool.and_eq_true_iff.mp h
            have hn0 : n ≠ 0 := by simpa using h1.1
            have hn1 : (KM.flat us)[k + 1]? ≠ some 0 := by simpa using h1.2
            rw [ls, if_pos ⟨hn0, hn1⟩]
            exact rn_set (ev_addL (ev_var rfl) (ev_as (ev_key (ev_var rfl) (ev_var rfl) rfl hn) (congrArg D.str (keyS_sgn hn0))) (by show _ + 1 ≤ _; omega))
          · have no : ¬ (n ≠ 0 ∧ (KM.flat us)[k + 1]? ≠ some 0) := fun z => by
              rw [decide_eq_false z.1, decide_eq_false z.2] at h
              cases h
            rw [ls, if_neg no, List.append_nil]
            exact rn_next
        rw [KM.plk_flat hW.1.nz]
        -- the page behind all
        refine ss_to (ss_rn (Γ' := [none, some (.adr m.a), some (.int (i : Int)), some (bookD Bk), some (wayD M), some (.str (S (KM.txt us))), none, some (toldD (KM.pgs Bk (KM.Pg.start R) us)), none, some (.str (S R)), some (keysD (KM.flat us)), none]) (rn_set (ev_callR rfl (ea_cons (ev_var rfl) (ea_cons (ev_tup (ea_cons (ev_lit (l := []) (by decide +kernel)) (ea_cons (ev_var rfl) (ea_cons (ev_tup ea_nil) ea_nil)))) (ea_cons (ev_var rfl) ea_nil))) ⟨Bk, R, KM.flat us, rfl, by rw [pf], hR, fl, hW.1.keys⟩)) (fun H' h => ⟨rfl, h⟩)) ?_
        refine ss_ifs (b := false) (et_or (a := false) (b := false) (et_test (ev_as (ev_neL (ev_callR rfl (ea_cons (ev_var rfl) (ea_cons (ev_var rfl) ea_nil)) ⟨_, _, rfl, rfl, hW⟩) (ev_var rfl)) (by rw [decide_eq_true rfl]; rfl))) (fun _ => et_or (a := false) (b := false) (et_test (ev_as (ev_neL (ev_ixT (e := toldD (KM.pgs Bk (KM.Pg.start R) us)) (ev_var rfl) ev_int rfl) (ev_var rfl)) (by rw [lt, decide_eq_true rfl]; rfl))) (fun _ => et_test (ev_as (ev_neL (ev_ixT (e := toldD (KM.pgs Bk (KM.Pg.start R) us)) (ev_var rfl) ev_int rfl) (ev_var rfl)) (by rw [rt, decide_eq_true rfl]; rfl))))) (fun z => by cases z) (fun _ => ss_nx ?_)
        -- the table
        have g9 : okG (relF K) [none, some (.adr m.a), some (.int (i : Int)), some (bookD Bk), some (wayD M), some (.str (S (KM.txt us))), none, some (toldD (KM.pgs Bk (KM.Pg.start R) us)), none, some (.str (S R)), some (keysD (KM.flat us)), none] = true := by
          refine okG_c rfl (okG_c rfl (okG_c rfl (okG_c rfl (okG_c rfl (okG_c (show (true && (true && (fzL (ownD _ _) && true))) = true from ?_) (okG_c rfl (okG_c (fz_keys _) rfl)))))))
          rw [fz_own]
          rfl
        refine ss_toE (ι := List KM.Stand) (Γi := fun zs => [none, some (.adr m.a), some (.int (i : Int)), some (bookD Bk), some (wayD M), some (.str (S (KM.txt us))), none, some (toldD (KM.pgs Bk (KM.Pg.start R) us)), some (.tup (zs.map standD)), some (.str (S R)), some (keysD (KM.flat us)), none]) (Bi := fun zs H' => (∀ s, KM.Reach Bk M s → s ∈ zs) ∧ (FY (Ft m) (450 * i + 446)).p H')
          (ss_set (se_callX (Y := FY (Ft m) (450 * i + 446)) (B := fun d H' => ∃ zs : List KM.Stand, d = .tup (zs.map standD) ∧ (∀ s, KM.Reach Bk M s → s ∈ zs) ∧ (FY (Ft m) (450 * i + 446)).p H') rfl (ea_cons (ev_var rfl) (ea_cons (ev_var rfl) ea_nil)) (fun H1 p => ⟨_, ⟨Bk, M, rfl, rfl⟩, fun d H' _ ⟨s, zs, ed, al, _⟩ => ⟨zs, ed, al, (FY (Ft m) (450 * i + 446)).st _ _ s p⟩⟩)) g9 (fun d H' ⟨zs, e, al, p⟩ => ⟨zs, by rw [e]; rfl, al, p⟩)) (fun zs => ss_fact fun al => ?_)
        -- behind each beginning
        refine ss_rn (Γ' := wipeG [none, some (.adr m.a), some (.int (i : Int)), some (bookD Bk), some (wayD M), some (.str (S (KM.txt us))), none, some (toldD (KM.pgs Bk (KM.Pg.start R) us)), some (.tup (zs.map standD)), some (.str (S R)), some (keysD (KM.flat us)), none] [6])
          (rn_forW (n := (KM.flat us).length + 1) (by
              have := wi_rng1 (K := K) (A := FY (Ft m) (450 * i + 446)) (Rr := Same) (Γ := [none, some (.adr m.a), some (.int (i : Int)), some (bookD Bk), some (wayD M), some (.str (S (KM.txt us))), none, some (toldD (KM.pgs Bk (KM.Pg.start R) us)), some (.tup (zs.map standD)), some (.str (S R)), some (keysD (KM.flat us)), none]) (j := (((KM.flat us).map kD).length : Nat) + 1) (ea_cons (ev_add (ev_lenT (e := keysD (KM.flat us)) (ea_cons (ev_var (i := 10) rfl) ea_nil)) ev_int) ea_nil) ⟨by omega, by rw [List.length_map]; omega⟩
              have e : ((((KM.flat us).map kD).length : Nat) + 1 : Int).toNat = (KM.flat us).length + 1 := by rw [List.length_map]; omega
              rw [e] at this
              exact this) (tg_name 6) ?_) (fun H' h => ⟨[none, some (.adr m.a), none, none, none, none, none, none, none, none, none, none], ⟨.inr rfl, .inr rfl, .inl rfl, .inl rfl, .inl rfl, .inl rfl, .inl rfl, .inl rfl, .inl rfl, .inl rfl, .inl rfl, .inl rfl, trivial⟩, rfl, FY.le h (by omega)⟩)
        rintro k d hk rfl
        refine ⟨trivial, ?_⟩
        show ∃ Γ', Rn K _ _ [none, some (.adr m.a), some (.int (i : Int)), some (bookD Bk), some (wayD M), some (.str (S (KM.txt us))), some (.int (k : Int)), some (toldD (KM.pgs Bk (KM.Pg.start R) us)), some (.tup (zs.map standD)), some (.str (S R)), some (keysD (KM.flat us)), none] _ ∧ _
        have ct : cutD ((KM.flat us).map kD) none (some (k : Int)) = ((KM.flat us).take k).map kD := cut_to _ _
        by_cases hb : (KM.flat us)[k]? = some 0
        · refine ⟨[none, some (.adr m.a), some (.int (i : Int)), some (bookD Bk), some (wayD M), some (.str (S (KM.txt us))), some (.int (k : Int)), some (toldD (KM.pgs Bk (KM.Pg.start R) us)), some (.tup (zs.map standD)), some (.str (S R)), some (keysD (KM.flat us)), none], rn_if (b := false) (et_test (ev_as (ev_noBack (a := k) (ev_var rfl) (eo_some (ev_var rfl)) (eo_some (ev_add (ev_var rfl) ev_int)) (ev_tup (ea_cons ev_str ea_nil)) (by decide +kernel) rfl rfl hW.1.lt) (by rw [decide_eq_true hb]; rfl))) (fun z => by cases z) (fun _ => rn_next), ?_⟩
          exact ⟨.inr rfl, .inr rfl, .inr rfl, .inr rfl, .inr rfl, .inr rfl, .inl rfl, .inr rfl, .inr rfl, .inr rfl, .inr rfl, .inl rfl, trivial⟩
        · obtain ⟨j, hj, ek, tk⟩ := KM.cut_units us k (by omega) hb
          have hRow : Row M (us.take j) := hW.1.take j
          have kl : ((KM.flat us).take k).length ≤ 400 := Nat.le_trans (List.length_take_le' ..) fl
          have kk : ∀ n ∈ (KM.flat us).take k, keyOk n := fun n hn => hW.1.keys n (List.mem_of_mem_take hn)
          have pf2 : pressN Bk (KM.Pg.start R) ((KM.flat us).take k) = KM.pgs Bk (KM.Pg.start R) (us.take j) := by rw [tk]; exact press_flat Bk (us.take j) _ hRow.nz
          obtain ⟨ed, I, rch⟩ := KM.prefix_ok hB' hM hRow.1
          have ok2 := press_ok (B := Bk) (R := R) (ks := (KM.flat us).take k) hR kl
          rw [pf2] at ok2
          have far : rtx (KM.pgs Bk (KM.Pg.start R) (us.take j)) = ed.map (·.1) ++ R := by
            unfold rtx
            rw [I.right, List.map_append, List.map_map]
            show _ ++ R.map (fun c => c) = _
            rw [List.map_id']
          have lf : (ed.map (·.1) ++ R).length ≤ 1000 := by
            rw [← far]
            unfold rtx
            rw [List.length_map]
            exact Nat.le_trans ok2.2.1 (by decide)
          have ln : (KM.rds M.words KM.Rd.start (us.take j)).needs.length ≤ 1000 := hW.1.needs j
          have cutv : ∀ {x o}, Ev K (FY (Ft m) (450 * i + 446)) (tSl (rSlA K) (tVar 10) tNoPart (tPart (tVar 6))) [none, some (.adr m.a), some (.int (i : Int)), some (bookD Bk), some (wayD M), some (.str (S (KM.txt us))), some (.int (k : Int)), x, some (.tup (zs.map standD)), some (.str (S R)), some (keysD (KM.flat us)), o] (keysD ((KM.flat us).take k)) := fun {x o} => ev_as (ev_slA (ev_var rfl) eo_none (eo_some (ev_var rfl))) (congrArg D.tup ct)
          refine ⟨[none, some (.adr m.a), some (.int (i : Int)), some (bookD Bk), some (wayD M), some (.str (S (KM.txt us))), some (.int (k : Int)), some (toldD (KM.pgs Bk (KM.Pg.start R) us)), some (.tup (zs.map standD)), some (.str (S R)), some (keysD (KM.flat us)), some (.str (S (ed.map (·.1) ++ R)))], rn_if (b := true) (et_test (ev_as (ev_noBack (a := k) (ev_var rfl) (eo_some (ev_var rfl)) (eo_some (ev_add (ev_var rfl) ev_int)) (ev_tup (ea_cons ev_str ea_nil)) (by decide +kernel) rfl rfl hW.1.lt) (by rw [decide_eq_false hb]; rfl))) (fun _ => ?_) (fun z => by cases z), ?_⟩
          · refine rn_seq (Γ1 := [none, some (.adr m.a), some (.int (i : Int)), some (bookD Bk), some (wayD M), some (.str (S (KM.txt us))), some (.int (k : Int)), some (toldD (KM.pgs Bk (KM.Pg.start R) us)), some (.tup (zs.map standD)), some (.str (S R)), some (keysD (KM.flat us)), some (.str (S (ed.map (·.1) ++ R)))])
              (rn_set (ev_as (ev_ixT (e := toldD (KM.pgs Bk (KM.Pg.start R) (us.take j))) (ev_callR rfl (ea_cons (ev_var rfl) (ea_cons (ev_tup (ea_cons (ev_lit (l := []) (by decide +kernel)) (ea_cons (ev_var rfl) (ea_cons (ev_tup ea_nil) ea_nil)))) (ea_cons cutv ea_nil))) ⟨Bk, R, (KM.flat us).take k, rfl, by rw [pf2], hR, kl, kk⟩) ev_int rfl) (by rw [far]))) ?_
            refine rn_ifs (b := false) (et_test (ev_notInT (ev_callR rfl (ea_cons (ev_var rfl) (ea_cons (ev_var rfl) (ea_cons (ev_var rfl) (ea_cons cutv ea_nil)))) ⟨Bk, M, R, us.take j, by rw [tk], rfl, hRow, hR, hM⟩) (ev_var rfl) (al _ rch))) (fun z => by cases z) (fun _ => rn_nx ?_)
            refine rn_if (b := false) (et_as (et_not (et_B (ev_callR rfl (ea_cons (ev_var rfl) (ea_cons (ev_var rfl) (ea_cons (ev_callR rfl (ea_cons (ev_var rfl) (ea_cons cutv ea_nil)) ⟨M, us.take j, by rw [tk], rfl, hRow⟩) ea_nil))) ⟨ed.map (·.1), R, _, rfl, rfl, I.sub, lf, ln⟩))) rfl) (fun z => by cases z) (fun _ => rn_next)
          · exact ⟨.inr rfl, .inr rfl, .inr rfl, .inr rfl, .inr rfl, .inr rfl, .inl rfl, .inr rfl, .inr rfl, .inr rfl, .inr rfl, .inl rfl, trivial⟩
      · show Ss _ (FY (Ft m) 3600).p _ [none, some (.adr m.a), none, none, none, none, none, none, none, none, none, none] _ _
        clear hr
        refine ss_rt (Y := FY (Ft m) 3600) (d := .bl true) ?_ (fun H' p => rfl)
        refine rn_seq (Γ1 := [none, some (.adr m.a), none, some (bookD lastBook), none, none, none, none, none, none, none, none]) (rn_set (ev_tup (ea_cons ev_str (ea_cons ev_str (ea_cons ev_str (ea_cons ev_str (ea_cons ev_str (ea_cons ev_str ea_nil)))))))) ?_
        refine rn_ret (ev_as (ev_eqL (a := rtx (KM.pgs lastBook (KM.Pg.start [41, 39]) lastKeys)) (b := [41, 39]) (ev_callR rfl (ea_cons (ev_var rfl) (ea_cons (ev_tup (ea_cons ev_bl (ea_cons ev_bl (ea_cons ev_bl ea_nil)))) (ea_cons (ev_lit (l := [41, 39]) (by decide +kernel)) (ea_cons (ev_tup (ds := (KM.flat lastKeys).map kD) (ea_cons (ev_lit (l := [40]) (by decide +kernel)) (ea_cons (ev_lit (l := [39]) (by decide +kernel)) (ea_cons (ev_lit (l := [41]) (by decide +kernel)) (ea_cons (ev_lit (l := [98, 97, 99, 107]) (by decide +kernel)) (ea_cons (ev_lit (l := [41]) (by decide +kernel)) (ea_cons (ev_lit (l := [39]) (by decide +kernel)) (ea_cons (ev_lit (l := [39]) (by decide +kernel)) (ea_cons (ev_lit (l := [98, 97, 99, 107]) (by decide +kernel)) (ea_cons (ev_lit (l := [41]) (by decide +kernel)) ea_nil))))))))) (by show 9 ≤ sizeLine; decide)) ea_nil)))) ⟨lastBook, lastWay, [41, 39], lastKeys, rfl, rfl, last_ok⟩) (ev_lit (l := [41, 39]) (by decide +kernel))) (by rw [last_eq, decide_eq_true rfl]))⟩
end
end KH

/-! part K22 -/
set_option Elab.async false
set_option linter.all false
set_option maxRecDepth 100000
set_option maxHeartbeats 0
namespace KH
open PySem PySem.Spec PyProof.Rows L2 KD
theorem law_fn {P : Program} {w : World} {K : PySem.W.Frag} {mg : Str → Option Value} {fa : Addr} (T : Tx K mg) (hfa : mg ("law" : Str) = some (.ref fa)) :
    ∃ fd : FuncData, (∀ (s : Shared) (v : Value), BindsTo s fd ⟨[v], []⟩ [("_law_script", v)]) ∧ ∀ base : Heap, FnOk P w K mg base C8.CX0 8 fa fd ["_law_script"] (sp_law K) := by
  obtain ⟨fd, F⟩ := T.d_law
  have e := hfa.symm.trans T.g_law
  cases e
  have b := FunD.bindsA (ps := ["_law_script"]) F fun _ _ _ _ _ _ us hl => match us, hl with | [_], _ => rfl
  exact ⟨fd, fun s v => b s [v] rfl, fun base => fn_law T F⟩
end KH
open PySem PySem.W PySem.Calls PyProof.Rows
theorem PySem.Challenge.cw_ownclosers_k46_whole_true_books_do_not_h_holds : PySem.Challenge.rw_ownclosers_k46_whole_true_books_do_not_h.Holds := by
  w_on; o_law
  refine HandSHeadRun.head_any (r := OpenLaw.row PySem.Challenge.rw_ownclosers_k46_whole_true_books_do_not_h) (q := view (OpenLaw.row PySem.Challenge.rw_ownclosers_k46_whole_true_books_do_not_h).prog [110]) (H := KH.hk) (ob := KH.ob) (M := 20000) (loose := KH.loose) (d := HandSHeadRun.topDef (OpenLaw.row PySem.Challenge.rw_ownclosers_k46_whole_true_books_do_not_h).prog 110) (kwd := []) KH.ob_eq
    (by kernel_rfl) (fun s => by kernel_rfl) KH.run (by kernel_rfl) (by kernel_rfl) (by kernel_rfl) (by rfl) (by first | assumption | decide +kernel) (by decide +kernel) ⟨rfl, rfl, rfl, rfl, rfl, by decide +kernel⟩ ?hw ?hc
  case hw => w_witness2
  case hc =>
    refine L2.walk_ofE (l := PySem.Challenge.rw_ownclosers_k46_whole_true_books_do_not_h) (n := 63) (k := 8) (x := "_law_script") (CX := C8.CX0) rfl (by decide) (by kernel_rfl) ⟨rfl, by decide, by decide⟩ ?F (fun _ _ _ _ z => z)
    intro w mg fa h Y G hmg0
    obtain ⟨K, KX, c⟩ := Y
    have hmg : mg ("law" : PySem.Str) = some (.ref fa) := by
      have e : (HandSHeadRun.topDef (OpenLaw.row PySem.Challenge.rw_ownclosers_k46_whole_true_books_do_not_h).prog 110).name = ("law" : PySem.Str) := by kernel_rfl
      rw [← e]
      exact hmg0
    obtain ⟨fd, hb, hF⟩ := KH.law_fn (P := (PySem.Challenge.rw_ownclosers_k46_whole_true_books_do_not_h).prog) (w := w) (KH.tx_of KX G c) hmg
    refine ⟨K, fd, KH.sp_law K, KX, hb, fun H a ns hl _ hS => ?_, fun base _ _ => hF base⟩
    exact ⟨[.adr a], _, ⟨a, ns, rfl, hS, hl, rfl⟩, ⟨.ref a, [], rfl, rfl, rfl⟩, fun d v H' _ e hv => by
      subst e
      exact hv⟩
